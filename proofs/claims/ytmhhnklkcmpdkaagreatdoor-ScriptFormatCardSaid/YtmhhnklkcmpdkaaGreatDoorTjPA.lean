/- Contracts. No condition. -/
import Derived.Test.YtmhhnklkcmpdkaaGreatDoorThPA
import Derived.Test.YtmhhnklkcmpdkaaGreatDoorTiPA
open Bool renaming and_eq_true -> aw, false_eq_true -> az, true_and -> df
open Int renaming natCast_zero -> aA, tmod_eq_emod_of_nonneg -> fv
open Go.IntKind renaming i64 -> ai
open List renaming all_cons -> fV, all_eq_true -> aI, append_assoc -> ay, append_nil -> aZ, drop_eq_getElem_cons -> aF, drop_length -> bB, drop_zero -> bj, getD_eq_getElem?_getD -> aa, getElem?_eq_getElem -> ab, getElem_of_mem -> bH, length_append -> ac, length_cons -> ah, length_eq_zero_iff -> bx, length_nil -> au, mem_cons_of_mem -> af, mem_cons_self -> aq, nil_append -> aR
open Nat renaming zero_le -> bC
open UInt8 renaming ofNat -> aQ
set_option maxRecDepth 100000
set_option maxHeartbeats 16000000
set_option linter.unusedSimpArgs false
set_option linter.unusedVariables false
namespace Go.Proofs.YtmhhnklkcmpdkaaGreatDoor
open Go.Sy
open UInt8 renaming reduceLT -> Q0, reduceLE -> Q1
open Int renaming reduceToNat -> Q2, reduceLE -> Q3, reduceLT -> Q4, reduceEq -> Q5, reduceNe -> Q6, reduceNeg -> Q7, reduceAdd -> Q8, reduceSub -> Q9, reduceMul -> Qa
open Nat renaming reducePow -> Qb, reduceDiv -> Qc, reduceMod -> Qd, reduceAdd -> Qe, reduceSub -> Qf, reduceMul -> Qg, reduceLT -> Qh, reduceLeDiff -> Qi, reduceEqDiff -> Qj, reduceBEq -> Qk
section
open Pr (wsv)
theorem xnh:∀n:Nat,n<=1099511627776->call T 137 [.int .i64 n] [] 0=some ⟨.byt (dec n) (.id 60),[],[60]⟩:=by
 intro n;induction n using Nat.strongRecOn with
 |_ n F=>
  intro hn
  by_cases h:n<10
  ·have y:(n:Int)<10:=by omega
   have e:ai.wrap (48+(n:Int))=((48+n:Nat):Int):=wZ (by omega)
   rw[kA h,am Zo];simp only[go_sem,Q0,Q1,Q2,Q3,Q4,Q5,Q6,Q7,Q8,Q9,Qa,Qb,Qc,Qd,Qe,Qf,Qg,Qh,Qi,Qj,Qk,reduceCtorEq,reduceIte,y,e];rfl
  ·have y:¬(n:Int)<10:=by omega
   have z:Int.tdiv (n:Int) 10=((n/10:Nat):Int):=by rw[Int.tdiv_eq_ediv_of_nonneg (by omega)];omega
   have C:Int.tmod (n:Int) 10=((n % 10:Nat):Int):=by rw[fv (by omega)];omega
   have g:=F (n/10) (by omega) (by omega);have e:ai.wrap (48+((n % 10:Nat):Int))=((48+n % 10:Nat):Int):=wZ (by omega)
   have E:ai.wrap ((n/10:Nat):Int)=((n/10:Nat):Int):=by rw[w64 (by omega) (by omega)]
   have I:ai.wrap ((n % 10:Nat):Int)=((n % 10:Nat):Int):=by rw[w64 (by omega) (by omega)]
   have J:=Cp (n/10) (by omega);have H:(dec (n/10)).length+1<=140737488355328:=by omega
   rw[mH h,am Zo];simp only[go_sem,Q0,Q1,Q2,Q3,Q4,Q5,Q6,Q7,Q8,Q9,Qa,Qb,Qc,Qd,Qe,Qf,Qg,Qh,Qi,Qj,Qk,reduceCtorEq,reduceIte,y,z,C,g,ZO,e,E,I,H];rfl
theorem f66{n:Int}(h:jc n):call T 66 [.int .i64 n] [] 0=some ⟨.str (nmW n),[],[]⟩:=by obtain⟨z,y⟩:=h;have g:=xnh n.toNat (by omega);rw[show((n.toNat:Nat):Int)=n from by omega]at g;rw[am xnQ];unfold nmW;simp only[go_sem,Q0,Q1,Q2,Q3,Q4,Q5,Q6,Q7,Q8,Q9,Qa,Qb,Qc,Qd,Qe,Qf,Qg,Qh,Qi,Qj,Qk,reduceCtorEq,reduceIte,g,ZO]
theorem xed:∀b:Fin 256,(aQ ((aQ b.val).toNat/2^min 4 8)).toNat<16/\([48,49,50,51,52,53,54,55,56,57,97,98,99,100,101,102]:d9).getD (aQ ((aQ b.val).toNat/2^min 4 8)).toNat 0=hd4 (aQ b.val>>>4)/\
 (aQ b.val&&&15).toNat<16/\([48,49,50,51,52,53,54,55,56,57,97,98,99,100,101,102]:d9).getD (aQ b.val&&&15).toNat 0=hd4 (aQ b.val&&&15):=by decide
theorem xee(c:UInt8):(aQ (c.toNat/2^min 4 8)).toNat<16/\([48,49,50,51,52,53,54,55,56,57,97,98,99,100,101,102]:d9).getD (aQ (c.toNat/2^min 4 8)).toNat 0=hd4 (c>>>4)/\
 (c&&&15).toNat<16/\([48,49,50,51,52,53,54,55,56,57,97,98,99,100,101,102]:d9).getD (c&&&15).toNat 0=hd4 (c&&&15):=by
 have h:=xed ⟨c.toNat,c.toNat_lt⟩;simpa only[UInt8.ofNat_toNat]using h
theorem l88(B:d9)(Q:B.length<=100000):∀(n i:Nat)(acc:d9),B.length-i=n->i<=B.length->acc.length+2*n<=1000000->
 run T (.loop Ow) ⟨[(0,.byt B .no),(3,.byt acc (.id 103)),(4,.int .i64 i)],[],[103]⟩=some (.x 0,⟨[(3,.byt (acc++gZ (B.drop i)) (.id 103))],[],[103]⟩):=by
 intro n;induction n with
 |zero=>
  intro i acc C L J;have:i=B.length:=by omega
  subst this;rw[aj,bB];simp only[go_sem,Q0,Q1,Q2,Q3,Q4,Q5,Q6,Q7,Q8,Q9,Qa,Qb,Qc,Qd,Qe,Qf,Qg,Qh,Qi,Qj,Qk,reduceCtorEq,reduceIte,gZ,aZ]
 |succ n F=>
  intro i acc C L J;have hi:i<B.length:=by omega
  have E:=cX i (by omega);have hd:B.drop i=B.getD i 0::B.drop (i+1):=by rw[aF hi,aa,ab hi];rfl
  have h:=F (i+1) (acc++ [hd4 (B.getD i 0>>>4),hd4 (B.getD i 0&&&15)]) (by omega) (by omega) (by simp only[ac,ah,au];omega);have H:acc.length+2<=140737488355328:=by omega
  rw[hd,gZ,aj];obtain⟨Z,I,W,O⟩:=xee (B.getD i 0);have y:((aQ ((B.getD i 0).toNat/2^min 4 8)).toNat:Int)<16:=by omega
  have z:((B.getD i 0&&&15).toNat:Int)<16:=by omega
  have hz:acc++hd4 (B.getD i 0>>>4)::hd4 (B.getD i 0&&&15)::gZ (B.drop (i+1))=acc++ [hd4 (B.getD i 0>>>4),hd4 (B.getD i 0&&&15)]++gZ (B.drop (i+1)):=by simp
  rw[hz,<-h];simp only[go_sem,Q0,Q1,Q2,Q3,Q4,Q5,Q6,Q7,Q8,Q9,Qa,Qb,Qc,Qd,Qe,Qf,Qg,Qh,Qi,Qj,Qk,reduceCtorEq,reduceIte,hi,E,H,y,I,z,O]
theorem f88(B:d9)(y:B.length<=100000):call T 88 [.byt B .no] [] 0=some ⟨.str (iY B),[],[]⟩:=by
 have g:=l88 B y _ 0 [] rfl (bC _) (by simp only[au];omega);rw[bj,aA,aR]at g;unfold iY;rw[am xnD]
 by_cases h:B=[]
 ·rw[if_pos h]
  subst h;simp only[go_sem,Q0,Q1,Q2,Q3,Q4,Q5,Q6,Q7,Q8,Q9,Qa,Qb,Qc,Qd,Qe,Qf,Qg,Qh,Qi,Qj,Qk,reduceCtorEq,reduceIte,au]
 ·rw[if_neg h]
  have z:¬(B.length:Int)=0:=by intro e;apply h;apply bx.1;omega
  simp only[go_sem,Q0,Q1,Q2,Q3,Q4,Q5,Q6,Q7,Q8,Q9,Qa,Qb,Qc,Qd,Qe,Qf,Qg,Qh,Qi,Qj,Qk,reduceCtorEq,reduceIte,z,g]
end
section
open Pr (wsv)
def fl5(m n t d c:Bool):SV:= .tup [.bool m,.bool n,.bool t,.bool d,.bool c]
theorem f86(k:Int):call T 86 [.int .i64 k] [] 0=some ⟨if k=2 then fl5 true true true false false else if 4<=k/\k<=7 then fl5 false true false false false else if k=8 then fl5 false false false true false
 else if k=9 then fl5 true false false false true else fl5 true false false false false,[],[]⟩:=by
 rw[am xnF];unfold fl5
 by_cases y:k=2
 ·subst y;simp only[go_sem,Q0,Q1,Q2,Q3,Q4,Q5,Q6,Q7,Q8,Q9,Qa,Qb,Qc,Qd,Qe,Qf,Qg,Qh,Qi,Qj,Qk,reduceCtorEq,reduceIte]
 by_cases E:k=4
 ·subst E;simp only[go_sem,Q0,Q1,Q2,Q3,Q4,Q5,Q6,Q7,Q8,Q9,Qa,Qb,Qc,Qd,Qe,Qf,Qg,Qh,Qi,Qj,Qk,reduceCtorEq,reduceIte]
 by_cases I:k=5
 ·subst I;simp only[go_sem,Q0,Q1,Q2,Q3,Q4,Q5,Q6,Q7,Q8,Q9,Qa,Qb,Qc,Qd,Qe,Qf,Qg,Qh,Qi,Qj,Qk,reduceCtorEq,reduceIte]
 by_cases H:k=6
 ·subst H;simp only[go_sem,Q0,Q1,Q2,Q3,Q4,Q5,Q6,Q7,Q8,Q9,Qa,Qb,Qc,Qd,Qe,Qf,Qg,Qh,Qi,Qj,Qk,reduceCtorEq,reduceIte]
 by_cases F:k=7
 ·subst F;simp only[go_sem,Q0,Q1,Q2,Q3,Q4,Q5,Q6,Q7,Q8,Q9,Qa,Qb,Qc,Qd,Qe,Qf,Qg,Qh,Qi,Qj,Qk,reduceCtorEq,reduceIte]
 have C:¬(4<=k/\k<=7):=by omega
 rw[if_neg y,if_neg C]
 by_cases z:k=8
 ·subst z;simp only[go_sem,Q0,Q1,Q2,Q3,Q4,Q5,Q6,Q7,Q8,Q9,Qa,Qb,Qc,Qd,Qe,Qf,Qg,Qh,Qi,Qj,Qk,reduceCtorEq,reduceIte]
 rw[if_neg z]
 by_cases h:k=9
 ·subst h;simp only[go_sem,Q0,Q1,Q2,Q3,Q4,Q5,Q6,Q7,Q8,Q9,Qa,Qb,Qc,Qd,Qe,Qf,Qg,Qh,Qi,Qj,Qk,reduceCtorEq,reduceIte]
 rw[if_neg h];simp only[go_sem,Q0,Q1,Q2,Q3,Q4,Q5,Q6,Q7,Q8,Q9,Qa,Qb,Qc,Qd,Qe,Qf,Qg,Qh,Qi,Qj,Qk,reduceCtorEq,reduceIte,y,E,I,H,F,z,h]
def mkL:List Mk->d9
 |[]=> []
 |m::r=>((([32]++nmW m.auth)++ [32])++iY m.sig)++mkL r
theorem pQ(w v:d9)(r:List d9):fx (w::v::r)=w++32::fx (v::r):=rfl
theorem jM:∀(M:List Mk)(a:d9),fx (a::mkW M)=a++mkL M
 |[],a=>by simp[mkW,mkL,fx]
 |m::r,a=>by have h:=jM r (iY m.sig);rw[mkW,pQ,pQ,h,mkL];simp[ay]
theorem xdI{M:List Mk}:(∀m∈M,jc m.auth/\m.sig.length<=1024)->(mkL M).length<=M.length*2100:=by
 induction M with
 |nil=>intro _;simp[mkL]
 |cons m r y=>intro h;have F:=fR (h m aq).1;have C:=ek m.sig;have H:=(h m aq).2;have E:=y (fun x z=>h x (af _ z));simp only[mkL,ac,ah,au];omega
theorem l38(s:Stp)(c:Bool)(hM:s.marks.length<=4):∀(q i:Nat)(w:d9),s.marks.length-i=q->i<=s.marks.length->w.length+3000*q<=1000000->
 ∃y:Mk,run T (.loop yV) ⟨[(1,.ptr 101 0),(3,.str w),(8,.bool c),(9,.int .i64 i)],[(101,.rc s.sv)],[]⟩=
  if(s.marks.drop i).all mk1=true then some (.x 0,⟨[(1,.ptr 101 0),(3,.str (w++mkL (s.marks.drop i))),(8,.bool c)],[(101,.rc s.sv)],[]⟩)else some (.r,⟨[(2,.str [])],[(101,.rc s.sv),(110,.rc y.sv)],[]⟩):=by
 obtain⟨k,m,n,t,B,M,C⟩:=s;simp only[Stp.sv]at*;intro q;induction q with
 |zero=>
  intro i w h0 h1 h9;have:i=M.length:=by omega
  subst this;have hv:=cS M;refine⟨mk0, ?_⟩;rw[aj,bB];simp only[go_sem,Q0,Q1,Q2,Q3,Q4,Q5,Q6,Q7,Q8,Q9,Qa,Qb,Qc,Qd,Qe,Qf,Qg,Qh,Qi,Qj,Qk,reduceCtorEq,reduceIte,hv,mkL,aZ]
 |succ q ih=>
  intro i w h0 h1 h9;have hi:i<M.length:=by omega
  have E:(i:Int)<(M.length:Int):=by omega
  have Z:=cX i (by omega);have hv:=cS M;have I:=mV M i hi;have hd:M.drop i=M.getD i mk0::M.drop (i+1):=by rw[aF hi,aa,ab hi];rfl
  have g:=f87 (M.getD i mk0).auth;have J:=fun h=>f66 (n:=(M.getD i mk0).auth) h
  have W:=fun h=>f88 (M.getD i mk0).sig h
  have O:=fun w h=>ih (i+1) w (by omega) (by omega) h
  rw[hd,fV,mkL,aj];generalize hA:(M.drop (i+1)).all mk1=A at*;generalize mkL (M.drop (i+1))=Q at*;generalize hz:M.getD i mk0=z at*;obtain⟨a,sg⟩:=z;simp only[Mk.sv]at*;cases ha:ftB a with
  |false=>
   have H:mk1 ⟨a,sg⟩=false:=by simp[mk1,ha]
   rw[ha]at g;refine⟨⟨a,sg⟩, ?_⟩;simp only[go_sem,Q0,Q1,Q2,Q3,Q4,Q5,Q6,Q7,Q8,Q9,Qa,Qb,Qc,Qd,Qe,Qf,Qg,Qh,Qi,Qj,Qk,reduceCtorEq,reduceIte,hi,E,hv,I,g,jw,H]
  |true=>
   rw[ha]at g
   by_cases L:1024<sg.length
   ·have H:mk1 ⟨a,sg⟩=false:=by simp[mk1,ha];omega
    have F:(1024:Int)<(sg.length:Int):=by omega
    refine⟨⟨a,sg⟩, ?_⟩;simp only[go_sem,Q0,Q1,Q2,Q3,Q4,Q5,Q6,Q7,Q8,Q9,Qa,Qb,Qc,Qd,Qe,Qf,Qg,Qh,Qi,Qj,Qk,reduceCtorEq,reduceIte,hi,E,hv,I,g,jw,H,L,F]
   ·have H:mk1 ⟨a,sg⟩=true:=by simp[mk1,ha];omega
    have F:¬(1024:Int)<(sg.length:Int):=by omega
    have q1:=J ((cw a).1 ha);have q2:=W (by omega);obtain⟨y,q3⟩:=O (w++32::(nmW a++32::iY sg)) (by simp only[ac,ah];have:=ek sg;have:=fR ((cw a).1 ha);omega);have a6:=ek sg;have a1:=fR ((cw a).1 ha);refine⟨y, ?_⟩;have hq:w++((([32]++nmW a)++ [32])++iY sg++Q)=w++32::(nmW a++32::iY sg)++Q:=by simp[ay]
    rw[H,df,hq,<-q3];simp only[go_sem,Q0,Q1,Q2,Q3,Q4,Q5,Q6,Q7,Q8,Q9,Qa,Qb,Qc,Qd,Qe,Qf,Qg,Qh,Qi,Qj,Qk,reduceCtorEq,reduceIte,hi,E,Z,hv,I,g,jw,L,F,q1,mh,q2,CC]
    repeat (rw[kz];rotate_left;(first|omega|(simp only[ac,ah,au];omega));simp only[go_sem,Q0,Q1,Q2,Q3,Q4,Q5,Q6,Q7,Q8,Q9,Qa,Qb,Qc,Qd,Qe,Qf,Qg,Qh,Qi,Qj,Qk,reduceCtorEq,reduceIte,hi,E,Z,hv,I,g,jw,L,F,q1,mh,q2,CC])
theorem eN{α}(l:List α):(l=[]/\¬(0:Int)<(l.length:Int))\/(l≠ []/\(0:Int)<(l.length:Int)):=by
 cases l with
 |nil=>exact .inl ⟨rfl,by simp⟩
 |cons a r=>exact .inr ⟨by simp,by simp only[ah];omega⟩
def eV(s:Stp):d9:=if wrB s=true then ln bK s++ [10]else []
theorem Sm{c:List Img}(h:chE c=0):1<=(bK c).length:=by
 obtain⟨C,l8,z⟩:=mJ h
 have y:∀x∈c,eW x=0:=fun x y=>by obtain⟨i,hi,rfl⟩:=bH y;have:=z i hi;rwa[aa,ab hi]at this
 unfold bK;rw[if_pos h,me c _ y,ac,eO];omega
end
theorem xmW(s:Stp)(hk:s.kind=1\/s.kind=3\/s.kind=10\/s.kind=11\/s.kind=12):call T 38 [.agg s.sv] [] 0=some ⟨.str (eV s),[],[]⟩:=by
 have I:=f85 s.kind;have E:=f86 s.kind;have gm:=f87 s.mach;have gn:=f87 s.n;have gt:=f87 s.torn;have z0:ftB 0=true:=by decide
 have gz:=f87 0;rw[z0]at gz;have k1:1<=s.kind/\s.kind<=12:=by omega
 have O:bZ s.kind≠ []:=fun e=>by
  have:=dC s.kind k1.1 k1.2;rw[e]at this;have b3:aM []=13:=by decide
  omega
 have Q:=cS s.marks;have W:=cg s.chain;have c7:=fun h=>f88 s.body h
 have b6:=f89 s.chain;have b2:=iI s.kind;have b4:=ek s.body;have b1:=ek (bK s.chain);have b5:=im s.chain;have a1:=fun h=>f66 (n:=s.mach) h
 have a7:=fun h=>f66 (n:=s.n) h
 have a8:=fun h=>f66 (n:=s.torn) h
 rw[if_neg (by omega),if_neg (by omega),if_neg (by omega),if_neg (by omega)]at E;unfold fl5 at E;unfold eV;rw[am N2]
 by_cases hn:s.n=0
 rotate_left
 ·rw[if_neg (fun L=>absurd ((bM _).1 L) (fun h=>hn (h.n0 (by omega))))]
  simp only[Stp.sv]at*;simp only[go_sem,Q0,Q1,Q2,Q3,Q4,Q5,Q6,Q7,Q8,Q9,Qa,Qb,Qc,Qd,Qe,Qf,Qg,Qh,Qi,Qj,Qk,reduceCtorEq,reduceIte,I,ff,O,E,fj,hn]
 by_cases y:s.torn=0
 rotate_left
 ·rw[if_neg (fun L=>absurd ((bM _).1 L) (fun h=>y (h.t0 (by omega))))]
  simp only[Stp.sv]at*;simp only[go_sem,Q0,Q1,Q2,Q3,Q4,Q5,Q6,Q7,Q8,Q9,Qa,Qb,Qc,Qd,Qe,Qf,Qg,Qh,Qi,Qj,Qk,reduceCtorEq,reduceIte,I,ff,O,E,fj,hn,y]
 rcases eN s.body with⟨J,C⟩|⟨q1,q2⟩
 rotate_left
 ·rw[if_neg (fun L=>absurd ((bM _).1 L) (fun h=>q1 (h.b0 (by omega)).1))]
  simp only[Stp.sv]at*;simp only[go_sem,Q0,Q1,Q2,Q3,Q4,Q5,Q6,Q7,Q8,Q9,Qa,Qb,Qc,Qd,Qe,Qf,Qg,Qh,Qi,Qj,Qk,reduceCtorEq,reduceIte,I,ff,O,E,fj,hn,y,q2,Q,W]
 rcases eN s.marks with⟨H,z⟩|⟨q1,q2⟩
 rotate_left
 ·rw[if_neg (fun L=>absurd ((bM _).1 L) (fun h=>q1 (h.b0 (by omega)).2))]
  simp only[Stp.sv]at*;simp only[go_sem,Q0,Q1,Q2,Q3,Q4,Q5,Q6,Q7,Q8,Q9,Qa,Qb,Qc,Qd,Qe,Qf,Qg,Qh,Qi,Qj,Qk,reduceCtorEq,reduceIte,I,ff,O,E,fj,hn,y,C,q2,Q,W]
 rcases eN s.chain with⟨a6,F⟩|⟨q1,q2⟩
 rotate_left
 ·rw[if_neg (fun L=>absurd ((bM _).1 L) (fun h=>q1 (h.c0 (by omega))))]
  simp only[Stp.sv]at*;simp only[go_sem,Q0,Q1,Q2,Q3,Q4,Q5,Q6,Q7,Q8,Q9,Qa,Qb,Qc,Qd,Qe,Qf,Qg,Qh,Qi,Qj,Qk,reduceCtorEq,reduceIte,I,ff,O,E,fj,hn,y,C,z,q2,Q,W]
 cases hfm:ftB s.mach with
 |false=>rw[if_neg (fun L=>absurd ((bM _).1 L) (fun h=>by have:=(cw _).2 h.fm;rw[this]at hfm;cases hfm))];rw[hfm]at gm;simp only[Stp.sv]at*;simp only[go_sem,Q0,Q1,Q2,Q3,Q4,Q5,Q6,Q7,Q8,Q9,Qa,Qb,Qc,Qd,Qe,Qf,Qg,Qh,Qi,Qj,Qk,reduceCtorEq,reduceIte,I,ff,O,E,fj,hn,y,C,z,F,Q,W,gm,gn,gt,jw,gz]
 |true=>
  rw[hfm]at gm;have Z:=a1 ((cw _).1 hfm);have b7:=fR ((cw _).1 hfm);have hz:wrB s=true:=(bM _).2 (by exact⟨(k1.1),(k1.2),((cw _).1 hfm),(by rw[hn];exact⟨by decide,by decide⟩),(by rw[y];exact⟨by decide,by decide⟩),(fun _ _=>by first|assumption|omega),(fun _=>by first|assumption|omega),(fun _=>by first|assumption|omega),(fun _=>by first|exact⟨J,H⟩|omega),(fun _=>by first|assumption|omega),(by rw[J];simp),(by rw[H];simp),(by rw[H];intro x hx;cases hx),(fun e=>by omega)⟩);rw[if_pos hz];unfold ln wds;rw[if_neg (by omega),if_neg (by omega),if_neg (by omega),if_neg (by omega)];simp only[Stp.sv]at*;simp only[go_sem,Q0,Q1,Q2,Q3,Q4,Q5,Q6,Q7,Q8,Q9,Qa,Qb,Qc,Qd,Qe,Qf,Qg,Qh,Qi,Qj,Qk,reduceCtorEq,reduceIte,I,ff,O,E,fj,hn,y,C,z,F,Z,mh,Q,W,gm,gn,gt,jw,gz]
  repeat (rw[kz];rotate_left;(first|omega|(simp only[ac,ah,au];omega));simp only[go_sem,Q0,Q1,Q2,Q3,Q4,Q5,Q6,Q7,Q8,Q9,Qa,Qb,Qc,Qd,Qe,Qf,Qg,Qh,Qi,Qj,Qk,reduceCtorEq,reduceIte,I,ff,O,E,fj,hn,y,C,z,F,Z,mh,Q,W,gm,gn,gt,jw,gz])
  simp[fx,jM,ay]
theorem xmV(s:Stp)(hk:s.kind=2):call T 38 [.agg s.sv] [] 0=some ⟨.str (eV s),[],[]⟩:=by
 have H:=f85 s.kind;have E:=f86 s.kind;have gm:=f87 s.mach;have Z:=f87 s.n;have gt:=f87 s.torn;have z0:ftB 0=true:=by decide
 have gz:=f87 0;rw[z0]at gz;have k1:1<=s.kind/\s.kind<=12:=by omega
 have W:bZ s.kind≠ []:=fun e=>by
  have:=dC s.kind k1.1 k1.2;rw[e]at this;have b5:aM []=13:=by decide
  omega
 have O:=cS s.marks;have Q:=cg s.chain;have e0:=fun h=>f88 s.body h
 have d5:=f89 s.chain;have b4:=iI s.kind;have b6:=ek s.body;have b3:=ek (bK s.chain);have c7:=im s.chain;have a7:=fun h=>f66 (n:=s.mach) h
 have a6:=fun h=>f66 (n:=s.n) h
 have b1:=fun h=>f66 (n:=s.torn) h
 rw[if_pos hk]at E;unfold fl5 at E;unfold eV;rw[am N2];rcases eN s.body with⟨I,z⟩|⟨q1,q2⟩
 rotate_left
 ·rw[if_neg (fun J=>absurd ((bM _).1 J) (fun h=>q1 (h.b0 (by omega)).1))]
  simp only[Stp.sv]at*;simp only[go_sem,Q0,Q1,Q2,Q3,Q4,Q5,Q6,Q7,Q8,Q9,Qa,Qb,Qc,Qd,Qe,Qf,Qg,Qh,Qi,Qj,Qk,reduceCtorEq,reduceIte,H,ff,W,E,fj,q2,O,Q]
 rcases eN s.marks with⟨F,y⟩|⟨q1,q2⟩
 rotate_left
 ·rw[if_neg (fun J=>absurd ((bM _).1 J) (fun h=>q1 (h.b0 (by omega)).2))]
  simp only[Stp.sv]at*;simp only[go_sem,Q0,Q1,Q2,Q3,Q4,Q5,Q6,Q7,Q8,Q9,Qa,Qb,Qc,Qd,Qe,Qf,Qg,Qh,Qi,Qj,Qk,reduceCtorEq,reduceIte,H,ff,W,E,fj,z,q2,O,Q]
 rcases eN s.chain with⟨b2,C⟩|⟨q1,q2⟩
 rotate_left
 ·rw[if_neg (fun J=>absurd ((bM _).1 J) (fun h=>q1 (h.c0 (by omega))))]
  simp only[Stp.sv]at*;simp only[go_sem,Q0,Q1,Q2,Q3,Q4,Q5,Q6,Q7,Q8,Q9,Qa,Qb,Qc,Qd,Qe,Qf,Qg,Qh,Qi,Qj,Qk,reduceCtorEq,reduceIte,H,ff,W,E,fj,z,y,q2,O,Q]
 cases hfm:ftB s.mach with
 |false=>rw[if_neg (fun J=>absurd ((bM _).1 J) (fun h=>by have:=(cw _).2 h.fm;rw[this]at hfm;cases hfm))];rw[hfm]at gm;simp only[Stp.sv]at*;simp only[go_sem,Q0,Q1,Q2,Q3,Q4,Q5,Q6,Q7,Q8,Q9,Qa,Qb,Qc,Qd,Qe,Qf,Qg,Qh,Qi,Qj,Qk,reduceCtorEq,reduceIte,H,ff,W,E,fj,z,y,C,O,Q,gm,Z,gt,jw,gz]
 |true=>
  rw[hfm]at gm;have L:=a7 ((cw _).1 hfm);have d7:=fR ((cw _).1 hfm);cases hfn:ftB s.n with
  |false=>rw[if_neg (fun J=>absurd ((bM _).1 J) (fun h=>by have:=(cw _).2 h.fn;rw[this]at hfn;cases hfn))];rw[hfn]at Z;simp only[Stp.sv]at*;simp only[go_sem,Q0,Q1,Q2,Q3,Q4,Q5,Q6,Q7,Q8,Q9,Qa,Qb,Qc,Qd,Qe,Qf,Qg,Qh,Qi,Qj,Qk,reduceCtorEq,reduceIte,H,ff,W,E,fj,z,y,C,L,mh,O,Q,gm,Z,gt,jw,gz]
  |true=>
   rw[hfn]at Z;have a1:=a6 ((cw _).1 hfn);have d6:=fR ((cw _).1 hfn);cases hft:ftB s.torn with
   |false=>rw[if_neg (fun J=>absurd ((bM _).1 J) (fun h=>by have:=(cw _).2 h.ft;rw[this]at hft;cases hft))];rw[hft]at gt;simp only[Stp.sv]at*;simp only[go_sem,Q0,Q1,Q2,Q3,Q4,Q5,Q6,Q7,Q8,Q9,Qa,Qb,Qc,Qd,Qe,Qf,Qg,Qh,Qi,Qj,Qk,reduceCtorEq,reduceIte,H,ff,W,E,fj,z,y,C,L,mh,a1,mh,O,Q,gm,Z,gt,jw,gz]
   |true=>
    rw[hft]at gt;have a8:=b1 ((cw _).1 hft);have b7:=fR ((cw _).1 hft);have hz:wrB s=true:=(bM _).2 (by exact⟨(k1.1),(k1.2),((cw _).1 hfm),((cw _).1 hfn),((cw _).1 hft),(fun _ _=>by first|assumption|omega),(fun _=>by first|assumption|omega),(fun _=>by first|assumption|omega),(fun _=>by first|exact⟨I,F⟩|omega),(fun _=>by first|assumption|omega),(by rw[I];simp),(by rw[F];simp),(by rw[F];intro x hx;cases hx),(fun e=>by omega)⟩);rw[if_pos hz];unfold ln wds;rw[if_pos hk];simp only[Stp.sv]at*;simp only[go_sem,Q0,Q1,Q2,Q3,Q4,Q5,Q6,Q7,Q8,Q9,Qa,Qb,Qc,Qd,Qe,Qf,Qg,Qh,Qi,Qj,Qk,reduceCtorEq,reduceIte,H,ff,W,E,fj,z,y,C,L,mh,a1,mh,a8,mh,O,Q,gm,Z,gt,jw,gz]
    repeat (rw[kz];rotate_left;(first|omega|(simp only[ac,ah,au];omega));simp only[go_sem,Q0,Q1,Q2,Q3,Q4,Q5,Q6,Q7,Q8,Q9,Qa,Qb,Qc,Qd,Qe,Qf,Qg,Qh,Qi,Qj,Qk,reduceCtorEq,reduceIte,H,ff,W,E,fj,z,y,C,L,mh,a1,mh,a8,mh,O,Q,gm,Z,gt,jw,gz])
    simp[fx,jM,ay]
theorem xmU(s:Stp)(hk:4<=s.kind/\s.kind<=7):call T 38 [.agg s.sv] [] 0=some ⟨.str (eV s),[],[]⟩:=by
 have J:=f85 s.kind;have F:=f86 s.kind;have gm:=f87 s.mach;have gn:=f87 s.n;have gt:=f87 s.torn;have z0:ftB 0=true:=by decide
 have gz:=f87 0;rw[z0]at gz;have k1:1<=s.kind/\s.kind<=12:=by omega
 have Q:bZ s.kind≠ []:=fun e=>by
  have:=dC s.kind k1.1 k1.2;rw[e]at this;have b4:aM []=13:=by decide
  omega
 have W:=cS s.marks;have Z:=cg s.chain;have d5:=fun h=>f88 s.body h
 have b7:=f89 s.chain;have b3:=iI s.kind;have b5:=ek s.body;have b2:=ek (bK s.chain);have b6:=im s.chain;have a8:=fun h=>f66 (n:=s.mach) h
 have a6:=fun h=>f66 (n:=s.n) h
 have b1:=fun h=>f66 (n:=s.torn) h
 rw[if_neg (by omega),if_pos hk]at F;unfold fl5 at F;unfold eV;rw[am N2]
 by_cases y:s.mach=0
 rotate_left
 ·rw[if_neg (fun O=>absurd ((bM _).1 O) (fun h=>y (h.m0 (by omega) (by omega))))]
  simp only[Stp.sv]at*;simp only[go_sem,Q0,Q1,Q2,Q3,Q4,Q5,Q6,Q7,Q8,Q9,Qa,Qb,Qc,Qd,Qe,Qf,Qg,Qh,Qi,Qj,Qk,reduceCtorEq,reduceIte,J,ff,Q,F,fj,y]
 by_cases z:s.torn=0
 rotate_left
 ·rw[if_neg (fun O=>absurd ((bM _).1 O) (fun h=>z (h.t0 (by omega))))]
  simp only[Stp.sv]at*;simp only[go_sem,Q0,Q1,Q2,Q3,Q4,Q5,Q6,Q7,Q8,Q9,Qa,Qb,Qc,Qd,Qe,Qf,Qg,Qh,Qi,Qj,Qk,reduceCtorEq,reduceIte,J,ff,Q,F,fj,y,z]
 rcases eN s.body with⟨L,E⟩|⟨q1,q2⟩
 rotate_left
 ·rw[if_neg (fun O=>absurd ((bM _).1 O) (fun h=>q1 (h.b0 (by omega)).1))]
  simp only[Stp.sv]at*;simp only[go_sem,Q0,Q1,Q2,Q3,Q4,Q5,Q6,Q7,Q8,Q9,Qa,Qb,Qc,Qd,Qe,Qf,Qg,Qh,Qi,Qj,Qk,reduceCtorEq,reduceIte,J,ff,Q,F,fj,y,z,q2,W,Z]
 rcases eN s.marks with⟨H,C⟩|⟨q1,q2⟩
 rotate_left
 ·rw[if_neg (fun O=>absurd ((bM _).1 O) (fun h=>q1 (h.b0 (by omega)).2))]
  simp only[Stp.sv]at*;simp only[go_sem,Q0,Q1,Q2,Q3,Q4,Q5,Q6,Q7,Q8,Q9,Qa,Qb,Qc,Qd,Qe,Qf,Qg,Qh,Qi,Qj,Qk,reduceCtorEq,reduceIte,J,ff,Q,F,fj,y,z,E,q2,W,Z]
 rcases eN s.chain with⟨a7,I⟩|⟨q1,q2⟩
 rotate_left
 ·rw[if_neg (fun O=>absurd ((bM _).1 O) (fun h=>q1 (h.c0 (by omega))))]
  simp only[Stp.sv]at*;simp only[go_sem,Q0,Q1,Q2,Q3,Q4,Q5,Q6,Q7,Q8,Q9,Qa,Qb,Qc,Qd,Qe,Qf,Qg,Qh,Qi,Qj,Qk,reduceCtorEq,reduceIte,J,ff,Q,F,fj,y,z,E,C,q2,W,Z]
 cases hfn:ftB s.n with
 |false=>rw[if_neg (fun O=>absurd ((bM _).1 O) (fun h=>by have:=(cw _).2 h.fn;rw[this]at hfn;cases hfn))];rw[hfn]at gn;simp only[Stp.sv]at*;simp only[go_sem,Q0,Q1,Q2,Q3,Q4,Q5,Q6,Q7,Q8,Q9,Qa,Qb,Qc,Qd,Qe,Qf,Qg,Qh,Qi,Qj,Qk,reduceCtorEq,reduceIte,J,ff,Q,F,fj,y,z,E,C,I,W,Z,gm,gn,gt,jw,gz]
 |true=>
  rw[hfn]at gn;have a1:=a6 ((cw _).1 hfn);have c7:=fR ((cw _).1 hfn);have hz:wrB s=true:=(bM _).2 (by exact⟨(k1.1),(k1.2),(by rw[y];exact⟨by decide,by decide⟩),((cw _).1 hfn),(by rw[z];exact⟨by decide,by decide⟩),(fun _ _=>by first|assumption|omega),(fun _=>by first|assumption|omega),(fun _=>by first|assumption|omega),(fun _=>by first|exact⟨L,H⟩|omega),(fun _=>by first|assumption|omega),(by rw[L];simp),(by rw[H];simp),(by rw[H];intro x hx;cases hx),(fun e=>by omega)⟩);rw[if_pos hz];unfold ln wds;rw[if_neg (by omega),if_pos hk];simp only[Stp.sv]at*;simp only[go_sem,Q0,Q1,Q2,Q3,Q4,Q5,Q6,Q7,Q8,Q9,Qa,Qb,Qc,Qd,Qe,Qf,Qg,Qh,Qi,Qj,Qk,reduceCtorEq,reduceIte,J,ff,Q,F,fj,y,z,E,C,I,a1,mh,W,Z,gm,gn,gt,jw,gz]
  repeat (rw[kz];rotate_left;(first|omega|(simp only[ac,ah,au];omega));simp only[go_sem,Q0,Q1,Q2,Q3,Q4,Q5,Q6,Q7,Q8,Q9,Qa,Qb,Qc,Qd,Qe,Qf,Qg,Qh,Qi,Qj,Qk,reduceCtorEq,reduceIte,J,ff,Q,F,fj,y,z,E,C,I,a1,mh,W,Z,gm,gn,gt,jw,gz])
  simp[fx,jM,ay]
theorem xmT(s:Stp)(hk:s.kind=8):call T 38 [.agg s.sv] [] 0=some ⟨.str (eV s),[],[]⟩:=by
 have H:=f85 s.kind;have F:=f86 s.kind;have gm:=f87 s.mach;have gn:=f87 s.n;have gt:=f87 s.torn;have z0:ftB 0=true:=by decide
 have gz:=f87 0;rw[z0]at gz;have k1:1<=s.kind/\s.kind<=12:=by omega
 have Q:bZ s.kind≠ []:=fun e=>by
  have:=dC s.kind k1.1 k1.2;rw[e]at this;have b6:aM []=13:=by decide
  omega
 have Z:=cS s.marks;have hC:=cg s.chain;have a7:=fun h=>f88 s.body h
 have d6:=f89 s.chain;have b5:=iI s.kind;have b7:=ek s.body;have b4:=ek (bK s.chain);have d5:=im s.chain;have b1:=fun h=>f66 (n:=s.mach) h
 have a8:=fun h=>f66 (n:=s.n) h
 have b2:=fun h=>f66 (n:=s.torn) h
 rw[if_neg (by omega),if_neg (by omega),if_pos hk]at F;unfold fl5 at F;unfold eV;rw[am N2];have O:=fun h w h9=>l38 s false h _ 0 w rfl (bC _) h9
 simp only[bj,aA]at O
 by_cases z:s.mach=0
 rotate_left
 ·rw[if_neg (fun L=>absurd ((bM _).1 L) (fun h=>z (h.m0 (by omega) (by omega))))]
  simp only[Stp.sv]at*;simp only[go_sem,Q0,Q1,Q2,Q3,Q4,Q5,Q6,Q7,Q8,Q9,Qa,Qb,Qc,Qd,Qe,Qf,Qg,Qh,Qi,Qj,Qk,reduceCtorEq,reduceIte,H,ff,Q,F,fj,z]
 by_cases hn:s.n=0
 rotate_left
 ·rw[if_neg (fun L=>absurd ((bM _).1 L) (fun h=>hn (h.n0 (by omega))))]
  simp only[Stp.sv]at*;simp only[go_sem,Q0,Q1,Q2,Q3,Q4,Q5,Q6,Q7,Q8,Q9,Qa,Qb,Qc,Qd,Qe,Qf,Qg,Qh,Qi,Qj,Qk,reduceCtorEq,reduceIte,H,ff,Q,F,fj,z,hn]
 by_cases C:s.torn=0
 rotate_left
 ·rw[if_neg (fun L=>absurd ((bM _).1 L) (fun h=>C (h.t0 (by omega))))]
  simp only[Stp.sv]at*;simp only[go_sem,Q0,Q1,Q2,Q3,Q4,Q5,Q6,Q7,Q8,Q9,Qa,Qb,Qc,Qd,Qe,Qf,Qg,Qh,Qi,Qj,Qk,reduceCtorEq,reduceIte,H,ff,Q,F,fj,z,hn,C]
 rcases eN s.chain with⟨a1,E⟩|⟨q1,q2⟩
 rotate_left
 ·rw[if_neg (fun L=>absurd ((bM _).1 L) (fun h=>q1 (h.c0 (by omega))))]
  simp only[Stp.sv]at*;simp only[go_sem,Q0,Q1,Q2,Q3,Q4,Q5,Q6,Q7,Q8,Q9,Qa,Qb,Qc,Qd,Qe,Qf,Qg,Qh,Qi,Qj,Qk,reduceCtorEq,reduceIte,H,ff,Q,F,fj,z,hn,C,q2,Z,hC]
 by_cases d7:4096<s.body.length
 ·have I:(4096:Int)<(s.body.length:Int):=by omega
  rw[if_neg (fun L=>absurd ((bM _).1 L) (fun h=>by have:=h.b8;omega))];simp only[Stp.sv]at*;simp only[go_sem,Q0,Q1,Q2,Q3,Q4,Q5,Q6,Q7,Q8,Q9,Qa,Qb,Qc,Qd,Qe,Qf,Qg,Qh,Qi,Qj,Qk,reduceCtorEq,reduceIte,H,ff,Q,F,fj,z,hn,C,E,Z,hC,gm,gn,gt,jw,gz,I]
 have I:¬(4096:Int)<(s.body.length:Int):=by omega
 by_cases c7:4<s.marks.length
 ·have J:(4:Int)<(s.marks.length:Int):=by omega
  rw[if_neg (fun L=>absurd ((bM _).1 L) (fun h=>by have:=h.m4;omega))];simp only[Stp.sv]at*;simp only[go_sem,Q0,Q1,Q2,Q3,Q4,Q5,Q6,Q7,Q8,Q9,Qa,Qb,Qc,Qd,Qe,Qf,Qg,Qh,Qi,Qj,Qk,reduceCtorEq,reduceIte,H,ff,Q,F,fj,z,hn,C,E,I,Z,hC,gm,gn,gt,jw,gz,J]
 have J:¬(4:Int)<(s.marks.length:Int):=by omega
 obtain⟨y,O⟩:=O (by omega) (bZ s.kind++32::iY s.body) (by simp only[ac,ah];omega);have W:=a7 (by omega);cases hA:s.marks.all mk1 with
 |false=>
  have hq:=(fun(h:Wrt (fun c=>chE c=0) s)=>h.mks);rw[if_neg (fun L=>absurd ((bM _).1 L) (fun h=>by rw[aI.2 (fun x hx=>by have:=h.mks x hx;unfold mk1;rw[(cw _).2 this.1,decide_eq_true this.2];rfl)]at hA;cases hA))];rw[hA]at O;simp only[az,if_false,Stp.sv,z,hn,C]at O;simp only[Stp.sv]at*;simp only[go_sem,Q0,Q1,Q2,Q3,Q4,Q5,Q6,Q7,Q8,Q9,Qa,Qb,Qc,Qd,Qe,Qf,Qg,Qh,Qi,Qj,Qk,reduceCtorEq,reduceIte,H,ff,Q,F,fj,z,hn,C,E,I,J,W,CC,Z,hC,gm,gn,gt,jw,gz,O]
  repeat (rw[kz];rotate_left;(first|omega|(simp only[ac,ah,au];omega));simp only[go_sem,Q0,Q1,Q2,Q3,Q4,Q5,Q6,Q7,Q8,Q9,Qa,Qb,Qc,Qd,Qe,Qf,Qg,Qh,Qi,Qj,Qk,reduceCtorEq,reduceIte,H,ff,Q,F,fj,z,hn,C,E,I,J,W,CC,Z,hC,gm,gn,gt,jw,gz,O])
 |true=>
  rw[hA]at O;simp only[if_true,Stp.sv,z,hn,C]at O;have a6:∀x∈s.marks,jc x.auth/\x.sig.length<=1024:=fun x hx=>by have:=aI.1 hA x hx;unfold mk1 at this;rw[aw,cw,decide_eq_true_iff]at this;exact this
  have b3:=xdI a6;have hz:wrB s=true:=(bM _).2 (by exact⟨(k1.1),(k1.2),(by rw[z];exact⟨by decide,by decide⟩),(by rw[hn];exact⟨by decide,by decide⟩),(by rw[C];exact⟨by decide,by decide⟩),(fun _ _=>by first|assumption|omega),(fun _=>by first|assumption|omega),(fun _=>by first|assumption|omega),(fun _=>by first|exact⟨nbody,nmarks⟩|omega),(fun _=>by first|assumption|omega),(by omega),(by omega),(fun x hx=>by have:=aI.1 hA x hx;unfold mk1 at this;rw[aw,cw,decide_eq_true_iff]at this;exact this),(fun e=>by omega)⟩);rw[if_pos hz];unfold ln wds;rw[if_neg (by omega),if_neg (by omega),if_pos hk];simp only[Stp.sv]at*;simp only[go_sem,Q0,Q1,Q2,Q3,Q4,Q5,Q6,Q7,Q8,Q9,Qa,Qb,Qc,Qd,Qe,Qf,Qg,Qh,Qi,Qj,Qk,reduceCtorEq,reduceIte,H,ff,Q,F,fj,z,hn,C,E,I,J,W,CC,O,Z,hC,gm,gn,gt,jw,gz]
  repeat (rw[kz];rotate_left;(first|omega|(simp only[ac,ah,au];omega));simp only[go_sem,Q0,Q1,Q2,Q3,Q4,Q5,Q6,Q7,Q8,Q9,Qa,Qb,Qc,Qd,Qe,Qf,Qg,Qh,Qi,Qj,Qk,reduceCtorEq,reduceIte,H,ff,Q,F,fj,z,hn,C,E,I,J,W,CC,O,Z,hC,gm,gn,gt,jw,gz])
  simp[fx,jM,ay]
theorem xmS(s:Stp)(hk:s.kind=9):call T 38 [.agg s.sv] [] 0=some ⟨.str (eV s),[],[]⟩:=by
 have F:=f85 s.kind;have E:=f86 s.kind;have gm:=f87 s.mach;have gn:=f87 s.n;have gt:=f87 s.torn;have z0:ftB 0=true:=by decide
 have gz:=f87 0;rw[z0]at gz;have k1:1<=s.kind/\s.kind<=12:=by omega
 have Q:bZ s.kind≠ []:=fun e=>by
  have:=dC s.kind k1.1 k1.2;rw[e]at this;have b2:aM []=13:=by decide
  omega
 have Z:=cS s.marks;have hC:=cg s.chain;have b6:=fun h=>f88 s.body h
 have L:=f89 s.chain;have b1:=iI s.kind;have b3:=ek s.body;have a8:=ek (bK s.chain);have b4:=im s.chain;have a1:=fun h=>f66 (n:=s.mach) h
 have a6:=fun h=>f66 (n:=s.n) h
 have a7:=fun h=>f66 (n:=s.torn) h
 rw[if_neg (by omega),if_neg (by omega),if_neg (by omega),if_pos hk]at E;unfold fl5 at E;unfold eV;rw[am N2];have W:=f88 (bK s.chain) (by have:=im s.chain;omega)
 by_cases hn:s.n=0
 rotate_left
 ·rw[if_neg (fun J=>absurd ((bM _).1 J) (fun h=>hn (h.n0 (by omega))))]
  simp only[Stp.sv]at*;simp only[go_sem,Q0,Q1,Q2,Q3,Q4,Q5,Q6,Q7,Q8,Q9,Qa,Qb,Qc,Qd,Qe,Qf,Qg,Qh,Qi,Qj,Qk,reduceCtorEq,reduceIte,F,ff,Q,E,fj,hn]
 by_cases y:s.torn=0
 rotate_left
 ·rw[if_neg (fun J=>absurd ((bM _).1 J) (fun h=>y (h.t0 (by omega))))]
  simp only[Stp.sv]at*;simp only[go_sem,Q0,Q1,Q2,Q3,Q4,Q5,Q6,Q7,Q8,Q9,Qa,Qb,Qc,Qd,Qe,Qf,Qg,Qh,Qi,Qj,Qk,reduceCtorEq,reduceIte,F,ff,Q,E,fj,hn,y]
 rcases eN s.body with⟨I,C⟩|⟨q1,q2⟩
 rotate_left
 ·rw[if_neg (fun J=>absurd ((bM _).1 J) (fun h=>q1 (h.b0 (by omega)).1))]
  simp only[Stp.sv]at*;simp only[go_sem,Q0,Q1,Q2,Q3,Q4,Q5,Q6,Q7,Q8,Q9,Qa,Qb,Qc,Qd,Qe,Qf,Qg,Qh,Qi,Qj,Qk,reduceCtorEq,reduceIte,F,ff,Q,E,fj,hn,y,q2,Z,hC]
 rcases eN s.marks with⟨H,z⟩|⟨q1,q2⟩
 rotate_left
 ·rw[if_neg (fun J=>absurd ((bM _).1 J) (fun h=>q1 (h.b0 (by omega)).2))]
  simp only[Stp.sv]at*;simp only[go_sem,Q0,Q1,Q2,Q3,Q4,Q5,Q6,Q7,Q8,Q9,Qa,Qb,Qc,Qd,Qe,Qf,Qg,Qh,Qi,Qj,Qk,reduceCtorEq,reduceIte,F,ff,Q,E,fj,hn,y,C,q2,Z,hC]
 cases hfm:ftB s.mach with
 |false=>rw[if_neg (fun J=>absurd ((bM _).1 J) (fun h=>by have:=(cw _).2 h.fm;rw[this]at hfm;cases hfm))];rw[hfm]at gm;simp only[Stp.sv]at*;simp only[go_sem,Q0,Q1,Q2,Q3,Q4,Q5,Q6,Q7,Q8,Q9,Qa,Qb,Qc,Qd,Qe,Qf,Qg,Qh,Qi,Qj,Qk,reduceCtorEq,reduceIte,F,ff,Q,E,fj,hn,y,C,z,Z,hC,gm,gn,gt,jw,gz]
 |true=>
  rw[hfm]at gm;have O:=a1 ((cw _).1 hfm);have b5:=fR ((cw _).1 hfm)
  by_cases hE:chE s.chain=0
  rotate_left
  ·rw[if_neg (fun J=>absurd ((bM _).1 J) (fun h=>hE (h.ch hk)))]
   have e0:bK s.chain=[]:=if_neg hE;rw[e0]at L;simp only[Stp.sv]at*;simp only[go_sem,Q0,Q1,Q2,Q3,Q4,Q5,Q6,Q7,Q8,Q9,Qa,Qb,Qc,Qd,Qe,Qf,Qg,Qh,Qi,Qj,Qk,reduceCtorEq,reduceIte,F,ff,Q,E,fj,hn,y,C,z,O,mh,Z,hC,gm,gn,gt,jw,gz,L,Zr,au]
   repeat (rw[kz];rotate_left;(first|omega|(simp only[ac,ah,au];omega));simp only[go_sem,Q0,Q1,Q2,Q3,Q4,Q5,Q6,Q7,Q8,Q9,Qa,Qb,Qc,Qd,Qe,Qf,Qg,Qh,Qi,Qj,Qk,reduceCtorEq,reduceIte,F,ff,Q,E,fj,hn,y,C,z,O,mh,Z,hC,gm,gn,gt,jw,gz,L,Zr,au])
  have i0:¬((bK s.chain).length:Int)=0:=by have:=Sm hE;omega
  have hz:wrB s=true:=(bM _).2 (by exact⟨(k1.1),(k1.2),((cw _).1 hfm),(by rw[hn];exact⟨by decide,by decide⟩),(by rw[y];exact⟨by decide,by decide⟩),(fun _ _=>by first|assumption|omega),(fun _=>by first|assumption|omega),(fun _=>by first|assumption|omega),(fun _=>by first|exact⟨I,H⟩|omega),(fun _=>by first|assumption|omega),(by rw[I];simp),(by rw[H];simp),(by rw[H];intro x hx;cases hx),(fun _=>hE)⟩);rw[if_pos hz];unfold ln wds;rw[if_neg (by omega),if_neg (by omega),if_neg (by omega),if_pos hk];simp only[Stp.sv]at*;simp only[go_sem,Q0,Q1,Q2,Q3,Q4,Q5,Q6,Q7,Q8,Q9,Qa,Qb,Qc,Qd,Qe,Qf,Qg,Qh,Qi,Qj,Qk,reduceCtorEq,reduceIte,F,ff,Q,E,fj,hn,y,C,z,O,mh,L,Zr,i0,W,CC,Z,hC,gm,gn,gt,jw,gz]
  repeat (rw[kz];rotate_left;(first|omega|(simp only[ac,ah,au];omega));simp only[go_sem,Q0,Q1,Q2,Q3,Q4,Q5,Q6,Q7,Q8,Q9,Qa,Qb,Qc,Qd,Qe,Qf,Qg,Qh,Qi,Qj,Qk,reduceCtorEq,reduceIte,F,ff,Q,E,fj,hn,y,C,z,O,mh,L,Zr,i0,W,CC,Z,hC,gm,gn,gt,jw,gz])
  simp[fx,jM,ay]
theorem f38(s:Stp):call T 38 [.agg s.sv] [] 0=some ⟨.str (eV s),[],[]⟩:=by
 by_cases F:s.kind=1\/s.kind=3\/s.kind=10\/s.kind=11\/s.kind=12
 ·exact xmW s F
 by_cases z:s.kind=2
 ·exact xmV s z
 by_cases J:4<=s.kind/\s.kind<=7
 ·exact xmU s J
 by_cases C:s.kind=8
 ·exact xmT s C
 by_cases I:s.kind=9
 ·exact xmS s I
 have E:bZ s.kind=[]:=by unfold bZ;rw[if_neg (by omega),if_neg (by omega),if_neg (by omega),if_neg (by omega),if_neg (by omega),if_neg (by omega),if_neg (by omega),if_neg (by omega),if_neg (by omega),if_neg (by omega),if_neg (by omega),if_neg (by omega)]
 have y:=f85 s.kind;rw[E]at y;unfold eV;rw[if_neg (fun H=>absurd ((bM _).1 H) (fun h=>by have:=h.k1;have:=h.k12;omega)),am N2];simp only[Stp.sv]at*;simp only[go_sem,Q0,Q1,Q2,Q3,Q4,Q5,Q6,Q7,Q8,Q9,Qa,Qb,Qc,Qd,Qe,Qf,Qg,Qh,Qi,Qj,Qk,reduceCtorEq,reduceIte,y,ff]
end Go.Proofs.YtmhhnklkcmpdkaaGreatDoor
