/- What the functions come to. No condition. -/
import Derived.Test.YtkggincjigbelaaGreatDoorTiD
import Derived.Test.YtkggincjigbelaaGreatDoorTlD
open Int renaming natCast_zero -> aB
open List renaming getD_eq_getElem?_getD -> aa, getElem?_map -> aO, getElem?_range -> bW, length_cons -> ai, length_nil -> aw, length_take -> ax, map_cons -> aC, map_nil -> bH, mem_singleton -> aY, nil_append -> aF, replicate -> aD, take -> kG
open Nat renaming le_refl -> aH, zero_le -> bJ
open UInt8 renaming ofInt -> co
set_option maxRecDepth 100000
set_option maxHeartbeats 16000000
set_option linter.unusedSimpArgs false
set_option linter.unusedVariables false
namespace Go.Proofs.YtkggincjigbelaaGreatDoor
open Go.Sy
open UInt8 renaming reduceLT -> Q0, reduceLE -> Q1
open Int renaming reduceToNat -> Q2, reduceLE -> Q3, reduceLT -> Q4, reduceEq -> Q5, reduceNe -> Q6, reduceNeg -> Q7, reduceAdd -> Q8, reduceSub -> Q9, reduceMul -> Qa
open Nat renaming reducePow -> Qb, reduceDiv -> Qc, reduceMod -> Qd, reduceAdd -> Qe, reduceSub -> Qf, reduceMul -> Qg, reduceLT -> Qh, reduceLeDiff -> Qi, reduceEqDiff -> Qj, reduceBEq -> Qk
theorem MT:T.sg 32= {}:=rfl
theorem xlb(B:List UInt8)(hB:B.length<=1000000000)(h:(wT B).1≠21):call T 61 [.byt B .no] [] 0=some ⟨.tup [.agg [.str [],.int .i64 0,.int .i64 0,.int .i64 0,.int .i64 0,.lst 4 [] .no,.lst 4 [] .no],.int .i64 30],[],[]⟩:=by have o0:dT B ⟨0,0⟩:=⟨bJ _⟩;have g0:=f41 B hB;have g1:=f42 B hB 1 (by decide) (by decide) ⟨0,0⟩ o0;change call T 42 _ _ _=some ⟨.int .i64 (wT B).1,[(0,rdO B 60 (wT B).2)],[60]⟩at g1;rw[c1]at g1;generalize wT B=t at*;obtain⟨t1,t2⟩:=t;simp only[rdO,aB]at g0 g1 h;rw[aj xjx];simp only[go_sem,Q0,Q1,Q2,Q3,Q4,Q5,Q6,Q7,Q8,Q9,Qa,Qb,Qc,Qd,Qe,Qf,Qg,Qh,Qi,Qj,Qk,reduceCtorEq,reduceIte,g0,g1,wy,mK,h]
theorem xi6{t:Tr}{B:List UInt8}{ms:List Mk}(hok:DF t B ms)(hE:trE t=0)(hm:ms.length<=4)(hd:(wT B).1≠21){w:Wd}(hw:pf B=some w):
 call U 34 [.agg t.sv,.agg (dX B ms)] [] 0=some ⟨.int .i64 (if((sgL t B ms).length:Int)<t.thr then 44 else 0),[],[]⟩:=by
 have hB:B.length<=1000000000:=by have:=hok.b2;omega
 have g1:=up (f23 t);rw[hE]at g1;have g2:=up (xlb B hB hd);have g3:=up (f16 B hB);rw[hw]at g3;have g4:=f32 hok;have hl:=rx (sgL t B ms);have hml:=fe ms;have h4:¬(4:Int)<ms.length:=by omega
 have h4n:¬4<ms.length:=by omega
 obtain⟨au,th⟩:=t;obtain⟨wm,wf⟩:=w;unfold Tr.sv dX at*;simp only[wdO,Wd.sv]at g3;generalize sgL ⟨au,th⟩ B ms=L at*;rw[aj MS]
 by_cases hc:(L.length:Int)<th
 ·simp only[go_sem,Q0,Q1,Q2,Q3,Q4,Q5,Q6,Q7,Q8,Q9,Qa,Qb,Qc,Qd,Qe,Qf,Qg,Qh,Qi,Qj,Qk,reduceCtorEq,reduceIte,US,g1,wz,hml,h4,h4n,g2,DJ,g3,MV,g4,MT,hl,hc]
  trace_state
 ·simp only[go_sem,Q0,Q1,Q2,Q3,Q4,Q5,Q6,Q7,Q8,Q9,Qa,Qb,Qc,Qd,Qe,Qf,Qg,Qh,Qi,Qj,Qk,reduceCtorEq,reduceIte,US,g1,wz,hml,h4,h4n,g2,DJ,g3,MV,g4,MT,hl,hc]
  trace_state
def w9:Wd:=⟨aD 32 0,9⟩
theorem Ro:Dw w9:=by refine⟨?_, ?_, ?_⟩<;>decide
def bo9:List UInt8:=kM w9
theorem lE:bo9.length=39:=uB w9 Ro
theorem Ch(seed:List UInt8):(gx seed 1).length=17:=by have:gx seed 1=ub 1::ie 0 0 (pubL (lsV seed 1) 0) (pubL (lsV seed 1) 1):=rfl;rw[this,ai,ie,dC]
theorem xdI:trL 0 0=⟨[auV 0],1⟩:=by unfold trL;rw[xl4,show 1+gS 0 ((0+1:Nat):Int)=1 by decide]
theorem Oh(a:Au)(h1:1<=a.id)(h2:a.id<=1000)(hk:a.key.length=17):trE ⟨[a],1⟩=0:=by
 have ha:auE [a] 0=0:=by have h0:[a].getD 0 au0=a:=rfl;unfold auE;rw[h0,if_neg (by omega),if_neg (by omega),if_pos (by omega),if_pos rfl]
 have:mI [a] 1 0=0:=by show(if auE [a] 0=0 then 0 else auE [a] 0)=0;rw[if_pos ha]
 unfold trE;rw[show [a].length=1 from rfl,this];show(if(4:Int)<((1:Nat):Int)then(4:Int)else if(0:Int)=0 then(if(1:Int)<1 then 1 else if((1:Nat):Int)<1 then 1 else 0)else 0)=0;decide
theorem xhT:trE ⟨[auV 0],1⟩=0:=Oh (auV 0) (by show(1:Int)<=3;decide) (by show(3:Int)<=1000;decide) (Ch _)
theorem OJ(a:Au)(thr:Int)(B:List UInt8)(m:Mk)(h1:a.id=m.auth)(h2:jq a.key B m.sig=true):sgL ⟨[a],thr⟩ B [m]=[a.id]:=by
 have:sgO ⟨[a],thr⟩ B [m]=[a.id]:=by show Si.stp (MQ ⟨[a],thr⟩) (Pw [m]) (xcV ⟨[a],thr⟩ B [m]) [] 0 0=[a.id];unfold Si.stp;rw[if_pos ⟨h1,by simp,h2⟩];rfl
 unfold sgL;rw[this];simp[Si.srt]
theorem Ee(a:Au)(thr:Int)(B:List UInt8):sgL ⟨[a],thr⟩ B []=[]:=by simp[sgL,sgO,Si.out,Si.srt]
theorem Rx(a:Au)(thr:Int)(B:List UInt8)(ms:List Mk)(h1:1<=a.id)(h2:a.id<=1000)(hm:ms.length<=1000)(hB:B.length<=100000000):DF ⟨[a],thr⟩ B ms:=
 ⟨aH _,by show 1<=1000;decide,hm,hB,fun x hx=>by rw[aY.1 hx];omega⟩
theorem f11:call U 11 [] [] 0=some ⟨.bool true,[],[]⟩:=by
 have hi1:(1:Int)<=(auV 0).id:=by show(1:Int)<=3;decide
 have hi2:(auV 0).id<=1000:=by show(3:Int)<=1000;decide
 have g22:=up (xf0 0 0 (by decide) (by decide) (by decide) (by decide) (by decide));rw[xdI]at g22;have g15:=up (f15 w9);have hw9:w9.sv=[.byt (aD 32 0) .no,.int .i64 9]:=rfl;have g39:=up (f39 3);have g28:=up (f28 bo9 [] 3 (dr 3) 1 1 (by decide) (by rw[dN];decide) (by rw[lE];decide) (.inr (.inr (.inr rfl))));have hd:=Fq w9 Ro;have g16:=up (f16 bo9 (by rw[lE];decide))
 have hwT:(wT bo9).1≠21:=by
  have h:wdP bo9:=by
   unfold bo9;unfold pf at hd
   by_cases hp:wdP (kM w9)
   ·exact hp
   ·rw[if_neg hp]at hd;cases hd
  rw[h.2.1];decide
 have hsg:=OJ (auV 0) 1 bo9 ⟨3,sgn (dr 3) 1 1 bo9⟩ rfl (by rw[sr];exact qJ (dr 3) bo9 1 (by decide));have gv1:=xi6 (Rx (auV 0) 1 bo9 [⟨3,sgn (dr 3) 1 1 bo9⟩] hi1 hi2 (by decide) (by rw[lE];decide)) xhT (by decide) hwT hd;have gv2:=xi6 (Rx (auV 0) 1 bo9 [] hi1 hi2 (by decide) (by rw[lE];decide)) xhT (by decide) hwT hd;rw[hsg]at gv1;rw[Ee]at gv2;have hl:=lE;change pf bo9=some w9 at hd;rw[hd]at g16;change call U 15 [.agg w9.sv] [] 0=some ⟨.byt bo9 .no,[],[]⟩at g15;rw[hw9]at g15;simp only[wdO]at g16;rw[hw9]at g16;generalize bo9=B at*;generalize sgn (dr 3) 1 1 B=G at*;generalize dr 3=S at*;have e3:((3:Nat):Int)=3:=rfl;rw[e3]at g39;simp only[Tr.sv,uJ,aC,bH,dX,ib,Mk.sv,Au.sv,aF]at g22 g28 gv1 gv2;have e1:¬((([(auV 0).id]:List Int).length:Int)<1):=by simp
 have e0:((([]:List Int).length:Int)<1):=by simp
 rw[if_neg e1]at gv1;rw[if_pos e0]at gv2;generalize (auV 0).id=aid at*;generalize (auV 0).key=ak at*;have e39:((39:Nat):Int)=39:=rfl;have ht:kG 32 (aD 32 (0:UInt8))=aD 32 0:=by simp
 rw[aj xl7];simp only[go_sem,Q0,Q1,Q2,Q3,Q4,Q5,Q6,Q7,Q8,Q9,Qa,Qb,Qc,Qd,Qe,Qf,Qg,Qh,Qi,Qj,Qk,reduceCtorEq,reduceIte,US,ht,g22,xjP,g15,xm6,g39,me,g28,xm3,g16,MV,hl,e39,gv1,gv2,xjO,ai,aw,n1c]
 trace_state
theorem xhQ(B:List UInt8)(m:Nat)(s:Rs):(wR B m s).1.length<=m:=by
 unfold wR;split
 ·split
  ·show(kG _ _).length<=_;rw[ax];omega
  ·exact bJ _
 ·exact bJ _
theorem Bl(k:Nat):(auL k).length=k+1:=by simp[auL]
theorem QR(i:Nat):(auV i).key.length=17:=by
 show(gx _ 1).length=17;have e:∀s,gx s 1=co 1::ie 0 0 (pubL (lsV s 1) 0) (pubL (lsV s 1) 1):=fun _=>rfl
 rw[e,ai];have:(ie 0 0 (pubL (lsV (dr (3+2*i)) 1) 0) (pubL (lsV (dr (3+2*i)) 1) 1)).length=16:=dC _ _;omega
theorem lF(k i:Nat)(h:i<=k):(auL k).getD i au0=auV i:=by simp only[auL,aa,aO];rw[bW (by omega)];rfl
theorem xgh(k i:Nat)(h:i<=k)(hk:k<=2):auE (auL k) i=0:=by
 unfold auE;rw[lF k i h];have hkl:=QR i
 by_cases h0:i=0
 ·subst h0
  rw[if_neg (by show ¬(3+2*((0:Nat):Int))<1;omega),if_neg (by show ¬1000<(3+2*((0:Nat):Int));omega),if_pos (by omega),if_pos rfl]
 ·rw[lF k (i-1) (by omega)]
  rw[if_neg (by show ¬(3+2*(i:Int))<1;omega),if_neg (by show ¬1000<(3+2*(i:Int));omega),if_pos (by omega),if_neg h0,if_neg (by show ¬(3+2*(i:Int))<=(3+2*((i-1:Nat):Int));omega)]
theorem MP(k:Nat)(hk:k<=2):∀n i,i+n<=k+1->mI (auL k) n i=0
 |0,_,_=>rfl
 |n+1,i,h=>by show(if auE (auL k) i=0 then mI (auL k) n (i+1)else auE (auL k) i)=0;rw[if_pos (xgh k i (by omega) hk)];exact MP k hk n (i+1) (by omega)
theorem xdH(k:Nat)(hk:k<=2)(thr:Int):trE (trL k thr)=0:=by have hb:=ly thr ((k+1:Nat):Int) (by omega);have hl:=Bl k;unfold trE;show(if(4:Int)<(auL k).length then(4:Int)else if mI (auL k) (auL k).length 0=0 then(if 1+gS thr ((k+1:Nat):Int)<1 then 1 else if((auL k).length:Int)<1+gS thr ((k+1:Nat):Int)then 1 else 0)else mI (auL k) (auL k).length 0)=0;rw[hl,if_neg (by omega),if_pos (MP k hk (k+1) 0 (by omega)),if_neg (by omega),if_neg (by omega)]
end Go.Proofs.YtkggincjigbelaaGreatDoor
