/- What the functions come to. No condition. -/
import Derived.Test.YtkggincjigbelaaGreatDoorTk
import Derived.Test.YtkggincjigbelaaGreatDoorTn
open Int renaming fdiv_eq_ediv_of_nonneg -> m4, natCast_zero -> aJ
open Go.IntKind renaming i64 -> af
open List renaming getD_eq_getElem?_getD -> aa, getElem?_eq_getElem -> ab, getElem_mem -> bd, length_append -> ai, length_cons -> aj, length_drop -> aS, length_nil -> ay, length_replicate -> dj, length_set -> gH, length_take -> ax, map_cons -> aD, map_nil -> b8, mem_cons_of_mem -> an, mem_cons_self -> aB, mem_map -> aM, mem_range -> fH, mem_singleton -> bW, nil_append -> aQ, range -> bw, replicate -> az, take_of_length_le -> aT
open Nat renaming add_assoc -> dJ, add_zero -> ek, le_refl -> aP, zero_le -> dB, zero_mul -> js
open UInt8 renaming ofNat -> cK
set_option maxRecDepth 100000
set_option maxHeartbeats 16000000
set_option linter.unusedSimpArgs false
set_option linter.unusedVariables false
namespace Go.Proofs.YtkggincjigbelaaGreatDoor
open Go.Sy
open UInt8 renaming reduceLT -> Q0, reduceLE -> Q1
open Int renaming reduceToNat -> Q2, reduceLE -> Q3, reduceLT -> Q4, reduceEq -> Q5, reduceNe -> Q6, reduceNeg -> Q7, reduceAdd -> Q8, reduceSub -> Q9, reduceMul -> Qa
open Nat renaming reducePow -> Qb, reduceDiv -> Qc, reduceMod -> Qd, reduceAdd -> Qe, reduceSub -> Qf, reduceMul -> Qg, reduceLT -> Qh, reduceLeDiff -> Qi, reduceEqDiff -> Qj, reduceBEq -> Qk
theorem XO:T.sg 32= {}:=rfl
theorem YO(B:List UInt8)(hB:B.length<=1000000000)(h:(wT B).1≠21):call T 61 [.byt B .no] [] 0=some ⟨.tup [.agg [.str [],.int .i64 0,.int .i64 0,.int .i64 0,.int .i64 0,.lst 4 [] .no,.lst 4 [] .no],.int .i64 30],[],[]⟩:=by have o0:iB B ⟨0,0⟩:=⟨dB _⟩;have g0:=f41 B hB;have g1:=f42 B hB 1 (by decide) (by decide) ⟨0,0⟩ o0;change call T 42 _ _ _=some ⟨.int .i64 (wT B).1,[(0,rdO B 60 (wT B).2)],[60]⟩at g1;rw[c1]at g1;generalize wT B=t at*;obtain⟨t1,t2⟩:=t;simp only[rdO,aJ]at g0 g1 h;rw[ao ZG];simp only[go_sem,Q0,Q1,Q2,Q3,Q4,Q5,Q6,Q7,Q8,Q9,Qa,Qb,Qc,Qd,Qe,Qf,Qg,Qh,Qi,Qj,Qk,reduceCtorEq,reduceIte,g0,g1,En,Em,h]
theorem Xl{t:Tr}{B:List UInt8}{ms:List Mk}(hok:El t B ms)(hE:trE t=0)(hm:ms.length<=4)(hd:(wT B).1≠21){w:Wd}(hw:mY B=some w):
 call U 34 [.agg t.sv,.agg (ii B ms)] [] 0=some ⟨.int .i64 (if((sgL t B ms).length:Int)<t.thr then 44 else 0),[],[]⟩:=by
 have hB:B.length<=1000000000:=by have:=hok.b2;omega
 have g1:=up (f23 t);rw[hE]at g1;have g2:=up (YO B hB hd);have g3:=up (f16 B hB);rw[hw]at g3;have g4:=f32 hok;have hl:=uW (sgL t B ms);have hml:=jX ms;have h4:¬(4:Int)<ms.length:=by omega
 have h4n:¬4<ms.length:=by omega
 obtain⟨au,th⟩:=t;obtain⟨wm,wf⟩:=w;unfold Tr.sv ii at*;simp only[wdO,Wd.sv]at g3;generalize sgL ⟨au,th⟩ B ms=L at*;rw[ao Zq]
 by_cases hc:(L.length:Int)<th
 ·simp only[go_sem,Q0,Q1,Q2,Q3,Q4,Q5,Q6,Q7,Q8,Q9,Qa,Qb,Qc,Qd,Qe,Qf,Qg,Qh,Qi,Qj,Qk,reduceCtorEq,reduceIte,US,g1,rV,hml,h4,h4n,g2,XL,g3,xV,g4,XO,hl,hc]
  trace_state
 ·simp only[go_sem,Q0,Q1,Q2,Q3,Q4,Q5,Q6,Q7,Q8,Q9,Qa,Qb,Qc,Qd,Qe,Qf,Qg,Qh,Qi,Qj,Qk,reduceCtorEq,reduceIte,US,g1,rV,hml,h4,h4n,g2,XL,g3,xV,g4,XO,hl,hc]
  trace_state
def w9:Wd:=⟨az 32 0,9⟩
theorem H9:pD w9:=by refine⟨?_, ?_, ?_⟩<;>decide
def bo9:List UInt8:=fS w9
theorem ko:bo9.length=39:=j3 w9 H9
theorem wa(seed:List UInt8):(gb seed 1).length=17:=by have:gb seed 1=ub 1::gD 0 0 (pubL (lsV seed 1) 0) (pubL (lsV seed 1) 1):=rfl;rw[this,aj,gD,dt]
theorem SE:trL 0 0=⟨[auV 0],1⟩:=by unfold trL;rw[Zn,show 1+dz 0 ((0+1:Nat):Int)=1 by decide]
theorem FN(a:Au)(h1:1<=a.id)(h2:a.id<=1000)(hk:a.key.length=17):trE ⟨[a],1⟩=0:=by
 have ha:auE [a] 0=0:=by have h0:[a].getD 0 au0=a:=rfl;unfold auE;rw[h0,if_neg (by omega),if_neg (by omega),if_pos (by omega),if_pos rfl]
 have:jJ [a] 1 0=0:=by show(if auE [a] 0=0 then 0 else auE [a] 0)=0;rw[if_pos ha]
 unfold trE;rw[show [a].length=1 from rfl,this];show(if(4:Int)<((1:Nat):Int)then(4:Int)else if(0:Int)=0 then(if(1:Int)<1 then 1 else if((1:Nat):Int)<1 then 1 else 0)else 0)=0;decide
theorem Wa:trE ⟨[auV 0],1⟩=0:=FN (auV 0) (by show(1:Int)<=3;decide) (by show(3:Int)<=1000;decide) (wa _)
theorem Gc(a:Au)(thr:Int)(B:List UInt8)(m:Mk)(h1:a.id=m.auth)(h2:jA a.key B m.sig=true):sgL ⟨[a],thr⟩ B [m]=[a.id]:=by
 have:sgO ⟨[a],thr⟩ B [m]=[a.id]:=by show Si.stp (Ek ⟨[a],thr⟩) (GT [m]) (RL ⟨[a],thr⟩ B [m]) [] 0 0=[a.id];unfold Si.stp;rw[if_pos ⟨h1,by simp,h2⟩];rfl
 unfold sgL;rw[this];simp[Si.srt]
theorem yx(a:Au)(thr:Int)(B:List UInt8):sgL ⟨[a],thr⟩ B []=[]:=by simp[sgL,sgO,Si.out,Si.srt]
theorem Ii(a:Au)(thr:Int)(B:List UInt8)(ms:List Mk)(h1:1<=a.id)(h2:a.id<=1000)(hm:ms.length<=1000)(hB:B.length<=100000000):El ⟨[a],thr⟩ B ms:=
 ⟨aP _,by show 1<=1000;decide,hm,hB,fun x hx=>by rw[bW.1 hx];omega⟩
theorem f11:call U 11 [] [] 0=some ⟨.bool true,[],[]⟩:=by
 have hi1:(1:Int)<=(auV 0).id:=by show(1:Int)<=3;decide
 have hi2:(auV 0).id<=1000:=by show(3:Int)<=1000;decide
 have g22:=up (MV 0 0 (by decide) (by decide) (by decide) (by decide) (by decide));rw[SE]at g22;have g15:=up (f15 w9);have hw9:w9.sv=[.byt (az 32 0) .no,.int .i64 9]:=rfl;have g39:=up (f39 3);have g28:=up (f28 bo9 [] 3 (dI 3) 1 1 (by decide) (by rw[eh];decide) (by rw[ko];decide) (.inr (.inr (.inr rfl))));have hd:=qw w9 H9;have g16:=up (f16 bo9 (by rw[ko];decide))
 have hwT:(wT bo9).1≠21:=by
  have h:wdP bo9:=by
   unfold bo9;unfold mY at hd
   by_cases hp:wdP (fS w9)
   ·exact hp
   ·rw[if_neg hp]at hd;cases hd
  rw[h.2.1];decide
 have hsg:=Gc (auV 0) 1 bo9 ⟨3,sgn (dI 3) 1 1 bo9⟩ rfl (by rw[zQ];exact FA (dI 3) bo9 1 (by decide));have gv1:=Xl (Ii (auV 0) 1 bo9 [⟨3,sgn (dI 3) 1 1 bo9⟩] hi1 hi2 (by decide) (by rw[ko];decide)) Wa (by decide) hwT hd;have gv2:=Xl (Ii (auV 0) 1 bo9 [] hi1 hi2 (by decide) (by rw[ko];decide)) Wa (by decide) hwT hd;rw[hsg]at gv1;rw[yx]at gv2;have hl:=ko;change mY bo9=some w9 at hd;rw[hd]at g16;change call U 15 [.agg w9.sv] [] 0=some ⟨.byt bo9 .no,[],[]⟩at g15;rw[hw9]at g15;simp only[wdO]at g16;rw[hw9]at g16;generalize bo9=B at*;generalize sgn (dI 3) 1 1 B=G at*;generalize dI 3=S at*;have e3:((3:Nat):Int)=3:=rfl;rw[e3]at g39;simp only[Tr.sv,cO,aD,b8,ii,qa,Mk.sv,Au.sv,aQ]at g22 g28 gv1 gv2;have e1:¬((([(auV 0).id]:List Int).length:Int)<1):=by simp
 have e0:((([]:List Int).length:Int)<1):=by simp
 rw[if_neg e1]at gv1;rw[if_pos e0]at gv2;generalize (auV 0).id=aid at*;generalize (auV 0).key=ak at*;have e39:((39:Nat):Int)=39:=rfl;have ht:List.take 32 (az 32 (0:UInt8))=az 32 0:=by simp
 rw[ao Zr];simp only[go_sem,Q0,Q1,Q2,Q3,Q4,Q5,Q6,Q7,Q8,Q9,Qa,Qb,Qc,Qd,Qe,Qf,Qg,Qh,Qi,Qj,Qk,reduceCtorEq,reduceIte,US,ht,g22,xU,g15,R8,g39,qB,g28,xab,g16,xV,hl,e39,gv1,gv2,xaa,aj,ay,n1c]
 trace_state
theorem Fx(B:List UInt8)(m:Nat)(s:Rs):(wR B m s).1.length<=m:=by
 unfold wR;split
 ·split
  ·show(List.take _ _).length<=_;rw[ax];omega
  ·exact dB _
 ·exact dB _
theorem f12(B:List UInt8)(n:Nat)(h:n<=1000):call T 12 [.byt B .no,.int .i64 n] [] 0=some ⟨.byt (B.take n) .no,[],[]⟩:=by
 rw[ao Z2]
 by_cases hc:n<B.length
 ·have hcI:(n:Int)<(B.length:Int):=by omega
  have h1:n<=B.length:=by omega
  simp only[go_sem,Q0,Q1,Q2,Q3,Q4,Q5,Q6,Q7,Q8,Q9,Qa,Qb,Qc,Qd,Qe,Qf,Qg,Qh,Qi,Qj,Qk,reduceCtorEq,reduceIte,hc,hcI,h1]
 ·have hcI:¬(n:Int)<(B.length:Int):=by omega
  have ht:B.take n=B:=aT (by omega);simp only[go_sem,Q0,Q1,Q2,Q3,Q4,Q5,Q6,Q7,Q8,Q9,Qa,Qb,Qc,Qd,Qe,Qf,Qg,Qh,Qi,Qj,Qk,reduceCtorEq,reduceIte,hc,hcI,ht]
def fO(B:List UInt8):List UInt8:=B.take 32++List.drop (B.take 32).length (az 32 0)
theorem nj(B:List UInt8):(fO B).length=32:=by unfold fO;rw[ai,aS,dj,ax];omega
theorem f13(B:List UInt8):call T 13 [.byt B .no] [] 0=some ⟨.byt (fO B) .no,[],[]⟩:=by have hl:=nj B;have ht:(fO B).take 32=fO B:=aT (by omega);unfold fO at*;rw[ao Z1];simp only[go_sem,Q0,Q1,Q2,Q3,Q4,Q5,Q6,Q7,Q8,Q9,Qa,Qb,Qc,Qd,Qe,Qf,Qg,Qh,Qi,Qj,Qk,reduceCtorEq,reduceIte,hl,ht]
theorem s3(x1 x2 x3:List UInt8)(z1 z2 z3:Int)(rows:List (List SV))(n i:Nat)(d:List UInt8)(hd:d.length<=1000)(hi:i<n)(hn:rows.length=n)(hb:n<=10)(hg:rows.getD i []=[.byt d .no]):
 run U (.loop jV) ⟨[(90,.lst 1 rows .clip),(91,.int .i64 n),(92,.int .i64 i)],[(106,.rc [.byt x1 .no,.int .i64 z1]),(113,.rc [.byt x2 .no,.int .i64 z2]),(115,.rc [.byt x3 .no,.int .i64 z3])],[]⟩=run U (.loop jV) ⟨[(90,.lst 1 rows .clip),(91,.int .i64 n),(92,.int .i64 ((i+1:Nat):Int))],[(106,.rc [.byt x1 .no,.int .i64 z1]),(113,.rc [.byt x2 .no,.int .i64 z2]),(115,.rc [.byt x3 .no,.int .i64 z3])],[]⟩:=by
 have e1:=dF i (by omega);have hiI:(i:Int)<(n:Int):=by omega
 have g1:=up (f16 d (by omega));have g2:=up (f20 d (by omega));rw[aq];cases hc:mY d with
 |none=>rw[hc]at g1 g2;simp only[wdO]at g1 g2;have g3:=up (f17 ⟨[],0⟩ ⟨[],0⟩ (by decide));simp only[Wd.sv]at g3;have c0:(0:Int)=0:=rfl;simp only[go_sem,Q0,Q1,Q2,Q3,Q4,Q5,Q6,Q7,Q8,Q9,Qa,Qb,Qc,Qd,Qe,Qf,Qg,Qh,Qi,Qj,Qk,reduceCtorEq,reduceIte,US,hi,hiI,hn,hg,e1,g1,g2,g3,xV,XP,Nd,decide_true]
 |some v=>
  rw[hc]at g1 g2;simp only[wdO]at g1 g2;obtain⟨m,f⟩:=v
  have hm:m.length<=140737488355328:=by
   unfold mY at hc;split at hc
   ·cases hc
    have:=Fx d 32 (wT d).2;show(wM d).1.length<=_;unfold wM;omega
   ·cases hc
  have g3:=up (f17 ⟨m,f⟩ ⟨m,f⟩ hm);simp only[Wd.sv]at g1 g2 g3;simp only[go_sem,Q0,Q1,Q2,Q3,Q4,Q5,Q6,Q7,Q8,Q9,Qa,Qb,Qc,Qd,Qe,Qf,Qg,Qh,Qi,Qj,Qk,reduceCtorEq,reduceIte,US,hi,hiI,hn,hg,e1,g1,g2,g3,xV,XP,Nd,decide_true]
theorem l3(x1 x2 x3:List UInt8)(z1 z2 z3:Int)(d1 d2:List UInt8)(h1:d1.length<=1000)(h2:d2.length<=1000):run U (.loop jV) ⟨[(90,.lst 1 [[.byt d1 .no],[.byt d2 .no]] .clip),(91,.int .i64 2),(92,.int .i64 0)],[(106,.rc [.byt x1 .no,.int .i64 z1]),(113,.rc [.byt x2 .no,.int .i64 z2]),(115,.rc [.byt x3 .no,.int .i64 z3])],[]⟩=some (.x 0,⟨[],[(106,.rc [.byt x1 .no,.int .i64 z1]),(113,.rc [.byt x2 .no,.int .i64 z2]),(115,.rc [.byt x3 .no,.int .i64 z3])],[]⟩):=by have a1:run U (.loop jV) ⟨[(90,.lst 1 [[.byt d1 .no],[.byt d2 .no]] .clip),(91,.int .i64 2),(92,.int .i64 0)],[(106,.rc [.byt x1 .no,.int .i64 z1]),(113,.rc [.byt x2 .no,.int .i64 z2]),(115,.rc [.byt x3 .no,.int .i64 z3])],[]⟩=run U (.loop jV) ⟨[(90,.lst 1 [[.byt d1 .no],[.byt d2 .no]] .clip),(91,.int .i64 2),(92,.int .i64 1)],[(106,.rc [.byt x1 .no,.int .i64 z1]),(113,.rc [.byt x2 .no,.int .i64 z2]),(115,.rc [.byt x3 .no,.int .i64 z3])],[]⟩:=s3 x1 x2 x3 z1 z2 z3 [[.byt d1 .no],[.byt d2 .no]] 2 0 d1 h1 (by decide) rfl (by decide) rfl;have a2:run U (.loop jV) ⟨[(90,.lst 1 [[.byt d1 .no],[.byt d2 .no]] .clip),(91,.int .i64 2),(92,.int .i64 1)],[(106,.rc [.byt x1 .no,.int .i64 z1]),(113,.rc [.byt x2 .no,.int .i64 z2]),(115,.rc [.byt x3 .no,.int .i64 z3])],[]⟩=run U (.loop jV) ⟨[(90,.lst 1 [[.byt d1 .no],[.byt d2 .no]] .clip),(91,.int .i64 2),(92,.int .i64 2)],[(106,.rc [.byt x1 .no,.int .i64 z1]),(113,.rc [.byt x2 .no,.int .i64 z2]),(115,.rc [.byt x3 .no,.int .i64 z3])],[]⟩:=s3 x1 x2 x3 z1 z2 z3 [[.byt d1 .no],[.byt d2 .no]] 2 1 d2 h2 (by decide) rfl (by decide) rfl;rw[a1,a2,aq];simp (config:= {decide:=true}) only[go_sem,Q0,Q1,Q2,Q3,Q4,Q5,Q6,Q7,Q8,Q9,Qa,Qb,Qc,Qd,Qe,Qf,Qg,Qh,Qi,Qj,Qk,reduceCtorEq,reduceIte]
theorem Hw(w:Wd):(fS w).length<=39:=by
 by_cases h:pD w
 ·rw[j3 w h];decide
 ·rw[fS,if_neg h];decide
theorem f3(w:Wd)(raw:List UInt8)(frm at0:Int)(by0:UInt8)(cut:Int)(h1: -9223372036854775808<=frm)(h2:frm<=9223372036854775807)(h3: -9223372036854775808<=at0)(h4:at0<=9223372036854775807)(h5: -9223372036854775808<=cut)(h6:cut<=9223372036854775807):
 call U 3 [.agg w.sv,.byt raw .no,.int .i64 frm,.int .i64 at0,.u8 by0,.int .i64 cut] [] 0=some ⟨.bool true,[],[]⟩:=by
 have g11:=f11;have e40:((40:Nat):Int)=40:=rfl;have e60:((60:Nat):Int)=60:=rfl;have g12:=up (f12 w.man 40 (by decide));have g12b:=up (f12 raw 60 (by decide));rw[e40]at g12;rw[e60]at g12b;have g13:=up (f13 (w.man.take 40));have g14:=up (f14 frm 1099511627777 h1 h2 (by decide));have hb:=eN frm 1099511627777 (by decide);have hs:=nj (w.man.take 40);have hok:pD ⟨fO (w.man.take 40),dz frm 1099511627777⟩:=⟨hs,hb.1,by show dz frm 1099511627777<=1099511627776;omega⟩;have g15:=up (f15 ⟨fO (w.man.take 40),dz frm 1099511627777⟩);have g19:=up (f19 ⟨fO (w.man.take 40),dz frm 1099511627777⟩);have hl:=j3 _ hok;have hd:=qw _ hok;have g16:=up (f16 (fS ⟨fO (w.man.take 40),dz frm 1099511627777⟩) (by rw[hl];decide));rw[hd]at g16;have g17:=up (f17 ⟨fO (w.man.take 40),dz frm 1099511627777⟩ ⟨fO (w.man.take 40),dz frm 1099511627777⟩ (by show(fO _).length<=_;rw[hs];decide));have g15w:=up (f15 ⟨w.man.take 40,w.frm⟩);have g19w:=up (f19 ⟨w.man.take 40,w.frm⟩);have hlw:=Hw ⟨w.man.take 40,w.frm⟩;have g18:=up (f18 (fS ⟨fO (w.man.take 40),dz frm 1099511627777⟩) (fS ⟨fO (w.man.take 40),dz frm 1099511627777⟩) (by rw[hl];decide));have g18w:=up (f18 (fS ⟨w.man.take 40,w.frm⟩) (fS ⟨w.man.take 40,w.frm⟩) (by omega));rw[decide_eq_true rfl]at g17 g18 g18w;generalize fS ⟨fO (w.man.take 40),dz frm 1099511627777⟩=B at*;generalize fS ⟨w.man.take 40,w.frm⟩=C at*;simp only[wdO,Wd.sv]at g15 g19 g16 g17 g15w g19w;generalize fO (w.man.take 40)=M at*
 generalize dz frm 1099511627777=f at*;have g14a:=up (f14 at0 39 h3 h4 (by decide));obtain⟨hk0,hk1⟩:=eN at0 39 (by decide);obtain⟨k,hk⟩:∃k:Nat,dz at0 39=(k:Int):=⟨(dz at0 39).toNat,by omega⟩;rw[hk]at g14a;have hk39:k<39:=by omega
 have e39:((39:Nat):Int)=39:=rfl;have c1:0+39<=140737488355328:=by decide
 have c2:39<=140737488355328:=by decide
 have kw40:af.wrap 40=40:=by decide
 have lw:=fun x1 x2 x3 z1 z2 z3=>l3 x1 x2 x3 z1 z2 z3 (raw.take 60) (B.set k by0) (by rw[ax];omega) (by rw[gH,hl];decide)
 have tS:(B.set k by0).take 39=B.set k by0:=aT (by rw[gH];omega);have tB:B.take 39=B:=aT (by omega);have hB0:¬B=[]:=by intro e;rw[e]at hl;cases hl
 have hkI:(k:Int)<39:=by omega
 obtain⟨wm,wf⟩:=w;simp only at*;rw[ao U_3]
 by_cases hc:bD .and .i64 cut 1=1
 ·have hdv:cut.fdiv (2^min 1 64)=cut/2:=by
   rw[show(2:Int)^min 1 64=2 from by decide,m4 _ (by decide)]
  have g14b:=up (f14 (cut/2) 40 (by omega) (by omega) (by decide));obtain⟨hm0,hm1⟩:=eN (cut/2) 40 (by decide);obtain⟨m,hm⟩:∃m:Nat,dz (cut/2) 40=(m:Int):=⟨(dz (cut/2) 40).toNat,by omega⟩;rw[hm]at g14b;have hm40:m<=39:=by omega
  have lw2:=fun x1 x2 x3 z1 z2 z3=>l3 x1 x2 x3 z1 z2 z3 (raw.take 60) ((B.set k by0).take m) (by rw[ax];omega) (by rw[ax,gH,hl];omega)
  have lS:(B.set k by0).length=39:=by rw[gH,hl]
  simp only[Wd.sv,go_sem,Q0,Q1,Q2,Q3,Q4,Q5,Q6,Q7,Q8,Q9,Qa,Qb,Qc,Qd,Qe,Qf,Qg,Qh,Qi,Qj,Qk,reduceCtorEq,reduceIte,US,g11,vk,g12,Np,g13,XR,g14,iA,g15,R8,g16,xV,g17,Nd,g19,XQ,g18,R7,g15w,g19w,g18w,hl,c1,c2,e39,g14a,hk39,hkI,hB0,hc];have hm40I:(m:Int)<=39:=by omega
  simp only[hdv,g14b,hm40,hm40I,Nat.sub_zero,lS,g12b,lw2,kw40,go_sem,Q0,Q1,Q2,Q3,Q4,Q5,Q6,Q7,Q8,Q9,Qa,Qb,Qc,Qd,Qe,Qf,Qg,Qh,Qi,Qj,Qk,reduceCtorEq,reduceIte,US,iA,Np]
 ·simp only[Wd.sv,go_sem,Q0,Q1,Q2,Q3,Q4,Q5,Q6,Q7,Q8,Q9,Qa,Qb,Qc,Qd,Qe,Qf,Qg,Qh,Qi,Qj,Qk,reduceCtorEq,reduceIte,US,g11,vk,g12,Np,g13,XR,g14,iA,g15,R8,g16,xV,g17,Nd,g19,XQ,g18,R7,g15w,g19w,g18w,hl,c1,c2,e39,g14a,hk39,hkI,hB0,hc,g12b,tS,lw,gH]
end Go.Proofs.YtkggincjigbelaaGreatDoor
namespace Go.Sy
open Go.ChangeShapes Go.WideShapes
section
variable {H : Type} {enc : TypeId × Value -> H} {P : Program} {w : World} {base : Nat} {hd : Bool} {r : Reach} {b0 : Nat} {t e : TypeId} {v : Value} {d : DataW H} {ps : List MemPlace}
theorem jB{a:Addr}{v:Value}(h:w.cell? a=some v):a.spot=none:=by
 unfold World.cell? at h;split at h
 ·by_cases hs:a.spot.isSome=true
  ·rw[if_pos hs]at h;cases h
  ·simpa using hs
 ·cases h
theorem nQ(a:Addr):a.add 0=a:=by unfold Addr.add;rw[if_pos rfl]
variable [aU]
theorem lQ{fuel:Nat}{v:Value}{x:DataW H×List MemPlace}(ht:P.underlying t=some (.slice e))(he:P.underlying e=some (.int .u8))(hc:P.cellsOf e=1)(h:DataW.trod enc P w base (fun _=>true) hd fuel t [v]=some x):
 ∃l:List UInt8,bO (jC w).G (.byt l .no) v:=by
 rcases open_ints ht he hc h with⟨hcs,_⟩|⟨a,len,cap,zs,hcs,_,hl,hm,hz,_,hcell,hwf⟩
 ·obtain rfl:v= .slice none 0 0:=by simpa using hcs
  exact⟨[],.bytN .no⟩
 ·obtain rfl:v= .slice (some a) len cap:=by simpa using hcs
  simp only[if_true]at hz
  by_cases h0:cap=0
  ·obtain rfl:len=0:=by omega
   subst h0;exact⟨[],.bytE .no a⟩
  ·have hs:a.spot=none:=by
    have:=jB (hcell 0 (by omega));rwa[nQ]at this
   obtain⟨b,off,spot⟩:=a;simp only at hs;subst hs;refine⟨(zs.take len).map fun n=>cK n.toNat,.byt _ .no b off cap len (by simp;omega) hl (fun i hi=> ?_)⟩;have h1:=hcell i (by omega);have hi':i<zs.length:=by omega
   rw[add_plain]at h1
   have e1:((zs.take len).map fun n=>cK n.toNat).getD i 0=cK (zs.getD i 0).toNat:=by simp[aa,hi',hi]
   show w.cell? _=_;rw[h1,e1]
   congr 2
   refine(zN (hwf _ ?_)).symm;rw[aa,ab hi'];exact bd hi'
omit [aU] in
theorem wj{K:List SV->Prop}{c:Nat}(hc0:0<c){fuel:Nat}{v:Value}{x:DataW H×List MemPlace}(ht:P.underlying t=some (.slice e))(ce:P.cellsOf e=c)
 (row:∀(n:Nat)(cs:List Value)(y:DataW H×List MemPlace),cs.length=c->DataW.trod enc P w base (fun _=>true) hd n e cs=some y->∃q:List SV,K q/\q.length=c/\∀j,j<c->bO (jC w).G (q.getD j .undef) (cs.getD j Go.undef))
 (h:DataW.trod enc P w base (fun _=>true) hd fuel t [v]=some x):
 ∃l:List (List SV),(∀q∈l,K q)/\bO (jC w).G (.lst c l .no) v:=by
 rcases Go.Deep.open_slice ht h with⟨hcs,_⟩|⟨a,len,cap,m,n,D,Pl,hcs,_,hl,hm,hmm,_,hx⟩
 ·obtain rfl:v= .slice none 0 0:=by simpa using hcs
  exact⟨[],fun q hq=>(by cases hq),.lstN c .no⟩
 ·obtain rfl:v= .slice (some a) len cap:=by simpa using hcs
  simp only[if_true]at hmm;subst hmm
  by_cases h0:m=0
  ·obtain rfl:len=0:=by omega
   subst h0;exact⟨[],fun q hq=>(by cases hq),.lstE c .no a⟩
  ·have each:∀i,i<m->∃p:List SV×List Value,K p.1/\p.1.length=c/\(∀j,j<c->bO (jC w).G (p.1.getD j .undef) (p.2.getD j Go.undef))/\∀j,j<c->w.cell? (a.add (i*c+j))=some (p.2.getD j Go.undef):=by
    intro i hi;obtain⟨cs',h1,h2⟩:=hx i hi;rw[ce]at h1;obtain⟨_,hlen,hcell⟩:=World.cells?_some h1;obtain⟨q,k1,k2,k3⟩:=row n cs' _ hlen h2;refine⟨(q,cs'),k1,k2,k3,fun j hj=> ?_⟩;have:=hcell j (by omega);rw[Go.Deep.add_add]at this;rw[this,aa,ab (by omega)];rfl
   obtain⟨p,hp⟩:=Go.Deep.choose_lt each
   have hs:a.spot=none:=by have:=jB ((hp 0 (by omega)).2.2.2 0 hc0);rwa[js,ek,nQ]at this
   obtain⟨b,off,spot⟩:=a;simp only at hs;subst hs
   have hrow:∀i,i<len->((bw len).map fun i=>(p i).1).getD i []=(p i).1:=fun i hi=>by simp[aa,hi]
   refine⟨(bw len).map fun i=>(p i).1,fun q hq=> ?_,.lst c _ .no b off m len (fun i j=>(p i).2.getD j Go.undef) (by simp) hl (fun i hi=>by rw[hrow i hi];exact(hp i (by omega)).2.1) (fun i j hi hj=> ?_) (fun i j hi hj=> ?_)⟩
   ·obtain⟨i,hi,rfl⟩:=aM.1 hq
    exact(hp i (by have:=fH.1 hi;omega)).1
   ·have:=(hp i (by omega)).2.2.2 j hj
    rw[add_plain]at this;show w.cell? _=_;rw[dJ];exact this
   ·rw[hrow i hi]
    exact(hp i (by omega)).2.2.1 j hj
def RO(q:List SV):Prop:=∃(a:Int)(b:List UInt8),q=[.int .i64 a,.byt b .no]
theorem OX{fa fb:Field}(he:P.underlying e=some (.struct #[fa,fb]))(o0:fa.offset=0)(o1:fb.offset=1)
 (c0:P.cellsOf fa.type=1) (c1:P.cellsOf fb.type=1) (t0:P.underlying fa.type=some (.int .i64)) {u:TypeId} (t1:P.underlying fb.type=some (.slice u)) (hu:P.underlying u=some (.int .u8)) (cu:P.cellsOf u=1)
 (n:Nat) (cs:List Value) (y:DataW H×List MemPlace) (hlen:cs.length=2) (h:DataW.trod enc P w base (fun _=>true) hd n e cs=some y):
 ∃q:List SV,RO q/\q.length=2/\∀j,j<2->bO (jC w).G (q.getD j .undef) (cs.getD j Go.undef):=by
 obtain⟨xs,k,_,_,_,hxl,hf⟩:=DataW.trod_struct he h
 match cs,hlen,xs,hxl with
 |[v0,v1],_,[y0,y1],_=>
  have g0:=hf 0 fa rfl;have g1:=hf 1 fb rfl;simp[o0,o1,c0,c1]at g0 g1;obtain⟨a,e0,_,_⟩:=DataW.trod_int t0 g0;obtain⟨l,hl⟩:=lQ t1 hu cu g1;obtain rfl:v0= .int .i64 a:=by simpa using e0
  refine⟨[.int .i64 a,.byt l .no],⟨a,l,rfl⟩,rfl,fun j hj=> ?_⟩
  match j,hj with
  |0,_=>exact .int _ _
  |1,_=>exact hl
end
end Go.Sy
namespace Go.Proofs.YtkggincjigbelaaGreatDoor
open Go.Sy
open UInt8 renaming reduceLT -> Q0, reduceLE -> Q1
open Int renaming reduceToNat -> Q2, reduceLE -> Q3, reduceLT -> Q4, reduceEq -> Q5, reduceNe -> Q6, reduceNeg -> Q7, reduceAdd -> Q8, reduceSub -> Q9, reduceMul -> Qa
open Nat renaming reducePow -> Qb, reduceDiv -> Qc, reduceMod -> Qd, reduceAdd -> Qe, reduceSub -> Qf, reduceMul -> Qg, reduceLT -> Qh, reduceLeDiff -> Qi, reduceEqDiff -> Qj, reduceBEq -> Qk
section
theorem Ei:∀(l:List (List SV)),(∀q∈l,RO q)->∃es:List Au,cO es=l
 |[],_=>⟨[],rfl⟩
 |q::r,h=>by
  obtain⟨es,he⟩:=Ei r fun x hx=>h x (an _ hx)
  obtain⟨a,b,rfl⟩:=h q aB;exact⟨⟨a,b⟩::es,by rw[<-he];rfl⟩
section
open Go.ChangeShapes Go.WideShapes
variable {H : Type} {enc : TypeId × Value -> H} {w : World} {base : Nat} {hd : Bool} {r : Reach} {b0 : Nat} {v : Value} {d : DataW H} {ps : List MemPlace}
theorem RE(hval:Value.okWide Tryz.prog w r b0 24 v)(h:DataW.Trod enc Tryz.prog w base (fun _=>true) hd 24 v d ps):∃m:Wd,Rep (jC w) (.agg m.sv) v:=by
 obtain⟨cs,rfl,hcs⟩:=okWide_struct Tryz.underlying24 hval;rw[show Tryz.prog.cellsOf 24=2 by kernel_rfl]at hcs;obtain⟨fuel,hf⟩:=h;obtain⟨xs,n,_,_,hl,hlen,hf⟩:=DataW.trod_struct Tryz.underlying24 hf;have c3:Tryz.prog.cellsOf 3=1:=by kernel_rfl
 have c5:Tryz.prog.cellsOf 5=1:=by kernel_rfl
 have c22:Tryz.prog.cellsOf 22=1:=by kernel_rfl
 simp only[Value.cells]at hl hf;have hx:xs.length=2:=hlen;obtain⟨l⟩:=cs;have hl2:l.length=2:=by simpa using hcs
 match xs,hx,l,hl2 with
 |[y0,y1],_,[v0,v1],_=>
  have g0:=hf 0 _ rfl;have g1:=hf 1 _ rfl;simp[c3,c22]at g0 g1;obtain⟨l,he⟩:=lQ Tryz.underlying22 Tryz.underlying5 c5 g0;obtain⟨a1,e1,_,_⟩:=DataW.trod_int Tryz.underlying3 g1;obtain rfl:v1= .int .i64 a1:=by simpa using e1
  refine⟨⟨l,a1⟩,.agg _ _ rfl fun i hi=> ?_⟩
  match i,hi with
  |0,_=>exact .dat _ _ he trivial
  |1,_=>exact .dat _ _ (.int _ _) trivial
  |i+2,hi=>exact absurd hi (by simp[Wd.sv])
theorem RG(hval:Value.okWide Tryz.prog w r b0 40 v)(h:DataW.Trod enc Tryz.prog w base (fun _=>true) hd 40 v d ps):∃m:Tr,Rep (jC w) (.agg m.sv) v:=by
 obtain⟨cs,rfl,hcs⟩:=okWide_struct Tryz.underlying40 hval;rw[show Tryz.prog.cellsOf 40=2 by kernel_rfl]at hcs;obtain⟨fuel,hf⟩:=h;obtain⟨xs,n,_,_,hl,hlen,hf⟩:=DataW.trod_struct Tryz.underlying40 hf;have c3:Tryz.prog.cellsOf 3=1:=by kernel_rfl
 have c5:Tryz.prog.cellsOf 5=1:=by kernel_rfl
 have c22:Tryz.prog.cellsOf 22=1:=by kernel_rfl
 have c38:Tryz.prog.cellsOf 38=1:=by kernel_rfl
 have c45:Tryz.prog.cellsOf 45=2:=by kernel_rfl
 simp only[Value.cells]at hl hf;have hx:xs.length=2:=hlen;obtain⟨l⟩:=cs;have hl2:l.length=2:=by simpa using hcs
 match xs,hx,l,hl2 with
 |[y0,y1],_,[v0,v1],_=>
  have g0:=hf 0 _ rfl;have g1:=hf 1 _ rfl;simp[c3,c38]at g0 g1;obtain⟨le,he1,he2⟩:=wj (K:=RO) (by decide:0<2) Tryz.underlying38 c45 (OX Tryz.underlying45 rfl rfl c3 c22 Tryz.underlying3 Tryz.underlying22 Tryz.underlying5 c5) g0;obtain⟨a1,e1,_,_⟩:=DataW.trod_int Tryz.underlying3 g1;obtain⟨es,rfl⟩:=Ei le he1;obtain rfl:v1= .int .i64 a1:=by simpa using e1
  refine⟨⟨es,a1⟩,.agg _ _ rfl fun i hi=> ?_⟩
  match i,hi with
  |0,_=>exact .dat _ _ he2 trivial
  |1,_=>exact .dat _ _ (.int _ _) trivial
  |i+2,hi=>exact absurd hi (by simp[Tr.sv])
end
end
end Go.Proofs.YtkggincjigbelaaGreatDoor
