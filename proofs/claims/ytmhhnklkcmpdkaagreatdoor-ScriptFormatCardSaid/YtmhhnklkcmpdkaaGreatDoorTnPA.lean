/- Contracts. No condition. -/
import Derived.Test.YtmhhnklkcmpdkaaGreatDoorTmPA
open Bool renaming false_eq_true -> az
open List renaming append_assoc -> ay, append_nil -> aZ, drop_zero -> bj, getD_cons_zero -> dE, length_append -> ac, length_cons -> ah, length_eq_zero_iff -> bx, length_nil -> au, length_singleton -> aD, mem_cons_of_mem -> af, mem_cons_self -> aq, nil_append -> aR, singleton_append -> cf, take -> fg, take_length -> ba
open Nat renaming add_zero -> bW, zero_add -> cd
open Option renaming getD_none -> fB, getD_some -> aO, isSome_none -> eh, isSome_some -> eT
set_option maxRecDepth 100000
set_option maxHeartbeats 16000000
set_option linter.unusedSimpArgs false
set_option linter.unusedVariables false
namespace Go.Proofs.YtmhhnklkcmpdkaaGreatDoor
open Go.Sy
open UInt8 renaming reduceLT -> Q0, reduceLE -> Q1
open Int renaming reduceToNat -> Q2, reduceLE -> Q3, reduceLT -> Q4, reduceEq -> Q5, reduceNe -> Q6, reduceNeg -> Q7, reduceAdd -> Q8, reduceSub -> Q9, reduceMul -> Qa
open Nat renaming reducePow -> Qb, reduceDiv -> Qc, reduceMod -> Qd, reduceAdd -> Qe, reduceSub -> Qf, reduceMul -> Qg, reduceLT -> Qh, reduceLeDiff -> Qi, reduceEqDiff -> Qj, reduceBEq -> Qk
section
open Pr (wsv)
theorem xmR(h91:H91)(h w0:d9)(r:List d9)(hs:dY h=w0::r)(hk:aM w0=1\/aM w0=3\/10<=aM w0)(hl:h.length<=900000):
 ∃(x:Stp)(ok:Bool),np (w0::r) x ok/\call T 40 [.str h] [] 0=some ⟨.tup [.agg x.sv,.bool (ok&&(wrB x&&decide (eV x=h++ [10])))],[],[]⟩:=by
 have H:=fY h;have F:=dH h;rw[hs]at H F;simp only[ah]at H;have hR:∀w∈r,w.length<=1000000000:=fun w hw=>by have:=F w (af _ hw);omega
 have z:=h91 h (by omega);rw[hs]at z;change call T 91 _ _ _=some ⟨.lst 1 ([.str w0]::wsv r) .no,_,_⟩at z;have a7:=cP w0;have g:=l40 h w0 r (by omega) 12 1 (by omega) (by omega) (by omega);rw[c1]at g;have ir:(1:Int)<=((r.length+1:Nat):Int):=by omega
 have hv:=cH r;have I:fg r.length (wsv r)=wsv r:=by rw[<-hv,ba]
 obtain⟨ok,v,E,O⟩:=xmN (aM w0) r hR;have n2:¬aM w0=2:=by omega
 have n4:¬aM w0=4:=by omega
 have n5:¬aM w0=5:=by omega
 have n6:¬aM w0=6:=by omega
 have n7:¬aM w0=7:=by omega
 have n8:¬aM w0=8:=by omega
 have n9:¬aM w0=9:=by omega
 refine⟨⟨aM w0,v,0,0,[],[],[]⟩,ok, ?_, ?_⟩
 ·intro y J hw
  unfold wds at hw;injection hw with h1 h2
  have a6:aM w0=y.kind:=by rw[h1];exact dC _ J.k1 J.k12
  rw[if_neg (by omega),if_neg (by omega),if_neg (by omega),if_neg (by omega)]at h2;obtain⟨q1,q2⟩:=O _ _ h2 (jO J.fm);refine⟨q1, ?_⟩;have b0:=J.b0 (by omega);have c0:=J.c0 (by omega);have n0:=J.n0 (by omega);have t0:=J.t0 (by omega);obtain⟨k,m,n,t,B,M,C⟩:=y;simp only at*;rw[a6,q2,b0.1,b0.2,c0,n0,t0]
 ·have a1:=f33 ⟨aM w0,v,0,0,[],[],[]⟩
  have Q:=t40 h hl ⟨aM w0,v,0,0,[],[],[]⟩ ok;have Z:=lR h ⟨aM w0,v,0,0,[],[],[]⟩;generalize wrB ⟨aM w0,v,0,0,[],[],[]⟩=W at*;generalize decide (eV ⟨aM w0,v,0,0,[],[],[]⟩=h++ [10])=D at*;generalize ln bK ⟨aM w0,v,0,0,[],[],[]⟩=L at*;simp only[Stp.sv]at*;rw[show(dZ []:d8)=[]from rfl,show(cZ []:d8)=[]from rfl]at*;unfold z7 at g;unfold s7 at E;rw[am CB];cases ok with
  |false=>simp only[go_sem,Q0,Q1,Q2,Q3,Q4,Q5,Q6,Q7,Q8,Q9,Qa,Qb,Qc,Qd,Qe,Qf,Qg,Qh,Qi,Qj,Qk,reduceCtorEq,reduceIte,z,kj,g,ir,hv,I,mD,E,n2,n4,n5,n6,n7,n8,n9]
  |true=>
   cases W with
   |false=>simp only[go_sem,Q0,Q1,Q2,Q3,Q4,Q5,Q6,Q7,Q8,Q9,Qa,Qb,Qc,Qd,Qe,Qf,Qg,Qh,Qi,Qj,Qk,reduceCtorEq,reduceIte,z,kj,g,ir,hv,I,mD,E,n2,n4,n5,n6,n7,n8,n9,a1,oC]
   |true=>have Q:=Q rfl;have Z:=Z rfl;subst Z;simp only[go_sem,Q0,Q1,Q2,Q3,Q4,Q5,Q6,Q7,Q8,Q9,Qa,Qb,Qc,Qd,Qe,Qf,Qg,Qh,Qi,Qj,Qk,reduceCtorEq,reduceIte,z,kj,g,ir,hv,I,mD,E,n2,n4,n5,n6,n7,n8,n9,a1,oC,Q,CD]
end
section
open Pr (wsv)
theorem xmQ(h91:H91)(h w0:d9)(r:List d9)(hs:dY h=w0::r)(hk:aM w0=2)(hl:h.length<=900000):
 ∃(x:Stp)(ok:Bool),np (w0::r) x ok/\call T 40 [.str h] [] 0=some ⟨.tup [.agg x.sv,.bool (ok&&(wrB x&&decide (eV x=h++ [10])))],[],[]⟩:=by
 have H:=fY h;have F:=dH h;rw[hs]at H F;simp only[ah]at H;have hR:∀w∈r,w.length<=1000000000:=fun w hw=>by have:=F w (af _ hw);omega
 have z:=h91 h (by omega);rw[hs]at z;change call T 91 _ _ _=some ⟨.lst 1 ([.str w0]::wsv r) .no,_,_⟩at z;have a8:=cP w0;have g:=l40 h w0 r (by omega) 12 1 (by omega) (by omega) (by omega);rw[c1]at g;have ir:(1:Int)<=((r.length+1:Nat):Int):=by omega
 have hv:=cH r;have I:fg r.length (wsv r)=wsv r:=by rw[<-hv,ba]
 obtain⟨ok,a,b,c,E,Q⟩:=xmM (aM w0) r hR;refine⟨⟨aM w0,a,b,c,[],[],[]⟩,ok, ?_, ?_⟩
 ·intro y J hw
  unfold wds at hw;injection hw with h1 h2
  have O:aM w0=y.kind:=by rw[h1];exact dC _ J.k1 J.k12
  rw[if_pos (by rw[<-O];exact hk)]at h2;obtain⟨q1,q2,q3,q4⟩:=Q _ _ _ _ _ _ h2 (jO J.fm) (jO J.fn) (jO J.ft);refine⟨q1, ?_⟩;have a7:y.kind=2:=by rw[<-O];exact hk
  have b0:=J.b0 (by omega);have c0:=J.c0 (by omega);obtain⟨k,m,n,t,B,M,C⟩:=y;simp only at*;rw[O,q2,q3,q4,b0.1,b0.2,c0]
 ·have a6:=f33 ⟨aM w0,a,b,c,[],[],[]⟩
  have Z:=t40 h hl ⟨aM w0,a,b,c,[],[],[]⟩ ok;have a1:=lR h ⟨aM w0,a,b,c,[],[],[]⟩;generalize wrB ⟨aM w0,a,b,c,[],[],[]⟩=W at*;generalize decide (eV ⟨aM w0,a,b,c,[],[],[]⟩=h++ [10])=D at*;generalize ln bK ⟨aM w0,a,b,c,[],[],[]⟩=L at*;simp only[Stp.sv]at*;rw[show(dZ []:d8)=[]from rfl,show(cZ []:d8)=[]from rfl]at*;rw[hk]at*;unfold z7 at g;unfold s7 at E;rw[am CB];cases ok with
  |false=>simp only[go_sem,Q0,Q1,Q2,Q3,Q4,Q5,Q6,Q7,Q8,Q9,Qa,Qb,Qc,Qd,Qe,Qf,Qg,Qh,Qi,Qj,Qk,reduceCtorEq,reduceIte,z,kj,g,ir,hv,I,mD,E]
  |true=>
   cases W with
   |false=>simp only[go_sem,Q0,Q1,Q2,Q3,Q4,Q5,Q6,Q7,Q8,Q9,Qa,Qb,Qc,Qd,Qe,Qf,Qg,Qh,Qi,Qj,Qk,reduceCtorEq,reduceIte,z,kj,g,ir,hv,I,mD,E,a6,oC]
   |true=>have Z:=Z rfl;have a1:=a1 rfl;subst a1;simp only[go_sem,Q0,Q1,Q2,Q3,Q4,Q5,Q6,Q7,Q8,Q9,Qa,Qb,Qc,Qd,Qe,Qf,Qg,Qh,Qi,Qj,Qk,reduceCtorEq,reduceIte,z,kj,g,ir,hv,I,mD,E,a6,oC,Z,CD]
end
section
open Pr (wsv)
theorem xhb(h91:H91)(h w0:d9)(r:List d9)(hs:dY h=w0::r)(hk:aM w0=4)(hl:h.length<=900000):
 ∃(x:Stp)(ok:Bool),np (w0::r) x ok/\call T 40 [.str h] [] 0=some ⟨.tup [.agg x.sv,.bool (ok&&(wrB x&&decide (eV x=h++ [10])))],[],[]⟩:=by
 have H:=fY h;have F:=dH h;rw[hs]at H F;simp only[ah]at H;have hR:∀w∈r,w.length<=1000000000:=fun w hw=>by have:=F w (af _ hw);omega
 have z:=h91 h (by omega);rw[hs]at z;change call T 91 _ _ _=some ⟨.lst 1 ([.str w0]::wsv r) .no,_,_⟩at z;have a7:=cP w0;have g:=l40 h w0 r (by omega) 12 1 (by omega) (by omega) (by omega);rw[c1]at g;have ir:(1:Int)<=((r.length+1:Nat):Int):=by omega
 have hv:=cH r;have I:fg r.length (wsv r)=wsv r:=by rw[<-hv,ba]
 obtain⟨ok,v,E,O⟩:=Y4 (aM w0) r hR;refine⟨⟨aM w0,0,v,0,[],[],[]⟩,ok, ?_, ?_⟩
 ·intro y J hw
  unfold wds at hw;injection hw with h1 h2
  have a6:aM w0=y.kind:=by rw[h1];exact dC _ J.k1 J.k12
  rw[if_neg (by omega),if_pos (by omega)]at h2;obtain⟨q1,q2⟩:=O _ _ h2 (jO J.fn);refine⟨q1, ?_⟩;have b0:=J.b0 (by omega);have c0:=J.c0 (by omega);have m0:=J.m0 (by omega) (by omega);have t0:=J.t0 (by omega);obtain⟨k,m,n,t,B,M,C⟩:=y;simp only at*;rw[a6,q2,b0.1,b0.2,c0,m0,t0]
 ·have a1:=f33 ⟨aM w0,0,v,0,[],[],[]⟩
  have Q:=t40 h hl ⟨aM w0,0,v,0,[],[],[]⟩ ok;have Z:=lR h ⟨aM w0,0,v,0,[],[],[]⟩;generalize wrB ⟨aM w0,0,v,0,[],[],[]⟩=W at*;generalize decide (eV ⟨aM w0,0,v,0,[],[],[]⟩=h++ [10])=D at*;generalize ln bK ⟨aM w0,0,v,0,[],[],[]⟩=L at*;simp only[Stp.sv]at*;rw[show(dZ []:d8)=[]from rfl,show(cZ []:d8)=[]from rfl]at*;rw[hk]at*;unfold z7 at g;unfold s7 at E;rw[am CB];cases ok with
  |false=>simp only[go_sem,Q0,Q1,Q2,Q3,Q4,Q5,Q6,Q7,Q8,Q9,Qa,Qb,Qc,Qd,Qe,Qf,Qg,Qh,Qi,Qj,Qk,reduceCtorEq,reduceIte,z,kj,g,ir,hv,I,mD,E]
  |true=>
   cases W with
   |false=>simp only[go_sem,Q0,Q1,Q2,Q3,Q4,Q5,Q6,Q7,Q8,Q9,Qa,Qb,Qc,Qd,Qe,Qf,Qg,Qh,Qi,Qj,Qk,reduceCtorEq,reduceIte,z,kj,g,ir,hv,I,mD,E,a1,oC]
   |true=>have Q:=Q rfl;have Z:=Z rfl;subst Z;simp only[go_sem,Q0,Q1,Q2,Q3,Q4,Q5,Q6,Q7,Q8,Q9,Qa,Qb,Qc,Qd,Qe,Qf,Qg,Qh,Qi,Qj,Qk,reduceCtorEq,reduceIte,z,kj,g,ir,hv,I,mD,E,a1,oC,Q,CD]
theorem xha(h91:H91)(h w0:d9)(r:List d9)(hs:dY h=w0::r)(hk:aM w0=5)(hl:h.length<=900000):
 ∃(x:Stp)(ok:Bool),np (w0::r) x ok/\call T 40 [.str h] [] 0=some ⟨.tup [.agg x.sv,.bool (ok&&(wrB x&&decide (eV x=h++ [10])))],[],[]⟩:=by
 have H:=fY h;have F:=dH h;rw[hs]at H F;simp only[ah]at H;have hR:∀w∈r,w.length<=1000000000:=fun w hw=>by have:=F w (af _ hw);omega
 have z:=h91 h (by omega);rw[hs]at z;change call T 91 _ _ _=some ⟨.lst 1 ([.str w0]::wsv r) .no,_,_⟩at z;have a7:=cP w0;have g:=l40 h w0 r (by omega) 12 1 (by omega) (by omega) (by omega);rw[c1]at g;have ir:(1:Int)<=((r.length+1:Nat):Int):=by omega
 have hv:=cH r;have I:fg r.length (wsv r)=wsv r:=by rw[<-hv,ba]
 obtain⟨ok,v,E,O⟩:=Y4 (aM w0) r hR;refine⟨⟨aM w0,0,v,0,[],[],[]⟩,ok, ?_, ?_⟩
 ·intro y J hw
  unfold wds at hw;injection hw with h1 h2
  have a6:aM w0=y.kind:=by rw[h1];exact dC _ J.k1 J.k12
  rw[if_neg (by omega),if_pos (by omega)]at h2;obtain⟨q1,q2⟩:=O _ _ h2 (jO J.fn);refine⟨q1, ?_⟩;have b0:=J.b0 (by omega);have c0:=J.c0 (by omega);have m0:=J.m0 (by omega) (by omega);have t0:=J.t0 (by omega);obtain⟨k,m,n,t,B,M,C⟩:=y;simp only at*;rw[a6,q2,b0.1,b0.2,c0,m0,t0]
 ·have a1:=f33 ⟨aM w0,0,v,0,[],[],[]⟩
  have Q:=t40 h hl ⟨aM w0,0,v,0,[],[],[]⟩ ok;have Z:=lR h ⟨aM w0,0,v,0,[],[],[]⟩;generalize wrB ⟨aM w0,0,v,0,[],[],[]⟩=W at*;generalize decide (eV ⟨aM w0,0,v,0,[],[],[]⟩=h++ [10])=D at*;generalize ln bK ⟨aM w0,0,v,0,[],[],[]⟩=L at*;simp only[Stp.sv]at*;rw[show(dZ []:d8)=[]from rfl,show(cZ []:d8)=[]from rfl]at*;rw[hk]at*;unfold z7 at g;unfold s7 at E;rw[am CB];cases ok with
  |false=>simp only[go_sem,Q0,Q1,Q2,Q3,Q4,Q5,Q6,Q7,Q8,Q9,Qa,Qb,Qc,Qd,Qe,Qf,Qg,Qh,Qi,Qj,Qk,reduceCtorEq,reduceIte,z,kj,g,ir,hv,I,mD,E]
  |true=>
   cases W with
   |false=>simp only[go_sem,Q0,Q1,Q2,Q3,Q4,Q5,Q6,Q7,Q8,Q9,Qa,Qb,Qc,Qd,Qe,Qf,Qg,Qh,Qi,Qj,Qk,reduceCtorEq,reduceIte,z,kj,g,ir,hv,I,mD,E,a1,oC]
   |true=>have Q:=Q rfl;have Z:=Z rfl;subst Z;simp only[go_sem,Q0,Q1,Q2,Q3,Q4,Q5,Q6,Q7,Q8,Q9,Qa,Qb,Qc,Qd,Qe,Qf,Qg,Qh,Qi,Qj,Qk,reduceCtorEq,reduceIte,z,kj,g,ir,hv,I,mD,E,a1,oC,Q,CD]
theorem xg9(h91:H91)(h w0:d9)(r:List d9)(hs:dY h=w0::r)(hk:aM w0=6)(hl:h.length<=900000):
 ∃(x:Stp)(ok:Bool),np (w0::r) x ok/\call T 40 [.str h] [] 0=some ⟨.tup [.agg x.sv,.bool (ok&&(wrB x&&decide (eV x=h++ [10])))],[],[]⟩:=by
 have H:=fY h;have F:=dH h;rw[hs]at H F;simp only[ah]at H;have hR:∀w∈r,w.length<=1000000000:=fun w hw=>by have:=F w (af _ hw);omega
 have z:=h91 h (by omega);rw[hs]at z;change call T 91 _ _ _=some ⟨.lst 1 ([.str w0]::wsv r) .no,_,_⟩at z;have a7:=cP w0;have g:=l40 h w0 r (by omega) 12 1 (by omega) (by omega) (by omega);rw[c1]at g;have ir:(1:Int)<=((r.length+1:Nat):Int):=by omega
 have hv:=cH r;have I:fg r.length (wsv r)=wsv r:=by rw[<-hv,ba]
 obtain⟨ok,v,E,O⟩:=Y4 (aM w0) r hR;refine⟨⟨aM w0,0,v,0,[],[],[]⟩,ok, ?_, ?_⟩
 ·intro y J hw
  unfold wds at hw;injection hw with h1 h2
  have a6:aM w0=y.kind:=by rw[h1];exact dC _ J.k1 J.k12
  rw[if_neg (by omega),if_pos (by omega)]at h2;obtain⟨q1,q2⟩:=O _ _ h2 (jO J.fn);refine⟨q1, ?_⟩;have b0:=J.b0 (by omega);have c0:=J.c0 (by omega);have m0:=J.m0 (by omega) (by omega);have t0:=J.t0 (by omega);obtain⟨k,m,n,t,B,M,C⟩:=y;simp only at*;rw[a6,q2,b0.1,b0.2,c0,m0,t0]
 ·have a1:=f33 ⟨aM w0,0,v,0,[],[],[]⟩
  have Q:=t40 h hl ⟨aM w0,0,v,0,[],[],[]⟩ ok;have Z:=lR h ⟨aM w0,0,v,0,[],[],[]⟩;generalize wrB ⟨aM w0,0,v,0,[],[],[]⟩=W at*;generalize decide (eV ⟨aM w0,0,v,0,[],[],[]⟩=h++ [10])=D at*;generalize ln bK ⟨aM w0,0,v,0,[],[],[]⟩=L at*;simp only[Stp.sv]at*;rw[show(dZ []:d8)=[]from rfl,show(cZ []:d8)=[]from rfl]at*;rw[hk]at*;unfold z7 at g;unfold s7 at E;rw[am CB];cases ok with
  |false=>simp only[go_sem,Q0,Q1,Q2,Q3,Q4,Q5,Q6,Q7,Q8,Q9,Qa,Qb,Qc,Qd,Qe,Qf,Qg,Qh,Qi,Qj,Qk,reduceCtorEq,reduceIte,z,kj,g,ir,hv,I,mD,E]
  |true=>
   cases W with
   |false=>simp only[go_sem,Q0,Q1,Q2,Q3,Q4,Q5,Q6,Q7,Q8,Q9,Qa,Qb,Qc,Qd,Qe,Qf,Qg,Qh,Qi,Qj,Qk,reduceCtorEq,reduceIte,z,kj,g,ir,hv,I,mD,E,a1,oC]
   |true=>have Q:=Q rfl;have Z:=Z rfl;subst Z;simp only[go_sem,Q0,Q1,Q2,Q3,Q4,Q5,Q6,Q7,Q8,Q9,Qa,Qb,Qc,Qd,Qe,Qf,Qg,Qh,Qi,Qj,Qk,reduceCtorEq,reduceIte,z,kj,g,ir,hv,I,mD,E,a1,oC,Q,CD]
theorem xg8(h91:H91)(h w0:d9)(r:List d9)(hs:dY h=w0::r)(hk:aM w0=7)(hl:h.length<=900000):
 ∃(x:Stp)(ok:Bool),np (w0::r) x ok/\call T 40 [.str h] [] 0=some ⟨.tup [.agg x.sv,.bool (ok&&(wrB x&&decide (eV x=h++ [10])))],[],[]⟩:=by
 have H:=fY h;have F:=dH h;rw[hs]at H F;simp only[ah]at H;have hR:∀w∈r,w.length<=1000000000:=fun w hw=>by have:=F w (af _ hw);omega
 have z:=h91 h (by omega);rw[hs]at z;change call T 91 _ _ _=some ⟨.lst 1 ([.str w0]::wsv r) .no,_,_⟩at z;have a7:=cP w0;have g:=l40 h w0 r (by omega) 12 1 (by omega) (by omega) (by omega);rw[c1]at g;have ir:(1:Int)<=((r.length+1:Nat):Int):=by omega
 have hv:=cH r;have I:fg r.length (wsv r)=wsv r:=by rw[<-hv,ba]
 obtain⟨ok,v,E,O⟩:=Y4 (aM w0) r hR;refine⟨⟨aM w0,0,v,0,[],[],[]⟩,ok, ?_, ?_⟩
 ·intro y J hw
  unfold wds at hw;injection hw with h1 h2
  have a6:aM w0=y.kind:=by rw[h1];exact dC _ J.k1 J.k12
  rw[if_neg (by omega),if_pos (by omega)]at h2;obtain⟨q1,q2⟩:=O _ _ h2 (jO J.fn);refine⟨q1, ?_⟩;have b0:=J.b0 (by omega);have c0:=J.c0 (by omega);have m0:=J.m0 (by omega) (by omega);have t0:=J.t0 (by omega);obtain⟨k,m,n,t,B,M,C⟩:=y;simp only at*;rw[a6,q2,b0.1,b0.2,c0,m0,t0]
 ·have a1:=f33 ⟨aM w0,0,v,0,[],[],[]⟩
  have Q:=t40 h hl ⟨aM w0,0,v,0,[],[],[]⟩ ok;have Z:=lR h ⟨aM w0,0,v,0,[],[],[]⟩;generalize wrB ⟨aM w0,0,v,0,[],[],[]⟩=W at*;generalize decide (eV ⟨aM w0,0,v,0,[],[],[]⟩=h++ [10])=D at*;generalize ln bK ⟨aM w0,0,v,0,[],[],[]⟩=L at*;simp only[Stp.sv]at*;rw[show(dZ []:d8)=[]from rfl,show(cZ []:d8)=[]from rfl]at*;rw[hk]at*;unfold z7 at g;unfold s7 at E;rw[am CB];cases ok with
  |false=>simp only[go_sem,Q0,Q1,Q2,Q3,Q4,Q5,Q6,Q7,Q8,Q9,Qa,Qb,Qc,Qd,Qe,Qf,Qg,Qh,Qi,Qj,Qk,reduceCtorEq,reduceIte,z,kj,g,ir,hv,I,mD,E]
  |true=>
   cases W with
   |false=>simp only[go_sem,Q0,Q1,Q2,Q3,Q4,Q5,Q6,Q7,Q8,Q9,Qa,Qb,Qc,Qd,Qe,Qf,Qg,Qh,Qi,Qj,Qk,reduceCtorEq,reduceIte,z,kj,g,ir,hv,I,mD,E,a1,oC]
   |true=>have Q:=Q rfl;have Z:=Z rfl;subst Z;simp only[go_sem,Q0,Q1,Q2,Q3,Q4,Q5,Q6,Q7,Q8,Q9,Qa,Qb,Qc,Qd,Qe,Qf,Qg,Qh,Qi,Qj,Qk,reduceCtorEq,reduceIte,z,kj,g,ir,hv,I,mD,E,a1,oC,Q,CD]
end
section
open Pr (wsv)
theorem Cm:∀(y:List Mk)(acc:List Mk),(∀m∈y,jc m.auth)->dmX (mkW y) acc=(acc++y,true)
 |[],acc,_=>by simp[mkW,dmX]
 |m::r,acc,h=>by rw[mkW,dmX,jO (h m aq),nQ];simp only;rw[Cm r _ (fun x z=>h x (af _ z)),ay];rfl
theorem xmP(h91:H91)(h w0:d9)(r:List d9)(hs:dY h=w0::r)(hk:aM w0=8)(hl:h.length<=900000):
 ∃(x:Stp)(ok:Bool),np (w0::r) x ok/\call T 40 [.str h] [] 0=some ⟨.tup [.agg x.sv,.bool (ok&&(wrB x&&decide (eV x=h++ [10])))],[],[]⟩:=by
 have H:=fY h;have F:=dH h;rw[hs]at H F;simp only[ah]at H;have hR:∀w∈r,w.length<=1000000000:=fun w hw=>by have:=F w (af _ hw);omega
 have z:=h91 h (by omega);rw[hs]at z;change call T 91 _ _ _=some ⟨.lst 1 ([.str w0]::wsv r) .no,_,_⟩at z;have a7:=cP w0;have g:=l40 h w0 r (by omega) 12 1 (by omega) (by omega) (by omega);rw[c1]at g;have ir:(1:Int)<=((r.length+1:Nat):Int):=by omega
 have hv:=cH r;have I:fg r.length (wsv r)=wsv r:=by rw[<-hv,ba]
 have E:=f93 r hR (by omega);obtain⟨ok,Z⟩:∃ok,ok=(doX r).2.2:=⟨_,rfl⟩;refine⟨⟨aM w0,0,0,0,(doX r).1,(doX r).2.1,[]⟩,ok, ?_, ?_⟩
 ·intro y J hw
  unfold wds at hw;injection hw with h1 h2
  have a6:aM w0=y.kind:=by rw[h1];exact dC _ J.k1 J.k12
  rw[if_neg (by omega),if_neg (by omega),if_pos (by omega)]at h2
  have hd:doX r=(y.body,y.marks,true):=by rw[h2];unfold doX;rw[if_neg (by rw[ah,Cf];omega),dE,nQ];simp only[List.drop_succ_cons,bj];rw[Cm _ _ (fun m hm=>(J.mks m hm).1)];rfl
  rw[hd]at Z ⊢;refine⟨Z, ?_⟩;have c0:=J.c0 (by omega);have m0:=J.m0 (by omega) (by omega);have n0:=J.n0 (by omega);have t0:=J.t0 (by omega);obtain⟨k,m,n,t,B,M,C⟩:=y;simp only at*;rw[a6,c0,m0,n0,t0]
 ·have a1:=f33 ⟨aM w0,0,0,0,(doX r).1,(doX r).2.1,[]⟩
  have O:=t40 h hl ⟨aM w0,0,0,0,(doX r).1,(doX r).2.1,[]⟩ ok;have Q:=lR h ⟨aM w0,0,0,0,(doX r).1,(doX r).2.1,[]⟩;generalize wrB ⟨aM w0,0,0,0,(doX r).1,(doX r).2.1,[]⟩=W at*;generalize decide (eV ⟨aM w0,0,0,0,(doX r).1,(doX r).2.1,[]⟩=h++ [10])=D at*;generalize ln bK ⟨aM w0,0,0,0,(doX r).1,(doX r).2.1,[]⟩=L at*;simp only[Stp.sv]at*;rw[<-Z]at E;rw[show(cZ []:d8)=[]from rfl]at*;rw[hk]at*;unfold z7 at g;rw[am CB];cases ok with
  |false=>simp only[go_sem,Q0,Q1,Q2,Q3,Q4,Q5,Q6,Q7,Q8,Q9,Qa,Qb,Qc,Qd,Qe,Qf,Qg,Qh,Qi,Qj,Qk,reduceCtorEq,reduceIte,z,kj,g,ir,hv,I,xeM,E]
  |true=>
   cases W with
   |false=>simp only[go_sem,Q0,Q1,Q2,Q3,Q4,Q5,Q6,Q7,Q8,Q9,Qa,Qb,Qc,Qd,Qe,Qf,Qg,Qh,Qi,Qj,Qk,reduceCtorEq,reduceIte,z,kj,g,ir,hv,I,xeM,E,a1,oC]
   |true=>have O:=O rfl;have Q:=Q rfl;subst Q;simp only[go_sem,Q0,Q1,Q2,Q3,Q4,Q5,Q6,Q7,Q8,Q9,Qa,Qb,Qc,Qd,Qe,Qf,Qg,Qh,Qi,Qj,Qk,reduceCtorEq,reduceIte,z,kj,g,ir,hv,I,xeM,E,a1,oC,O,CD]
end
section
open Pr (wsv)
theorem xmO(h91:H91)(h w0:d9)(r:List d9)(hs:dY h=w0::r)(hk:aM w0=9)(hl:h.length<=900000):
 ∃(x:Stp)(ok:Bool),np (w0::r) x ok/\call T 40 [.str h] [] 0=some ⟨.tup [.agg x.sv,.bool (ok&&(wrB x&&decide (eV x=h++ [10])))],[],[]⟩:=by
 have H:=fY h;have F:=dH h;rw[hs]at H F;simp only[ah]at H;have hR:∀w∈r,w.length<=1000000000:=fun w hw=>by have:=F w (af _ hw);omega
 have z:=h91 h (by omega);rw[hs]at z;change call T 91 _ _ _=some ⟨.lst 1 ([.str w0]::wsv r) .no,_,_⟩at z;have b1:=cP w0;have g:=l40 h w0 r (by omega) 12 1 (by omega) (by omega) (by omega);rw[c1]at g;have ir:(1:Int)<=((r.length+1:Nat):Int):=by omega
 have hv:=cH r;have I:fg r.length (wsv r)=wsv r:=by rw[<-hv,ba]
 have E:=f94 r hR;obtain⟨ok,Z⟩:∃ok,ok=(inX r).2.2:=⟨_,rfl⟩;refine⟨⟨9,(inX r).1,0,0,[],[],(inX r).2.1⟩,ok, ?_, ?_⟩
 ·intro y J hw
  unfold wds at hw;injection hw with h1 h2
  have a8:aM w0=y.kind:=by rw[h1];exact dC _ J.k1 J.k12
  rw[if_neg (by omega),if_neg (by omega),if_neg (by omega),if_pos (by omega)]at h2;have a7:chE y.chain=0:=J.ch (by omega)
  have hd:inX r=(y.mach,y.chain,true):=by rw[h2];simp only[inX,jO J.fm,nQ,(NS a7).1];rfl
  rw[hd]at Z ⊢;refine⟨Z, ?_⟩;have b0:=J.b0 (by omega);have n0:=J.n0 (by omega);have t0:=J.t0 (by omega);have a6:y.kind=9:=by omega
  obtain⟨k,m,n,t,B,M,C⟩:=y;simp only at*;rw[a6,b0.1,b0.2,n0,t0]
 ·have a1:=f33 ⟨9,(inX r).1,0,0,[],[],(inX r).2.1⟩
  have O:=t40 h hl ⟨9,(inX r).1,0,0,[],[],(inX r).2.1⟩ ok;have Q:=lR h ⟨9,(inX r).1,0,0,[],[],(inX r).2.1⟩;generalize wrB ⟨9,(inX r).1,0,0,[],[],(inX r).2.1⟩=W at*;generalize decide (eV ⟨9,(inX r).1,0,0,[],[],(inX r).2.1⟩=h++ [10])=D at*;generalize ln bK ⟨9,(inX r).1,0,0,[],[],(inX r).2.1⟩=L at*;simp only[Stp.sv]at*;rw[<-Z]at E;rw[show(dZ []:d8)=[]from rfl]at*;rw[hk]at*;unfold z7 at g;rw[am CB];cases ok with
  |false=>simp only[go_sem,Q0,Q1,Q2,Q3,Q4,Q5,Q6,Q7,Q8,Q9,Qa,Qb,Qc,Qd,Qe,Qf,Qg,Qh,Qi,Qj,Qk,reduceCtorEq,reduceIte,z,kj,g,ir,hv,I,xeL,E]
  |true=>
   cases W with
   |false=>simp only[go_sem,Q0,Q1,Q2,Q3,Q4,Q5,Q6,Q7,Q8,Q9,Qa,Qb,Qc,Qd,Qe,Qf,Qg,Qh,Qi,Qj,Qk,reduceCtorEq,reduceIte,z,kj,g,ir,hv,I,xeL,E,a1,oC]
   |true=>have O:=O rfl;have Q:=Q rfl;subst Q;simp only[go_sem,Q0,Q1,Q2,Q3,Q4,Q5,Q6,Q7,Q8,Q9,Qa,Qb,Qc,Qd,Qe,Qf,Qg,Qh,Qi,Qj,Qk,reduceCtorEq,reduceIte,z,kj,g,ir,hv,I,xeL,E,a1,oC,O,CD]
end
theorem f40(h91:H91)(h:d9)(y:h.length<=900000):
 ∃(x:Stp)(b:Bool),(rd okC bK h=if b=true then some x else none)/\call T 40 [.str h] [] 0=some ⟨.tup [.agg x.sv,.bool b],[],[]⟩:=by
 cases hs:dY h with
 |nil=>exact absurd hs (AD h)
 |cons w0 r=>
  have F:=cP w0
  have z:∃(x:Stp)(ok:Bool),np (w0::r) x ok/\call T 40 [.str h] [] 0=some ⟨.tup [.agg x.sv,.bool (ok&&(wrB x&&decide (eV x=h++ [10])))],[],[]⟩:=by
   by_cases c2:aM w0=2
   ·exact xmQ h91 h w0 r hs c2 y
   by_cases c4:aM w0=4
   ·exact xhb h91 h w0 r hs c4 y
   by_cases c5:aM w0=5
   ·exact xha h91 h w0 r hs c5 y
   by_cases c6:aM w0=6
   ·exact xg9 h91 h w0 r hs c6 y
   by_cases C:aM w0=7
   ·exact xg8 h91 h w0 r hs C y
   by_cases c8:aM w0=8
   ·exact xmP h91 h w0 r hs c8 y
   by_cases c9:aM w0=9
   ·exact xmO h91 h w0 r hs c9 y
   exact xmR h91 h w0 r hs (by omega) y
  obtain⟨x,ok,E,g⟩:=z;refine⟨x,_,xg7 (by rw[hs];exact E),g⟩
theorem l12(h91:H91):∀(f:Nat)(t:d9)(acc:List Stp),t.length<=f->t.length<=900000->acc.length+f<=2000000->
 ∃y:Stp,run T (.loop OY) ⟨[(0,.str t),(5,.lst 7 (dO acc) (.id 105))],[],[105]⟩=
  if(prT okC bK f t).2=true then some (.x 0,⟨[(5,.lst 7 (dO (acc++(prT okC bK f t).1)) (.id 105))],[],[105]⟩)
  else some (.r,⟨[(2,.lst 7 [] .clip),(3,.int .i64 (acc.length+(prT okC bK f t).1.length:Nat)),(4,.int .i64 1)],[(109,.rc y.sv)],[105]⟩):=by
 intro f;induction f with
 |zero=>intro t acc W h1 h2;have:t=[]:=bx.1 (by omega);subst this;refine⟨st0, ?_⟩;rw[aj];simp only[go_sem,Q0,Q1,Q2,Q3,Q4,Q5,Q6,Q7,Q8,Q9,Qa,Qb,Qc,Qd,Qe,Qf,Qg,Qh,Qi,Qj,Qk,reduceCtorEq,reduceIte,prT,aZ]
 |succ f ih=>
  intro t acc W h1 h2
  by_cases H:t=[]
  ·subst H
   refine⟨st0, ?_⟩;rw[aj,prT,if_pos rfl];simp only[go_sem,Q0,Q1,Q2,Q3,Q4,Q5,Q6,Q7,Q8,Q9,Qa,Qb,Qc,Qd,Qe,Qf,Qg,Qh,Qi,Qj,Qk,reduceCtorEq,reduceIte,aZ]
  ·have I:=tZ t
   obtain⟨x,b,E,z⟩:=f40 h91 (cut t).1 (by omega);have h:=f39 t (by omega);have hv:=co acc;have hb:(acc.length+1)*104<=140737488355328:=by omega
   rw[prT,if_neg H];cases hc:cut t with
   |mk w o=>
   rw[hc]at E z h I;simp only at E z h I;cases o with
   |none=>
    refine⟨x, ?_⟩;simp only[az,if_false,au,bW];simp only[fB,eh]at h;obtain⟨k,m,L,O,B,M,C⟩:=x;simp only[Stp.sv]at*;rw[aj];cases b with
    |false=>simp only[go_sem,Q0,Q1,Q2,Q3,Q4,Q5,Q6,Q7,Q8,Q9,Qa,Qb,Qc,Qd,Qe,Qf,Qg,Qh,Qi,Qj,Qk,reduceCtorEq,reduceIte,H,h,Zu,z,Zt,hv]
    |true=>simp only[go_sem,Q0,Q1,Q2,Q3,Q4,Q5,Q6,Q7,Q8,Q9,Qa,Qb,Qc,Qd,Qe,Qf,Qg,Qh,Qi,Qj,Qk,reduceCtorEq,reduceIte,H,h,Zu,z,Zt,hv]
   |some r=>
    have Z:=zK hc;simp only[aO,eT]at h;cases b with
    |false=>rw[if_neg (by simp)]at E;refine⟨x, ?_⟩;simp only[E,az,if_false,au,bW];obtain⟨k,m,L,O,B,M,C⟩:=x;simp only[Stp.sv]at*;rw[aj];simp only[go_sem,Q0,Q1,Q2,Q3,Q4,Q5,Q6,Q7,Q8,Q9,Qa,Qb,Qc,Qd,Qe,Qf,Qg,Qh,Qi,Qj,Qk,reduceCtorEq,reduceIte,H,h,Zu,z,Zt,hv]
    |true=>rw[if_pos rfl]at E;obtain⟨y,F⟩:=ih r (acc++ [x]) (by omega) (by omega) (by simp only[ac,aD];omega);refine⟨y, ?_⟩;simp only[E,ah];generalize prT okC bK f r=Q at*;obtain⟨J,q2⟩:=Q;simp only at F ⊢;rw[ay,cf,<-bS,ac,aD]at F;rw[show acc.length+(J.length+1)=acc.length+1+J.length from by omega,<-F];obtain⟨k,m,L,O,B,M,C⟩:=x;simp only[Stp.sv]at*;rw[aj];simp only[go_sem,Q0,Q1,Q2,Q3,Q4,Q5,Q6,Q7,Q8,Q9,Qa,Qb,Qc,Qd,Qe,Qf,Qg,Qh,Qi,Qj,Qk,reduceCtorEq,reduceIte,H,h,Zu,z,Zt,hv,hb]
theorem f12(h91:H91)(h:d9)(z:h.length<=900000):call T 12 [.str h] [] 0=
 some ⟨if(prT okC bK h.length h).2=true then .tup [.lst 7 (dO (prT okC bK h.length h).1) .no,.int .i64 ((prT okC bK h.length h).1.length:Nat),.int .i64 0]
  else .tup [.lst 7 [] .no,.int .i64 ((prT okC bK h.length h).1.length:Nat),.int .i64 1],[],[]⟩:=by
 obtain⟨y,g⟩:=l12 h91 h.length h [] (by omega) z (by simp only[au];omega);rw[aR,au,cd]at g;rw[show dO []=[]from rfl]at g;have hv:=co (prT okC bK h.length h).1;generalize prT okC bK h.length h=Q at*;obtain⟨H,E⟩:=Q;obtain⟨k,m,F,t,B,M,C⟩:=y;simp only[Stp.sv]at*;rw[am xn8];cases E with
 |false=>simp only[az,if_false]at g ⊢;simp only[go_sem,Q0,Q1,Q2,Q3,Q4,Q5,Q6,Q7,Q8,Q9,Qa,Qb,Qc,Qd,Qe,Qf,Qg,Qh,Qi,Qj,Qk,reduceCtorEq,reduceIte,g]
 |true=>simp only[if_true]at g ⊢;simp only[go_sem,Q0,Q1,Q2,Q3,Q4,Q5,Q6,Q7,Q8,Q9,Qa,Qb,Qc,Qd,Qe,Qf,Qg,Qh,Qi,Qj,Qk,reduceCtorEq,reduceIte,g,hv]
section
open Pr (wsv)
theorem f156(s:d9)(h:s.length<=1000000000):call T 156 [.str s,.str [32],.int .i64 0,.int .i64 (-1)] [] 0=some ⟨.lst 1 (wsv (dY s)) .no,[],[]⟩:=by rw[eY xik];exact if_pos h
theorem xey:H91:=by intro s h;have g:=f156 s h;rw[am xnB];simp only[go_sem,Q0,Q1,Q2,Q3,Q4,Q5,Q6,Q7,Q8,Q9,Qa,Qb,Qc,Qd,Qe,Qf,Qg,Qh,Qi,Qj,Qk,reduceCtorEq,reduceIte,g,xiL]
theorem xmF:H97:=fun s h=>f97 s h
end
end Go.Proofs.YtmhhnklkcmpdkaaGreatDoor
