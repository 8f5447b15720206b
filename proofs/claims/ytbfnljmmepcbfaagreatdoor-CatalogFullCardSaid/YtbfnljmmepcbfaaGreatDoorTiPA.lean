/- What the functions come to. No condition. -/
import Derived.Test.YtbfnljmmepcbfaaGreatDoorTePA
import Derived.Test.YtbfnljmmepcbfaaGreatDoorThPA
open Int renaming natCast_zero -> aD
open Go.IntKind renaming i64 -> ah, u64 -> aU, wrap_u64 -> bM
open List renaming append_assoc -> ay, append_nil -> bG, cons_append -> bg, drop_eq_getElem_cons -> bE, drop_length -> bP, drop_zero -> bh, flatten_cons -> cr, foldl_cons -> dO, foldl_nil -> nH, getD_eq_getElem?_getD -> aa, getElem?_eq_getElem -> ac, getElem_of_mem -> bn, length_append -> af, length_cons -> am, length_nil -> aB, length_singleton -> br, length_take -> ax, map_append -> du, map_cons -> aF, mem_append -> al, mem_cons -> aw, mem_cons_of_mem -> av, mem_cons_self -> aE, mem_singleton -> bw, nil_append -> aI, take_of_length_le -> bj
open Nat renaming add_mul -> bv, le_refl -> aK, lt_or_ge -> bO, zero_le -> bH
open Option renaming some -> aq
open UInt8 renaming ofInt -> cQ
set_option maxRecDepth 100000
set_option maxHeartbeats 16000000
set_option linter.unusedSimpArgs false
set_option linter.unusedVariables false
namespace Go.Proofs.YtbfnljmmepcbfaaGreatDoor
open Go.Sy
open UInt8 renaming reduceLT -> Q0, reduceLE -> Q1
open Int renaming reduceToNat -> Q2, reduceLE -> Q3, reduceLT -> Q4, reduceEq -> Q5, reduceNe -> Q6, reduceNeg -> Q7, reduceAdd -> Q8, reduceSub -> Q9, reduceMul -> Qa
open Nat renaming reducePow -> Qb, reduceDiv -> Qc, reduceMod -> Qd, reduceAdd -> Qe, reduceSub -> Qf, reduceMul -> Qg, reduceLT -> Qh, reduceLeDiff -> Qi, reduceEqDiff -> Qj, reduceBEq -> Qk
def hdM(m:Man):List UInt8:=jz ([]++bu 1 21) m.vendor++bu 4 m.ver++bu 4 m.flr++bu 6 m.frm++bu 6 m.til++bu 1 (m.ents.length:Int)
theorem cA(k:Nat)(v:Int):(bu k v).length=k:=kJ ..
theorem km(B:List UInt8)(k:Nat)(v:Int)(h1:1<=k)(h8:k<=8)(hB:B.length<=10000000000000):
 call T 101 [.byt B .no,.int .i64 k,.int .i64 v] [] 0=some ⟨.byt (B++bu k v) (.id 60),[],[60]⟩:=xjK B k v h1 h8 hB
def l9(B:List UInt8)(x:Ent):List UInt8:=jz (B++bu 1 x.role) x.name++bu 4 x.ver++x.dig
def kQ(B:List UInt8)(r:Rul):List UInt8:=jz (B++bu 1 r.kind) r.text++bu 4 r.lo++bu 4 r.hi
theorem pC(B:List UInt8)(x:Ent)(hn:x.name.length<=1000000)(hd:x.dig.length<=1000000):(l9 B x).length<=B.length+2000007:=by unfold l9;rw[af,af,fj,af,cA,cA];omega
theorem pd(B:List UInt8)(x:Rul)(hn:x.text.length<=1000000):(kQ B x).length<=B.length+2000007:=by unfold kQ;rw[af,af,fj,af,cA,cA,cA];omega
def tkA:Bool->List Nat
 |false=> [103,12060,17060,21060,24060,28060,31060]
 |true=> [103,12060,17060,21060,24060,28060,31060,51060]
theorem xer(m:Man)(hm:dz m)(b:Bool)(i:Nat)(hi:i<m.ents.length)(B:List UInt8)(hB:B.length<=1000000000):
 run T (.loop pU) ⟨[(1,.ptr 101 0),(3,.byt B (.id 103)),(37,.lst 4 (eC m.ents) .no),(38,.int .i64 m.ents.length),(39,.int .i64 i)],[(101,.rc m.sv)],tkA b⟩=
 run T (.loop pU) ⟨[(1,.ptr 101 0),(3,.byt (l9 B (m.ents.getD i en0)) (.id 103)),(37,.lst 4 (eC m.ents) .no),(38,.int .i64 m.ents.length),(39,.int .i64 ((i+1:Nat):Int))],[(101,.rc m.sv)],tkA true⟩:=by
 have k1:((1:Nat):Int)=1:=rfl;have k4:((4:Nat):Int)=4:=rfl;have hen:=hm.en;have e1:=cZ i (by omega);have hg:=gE m.ents i hi;have hel:=dH m.ents;obtain⟨hxn,hxd⟩:=hm.e _ (cE m.ents en0 i hi);clear hm;generalize m.ents.getD i en0=x at*;unfold l9;have u1:=km B 1 x.role (by omega) (by omega) (by omega);rw[k1]at u1;have n1:(B++bu 1 x.role).length<=1000000001:=by rw[af,cA];omega
 generalize B++bu 1 x.role=B1 at*;have u2:=xdI B1 x.name (by omega) (by omega);have n2:(jz B1 x.name).length<=1010000000:=by rw[fj];omega
 generalize jz B1 x.name=B2 at*;have u3:=km B2 4 x.ver (by omega) (by omega) (by omega);rw[k4]at u3;have n3:(B2++bu 4 x.ver).length<=1010000004:=by rw[af,cA];omega
 generalize B2++bu 4 x.ver=B3 at*;have n4:B3.length+x.dig.length<=140737488355328:=by omega
 obtain⟨mv,m1,m2,m3,m4,es,rs⟩:=m;obtain⟨x1,x2,x3,x4⟩:=x;simp only[Man.sv,Ent.sv]at*;cases b with
 |false=>rw[ai];simp only[tkA];simp only[go_sem,Qb,Qc,Qd,Qe,Qg,Qh,Qi,Qj,Qk,reduceCtorEq,reduceIte,hi,e1,hg,hel,u1,u2,u3,n4,ko,lS]
 |true=>rw[ai];simp only[tkA];simp only[go_sem,Qb,Qc,Qd,Qe,Qg,Qh,Qi,Qj,Qk,reduceCtorEq,reduceIte,hi,e1,hg,hel,u1,u2,u3,n4,ko,lS]
theorem xkW(m:Man)(hm:dz m)(h16:m.ents.length<=16):∀(n i:Nat)(b:Bool)(B:List UInt8),m.ents.length-i=n->i<=m.ents.length->B.length<=20000000+i*2000007->
 ∃b',run T (.loop pU) ⟨[(1,.ptr 101 0),(3,.byt B (.id 103)),(37,.lst 4 (eC m.ents) .no),(38,.int .i64 m.ents.length),(39,.int .i64 i)],[(101,.rc m.sv)],tkA b⟩=
 some (.x 0,⟨[(1,.ptr 101 0),(3,.byt ((m.ents.drop i).foldl l9 B) (.id 103))],[(101,.rc m.sv)],tkA b'⟩):=by
 intro n;induction n with
 |zero=>
  intro i b B h0 h1 h2;have:i=m.ents.length:=by omega
  subst this;refine⟨b, ?_⟩;rw[bP,nH,ai];cases b with
  |false=>simp only[tkA];simp only[go_sem,Qh,Qj,Qk,reduceIte]
  |true=>simp only[tkA];simp only[go_sem,Qh,Qj,Qk,reduceIte]
 |succ n ih=>
  intro i b B h0 h1 h2;have hi:i<m.ents.length:=by omega
  have hdr:m.ents.drop i=m.ents.getD i en0::m.ents.drop (i+1):=by rw[bE hi,aa,ac hi];rfl
  obtain⟨hxn,hxd⟩:=hm.e _ (cE m.ents en0 i hi);have hl:=pC B (m.ents.getD i en0) hxn hxd;rw[xer m hm b i hi B (by omega),hdr,dO];exact ih (i+1) true _ (by omega) (by omega) (by omega)
def tkB:Bool->List Nat
 |false=> [103,12060,17060,21060,24060,28060,31060,64060]
 |true=> [103,12060,17060,21060,24060,28060,31060,51060,64060]
def tkC:Bool->List Nat
 |false=> [103,12060,17060,21060,24060,28060,31060,64060,79060,86060]
 |true=> [103,12060,17060,21060,24060,28060,31060,51060,64060,79060,86060]
theorem xeq(m:Man)(b:Bool)(t:Nat)(tk:List Nat)(ht:(t=64060/\tk=tkB b)\/(t=86060/\tk=tkC b))(rs:List Rul)(hx:∀x∈rs,x.text.length<=1000000)(hn:rs.length<=1000000)(i:Nat)(hi:i<rs.length)(B:List UInt8)(hB:B.length<=1000000000):
 run T (.loop pT) ⟨[(3,.byt B (.id t)),(65,.lst 4 (eG rs) .no),(66,.int .i64 rs.length),(67,.int .i64 i)],[(101,.rc m.sv)],tk⟩=
 run T (.loop pT) ⟨[(3,.byt (kQ B (rs.getD i rl0)) (.id 86060)),(65,.lst 4 (eG rs) .no),(66,.int .i64 rs.length),(67,.int .i64 ((i+1:Nat):Int))],[(101,.rc m.sv)],tkC b⟩:=by
 have k1:((1:Nat):Int)=1:=rfl;have k4:((4:Nat):Int)=4:=rfl;have e1:=cZ i (by omega);have hg:=iY rs i hi;have hel:=dD rs;have hxn:=hx _ (cE rs rl0 i hi);generalize rs.getD i rl0=x at*;unfold kQ;have u1:=km B 1 x.kind (by omega) (by omega) (by omega);rw[k1]at u1;have n1:(B++bu 1 x.kind).length<=1000000001:=by rw[af,cA];omega
 generalize B++bu 1 x.kind=B1 at*;have u2:=xdI B1 x.text (by omega) (by omega);have n2:(jz B1 x.text).length<=1010000000:=by rw[fj];omega
 generalize jz B1 x.text=B2 at*;have u3:=km B2 4 x.lo (by omega) (by omega) (by omega);rw[k4]at u3;have n3:(B2++bu 4 x.lo).length<=1010000004:=by rw[af,cA];omega
 generalize B2++bu 4 x.lo=B3 at*;have u4:=km B3 4 x.hi (by omega) (by omega) (by omega);rw[k4]at u4;obtain⟨mv,m1,m2,m3,m4,es,rs'⟩:=m;obtain⟨x1,x2,x3,x4⟩:=x;simp only[Rul.sv,Man.sv]at*;rcases ht with⟨rfl,rfl⟩|⟨rfl,rfl⟩
 ·cases b with
  |false=>rw[ai];simp only[tkB,tkC];simp only[go_sem,Qb,Qc,Qd,Qe,Qg,Qh,Qi,Qj,Qk,reduceCtorEq,reduceIte,hi,e1,hg,hel,u1,u2,u3,u4,ko,lS]
  |true=>rw[ai];simp only[tkB,tkC];simp only[go_sem,Qb,Qc,Qd,Qe,Qg,Qh,Qi,Qj,Qk,reduceCtorEq,reduceIte,hi,e1,hg,hel,u1,u2,u3,u4,ko,lS]
 ·cases b with
  |false=>rw[ai];simp only[tkC];simp only[go_sem,Qb,Qc,Qd,Qe,Qg,Qh,Qi,Qj,Qk,reduceCtorEq,reduceIte,hi,e1,hg,hel,u1,u2,u3,u4,ko,lS]
  |true=>rw[ai];simp only[tkC];simp only[go_sem,Qb,Qc,Qd,Qe,Qg,Qh,Qi,Qj,Qk,reduceCtorEq,reduceIte,hi,e1,hg,hel,u1,u2,u3,u4,ko,lS]
theorem xkV(m:Man)(b:Bool)(rs:List Rul)(hx:∀x∈rs,x.text.length<=1000000)(hn:rs.length<=8):∀(n i t:Nat)(tk:List Nat)(B:List UInt8),(t=64060/\tk=tkB b)\/(t=86060/\tk=tkC b)->rs.length-i=n->i<=rs.length->B.length<=100000000+i*2000007->
 ∃t' tk',((t'=64060/\tk'=tkB b)\/(t'=86060/\tk'=tkC b))/\run T (.loop pT) ⟨[(3,.byt B (.id t)),(65,.lst 4 (eG rs) .no),(66,.int .i64 rs.length),(67,.int .i64 i)],[(101,.rc m.sv)],tk⟩=
 some (.x 2,⟨[(3,.byt ((rs.drop i).foldl kQ B) (.id t'))],[(101,.rc m.sv)],tk'⟩):=by
 intro n;induction n with
 |zero=>
  intro i t tk B ht h0 h1 h2;have:i=rs.length:=by omega
  subst this;refine⟨t,tk,ht, ?_⟩;rw[bP,nH,ai];rcases ht with⟨rfl,rfl⟩|⟨rfl,rfl⟩
  ·cases b with
   |false=>simp only[tkB];simp only[go_sem,Qh,Qj,Qk,reduceIte]
   |true=>simp only[tkB];simp only[go_sem,Qh,Qj,Qk,reduceIte]
  ·cases b with
   |false=>simp only[tkC];simp only[go_sem,Qh,Qj,Qk,reduceIte]
   |true=>simp only[tkC];simp only[go_sem,Qh,Qj,Qk,reduceIte]
 |succ n ih=>
  intro i t tk B ht h0 h1 h2;have hi:i<rs.length:=by omega
  have hdr:rs.drop i=rs.getD i rl0::rs.drop (i+1):=by rw[bE hi,aa,ac hi];rfl
  have hl:=pd B (rs.getD i rl0) (hx _ (cE rs rl0 i hi));rw[xeq m b t tk ht rs hx (by omega) i hi B (by omega),hdr,dO];exact ih (i+1) 86060 _ _ (.inr ⟨rfl,rfl⟩) (by omega) (by omega) (by omega)
def dZ(m:Man):List UInt8:=if fm m=0 then m.ruls.foldl kQ (m.ents.foldl l9 (hdM m)++bu 1 (m.ruls.length:Int))else []
theorem ki:∀(l:List Ent)(B:List UInt8),(∀x∈l,x.name.length<=1000000/\x.dig.length<=1000000)->(l.foldl l9 B).length<=B.length+l.length*2000007
 |[],B,_=>by simp
 |x::r,B,h=>by rw[dO,am];have h1:=ki r (l9 B x) (fun y hy=>h y (av _ hy));obtain⟨a,c⟩:=h x aE;have h2:=pC B x a c;rw[bv];omega
theorem rp:∀(l:List Rul)(B:List UInt8),(∀x∈l,x.text.length<=1000000)->B.length<=(l.foldl kQ B).length/\(l.foldl kQ B).length<=B.length+l.length*2000007
 |[],B,_=>by simp
 |x::r,B,h=>by
  rw[dO,am];have h1:=rp r (kQ B x) (fun y hy=>h y (av _ hy));have h2:=pd B x (h x aE)
  have h3:B.length<=(kQ B x).length:=by unfold kQ;rw[af,af,fj,af];omega
  rw[bv];omega
theorem my{m:Man}(h:fm m=0):m.ents.length<=16/\m.ruls.length<=8:=by
 unfold fm at h
 repeat' split at h
 all_goals first|(exfalso;omega)|skip
 exact⟨by omega,by omega⟩
theorem f59(m:Man)(hm:dz m):call T 59 [.agg m.sv] [] 0=some ⟨.byt (dZ m) .no,[],[]⟩:=by
 have g1:=f80 m hm;have k1:((1:Nat):Int)=1:=rfl;have k4:((4:Nat):Int)=4:=rfl;have k6:((6:Nat):Int)=6:=rfl;have hvl:=hm.v;have hrn:=hm.rn;have hel:=dH m.ents;have hrl:=dD m.ruls;unfold dZ
 by_cases hv:fm m=0
 ·obtain⟨h16,h8⟩:=my hv
  rw[hv]at g1;rw[if_pos hv];unfold hdM;have u1:=km [] 1 21 (by omega) (by omega) (by decide);rw[k1]at u1;generalize hB1:([]++bu 1 21:List UInt8)=B1 at*;have n1:B1.length<=1000:=by rw[<-hB1];simp[cA]
  have u2:=xdI B1 m.vendor (by omega) (by omega);generalize hB2:jz B1 m.vendor=B2 at*;have n2:B2.length<=10000000:=by rw[<-hB2,fj];omega
  have u3:=km B2 4 m.ver (by omega) (by omega) (by omega);rw[k4]at u3;generalize hB3:B2++bu 4 m.ver=B3 at*;have n3:B3.length<=10000004:=by rw[<-hB3,af,cA];omega
  have u4:=km B3 4 m.flr (by omega) (by omega) (by omega);rw[k4]at u4;generalize hB4:B3++bu 4 m.flr=B4 at*;have n4:B4.length<=10000008:=by rw[<-hB4,af,cA];omega
  have u5:=km B4 6 m.frm (by omega) (by omega) (by omega);rw[k6]at u5;generalize hB5:B4++bu 6 m.frm=B5 at*;have n5:B5.length<=10000014:=by rw[<-hB5,af,cA];omega
  have u6:=km B5 6 m.til (by omega) (by omega) (by omega);rw[k6]at u6;generalize hB6:B5++bu 6 m.til=B6 at*;have n6:B6.length<=10000020:=by rw[<-hB6,af,cA];omega
  have u7:=km B6 1 (m.ents.length:Int) (by omega) (by omega) (by omega);rw[k1]at u7;generalize hB7:B6++bu 1 (m.ents.length:Int)=B7 at*;have n7:B7.length<=10000021:=by rw[<-hB7,af,cA];omega
  obtain⟨b,la⟩:=xkW m hm h16 _ 0 false B7 rfl (by omega) (by omega);have n8:=ki m.ents B7 hm.e;rw[bh,aD]at la;generalize m.ents.foldl l9 B7=B8 at*;have u8:=km B8 1 (m.ruls.length:Int) (by omega) (by omega) (by omega);rw[k1]at u8;generalize hB9:B8++bu 1 (m.ruls.length:Int)=B9 at*;have n9:B9.length<=10000022+16*2000007:=by rw[<-hB9,af,cA];omega
  obtain⟨t',tk',ht,lb⟩:=xkV m b m.ruls hm.r h8 _ 0 64060 (tkB b) B9 (.inl ⟨rfl,rfl⟩) rfl (by omega) (by omega);rw[bh,aD]at lb;generalize m.ruls.foldl kQ B9=B10 at*;obtain⟨mv,m1,m2,m3,m4,es,rs⟩:=m;simp only[Man.sv]at*;rw[an xjW];cases b with
  |false=>
   rcases ht with⟨rfl,rfl⟩|⟨rfl,rfl⟩
   ·simp only[tkA,tkB]at la lb
    simp only[go_sem,Qb,Qc,Qd,Qe,Qg,Qh,Qi,Qj,Qk,reduceCtorEq,reduceIte,g1,Er,u1,u2,u3,u4,u5,u6,u7,ko,lS,hel,la,u8,hrl,lb]
   ·simp only[tkA,tkB,tkC]at la lb
    simp only[go_sem,Qb,Qc,Qd,Qe,Qg,Qh,Qi,Qj,Qk,reduceCtorEq,reduceIte,g1,Er,u1,u2,u3,u4,u5,u6,u7,ko,lS,hel,la,u8,hrl,lb]
  |true=>
   rcases ht with⟨rfl,rfl⟩|⟨rfl,rfl⟩
   ·simp only[tkA,tkB]at la lb
    simp only[go_sem,Qb,Qc,Qd,Qe,Qg,Qh,Qi,Qj,Qk,reduceCtorEq,reduceIte,g1,Er,u1,u2,u3,u4,u5,u6,u7,ko,lS,hel,la,u8,hrl,lb]
   ·simp only[tkA,tkB,tkC]at la lb
    simp only[go_sem,Qb,Qc,Qd,Qe,Qg,Qh,Qi,Qj,Qk,reduceCtorEq,reduceIte,g1,Er,u1,u2,u3,u4,u5,u6,u7,ko,lS,hel,la,u8,hrl,lb]
 ·rw[if_neg hv]
  obtain⟨mv,m1,m2,m3,m4,es,rs⟩:=m;simp only[Man.sv]at*;rw[an xjW];simp only[go_sem,Qe,Qh,Qi,Qj,Qk,reduceCtorEq,reduceIte,g1,Er,hv]
def cD(m:Man):List UInt8:=if dZ m=[]then []else uf 21 (dZ m)
theorem j5(m:Man)(hm:dz m):(dZ m).length<=100000000:=by
 unfold dZ
 by_cases hv:fm m=0
 ·rw[if_pos hv]
  obtain⟨h16,h8⟩:=my hv;have h1:=ki m.ents (hdM m) hm.e;have h2:=rp m.ruls (m.ents.foldl l9 (hdM m)++bu 1 (m.ruls.length:Int)) hm.r
  have h3:(hdM m).length<=10000000:=by have:=hm.v;unfold hdM;simp only[af,fj,cA,aB];omega
  rw[af,cA]at h2;omega
 ·rw[if_neg hv];exact bH _
theorem xmc(v:Int):cQ (Int.fdiv (aU.wrap v) (2^0))=cQ v:=by
 rw[show(2:Int)^0=1 from rfl,Int.fdiv_one,bM];unfold cQ
 congr 2
 omega
theorem qu(v:Int):bu 1 v=[cQ v]:=by rw[<-xmc v];rfl
theorem Eh(B:List UInt8)(k:Nat)(v:Int)(h1:1<=k)(h8:k<=8)(hB:B.length<=10000000000000):
 call T 64 [.byt B .no,.int .i64 k,.int .i64 v] [] 0=some ⟨.byt (B++bu k v) (.id 60),[],[60]⟩:=f64 B k v h1 h8 hB
def tkR:Bool->Bool->List Nat
 |false,false=> [103,16060,20060,24060,28060]
 |true,false=> [103,16060,20060,24060,28060,61060]
 |false,true=> [103,16060,20060,24060,28060,97060]
 |true,true=> [103,16060,20060,24060,28060,61060,97060]
theorem xkp(m:Man)(hm:dz m)(b:Bool)(i:Nat)(hi:i<m.ents.length)(B:List UInt8)(hB:B.length<=1000000000):
 run T (.loop pY) ⟨[(1,.ptr 101 0),(3,.byt B (.id 103)),(4,.int .i64 i)],[(101,.rc m.sv)],tkR b false⟩=
 run T (.loop pY) ⟨[(1,.ptr 101 0),(3,.byt (l9 B (m.ents.getD i en0)) (.id 103)),(4,.int .i64 ((i+1:Nat):Int))],[(101,.rc m.sv)],tkR true false⟩:=by
 have k4:((4:Nat):Int)=4:=rfl;have hen:=hm.en;have e1:=cZ i (by omega);have hg:=gE m.ents i hi;have hel:=dH m.ents;obtain⟨hxn,hxd⟩:=hm.e _ (cE m.ents en0 i hi);clear hm;generalize m.ents.getD i en0=x at*;unfold l9;have n1:(B++bu 1 x.role).length<=1000000001:=by rw[af,cA];omega
 have n0:B.length+1<=140737488355328:=by omega
 have u2:=f63 (B++bu 1 x.role) x.name (by omega) (by omega);have n2:(jz (B++bu 1 x.role) x.name).length<=1010000000:=by rw[fj];omega
 generalize jz (B++bu 1 x.role) x.name=B2 at*;rw[qu]at u2;have u3:=Eh B2 4 x.ver (by omega) (by omega) (by omega);rw[k4]at u3;have n3:(B2++bu 4 x.ver).length<=1010000004:=by rw[af,cA];omega
 generalize B2++bu 4 x.ver=B3 at*;have n4:B3.length+x.dig.length<=140737488355328:=by omega
 obtain⟨mv,m1,m2,m3,m4,es,rs⟩:=m;obtain⟨x1,x2,x3,x4⟩:=x;simp only[Man.sv,Ent.sv]at*;cases b with
 |false=>rw[ai];simp only[tkR];simp only[go_sem,Qb,Qc,Qd,Qe,Qg,Qh,Qi,Qj,Qk,reduceCtorEq,reduceIte,hi,e1,hg,hel,n0,u2,u3,n4,Eu,YE]
 |true=>rw[ai];simp only[tkR];simp only[go_sem,Qb,Qc,Qd,Qe,Qg,Qh,Qi,Qj,Qk,reduceCtorEq,reduceIte,hi,e1,hg,hel,n0,u2,u3,n4,Eu,YE]
theorem xk2(m:Man)(hm:dz m)(h16:m.ents.length<=16):∀(n i:Nat)(b:Bool)(B:List UInt8),m.ents.length-i=n->i<=m.ents.length->B.length<=20000000+i*2000007->
 ∃b',run T (.loop pY) ⟨[(1,.ptr 101 0),(3,.byt B (.id 103)),(4,.int .i64 i)],[(101,.rc m.sv)],tkR b false⟩=
 some (.x 0,⟨[(1,.ptr 101 0),(3,.byt ((m.ents.drop i).foldl l9 B) (.id 103))],[(101,.rc m.sv)],tkR b' false⟩):=by
 intro n;induction n with
 |zero=>
  intro i b B h0 h1 h2;have hel:=dH m.ents;have:i=m.ents.length:=by omega
  subst this;refine⟨b, ?_⟩;rw[bP,nH,ai];obtain⟨mv,m1,m2,m3,m4,es,rs⟩:=m;simp only[Man.sv]at*;cases b with
  |false=>simp only[tkR];simp only[go_sem,Qe,Qh,Qi,Qj,Qk,reduceIte,hel]
  |true=>simp only[tkR];simp only[go_sem,Qe,Qh,Qi,Qj,Qk,reduceIte,hel]
 |succ n ih=>
  intro i b B h0 h1 h2;have hi:i<m.ents.length:=by omega
  have hdr:m.ents.drop i=m.ents.getD i en0::m.ents.drop (i+1):=by rw[bE hi,aa,ac hi];rfl
  obtain⟨hxn,hxd⟩:=hm.e _ (cE m.ents en0 i hi);have hl:=pC B (m.ents.getD i en0) hxn hxd;rw[xkp m hm b i hi B (by omega),hdr,dO];exact ih (i+1) true _ (by omega) (by omega) (by omega)
theorem xko(m:Man)(hr:∀x∈m.ruls,x.text.length<=1000000)(hn:m.ruls.length<=1000000)(b c:Bool)(i:Nat)(hi:i<m.ruls.length)(B:List UInt8)(hB:B.length<=1000000000):
 run T (.loop pX) ⟨[(1,.ptr 101 0),(3,.byt B (.id 103)),(6,.int .i64 i)],[(101,.rc m.sv)],tkR b c⟩=
 run T (.loop pX) ⟨[(1,.ptr 101 0),(3,.byt (kQ B (m.ruls.getD i rl0)) (.id 103)),(6,.int .i64 ((i+1:Nat):Int))],[(101,.rc m.sv)],tkR b true⟩:=by
 have k4:((4:Nat):Int)=4:=rfl;have e1:=cZ i (by omega);have hg:=iY m.ruls i hi;have hel:=dD m.ruls;have hxn:=hr _ (cE m.ruls rl0 i hi);clear hr;generalize m.ruls.getD i rl0=x at*;unfold kQ;have n1:(B++bu 1 x.kind).length<=1000000001:=by rw[af,cA];omega
 have n0:B.length+1<=140737488355328:=by omega
 have u2:=f63 (B++bu 1 x.kind) x.text (by omega) (by omega);have n2:(jz (B++bu 1 x.kind) x.text).length<=1010000000:=by rw[fj];omega
 generalize jz (B++bu 1 x.kind) x.text=B2 at*;rw[qu]at u2;have u3:=Eh B2 4 x.lo (by omega) (by omega) (by omega);rw[k4]at u3;have n3:(B2++bu 4 x.lo).length<=1010000004:=by rw[af,cA];omega
 generalize B2++bu 4 x.lo=B3 at*;have u4:=Eh B3 4 x.hi (by omega) (by omega) (by omega);rw[k4]at u4;obtain⟨mv,m1,m2,m3,m4,es,rs⟩:=m;obtain⟨x1,x2,x3,x4⟩:=x;simp only[Rul.sv,Man.sv]at*
 cases b<;>cases c<;>
  (rw[ai]
   simp only[tkR];simp only[go_sem,Qb,Qc,Qd,Qe,Qg,Qh,Qi,Qj,Qk,reduceCtorEq,reduceIte,hi,e1,hg,hel,n0,u2,u3,u4,Eu,YE])
theorem xk1(m:Man)(hr:∀x∈m.ruls,x.text.length<=1000000)(hn:m.ruls.length<=8)(b:Bool):∀(n i:Nat)(c:Bool)(B:List UInt8),m.ruls.length-i=n->i<=m.ruls.length->B.length<=100000000+i*2000007->
 ∃c',run T (.loop pX) ⟨[(1,.ptr 101 0),(3,.byt B (.id 103)),(6,.int .i64 i)],[(101,.rc m.sv)],tkR b c⟩=
 some (.x 2,⟨[(3,.byt ((m.ruls.drop i).foldl kQ B) (.id 103))],[(101,.rc m.sv)],tkR b c'⟩):=by
 intro n;induction n with
 |zero=>
  intro i c B h0 h1 h2;have hel:=dD m.ruls;have:i=m.ruls.length:=by omega
  subst this;refine⟨c, ?_⟩;rw[bP,nH,ai];obtain⟨mv,m1,m2,m3,m4,es,rs⟩:=m;simp only[Man.sv]at*;cases b<;>cases c<;>(simp only[tkR];simp only[go_sem,Qe,Qh,Qj,Qk,reduceIte,hel])
 |succ n ih=>
  intro i c B h0 h1 h2;have hi:i<m.ruls.length:=by omega
  have hdr:m.ruls.drop i=m.ruls.getD i rl0::m.ruls.drop (i+1):=by rw[bE hi,aa,ac hi];rfl
  have hl:=pd B (m.ruls.getD i rl0) (hr _ (cE m.ruls rl0 i hi));rw[xko m hr (by omega) b c i hi B (by omega),hdr,dO];exact ih (i+1) true _ (by omega) (by omega) (by omega)
theorem f34(m:Man)(hm:dz m):call T 34 [.agg m.sv] [] 0=some ⟨.byt (dZ m) .no,[],[]⟩:=by
 have g1:=f62 m hm;have k4:((4:Nat):Int)=4:=rfl;have k6:((6:Nat):Int)=6:=rfl;have hvl:=hm.v;have hrn:=hm.rn;have hel:=dH m.ents;have hrl:=dD m.ruls;unfold dZ
 by_cases hv:fm m=0
 ·obtain⟨h16,h8⟩:=my hv
  rw[hv]at g1;rw[if_pos hv];unfold hdM;have b21:bu 1 21=[21]:=by rw[qu];rfl
  have u2:=f63 [21] m.vendor (by simp) (by omega);rw[b21,aI];generalize hB2:jz [21] m.vendor=B2 at*;have n2:B2.length<=10000000:=by rw[<-hB2,fj];simp;omega
  have u3:=Eh B2 4 m.ver (by omega) (by omega) (by omega);rw[k4]at u3;generalize hB3:B2++bu 4 m.ver=B3 at*;have n3:B3.length<=10000004:=by rw[<-hB3,af,cA];omega
  have u4:=Eh B3 4 m.flr (by omega) (by omega) (by omega);rw[k4]at u4;generalize hB4:B3++bu 4 m.flr=B4 at*;have n4:B4.length<=10000008:=by rw[<-hB4,af,cA];omega
  have u5:=Eh B4 6 m.frm (by omega) (by omega) (by omega);rw[k6]at u5;generalize hB5:B4++bu 6 m.frm=B5 at*;have n5:B5.length<=10000014:=by rw[<-hB5,af,cA];omega
  have u6:=Eh B5 6 m.til (by omega) (by omega) (by omega);rw[k6]at u6;generalize hB6:B5++bu 6 m.til=B6 at*;have n6:B6.length<=10000020:=by rw[<-hB6,af,cA];omega
  have r6:B6.length+1<=140737488355328:=by omega
  have n7:(B6++bu 1 (m.ents.length:Int)).length<=10000021:=by rw[af,cA];omega
  obtain⟨b,la⟩:=xk2 m hm h16 _ 0 false (B6++bu 1 (m.ents.length:Int)) rfl (by omega) (by omega);have n8:=ki m.ents (B6++bu 1 (m.ents.length:Int)) hm.e;rw[bh,aD]at la;generalize m.ents.foldl l9 (B6++bu 1 (m.ents.length:Int))=B8 at*;rw[qu]at la;have r8:B8.length+1<=140737488355328:=by omega
  have n9:(B8++bu 1 (m.ruls.length:Int)).length<=10000022+16*2000007:=by rw[af,cA];omega
  obtain⟨c,lb⟩:=xk1 m hm.r h8 b _ 0 false (B8++bu 1 (m.ruls.length:Int)) rfl (by omega) (by omega);rw[bh,aD]at lb;generalize m.ruls.foldl kQ (B8++bu 1 (m.ruls.length:Int))=B10 at*;rw[qu]at lb;obtain⟨mv,m1,m2,m3,m4,es,rs⟩:=m;simp only[Man.sv]at*;rw[an xjZ]
  cases b<;>cases c<;>
   (simp only[tkR]at la lb
    simp only[go_sem,Qe,Qg,Qh,Qi,Qj,Qk,reduceCtorEq,reduceIte,g1,xj7,u2,u3,u4,u5,u6,Eu,YE,hel,r6,la,r8,hrl,lb])
 ·rw[if_neg hv]
  obtain⟨mv,m1,m2,m3,m4,es,rs⟩:=m;simp only[Man.sv]at*;rw[an xjZ];simp only[go_sem,Qe,Qh,Qi,Qj,Qk,reduceCtorEq,reduceIte,g1,xj7,hv]
def mQ(B:List UInt8)(s:Rs):Ent×Rs:=(⟨(uR B 1 s).1,(bR B 12 (uR B 1 s).2).1,(uR B 4 (bR B 12 (uR B 1 s).2).2).1,(wR B 32 (uR B 4 (bR B 12 (uR B 1 s).2).2).2).1⟩,(wR B 32 (uR B 4 (bR B 12 (uR B 1 s).2).2).2).2)
def mJ(B:List UInt8)(s:Rs):Rul×Rs:=(⟨(uR B 1 s).1,(bR B 32 (uR B 1 s).2).1,(uR B 4 (bR B 32 (uR B 1 s).2).2).1,(uR B 4 (uR B 4 (bR B 32 (uR B 1 s).2).2).2).1⟩,(uR B 4 (uR B 4 (bR B 32 (uR B 1 s).2).2).2).2)
def fy(B:List UInt8):Nat->List Ent->Rs->List Ent×Rs
 |0,es,s=>(es,s)
 |n+1,es,s=>if s.e=0 then fy B n (es++ [(mQ B s).1]) (mQ B s).2 else(es,s)
def fw(B:List UInt8):Nat->List Rul->Rs->List Rul×Rs
 |0,es,s=>(es,s)
 |n+1,es,s=>if s.e=0 then fw B n (es++ [(mJ B s).1]) (mJ B s).2 else(es,s)
theorem BJ{B:List UInt8}{s:Rs}(h:fD B s):fD B (mQ B s).2:=Sf (gJ (xN (gJ h)))
theorem Ac{B:List UInt8}{s:Rs}(h:fD B s):fD B (mJ B s).2:=gJ (gJ (xN (gJ h)))
theorem vS{B:List UInt8}:∀{n:Nat}{es:List Ent}{s:Rs},fD B s->fD B (fy B n es s).2
 |0,_,_,h=>h
 |n+1,es,s,h=>by
  unfold fy;split
  ·exact vS (BJ h)
  ·exact h
theorem uU{B:List UInt8}:∀{n:Nat}{es:List Rul}{s:Rs},fD B s->fD B (fw B n es s).2
 |0,_,_,h=>h
 |n+1,es,s,h=>by
  unfold fw;split
  ·exact uU (Ac h)
  ·exact h
theorem rx{B:List UInt8}:∀{n:Nat}{es:List Ent}{s:Rs},(fy B n es s).1.length<=es.length+n
 |0,_,_=>aK _
 |n+1,es,s=>by
  unfold fy;split
  ·have:=rx (B:=B) (n:=n) (es:=es++ [(mQ B s).1]) (s:=(mQ B s).2)
   rw[af,br]at this;omega
  ·show es.length<=_;omega
theorem qT{B:List UInt8}:∀{n:Nat}{es:List Rul}{s:Rs},(fw B n es s).1.length<=es.length+n
 |0,_,_=>aK _
 |n+1,es,s=>by
  unfold fw;split
  ·have:=qT (B:=B) (n:=n) (es:=es++ [(mJ B s).1]) (s:=(mJ B s).2)
   rw[af,br]at this;omega
  ·show es.length<=_;omega
def mR(v:List UInt8)(ve fl fr ti:Int)(es:List Ent)(t:Tok)(rs:List Rul)(t2:Tok):aC:= .rc [.str v,.int .i64 ve,.int .i64 fl,.int .i64 fr,.int .i64 ti,.lst 4 (eC es) t,.lst 4 (eG rs) t2]
def zR:aC:= .rc [.str [],.int .i64 0,.int .i64 0,.int .i64 0,.int .i64 0,.lst 4 [] .clip,.lst 4 [] .clip]
theorem Gi(l:List Ent)(x:Ent):eC (l++ [x])=eC l++ [x.sv]:=by rw[eC,eC,du];rfl
theorem Fq(l:List Rul)(x:Rul):eG (l++ [x])=eG l++ [x.sv]:=by rw[eG,eG,du];rfl
theorem xk0(B:List UInt8)(hB:B.length<=1000000000)(v:List UInt8)(ve fl fr ti:Int):∀(n:Nat)(es:List Ent)(s:Rs)(t:Tok)(tk:List Nat)(t0:Nat),es.length+n<=1000->fD B s->
 (t= .clip/\tk=[]/\es=[]\/t= .id 160/\tk=[160])->(t0=34060\/t0=55060)->
 ∃(t':Tok)(tk':List Nat)(t1:Nat),(t'= .clip/\tk'=[]/\(fy B n es s).1=[]\/t'= .id 160/\tk'=[160])/\(t1=34060\/t1=55060\/t1=39060)/\
  run T (.loop yn) ⟨[(2,.ptr 102 0),(4,.ptr 12100 0),(5,.ptr 105 0),(6,.int .i64 n)],[(102,zR),(105,mR v ve fl fr ti es t [] .clip),(12100,rdO B t0 s)],tk++ [t0]⟩=
   some (.x 0,⟨[(2,.ptr 102 0),(4,.ptr 12100 0),(5,.ptr 105 0)],[(102,zR),(105,mR v ve fl fr ti (fy B n es s).1 t' [] .clip),(12100,rdO B t1 (fy B n es s).2)],tk'++ [t1]⟩):=by
 intro n;induction n with
 |zero=>intro es s t tk t0 h1 h2 ht ht0;refine⟨t,tk,t0,ht,by omega, ?_⟩;unfold fy;rw[ai];rcases ht with⟨rfl,rfl,rfl⟩|⟨rfl,rfl⟩<;>rcases ht0 with rfl|rfl<;>simp only[zR,mR,rdO]<;>simp only[go_sem,Q4,Qe,Qg,Qh,Qi,Qj,Qk,reduceIte,aD]
 |succ n ih=>
  intro es s t tk t0 h1 h2 ht ht0;have hp:(0:Int)<((n+1:Nat):Int):=by omega
  have e1:ah.wrap (((n+1:Nat):Int)-1)=(n:Int):=wZ (by omega)
  have g0:=f77 B s
  by_cases he:s.e=0
  ·obtain⟨t',tk',t1,q1,q2,q3⟩:=ih (es++ [(mQ B s).1]) (mQ B s).2 (.id 160) [160] 55060 (by rw[af,br];omega) (BJ h2) (.inr ⟨rfl,rfl⟩) (.inr rfl)
   have hu:fy B (n+1) es s=fy B n (es++ [(mQ B s).1]) (mQ B s).2:=by
    conv=>lhs;unfold fy
    rw[if_pos he]
   rw[hu];refine⟨t',tk',t1,q1,q2, ?_⟩;have hv:=dH es;have b1:(es.length+1)*56<=140737488355328:=by omega
   generalize fy B n (es++ [(mQ B s).1]) (mQ B s).2=Z at*;have k1:=gJ (n:=1) h2;have g1:=f75 B hB 1 (by omega) (by omega) s h2;unfold mQ mR at q3;rw[Gi]at q3;generalize uR B 1 s=p1 at*;obtain⟨x1,s1⟩:=p1;simp only at k1 g1 q3;have k2:=xN (n:=12) k1;have g2:=f76 B hB 12 (by omega) s1 k1;generalize bR B 12 s1=p2 at*;obtain⟨x2,s2⟩:=p2;simp only at k2 g2 q3;have k3:=gJ (n:=4) k2;have g3:=f75 B hB 4 (by omega) (by omega) s2 k2;generalize uR B 4 s2=p3 at*;obtain⟨x3,s3⟩:=p3;simp only at k3 g3 q3;have g4:=f78 B hB 32 (by omega) s3 k3;generalize wR B 32 s3=p4 at*;obtain⟨x4,s4⟩:=p4;simp only at g4 q3;rw[show((1:Nat):Int)=1 from rfl]at g1;rw[show((12:Nat):Int)=12 from rfl]at g2;rw[show((4:Nat):Int)=4 from rfl]at g3;rw[show((32:Nat):Int)=32 from rfl]at g4;rw[he]at g0;simp only[zR,mR,rdO,Ent.sv,bg,aI]at g0 g1 g2 g3 g4 q3 ⊢;rw[he]at g0 g1;rw[he];rw[ai];rcases ht with⟨rfl,rfl,rfl⟩|⟨rfl,rfl⟩<;>rcases ht0 with rfl|rfl
   ·have hnil:eC []=[]:=rfl
    simp only[hnil,aI]at q3 ⊢;simp only[go_sem,Qe,Qg,Qh,Qi,Qj,Qk,reduceIte,hp,e1,g0,Es,g1,o4,g2,Et,g3,g4,xS,q3]
   ·have hnil:eC []=[]:=rfl
    simp only[hnil,aI]at q3 ⊢;simp only[go_sem,Qe,Qg,Qh,Qi,Qj,Qk,reduceIte,hp,e1,g0,Es,g1,o4,g2,Et,g3,g4,xS,q3]
   ·simp only[bg,aI]
    simp only[go_sem,Qe,Qg,Qh,Qi,Qj,Qk,reduceIte,hp,e1,g0,Es,g1,o4,g2,Et,g3,g4,xS,hv,b1,q3]
   ·simp only[bg,aI]
    simp only[go_sem,Qe,Qg,Qh,Qi,Qj,Qk,reduceIte,hp,e1,g0,Es,g1,o4,g2,Et,g3,g4,xS,hv,b1,q3]
  ·have hu:fy B (n+1) es s=(es,s):=by
    unfold fy;rw[if_neg he]
   rw[hu];refine⟨t,tk,39060,ht,by omega, ?_⟩;rw[ai];simp only[zR,mR,rdO]at g0 ⊢;rcases ht with⟨rfl,rfl,rfl⟩|⟨rfl,rfl⟩<;>rcases ht0 with rfl|rfl<;>simp only[go_sem,Qe,Qg,Qh,Qi,Qj,Qk,reduceIte,hp,g0,Es,he,bg,aI]
theorem xkZ(B:List UInt8)(hB:B.length<=1000000000)(v:List UInt8)(ve fl fr ti:Int)(es:List Ent)(t2:Tok)(tk2:List Nat)(ht2:t2= .clip/\tk2=[]/\es=[]\/t2= .id 160/\tk2=[160]):∀(n:Nat)(rs:List Rul)(s:Rs)(t:Tok)(tk:List Nat)(t0:Nat),rs.length+n<=1000->fD B s->
 (t= .clip/\tk=[]/\rs=[]\/t= .id 190/\tk=[190])->(t0=64060\/t0=85060)->
 ∃(t':Tok)(tk':List Nat)(t1:Nat),(t'= .clip/\tk'=[]/\(fw B n rs s).1=[]\/t'= .id 190/\tk'=[190])/\(t1=64060\/t1=85060\/t1=69060)/\
  run T (.loop yl) ⟨[(2,.ptr 102 0),(4,.ptr 12100 0),(5,.ptr 105 0),(8,.int .i64 n)],[(102,zR),(105,mR v ve fl fr ti es t2 rs t),(12100,rdO B t0 s)],tk2++(tk++ [t0])⟩=
   some (.x 2,⟨[(2,.ptr 102 0),(4,.ptr 12100 0),(5,.ptr 105 0)],[(102,zR),(105,mR v ve fl fr ti es t2 (fw B n rs s).1 t'),(12100,rdO B t1 (fw B n rs s).2)],tk2++(tk'++ [t1])⟩):=by
 intro n;induction n with
 |zero=>intro rs s t tk t0 h1 h2 ht ht0;refine⟨t,tk,t0,ht,by omega, ?_⟩;unfold fw;rw[ai];rcases ht2 with⟨rfl,rfl,rfl⟩|⟨rfl,rfl⟩<;>rcases ht with⟨rfl,rfl,rfl⟩|⟨rfl,rfl⟩<;>rcases ht0 with rfl|rfl<;>simp only[zR,mR,rdO]<;>simp only[go_sem,Q4,Qe,Qg,Qh,Qi,Qj,Qk,reduceIte,aD]
 |succ n ih=>
  intro rs s t tk t0 h1 h2 ht ht0;have hp:(0:Int)<((n+1:Nat):Int):=by omega
  have e1:ah.wrap (((n+1:Nat):Int)-1)=(n:Int):=wZ (by omega)
  have g0:=f77 B s
  by_cases he:s.e=0
  ·obtain⟨t',tk',t1,q1,q2,q3⟩:=ih (rs++ [(mJ B s).1]) (mJ B s).2 (.id 190) [190] 85060 (by rw[af,br];omega) (Ac h2) (.inr ⟨rfl,rfl⟩) (.inr rfl)
   have hu:fw B (n+1) rs s=fw B n (rs++ [(mJ B s).1]) (mJ B s).2:=by
    conv=>lhs;unfold fw
    rw[if_pos he]
   rw[hu];refine⟨t',tk',t1,q1,q2, ?_⟩;have hv:=dD rs;have b1:(rs.length+1)*40<=140737488355328:=by omega
   generalize fw B n (rs++ [(mJ B s).1]) (mJ B s).2=Z at*;have k1:=gJ (n:=1) h2;have g1:=f75 B hB 1 (by omega) (by omega) s h2;unfold mJ mR at q3;rw[Fq]at q3;generalize uR B 1 s=p1 at*;obtain⟨x1,s1⟩:=p1;simp only at k1 g1 q3;have k2:=xN (n:=32) k1;have g2:=f76 B hB 32 (by omega) s1 k1;generalize bR B 32 s1=p2 at*;obtain⟨x2,s2⟩:=p2;simp only at k2 g2 q3;have k3:=gJ (n:=4) k2;have g3:=f75 B hB 4 (by omega) (by omega) s2 k2;generalize uR B 4 s2=p3 at*;obtain⟨x3,s3⟩:=p3;simp only at k3 g3 q3;have g4:=f75 B hB 4 (by omega) (by omega) s3 k3;generalize uR B 4 s3=p4 at*;obtain⟨x4,s4⟩:=p4;simp only at g4 q3;rw[show((1:Nat):Int)=1 from rfl]at g1;rw[show((32:Nat):Int)=32 from rfl]at g2;rw[show((4:Nat):Int)=4 from rfl]at g3 g4;rw[he]at g0;simp only[zR,mR,rdO,Rul.sv,bg,aI]at g0 g1 g2 g3 g4 q3 ⊢;rw[he]at g0 g1;rw[he];rw[ai];rcases ht2 with⟨rfl,rfl,rfl⟩|⟨rfl,rfl⟩<;>rcases ht with⟨rfl,rfl,rfl⟩|⟨rfl,rfl⟩<;>rcases ht0 with rfl|rfl
   all_goals
    have hnil:eG []=[]:=rfl;have hnil2:eC []=[]:=rfl;simp only[hnil,hnil2,aI,bg]at q3 ⊢;simp only[go_sem,Qe,Qg,Qh,Qi,Qj,Qk,reduceIte,hp,e1,g0,Es,g1,o4,g2,Et,g3,g4,hv,b1,q3]
  ·have hu:fw B (n+1) rs s=(rs,s):=by
    unfold fw;rw[if_neg he]
   rw[hu];refine⟨t,tk,69060,ht,by omega, ?_⟩;rw[ai];simp only[zR,mR,rdO]at g0 ⊢;rcases ht2 with⟨rfl,rfl,rfl⟩|⟨rfl,rfl⟩<;>rcases ht with⟨rfl,rfl,rfl⟩|⟨rfl,rfl⟩<;>rcases ht0 with rfl|rfl<;>simp only[go_sem,Qe,Qg,Qh,Qi,Qj,Qk,reduceIte,hp,g0,Es,he,bg,aI]
def xfD(x:Ent):Prop:=0<=x.ver/\x.ver<=1000000/\x.name.length<=1000000
theorem Rv{l:List Ent}{i:Nat}(h:mT l i=0):1<=(l.getD i en0).role/\(l.getD i en0).role<=3/\0<=(l.getD i en0).ver/\(l.getD i en0).ver<=1000000/\(l.getD i en0).dig.length=32/\Pr.nameB (l.getD i en0).name=true:=by
 unfold mT at h;generalize l.getD i en0=x at*
 repeat' split at h
 all_goals first|omega|skip
 all_goals (refine⟨by omega,by omega,by omega,by omega,by omega,by assumption⟩)
theorem vV(l:List Ent):∀(n i:Nat),gZ l n i=0->∀k,i<=k->k<i+n->mT l k=0
 |0,i,_,k,h1,h2=>by omega
 |n+1,i,h,k,h1,h2=>by
  unfold gZ at h
  by_cases h0:mT l i=0
  ·rw[if_pos h0]at h
   rcases bO i k with h3|h3
   ·exact vV l n (i+1) h k (by omega) (by omega)
   ·have:k=i:=by omega
    rw[this];exact h0
  ·rw[if_neg h0]at h;exact absurd h h0
theorem sF{m:Man}(h:fm m=0):gZ m.ents m.ents.length 0=0/\iq m.ruls=0/\m.ents.length<=16/\m.ruls.length<=8/\Pr.nameB m.vendor=true/\0<=m.flr/\m.flr<=m.ver/\m.ver<=1000000/\0<=m.frm/\m.frm<m.til/\m.til<=1099511627776:=by
 unfold fm at h
 by_cases h0:Pr.nameB m.vendor=true
 ·rw[if_pos h0]at h
  repeat' split at h
  all_goals first|(exfalso;omega)|skip
  refine⟨by assumption,h,by omega,by omega,h0,by omega,by omega,by omega,by omega,by omega,by omega⟩
 ·rw[if_neg h0]at h;omega
theorem QF{m:Man}(h:fm m=0):∀x∈m.ents,1<=x.role/\x.role<=3/\xfD x/\x.dig.length=32/\Pr.nameB x.name=true:=by
 intro x hx;obtain⟨i,hi,rfl⟩:=bn hx;have h1:=Rv (vV m.ents _ 0 (sF h).1 i (bH _) (by omega));have e:m.ents.getD i en0=m.ents[i]:=by rw[aa,ac hi];rfl
 rw[e]at h1;obtain⟨a,b,c,d,f,g⟩:=h1;have:=mq g;exact⟨a,b,⟨c,d,by omega⟩,f,g⟩
theorem Om{B P X S:List UInt8}(m:Nat)(h:B=P++((bu 2 (X.length:Int)++X)++S))(hm:X.length<=m)(h6:X.length<65536):bR B m ⟨P.length,0⟩=(X,⟨(P++(bu 2 (X.length:Int)++X)).length,0⟩):=by
 have hn:nB (bu 2 (X.length:Int))=X.length:=by
  have hp:((256^2:Nat):Int)=65536:=by decide
  have:=jj 2 (X.length:Int) (by omega) (by rw[hp];omega) (by omega);omega
 have l2:(bu 2 (X.length:Int)).length=2:=cA ..;have h':B=P++(bu 2 (X.length:Int)++(X++S)):=by rw[h,ay (bu 2 _)]
 have h'':B=(P++bu 2 (X.length:Int))++(X++S):=by rw[h',ay]
 obtain⟨a1,a2⟩:=oV h';obtain⟨b1,b2⟩:=oV h'';rw[l2]at a1 a2;rw[af,l2]at b1 b2;unfold bR;rw[if_pos rfl];simp only;rw[if_pos a2,a1,hn,if_pos hm,if_pos b2,b1];rw[af,af,l2]
def oM(x:Ent):List UInt8:=bu 1 x.role++(bu 2 (x.name.length:Int)++x.name)++bu 4 x.ver++x.dig
def ry(r:Rul):List UInt8:=bu 1 r.kind++(bu 2 (r.text.length:Int)++r.text)++bu 4 r.lo++bu 4 r.hi
theorem sP(B X:List UInt8)(h:X.length<65536):jz B X=B++(bu 2 (X.length:Int)++X):=by unfold jz bu;rw[bj (by omega),ay]
theorem RG(B:List UInt8)(x:Ent)(h:x.name.length<65536):l9 B x=B++oM x:=by unfold l9 oM;rw[sP _ _ h];simp only[ay]
theorem PL(B:List UInt8)(x:Rul)(h:x.text.length<65536):kQ B x=B++ry x:=by unfold kQ ry;rw[sP _ _ h];simp only[ay]
theorem vK:∀(l:List Ent)(B:List UInt8),(∀x∈l,x.name.length<65536)->l.foldl l9 B=B++(l.map oM).flatten
 |[],B,_=>by simp
 |x::r,B,h=>by rw[dO,RG _ _ (h x aE),vK r _ (fun y hy=>h y (av _ hy)),aF,cr,ay]
theorem vJ:∀(l:List Rul)(B:List UInt8),(∀x∈l,x.text.length<65536)->l.foldl kQ B=B++(l.map ry).flatten
 |[],B,_=>by simp
 |x::r,B,h=>by rw[dO,PL _ _ (h x aE),vJ r _ (fun y hy=>h y (av _ hy)),aF,cr,ay]
structure xdU(x:Ent):Prop where
 r0:0<=x.role
 r1:x.role<256
 n:x.name.length<=12
 v0:0<=x.ver
 v1:x.ver<4294967296
 d:x.dig.length=32
structure xdT(x:Rul):Prop where
 r0:0<=x.kind
 r1:x.kind<256
 n:x.text.length<=32
 v0:0<=x.lo
 v1:x.lo<4294967296
 w0:0<=x.hi
 w1:x.hi<4294967296
theorem Ru{B P S:List UInt8}{x:Ent}(hx:xdU x)(h:B=P++(oM x++S)):mQ B ⟨P.length,0⟩=(x,⟨(P++oM x).length,0⟩):=by unfold oM at h;have a1:=iP (B:=B) (P:=P) (X:=bu 1 x.role) (S:=(bu 2 (x.name.length:Int)++x.name)++(bu 4 x.ver++(x.dig++S))) 1 (by rw[h];simp only[ay]) (cA ..);have a2:=Om (B:=B) (P:=P++bu 1 x.role) (X:=x.name) (S:=bu 4 x.ver++(x.dig++S)) 12 (by rw[h];simp only[ay]) hx.n (by have:=hx.n;omega);have a3:=iP (B:=B) (P:=P++bu 1 x.role++(bu 2 (x.name.length:Int)++x.name)) (X:=bu 4 x.ver) (S:=x.dig++S) 4 (by rw[h];simp only[ay]) (cA ..);have a4:=Sg (B:=B) (P:=P++bu 1 x.role++(bu 2 (x.name.length:Int)++x.name)++bu 4 x.ver) (X:=x.dig) (S:=S) 32 (by rw[h];simp only[ay]) hx.d;rw[jj 1 x.role hx.r0 (by rw[pp1];exact hx.r1) (by have:=hx.r1;omega)]at a1;rw[jj 4 x.ver hx.v0 (by rw[pp4];exact hx.v1) (by have:=hx.v1;omega)]at a3;unfold mQ;rw[a1];simp only;rw[a2];simp only;rw[a3];simp only;rw[a4];unfold oM;simp only[ay]
theorem PJ{B P S:List UInt8}{x:Rul}(hx:xdT x)(h:B=P++(ry x++S)):mJ B ⟨P.length,0⟩=(x,⟨(P++ry x).length,0⟩):=by unfold ry at h;have a1:=iP (B:=B) (P:=P) (X:=bu 1 x.kind) (S:=(bu 2 (x.text.length:Int)++x.text)++(bu 4 x.lo++(bu 4 x.hi++S))) 1 (by rw[h];simp only[ay]) (cA ..);have a2:=Om (B:=B) (P:=P++bu 1 x.kind) (X:=x.text) (S:=bu 4 x.lo++(bu 4 x.hi++S)) 32 (by rw[h];simp only[ay]) hx.n (by have:=hx.n;omega);have a3:=iP (B:=B) (P:=P++bu 1 x.kind++(bu 2 (x.text.length:Int)++x.text)) (X:=bu 4 x.lo) (S:=bu 4 x.hi++S) 4 (by rw[h];simp only[ay]) (cA ..);have a4:=iP (B:=B) (P:=P++bu 1 x.kind++(bu 2 (x.text.length:Int)++x.text)++bu 4 x.lo) (X:=bu 4 x.hi) (S:=S) 4 (by rw[h];simp only[ay]) (cA ..);rw[jj 1 x.kind hx.r0 (by rw[pp1];exact hx.r1) (by have:=hx.r1;omega)]at a1;rw[jj 4 x.lo hx.v0 (by rw[pp4];exact hx.v1) (by have:=hx.v1;omega)]at a3;rw[jj 4 x.hi hx.w0 (by rw[pp4];exact hx.w1) (by have:=hx.w1;omega)]at a4;unfold mJ;rw[a1];simp only;rw[a2];simp only;rw[a3];simp only;rw[a4];unfold ry;simp only[ay]
theorem vU{B:List UInt8}:∀(l:List Ent)(es:List Ent)(P S:List UInt8),(∀x∈l,xdU x)->B=P++((l.map oM).flatten++S)->fy B l.length es ⟨P.length,0⟩=(es++l,⟨(P++(l.map oM).flatten).length,0⟩)
 |[],es,P,S,_,_=>by simp[fy]
 |x::r,es,P,S,hx,h=>by have a:=Ru (B:=B) (P:=P) (S:=(r.map oM).flatten++S) (hx x aE) (by rw[h,aF,cr];simp only[ay]);rw[am];unfold fy;rw[if_pos rfl,a];simp only;rw[vU r (es++ [x]) (P++oM x) S (fun y hy=>hx y (av _ hy)) (by rw[h,aF,cr];simp only[ay]),aF,cr];simp only[ay,bg,aI]
theorem uW{B:List UInt8}:∀(l:List Rul)(es:List Rul)(P S:List UInt8),(∀x∈l,xdT x)->B=P++((l.map ry).flatten++S)->fw B l.length es ⟨P.length,0⟩=(es++l,⟨(P++(l.map ry).flatten).length,0⟩)
 |[],es,P,S,_,_=>by simp[fw]
 |x::r,es,P,S,hx,h=>by have a:=PJ (B:=B) (P:=P) (S:=(r.map ry).flatten++S) (hx x aE) (by rw[h,aF,cr];simp only[ay]);rw[am];unfold fw;rw[if_pos rfl,a];simp only;rw[uW r (es++ [x]) (P++ry x) S (fun y hy=>hx y (av _ hy)) (by rw[h,aF,cr];simp only[ay]),aF,cr];simp only[ay,bg,aI]
def hV(B:List UInt8):List UInt8×Rs:=bR B 12 (uR B 1 ⟨0,0⟩).2
def hE(B:List UInt8):Int×Rs:=uR B 4 (hV B).2
def hF(B:List UInt8):Int×Rs:=uR B 4 (hE B).2
def hM(B:List UInt8):Int×Rs:=uR B 6 (hF B).2
def hT(B:List UInt8):Int×Rs:=uR B 6 (hM B).2
def hN(B:List UInt8):Int×Rs:=uR B 1 (hT B).2
def hL(B:List UInt8):List Ent×Rs:=fy B (hN B).1.toNat [] (hN B).2
def hK(B:List UInt8):Int×Rs:=uR B 1 (hL B).2
def hR(B:List UInt8):List Rul×Rs:=fw B (hK B).1.toNat [] (hK B).2
def sE(B:List UInt8):Man:=⟨(hV B).1,(hE B).1,(hF B).1,(hM B).1,(hT B).1,(hL B).1,(hR B).1⟩
def okP(B:List UInt8):Prop:=(uR B 1 ⟨0,0⟩).1=21/\eR B (hR B).2=0/\fm (sE B)=0
instance (B:List UInt8):Decidable (okP B):=by unfold okP;infer_instance
def kU(B:List UInt8):Option Man:=if okP B then some (sE B)else none
theorem xdk{k:Int}{t:List UInt8}{lo hi:Int}(h:chk k t lo hi=0):1<=k/\k<=4/\t.length<=32/\0<=lo/\lo<=1000000000/\0<=hi/\hi<=1000000000:=by
 unfold chk at h
 repeat' split at h
 all_goals first|(exfalso;omega)|skip
 ·refine⟨by omega,by omega,by omega,by omega,by omega,by omega,by omega⟩
 ·rename_i ht
  refine⟨by omega,by omega,by rw[ht];simp,by omega,by omega,by omega,by omega⟩
 ·refine⟨by omega,by omega,by omega,by omega,by omega,by omega,by omega⟩
theorem uT:∀{l:List Rul},iq l=0->∀r∈l,uX r=0
 |[],_,r,hr=>by cases hr
 |x::t,h,r,hr=>by
  unfold iq at h
  by_cases hx:uX x=0
  ·rw[if_pos hx]at h
   rcases aw.1 hr with rfl|hr
   ·exact hx
   ·exact uT h r hr
  ·rw[if_neg hx]at h;exact absurd h hx
theorem FU{m:Man}(h:fm m=0):∀x∈m.ents,xdU x:=by intro x hx;obtain⟨a1,a2,⟨a3,a4,a5⟩,a6,a7⟩:=QF h x hx;exact⟨by omega,by omega,(mq a7).2,a3,by omega,a6⟩
theorem FT{m:Man}(h:fm m=0):∀x∈m.ruls,xdT x:=by intro x hx;obtain⟨a1,a2,a3,a4,a5,a6,a7⟩:=xdk (uT (sF h).2.1 x hx);exact⟨by omega,by omega,a3,a4,by omega,a6,by omega⟩
theorem ma{m:Man}(h:fm m=0):kU (dZ m)=some m:=by
 obtain⟨-, -,hn,hr,hv,u0,u1,u2,u3,u4,u5⟩:=sF h;have hE':=FU h;have hR':=FT h;have hvl:=(mq hv).2
 have key:dZ m=bu 1 21++((bu 2 (m.vendor.length:Int)++m.vendor)++(bu 4 m.ver++(bu 4 m.flr++(bu 6 m.frm++(bu 6 m.til++(bu 1 (m.ents.length:Int)++((m.ents.map oM).flatten++(bu 1 (m.ruls.length:Int)++((m.ruls.map ry).flatten++ []))))))))):=by unfold dZ hdM;rw[if_pos h,vK _ _ (fun x hx=>by have:=(hE' x hx).n;omega),vJ _ _ (fun x hx=>by have:=(hR' x hx).n;omega),sP _ _ (by omega)];simp only[ay,aI,bG]
 generalize dZ m=B at*;have a0:=iP (B:=B) (P:=[]) 1 key (cA 1 21);have a1:=Om (B:=B) (P:=bu 1 21) 12 key hvl (by omega);have a2:=iP (B:=B) (P:=bu 1 21++(bu 2 (m.vendor.length:Int)++m.vendor)) 4 (by rw[key];simp only[ay];rfl) (cA 4 m.ver);have a3:=iP (B:=B) (P:=bu 1 21++(bu 2 (m.vendor.length:Int)++m.vendor)++bu 4 m.ver) 4 (by rw[key];simp only[ay];rfl) (cA 4 m.flr);have a4:=iP (B:=B) (P:=bu 1 21++(bu 2 (m.vendor.length:Int)++m.vendor)++bu 4 m.ver++bu 4 m.flr) 6 (by rw[key];simp only[ay];rfl) (cA 6 m.frm);have a5:=iP (B:=B) (P:=bu 1 21++(bu 2 (m.vendor.length:Int)++m.vendor)++bu 4 m.ver++bu 4 m.flr++bu 6 m.frm) 6 (by rw[key];simp only[ay];rfl) (cA 6 m.til);have a6:=iP (B:=B) (P:=bu 1 21++(bu 2 (m.vendor.length:Int)++m.vendor)++bu 4 m.ver++bu 4 m.flr++bu 6 m.frm++bu 6 m.til) 1 (by rw[key];simp only[ay];rfl) (cA 1 (m.ents.length:Int));have a7:=vU (B:=B) m.ents [] (bu 1 21++(bu 2 (m.vendor.length:Int)++m.vendor)++bu 4 m.ver++bu 4 m.flr++bu 6 m.frm++bu 6 m.til++bu 1 (m.ents.length:Int)) _ hE' (by rw[key];simp only[ay];rfl);have a8:=iP (B:=B) (P:=bu 1 21++(bu 2 (m.vendor.length:Int)++m.vendor)++bu 4 m.ver++bu 4 m.flr++bu 6 m.frm++bu 6 m.til++bu 1 (m.ents.length:Int)++(m.ents.map oM).flatten) 1 (by rw[key];simp only[ay];rfl) (cA 1 (m.ruls.length:Int));have a9:=uW (B:=B) m.ruls [] (bu 1 21++(bu 2 (m.vendor.length:Int)++m.vendor)++bu 4 m.ver++bu 4 m.flr++bu 6 m.frm++bu 6 m.til++bu 1 (m.ents.length:Int)++(m.ents.map oM).flatten++bu 1 (m.ruls.length:Int)) [] hR' (by rw[key];simp only[ay])
 rw[jj 1 21 (by omega) (by rw[pp1];omega) (by omega)]at a0;rw[jj 4 m.ver (by omega) (by rw[pp4];omega) (by omega)]at a2;rw[jj 4 m.flr (by omega) (by rw[pp4];omega) (by omega)]at a3;rw[jj 6 m.frm (by omega) (by rw[pp6];omega) (by omega)]at a4;rw[jj 6 m.til (by omega) (by rw[pp6];omega) (by omega)]at a5;rw[jj 1 (m.ents.length:Int) (by omega) (by rw[pp1];omega) (by omega)]at a6;rw[jj 1 (m.ruls.length:Int) (by omega) (by rw[pp1];omega) (by omega)]at a8;rw[aB,aI]at a0;have q1:=(congrArg (fun z:Int×Rs=>bR B 12 z.2) a0).trans a1;change hV B=_ at q1;have q2:=(congrArg (fun z:List UInt8×Rs=>uR B 4 z.2) q1).trans a2;change hE B=_ at q2;have q3:=(congrArg (fun z:Int×Rs=>uR B 4 z.2) q2).trans a3;change hF B=_ at q3;have q4:=(congrArg (fun z:Int×Rs=>uR B 6 z.2) q3).trans a4;change hM B=_ at q4;have q5:=(congrArg (fun z:Int×Rs=>uR B 6 z.2) q4).trans a5;change hT B=_ at q5;have q6:=(congrArg (fun z:Int×Rs=>uR B 1 z.2) q5).trans a6;change hN B=_ at q6;have q7:=(congrArg (fun z:Int×Rs=>fy B z.1.toNat [] z.2) q6).trans a7;change hL B=_ at q7;have q8:=(congrArg (fun z:List Ent×Rs=>uR B 1 z.2) q7).trans a8;change hK B=_ at q8;have q9:=(congrArg (fun z:Int×Rs=>fw B z.1.toNat [] z.2) q8).trans a9;change hR B=_ at q9
 have hm:sE B=m:=by unfold sE;rw[q1,q2,q3,q4,q5,q7,q9];rfl
 have hend:eR B (hR B).2=0:=by
  rw[q9];unfold eR;rw[if_pos rfl,if_neg];simp only
  conv=>rhs;rw[key]
  simp only[ay,bG];omega
 unfold kU;rw[if_pos ⟨by rw[a0],hend,by rw[hm];exact h⟩,hm]
theorem Rw{m n:Man}(hm:fm m=0)(hn:fm n=0)(h:dZ m=dZ n):m=n:=by have:=ma hm;rw[h,ma hn]at this;exact(aq.inj this).symm
theorem yY(B:List UInt8)(m:Nat)(s:Rs):(bR B m s).1.length<=m:=by
 unfold bR;split
 ·split
  ·split
   ·split
    ·rename_i h _;show(List.take _ _).length<=_;rw[ax];omega
    ·exact bH _
   ·exact bH _
  ·exact bH _
 ·exact bH _
theorem xal(B:List UInt8)(m:Nat)(s:Rs):(wR B m s).1.length<=m:=by
 unfold wR;split
 ·split
  ·show(List.take _ _).length<=_;rw[ax];omega
  ·exact bH _
 ·exact bH _
theorem tx(B:List UInt8)(s:Rs):0<=(uR B 1 s).1/\(uR B 1 s).1<256:=by
 unfold uR;split
 ·split
  ·have h:=Og ((B.drop s.a).take 1)
   have h2:((B.drop s.a).take 1).length<=1:=by rw[ax];omega
   have h3:256^((B.drop s.a).take 1).length<=256^1:=Nat.pow_le_pow_right (by decide) h2;have h4:(256:Nat)^1=256:=by decide
   constructor
   ·exact Int.natCast_nonneg _
   ·show((nB _:Nat):Int)<256;omega
  ·exact⟨Int.le_refl _,by show(0:Int)<256;decide⟩
 ·exact⟨Int.le_refl _,by show(0:Int)<256;decide⟩
theorem vT{B:List UInt8}:∀{n:Nat}{es:List Ent}{s:Rs},(∀x∈es,x.name.length<=12/\x.dig.length<=32)->∀x∈(fy B n es s).1,x.name.length<=12/\x.dig.length<=32
 |0,_,_,h=>h
 |n+1,es,s,h=>by
  unfold fy;split
  ·refine vT fun x hx=> ?_
   rw[al,bw]at hx;rcases hx with hx|rfl
   ·exact h x hx
   ·exact⟨yY _ _ _,xal _ _ _⟩
  ·exact h
theorem uV{B:List UInt8}:∀{n:Nat}{es:List Rul}{s:Rs},(∀x∈es,x.text.length<=32)->∀x∈(fw B n es s).1,x.text.length<=32
 |0,_,_,h=>h
 |n+1,es,s,h=>by
  unfold fw;split
  ·refine uV fun x hx=> ?_
   rw[al,bw]at hx;rcases hx with hx|rfl
   ·exact h x hx
   ·exact yY _ _ _
  ·exact h
theorem sD(B:List UInt8):dz (sE B):=by
 have h1:=rx (B:=B) (n:=(hN B).1.toNat) (es:=[]) (s:=(hN B).2);have h2:=qT (B:=B) (n:=(hK B).1.toNat) (es:=[]) (s:=(hK B).2);have h3:=tx B (hT B).2;have h4:=tx B (hL B).2;change 0<=(hN B).1/\(hN B).1<256 at h3;change 0<=(hK B).1/\(hK B).1<256 at h4;rw[aB]at h1 h2
 exact⟨by have:=yY B 12 (uR B 1 ⟨0,0⟩).2;show(hV B).1.length<=_;unfold hV;omega,by show(hL B).1.length<=_;unfold hL;omega,by show(hR B).1.length<=_;unfold hR;omega,
  fun x hx=>by have:=vT (B:=B) (n:=(hN B).1.toNat) (es:=[]) (s:=(hN B).2) (fun x hx=>by cases hx) x hx;omega,
  fun x hx=>by have:=uV (B:=B) (n:=(hK B).1.toNat) (es:=[]) (s:=(hK B).2) (fun x hx=>by cases hx) x hx;omega⟩
def mnz:Man:=⟨[],0,0,0,0,[],[]⟩
def RK(B:List UInt8):Man:=match kU B with|some m=>m|none=>mnz
def RL(B:List UInt8):Int:=match kU B with|some _=>0|none=>30
theorem xkK(B:List UInt8)(hB:B.length<=1000000000)(v:List UInt8)(ve fl fr ti:Int)(es:List Ent)(s:Rs)(hs:fD B s)(t:Tok)(tk:List Nat)(t1:Nat)
 (ht:t= .clip/\tk=[]/\es=[]\/t= .id 160/\tk=[160]) (h1:t1=34060\/t1=55060\/t1=39060):
 run T (.ops pW) ⟨[(2,.ptr 102 0),(4,.ptr 12100 0),(5,.ptr 105 0)],[(102,zR),(105,mR v ve fl fr ti es t [] .clip),(12100,rdO B t1 s)],tk++ [t1]⟩=
  some (.n,⟨[(2,.ptr 102 0),(4,.ptr 12100 0),(5,.ptr 105 0),(8,.int .i64 (uR B 1 s).1)],[(102,zR),(105,mR v ve fl fr ti es t [] .clip),(12100,rdO B 64060 (uR B 1 s).2)],tk++ [64060]⟩):=by
 have g:=f75 B hB 1 (by omega) (by omega) s hs;rw[show((1:Nat):Int)=1 from rfl]at g;simp only[zR,mR,rdO]at g ⊢;rcases ht with⟨rfl,rfl,rfl⟩|⟨rfl,rfl⟩<;>rcases h1 with rfl|rfl|rfl<;>simp only[go_sem,Qe,Qg,Qh,Qi,Qj,Qk,reduceIte,g,o4]
theorem xkJ(B:List UInt8)(hB:B.length<=1000000000)(v:List UInt8)(ve fl fr ti:Int)(es:List Ent)(s:Rs)(hs:fD B s)(t:Tok)(tk:List Nat)(rs:List Rul)(u:Tok)(uk:List Nat)(u1:Nat)
 (hm:dz ⟨v,ve,fl,fr,ti,es,rs⟩)
 (ht:t= .clip/\tk=[]/\es=[]\/t= .id 160/\tk=[160]) (hu:u= .clip/\uk=[]/\rs=[]\/u= .id 190/\uk=[190]) (h1:u1=64060\/u1=85060\/u1=69060):
 run T (.ops pV) ⟨[(2,.ptr 102 0),(4,.ptr 12100 0),(5,.ptr 105 0)],[(102,zR),(105,mR v ve fl fr ti es t rs u),(12100,rdO B u1 s)],tk++(uk++ [u1])⟩=
  some (.n,⟨[(2,.ptr 102 0),(5,.ptr 105 0),(99,.bool (!decide (eR B s=0/\fm ⟨v,ve,fl,fr,ti,es,rs⟩=0)))],[(102,zR),(105,mR v ve fl fr ti es t rs u),(12100,rdO B 94060 s)],tk++(uk++ [94060])⟩):=by
 have g:=f79 B hB s hs;have gm:=f80 ⟨v,ve,fl,fr,ti,es,rs⟩ hm;generalize fm ⟨v,ve,fl,fr,ti,es,rs⟩=q at*;generalize eR B s=p at*
 by_cases hp:p=0
 ·subst hp
  by_cases hq:q=0
  ·subst hq
   simp only[zR,mR,rdO,Man.sv]at g gm ⊢;rcases ht with⟨rfl,rfl,rfl⟩|⟨rfl,rfl⟩<;>rcases hu with⟨rfl,rfl,rfl⟩|⟨rfl,rfl⟩<;>rcases h1 with rfl|rfl|rfl<;>simp only[go_sem,Qe,Qg,Qh,Qi,Qj,Qk,reduceIte,g,BY,gm,Er]
  ·simp only[zR,mR,rdO,Man.sv]at g gm ⊢
   rcases ht with⟨rfl,rfl,rfl⟩|⟨rfl,rfl⟩<;>rcases hu with⟨rfl,rfl,rfl⟩|⟨rfl,rfl⟩<;>rcases h1 with rfl|rfl|rfl<;>simp only[go_sem,Qe,Qg,Qh,Qi,Qj,Qk,reduceIte,g,BY,gm,Er,hq]
 ·simp only[zR,mR,rdO,Man.sv]at g gm ⊢
  rcases ht with⟨rfl,rfl,rfl⟩|⟨rfl,rfl⟩<;>rcases hu with⟨rfl,rfl,rfl⟩|⟨rfl,rfl⟩<;>rcases h1 with rfl|rfl|rfl<;>simp only[go_sem,Qe,Qg,Qh,Qi,Qj,Qk,reduceIte,g,BY,hp]
attribute [-go_sem] pW pV
theorem f47(B:List UInt8)(hB:B.length<=1000000000):call T 47 [.byt B .no] [] 0=some ⟨.tup [.agg (RK B).sv,.int .i64 (RL B)],[],[]⟩:=by
 have g0:=f74 B hB;have k0:fD B ⟨0,0⟩:=⟨bH _⟩;have g1:=f75 B hB 1 (by omega) (by omega) ⟨0,0⟩ k0;have k1:=gJ (n:=1) k0;have g2:=f76 B hB 12 (by omega) _ k1;have k2:fD B (hV B).2:=xN (n:=12) k1;have g3:=f75 B hB 4 (by omega) (by omega) _ k2;have k3:fD B (hE B).2:=gJ (n:=4) k2;have g4:=f75 B hB 4 (by omega) (by omega) _ k3;have k4:fD B (hF B).2:=gJ (n:=4) k3;have g5:=f75 B hB 6 (by omega) (by omega) _ k4;have k5:fD B (hM B).2:=gJ (n:=6) k4;have g6:=f75 B hB 6 (by omega) (by omega) _ k5;have k6:fD B (hT B).2:=gJ (n:=6) k5;have g7:=f75 B hB 1 (by omega) (by omega) _ k6;have k7:fD B (hN B).2:=gJ (n:=1) k6;have n1:=tx B (hT B).2;have n2:=tx B (hL B).2;change 0<=(hN B).1/\(hN B).1<256 at n1;change 0<=(hK B).1/\(hK B).1<256 at n2;have nn:(hN B).1=(((hN B).1.toNat:Nat):Int):=by omega
 have nk:(hK B).1=(((hK B).1.toNat:Nat):Int):=by omega
 obtain⟨t',tk',t1,q1,q2,q3⟩:=xk0 B hB (hV B).1 (hE B).1 (hF B).1 (hM B).1 (hT B).1 (hN B).1.toNat [] (hN B).2 .clip [] 34060 (by rw[aB];omega) k7 (.inl ⟨rfl,rfl,rfl⟩) (.inl rfl);have k8:fD B (hL B).2:=vS k7;have g8:=f75 B hB 1 (by omega) (by omega) _ k8;have k9:fD B (hK B).2:=gJ (n:=1) k8;have gm:=f80 (sE B) (sD B);change (t'= .clip/\tk'=[]/\(hL B).1=[]\/t'= .id 160/\tk'=[160])at q1;obtain⟨u',uk',u1,r1,r2,r3⟩:=xkZ B hB (hV B).1 (hE B).1 (hF B).1 (hM B).1 (hT B).1 (hL B).1 t' tk' q1 (hK B).1.toNat [] (hK B).2 .clip [] 64060 (by rw[aB];omega) k9 (.inl ⟨rfl,rfl,rfl⟩) (.inl rfl);have k10:fD B (hR B).2:=uU k9;have g9:=f79 B hB _ k10;change _/\_/\(hR B).1=[]\/_ at r1;rw[<-nn]at q3;rw[<-nk]at r3;change run T _ _=some (Ex.x 0,⟨_,[_,(105,mR _ _ _ _ _ (hL B).1 t' [] .clip),(12100,rdO B t1 (hL B).2)],_⟩)at q3;change run T _ _=some (Ex.x 2,⟨_,[_,(105,mR _ _ _ _ _ (hL B).1 t' (hR B).1 u'),(12100,rdO B u1 (hR B).2)],_⟩)at r3;change call T 75 _ _ _=some ⟨.int .i64 (hE B).1,[(0,rdO B 60 (hE B).2)],[60]⟩at g3;change call T 75 _ _ _=some ⟨.int .i64 (hF B).1,[(0,rdO B 60 (hF B).2)],[60]⟩at g4;change call T 75 _ _ _=some ⟨.int .i64 (hM B).1,[(0,rdO B 60 (hM B).2)],[60]⟩at g5;change call T 75 _ _ _=some ⟨.int .i64 (hT B).1,[(0,rdO B 60 (hT B).2)],[60]⟩at g6;change call T 75 _ _ _=some ⟨.int .i64 (hN B).1,[(0,rdO B 60 (hN B).2)],[60]⟩at g7;change call T 75 _ _ _=some ⟨.int .i64 (hK B).1,[(0,rdO B 60 (hK B).2)],[60]⟩at g8;change call T 76 _ _ _=some ⟨.byt (hV B).1 .no,[(0,rdO B 60 (hV B).2)],[60]⟩at g2
 have o1:=xkK B hB (hV B).1 (hE B).1 (hF B).1 (hM B).1 (hT B).1 (hL B).1 (hL B).2 k8 t' tk' t1 q1 q2;have o2:=xkJ B hB (hV B).1 (hE B).1 (hF B).1 (hM B).1 (hT B).1 (hL B).1 (hR B).2 k10 t' tk' (hR B).1 u' uk' u1 (sD B) q1 r1 r2;change run T _ _=some (Ex.n,⟨[_,_,_,(8,SV.int .i64 (hK B).1)],[_,_,(12100,rdO B 64060 (hK B).2)],_⟩)at o1;change run T _ _=some (Ex.n,⟨[_,_,(99,SV.bool (!decide (eR B (hR B).2=0/\fm (sE B)=0)))],_,_⟩)at o2
 have hokd:kU B=if(uR B 1 ⟨0,0⟩).1=21/\eR B (hR B).2=0/\fm (sE B)=0 then some (sE B)else none:=by unfold kU okP;rfl
 have hsv:(sE B).sv=[.str (hV B).1,.int .i64 (hE B).1,.int .i64 (hF B).1,.int .i64 (hM B).1,.int .i64 (hT B).1,.lst 4 (eC (hL B).1) .no,.lst 4 (eG (hR B).1) .no]:=rfl;have hze:eC []=[]:=rfl;have hzr:eG []=[]:=rfl;rw[show((1:Nat):Int)=1 from rfl]at g1 g7;rw[show((12:Nat):Int)=12 from rfl]at g2;rw[show((4:Nat):Int)=4 from rfl]at g3 g4;rw[show((6:Nat):Int)=6 from rfl]at g5 g6;unfold RK RL;rw[hokd];rw[an xmH];simp only[aI]at q3 r3
 by_cases ht:(uR B 1 ⟨0,0⟩).1=21
 ·by_cases hb:eR B (hR B).2=0/\fm (sE B)=0
  ·rw[if_pos ⟨ht,hb⟩]
   rw[decide_eq_true hb]at o2;simp only[hsv];simp only[zR,mR,rdO,hze,hzr,aD]at g0 g1 g2 g3 g4 g5 g6 g7 q3 r3 o1 o2;rw[ht]at g1;simp only[go_sem,Qe,Qg,Qh,Qi,Qj,Qk,reduceCtorEq,reduceIte,g0,BZ,g1,o4,g2,Et,g3,g4,g5,g6,g7,q3,o1,r3,o2]
  ·rw[if_neg (fun h=>hb h.2)]
   rw[decide_eq_false hb]at o2;simp only[zR,mR,rdO,hze,hzr,aD]at g0 g1 g2 g3 g4 g5 g6 g7 q3 r3 o1 o2;rw[ht]at g1;simp only[go_sem,Qe,Qg,Qh,Qi,Qj,Qk,reduceCtorEq,reduceIte,g0,BZ,g1,o4,g2,Et,g3,g4,g5,g6,g7,q3,o1,r3,o2];rcases q1 with⟨rfl,rfl,hz⟩|⟨rfl,rfl⟩<;>rcases r1 with⟨rfl,rfl,hz2⟩|⟨rfl,rfl⟩<;>simp only[go_sem,hze,hzr,mnz,Man.sv]
 ·rw[if_neg (fun h=>ht h.1)]
  simp only[rdO,aD]at g0 g1;simp only[go_sem,Qe,Qg,Qh,Qi,Qj,Qk,reduceCtorEq,reduceIte,g0,BZ,g1,o4,ht,mnz,Man.sv,hze,hzr]
attribute [go_sem] pW pV
theorem xaA{B:List UInt8}{n:Nat}{s:Rs}(h:¬s.e=0):(uR B n s).2=s:=by unfold uR;rw[if_neg h]
theorem xam{B:List UInt8}{n:Nat}{s:Rs}(h:¬s.e=0):(wR B n s).2=s:=by unfold wR;rw[if_neg h]
def Yi(B:List UInt8):Nat->List Ent->Rs->List Ent×Rs
 |0,es,s=>(es,s)
 |n+1,es,s=>Yi B n (es++ [(mQ B s).1]) (mQ B s).2
def Sx(B:List UInt8):Nat->List Rul->Rs->List Rul×Rs
 |0,es,s=>(es,s)
 |n+1,es,s=>Sx B n (es++ [(mJ B s).1]) (mJ B s).2
theorem xgy{B:List UInt8}{s:Rs}(h:eR B s=0):s.e=0:=by
 unfold eR at h;split at h
 ·assumption
 ·exact h
def qN(B:List UInt8):Nat:=min (hN B).1.toNat 17
def qL(B:List UInt8):List Ent×Rs:=Yi B (qN B) [] (hN B).2
def qK(B:List UInt8):Int×Rs:=uR B 1 (qL B).2
def qM(B:List UInt8):Nat:=min (qK B).1.toNat 9
def qR(B:List UInt8):List Rul×Rs:=Sx B (qM B) [] (qK B).2
def xkL(B:List UInt8):Man:=⟨(hV B).1,(hE B).1,(hF B).1,(hM B).1,(hT B).1,(qL B).1,(qR B).1⟩
def okQ(B:List UInt8):Prop:=(uR B 1 ⟨0,0⟩).1=21/\eR B (qR B).2=0/\fm (xkL B)=0
instance (B:List UInt8):Decidable (okQ B):=by unfold okQ;infer_instance
end Go.Proofs.YtbfnljmmepcbfaaGreatDoor
