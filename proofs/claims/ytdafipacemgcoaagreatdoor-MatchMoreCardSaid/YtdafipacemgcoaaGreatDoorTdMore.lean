/- What the functions come to. No condition. -/
import Derived.Test.YtdafipacemgcoaaGreatDoorTcMore
open Int renaming fdiv -> Fj, natCast_zero -> aB, toNat_natCast -> eE
open Go.IntKind renaming i64 -> ai, u64 -> bm, wrap_u64 -> cH
open List renaming append_assoc -> aZ, append_nil -> bH, cons_append -> bK, drop -> eQ, drop_length -> aL, drop_zero -> aR, filter_cons -> ie, foldl_cons -> cE, foldl_nil -> oS, getD_cons_succ -> bh, getD_cons_zero -> bc, getD_eq_getElem?_getD -> aa, getElem?_append_right -> bA, getElem?_eq_getElem -> af, getElem_of_mem -> bJ, length_append -> ah, length_cons -> av, length_drop -> aE, length_nil -> aQ, length_pos_iff -> mS, length_set -> cu, length_singleton -> aD, length_take -> ay, map_append -> bx, map_take -> lC, mem_append -> an, mem_cons -> au, mem_cons_of_mem -> aw, mem_cons_self -> aG, mem_of_mem_drop -> dy, mem_of_mem_take -> bW, mem_singleton -> bp, nil_append -> bw, not_mem_nil -> dX, singleton_append -> dO, take -> cj, take_append_drop -> yl, take_length -> bo, take_of_length_le -> bO
open Nat renaming le_refl -> aM, le_trans -> cr, sub_zero -> iT, zero_add -> bB, zero_le -> bL
open Go.Op renaming bytesLess -> cx
set_option maxRecDepth 100000
set_option maxHeartbeats 16000000
set_option linter.unusedSimpArgs false
set_option linter.unusedVariables false
namespace Go.Proofs.YtdafipacemgcoaaGreatDoor
open Go.Sy
open UInt8 renaming reduceLT -> Q0, reduceLE -> Q1
open Int renaming reduceToNat -> Q2, reduceLE -> Q3, reduceLT -> Q4, reduceEq -> Q5, reduceNe -> Q6, reduceNeg -> Q7, reduceAdd -> Q8, reduceSub -> Q9, reduceMul -> Qa
open Nat renaming reducePow -> Qb, reduceDiv -> Qc, reduceMod -> Qd, reduceAdd -> Qe, reduceSub -> Qf, reduceMul -> Qg, reduceLT -> Qh, reduceLeDiff -> Qi, reduceEqDiff -> Qj, reduceBEq -> Qk
theorem xnT(d:List UInt8):call T 60 [.lst 1 [] .no,.byt d .no,.fn 61 [] []] [] 0=some ⟨.tup [.int .i64 0,.bool false],[],[]⟩:=by rw[am xmw];simp only[go_sem,Qe,Qh,Qi,Qj,Qk,reduceCtorEq,reduceIte];rw[aj];simp only[go_sem,Q2,Q3,Q4,Qh,Qj,Qk,reduceCtorEq,reduceIte,c0]
def Hz(L:List (List UInt8))(d:List UInt8)(i j:Nat):CSt:=
 ⟨[(0,.psl 0 1 0 L.length none),(1,.byt d .no),(2,.fn 61 [] []),(8,.int .i64 L.length),(9,.int .i64 i),(10,.int .i64 j)],[(0,.arr 1 (bls L))],[]⟩
theorem l60(L:List (List UInt8))(d:List UInt8)(hs:wz L)(hn:L.length<=1000000000):∀(m i j:Nat),j-i<=m->i<=lbB L d->lbB L d<=j->j<=L.length->
 run T (.loop PF) (Hz L d i j)=some (.x 0,⟨[(0,.psl 0 1 0 L.length none),(1,.byt d .no),(2,.fn 61 [] []),(8,.int .i64 L.length),(9,.int .i64 (lbB L d))],[(0,.arr 1 (bls L))],[]⟩):=by
 intro m;induction m with
 |zero=>
  intro i j h0 h1 h2 h3;have hij:j=i:=by omega
  have hli:lbB L d=i:=by omega
  subst hij;rw[hli,Hz,aj];simp only[go_sem,Qh,Qj,Qk,reduceCtorEq,reduceIte]
 |succ m ih=>
  intro i j h0 h1 h2 h3
  by_cases hij:i<j
  ·have hv:=eW L
   have e1:ai.wrap ((i:Int)+(j:Int))=((i+j:Nat):Int):=wZ (by omega)
   have e2:bm.wrap ((i+j:Nat):Int)=((i+j:Nat):Int):=by rw[cH];omega
   have e3:Fj ((i+j:Nat):Int) (2^min 1 64)=(((i+j)/2:Nat):Int):=by rw[show min 1 64=1 from rfl,Int.fdiv_eq_ediv_of_nonneg _ (by decide)];rfl
   have e4:ai.wrap (((i+j)/2:Nat):Int)=(((i+j)/2:Nat):Int):=w64 (by omega) (by omega);have e5:bm.wrap (((i+j)/2:Nat):Int)=(((i+j)/2:Nat):Int):=by rw[cH];omega
   have e6:ai.wrap ((((i+j)/2:Nat):Int)+1)=(((i+j)/2+1:Nat):Int):=bV _ (by omega);have hk:(i+j)/2<L.length:=by omega
   have hg:=iR L ((i+j)/2) hk;have hif:=nf L d hs ((i+j)/2) hk;have g:=f61 (L.getD ((i+j)/2) []) d;have ha:i<=(i+j)/2:=by omega
   have hb:(i+j)/2<j:=by omega
   generalize (i+j)/2=k at*
   by_cases hc:Lib.compareBytes (L.getD k []) d<0
   ·have ih':=ih (k+1) j (by omega) (by have:=hif.1 hc;omega) h2 h3
    rw[Hz]at ih' ⊢;rw[aj];simp only[go_sem,Q2,Q3,Qh,Qj,Qk,reduceCtorEq,reduceIte,hij,e1,e2,e3,e4,hv,hk,hg,g,Ty,hc,e6,ih']
   ·have ih':=ih i k (by omega) h1 (by have:=mt hif.2 hc;omega) (by omega)
    rw[Hz]at ih' ⊢;rw[aj];simp only[go_sem,Q2,Q3,Qh,Qj,Qk,reduceCtorEq,reduceIte,hij,e1,e2,e3,e4,hv,hk,hg,g,Ty,hc,ih']
  ·have hji:j=i:=by omega
   have hli:lbB L d=i:=by omega
   subst hji;rw[hli,Hz,aj];simp only[go_sem,Qh,Qj,Qk,reduceCtorEq,reduceIte]
theorem f60(L:List (List UInt8))(d:List UInt8)(hs:wz L)(hn:L.length<=1000000000):
 call T 60 [.psl 0 1 0 L.length none,.byt d .no,.fn 61 [] []] [.arr 1 (bls L)] 0=some ⟨.tup [.int .i64 (lbB L d),.bool (qV L d)],[(0,.arr 1 (bls L))],[]⟩:=by
 have hl:=l60 L d hs hn _ 0 L.length (aM _) (bL _) (mh L d) (aM _);rw[Hz,aB]at hl;have hv:=eW L;rw[am xmw];unfold qV
 by_cases hq:lbB L d<L.length
 ·have hg:=iR L _ hq
  have g:=f61 (L.getD (lbB L d) []) d;have he:=nj (L.getD (lbB L d) []) d
  by_cases hd:L.getD (lbB L d) []=d
  ·have h0:Lib.compareBytes (L.getD (lbB L d) []) d=0:=he.2 hd
   rw[decide_eq_true ⟨hq,hd⟩];generalize lbB L d=q at*;simp only[go_sem,Qe,Qh,Qi,Qj,Qk,reduceCtorEq,reduceIte,hv,hl,hq,hg,g,Ty,h0]
  ·have h0:¬Lib.compareBytes (L.getD (lbB L d) []) d=0:=fun h=>hd (he.1 h)
   rw[decide_eq_false (fun h=>hd h.2)];generalize lbB L d=q at*;simp only[go_sem,Qe,Qh,Qi,Qj,Qk,reduceCtorEq,reduceIte,hv,hl,hq,hg,g,Ty,h0]
 ·rw[decide_eq_false (fun h=>hq h.1)]
  generalize lbB L d=q at*;simp only[go_sem,Qe,Qh,Qi,Qj,Qk,reduceCtorEq,reduceIte,hl,hq]
theorem xnS(d:List UInt8):call T 62 [.lst 1 [] .clip,.int .i64 0,.lst 1 [[.byt d .no]] .no] [] 0=some ⟨.psl 100 1 0 1 none,[(100,.arr 1 [[.byt d .no]])],[]⟩:=by rw[i6 xmv];rfl
theorem f62(L:List (List UInt8))(k:Nat)(d:List UInt8)(hk:k<=L.length)(hn:L.length<=1000000000):
 call T 62 [.psl 0 1 0 L.length none,.int .i64 k,.lst 1 [[.byt d .no]] .no] [.arr 1 (bls L)] 0=some ⟨.psl 100 1 0 (L.length+1) none,[(100,.arr 1 (bls (L.take k++d::L.drop k)))],[]⟩:=by
 rw[i6 xmv];show(if(bls L).length=L.length/\(0:Int)<=(k:Int)/\(k:Int)<=((L.length:Nat):Int)/\L.length<=1000000000 then some (⟨.psl 100 1 0 (L.length+1) none,[(100,.arr 1 (lr (bls L) (k:Int).toNat (.byt d .no)))],[]⟩:ep)else none)=_;rw[if_pos ⟨eW L,by omega,by omega,hn⟩,eE,tw]
def grS(ms:List Man)(L:List (List UInt8))(p:Int×Int):List (List UInt8):=if p.1<0\/(ms.length:Int)<=p.1 then L else jB L (jX (ms.getD p.1.toNat mn0))
def grV(ms:List Man)(rs:List (Int×Int)):List (List UInt8):=rs.foldl (grS ms) []
theorem tj(ms:List Man)(L:List (List UInt8))(p:Int×Int):(grS ms L p).length<=L.length+1:=by
 unfold grS;split
 ·omega
 ·exact GX _ _
theorem C7(ms:List Man)(L:List (List UInt8))(p:Int×Int)(h:wz L):wz (grS ms L p):=by
 unfold grS;split
 ·exact h
 ·exact GU _ _ h
def vy(L:List (List UInt8)):SV:=if L=[]then .lst 1 [] .clip else .psl 105 1 0 L.length none
def vz(L:List (List UInt8)):List (Nat×aF):=if L=[]then []else [(105,.arr 1 (bls L))]
theorem l21(ms:List Man)(hm:fT ms)(rs:List (Int×Int))(hr:rs.length<=1000000):∀(n i:Nat)(L:List (List UInt8)),rs.length-i=n->i<=rs.length->wz L->L.length<=i->
 run T (.loop yT) ⟨[(0,.lst 7 (cS ms) .no),(5,vy L),(11,.lst 2 (rsv rs) .no),(12,.int .i64 rs.length),(13,.int .i64 i)],vz L,[]⟩=
  some (.x 0,⟨[(5,vy ((rs.drop i).foldl (grS ms) L))],vz ((rs.drop i).foldl (grS ms) L),[]⟩):=by
 intro n;induction n with
 |zero=>
  intro i L h0 h1 hs hL;have hi:i=rs.length:=by omega
  subst hi;rw[aL,oS,aj];simp only[go_sem,Qh,Qj,Qk,reduceCtorEq,reduceIte]
 |succ n ih=>
  intro i L h0 h1 hs hL;have hi:i<rs.length:=by omega
  have e1:=bV i (by omega);have hv:=cC rs;have hg:=gG rs i hi;have hvm:=dh ms;rw[fA rs (0,0) i hi,cE];have ih':=ih (i+1) (grS ms L (rs.getD i (0,0))) (by omega) (by omega) (C7 _ _ _ hs) (by have:=tj ms L (rs.getD i (0,0));omega);generalize (rs.drop (i+1)).foldl (grS ms) (grS ms L (rs.getD i (0,0)))=Z at*;generalize rs.getD i (0,0)=p at*;obtain⟨p1,p2⟩:=p;simp only at hg
  by_cases hp0:p1<0
  ·unfold grS at ih'
   rw[if_pos (.inl hp0)]at ih'
   by_cases hz:L=[]
   ·subst hz
    simp only[vy,vz,reduceIte]at ih' ⊢;rw[aj];simp only[go_sem,Qe,Qh,Qi,Qj,Qk,reduceCtorEq,reduceIte,hi,hv,hg,hp0,e1,ih']
   ·simp only[vy,vz,if_neg hz]at ih' ⊢
    rw[aj];simp only[go_sem,Qe,Qh,Qi,Qj,Qk,reduceCtorEq,reduceIte,hi,hv,hg,hp0,e1,ih']
  ·by_cases hp1:(ms.length:Int)<=p1
   ·unfold grS at ih'
    rw[if_pos (.inr hp1)]at ih';have hp1':¬p1<(ms.length:Int):=by omega
    by_cases hz:L=[]
    ·subst hz
     simp only[vy,vz,reduceIte]at ih' ⊢;rw[aj];simp only[go_sem,Qe,Qh,Qi,Qj,Qk,reduceCtorEq,reduceIte,hi,hv,hg,hp0,hvm,hp1,e1,ih']
    ·simp only[vy,vz,if_neg hz]at ih' ⊢
     rw[aj];simp only[go_sem,Qe,Qh,Qi,Qj,Qk,reduceCtorEq,reduceIte,hi,hv,hg,hp0,hvm,hp1,e1,ih']
   ·unfold grS at ih'
    rw[if_neg (by omega)]at ih';obtain⟨k,rfl⟩:∃k:Nat,p1=k:=⟨p1.toNat,by omega⟩;have hk:k<ms.length:=by omega
    have hk':¬ms.length<=k:=by omega
    have hgm:=gH ms k hk;have gd:=f59 (ms.getD k mn0) (hm.2 _ (bG ms mn0 k hk));rw[eE]at ih';generalize jX (ms.getD k mn0)=d at*;generalize ms.getD k mn0=mm at*;obtain⟨mv,m1,m2,m3,m4,es,rl⟩:=mm;simp only[Man.sv]at hgm gd
    by_cases hz:L=[]
    ·subst hz
     have g1:=xnT d;have g2:=xnS d;have hi0:jB [] d=[d]:=rfl;rw[hi0]at ih';have b1:bls [d]=[[.byt d .no]]:=rfl;have b2:[d].length=1:=rfl;simp only[vy,vz,reduceIte,List.cons_ne_nil,b1,b2]at ih' ⊢;rw[aj];simp only[go_sem,Qe,Qg,Qh,Qi,Qj,Qk,reduceCtorEq,reduceIte,hi,hv,hg,hp0,hvm,hk,hk',hgm,gd,xgF,g1,xgE,g2,xmD,e1,ih']
    ·have g1:=f60 L d hs (by omega)
     have hle:=mh L d
     by_cases hb:qV L d=true
     ·have hi0:jB L d=L:=by unfold jB;rw[if_pos hb]
      rw[hb]at g1;rw[hi0]at ih';simp only[vy,vz,if_neg hz]at ih' ⊢;rw[aj];simp only[go_sem,Qe,Qg,Qh,Qi,Qj,Qk,reduceCtorEq,reduceIte,hi,hv,hg,hp0,hvm,hk,hk',hgm,gd,xgF,g1,xgE,e1,ih']
     ·have hi0:jB L d=L.take (lbB L d)++d::L.drop (lbB L d):=by unfold jB;rw[if_neg hb]
      have hb':qV L d=false:=by simpa using hb
      rw[hb']at g1;rw[hi0]at ih';have g2:=f62 L (lbB L d) d hle (by omega);have hln:(L.take (lbB L d)++d::L.drop (lbB L d)).length=L.length+1:=by rw[ah,av,ay,aE];omega
      have hne:¬L.take (lbB L d)++d::L.drop (lbB L d)=[]:=by simp
      simp only[vy,vz,if_neg hz,if_neg hne,hln]at ih' ⊢;generalize L.take (lbB L d)++d::L.drop (lbB L d)=LL at*;rw[aj];simp only[go_sem,Qe,Qg,Qh,Qi,Qj,Qk,reduceCtorEq,reduceIte,hi,hv,hg,hp0,hvm,hk,hk',hgm,gd,xgF,g1,xgE,g2,xmD,e1,ih']
theorem f21(ms:List Man)(hm:fT ms)(rs:List (Int×Int))(hr:rs.length<=1000000):call T 21 [.lst 7 (cS ms) .no,.lst 2 (rsv rs) .no] [] 0=some ⟨.lst 1 (bls (grV ms rs)) .no,[],[]⟩:=by
 have h:=l21 ms hm rs hr _ 0 [] rfl (bL _) List.Pairwise.nil (aM _);rw[aB,aR]at h;have hv:=cC rs;unfold grV;generalize rs.foldl (grS ms) []=Z at*;rw[am xpC];unfold vy vz at h
 by_cases hz:Z=[]
 ·subst hz
  simp only[reduceIte]at h;simp only[go_sem,Qe,Qh,Qi,Qj,Qk,reduceCtorEq,reduceIte,hv,h];rfl
 ·simp only[reduceIte,if_neg hz]at h
  have hvl:=eW Z;have tf:cj Z.length (bls Z)=bls Z:=by rw[<-hvl,bo]
  simp only[go_sem,Qe,Qh,Qi,Qj,Qk,reduceCtorEq,reduceIte,hv,h,hvl,tf,aM]
theorem GV(d:List UInt8):jB [d] d=[d]:=by
 have h0:lbB [d] d=0:=by unfold lbB;rw[List.takeWhile_cons,wq];rfl
 unfold jB qV;rw[h0,if_pos (decide_eq_true ⟨by simp,rfl⟩)]
theorem zg(m:Man):∀(rs:List (Int×Int))(L:List (List UInt8)),(L=[]\/L=[jX m])->(L=[jX m]\/∃p∈rs,p.1=0)->rs.foldl (grS [m]) L=[jX m]
 |[],L,_,h=>by
  rcases h with h|⟨p,hp,_⟩
  ·exact h
  ·cases hp
 |p::r,L,h1,h2=>by
  rw[cE]
  by_cases hp:p.1<0\/(1:Int)<=p.1
  ·have e:grS [m] L p=L:=by unfold grS;exact if_pos hp
   rw[e];refine zg m r L h1 (h2.imp id fun⟨q,hq,h⟩=> ?_);rcases au.1 hq with rfl|hq
   ·omega
   ·exact⟨q,hq,h⟩
  ·have e:grS [m] L p=[jX m]:=by
    unfold grS;rw[if_neg (by show ¬(p.1<0\/(1:Int)<=p.1);exact hp)];have h0:p.1.toNat=0:=by omega
    rw[h0];rcases h1 with rfl|rfl
    ·rfl
    ·exact GV _
   rw[e];exact zg m r _ (.inr rfl) (.inl rfl)
theorem xnY(m:Man)(hm:eX m)(rs:List (Int×Int))(hn:rs.length<=1000000)(h:∃p∈rs,p.1=0):
 call T 21 [.lst 7 [m.sv] .no,.lst 2 (rsv rs) .no] [] 0=some ⟨.lst 1 [[.byt (jX m) .no]] .no,[],[]⟩:=by
 have hb:fT [m]:=⟨by simp,fun x hx=>by rw[bp.1 hx];exact hm⟩;have g:=f21 [m] hb rs hn;unfold grV at g;rw[zg m rs [] (.inl rfl) (.inr h)]at g;exact g
def im1:Img:=⟨1,[102],0,[]⟩
def im2:Img:=⟨3,[107],0,[]⟩
theorem zf:gK im1=0:=by decide
theorem ze:gK im2=0:=by decide
theorem C4:eD [im1,im2]:=by
 refine⟨by decide,by decide, ?_, ?_, ?_,⟨0,by decide,rfl⟩,⟨1,by decide,rfl⟩⟩
 ·intro i hi
  have:i=0\/i=1:=by simp only[av,aQ]at hi;omega
  rcases this with rfl|rfl
  ·exact zf
  ·exact ze
 ·intro i hi
  have:i=0:=by simp only[av,aQ]at hi;omega
  subst this;decide
 ·intro i hi k hk h
  have:i=1/\k=0:=by simp only[av,aQ]at hi;omega
  obtain⟨rfl,rfl⟩:=this;exact absurd h (by decide)
def mnA:Man:=⟨[118],1,0,0,1099511627776,[eN im1,eN im2],[]⟩
theorem xfz:xml [118] 1 [im1,im2]=mnA:=by
 have h1:iw (eN im2) [eN im1]=1:=by
  have:oQ (eN im1) (eN im2)=true:=by unfold oQ;rw[if_neg (by decide)];decide
  unfold iw;rw[if_pos this];rfl
 unfold xml tr mnA;rw[cE,cE,oS]
 have e1:sk im1 []=[eN im1]:=by unfold sk xM;rw[if_neg (by decide),if_neg (by simp)];rfl
 have e2:sk im2 [eN im1]=[eN im1,eN im2]:=by unfold sk xM;rw[if_neg (by decide),h1,if_neg (by simp)];rfl
 rw[e1,e2]
theorem OV:eX mnA:=by
 refine⟨by decide,by show 2<=1000000;decide,by decide, ?_,fun x hx=>by cases hx⟩;intro x hx;have:x=eN im1\/x=eN im2:=by simpa[mnA]using hx
 rcases this with rfl|rfl
 ·exact⟨by decide,by show(sha _).length<=_;rw[fQ];decide⟩
 ·exact⟨by decide,by show(sha _).length<=_;rw[fQ];decide⟩
theorem OU:lq mnA=0:=by
 have d1:((eN im1).dig.length:Int)=32:=by show((sha _).length:Int)=32;rw[fQ];rfl
 have d2:((eN im2).dig.length:Int)=32:=by show((sha _).length:Int)=32;rw[fQ];rfl
 have b:oQ (eN im1) (eN im2)=true:=by unfold oQ;rw[if_neg (by decide)];decide
 have e0:lw [eN im1,eN im2] 0=0:=by unfold lw;simp only[bc];rw[if_neg (by decide),if_neg (by decide),if_neg (by decide),if_neg (by decide),if_pos d1,if_pos (by decide),if_pos trivial]
 have e1:lw [eN im1,eN im2] 1=0:=by unfold lw;simp only[bh,bc];rw[if_neg (by decide),if_neg (by decide),if_neg (by decide),if_neg (by decide),if_pos d2,if_pos (by decide),if_neg (by decide),show([eN im1,eN im2].getD (1-1) en0)=eN im1 from rfl,if_pos b]
 have es:gD [eN im1,eN im2] 2 0=0:=by unfold gD;rw[if_pos e0];unfold gD;rw[if_pos e1];rfl
 unfold lq mnA;simp only[av,aQ];rw[if_pos (by decide),if_neg (by decide),if_neg (by decide),if_neg (by decide),if_neg (by decide),if_neg (by decide),if_neg (by decide),if_neg (by decide),if_neg (by decide),if_pos es];rfl
theorem O4{x:Img}(h:gK x=0):il x≠ []:=fun e=>tq h (by rw[e];rfl)
theorem OS{x:Img}(h:gK x=0):(ofI x 2).dg.getD 1 []=sha (il x):=by unfold ofI wm;simp only;rw[if_neg (O4 h)];rfl
theorem C2{x:Img}(h:gK x=0):itE (ofI x 2) (eN x)=true:=by unfold itE;rw[OS h];simp only[ofI,eN,decide_true,Bool.and_self]
theorem xl6:dV mnA (ofI im1 2)=0:=by unfold dV;rw[if_pos OU,if_pos (show(ofI im1 2).kind=1 from rfl)];unfold mnA fK;rw[if_pos (C2 zf)];rfl
theorem xl5:dV mnA (ofI im2 2)=1:=by
 have h:itE (ofI im2 2) (eN im1)=false:=by unfold itE;rw[decide_eq_false (by decide:¬(ofI im2 2).reg=sS (eN im1).role)];rfl
 unfold dV;rw[if_pos OU,if_pos (show(ofI im2 2).kind=1 from rfl)];unfold mnA fK;rw[if_neg (by rw[h];simp)];unfold fK;rw[if_pos (C2 ze)];rfl
theorem xow(i:Int):pK (mkV i 2 2 [0,0,0,0])=true:=by
 unfold pK;rw[if_neg (by show ¬(2:Int)=1;decide),if_pos (show(mkV i 2 2 [0,0,0,0]).kind=2 from rfl),if_pos (show(mkV i 2 2 [0,0,0,0]).data=[0,0,0,0]from rfl)]
 have h0:(mkV i 2 2 [0,0,0,0]).dg=[[],sha [0,0,0,0]]:=by unfold mkV;rfl
 rw[h0];show(iy true [] (iZ [0,0,0,0])&&iy true (sha [0,0,0,0]) (sha [0,0,0,0]))=true;unfold iy;rw[if_neg (by decide),decide_eq_true rfl];split<;>rfl
def evA:List Ev:=[ofI im1 2,mkV 0 2 2 [0,0,0,0],mkV 1 2 2 [0,0,0,0],mkV 2 2 2 [0,0,0,0],mkV 3 2 2 [0,0,0,0],mkV 4 2 2 [0,0,0,0],mkV 5 2 2 [0,0,0,0],mkV 6 2 2 [0,0,0,0],mkV 7 2 2 [0,0,0,0],ofI im2 2]
theorem xf3:evF [im1,im2] 2=evA:=rfl
theorem xhd:fH [mnA] (ofI im1 2)=some (0,0):=by unfold fH;rw[if_neg (by show ¬(1:Int)=5;decide),if_neg (by show ¬(1:Int)=2;decide)];unfold frM;rw[xl6];rfl
theorem xhc:fH [mnA] (ofI im2 2)=some (0,1):=by unfold fH;rw[if_neg (by show ¬(1:Int)=5;decide),if_neg (by show ¬(1:Int)=2;decide)];unfold frM;rw[xl5];rfl
theorem xhb(i:Int):fH [mnA] (mkV i 2 2 [0,0,0,0])=some (-1, -1):=by unfold fH;rw[if_neg (by show ¬(2:Int)=5;decide),if_pos (show(mkV i 2 2 [0,0,0,0]).kind=2 from rfl),if_pos (xow i)]
def rsA:List (Int×Int):=[(0,0),(-1, -1),(-1, -1),(-1, -1),(-1, -1),(-1, -1),(-1, -1),(-1, -1),(-1, -1),(0,1)]
theorem exA:(exV evA [mnA]).rs=rsA/\(exV evA [mnA]).at'=10/\exE evA [mnA]=0:=by
 have key:exV evA [mnA]=⟨⟨4,8,false,true,false,true,true,false⟩,10,rsA,0⟩:=by
  unfold exV evA;unfold exW;rw[if_pos (by decide),xhd];simp only
  iterate 8
   unfold exW;rw[if_pos (by decide),xhb];simp only
  unfold exW;rw[if_pos (by decide),xhc];simp only;unfold exW;rfl
 unfold exE;rw[key];exact⟨rfl,rfl,rfl⟩
theorem xoq:(exV evA []).rs=[]/\(exV evA []).at'=0/\exE evA []=47:=by
 have key:exV evA []=⟨w0,0,[],47⟩\/∃w,exV evA []=⟨w,0,[],47⟩:=by
  right;unfold exV evA;unfold exW;rw[if_pos (by decide)]
  have:fH [] (ofI im1 2)=none:=by unfold fH;rw[if_neg (by show ¬(1:Int)=5;decide),if_neg (by show ¬(1:Int)=2;decide)];rfl
  rw[this];exact⟨_,rfl⟩
 unfold exE;rcases key with h|⟨w,h⟩
 ·rw[h];exact⟨rfl,rfl,rfl⟩
 ·rw[h];exact⟨rfl,rfl,rfl⟩
theorem ckA:ckV evA [mnA] rsA=true:=by
 unfold ckV;rw[if_pos exA.2.2,if_pos (show(rsA.length:Int)=evA.length from rfl)]
 have h0:ckO [mnA] (ofI im1 2) (0,0)=true:=by unfold ckO;rw[if_neg (by show ¬(1:Int)=5;decide),if_neg (by show ¬(1:Int)=2;decide),if_neg (by decide),if_neg (by decide),if_neg (by decide)];show decide (dV mnA (ofI im1 2)=0)=true;rw[xl6];rfl
 have h1:ckO [mnA] (ofI im2 2) (0,1)=true:=by unfold ckO;rw[if_neg (by show ¬(1:Int)=5;decide),if_neg (by show ¬(1:Int)=2;decide),if_neg (by decide),if_neg (by decide),if_neg (by decide)];show decide (dV mnA (ofI im2 2)=1)=true;rw[xl5];rfl
 have h2:∀i:Int,ckO [mnA] (mkV i 2 2 [0,0,0,0]) (-1, -1)=true:=by intro i;unfold ckO;rw[if_neg (by show ¬(2:Int)=5;decide),if_pos (show(mkV i 2 2 [0,0,0,0]).kind=2 from rfl)];rfl
 unfold evA rsA;unfold ckL;rw[if_pos h0]
 iterate 8
  unfold ckL;rw[if_pos (h2 _)]
 unfold ckL;rw[if_pos h1];rfl
theorem zi:iY evA:=by
 refine⟨by decide, ?_⟩
 have hi:∀x,gK x=0->sn (ofI x 2):=by
  intro x hx;have h1:=(mi hx).1;obtain⟨_,_,c0,c1,_,_⟩:=jC hx;refine⟨?_, ?_, ?_, ?_⟩
  ·unfold ofI;exact wk _ _
  ·unfold ofI ti
   have:=jg 6 x.ver.toNat (by omega);have hn:=kM (jC hx).2.2.2.2.1;simp only[ah,av];omega
  ·unfold ofI wm
   simp only;rw[if_neg (O4 hx)];show(if qW 2 0=true then iZ (il x)else []).length<=1000000;rw[if_neg (by decide)];exact bL _
  ·rw[OS hx,fQ];decide
 have hs:∀i:Int,sn (mkV i 2 2 [0,0,0,0]):=by
  intro i
  have h0:(mkV i 2 2 [0,0,0,0]).dg=[[],sha [0,0,0,0]]:=by unfold mkV;rfl
  refine⟨?_, ?_, ?_, ?_⟩
  ·rw[h0];rfl
  ·show([0,0,0,0]:List UInt8).length<=_;decide
  ·rw[h0];decide
  ·rw[h0];show(sha _).length<=_;rw[fQ];decide
 intro e he;unfold evA at he;simp only[au,dX,or_false]at he;rcases he with rfl|rfl|rfl|rfl|rfl|rfl|rfl|rfl|rfl|rfl
 ·exact hi _ zf
 ·exact hs _
 ·exact hs _
 ·exact hs _
 ·exact hs _
 ·exact hs _
 ·exact hs _
 ·exact hs _
 ·exact hs _
 ·exact hi _ ze
theorem f10:call T 10 [] [] 0=some ⟨.bool true,[],[]⟩:=by
 have g1:=f31 [im1,im2] C4 2 (.inr (.inl rfl));rw[xf3]at g1;have g2:=f34 [im1,im2] C4 [118] 1;have hde:tr [im1,im2] []=[eN im1,eN im2]:=congrArg Man.ents xfz;rw[hde]at g2
 have hms:fT [mnA]:=⟨by decide,fun m hm=>by
  have:m=mnA:=by simpa using hm
  rw[this];exact OV⟩
 have hms0:fT []:=⟨by decide,fun m hm=>by cases hm⟩;have g3:=f12 2 0 evA zi [mnA] hms;have g4:=f12 2 0 evA zi [] hms0;have g5:=f16 2 0 evA zi [mnA] hms rsA;have g6:=xnY mnA OV rsA (by decide) ⟨(0,0),by simp[rsA],rfl⟩;unfold exS at g3 g4;obtain⟨a1,a2,a3⟩:=exA;obtain⟨b1,b2,b3⟩:=xoq;rw[a1,a2,a3]at g3;rw[b1,b2,b3]at g4;rw[ckA]at g5;have hv:=cC rsA;have hl:rsA.length=10:=rfl;have hg:=gG rsA 9 (by decide);have hr9:rsA.getD 9 (0,0)=(0,1):=rfl;rw[hr9]at hg;rw[hl]at hv;have i1:fm [im1,im2]=[[.int .i64 1,.str [102],.int .i64 0,.byt [] .no],[.int .i64 3,.str [107],.int .i64 0,.byt [] .no]]:=rfl;rw[i1]at g1 g2;have m1:cS [mnA]=[mnA.sv]:=rfl;have m0:cS []=[]:=rfl;rw[m1]at g3 g5;rw[m0]at g4;have hsv:mnA.sv=[.str [118],.int .i64 1,.int .i64 0,.int .i64 0,.int .i64 1099511627776,.lst 4 (dC [eN im1,eN im2]) .no,.lst 4 [] .no]:=rfl;rw[hsv]at g3 g5 g6;generalize dC [eN im1,eN im2]=E at*;generalize bD evA=V at*;generalize rsv rsA=R at*;generalize jX mnA=D at*;have r0:rsv []=[]:=rfl;rw[r0]at g4;rw[am xpM];simp only[go_sem,Q2,Q3,Q4,Qe,Qh,Qi,Qj,Qk,reduceCtorEq,reduceIte,g1,xgJ,g2,yg,g3,g4,jZ,c10,c0,hv,hg,g5,tY,g6,Tz]

theorem xf1{l:List Ev}(h:l.length<=250)(hs:∀e,e∈l->EvS e):iY l:=⟨by omega,fun e he=>by have:=hs e he;exact⟨this.d2,by have:=this.b;omega,by have:=this.d0;omega,by have:=this.d1;omega⟩⟩
theorem xbu(codes chain ma:List UInt8)(ac:Int)(h0: -9223372036854775808<=ac)(h1:ac<=9223372036854775807):
 ∃(a:Int)(l:List Ev)(ms:List Man),l.length<=250/\iY l/\ms.length<=10/\fT ms/\
 call T 11 [.byt codes .no,.byt chain .no,.byt ma .no,.int .i64 ac] [] 0=some ⟨.tup [.agg [.int .i64 a,.int .i64 0,.lst 4 (bD l) .no],.lst 7 (cS ms) .no],[],[]⟩:=by
 obtain⟨a,l,ms,_,q1,q2,⟨ms',q3,rfl⟩,q5⟩:=f11 codes chain ma ac h0 h1 (P:=fun ms=>∃ms':List Man,MsS ms'/\mH ms'=ms) (fun ch hch=>by obtain⟨ms,hm,g⟩:=f23 ma ch hch;exact⟨_,⟨ms,hm,rfl⟩,g⟩)
 exact⟨a,l,ms',q1,xf1 q1 q2,q3.n,⟨q3.bd.1,q3.bd.2⟩,q5⟩
theorem f3(codes chain ma:List UInt8)(ac:Int)(h0: -9223372036854775808<=ac)(h1:ac<=9223372036854775807):
 call T 3 [.byt codes .no,.byt chain .no,.byt ma .no,.int .i64 ac] [] 0=some ⟨.bool true,[],[]⟩:=by
 have ga:=f10;obtain⟨a,l,ms,n1,hl,n2,hm,g⟩:=xbu codes chain ma ac h0 h1;have g1:=f12 a 0 l hl ms hm;have g2:=f13 a 0 l hl ms hm
 have hrl:(exV l ms).rs.length<=1000000:=by have h1:=iP ms l w0 0 [] rfl;have h2:=q8 ms l w0 0 [];have h3:(exV l ms).rs.length=(exV l ms).at':=h1;have h4:(exV l ms).at'<=0+l.length:=h2;omega
 have g3:=f14 (exV l ms).rs hrl;unfold exS at g1 g2;rw[am T_3];simp only[go_sem,Qe,Qh,Qi,Qj,Qk,reduceCtorEq,reduceIte,ga,nB,g,nz,g1,jZ,g2,TB,g3,xpY]
theorem vV(e:Ev):∀(l:List Man)(i:Nat)(p:Int×Int),frM e l i=some p->
 ∃k,k<l.length/\p.1=((i+k:Nat):Int)/\0<=p.2/\dV (l.getD k mn0) e=p.2/\∀j,j<k->dV (l.getD j mn0) e<0
 |[],i,p,h=>by cases h
 |m::r,i,p,h=>by
  unfold frM at h
  by_cases h0:0<=dV m e
  ·rw[if_pos h0]at h
   cases h;exact⟨0,by simp,rfl,h0,rfl,fun j hj=>absurd hj (Nat.not_lt_zero j)⟩
  ·rw[if_neg h0]at h
   obtain⟨k,h1,h2,h3,h4,h5⟩:=vV e r (i+1) p h;refine⟨k+1,by rw[av];omega,by rw[h2];omega,h3,by rw[bh];exact h4,fun j hj=> ?_⟩;cases j with
   |zero=>rw[bc];omega
   |succ j=>rw[bh];exact h5 j (by omega)
theorem xJ{m:Man}{e:Ev}(h1:e.kind≠1)(h3:e.kind≠3):dV m e= -1:=by unfold dV;rw[if_neg h1,if_neg h3];split<;>rfl
theorem vW{e:Ev}(h1:e.kind≠1)(h3:e.kind≠3):∀(l:List Man)(i:Nat),frM e l i=none
 |[],_=>rfl
 |m::r,i=>by unfold frM;rw[xJ h1 h3,if_neg (by decide)];exact vW h1 h3 r (i+1)
theorem Da(ms:List Man):∀(l:List Ev)(w:Wk)(i:Nat)(rs:List (Int×Int)),∃t,(exW ms l w i rs).rs=rs++t
 |[],w,i,rs=>⟨[],(bH _).symm⟩
 |e::r,w,i,rs=>by
  unfold exW
  by_cases ho:okW w e=true
  ·rw[if_pos ho]
   cases hr:fH ms e with
   |none=>exact⟨[],(bH _).symm⟩
   |some p=>obtain⟨t,ht⟩:=Da ms r (stW w e) (i+1) (rs++ [p]);exact⟨[p]++t,by rw[<-aZ];exact ht⟩
  ·rw[if_neg ho];exact⟨[],(bH _).symm⟩
theorem tp(ms:List Man):∀(l:List Ev)(w:Wk)(i:Nat)(rs:List (Int×Int)),rs.length=i->∀k,i+k<(exW ms l w i rs).at'->fH ms (l.getD k ev0)=some ((exW ms l w i rs).rs.getD (i+k) (0,0))
 |[],w,i,rs,hl,k,h=>by have:i+k<i:=h;omega
 |e::r,w,i,rs,hl,k,h=>by
  unfold exW at h ⊢
  by_cases ho:okW w e=true
  ·rw[if_pos ho]at h ⊢
   cases hr:fH ms e with
   |none=>rw[hr]at h;have:i+k<i:=h;omega
   |some p=>
    rw[hr]at h;simp only at h ⊢;cases k with
    |zero=>obtain⟨t,ht⟩:=Da ms r (stW w e) (i+1) (rs++ [p]);rw[ht,bc,hr,aZ,aa,bA (by omega),show i+0-rs.length=0 from by omega];rfl
    |succ k=>rw[bh];have:=tp ms r (stW w e) (i+1) (rs++ [p]) (by rw[ah,hl];rfl) k (by omega);rw[this,show i+1+k=i+(k+1)from by omega]
  ·rw[if_neg ho]at h;have:i+k<i:=h;omega
theorem xgh{ms:List Man}{e:Ev}{p:Int×Int}(h:fH ms e=some p):ckO ms e p=true:=by
 unfold fH at h;unfold ckO
 by_cases h5:e.kind=5
 ·rw[if_pos h5]at h ⊢
  cases h;rfl
 ·rw[if_neg h5]at h ⊢
  by_cases h2:e.kind=2
  ·rw[if_pos h2]at h ⊢
   rw[vW (by omega) (by omega)]at h;split at h
   ·cases h;rfl
   ·cases h
  ·rw[if_neg h2]at h ⊢
   obtain⟨k,c1,c2,c3,c4,_⟩:=vV e ms 0 p h;rw[if_neg (by omega),if_neg (by omega),if_neg (by omega),c2,bB,eE,c4];exact decide_eq_true rfl
theorem O6(ms:List Man):∀(l:List Ev)(rs:List (Int×Int)),(∀k,k<rs.length->fH ms (l.getD k ev0)=some (rs.getD k (0,0)))->ckL ms l rs=true
 |[],_,_=>rfl
 |_::_,[],_=>rfl
 |e::r,p::q,h=>by
  unfold ckL;have h0:=h 0 (by simp);rw[bc,bc]at h0;rw[if_pos (xgh h0)]
  exact O6 ms r q fun k hk=>by have:=h (k+1) (by rw[av];omega);rwa[bh,bh]at this
theorem Ru(R:List (Int×Int))(k:Nat)(hk:k<R.length)(m:Int):eH 2 (rsv R) k 0 1 [.int .i64 m]=rsv (R.set k (m,(R.getD k (0,0)).2)):=by unfold eH;rw[if_neg (by decide),gG R k hk];unfold rsv;rw[List.map_set];rfl
theorem AH(R:List (Int×Int))(k:Nat)(hk:k<R.length)(m:Int):eH 2 (rsv R) k 1 1 [.int .i64 m]=rsv (R.set k ((R.getD k (0,0)).1,m)):=by unfold eH;rw[if_neg (by decide),gG R k hk];unfold rsv;rw[List.map_set];rfl
theorem mQ(l:List Ev)(ms:List Man):ckV l ms (exV l ms).rs=decide (exE l ms=0):=by
 unfold ckV
 by_cases h:exE l ms=0
 ·rw[if_pos h,decide_eq_true h]
  have he:(exV l ms).err=0:=by
   have h':=h;unfold exE at h';split at h'
   ·assumption
   ·exact h'
  have hlen:(exV l ms).rs.length=(exV l ms).at':=iP ms l w0 0 [] rfl;have hat:(exV l ms).at'=0+l.length:=uE ms l w0 0 [] he;rw[if_pos (by omega)];refine O6 ms l _ fun k hk=> ?_
  have:=tp ms l w0 0 [] rfl k (by rw[bB];show k<(exV l ms).at';omega);rwa[bB]at this
 ·rw[if_neg h,decide_eq_false h]
theorem mF(n m:Int)(h:1<=m):0<=fJ n m/\fJ n m<m:=by
 unfold fJ;rw[if_neg (by omega)];have h1:=Int.tmod_lt_of_pos n (show(0:Int)<m by omega)
 have h2: -m<n.tmod m:=by have:=Int.lt_tmod_of_pos n (show(0:Int)<m by omega);exact this
 split<;>constructor<;>omega
theorem mG(n:Int)(m:Nat)(h:0<m):∃k:Nat,fJ n m=k/\k<m:=by obtain⟨h1,h2⟩:=mF n m (by omega);exact⟨(fJ n m).toNat,by omega,by omega⟩
theorem xnU(codes chain ma:List UInt8)(ac:Int)(raw:List (Int×Int))(at' how n:Int)
 (a0: -9223372036854775808<=at') (a1:at'<=9223372036854775807) (b0: -9223372036854775808<=how) (b1:how<=9223372036854775807) (n0: -9223372036854775808<=n) (n1:n<=9223372036854775807) (hm3:fJ how 4=3)
 (a:Int) (l:List Ev) (ms:List Man) (nl:l.length<=250) (nm:ms.length<=10) (R:List (Int×Int)) (AT E:Int) (CK:List (Int×Int)->Bool) (IT:Man->Ev->Int) (hRl:R.length<=l.length)
 (ga:call T 10 [] [] 0=some ⟨.bool true,[],[]⟩)
 (g':call T 11 [.byt codes .no,.byt chain .no,.byt ma .no,.int .i64 ac] [] 0=some ⟨.tup [.agg [.int .i64 a,.int .i64 0,.lst 4 (bD l) .no],.lst 7 (cS ms) .no],[],[]⟩)
 (g1:call T 12 [.agg [.int .i64 a,.int .i64 0,.lst 4 (bD l) .no],.lst 7 (cS ms) .no] [] 0=some ⟨.tup [.lst 2 (rsv R) .no,.int .i64 AT,.int .i64 E],[],[]⟩)
 (hck:CK R=decide (E=0))
 (fin16:∀rs,call T 16 [.agg [.int .i64 a,.int .i64 0,.lst 4 (bD l) .no],.lst 7 (cS ms) .no,.lst 2 (rsv rs) .no] [] 0=some ⟨.bool (CK rs),[],[]⟩)
 (fin17:∀rs,call T 17 [.agg [.int .i64 a,.int .i64 0,.lst 4 (bD l) .no],.lst 7 (cS ms) .no,.lst 2 (rsv rs) .no] [] 0=some ⟨.bool (CK rs),[],[]⟩)
 (f19':∀k i:Nat,k<l.length->i<ms.length->call T 19 [.agg (ms.getD i mn0).sv,.agg (l.getD k ev0).sv] [] 0=some ⟨.int .i64 (IT (ms.getD i mn0) (l.getD k ev0)),[],[]⟩):
 call T 5 [.byt codes .no,.byt chain .no,.byt ma .no,.int .i64 ac,.lst 2 (rsv raw) .no,.int .i64 at',.int .i64 how,.int .i64 n] [] 0=some ⟨.bool true,[],[]⟩:=by
 have g2:=fin16 R;have q1:=fin16 raw;have q2:=fin17 raw;rw[hck]at g2;have hvr:=cC R;have hvw:=cC raw;have hve:=bZ l;have hvm:=dh ms;have g3:=f18 at' (R.length:Int) a0 a1 (by omega);have g4:=f18 how 4 b0 b1 (by decide);generalize CK raw=W at*;have hb:R.length*16<=140737488355328:=by omega
 have hb0:(0+R.length)*16<=140737488355328:=by omega
 by_cases hz:R=[]
 ·subst hz
  have z0:rsv ([]:List (Int×Int))=[]:=rfl;rw[z0]at g1 g2;rw[am T_5]
  by_cases hw:(raw.length:Int)<60<;>
   simp only[go_sem,Qb,Qc,Qd,Qe,Qh,Qi,Qj,Qk,reduceCtorEq,reduceIte,ga,nB,g',nz,g1,jZ,g2,tY,q1,q2,wC,hw,hvw,c0,aQ,Nat.zero_mul,bL]
 ·have hpos:0<R.length:=mS.2 hz
  have hne:¬((R.length:Nat):Int)=0:=by omega
  obtain⟨k,ek,hk⟩:=mG at' R.length hpos;rw[ek]at g3;rw[hm3]at g4;have hg:=gG R k hk;have hs:=p9 R (R.getD k (0,0));have b2:(R.length+1)*16<=140737488355328:=by omega
  have hne0:¬((0+R.length:Nat):Int)=0:=by omega
  have hrn:¬rsv R=[]:=fun e=>by rw[e]at hvr;exact absurd hvr (by simp;omega)
  have tR:cj R.length (rsv R)=rsv R:=bO (by rw[hvr];exact aM _);have tS:cj (R.length+1) (rsv (R++ [R.getD k (0,0)]))=rsv (R++ [R.getD k (0,0)]):=bO (by rw[cC,ah];exact aM _);have tL:(rsv (R++ [R.getD k (0,0)])).length=R.length+1:=by rw[cC,ah];rfl
  have r16:=fin16 (R++ [R.getD k (0,0)]);have r17:=fin17 (R++ [R.getD k (0,0)]);generalize CK (R++ [R.getD k (0,0)])=V at*;rw[am T_5]
  by_cases hw:(raw.length:Int)<60<;>
   simp only[go_sem,Q2,Q3,Q5,Qb,Qc,Qd,Qe,Qg,Qh,Qi,Qj,Qk,reduceCtorEq,reduceIte,ga,nB,g',nz,g1,jZ,g2,tY,q1,q2,wC,hw,hvw,hvr,hb,hne,g3,yh,g4,hk,hg,hrn,iT,tR,hs,tS,tL,b2,r16,r17]
theorem xnV(codes chain ma:List UInt8)(ac:Int)(raw:List (Int×Int))(at' how n:Int)
 (a0: -9223372036854775808<=at') (a1:at'<=9223372036854775807) (b0: -9223372036854775808<=how) (b1:how<=9223372036854775807) (n0: -9223372036854775808<=n) (n1:n<=9223372036854775807) (hm3:fJ how 4=2)
 (a:Int) (l:List Ev) (ms:List Man) (nl:l.length<=250) (nm:ms.length<=10) (R:List (Int×Int)) (AT E:Int) (CK:List (Int×Int)->Bool) (IT:Man->Ev->Int) (hRl:R.length<=l.length)
 (ga:call T 10 [] [] 0=some ⟨.bool true,[],[]⟩)
 (g':call T 11 [.byt codes .no,.byt chain .no,.byt ma .no,.int .i64 ac] [] 0=some ⟨.tup [.agg [.int .i64 a,.int .i64 0,.lst 4 (bD l) .no],.lst 7 (cS ms) .no],[],[]⟩)
 (g1:call T 12 [.agg [.int .i64 a,.int .i64 0,.lst 4 (bD l) .no],.lst 7 (cS ms) .no] [] 0=some ⟨.tup [.lst 2 (rsv R) .no,.int .i64 AT,.int .i64 E],[],[]⟩)
 (hck:CK R=decide (E=0))
 (fin16:∀rs,call T 16 [.agg [.int .i64 a,.int .i64 0,.lst 4 (bD l) .no],.lst 7 (cS ms) .no,.lst 2 (rsv rs) .no] [] 0=some ⟨.bool (CK rs),[],[]⟩)
 (fin17:∀rs,call T 17 [.agg [.int .i64 a,.int .i64 0,.lst 4 (bD l) .no],.lst 7 (cS ms) .no,.lst 2 (rsv rs) .no] [] 0=some ⟨.bool (CK rs),[],[]⟩)
 (f19':∀k i:Nat,k<l.length->i<ms.length->call T 19 [.agg (ms.getD i mn0).sv,.agg (l.getD k ev0).sv] [] 0=some ⟨.int .i64 (IT (ms.getD i mn0) (l.getD k ev0)),[],[]⟩):
 call T 5 [.byt codes .no,.byt chain .no,.byt ma .no,.int .i64 ac,.lst 2 (rsv raw) .no,.int .i64 at',.int .i64 how,.int .i64 n] [] 0=some ⟨.bool true,[],[]⟩:=by
 have g2:=fin16 R;have q1:=fin16 raw;have q2:=fin17 raw;rw[hck]at g2;have hvr:=cC R;have hvw:=cC raw;have hve:=bZ l;have hvm:=dh ms;have g3:=f18 at' (R.length:Int) a0 a1 (by omega);have g4:=f18 how 4 b0 b1 (by decide);generalize CK raw=W at*;have hb:R.length*16<=140737488355328:=by omega
 have hb0:(0+R.length)*16<=140737488355328:=by omega
 by_cases hz:R=[]
 ·subst hz
  have z0:rsv ([]:List (Int×Int))=[]:=rfl;rw[z0]at g1 g2;rw[am T_5]
  by_cases hw:(raw.length:Int)<60<;>
   simp only[go_sem,Qb,Qc,Qd,Qe,Qh,Qi,Qj,Qk,reduceCtorEq,reduceIte,ga,nB,g',nz,g1,jZ,g2,tY,q1,q2,wC,hw,hvw,c0,aQ,Nat.zero_mul,bL]
 ·have hpos:0<R.length:=mS.2 hz
  have hne:¬((R.length:Nat):Int)=0:=by omega
  have hne0:¬((0+R.length:Nat):Int)=0:=by omega
  have hrn:¬rsv R=[]:=fun e=>by rw[e]at hvr;exact absurd hvr (by simp;omega)
  obtain⟨k,ek,hk⟩:=mG at' R.length hpos;have hk1:k<=R.length:=by omega
  rw[ek]at g3;rw[hm3]at g4;have ht:(rsv R).take k=rsv (R.take k):=by rw[rsv,rsv,lC]
  have r16:=fin16 (R.take k);have r17:=fin17 (R.take k);generalize CK (R.take k)=V at*;rw[am T_5]
  by_cases hw:(raw.length:Int)<60<;>
   simp only[go_sem,Q2,Q3,Q5,Qb,Qc,Qd,Qe,Qg,Qh,Qi,Qj,Qk,reduceCtorEq,reduceIte,ga,nB,g',nz,g1,jZ,g2,tY,q1,q2,wC,hw,hvw,hvr,hb,hrn,iT,hne,g3,yh,g4,hk,hk1,ht,r16,r17]
theorem xnW(codes chain ma:List UInt8)(ac:Int)(raw:List (Int×Int))(at' how n:Int)
 (a0: -9223372036854775808<=at') (a1:at'<=9223372036854775807) (b0: -9223372036854775808<=how) (b1:how<=9223372036854775807) (n0: -9223372036854775808<=n) (n1:n<=9223372036854775807) (hm3:fJ how 4=1)
 (a:Int) (l:List Ev) (ms:List Man) (nl:l.length<=250) (nm:ms.length<=10) (R:List (Int×Int)) (AT E:Int) (CK:List (Int×Int)->Bool) (IT:Man->Ev->Int) (hRl:R.length<=l.length)
 (ga:call T 10 [] [] 0=some ⟨.bool true,[],[]⟩)
 (g':call T 11 [.byt codes .no,.byt chain .no,.byt ma .no,.int .i64 ac] [] 0=some ⟨.tup [.agg [.int .i64 a,.int .i64 0,.lst 4 (bD l) .no],.lst 7 (cS ms) .no],[],[]⟩)
 (g1:call T 12 [.agg [.int .i64 a,.int .i64 0,.lst 4 (bD l) .no],.lst 7 (cS ms) .no] [] 0=some ⟨.tup [.lst 2 (rsv R) .no,.int .i64 AT,.int .i64 E],[],[]⟩)
 (hck:CK R=decide (E=0))
 (fin16:∀rs,call T 16 [.agg [.int .i64 a,.int .i64 0,.lst 4 (bD l) .no],.lst 7 (cS ms) .no,.lst 2 (rsv rs) .no] [] 0=some ⟨.bool (CK rs),[],[]⟩)
 (fin17:∀rs,call T 17 [.agg [.int .i64 a,.int .i64 0,.lst 4 (bD l) .no],.lst 7 (cS ms) .no,.lst 2 (rsv rs) .no] [] 0=some ⟨.bool (CK rs),[],[]⟩)
 (f19':∀k i:Nat,k<l.length->i<ms.length->call T 19 [.agg (ms.getD i mn0).sv,.agg (l.getD k ev0).sv] [] 0=some ⟨.int .i64 (IT (ms.getD i mn0) (l.getD k ev0)),[],[]⟩):
 call T 5 [.byt codes .no,.byt chain .no,.byt ma .no,.int .i64 ac,.lst 2 (rsv raw) .no,.int .i64 at',.int .i64 how,.int .i64 n] [] 0=some ⟨.bool true,[],[]⟩:=by
 have g2:=fin16 R;have q1:=fin16 raw;have q2:=fin17 raw;rw[hck]at g2;have hvr:=cC R;have hvw:=cC raw;have hve:=bZ l;have hvm:=dh ms;have g3:=f18 at' (R.length:Int) a0 a1 (by omega);have g4:=f18 how 4 b0 b1 (by decide);generalize CK raw=W at*;have hb:R.length*16<=140737488355328:=by omega
 have hb0:(0+R.length)*16<=140737488355328:=by omega
 by_cases hz:R=[]
 ·subst hz
  have z0:rsv ([]:List (Int×Int))=[]:=rfl;rw[z0]at g1 g2;rw[am T_5]
  by_cases hw:(raw.length:Int)<60<;>
   simp only[go_sem,Qb,Qc,Qd,Qe,Qh,Qi,Qj,Qk,reduceCtorEq,reduceIte,ga,nB,g',nz,g1,jZ,g2,tY,q1,q2,wC,hw,hvw,c0,aQ,Nat.zero_mul,bL]
 ·have hpos:0<R.length:=mS.2 hz
  have hne:¬((R.length:Nat):Int)=0:=by omega
  have hne0:¬((0+R.length:Nat):Int)=0:=by omega
  have hrn:¬rsv R=[]:=fun e=>by rw[e]at hvr;exact absurd hvr (by simp;omega)
  obtain⟨k,ek,hk⟩:=mG at' R.length hpos;have hk1:k<=R.length:=by omega
  rw[ek]at g3;rw[hm3]at g4;have g5:=f18 n 9 n0 n1 (by decide);obtain⟨d1,d2⟩:=mF n 9 (by decide);have e9:ai.wrap (fJ n 9-1)=fJ n 9-1:=w64 (by omega) (by omega);have ht:=AH R k hk (fJ n 9-1);simp only[go_sem,Qe,Qj,reduceCtorEq,reduceIte]at ht;have r16:=fin16 (R.set k ((R.getD k (0,0)).1,fJ n 9-1));have r17:=fin17 (R.set k ((R.getD k (0,0)).1,fJ n 9-1));have hvs:(rsv (R.set k ((R.getD k (0,0)).1,fJ n 9-1))).length=R.length:=by rw[cC,cu]
  have htk:(rsv (R.set k ((R.getD k (0,0)).1,fJ n 9-1))).take R.length=rsv (R.set k ((R.getD k (0,0)).1,fJ n 9-1)):=bO (by rw[hvs];exact aM _);generalize CK (R.set k ((R.getD k (0,0)).1,fJ n 9-1))=V at*;generalize rsv (R.set k ((R.getD k (0,0)).1,fJ n 9-1))=RS at*;rw[am T_5]
  by_cases hw:(raw.length:Int)<60<;>
   simp only[go_sem,Q2,Q3,Q5,Qb,Qc,Qd,Qe,Qg,Qh,Qi,Qj,Qk,reduceCtorEq,reduceIte,ga,nB,g',nz,g1,jZ,g2,tY,q1,q2,wC,hw,hvw,hvr,hb,hrn,iT,hne,g3,yh,g4,hk,hk1,g5,e9,ht,hvs,htk,r16,r17]
theorem xnX(codes chain ma:List UInt8)(ac:Int)(raw:List (Int×Int))(at' how n:Int)
 (a0: -9223372036854775808<=at') (a1:at'<=9223372036854775807) (b0: -9223372036854775808<=how) (b1:how<=9223372036854775807) (n0: -9223372036854775808<=n) (n1:n<=9223372036854775807) (hm3:fJ how 4=0)
 (a:Int) (l:List Ev) (ms:List Man) (nl:l.length<=250) (nm:ms.length<=10) (R:List (Int×Int)) (AT E:Int) (CK:List (Int×Int)->Bool) (IT:Man->Ev->Int) (hRl:R.length<=l.length)
 (ga:call T 10 [] [] 0=some ⟨.bool true,[],[]⟩)
 (g':call T 11 [.byt codes .no,.byt chain .no,.byt ma .no,.int .i64 ac] [] 0=some ⟨.tup [.agg [.int .i64 a,.int .i64 0,.lst 4 (bD l) .no],.lst 7 (cS ms) .no],[],[]⟩)
 (g1:call T 12 [.agg [.int .i64 a,.int .i64 0,.lst 4 (bD l) .no],.lst 7 (cS ms) .no] [] 0=some ⟨.tup [.lst 2 (rsv R) .no,.int .i64 AT,.int .i64 E],[],[]⟩)
 (hck:CK R=decide (E=0))
 (fin16:∀rs,call T 16 [.agg [.int .i64 a,.int .i64 0,.lst 4 (bD l) .no],.lst 7 (cS ms) .no,.lst 2 (rsv rs) .no] [] 0=some ⟨.bool (CK rs),[],[]⟩)
 (fin17:∀rs,call T 17 [.agg [.int .i64 a,.int .i64 0,.lst 4 (bD l) .no],.lst 7 (cS ms) .no,.lst 2 (rsv rs) .no] [] 0=some ⟨.bool (CK rs),[],[]⟩)
 (f19':∀k i:Nat,k<l.length->i<ms.length->call T 19 [.agg (ms.getD i mn0).sv,.agg (l.getD k ev0).sv] [] 0=some ⟨.int .i64 (IT (ms.getD i mn0) (l.getD k ev0)),[],[]⟩):
 call T 5 [.byt codes .no,.byt chain .no,.byt ma .no,.int .i64 ac,.lst 2 (rsv raw) .no,.int .i64 at',.int .i64 how,.int .i64 n] [] 0=some ⟨.bool true,[],[]⟩:=by
 have g2:=fin16 R;have q1:=fin16 raw;have q2:=fin17 raw;rw[hck]at g2;have hvr:=cC R;have hvw:=cC raw;have hve:=bZ l;have hvm:=dh ms;have g3:=f18 at' (R.length:Int) a0 a1 (by omega);have g4:=f18 how 4 b0 b1 (by decide);generalize CK raw=W at*;have hb:R.length*16<=140737488355328:=by omega
 have hb0:(0+R.length)*16<=140737488355328:=by omega
 by_cases hz:R=[]
 ·subst hz
  have z0:rsv ([]:List (Int×Int))=[]:=rfl;rw[z0]at g1 g2;rw[am T_5]
  by_cases hw:(raw.length:Int)<60<;>
   simp only[go_sem,Qb,Qc,Qd,Qe,Qh,Qi,Qj,Qk,reduceCtorEq,reduceIte,ga,nB,g',nz,g1,jZ,g2,tY,q1,q2,wC,hw,hvw,c0,aQ,Nat.zero_mul,bL]
 ·have hpos:0<R.length:=mS.2 hz
  have hne:¬((R.length:Nat):Int)=0:=by omega
  have hne0:¬((0+R.length:Nat):Int)=0:=by omega
  have hrn:¬rsv R=[]:=fun e=>by rw[e]at hvr;exact absurd hvr (by simp;omega)
  obtain⟨k,ek,hk⟩:=mG at' R.length hpos;have hk1:k<=R.length:=by omega
  rw[ek]at g3;rw[hm3]at g4;have hkl:k<l.length:=by omega
  have e2:ai.wrap ((ms.length:Int)+2)=(ms.length:Int)+2:=w64 (by omega) (by omega);have g5:=f18 n ((ms.length:Int)+2) n0 n1 (by omega);obtain⟨d1,d2⟩:=mF n ((ms.length:Int)+2) (by omega);obtain⟨q,hq⟩:∃q,fJ n ((ms.length:Int)+2)-1=q:=⟨_,rfl⟩;have e9:ai.wrap (fJ n ((ms.length:Int)+2)-1)=q:=by rw[hq];exact w64 (by omega) (by omega)
  have ht:=Ru R k hk q;simp only[go_sem,Qj,reduceIte]at ht;have hk':k<(R.set k (q,(R.getD k (0,0)).2)).length:=by rw[cu];exact hk
  have hvs:(rsv (R.set k (q,(R.getD k (0,0)).2))).length=R.length:=by rw[cC,cu]
  have hgt:(R.set k (q,(R.getD k (0,0)).2)).getD k (0,0)=(q,(R.getD k (0,0)).2):=by rw[aa,List.getElem?_set_self hk];rfl
  have hg1:=gG _ k hk';rw[hgt]at hg1;have htk:∀X:List (Int×Int),X.length=R.length->(rsv X).take R.length=rsv X:=fun X h=>bO (by rw[cC,h];exact aM _)
  have ht1:=htk (R.set k (q,(R.getD k (0,0)).2)) (by rw[cu]);have r16:=fin16 (R.set k (q,(R.getD k (0,0)).2));have r17:=fin17 (R.set k (q,(R.getD k (0,0)).2));have hs:=fun v=>AH _ k hk' v
  simp only[go_sem,Qe,Qj,reduceCtorEq,reduceIte,hg1]at hs;have hl2:∀v,((R.set k (q,(R.getD k (0,0)).2)).set k (((R.set k (q,(R.getD k (0,0)).2)).getD k (0,0)).1,v)).length=R.length:=fun v=>by rw[cu,cu]
  have s16:=fun v=>fin16 ((R.set k (q,(R.getD k (0,0)).2)).set k (((R.set k (q,(R.getD k (0,0)).2)).getD k (0,0)).1,v))
  have s17:=fun v=>fin17 ((R.set k (q,(R.getD k (0,0)).2)).set k (((R.set k (q,(R.getD k (0,0)).2)).getD k (0,0)).1,v))
  have hv2:∀v,(rsv ((R.set k (q,(R.getD k (0,0)).2)).set k (((R.set k (q,(R.getD k (0,0)).2)).getD k (0,0)).1,v))).length=R.length:=fun v=>by rw[cC,hl2]
  have ht2:=fun v=>htk _ (hl2 v)
  generalize (R.set k (q,(R.getD k (0,0)).2)).getD k (0,0)=P at*;generalize R.set k (q,(R.getD k (0,0)).2)=RA at*
  by_cases hq0:0<=q
  ·by_cases hq1:q<(ms.length:Int)
   ·obtain⟨i,rfl⟩:∃i:Nat,q=i:=⟨q.toNat,by omega⟩
    have hi:i<ms.length:=by omega
    have hgm:=gH ms i hi;have hgl:=gu l k hkl;have g19:=f19' k i hkl hi;generalize IT (ms.getD i mn0) (l.getD k ev0)=V at g19;generalize ms.getD i mn0=mm at hgm g19;generalize l.getD k ev0=ee at hgl g19;obtain⟨mv,m1,m2,m3,m4,es,rl⟩:=mm;obtain⟨eg,ek',ed,eb⟩:=ee;simp only[Man.sv,Ev.sv]at hgm hgl g19;have s1:=hs V;have s2:=hv2 V;have s3:=ht2 V;have s4:=s16 V;have s5:=s17 V;clear hs hv2 ht2 s16 s17 htk hl2 r16 r17 ht1;generalize CK (RA.set k (P.1,V))=Z at*;generalize rsv (RA.set k (P.1,V))=RS at*;rw[am T_5]
    by_cases hw:(raw.length:Int)<60<;>
     simp only[go_sem,Q2,Q3,Q5,Qb,Qc,Qd,Qe,Qg,Qh,Qi,Qj,Qk,reduceCtorEq,reduceIte,ga,nB,g',nz,g1,jZ,g2,tY,q1,q2,wC,hw,hvw,hvr,hb,hrn,iT,hne,g3,yh,g4,hk,hk1,hvm,e2,g5,e9,ht,hvs,hg1,hq1,hgm,hve,hkl,hgl,g19,Pi,s1,s2,s3,s4,s5]
   ·clear hs hv2 ht2 s16 s17 htk hl2
    rw[am T_5]
    by_cases hw:(raw.length:Int)<60<;>
     simp only[go_sem,Q2,Q3,Q5,Qb,Qc,Qd,Qe,Qg,Qh,Qi,Qj,Qk,reduceCtorEq,reduceIte,ga,nB,g',nz,g1,jZ,g2,tY,q1,q2,wC,hw,hvw,hvr,hb,hrn,iT,hne,g3,yh,g4,hk,hk1,hvm,e2,g5,e9,ht,hvs,hg1,hq0,hq1,ht1,r16,r17]
  ·clear hs hv2 ht2 s16 s17 htk hl2
   rw[am T_5]
   by_cases hw:(raw.length:Int)<60<;>
    simp only[go_sem,Q2,Q3,Q5,Qb,Qc,Qd,Qe,Qg,Qh,Qi,Qj,Qk,reduceCtorEq,reduceIte,ga,nB,g',nz,g1,jZ,g2,tY,q1,q2,wC,hw,hvw,hvr,hb,hrn,iT,hne,g3,yh,g4,hk,hk1,hvm,e2,g5,e9,ht,hvs,hg1,hq0,ht1,r16,r17]
theorem f5(codes chain ma:List UInt8)(ac:Int)(h0: -9223372036854775808<=ac)(h1:ac<=9223372036854775807)(raw:List (Int×Int))(at' how n:Int)
 (a0: -9223372036854775808<=at') (a1:at'<=9223372036854775807) (b0: -9223372036854775808<=how) (b1:how<=9223372036854775807) (n0: -9223372036854775808<=n) (n1:n<=9223372036854775807):
 call T 5 [.byt codes .no,.byt chain .no,.byt ma .no,.int .i64 ac,.lst 2 (rsv raw) .no,.int .i64 at',.int .i64 how,.int .i64 n] [] 0=some ⟨.bool true,[],[]⟩:=by
 obtain⟨a,l,ms,nl,hl,nm,hm,g⟩:=xbu codes chain ma ac h0 h1;have hlen:(exV l ms).rs.length=(exV l ms).at':=iP ms l w0 0 [] rfl;have hle:(exV l ms).at'<=0+l.length:=q8 ms l w0 0 [];have g1:=f12 a 0 l hl ms hm;have hR:(exV l ms).rs.length<=l.length:=by omega
 have f19':=fun(k i:Nat)(hk:k<l.length)(hi:i<ms.length)=>f19 (ms.getD i mn0) (hm.2 _ (bG ms mn0 i hi)) (l.getD k ev0) (hl.2 _ (bG l ev0 k hk))
 obtain⟨d1,d2⟩:=mF how 4 (by decide);have hc:fJ how 4=0\/fJ how 4=1\/fJ how 4=2\/fJ how 4=3:=by omega
 rcases hc with h|h|h|h
 ·exact xnX codes chain ma ac raw at' how n a0 a1 b0 b1 n0 n1 h a l ms nl nm _ _ _ (ckV l ms) dV hR f10 g g1 (mQ l ms) (f16 a 0 l hl ms hm) (f17 a 0 l hl ms hm) f19'
 ·exact xnW codes chain ma ac raw at' how n a0 a1 b0 b1 n0 n1 h a l ms nl nm _ _ _ (ckV l ms) dV hR f10 g g1 (mQ l ms) (f16 a 0 l hl ms hm) (f17 a 0 l hl ms hm) f19'
 ·exact xnV codes chain ma ac raw at' how n a0 a1 b0 b1 n0 n1 h a l ms nl nm _ _ _ (ckV l ms) dV hR f10 g g1 (mQ l ms) (f16 a 0 l hl ms hm) (f17 a 0 l hl ms hm) f19'
 ·exact xnU codes chain ma ac raw at' how n a0 a1 b0 b1 n0 n1 h a l ms nl nm _ _ _ (ckV l ms) dV hR f10 g g1 (mQ l ms) (f16 a 0 l hl ms hm) (f17 a 0 l hl ms hm) f19'
theorem wn(m:Man):(jX m).length<=32:=by
 unfold jX;split
 ·simp
 ·unfold uB;rw[fQ];omega
def BdL(L:List (List UInt8)):Prop:=∀x∈L,x.length<=1000
theorem SG(L:List (List UInt8))(d:List UInt8)(h:BdL L)(hd:d.length<=1000):BdL (jB L d):=by
 unfold jB;split
 ·exact h
 ·intro x hx
  rcases an.1 hx with h1|h1
  ·exact h x (bW h1)
  ·rcases au.1 h1 with rfl|h1
   ·exact hd
   ·exact h x (dy h1)
theorem OY(ms:List Man)(L:List (List UInt8))(p:Int×Int)(h:BdL L):BdL (grS ms L p):=by
 unfold grS;split
 ·exact h
 ·exact SG _ _ h (by have:=wn (ms.getD p.1.toNat mn0);omega)
theorem l20(L:List (List UInt8))(hb:BdL L)(hn:L.length<=1000000000):∀(n i:Nat),L.length-i=n->i<=L.length->
 run T (.loop P3) ⟨[(0,.lst 1 (bls L) .no),(1,.lst 1 (bls L) .no),(5,.int .i64 i)],[],[]⟩=some (.x 0,⟨[],[],[]⟩):=by
 intro n;induction n with
 |zero=>
  intro i h0 h1;have hv:=eW L;have hi:i=L.length:=by omega
  subst hi;rw[aj];simp only[go_sem,Qh,Qj,Qk,reduceCtorEq,reduceIte,hv]
 |succ n ih=>
  intro i h0 h1;have hi:i<L.length:=by omega
  have hv:=eW L;have hg:=iR L i hi;have e1:=bV i (by omega);have g:=f25 (L.getD i []) (L.getD i []) (by have:=hb _ (bG L [] i hi);omega);rw[decide_eq_true rfl]at g;have ih':=ih (i+1) (by omega) (by omega);rw[aj];simp only[go_sem,Qb,Qc,Qd,Qh,Qj,Qk,reduceCtorEq,reduceIte,hi,hv,hg,g,iS,e1,ih']
theorem f20(L:List (List UInt8))(hb:BdL L)(hn:L.length<=1000000000):call T 20 [.lst 1 (bls L) .no,.lst 1 (bls L) .no] [] 0=some ⟨.bool true,[],[]⟩:=by have h:=l20 L hb hn _ 0 rfl (bL _);rw[aB]at h;have hv:=eW L;rw[am xpD];simp only[go_sem,Qe,Qh,Qi,Qj,Qk,reduceCtorEq,reduceIte,hv,h]
theorem vP(a b:List UInt8):cx a b=decide (Lib.compareBytes a b<0):=by
 have:=kU a b
 by_cases h:Lib.compareBytes a b<0
 ·rw[decide_eq_true h];exact this.1 h
 ·rw[decide_eq_false h]
  cases hb:cx a b with
  |false=>rfl
  |true=>exact absurd (this.2 hb) h
theorem xnB(ms:List Man)(rs:List (Int×Int))(o:Int)(L:List (List UInt8))(d:List UInt8)(hs:wz L)(hb:BdL L)(hn:L.length<=1000000000):∀(m k:Nat),lbB L d-k=m->k<=lbB L d->
 run T (.loop P0) ⟨[(0,.lst 7 (cS ms) .no),(1,.lst 2 (rsv rs) .no),(5,.lst 1 (bls L) (.id 105)),(6,.int .i64 o),(7,.byt d .no),(8,.int .i64 k)],[],[105]⟩=
  some (.x 2,⟨[(0,.lst 7 (cS ms) .no),(1,.lst 2 (rsv rs) .no),(5,.lst 1 (bls L) (.id 105)),(6,.int .i64 o),(7,.byt d .no),(8,.int .i64 (lbB L d))],[],[105]⟩):=by
 intro m;have hv:=eW L;have hle:=mh L d;induction m with
 |zero=>
  intro k h0 h1;have hk:lbB L d=k:=by omega
  by_cases hq:k<L.length
  ·have hg:=iR L k hq
   have g:=f63 (L.getD k []) d (by have:=hb _ (bG L [] k hq);omega);have hc:=(nf L d hs k hq);rw[vP,decide_eq_false (fun h=>by have:=hc.1 h;omega)]at g;rw[hk,aj];simp only[go_sem,Qh,Qj,Qk,reduceCtorEq,reduceIte,hv,hq,hg,g,xgD]
  ·rw[hk,aj]
   simp only[go_sem,Qh,Qj,Qk,reduceCtorEq,reduceIte,hv,hq]
 |succ m ih=>
  intro k h0 h1;have hq:k<L.length:=by omega
  have hg:=iR L k hq;have g:=f63 (L.getD k []) d (by have:=hb _ (bG L [] k hq);omega);have hc:=(nf L d hs k hq);rw[vP,decide_eq_true (hc.2 (by omega))]at g;have e1:=bV k (by omega);have ih':=ih (k+1) (by omega) (by omega);rw[aj];simp only[go_sem,Qh,Qj,Qk,reduceCtorEq,reduceIte,hv,hq,hg,g,xgD,e1,ih']
theorem l22(ms:List Man)(hm:fT ms)(rs:List (Int×Int))(hr:rs.length<=1000000):∀(n i:Nat)(L:List (List UInt8)),rs.length-i=n->i<=rs.length->wz L->BdL L->L.length<=i->
 run T (.loop yS) ⟨[(0,.lst 7 (cS ms) .no),(1,.lst 2 (rsv rs) .no),(5,.lst 1 (bls L) (.id 105)),(6,.int .i64 i)],[],[105]⟩=
  some (.x 0,⟨[(5,.lst 1 (bls ((rs.drop i).foldl (grS ms) L)) (.id 105))],[],[105]⟩):=by
 intro n;induction n with
 |zero=>
  intro i L h0 h1 hs hb hL;have hv:=cC rs;have hi:i=rs.length:=by omega
  subst hi;rw[aL,oS,aj];simp only[go_sem,Qh,Qj,Qk,reduceCtorEq,reduceIte,hv]
 |succ n ih=>
  intro i L h0 h1 hs hb hL;have hi:i<rs.length:=by omega
  have e1:=bV i (by omega);have hv:=cC rs;have hg:=gG rs i hi;have hvm:=dh ms;have hvl:=eW L;have hn:=xnB ms rs i L;rw[fA rs (0,0) i hi,cE];have ih':=ih (i+1) (grS ms L (rs.getD i (0,0))) (by omega) (by omega) (C7 _ _ _ hs) (OY _ _ _ hb) (by have:=tj ms L (rs.getD i (0,0));omega);generalize (rs.drop (i+1)).foldl (grS ms) (grS ms L (rs.getD i (0,0)))=Z at*;generalize rs.getD i (0,0)=p at*;obtain⟨p1,p2⟩:=p;simp only at hg
  by_cases hp0:p1<0
  ·unfold grS at ih'
   rw[if_pos (.inl hp0)]at ih';rw[aj];simp only[go_sem,Qe,Qh,Qi,Qj,Qk,reduceCtorEq,reduceIte,hi,hv,hg,hp0,e1,ih']
  ·by_cases hp1:(ms.length:Int)<=p1
   ·unfold grS at ih'
    rw[if_pos (.inr hp1)]at ih';rw[aj];simp only[go_sem,Qe,Qh,Qi,Qj,Qk,reduceCtorEq,reduceIte,hi,hv,hg,hp0,hvm,hp1,e1,ih']
   ·unfold grS at ih'
    rw[if_neg (by omega)]at ih';obtain⟨k,rfl⟩:∃k:Nat,p1=k:=⟨p1.toNat,by omega⟩;have hk:k<ms.length:=by omega
    have hk':¬ms.length<=k:=by omega
    have hgm:=gH ms k hk;have gd:=f26 (ms.getD k mn0) (hm.2 _ (bG ms mn0 k hk));have hdl:=wn (ms.getD k mn0);rw[eE]at ih';generalize jX (ms.getD k mn0)=d at*;have gl:=hn d hs hb (by omega) _ 0 rfl (bL _);rw[aB]at gl;generalize ms.getD k mn0=mm at*;obtain⟨mv,m1,m2,m3,m4,es,rl⟩:=mm;simp only[Man.sv]at hgm gd;have hle:=mh L d
    by_cases hq:lbB L d<L.length
    ·have hgq:=iR L _ hq
     have g25:=f25 (L.getD (lbB L d) []) d (by have:=hb _ (bG L [] _ hq);omega)
     by_cases hd:L.getD (lbB L d) []=d
     ·have hi0:jB L d=L:=by
       unfold jB qV;rw[if_pos (decide_eq_true ⟨hq,hd⟩)]
      rw[hi0]at ih';rw[decide_eq_true hd]at g25;generalize lbB L d=q at*;rw[aj];simp only[go_sem,Qe,Qh,Qi,Qj,Qk,reduceCtorEq,reduceIte,hi,hv,hg,hp0,hvm,hk,hk',hgm,gd,Pg,gl,hvl,hq,hgq,g25,iS,e1,ih']
     ·have hi0:jB L d=L.take (lbB L d)++d::L.drop (lbB L d):=by
       unfold jB qV;rw[if_neg (by simpa using fun _=>hd)]
      rw[hi0,<-tw,lr]at ih';rw[decide_eq_false hd]at g25;have tf:cj L.length (bls L)=bls L:=by rw[<-hvl,bo]
      have vA:(cj (lbB L d) (bls L)).length=lbB L d:=by rw[ay,hvl];omega
      have vD:(eQ (lbB L d) (bls L)).length=L.length-lbB L d:=by rw[aE,hvl]
      have b1:lbB L d*24<=140737488355328:=by omega
      have b3:(lbB L d+1)*24<=140737488355328:=by omega
      have b2:(lbB L d+(1+(L.length-lbB L d)))*24<=140737488355328:=by omega
      have b4:(lbB L d+1+(L.length-lbB L d))*24<=140737488355328:=by omega
      generalize lbB L d=q at*;rw[aj];simp only[go_sem,Q2,Q3,Qb,Qc,Qd,Qe,Qh,Qi,Qj,Qk,reduceCtorEq,reduceIte,hi,hv,hg,hp0,hvm,hk,hk',hgm,gd,Pg,gl,hvl,hq,hle,hgq,g25,iS,tf,vA,vD,b1,b3,b4,e1,ih']
    ·have hi0:jB L d=L.take (lbB L d)++d::L.drop (lbB L d):=by
      unfold jB qV;rw[if_neg (by simpa using fun h=>absurd h hq)]
     rw[hi0,<-tw,lr]at ih';have tf:cj L.length (bls L)=bls L:=by rw[<-hvl,bo]
     have vA:(cj (lbB L d) (bls L)).length=lbB L d:=by rw[ay,hvl];omega
     have vD:(eQ (lbB L d) (bls L)).length=L.length-lbB L d:=by rw[aE,hvl]
     have b1:lbB L d*24<=140737488355328:=by omega
     have b3:(lbB L d+1)*24<=140737488355328:=by omega
     have b2:(lbB L d+(1+(L.length-lbB L d)))*24<=140737488355328:=by omega
     have b4:(lbB L d+1+(L.length-lbB L d))*24<=140737488355328:=by omega
     generalize lbB L d=q at*;rw[aj];simp only[go_sem,Q2,Q3,Qb,Qc,Qd,Qe,Qh,Qi,Qj,Qk,reduceCtorEq,reduceIte,hi,hv,hg,hp0,hvm,hk,hk',hgm,gd,Pg,gl,hvl,hq,hle,tf,vA,vD,b1,b3,b4,e1,ih']
theorem f22(ms:List Man)(hm:fT ms)(rs:List (Int×Int))(hr:rs.length<=1000000):call T 22 [.lst 7 (cS ms) .no,.lst 2 (rsv rs) .no] [] 0=some ⟨.lst 1 (bls (grV ms rs)) .no,[],[]⟩:=by have h:=l22 ms hm rs hr _ 0 [] rfl (bL _) List.Pairwise.nil (fun x hx=>by cases hx) (aM _);rw[aB,aR]at h;unfold grV;have h0:bls []=[]:=rfl;rw[h0]at h;rw[am xpB];simp only[go_sem,Qe,Qh,Qi,Qj,Qk,reduceCtorEq,reduceIte,h]
theorem xbl(ms:List Man):∀(rs:List (Int×Int))(L:List (List UInt8)),BdL L->BdL (rs.foldl (grS ms) L)
 |[],_,h=>h
 |p::r,L,h=>by rw[cE];exact xbl ms r _ (OY ms L p h)
theorem OX(ms:List Man):∀(rs:List (Int×Int))(L:List (List UInt8)),(rs.foldl (grS ms) L).length<=L.length+rs.length
 |[],_=>aM _
 |p::r,L=>by rw[cE,av];have h1:=OX ms r (grS ms L p);have h2:=tj ms L p;omega
theorem uC(ms:List Man)(rs:List (Int×Int)):BdL (grV ms rs):=xbl ms rs [] (fun x hx=>by cases hx)
theorem pF(ms:List Man)(rs:List (Int×Int)):(grV ms rs).length<=rs.length:=by have:=OX ms rs [];rw[aQ,bB]at this;exact this
theorem Gk(l:List (Int×Int))(k:Nat):(rsv l).take k=rsv (l.take k):=by rw[rsv,rsv,lC]
theorem f6c(codes chain ma:List UInt8)(ac:Int)(raw:List (Int×Int))(a:Int)(X:List (List SV))(ms:List Man)(hm:fT ms)(R:List (Int×Int))(hR:R.length<=1000)(AT E:Int)
 (ga:call T 10 [] [] 0=some ⟨.bool true,[],[]⟩)
 (g:call T 11 [.byt codes .no,.byt chain .no,.byt ma .no,.int .i64 ac] [] 0=some ⟨.tup [.agg [.int .i64 a,.int .i64 0,.lst 4 X .no],.lst 7 (cS ms) .no],[],[]⟩)
 (g1:call T 12 [.agg [.int .i64 a,.int .i64 0,.lst 4 X .no],.lst 7 (cS ms) .no] [] 0=some ⟨.tup [.lst 2 (rsv R) .no,.int .i64 AT,.int .i64 E],[],[]⟩):
 call T 6 [.byt codes .no,.byt chain .no,.byt ma .no,.int .i64 ac,.lst 2 (rsv raw) .no] [] 0=some ⟨.bool true,[],[]⟩:=by
 have p1:=f21 ms hm R (by omega);have p2:=f22 ms hm R (by omega);have p3:=f20 (grV ms R) (uC ms R) (by have:=pF ms R;omega);have hv:=cC raw
 by_cases hq:(60:Int)<raw.length
 ·have q1:=f21 ms hm (raw.take 60) (by rw[ay];omega)
  have q2:=f22 ms hm (raw.take 60) (by rw[ay];omega);have q3:=f20 (grV ms (raw.take 60)) (uC ms _) (by have:=pF ms (raw.take 60);rw[ay]at this;omega);have h1:(60:Int)<=raw.length:=by omega
  have h2:=Gk raw 60;rw[am T_6];simp only[go_sem,Q2,Q3,Qe,Qh,Qi,Qj,Qk,reduceCtorEq,reduceIte,ga,nB,hv,hq,h1,h2,g,nz,g1,jZ,p1,Tz,p2,xmJ,p3,xmK,q1,q2,q3]
 ·have q1:=f21 ms hm raw (by omega)
  have q2:=f22 ms hm raw (by omega);have q3:=f20 (grV ms raw) (uC ms _) (by have:=pF ms raw;omega);rw[am T_6];simp only[go_sem,Q2,Q3,Qe,Qh,Qi,Qj,Qk,reduceCtorEq,reduceIte,ga,nB,hv,hq,g,nz,g1,jZ,p1,Tz,p2,xmJ,p3,xmK,q1,q2,q3]
theorem f6(codes chain ma:List UInt8)(ac:Int)(h0: -9223372036854775808<=ac)(h1:ac<=9223372036854775807)(raw:List (Int×Int)):
 call T 6 [.byt codes .no,.byt chain .no,.byt ma .no,.int .i64 ac,.lst 2 (rsv raw) .no] [] 0=some ⟨.bool true,[],[]⟩:=by
 obtain⟨a,l,ms,nl,hl,nm,hm,g⟩:=xbu codes chain ma ac h0 h1;have g1:=f12 a 0 l hl ms hm;have hlen:(exV l ms).rs.length=(exV l ms).at':=iP ms l w0 0 [] rfl;have hle:(exV l ms).at'<=0+l.length:=q8 ms l w0 0 [];exact f6c codes chain ma ac raw a (bD l) ms hm (exV l ms).rs (by omega) _ _ f10 g g1
theorem wb(A B:List Man):∀(l:List Ev),(∀e∈l,fH A e≠none->fH B e≠none)->∀(w:Wk)(i:Nat)(r1 r2:List (Int×Int)),(exW A l w i r1).err=0->(exW B l w i r2).err=0/\(exW B l w i r2).w=(exW A l w i r1).w
 |[],_,w,i,r1,r2,_=>⟨rfl,rfl⟩
 |e::r,hr,w,i,r1,r2,h=>by
  unfold exW at h ⊢
  by_cases ho:okW w e=true
  ·rw[if_pos ho]at h ⊢
   rw[if_pos ho];cases ha:fH A e with
   |none=>rw[ha]at h;simp at h
   |some p=>
    rw[ha]at h;cases hb:fH B e with
    |none=>exact absurd hb (hr e aG (by rw[ha];simp))
    |some q=>exact wb A B r (fun x hx=>hr x (aw _ hx)) (stW w e) (i+1) (r1++ [p]) (r2++ [q]) h
  ·rw[if_neg ho]at h;simp at h
theorem we(A B:List Man)(l:List Ev)(hr:∀e∈l,fH A e≠none->fH B e≠none)(h:exE l A=0):exE l B=0:=by
 unfold exE at h ⊢
 by_cases h0:(exV l A).err=0
 ·rw[if_pos h0]at h
  obtain⟨h1,h2⟩:=wb A B l hr w0 0 [] [] h0;have h1':(exV l B).err=0:=h1;have h2':(exV l B).w=(exV l A).w:=h2;rw[if_pos h1',h2'];exact h
 ·rw[if_neg h0]at h
  exact absurd h h0
theorem qt(e:Ev):∀(ms:List Man)(i:Nat),frM e ms i≠none↔∃m∈ms,0<=dV m e
 |[],i=>by simp[frM]
 |m::r,i=>by
  unfold frM
  by_cases h:0<=dV m e
  ·rw[if_pos h]
   exact⟨fun _=>⟨m,aG,h⟩,fun _=>by simp⟩
  ·rw[if_neg h,qt e r (i+1)]
   constructor
   ·rintro⟨x,hx,h1⟩;exact⟨x,aw _ hx,h1⟩
   ·rintro⟨x,hx,h1⟩
    rcases au.1 hx with rfl|hx
    ·exact absurd h1 h
    ·exact⟨x,hx,h1⟩
theorem DV(A B:List Man)(e:Ev)(hB:∀m∈A,0<=dV m e->∃m'∈B,0<=dV m' e)(h:fH A e≠none):fH B e≠none:=by
 have key:frM e A 0≠none->frM e B 0≠none:=fun h=>by rw[qt]at h ⊢;obtain⟨m,hm,h1⟩:=h;exact hB m hm h1
 unfold fH at h ⊢
 by_cases h5:e.kind=5
 ·rw[if_pos h5];simp
 ·rw[if_neg h5]at h ⊢
  by_cases h2:e.kind=2
  ·rw[if_pos h2]at h ⊢
   by_cases hc:pK e=true
   ·rw[if_pos hc];simp
   ·rw[if_neg hc]at h ⊢;exact key h
  ·rw[if_neg h2]at h ⊢;exact key h
theorem GF(A B:List Man)(l:List Ev)(hs:∀m∈A,m∈B)(h:exE l A=0):exE l B=0:=
 we A B l (fun e _ he=>DV A B e (fun m hm h1=>⟨m,hs m hm,h1⟩) he) h
def xd(ms:List Man)(G:List (List UInt8)):List Man:=ms.filter fun m=>decide (jX m∈G)
theorem vS(L:List (List UInt8))(d:List UInt8):d∈jB L d/\∀x∈L,x∈jB L d:=by
 unfold jB
 by_cases h:qV L d=true
 ·rw[if_pos h]
  refine⟨?_,fun x hx=>hx⟩;unfold qV at h;obtain⟨h1,h2⟩:=of_decide_eq_true h;rw[<-h2];exact bG L [] _ h1
 ·rw[if_neg h]
  refine⟨List.mem_append_right _ aG,fun x hx=> ?_⟩;rw[<-yl (lbB L d) L]at hx;rcases an.1 hx with h1|h1
  ·exact List.mem_append_left _ h1
  ·exact List.mem_append_right _ (aw _ h1)
theorem C6(ms:List Man):∀(rs:List (Int×Int))(L:List (List UInt8)),∀x∈L,x∈rs.foldl (grS ms) L
 |[],L,x,hx=>hx
 |p::r,L,x,hx=>by
  rw[cE];refine C6 ms r _ x ?_;unfold grS;split
  ·exact hx
  ·exact(vS _ _).2 x hx
theorem OW(ms:List Man):∀(rs:List (Int×Int))(L:List (List UInt8))(k j:Nat),j<rs.length->(rs.getD j (0,0)).1=(k:Int)->k<ms.length->jX (ms.getD k mn0)∈rs.foldl (grS ms) L
 |[],L,k,j,hj,_,_=>by simp at hj
 |p::r,L,k,j,hj,h1,hk=>by
  rw[cE];cases j with
  |zero=>rw[bc]at h1;refine C6 ms r _ _ ?_;unfold grS;rw[if_neg (by omega),h1,eE];exact(vS _ _).1
  |succ j=>rw[bh]at h1;exact OW ms r _ k j (by rw[av]at hj;omega) h1 hk
theorem O0(e:Ev):∀(ms:List Man)(i:Nat)(p:Int×Int),frM e ms i=some p->∃k,k<ms.length/\p.1=((i+k:Nat):Int)/\0<=dV (ms.getD k mn0) e
 |[],i,p,h=>by simp[frM]at h
 |m::r,i,p,h=>by
  unfold frM at h
  by_cases h0:0<=dV m e
  ·rw[if_pos h0]at h
   cases h;exact⟨0,by simp,by simp,h0⟩
  ·rw[if_neg h0]at h
   obtain⟨k,h1,h2,h3⟩:=O0 e r (i+1) p h;exact⟨k+1,by simp;omega,by rw[h2];omega,h3⟩
theorem xP(ms:List Man)(l:List Ev)(h:exE l ms=0):exE l (xd ms (grV ms (exV l ms).rs))=0:=by
 have he:(exV l ms).err=0:=by
  unfold exE at h;split at h
  ·assumption
  ·exact h
 have hlen:(exV l ms).rs.length=(exV l ms).at':=iP ms l w0 0 [] rfl;have hat:(exV l ms).at'=0+l.length:=uE ms l w0 0 [] he;refine we ms _ l (fun e hel hr=> ?_) h;obtain⟨j,hj,rfl⟩:=bJ hel;have hrea:=tp ms l w0 0 [] rfl j (by rw[bB];show j<(exV l ms).at';omega);rw[bB]at hrea;have hg:l.getD j ev0=l[j]:=by rw[aa,af hj];rfl
 rw[hg]at hrea;generalize l[j]=e at*
 have key:frM e ms 0=some ((exW ms l w0 0 []).rs.getD j (0,0))->frM e (xd ms (grV ms (exV l ms).rs)) 0≠none:=fun hf=>by obtain⟨k,h1,h2,h3⟩:=O0 e ms 0 _ hf;rw[bB]at h2;rw[qt];refine⟨ms.getD k mn0,List.mem_filter.2 ⟨bG ms mn0 k h1,decide_eq_true ?_⟩,h3⟩;exact OW ms (exV l ms).rs [] k j (by omega) h2 h1
 unfold fH at hrea hr ⊢
 by_cases h5:e.kind=5
 ·rw[if_pos h5];simp
 ·rw[if_neg h5]at hrea hr ⊢
  by_cases h2:e.kind=2
  ·rw[if_pos h2]at hrea hr ⊢
   by_cases hc:pK e=true
   ·rw[if_pos hc];simp
   ·rw[if_neg hc]at hrea hr ⊢;exact key hrea
  ·rw[if_neg h2]at hrea hr ⊢;exact key hrea
theorem xE(l:List Man)(x:Man):cS l++ [x.sv]=cS (l++ [x]):=by rw[cS,cS,bx];rfl
theorem l7i(a:Int)(X:List (List SV))(ms:List Man)(hm:fT ms)(E:Int)(G:List (List UInt8))(hG:BdL G)(hn:G.length<=1000000)(S:List Man)(hS:S.length<=1000000)(i:Nat)(hi:i<ms.length)(tl:List Nat)(ht:tl=[155,161]\/tl=[155]):∀(n k:Nat),G.length-k=n->k<=G.length->
 (jX (ms.getD i mn0)∉G.drop k->run T (.loop EJ) ⟨[(13,.ptr 113 0),(14,.lst 7 (cS ms) .no),(22,.int .i64 E),(23,.lst 1 (bls G) .no),(24,.lst 7 (cS S) (.id 124)),(25,.int .i64 i),(26,.int .i64 k)],[(113,.rc [.int .i64 a,.int .i64 0,.lst 4 X .no])],124::tl⟩=
  some (.x 2,⟨[(13,.ptr 113 0),(14,.lst 7 (cS ms) .no),(22,.int .i64 E),(23,.lst 1 (bls G) .no),(24,.lst 7 (cS S) (.id 124)),(25,.int .i64 i)],[(113,.rc [.int .i64 a,.int .i64 0,.lst 4 X .no])],124::tl⟩))/\
 (jX (ms.getD i mn0)∈G.drop k->run T (.loop EJ) ⟨[(13,.ptr 113 0),(14,.lst 7 (cS ms) .no),(22,.int .i64 E),(23,.lst 1 (bls G) .no),(24,.lst 7 (cS S) (.id 124)),(25,.int .i64 i),(26,.int .i64 k)],[(113,.rc [.int .i64 a,.int .i64 0,.lst 4 X .no])],124::tl⟩=
  some (.x 2,⟨[(13,.ptr 113 0),(14,.lst 7 (cS ms) .no),(22,.int .i64 E),(23,.lst 1 (bls G) .no),(24,.lst 7 (cS (S++ [ms.getD i mn0])) (.id 202)),(25,.int .i64 i)],[(113,.rc [.int .i64 a,.int .i64 0,.lst 4 X .no])],tl++ [202]⟩)):=by
 rcases ht with rfl|rfl
 all_goals
  intro n;have hv:=eW G;induction n with
  |zero=>
   intro k h0 h1;have hk:k=G.length:=by omega
   subst hk;rw[aL];refine⟨fun _=> ?_,fun h=>by cases h⟩;rw[aj];simp only[go_sem,Qh,Qj,Qk,reduceIte,hv]
  |succ n ih=>
   intro k h0 h1;have hk:k<G.length:=by omega
   obtain⟨i1,i2⟩:=ih (k+1) (by omega) (by omega);have e1:=bV k (by omega);have hg:=iR G k hk;have hvm:=dh ms;have hvs:=dh S;have hgm:=gH ms i hi;have gd:=f26 (ms.getD i mn0) (hm.2 _ (bG ms mn0 i hi));have g25:=f25 (G.getD k []) (jX (ms.getD i mn0)) (by have:=hG _ (bG G [] k hk);omega);have hsn:=xE S (ms.getD i mn0);have b1:(S.length+1)*96<=140737488355328:=by omega
   rw[fA G [] k hk];generalize jX (ms.getD i mn0)=d at*;generalize ms.getD i mn0=mm at*;obtain⟨mv,m1,m2,m3,m4,es,rl⟩:=mm;simp only[Man.sv]at hgm gd hsn
   by_cases hd:G.getD k []=d
   ·rw[decide_eq_true hd]at g25
    refine⟨fun h=>absurd (by rw[hd];exact aG) h,fun _=> ?_⟩;rw[<-hsn,aj];simp only[go_sem,Qb,Qc,Qd,Qe,Qh,Qi,Qj,Qk,reduceCtorEq,reduceIte,hk,hv,hg,hi,hvm,hgm,gd,Pg,g25,iS,hvs,b1]
   ·rw[decide_eq_false hd]at g25
    refine⟨fun h=> ?_,fun h=> ?_⟩
    ·have i1':=i1 (fun h'=>h (aw _ h'))
     rw[aj];simp only[go_sem,Qb,Qc,Qd,Qe,Qh,Qi,Qj,Qk,reduceCtorEq,reduceIte,hk,hv,hg,hi,hvm,hgm,gd,Pg,g25,iS,e1,i1']
    ·have i2':=i2 ((au.1 h).resolve_left fun h'=>hd h'.symm)
     rw[aj];simp only[go_sem,Qb,Qc,Qd,Qe,Qh,Qi,Qj,Qk,reduceCtorEq,reduceIte,hk,hv,hg,hi,hvm,hgm,gd,Pg,g25,iS,e1,i2']
theorem l7(a:Int)(X:List (List SV))(ms:List Man)(hm:fT ms)(hml:ms.length<=1000)(E:Int)(G:List (List UInt8))(hG:BdL G)(hn:G.length<=1000000)(tl:List Nat)(ht:tl=[155,161]\/tl=[155]):∀(n i:Nat)(S:List Man),ms.length-i=n->i<=ms.length->S.length<=i->
 run T (.loop PC) ⟨[(13,.ptr 113 0),(14,.lst 7 (cS ms) .no),(22,.int .i64 E),(23,.lst 1 (bls G) .no),(24,.lst 7 (cS S) (.id 124)),(25,.int .i64 i)],[(113,.rc [.int .i64 a,.int .i64 0,.lst 4 X .no])],124::tl⟩=
  some (.x 0,⟨[(13,.ptr 113 0),(22,.int .i64 E),(24,.lst 7 (cS (S++xd (ms.drop i) G)) (.id 124))],[(113,.rc [.int .i64 a,.int .i64 0,.lst 4 X .no])],124::tl⟩):=by
 have h7:=fun(S:List Man)(hS:S.length<=1000000)(i:Nat)(hi:i<ms.length)=>l7i a X ms hm E G hG hn S hS i hi tl ht
 rcases ht with rfl|rfl
 all_goals
  intro n;have hvm:=dh ms;induction n with
  |zero=>
   intro i S h0 h1 h2;have hi:i=ms.length:=by omega
   subst hi;rw[aL,xd,List.filter_nil,bH,aj];simp only[go_sem,Qh,Qj,Qk,reduceIte,hvm]
  |succ n ih=>
   intro i S h0 h1 h2;have hi:i<ms.length:=by omega
   have e1:=bV i (by omega);obtain⟨j1,j2⟩:=h7 S (by omega) i hi _ 0 rfl (bL _);rw[aR,aB]at j1 j2;simp only[bK,bw]at j2;rw[fA ms mn0 i hi,xd,ie]
   by_cases hd:jX (ms.getD i mn0)∈G
   ·rw[if_pos (decide_eq_true hd)]
    have j2':=j2 hd;have ih':=ih (i+1) (S++ [ms.getD i mn0]) (by omega) (by omega) (by rw[ah,aD];omega);rw[aZ,dO]at ih';unfold xd at ih';rw[aj];simp only[go_sem,Qe,Qh,Qi,Qj,Qk,reduceIte,hi,hvm,j2',e1,ih']
   ·rw[if_neg (by simpa using hd)]
    have j1':=j1 hd;have ih':=ih (i+1) S (by omega) (by omega) (by omega);unfold xd at ih';rw[aj];simp only[go_sem,Qe,Qh,Qi,Qj,Qk,reduceIte,hi,hvm,j1',e1,ih']
theorem vG(A B:List Man):cS A++cS B=cS (A++B):=by rw[cS,cS,cS,bx]
theorem fT.app{A B:List Man}(hA:fT A)(hB:fT B)(h:A.length+B.length<=1000000):fT (A++B):=
 ⟨by rw[ah];exact h,fun m hm=>(an.1 hm).elim (hA.2 m) (hB.2 m)⟩
theorem fT.sel{A:List Man}(hA:fT A)(G:List (List UInt8)):fT (xd A G):=
 ⟨cr (List.length_filter_le _ _) hA.1,fun m hm=>hA.2 m (List.mem_filter.1 hm).1⟩
theorem f7c(codes chain ma mb:List UInt8)(ac:Int)(sw:Bool)(a:Int)(X CH:List (List SV))(ms nb:List Man)(hm:fT ms)(hb:fT nb)(hml:ms.length<=10)(hbl:nb.length<=10)
 (RS:List Man->List (Int×Int)) (AT EE:List Man->Int) (hR:(RS ms).length<=1000)
 (ga:call T 10 [] [] 0=some ⟨.bool true,[],[]⟩)
 (g:call T 11 [.byt codes .no,.byt chain .no,.byt ma .no,.int .i64 ac] [] 0=some ⟨.tup [.agg [.int .i64 a,.int .i64 0,.lst 4 X .no],.lst 7 (cS ms) .no],[],[]⟩)
 (gc:call T 24 [.byt chain .no] [] 0=some ⟨.lst 4 CH .no,[],[]⟩)
 (gn:call T 23 [.byt mb .no,.lst 4 CH .no] [] 0=some ⟨.lst 7 (cS nb) .no,[],[]⟩)
 (ex:∀A:List Man,fT A->call T 12 [.agg [.int .i64 a,.int .i64 0,.lst 4 X .no],.lst 7 (cS A) .no] [] 0=some ⟨.tup [.lst 2 (rsv (RS A)) .no,.int .i64 (AT A),.int .i64 (EE A)],[],[]⟩)
 (more:EE ms=0->∀B:List Man,(∀m∈ms,m∈B)->EE B=0)
 (grd:EE ms=0->EE (xd ms (grV ms (RS ms)))=0):
 call T 7 [.byt codes .no,.byt chain .no,.byt ma .no,.byt mb .no,.int .i64 ac,.bool sw] [] 0=some ⟨.bool true,[],[]⟩:=by
 have g1:=ex ms hm;have p1:=f21 ms hm (RS ms) (by omega);have hG:=uC ms (RS ms);have hGl:=pF ms (RS ms);have vm:=dh ms;have vb:=dh nb;have hA:=hm.app hb (by omega);have hB:=hb.app hm (by omega);have eA:=vG ms nb;have eB:=vG nb ms;have xA:=ex _ hA;have xB:=ex _ hB;have hl:=fun tl ht=>l7 a X ms hm (by omega) 0 (grV ms (RS ms)) hG (by omega) tl ht _ 0 [] rfl (bL _) (aM _)
 by_cases hE:EE ms=0
 ·have mA:=more hE (ms++nb) (fun m h=>List.mem_append_left _ h)
  have mB:=more hE (nb++ms) (fun m h=>List.mem_append_right _ h);have g3:=grd hE;have xS:=ex _ (hm.sel (grV ms (RS ms)));have hl1:=hl [155,161] (.inl rfl);have hl2:=hl [155] (.inr rfl);rw[aR,bw,aB]at hl1 hl2;rw[g3]at xS;rw[mA]at xA;rw[mB]at xB;rw[hE]at g1;have e0:cS []=[]:=rfl;rw[e0]at hl1 hl2;have b1:ms.length*96<=140737488355328:=by omega
  have b2:nb.length*96<=140737488355328:=by omega
  have b3:(ms.length+nb.length)*96<=140737488355328:=by omega
  have b4:(nb.length+ms.length)*96<=140737488355328:=by omega
  cases sw with
  |true=>rw[am T_7];simp only[go_sem,Qe,Qh,Qi,Qj,Qk,reduceCtorEq,reduceIte,ga,nB,g,nz,g1,jZ,gc,FD,gn,Ph,vm,vb,eA,eB,b1,b2,b3,b4,xB,p1,Tz,hl1,xS]
  |false=>rw[am T_7];simp only[go_sem,Qe,Qh,Qi,Qj,Qk,reduceCtorEq,reduceIte,ga,nB,g,nz,g1,jZ,gc,FD,gn,Ph,vm,vb,eA,eB,b1,b2,b3,b4,xA,p1,Tz,hl2,xS]
 ·have b1:ms.length*96<=140737488355328:=by omega
  have b2:nb.length*96<=140737488355328:=by omega
  have b3:(ms.length+nb.length)*96<=140737488355328:=by omega
  have b4:(nb.length+ms.length)*96<=140737488355328:=by omega
  cases sw with
  |true=>rw[am T_7];simp only[go_sem,Qe,Qh,Qi,Qj,Qk,reduceCtorEq,reduceIte,ga,nB,g,nz,g1,jZ,gc,FD,gn,Ph,vm,vb,eA,eB,b1,b2,b3,b4,hE]
  |false=>rw[am T_7];simp only[go_sem,Qe,Qh,Qi,Qj,Qk,reduceCtorEq,reduceIte,ga,nB,g,nz,g1,jZ,gc,FD,gn,Ph,vm,vb,eA,eB,b1,b2,b3,b4,hE]
theorem f7(codes chain ma mb:List UInt8)(ac:Int)(h0: -9223372036854775808<=ac)(h1:ac<=9223372036854775807)(sw:Bool):
 call T 7 [.byt codes .no,.byt chain .no,.byt ma .no,.byt mb .no,.int .i64 ac,.bool sw] [] 0=some ⟨.bool true,[],[]⟩:=by
 obtain⟨a,l,ms,nl,hl,nm,hm,g⟩:=xbu codes chain ma ac h0 h1;obtain⟨ch,hch,gc⟩:=f24 chain;obtain⟨nb,hnb,gn⟩:=f23 mb ch hch;have hlen:(exV l ms).rs.length=(exV l ms).at':=iP ms l w0 0 [] rfl;have hle:(exV l ms).at'<=0+l.length:=q8 ms l w0 0 []
 exact f7c codes chain ma mb ac sw a (bD l) (fm ch) ms nb hm ⟨hnb.bd.1,hnb.bd.2⟩ nm hnb.n (fun A=>(exV l A).rs) (fun A=>(exV l A).at') (fun A=>exE l A) (by omega) f10 g gc gn
  (fun A hA=>f12 a 0 l hl A hA) (fun h B hB=>GF ms B l hB h) (fun h=>xP ms l h)
section
section
open Go.ChangeShapes Go.WideShapes
variable {H : Type} {enc : TypeId × Value -> H} {P : Program} {w : World} {base : Nat} {sp : Nat -> Bool} {hd : Bool} {r : Reach} {b0 : Nat} {t e : TypeId} {v : Value} {d : DataW H} {ps : List MemPlace}
end
end
end Go.Proofs.YtdafipacemgcoaaGreatDoor
