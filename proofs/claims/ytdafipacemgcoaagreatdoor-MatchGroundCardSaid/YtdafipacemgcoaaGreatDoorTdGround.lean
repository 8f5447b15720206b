/- What the functions come to. No condition. -/
import Derived.Test.YtdafipacemgcoaaGreatDoorTcGround
open Int renaming fdiv -> ET, natCast_zero -> aC, toNat_natCast -> fq
open Go.IntKind renaming i64 -> ai, u64 -> bm, wrap_u64 -> cH
open List renaming append_assoc -> ba, append_nil -> bJ, drop -> eO, drop_length -> aM, drop_zero -> aV, foldl_cons -> cZ, foldl_nil -> oI, getD_cons_succ -> bj, getD_cons_zero -> bf, getD_eq_getElem?_getD -> aa, getElem?_append_right -> bx, length_append -> ah, length_cons -> au, length_drop -> aE, length_nil -> aQ, length_pos_iff -> mI, length_set -> cu, length_take -> ax, map_take -> lx, mem_append -> an, mem_cons -> av, mem_of_mem_drop -> dx, mem_of_mem_take -> bV, mem_singleton -> bp, not_mem_nil -> dT, range -> bX, take -> cm, take_length -> bo, take_of_length_le -> bK
open Nat renaming le_refl -> aN, sub_zero -> iM, zero_add -> bF, zero_le -> bP
open Go.Op renaming bytesLess -> cx
set_option maxRecDepth 100000
set_option maxHeartbeats 16000000
set_option linter.unusedSimpArgs false
set_option linter.unusedVariables false
namespace Go.Proofs.YtdafipacemgcoaaGreatDoor
open Go.Sy
open UInt8 renaming reduceLT -> Q0, reduceLE -> Q1
open Int renaming reduceToNat -> Q2, reduceLE -> Q3, reduceLT -> Q4, reduceEq -> Q5, reduceNe -> Q6, reduceNeg -> Q7, reduceAdd -> Q8, reduceSub -> Q9, reduceMul -> Qa
open Nat renaming reducePow -> Qb, reduceDiv -> Qc, reduceMod -> Qd, reduceAdd -> Qe, reduceSub -> Qf, reduceMul -> Qg, reduceLT -> Qh, reduceLeDiff -> Qi, reduceEqDiff -> Qj, reduceBEq -> Qk
theorem xm1(d:List UInt8):call T 60 [.lst 1 [] .no,.byt d .no,.fn 61 [] []] [] 0=some ⟨.tup [.int .i64 0,.bool false],[],[]⟩:=by rw[am xlE];simp only[go_sem,Qe,Qh,Qi,Qj,Qk,reduceCtorEq,reduceIte];rw[ak];simp only[go_sem,Q2,Q3,Q4,Qh,Qj,Qk,reduceCtorEq,reduceIte,c0]
def G8(L:List (List UInt8))(d:List UInt8)(i j:Nat):CSt:=
 ⟨[(0,.psl 0 1 0 L.length none),(1,.byt d .no),(2,.fn 61 [] []),(8,.int .i64 L.length),(9,.int .i64 i),(10,.int .i64 j)],[(0,.arr 1 (bls L))],[]⟩
theorem l60(L:List (List UInt8))(d:List UInt8)(hs:we L)(hn:L.length<=1000000000):∀(m i j:Nat),j-i<=m->i<=lbB L d->lbB L d<=j->j<=L.length->
 run T (.loop O6) (G8 L d i j)=some (.x 0,⟨[(0,.psl 0 1 0 L.length none),(1,.byt d .no),(2,.fn 61 [] []),(8,.int .i64 L.length),(9,.int .i64 (lbB L d))],[(0,.arr 1 (bls L))],[]⟩):=by
 intro m;induction m with
 |zero=>
  intro i j h0 h1 h2 h3;have hij:j=i:=by omega
  have hli:lbB L d=i:=by omega
  subst hij;rw[hli,G8,ak];simp only[go_sem,Qh,Qj,Qk,reduceCtorEq,reduceIte]
 |succ m ih=>
  intro i j h0 h1 h2 h3
  by_cases hij:i<j
  ·have hv:=fj L
   have e1:ai.wrap ((i:Int)+(j:Int))=((i+j:Nat):Int):=wZ (by omega)
   have e2:bm.wrap ((i+j:Nat):Int)=((i+j:Nat):Int):=by rw[cH];omega
   have e3:ET ((i+j:Nat):Int) (2^min 1 64)=(((i+j)/2:Nat):Int):=by rw[show min 1 64=1 from rfl,Int.fdiv_eq_ediv_of_nonneg _ (by decide)];rfl
   have e4:ai.wrap (((i+j)/2:Nat):Int)=(((i+j)/2:Nat):Int):=w64 (by omega) (by omega);have e5:bm.wrap (((i+j)/2:Nat):Int)=(((i+j)/2:Nat):Int):=by rw[cH];omega
   have e6:ai.wrap ((((i+j)/2:Nat):Int)+1)=(((i+j)/2+1:Nat):Int):=bW _ (by omega);have hk:(i+j)/2<L.length:=by omega
   have hg:=jx L ((i+j)/2) hk;have hif:=mR L d hs ((i+j)/2) hk;have g:=f61 (L.getD ((i+j)/2) []) d;have ha:i<=(i+j)/2:=by omega
   have hb:(i+j)/2<j:=by omega
   generalize (i+j)/2=k at*
   by_cases hc:Lib.compareBytes (L.getD k []) d<0
   ·have ih':=ih (k+1) j (by omega) (by have:=hif.1 hc;omega) h2 h3
    rw[G8]at ih' ⊢;rw[ak];simp only[go_sem,Q2,Q3,Qh,Qj,Qk,reduceCtorEq,reduceIte,hij,e1,e2,e3,e4,hv,hk,hg,g,S2,hc,e6,ih']
   ·have ih':=ih i k (by omega) h1 (by have:=mt hif.2 hc;omega) (by omega)
    rw[G8]at ih' ⊢;rw[ak];simp only[go_sem,Q2,Q3,Qh,Qj,Qk,reduceCtorEq,reduceIte,hij,e1,e2,e3,e4,hv,hk,hg,g,S2,hc,ih']
  ·have hji:j=i:=by omega
   have hli:lbB L d=i:=by omega
   subst hji;rw[hli,G8,ak];simp only[go_sem,Qh,Qj,Qk,reduceCtorEq,reduceIte]
theorem f60(L:List (List UInt8))(d:List UInt8)(hs:we L)(hn:L.length<=1000000000):
 call T 60 [.psl 0 1 0 L.length none,.byt d .no,.fn 61 [] []] [.arr 1 (bls L)] 0=some ⟨.tup [.int .i64 (lbB L d),.bool (s6 L d)],[(0,.arr 1 (bls L))],[]⟩:=by
 have hl:=l60 L d hs hn _ 0 L.length (aN _) (bP _) (l8 L d) (aN _);rw[G8,aC]at hl;have hv:=fj L;rw[am xlE];unfold s6
 by_cases hq:lbB L d<L.length
 ·have hg:=jx L _ hq
  have g:=f61 (L.getD (lbB L d) []) d;have he:=mV (L.getD (lbB L d) []) d
  by_cases hd:L.getD (lbB L d) []=d
  ·have h0:Lib.compareBytes (L.getD (lbB L d) []) d=0:=he.2 hd
   rw[decide_eq_true ⟨hq,hd⟩];generalize lbB L d=q at*;simp only[go_sem,Qe,Qh,Qi,Qj,Qk,reduceCtorEq,reduceIte,hv,hl,hq,hg,g,S2,h0]
  ·have h0:¬Lib.compareBytes (L.getD (lbB L d) []) d=0:=fun h=>hd (he.1 h)
   rw[decide_eq_false (fun h=>hd h.2)];generalize lbB L d=q at*;simp only[go_sem,Qe,Qh,Qi,Qj,Qk,reduceCtorEq,reduceIte,hv,hl,hq,hg,g,S2,h0]
 ·rw[decide_eq_false (fun h=>hq h.1)]
  generalize lbB L d=q at*;simp only[go_sem,Qe,Qh,Qi,Qj,Qk,reduceCtorEq,reduceIte,hl,hq]
theorem xm0(d:List UInt8):call T 62 [.lst 1 [] .clip,.int .i64 0,.lst 1 [[.byt d .no]] .no] [] 0=some ⟨.psl 100 1 0 1 none,[(100,.arr 1 [[.byt d .no]])],[]⟩:=by rw[iU xlD];rfl
theorem f62(L:List (List UInt8))(k:Nat)(d:List UInt8)(hk:k<=L.length)(hn:L.length<=1000000000):
 call T 62 [.psl 0 1 0 L.length none,.int .i64 k,.lst 1 [[.byt d .no]] .no] [.arr 1 (bls L)] 0=some ⟨.psl 100 1 0 (L.length+1) none,[(100,.arr 1 (bls (L.take k++d::L.drop k)))],[]⟩:=by
 rw[iU xlD];show(if(bls L).length=L.length/\(0:Int)<=(k:Int)/\(k:Int)<=((L.length:Nat):Int)/\L.length<=1000000000 then some (⟨.psl 100 1 0 (L.length+1) none,[(100,.arr 1 (lh (bls L) (k:Int).toNat (.byt d .no)))],[]⟩:ej)else none)=_;rw[if_pos ⟨fj L,by omega,by omega,hn⟩,fq,th]
def grS(ms:List Man)(L:List (List UInt8))(p:Int×Int):List (List UInt8):=if p.1<0\/(ms.length:Int)<=p.1 then L else li L (oF (ms.getD p.1.toNat mn0))
def grV(ms:List Man)(rs:List (Int×Int)):List (List UInt8):=rs.foldl (grS ms) []
theorem s8(ms:List Man)(L:List (List UInt8))(p:Int×Int):(grS ms L p).length<=L.length+1:=by
 unfold grS;split
 ·omega
 ·exact Gv _ _
theorem CI(ms:List Man)(L:List (List UInt8))(p:Int×Int)(h:we L):we (grS ms L p):=by
 unfold grS;split
 ·exact h
 ·exact Gt _ _ h
def vk(L:List (List UInt8)):SV:=if L=[]then .lst 1 [] .clip else .psl 105 1 0 L.length none
def vm(L:List (List UInt8)):List (Nat×aF):=if L=[]then []else [(105,.arr 1 (bls L))]
theorem l21(ms:List Man)(hm:jz ms)(rs:List (Int×Int))(hr:rs.length<=1000000):∀(n i:Nat)(L:List (List UInt8)),rs.length-i=n->i<=rs.length->we L->L.length<=i->
 run T (.loop yv) ⟨[(0,.lst 7 (dU ms) .no),(5,vk L),(11,.lst 2 (rsv rs) .no),(12,.int .i64 rs.length),(13,.int .i64 i)],vm L,[]⟩=
  some (.x 0,⟨[(5,vk ((rs.drop i).foldl (grS ms) L))],vm ((rs.drop i).foldl (grS ms) L),[]⟩):=by
 intro n;induction n with
 |zero=>
  intro i L h0 h1 hs hL;have hi:i=rs.length:=by omega
  subst hi;rw[aM,oI,ak];simp only[go_sem,Qh,Qj,Qk,reduceCtorEq,reduceIte]
 |succ n ih=>
  intro i L h0 h1 hs hL;have hi:i<rs.length:=by omega
  have e1:=bW i (by omega);have hv:=cD rs;have hg:=gB rs i hi;have hvm:=dV ms;rw[gW rs (0,0) i hi,cZ];have ih':=ih (i+1) (grS ms L (rs.getD i (0,0))) (by omega) (by omega) (CI _ _ _ hs) (by have:=s8 ms L (rs.getD i (0,0));omega);generalize (rs.drop (i+1)).foldl (grS ms) (grS ms L (rs.getD i (0,0)))=Z at*;generalize rs.getD i (0,0)=p at*;obtain⟨p1,p2⟩:=p;simp only at hg
  by_cases hp0:p1<0
  ·unfold grS at ih'
   rw[if_pos (.inl hp0)]at ih'
   by_cases hz:L=[]
   ·subst hz
    simp only[vk,vm,reduceIte]at ih' ⊢;rw[ak];simp only[go_sem,Qe,Qh,Qi,Qj,Qk,reduceCtorEq,reduceIte,hi,hv,hg,hp0,e1,ih']
   ·simp only[vk,vm,if_neg hz]at ih' ⊢
    rw[ak];simp only[go_sem,Qe,Qh,Qi,Qj,Qk,reduceCtorEq,reduceIte,hi,hv,hg,hp0,e1,ih']
  ·by_cases hp1:(ms.length:Int)<=p1
   ·unfold grS at ih'
    rw[if_pos (.inr hp1)]at ih';have hp1':¬p1<(ms.length:Int):=by omega
    by_cases hz:L=[]
    ·subst hz
     simp only[vk,vm,reduceIte]at ih' ⊢;rw[ak];simp only[go_sem,Qe,Qh,Qi,Qj,Qk,reduceCtorEq,reduceIte,hi,hv,hg,hp0,hvm,hp1,e1,ih']
    ·simp only[vk,vm,if_neg hz]at ih' ⊢
     rw[ak];simp only[go_sem,Qe,Qh,Qi,Qj,Qk,reduceCtorEq,reduceIte,hi,hv,hg,hp0,hvm,hp1,e1,ih']
   ·unfold grS at ih'
    rw[if_neg (by omega)]at ih';obtain⟨k,rfl⟩:∃k:Nat,p1=k:=⟨p1.toNat,by omega⟩;have hk:k<ms.length:=by omega
    have hk':¬ms.length<=k:=by omega
    have hgm:=ij ms k hk;have gd:=f59 (ms.getD k mn0) (hm.2 _ (bN ms mn0 k hk));rw[fq]at ih';generalize oF (ms.getD k mn0)=d at*;generalize ms.getD k mn0=mm at*;obtain⟨mv,m1,m2,m3,m4,es,rl⟩:=mm;simp only[Man.sv]at hgm gd
    by_cases hz:L=[]
    ·subst hz
     have g1:=xm1 d;have g2:=xm0 d;have hi0:li [] d=[d]:=rfl;rw[hi0]at ih';have b1:bls [d]=[[.byt d .no]]:=rfl;have b2:[d].length=1:=rfl;simp only[vk,vm,reduceIte,List.cons_ne_nil,b1,b2]at ih' ⊢;rw[ak];simp only[go_sem,Qe,Qg,Qh,Qi,Qj,Qk,reduceCtorEq,reduceIte,hi,hv,hg,hp0,hvm,hk,hk',hgm,gd,xfW,g1,xfV,g2,xlL,e1,ih']
    ·have g1:=f60 L d hs (by omega)
     have hle:=l8 L d
     by_cases hb:s6 L d=true
     ·have hi0:li L d=L:=by unfold li;rw[if_pos hb]
      rw[hb]at g1;rw[hi0]at ih';simp only[vk,vm,if_neg hz]at ih' ⊢;rw[ak];simp only[go_sem,Qe,Qg,Qh,Qi,Qj,Qk,reduceCtorEq,reduceIte,hi,hv,hg,hp0,hvm,hk,hk',hgm,gd,xfW,g1,xfV,e1,ih']
     ·have hi0:li L d=L.take (lbB L d)++d::L.drop (lbB L d):=by unfold li;rw[if_neg hb]
      have hb':s6 L d=false:=by simpa using hb
      rw[hb']at g1;rw[hi0]at ih';have g2:=f62 L (lbB L d) d hle (by omega);have hln:(L.take (lbB L d)++d::L.drop (lbB L d)).length=L.length+1:=by rw[ah,au,ax,aE];omega
      have hne:¬L.take (lbB L d)++d::L.drop (lbB L d)=[]:=by simp
      simp only[vk,vm,if_neg hz,if_neg hne,hln]at ih' ⊢;generalize L.take (lbB L d)++d::L.drop (lbB L d)=LL at*;rw[ak];simp only[go_sem,Qe,Qg,Qh,Qi,Qj,Qk,reduceCtorEq,reduceIte,hi,hv,hg,hp0,hvm,hk,hk',hgm,gd,xfW,g1,xfV,g2,xlL,e1,ih']
theorem f21(ms:List Man)(hm:jz ms)(rs:List (Int×Int))(hr:rs.length<=1000000):call T 21 [.lst 7 (dU ms) .no,.lst 2 (rsv rs) .no] [] 0=some ⟨.lst 1 (bls (grV ms rs)) .no,[],[]⟩:=by
 have h:=l21 ms hm rs hr _ 0 [] rfl (bP _) List.Pairwise.nil (aN _);rw[aC,aV]at h;have hv:=cD rs;unfold grV;generalize rs.foldl (grS ms) []=Z at*;rw[am xoK];unfold vk vm at h
 by_cases hz:Z=[]
 ·subst hz
  simp only[reduceIte]at h;simp only[go_sem,Qe,Qh,Qi,Qj,Qk,reduceCtorEq,reduceIte,hv,h];rfl
 ·simp only[reduceIte,if_neg hz]at h
  have hvl:=fj Z;have tf:cm Z.length (bls Z)=bls Z:=by rw[<-hvl,bo]
  simp only[go_sem,Qe,Qh,Qi,Qj,Qk,reduceCtorEq,reduceIte,hv,h,hvl,tf,aN]
theorem Gu(d:List UInt8):li [d] d=[d]:=by
 have h0:lbB [d] d=0:=by unfold lbB;rw[List.takeWhile_cons,vV];rfl
 unfold li s6;rw[h0,if_pos (decide_eq_true ⟨by simp,rfl⟩)]
theorem yO(m:Man):∀(rs:List (Int×Int))(L:List (List UInt8)),(L=[]\/L=[oF m])->(L=[oF m]\/∃p∈rs,p.1=0)->rs.foldl (grS [m]) L=[oF m]
 |[],L,_,h=>by
  rcases h with h|⟨p,hp,_⟩
  ·exact h
  ·cases hp
 |p::r,L,h1,h2=>by
  rw[cZ]
  by_cases hp:p.1<0\/(1:Int)<=p.1
  ·have e:grS [m] L p=L:=by unfold grS;exact if_pos hp
   rw[e];refine yO m r L h1 (h2.imp id fun⟨q,hq,h⟩=> ?_);rcases av.1 hq with rfl|hq
   ·omega
   ·exact⟨q,hq,h⟩
  ·have e:grS [m] L p=[oF m]:=by
    unfold grS;rw[if_neg (by show ¬(p.1<0\/(1:Int)<=p.1);exact hp)];have h0:p.1.toNat=0:=by omega
    rw[h0];rcases h1 with rfl|rfl
    ·rfl
    ·exact Gu _
   rw[e];exact yO m r _ (.inr rfl) (.inl rfl)
theorem xm6(m:Man)(hm:eU m)(rs:List (Int×Int))(hn:rs.length<=1000000)(h:∃p∈rs,p.1=0):
 call T 21 [.lst 7 [m.sv] .no,.lst 2 (rsv rs) .no] [] 0=some ⟨.lst 1 [[.byt (oF m) .no]] .no,[],[]⟩:=by
 have hb:jz [m]:=⟨by simp,fun x hx=>by rw[bp.1 hx];exact hm⟩;have g:=f21 [m] hb rs hn;unfold grV at g;rw[yO m rs [] (.inl rfl) (.inr h)]at g;exact g
def im1:Img:=⟨1,[102],0,[]⟩
def im2:Img:=⟨3,[107],0,[]⟩
theorem yN:gE im1=0:=by decide
theorem yM:gE im2=0:=by decide
theorem CG:eA [im1,im2]:=by
 refine⟨by decide,by decide, ?_, ?_, ?_,⟨0,by decide,rfl⟩,⟨1,by decide,rfl⟩⟩
 ·intro i hi
  have:i=0\/i=1:=by simp only[au,aQ]at hi;omega
  rcases this with rfl|rfl
  ·exact yN
  ·exact yM
 ·intro i hi
  have:i=0:=by simp only[au,aQ]at hi;omega
  subst this;decide
 ·intro i hi k hk h
  have:i=1/\k=0:=by simp only[au,aQ]at hi;omega
  obtain⟨rfl,rfl⟩:=this;exact absurd h (by decide)
def mnA:Man:=⟨[118],1,0,0,1099511627776,[eK im1,eK im2],[]⟩
theorem xeP:xlt [118] 1 [im1,im2]=mnA:=by
 have h1:ip (eK im2) [eK im1]=1:=by
  have:oG (eK im1) (eK im2)=true:=by unfold oG;rw[if_neg (by decide)];decide
  unfold ip;rw[if_pos this];rfl
 unfold xlt tc mnA;rw[cZ,cZ,oI]
 have e1:rY im1 []=[eK im1]:=by unfold rY xk;rw[if_neg (by decide),if_neg (by simp)];rfl
 have e2:rY im2 [eK im1]=[eK im1,eK im2]:=by unfold rY xk;rw[if_neg (by decide),h1,if_neg (by simp)];rfl
 rw[e1,e2]
theorem Ou:eU mnA:=by
 refine⟨by decide,by show 2<=1000000;decide,by decide, ?_,fun x hx=>by cases hx⟩;intro x hx;have:x=eK im1\/x=eK im2:=by simpa[mnA]using hx
 rcases this with rfl|rfl
 ·exact⟨by decide,by show(sha _).length<=_;rw[fN];decide⟩
 ·exact⟨by decide,by show(sha _).length<=_;rw[fN];decide⟩
theorem Ot:lg mnA=0:=by
 have d1:((eK im1).dig.length:Int)=32:=by show((sha _).length:Int)=32;rw[fN];rfl
 have d2:((eK im2).dig.length:Int)=32:=by show((sha _).length:Int)=32;rw[fN];rfl
 have b:oG (eK im1) (eK im2)=true:=by unfold oG;rw[if_neg (by decide)];decide
 have e0:ln [eK im1,eK im2] 0=0:=by unfold ln;simp only[bf];rw[if_neg (by decide),if_neg (by decide),if_neg (by decide),if_neg (by decide),if_pos d1,if_pos (by decide),if_pos trivial]
 have e1:ln [eK im1,eK im2] 1=0:=by unfold ln;simp only[bj,bf];rw[if_neg (by decide),if_neg (by decide),if_neg (by decide),if_neg (by decide),if_pos d2,if_pos (by decide),if_neg (by decide),show([eK im1,eK im2].getD (1-1) en0)=eK im1 from rfl,if_pos b]
 have es:gy [eK im1,eK im2] 2 0=0:=by unfold gy;rw[if_pos e0];unfold gy;rw[if_pos e1];rfl
 unfold lg mnA;simp only[au,aQ];rw[if_pos (by decide),if_neg (by decide),if_neg (by decide),if_neg (by decide),if_neg (by decide),if_neg (by decide),if_neg (by decide),if_neg (by decide),if_neg (by decide),if_pos es];rfl
theorem OB{x:Img}(h:gE x=0):ic x≠ []:=fun e=>ta h (by rw[e];rfl)
theorem Oo{x:Img}(h:gE x=0):(ofI x 2).dg.getD 1 []=sha (ic x):=by unfold ofI vS;simp only;rw[if_neg (OB h)];rfl
theorem CE{x:Img}(h:gE x=0):itE (ofI x 2) (eK x)=true:=by unfold itE;rw[Oo h];simp only[ofI,eK,decide_true,Bool.and_self]
theorem xle:eG mnA (ofI im1 2)=0:=by unfold eG;rw[if_pos Ot,if_pos (show(ofI im1 2).kind=1 from rfl)];unfold mnA fH;rw[if_pos (CE yN)];rfl
theorem xld:eG mnA (ofI im2 2)=1:=by
 have h:itE (ofI im2 2) (eK im1)=false:=by unfold itE;rw[decide_eq_false (by decide:¬(ofI im2 2).reg=sH (eK im1).role)];rfl
 unfold eG;rw[if_pos Ot,if_pos (show(ofI im2 2).kind=1 from rfl)];unfold mnA fH;rw[if_neg (by rw[h];simp)];unfold fH;rw[if_pos (CE yM)];rfl
theorem xnD(i:Int):rR (mkV i 2 2 [0,0,0,0])=true:=by
 unfold rR;rw[if_neg (by show ¬(2:Int)=1;decide),if_pos (show(mkV i 2 2 [0,0,0,0]).kind=2 from rfl),if_pos (show(mkV i 2 2 [0,0,0,0]).data=[0,0,0,0]from rfl)]
 have h0:(mkV i 2 2 [0,0,0,0]).dg=[[],sha [0,0,0,0]]:=by unfold mkV;rfl
 rw[h0];show(ir true [] (iS [0,0,0,0])&&ir true (sha [0,0,0,0]) (sha [0,0,0,0]))=true;unfold ir;rw[if_neg (by decide),decide_eq_true rfl];split<;>rfl
def evA:List Ev:=[ofI im1 2,mkV 0 2 2 [0,0,0,0],mkV 1 2 2 [0,0,0,0],mkV 2 2 2 [0,0,0,0],mkV 3 2 2 [0,0,0,0],mkV 4 2 2 [0,0,0,0],mkV 5 2 2 [0,0,0,0],mkV 6 2 2 [0,0,0,0],mkV 7 2 2 [0,0,0,0],ofI im2 2]
theorem xfj:evF [im1,im2] 2=evA:=rfl
theorem xgx:iG [mnA] (ofI im1 2)=some (0,0):=by unfold iG;rw[if_neg (by show ¬(1:Int)=5;decide),if_neg (by show ¬(1:Int)=2;decide)];unfold frM;rw[xle];rfl
theorem xgw:iG [mnA] (ofI im2 2)=some (0,1):=by unfold iG;rw[if_neg (by show ¬(1:Int)=5;decide),if_neg (by show ¬(1:Int)=2;decide)];unfold frM;rw[xld];rfl
theorem xgv(i:Int):iG [mnA] (mkV i 2 2 [0,0,0,0])=some (-1, -1):=by unfold iG;rw[if_neg (by show ¬(2:Int)=5;decide),if_pos (show(mkV i 2 2 [0,0,0,0]).kind=2 from rfl),if_pos (xnD i)]
def rsA:List (Int×Int):=[(0,0),(-1, -1),(-1, -1),(-1, -1),(-1, -1),(-1, -1),(-1, -1),(-1, -1),(-1, -1),(0,1)]
theorem exA:(exV evA [mnA]).rs=rsA/\(exV evA [mnA]).at'=10/\exE evA [mnA]=0:=by
 have key:exV evA [mnA]=⟨⟨4,8,false,true,false,true,true,false⟩,10,rsA,0⟩:=by
  unfold exV evA;unfold exW;rw[if_pos (by decide),xgx];simp only
  iterate 8
   unfold exW;rw[if_pos (by decide),xgv];simp only
  unfold exW;rw[if_pos (by decide),xgw];simp only;unfold exW;rfl
 unfold exE;rw[key];exact⟨rfl,rfl,rfl⟩
theorem xny:(exV evA []).rs=[]/\(exV evA []).at'=0/\exE evA []=47:=by
 have key:exV evA []=⟨w0,0,[],47⟩\/∃w,exV evA []=⟨w,0,[],47⟩:=by
  right;unfold exV evA;unfold exW;rw[if_pos (by decide)]
  have:iG [] (ofI im1 2)=none:=by unfold iG;rw[if_neg (by show ¬(1:Int)=5;decide),if_neg (by show ¬(1:Int)=2;decide)];rfl
  rw[this];exact⟨_,rfl⟩
 unfold exE;rcases key with h|⟨w,h⟩
 ·rw[h];exact⟨rfl,rfl,rfl⟩
 ·rw[h];exact⟨rfl,rfl,rfl⟩
theorem ckA:ckV evA [mnA] rsA=true:=by
 unfold ckV;rw[if_pos exA.2.2,if_pos (show(rsA.length:Int)=evA.length from rfl)]
 have h0:ckO [mnA] (ofI im1 2) (0,0)=true:=by unfold ckO;rw[if_neg (by show ¬(1:Int)=5;decide),if_neg (by show ¬(1:Int)=2;decide),if_neg (by decide),if_neg (by decide),if_neg (by decide)];show decide (eG mnA (ofI im1 2)=0)=true;rw[xle];rfl
 have h1:ckO [mnA] (ofI im2 2) (0,1)=true:=by unfold ckO;rw[if_neg (by show ¬(1:Int)=5;decide),if_neg (by show ¬(1:Int)=2;decide),if_neg (by decide),if_neg (by decide),if_neg (by decide)];show decide (eG mnA (ofI im2 2)=1)=true;rw[xld];rfl
 have h2:∀i:Int,ckO [mnA] (mkV i 2 2 [0,0,0,0]) (-1, -1)=true:=by intro i;unfold ckO;rw[if_neg (by show ¬(2:Int)=5;decide),if_pos (show(mkV i 2 2 [0,0,0,0]).kind=2 from rfl)];rfl
 unfold evA rsA;unfold ckL;rw[if_pos h0]
 iterate 8
  unfold ckL;rw[if_pos (h2 _)]
 unfold ckL;rw[if_pos h1];rfl
theorem yS:iR evA:=by
 refine⟨by decide, ?_⟩
 have hi:∀x,gE x=0->r9 (ofI x 2):=by
  intro x hx;have h1:=(mb hx).1;obtain⟨_,_,c0,c1,_,_⟩:=ju hx;refine⟨?_, ?_, ?_, ?_⟩
  ·unfold ofI;exact vR _ _
  ·unfold ofI sZ
   have:=i9 6 x.ver.toNat (by omega);have hn:=kF (ju hx).2.2.2.2.1;simp only[ah,au];omega
  ·unfold ofI vS
   simp only;rw[if_neg (OB hx)];show(if qK 2 0=true then iS (ic x)else []).length<=1000000;rw[if_neg (by decide)];exact bP _
  ·rw[Oo hx,fN];decide
 have hs:∀i:Int,r9 (mkV i 2 2 [0,0,0,0]):=by
  intro i
  have h0:(mkV i 2 2 [0,0,0,0]).dg=[[],sha [0,0,0,0]]:=by unfold mkV;rfl
  refine⟨?_, ?_, ?_, ?_⟩
  ·rw[h0];rfl
  ·show([0,0,0,0]:List UInt8).length<=_;decide
  ·rw[h0];decide
  ·rw[h0];show(sha _).length<=_;rw[fN];decide
 intro e he;unfold evA at he;simp only[av,dT,or_false]at he;rcases he with rfl|rfl|rfl|rfl|rfl|rfl|rfl|rfl|rfl|rfl
 ·exact hi _ yN
 ·exact hs _
 ·exact hs _
 ·exact hs _
 ·exact hs _
 ·exact hs _
 ·exact hs _
 ·exact hs _
 ·exact hs _
 ·exact hi _ yM
theorem f10:call T 10 [] [] 0=some ⟨.bool true,[],[]⟩:=by
 have g1:=f31 [im1,im2] CG 2 (.inr (.inl rfl));rw[xfj]at g1;have g2:=f34 [im1,im2] CG [118] 1;have hde:tc [im1,im2] []=[eK im1,eK im2]:=congrArg Man.ents xeP;rw[hde]at g2
 have hms:jz [mnA]:=⟨by decide,fun m hm=>by
  have:m=mnA:=by simpa using hm
  rw[this];exact Ou⟩
 have hms0:jz []:=⟨by decide,fun m hm=>by cases hm⟩;have g3:=f12 2 0 evA yS [mnA] hms;have g4:=f12 2 0 evA yS [] hms0;have g5:=f16 2 0 evA yS [mnA] hms rsA;have g6:=xm6 mnA Ou rsA (by decide) ⟨(0,0),by simp[rsA],rfl⟩;unfold exS at g3 g4;obtain⟨a1,a2,a3⟩:=exA;obtain⟨b1,b2,b3⟩:=xny;rw[a1,a2,a3]at g3;rw[b1,b2,b3]at g4;rw[ckA]at g5;have hv:=cD rsA;have hl:rsA.length=10:=rfl;have hg:=gB rsA 9 (by decide);have hr9:rsA.getD 9 (0,0)=(0,1):=rfl;rw[hr9]at hg;rw[hl]at hv;have i1:fo [im1,im2]=[[.int .i64 1,.str [102],.int .i64 0,.byt [] .no],[.int .i64 3,.str [107],.int .i64 0,.byt [] .no]]:=rfl;rw[i1]at g1 g2;have m1:dU [mnA]=[mnA.sv]:=rfl;have m0:dU []=[]:=rfl;rw[m1]at g3 g5;rw[m0]at g4;have hsv:mnA.sv=[.str [118],.int .i64 1,.int .i64 0,.int .i64 0,.int .i64 1099511627776,.lst 4 (dB [eK im1,eK im2]) .no,.lst 4 [] .no]:=rfl;rw[hsv]at g3 g5 g6;generalize dB [eK im1,eK im2]=E at*;generalize bA evA=V at*;generalize rsv rsA=R at*;generalize oF mnA=D at*;have r0:rsv []=[]:=rfl;rw[r0]at g4;rw[am xoU];simp only[go_sem,Q2,Q3,Q4,Qe,Qh,Qi,Qj,Qk,reduceCtorEq,reduceIte,g1,xf0,g2,xO,g3,g4,lT,c10,c0,hv,hg,g5,tM,g6,xf4]

theorem xfh{l:List Ev}(h:l.length<=250)(hs:∀e,e∈l->EvS e):iR l:=⟨by omega,fun e he=>by have:=hs e he;exact⟨this.d2,by have:=this.b;omega,by have:=this.d0;omega,by have:=this.d1;omega⟩⟩
theorem xfK(codes chain ma:List UInt8)(ac:Int)(h0: -9223372036854775808<=ac)(h1:ac<=9223372036854775807):
 ∃(a:Int)(l:List Ev)(ms:List Man),l.length<=250/\iR l/\ms.length<=10/\jz ms/\
 call T 11 [.byt codes .no,.byt chain .no,.byt ma .no,.int .i64 ac] [] 0=some ⟨.tup [.agg [.int .i64 a,.int .i64 0,.lst 4 (bA l) .no],.lst 7 (dU ms) .no],[],[]⟩:=by
 obtain⟨a,l,ms,_,q1,q2,⟨ms',q3,rfl⟩,q5⟩:=f11 codes chain ma ac h0 h1 (P:=fun ms=>∃ms':List Man,MsS ms'/\my ms'=ms) (fun ch hch=>by obtain⟨ms,hm,g⟩:=f23 ma ch hch;exact⟨_,⟨ms,hm,rfl⟩,g⟩)
 exact⟨a,l,ms',q1,xfh q1 q2,q3.n,⟨q3.bd.1,q3.bd.2⟩,q5⟩
theorem f3(codes chain ma:List UInt8)(ac:Int)(h0: -9223372036854775808<=ac)(h1:ac<=9223372036854775807):
 call T 3 [.byt codes .no,.byt chain .no,.byt ma .no,.int .i64 ac] [] 0=some ⟨.bool true,[],[]⟩:=by
 have ga:=f10;obtain⟨a,l,ms,n1,hl,n2,hm,g⟩:=xfK codes chain ma ac h0 h1;have g1:=f12 a 0 l hl ms hm;have g2:=f13 a 0 l hl ms hm
 have hrl:(exV l ms).rs.length<=1000000:=by have h1:=lm ms l w0 0 [] rfl;have h2:=ut ms l w0 0 [];have h3:(exV l ms).rs.length=(exV l ms).at':=h1;have h4:(exV l ms).at'<=0+l.length:=h2;omega
 have g3:=f14 (exV l ms).rs hrl;unfold exS at g1 g2;rw[am T_3];simp only[go_sem,Qe,Qh,Qi,Qj,Qk,reduceCtorEq,reduceIte,ga,qV,g,qU,g1,lT,g2,S4,g3,xo6]
theorem vH(e:Ev):∀(l:List Man)(i:Nat)(p:Int×Int),frM e l i=some p->
 ∃k,k<l.length/\p.1=((i+k:Nat):Int)/\0<=p.2/\eG (l.getD k mn0) e=p.2/\∀j,j<k->eG (l.getD j mn0) e<0
 |[],i,p,h=>by cases h
 |m::r,i,p,h=>by
  unfold frM at h
  by_cases h0:0<=eG m e
  ·rw[if_pos h0]at h
   cases h;exact⟨0,by simp,rfl,h0,rfl,fun j hj=>absurd hj (Nat.not_lt_zero j)⟩
  ·rw[if_neg h0]at h
   obtain⟨k,h1,h2,h3,h4,h5⟩:=vH e r (i+1) p h;refine⟨k+1,by rw[au];omega,by rw[h2];omega,h3,by rw[bj];exact h4,fun j hj=> ?_⟩;cases j with
   |zero=>rw[bf];omega
   |succ j=>rw[bj];exact h5 j (by omega)
theorem xg{m:Man}{e:Ev}(h1:e.kind≠1)(h3:e.kind≠3):eG m e= -1:=by unfold eG;rw[if_neg h1,if_neg h3];split<;>rfl
theorem vI{e:Ev}(h1:e.kind≠1)(h3:e.kind≠3):∀(l:List Man)(i:Nat),frM e l i=none
 |[],_=>rfl
 |m::r,i=>by unfold frM;rw[xg h1 h3,if_neg (by decide)];exact vI h1 h3 r (i+1)
theorem CN(ms:List Man):∀(l:List Ev)(w:Wk)(i:Nat)(rs:List (Int×Int)),∃t,(exW ms l w i rs).rs=rs++t
 |[],w,i,rs=>⟨[],(bJ _).symm⟩
 |e::r,w,i,rs=>by
  unfold exW
  by_cases ho:okW w e=true
  ·rw[if_pos ho]
   cases hr:iG ms e with
   |none=>exact⟨[],(bJ _).symm⟩
   |some p=>obtain⟨t,ht⟩:=CN ms r (stW w e) (i+1) (rs++ [p]);exact⟨[p]++t,by rw[<-ba];exact ht⟩
  ·rw[if_neg ho];exact⟨[],(bJ _).symm⟩
theorem CM(ms:List Man):∀(l:List Ev)(w:Wk)(i:Nat)(rs:List (Int×Int)),rs.length=i->∀k,i+k<(exW ms l w i rs).at'->iG ms (l.getD k ev0)=some ((exW ms l w i rs).rs.getD (i+k) (0,0))
 |[],w,i,rs,hl,k,h=>by have:i+k<i:=h;omega
 |e::r,w,i,rs,hl,k,h=>by
  unfold exW at h ⊢
  by_cases ho:okW w e=true
  ·rw[if_pos ho]at h ⊢
   cases hr:iG ms e with
   |none=>rw[hr]at h;have:i+k<i:=h;omega
   |some p=>
    rw[hr]at h;simp only at h ⊢;cases k with
    |zero=>obtain⟨t,ht⟩:=CN ms r (stW w e) (i+1) (rs++ [p]);rw[ht,bf,hr,ba,aa,bx (by omega),show i+0-rs.length=0 from by omega];rfl
    |succ k=>rw[bj];have:=CM ms r (stW w e) (i+1) (rs++ [p]) (by rw[ah,hl];rfl) k (by omega);rw[this,show i+1+k=i+(k+1)from by omega]
  ·rw[if_neg ho]at h;have:i+k<i:=h;omega
theorem xfx{ms:List Man}{e:Ev}{p:Int×Int}(h:iG ms e=some p):ckO ms e p=true:=by
 unfold iG at h;unfold ckO
 by_cases h5:e.kind=5
 ·rw[if_pos h5]at h ⊢
  cases h;rfl
 ·rw[if_neg h5]at h ⊢
  by_cases h2:e.kind=2
  ·rw[if_pos h2]at h ⊢
   rw[vI (by omega) (by omega)]at h;split at h
   ·cases h;rfl
   ·cases h
  ·rw[if_neg h2]at h ⊢
   obtain⟨k,c1,c2,c3,c4,_⟩:=vH e ms 0 p h;rw[if_neg (by omega),if_neg (by omega),if_neg (by omega),c2,bF,fq,c4];exact decide_eq_true rfl
theorem OD(ms:List Man):∀(l:List Ev)(rs:List (Int×Int)),(∀k,k<rs.length->iG ms (l.getD k ev0)=some (rs.getD k (0,0)))->ckL ms l rs=true
 |[],_,_=>rfl
 |_::_,[],_=>rfl
 |e::r,p::q,h=>by
  unfold ckL;have h0:=h 0 (by simp);rw[bf,bf]at h0;rw[if_pos (xfx h0)]
  exact OD ms r q fun k hk=>by have:=h (k+1) (by rw[au];omega);rwa[bj,bj]at this
theorem QO(R:List (Int×Int))(k:Nat)(hk:k<R.length)(m:Int):eD 2 (rsv R) k 0 1 [.int .i64 m]=rsv (R.set k (m,(R.getD k (0,0)).2)):=by unfold eD;rw[if_neg (by decide),gB R k hk];unfold rsv;rw[List.map_set];rfl
theorem Al(R:List (Int×Int))(k:Nat)(hk:k<R.length)(m:Int):eD 2 (rsv R) k 1 1 [.int .i64 m]=rsv (R.set k ((R.getD k (0,0)).1,m)):=by unfold eD;rw[if_neg (by decide),gB R k hk];unfold rsv;rw[List.map_set];rfl
theorem mG(l:List Ev)(ms:List Man):ckV l ms (exV l ms).rs=decide (exE l ms=0):=by
 unfold ckV
 by_cases h:exE l ms=0
 ·rw[if_pos h,decide_eq_true h]
  have he:(exV l ms).err=0:=by
   have h':=h;unfold exE at h';split at h'
   ·assumption
   ·exact h'
  have hlen:(exV l ms).rs.length=(exV l ms).at':=lm ms l w0 0 [] rfl;have hat:(exV l ms).at'=0+l.length:=yR ms l w0 0 [] he;rw[if_pos (by omega)];refine OD ms l _ fun k hk=> ?_
  have:=CM ms l w0 0 [] rfl k (by rw[bF];show k<(exV l ms).at';omega);rwa[bF]at this
 ·rw[if_neg h,decide_eq_false h]
theorem mu(n m:Int)(h:1<=m):0<=fG n m/\fG n m<m:=by
 unfold fG;rw[if_neg (by omega)];have h1:=Int.tmod_lt_of_pos n (show(0:Int)<m by omega)
 have h2: -m<n.tmod m:=by have:=Int.lt_tmod_of_pos n (show(0:Int)<m by omega);exact this
 split<;>constructor<;>omega
theorem mw(n:Int)(m:Nat)(h:0<m):∃k:Nat,fG n m=k/\k<m:=by obtain⟨h1,h2⟩:=mu n m (by omega);exact⟨(fG n m).toNat,by omega,by omega⟩
theorem xm2(codes chain ma:List UInt8)(ac:Int)(raw:List (Int×Int))(at' how n:Int)
 (a0: -9223372036854775808<=at') (a1:at'<=9223372036854775807) (b0: -9223372036854775808<=how) (b1:how<=9223372036854775807) (n0: -9223372036854775808<=n) (n1:n<=9223372036854775807) (hm3:fG how 4=3)
 (a:Int) (l:List Ev) (ms:List Man) (nl:l.length<=250) (nm:ms.length<=10) (R:List (Int×Int)) (AT E:Int) (CK:List (Int×Int)->Bool) (IT:Man->Ev->Int) (hRl:R.length<=l.length)
 (ga:call T 10 [] [] 0=some ⟨.bool true,[],[]⟩)
 (g':call T 11 [.byt codes .no,.byt chain .no,.byt ma .no,.int .i64 ac] [] 0=some ⟨.tup [.agg [.int .i64 a,.int .i64 0,.lst 4 (bA l) .no],.lst 7 (dU ms) .no],[],[]⟩)
 (g1:call T 12 [.agg [.int .i64 a,.int .i64 0,.lst 4 (bA l) .no],.lst 7 (dU ms) .no] [] 0=some ⟨.tup [.lst 2 (rsv R) .no,.int .i64 AT,.int .i64 E],[],[]⟩)
 (hck:CK R=decide (E=0))
 (fin16:∀rs,call T 16 [.agg [.int .i64 a,.int .i64 0,.lst 4 (bA l) .no],.lst 7 (dU ms) .no,.lst 2 (rsv rs) .no] [] 0=some ⟨.bool (CK rs),[],[]⟩)
 (fin17:∀rs,call T 17 [.agg [.int .i64 a,.int .i64 0,.lst 4 (bA l) .no],.lst 7 (dU ms) .no,.lst 2 (rsv rs) .no] [] 0=some ⟨.bool (CK rs),[],[]⟩)
 (f19':∀k i:Nat,k<l.length->i<ms.length->call T 19 [.agg (ms.getD i mn0).sv,.agg (l.getD k ev0).sv] [] 0=some ⟨.int .i64 (IT (ms.getD i mn0) (l.getD k ev0)),[],[]⟩):
 call T 5 [.byt codes .no,.byt chain .no,.byt ma .no,.int .i64 ac,.lst 2 (rsv raw) .no,.int .i64 at',.int .i64 how,.int .i64 n] [] 0=some ⟨.bool true,[],[]⟩:=by
 have g2:=fin16 R;have q1:=fin16 raw;have q2:=fin17 raw;rw[hck]at g2;have hvr:=cD R;have hvw:=cD raw;have hve:=b9 l;have hvm:=dV ms;have g3:=f18 at' (R.length:Int) a0 a1 (by omega);have g4:=f18 how 4 b0 b1 (by decide);generalize CK raw=W at*;have hb:R.length*16<=140737488355328:=by omega
 have hb0:(0+R.length)*16<=140737488355328:=by omega
 by_cases hz:R=[]
 ·subst hz
  have z0:rsv ([]:List (Int×Int))=[]:=rfl;rw[z0]at g1 g2;rw[am T_5]
  by_cases hw:(raw.length:Int)<60<;>
   simp only[go_sem,Qb,Qc,Qd,Qe,Qh,Qi,Qj,Qk,reduceCtorEq,reduceIte,ga,qV,g',qU,g1,lT,g2,tM,q1,q2,wi,hw,hvw,c0,aQ,Nat.zero_mul,bP]
 ·have hpos:0<R.length:=mI.2 hz
  have hne:¬((R.length:Nat):Int)=0:=by omega
  obtain⟨k,ek,hk⟩:=mw at' R.length hpos;rw[ek]at g3;rw[hm3]at g4;have hg:=gB R k hk;have hs:=pR R (R.getD k (0,0));have b2:(R.length+1)*16<=140737488355328:=by omega
  have hne0:¬((0+R.length:Nat):Int)=0:=by omega
  have hrn:¬rsv R=[]:=fun e=>by rw[e]at hvr;exact absurd hvr (by simp;omega)
  have tR:cm R.length (rsv R)=rsv R:=bK (by rw[hvr];exact aN _);have tS:cm (R.length+1) (rsv (R++ [R.getD k (0,0)]))=rsv (R++ [R.getD k (0,0)]):=bK (by rw[cD,ah];exact aN _);have tL:(rsv (R++ [R.getD k (0,0)])).length=R.length+1:=by rw[cD,ah];rfl
  have r16:=fin16 (R++ [R.getD k (0,0)]);have r17:=fin17 (R++ [R.getD k (0,0)]);generalize CK (R++ [R.getD k (0,0)])=V at*;rw[am T_5]
  by_cases hw:(raw.length:Int)<60<;>
   simp only[go_sem,Q2,Q3,Q5,Qb,Qc,Qd,Qe,Qg,Qh,Qi,Qj,Qk,reduceCtorEq,reduceIte,ga,qV,g',qU,g1,lT,g2,tM,q1,q2,wi,hw,hvw,hvr,hb,hne,g3,xP,g4,hk,hg,hrn,iM,tR,hs,tS,tL,b2,r16,r17]
theorem xm3(codes chain ma:List UInt8)(ac:Int)(raw:List (Int×Int))(at' how n:Int)
 (a0: -9223372036854775808<=at') (a1:at'<=9223372036854775807) (b0: -9223372036854775808<=how) (b1:how<=9223372036854775807) (n0: -9223372036854775808<=n) (n1:n<=9223372036854775807) (hm3:fG how 4=2)
 (a:Int) (l:List Ev) (ms:List Man) (nl:l.length<=250) (nm:ms.length<=10) (R:List (Int×Int)) (AT E:Int) (CK:List (Int×Int)->Bool) (IT:Man->Ev->Int) (hRl:R.length<=l.length)
 (ga:call T 10 [] [] 0=some ⟨.bool true,[],[]⟩)
 (g':call T 11 [.byt codes .no,.byt chain .no,.byt ma .no,.int .i64 ac] [] 0=some ⟨.tup [.agg [.int .i64 a,.int .i64 0,.lst 4 (bA l) .no],.lst 7 (dU ms) .no],[],[]⟩)
 (g1:call T 12 [.agg [.int .i64 a,.int .i64 0,.lst 4 (bA l) .no],.lst 7 (dU ms) .no] [] 0=some ⟨.tup [.lst 2 (rsv R) .no,.int .i64 AT,.int .i64 E],[],[]⟩)
 (hck:CK R=decide (E=0))
 (fin16:∀rs,call T 16 [.agg [.int .i64 a,.int .i64 0,.lst 4 (bA l) .no],.lst 7 (dU ms) .no,.lst 2 (rsv rs) .no] [] 0=some ⟨.bool (CK rs),[],[]⟩)
 (fin17:∀rs,call T 17 [.agg [.int .i64 a,.int .i64 0,.lst 4 (bA l) .no],.lst 7 (dU ms) .no,.lst 2 (rsv rs) .no] [] 0=some ⟨.bool (CK rs),[],[]⟩)
 (f19':∀k i:Nat,k<l.length->i<ms.length->call T 19 [.agg (ms.getD i mn0).sv,.agg (l.getD k ev0).sv] [] 0=some ⟨.int .i64 (IT (ms.getD i mn0) (l.getD k ev0)),[],[]⟩):
 call T 5 [.byt codes .no,.byt chain .no,.byt ma .no,.int .i64 ac,.lst 2 (rsv raw) .no,.int .i64 at',.int .i64 how,.int .i64 n] [] 0=some ⟨.bool true,[],[]⟩:=by
 have g2:=fin16 R;have q1:=fin16 raw;have q2:=fin17 raw;rw[hck]at g2;have hvr:=cD R;have hvw:=cD raw;have hve:=b9 l;have hvm:=dV ms;have g3:=f18 at' (R.length:Int) a0 a1 (by omega);have g4:=f18 how 4 b0 b1 (by decide);generalize CK raw=W at*;have hb:R.length*16<=140737488355328:=by omega
 have hb0:(0+R.length)*16<=140737488355328:=by omega
 by_cases hz:R=[]
 ·subst hz
  have z0:rsv ([]:List (Int×Int))=[]:=rfl;rw[z0]at g1 g2;rw[am T_5]
  by_cases hw:(raw.length:Int)<60<;>
   simp only[go_sem,Qb,Qc,Qd,Qe,Qh,Qi,Qj,Qk,reduceCtorEq,reduceIte,ga,qV,g',qU,g1,lT,g2,tM,q1,q2,wi,hw,hvw,c0,aQ,Nat.zero_mul,bP]
 ·have hpos:0<R.length:=mI.2 hz
  have hne:¬((R.length:Nat):Int)=0:=by omega
  have hne0:¬((0+R.length:Nat):Int)=0:=by omega
  have hrn:¬rsv R=[]:=fun e=>by rw[e]at hvr;exact absurd hvr (by simp;omega)
  obtain⟨k,ek,hk⟩:=mw at' R.length hpos;have hk1:k<=R.length:=by omega
  rw[ek]at g3;rw[hm3]at g4;have ht:(rsv R).take k=rsv (R.take k):=by rw[rsv,rsv,lx]
  have r16:=fin16 (R.take k);have r17:=fin17 (R.take k);generalize CK (R.take k)=V at*;rw[am T_5]
  by_cases hw:(raw.length:Int)<60<;>
   simp only[go_sem,Q2,Q3,Q5,Qb,Qc,Qd,Qe,Qg,Qh,Qi,Qj,Qk,reduceCtorEq,reduceIte,ga,qV,g',qU,g1,lT,g2,tM,q1,q2,wi,hw,hvw,hvr,hb,hrn,iM,hne,g3,xP,g4,hk,hk1,ht,r16,r17]
theorem xm4(codes chain ma:List UInt8)(ac:Int)(raw:List (Int×Int))(at' how n:Int)
 (a0: -9223372036854775808<=at') (a1:at'<=9223372036854775807) (b0: -9223372036854775808<=how) (b1:how<=9223372036854775807) (n0: -9223372036854775808<=n) (n1:n<=9223372036854775807) (hm3:fG how 4=1)
 (a:Int) (l:List Ev) (ms:List Man) (nl:l.length<=250) (nm:ms.length<=10) (R:List (Int×Int)) (AT E:Int) (CK:List (Int×Int)->Bool) (IT:Man->Ev->Int) (hRl:R.length<=l.length)
 (ga:call T 10 [] [] 0=some ⟨.bool true,[],[]⟩)
 (g':call T 11 [.byt codes .no,.byt chain .no,.byt ma .no,.int .i64 ac] [] 0=some ⟨.tup [.agg [.int .i64 a,.int .i64 0,.lst 4 (bA l) .no],.lst 7 (dU ms) .no],[],[]⟩)
 (g1:call T 12 [.agg [.int .i64 a,.int .i64 0,.lst 4 (bA l) .no],.lst 7 (dU ms) .no] [] 0=some ⟨.tup [.lst 2 (rsv R) .no,.int .i64 AT,.int .i64 E],[],[]⟩)
 (hck:CK R=decide (E=0))
 (fin16:∀rs,call T 16 [.agg [.int .i64 a,.int .i64 0,.lst 4 (bA l) .no],.lst 7 (dU ms) .no,.lst 2 (rsv rs) .no] [] 0=some ⟨.bool (CK rs),[],[]⟩)
 (fin17:∀rs,call T 17 [.agg [.int .i64 a,.int .i64 0,.lst 4 (bA l) .no],.lst 7 (dU ms) .no,.lst 2 (rsv rs) .no] [] 0=some ⟨.bool (CK rs),[],[]⟩)
 (f19':∀k i:Nat,k<l.length->i<ms.length->call T 19 [.agg (ms.getD i mn0).sv,.agg (l.getD k ev0).sv] [] 0=some ⟨.int .i64 (IT (ms.getD i mn0) (l.getD k ev0)),[],[]⟩):
 call T 5 [.byt codes .no,.byt chain .no,.byt ma .no,.int .i64 ac,.lst 2 (rsv raw) .no,.int .i64 at',.int .i64 how,.int .i64 n] [] 0=some ⟨.bool true,[],[]⟩:=by
 have g2:=fin16 R;have q1:=fin16 raw;have q2:=fin17 raw;rw[hck]at g2;have hvr:=cD R;have hvw:=cD raw;have hve:=b9 l;have hvm:=dV ms;have g3:=f18 at' (R.length:Int) a0 a1 (by omega);have g4:=f18 how 4 b0 b1 (by decide);generalize CK raw=W at*;have hb:R.length*16<=140737488355328:=by omega
 have hb0:(0+R.length)*16<=140737488355328:=by omega
 by_cases hz:R=[]
 ·subst hz
  have z0:rsv ([]:List (Int×Int))=[]:=rfl;rw[z0]at g1 g2;rw[am T_5]
  by_cases hw:(raw.length:Int)<60<;>
   simp only[go_sem,Qb,Qc,Qd,Qe,Qh,Qi,Qj,Qk,reduceCtorEq,reduceIte,ga,qV,g',qU,g1,lT,g2,tM,q1,q2,wi,hw,hvw,c0,aQ,Nat.zero_mul,bP]
 ·have hpos:0<R.length:=mI.2 hz
  have hne:¬((R.length:Nat):Int)=0:=by omega
  have hne0:¬((0+R.length:Nat):Int)=0:=by omega
  have hrn:¬rsv R=[]:=fun e=>by rw[e]at hvr;exact absurd hvr (by simp;omega)
  obtain⟨k,ek,hk⟩:=mw at' R.length hpos;have hk1:k<=R.length:=by omega
  rw[ek]at g3;rw[hm3]at g4;have g5:=f18 n 9 n0 n1 (by decide);obtain⟨d1,d2⟩:=mu n 9 (by decide);have e9:ai.wrap (fG n 9-1)=fG n 9-1:=w64 (by omega) (by omega);have ht:=Al R k hk (fG n 9-1);simp only[go_sem,Qe,Qj,reduceCtorEq,reduceIte]at ht;have r16:=fin16 (R.set k ((R.getD k (0,0)).1,fG n 9-1));have r17:=fin17 (R.set k ((R.getD k (0,0)).1,fG n 9-1));have hvs:(rsv (R.set k ((R.getD k (0,0)).1,fG n 9-1))).length=R.length:=by rw[cD,cu]
  have htk:(rsv (R.set k ((R.getD k (0,0)).1,fG n 9-1))).take R.length=rsv (R.set k ((R.getD k (0,0)).1,fG n 9-1)):=bK (by rw[hvs];exact aN _);generalize CK (R.set k ((R.getD k (0,0)).1,fG n 9-1))=V at*;generalize rsv (R.set k ((R.getD k (0,0)).1,fG n 9-1))=RS at*;rw[am T_5]
  by_cases hw:(raw.length:Int)<60<;>
   simp only[go_sem,Q2,Q3,Q5,Qb,Qc,Qd,Qe,Qg,Qh,Qi,Qj,Qk,reduceCtorEq,reduceIte,ga,qV,g',qU,g1,lT,g2,tM,q1,q2,wi,hw,hvw,hvr,hb,hrn,iM,hne,g3,xP,g4,hk,hk1,g5,e9,ht,hvs,htk,r16,r17]
theorem xm5(codes chain ma:List UInt8)(ac:Int)(raw:List (Int×Int))(at' how n:Int)
 (a0: -9223372036854775808<=at') (a1:at'<=9223372036854775807) (b0: -9223372036854775808<=how) (b1:how<=9223372036854775807) (n0: -9223372036854775808<=n) (n1:n<=9223372036854775807) (hm3:fG how 4=0)
 (a:Int) (l:List Ev) (ms:List Man) (nl:l.length<=250) (nm:ms.length<=10) (R:List (Int×Int)) (AT E:Int) (CK:List (Int×Int)->Bool) (IT:Man->Ev->Int) (hRl:R.length<=l.length)
 (ga:call T 10 [] [] 0=some ⟨.bool true,[],[]⟩)
 (g':call T 11 [.byt codes .no,.byt chain .no,.byt ma .no,.int .i64 ac] [] 0=some ⟨.tup [.agg [.int .i64 a,.int .i64 0,.lst 4 (bA l) .no],.lst 7 (dU ms) .no],[],[]⟩)
 (g1:call T 12 [.agg [.int .i64 a,.int .i64 0,.lst 4 (bA l) .no],.lst 7 (dU ms) .no] [] 0=some ⟨.tup [.lst 2 (rsv R) .no,.int .i64 AT,.int .i64 E],[],[]⟩)
 (hck:CK R=decide (E=0))
 (fin16:∀rs,call T 16 [.agg [.int .i64 a,.int .i64 0,.lst 4 (bA l) .no],.lst 7 (dU ms) .no,.lst 2 (rsv rs) .no] [] 0=some ⟨.bool (CK rs),[],[]⟩)
 (fin17:∀rs,call T 17 [.agg [.int .i64 a,.int .i64 0,.lst 4 (bA l) .no],.lst 7 (dU ms) .no,.lst 2 (rsv rs) .no] [] 0=some ⟨.bool (CK rs),[],[]⟩)
 (f19':∀k i:Nat,k<l.length->i<ms.length->call T 19 [.agg (ms.getD i mn0).sv,.agg (l.getD k ev0).sv] [] 0=some ⟨.int .i64 (IT (ms.getD i mn0) (l.getD k ev0)),[],[]⟩):
 call T 5 [.byt codes .no,.byt chain .no,.byt ma .no,.int .i64 ac,.lst 2 (rsv raw) .no,.int .i64 at',.int .i64 how,.int .i64 n] [] 0=some ⟨.bool true,[],[]⟩:=by
 have g2:=fin16 R;have q1:=fin16 raw;have q2:=fin17 raw;rw[hck]at g2;have hvr:=cD R;have hvw:=cD raw;have hve:=b9 l;have hvm:=dV ms;have g3:=f18 at' (R.length:Int) a0 a1 (by omega);have g4:=f18 how 4 b0 b1 (by decide);generalize CK raw=W at*;have hb:R.length*16<=140737488355328:=by omega
 have hb0:(0+R.length)*16<=140737488355328:=by omega
 by_cases hz:R=[]
 ·subst hz
  have z0:rsv ([]:List (Int×Int))=[]:=rfl;rw[z0]at g1 g2;rw[am T_5]
  by_cases hw:(raw.length:Int)<60<;>
   simp only[go_sem,Qb,Qc,Qd,Qe,Qh,Qi,Qj,Qk,reduceCtorEq,reduceIte,ga,qV,g',qU,g1,lT,g2,tM,q1,q2,wi,hw,hvw,c0,aQ,Nat.zero_mul,bP]
 ·have hpos:0<R.length:=mI.2 hz
  have hne:¬((R.length:Nat):Int)=0:=by omega
  have hne0:¬((0+R.length:Nat):Int)=0:=by omega
  have hrn:¬rsv R=[]:=fun e=>by rw[e]at hvr;exact absurd hvr (by simp;omega)
  obtain⟨k,ek,hk⟩:=mw at' R.length hpos;have hk1:k<=R.length:=by omega
  rw[ek]at g3;rw[hm3]at g4;have hkl:k<l.length:=by omega
  have e2:ai.wrap ((ms.length:Int)+2)=(ms.length:Int)+2:=w64 (by omega) (by omega);have g5:=f18 n ((ms.length:Int)+2) n0 n1 (by omega);obtain⟨d1,d2⟩:=mu n ((ms.length:Int)+2) (by omega);obtain⟨q,hq⟩:∃q,fG n ((ms.length:Int)+2)-1=q:=⟨_,rfl⟩;have e9:ai.wrap (fG n ((ms.length:Int)+2)-1)=q:=by rw[hq];exact w64 (by omega) (by omega)
  have ht:=QO R k hk q;simp only[go_sem,Qj,reduceIte]at ht;have hk':k<(R.set k (q,(R.getD k (0,0)).2)).length:=by rw[cu];exact hk
  have hvs:(rsv (R.set k (q,(R.getD k (0,0)).2))).length=R.length:=by rw[cD,cu]
  have hgt:(R.set k (q,(R.getD k (0,0)).2)).getD k (0,0)=(q,(R.getD k (0,0)).2):=by rw[aa,List.getElem?_set_self hk];rfl
  have hg1:=gB _ k hk';rw[hgt]at hg1;have htk:∀X:List (Int×Int),X.length=R.length->(rsv X).take R.length=rsv X:=fun X h=>bK (by rw[cD,h];exact aN _)
  have ht1:=htk (R.set k (q,(R.getD k (0,0)).2)) (by rw[cu]);have r16:=fin16 (R.set k (q,(R.getD k (0,0)).2));have r17:=fin17 (R.set k (q,(R.getD k (0,0)).2));have hs:=fun v=>Al _ k hk' v
  simp only[go_sem,Qe,Qj,reduceCtorEq,reduceIte,hg1]at hs;have hl2:∀v,((R.set k (q,(R.getD k (0,0)).2)).set k (((R.set k (q,(R.getD k (0,0)).2)).getD k (0,0)).1,v)).length=R.length:=fun v=>by rw[cu,cu]
  have s16:=fun v=>fin16 ((R.set k (q,(R.getD k (0,0)).2)).set k (((R.set k (q,(R.getD k (0,0)).2)).getD k (0,0)).1,v))
  have s17:=fun v=>fin17 ((R.set k (q,(R.getD k (0,0)).2)).set k (((R.set k (q,(R.getD k (0,0)).2)).getD k (0,0)).1,v))
  have hv2:∀v,(rsv ((R.set k (q,(R.getD k (0,0)).2)).set k (((R.set k (q,(R.getD k (0,0)).2)).getD k (0,0)).1,v))).length=R.length:=fun v=>by rw[cD,hl2]
  have ht2:=fun v=>htk _ (hl2 v)
  generalize (R.set k (q,(R.getD k (0,0)).2)).getD k (0,0)=P at*;generalize R.set k (q,(R.getD k (0,0)).2)=RA at*
  by_cases hq0:0<=q
  ·by_cases hq1:q<(ms.length:Int)
   ·obtain⟨i,rfl⟩:∃i:Nat,q=i:=⟨q.toNat,by omega⟩
    have hi:i<ms.length:=by omega
    have hgm:=ij ms i hi;have hgl:=gi l k hkl;have g19:=f19' k i hkl hi;generalize IT (ms.getD i mn0) (l.getD k ev0)=V at g19;generalize ms.getD i mn0=mm at hgm g19;generalize l.getD k ev0=ee at hgl g19;obtain⟨mv,m1,m2,m3,m4,es,rl⟩:=mm;obtain⟨eg,ek',ed,eb⟩:=ee;simp only[Man.sv,Ev.sv]at hgm hgl g19;have s1:=hs V;have s2:=hv2 V;have s3:=ht2 V;have s4:=s16 V;have s5:=s17 V;clear hs hv2 ht2 s16 s17 htk hl2 r16 r17 ht1;generalize CK (RA.set k (P.1,V))=Z at*;generalize rsv (RA.set k (P.1,V))=RS at*;rw[am T_5]
    by_cases hw:(raw.length:Int)<60<;>
     simp only[go_sem,Q2,Q3,Q5,Qb,Qc,Qd,Qe,Qg,Qh,Qi,Qj,Qk,reduceCtorEq,reduceIte,ga,qV,g',qU,g1,lT,g2,tM,q1,q2,wi,hw,hvw,hvr,hb,hrn,iM,hne,g3,xP,g4,hk,hk1,hvm,e2,g5,e9,ht,hvs,hg1,hq1,hgm,hve,hkl,hgl,g19,OM,s1,s2,s3,s4,s5]
   ·clear hs hv2 ht2 s16 s17 htk hl2
    rw[am T_5]
    by_cases hw:(raw.length:Int)<60<;>
     simp only[go_sem,Q2,Q3,Q5,Qb,Qc,Qd,Qe,Qg,Qh,Qi,Qj,Qk,reduceCtorEq,reduceIte,ga,qV,g',qU,g1,lT,g2,tM,q1,q2,wi,hw,hvw,hvr,hb,hrn,iM,hne,g3,xP,g4,hk,hk1,hvm,e2,g5,e9,ht,hvs,hg1,hq0,hq1,ht1,r16,r17]
  ·clear hs hv2 ht2 s16 s17 htk hl2
   rw[am T_5]
   by_cases hw:(raw.length:Int)<60<;>
    simp only[go_sem,Q2,Q3,Q5,Qb,Qc,Qd,Qe,Qg,Qh,Qi,Qj,Qk,reduceCtorEq,reduceIte,ga,qV,g',qU,g1,lT,g2,tM,q1,q2,wi,hw,hvw,hvr,hb,hrn,iM,hne,g3,xP,g4,hk,hk1,hvm,e2,g5,e9,ht,hvs,hg1,hq0,ht1,r16,r17]
theorem f5(codes chain ma:List UInt8)(ac:Int)(h0: -9223372036854775808<=ac)(h1:ac<=9223372036854775807)(raw:List (Int×Int))(at' how n:Int)
 (a0: -9223372036854775808<=at') (a1:at'<=9223372036854775807) (b0: -9223372036854775808<=how) (b1:how<=9223372036854775807) (n0: -9223372036854775808<=n) (n1:n<=9223372036854775807):
 call T 5 [.byt codes .no,.byt chain .no,.byt ma .no,.int .i64 ac,.lst 2 (rsv raw) .no,.int .i64 at',.int .i64 how,.int .i64 n] [] 0=some ⟨.bool true,[],[]⟩:=by
 obtain⟨a,l,ms,nl,hl,nm,hm,g⟩:=xfK codes chain ma ac h0 h1;have hlen:(exV l ms).rs.length=(exV l ms).at':=lm ms l w0 0 [] rfl;have hle:(exV l ms).at'<=0+l.length:=ut ms l w0 0 [];have g1:=f12 a 0 l hl ms hm;have hR:(exV l ms).rs.length<=l.length:=by omega
 have f19':=fun(k i:Nat)(hk:k<l.length)(hi:i<ms.length)=>f19 (ms.getD i mn0) (hm.2 _ (bN ms mn0 i hi)) (l.getD k ev0) (hl.2 _ (bN l ev0 k hk))
 obtain⟨d1,d2⟩:=mu how 4 (by decide);have hc:fG how 4=0\/fG how 4=1\/fG how 4=2\/fG how 4=3:=by omega
 rcases hc with h|h|h|h
 ·exact xm5 codes chain ma ac raw at' how n a0 a1 b0 b1 n0 n1 h a l ms nl nm _ _ _ (ckV l ms) eG hR f10 g g1 (mG l ms) (f16 a 0 l hl ms hm) (f17 a 0 l hl ms hm) f19'
 ·exact xm4 codes chain ma ac raw at' how n a0 a1 b0 b1 n0 n1 h a l ms nl nm _ _ _ (ckV l ms) eG hR f10 g g1 (mG l ms) (f16 a 0 l hl ms hm) (f17 a 0 l hl ms hm) f19'
 ·exact xm3 codes chain ma ac raw at' how n a0 a1 b0 b1 n0 n1 h a l ms nl nm _ _ _ (ckV l ms) eG hR f10 g g1 (mG l ms) (f16 a 0 l hl ms hm) (f17 a 0 l hl ms hm) f19'
 ·exact xm2 codes chain ma ac raw at' how n a0 a1 b0 b1 n0 n1 h a l ms nl nm _ _ _ (ckV l ms) eG hR f10 g g1 (mG l ms) (f16 a 0 l hl ms hm) (f17 a 0 l hl ms hm) f19'
theorem vT(m:Man):(oF m).length<=32:=by
 unfold oF;split
 ·simp
 ·unfold uq;rw[fN];omega
def BdL(L:List (List UInt8)):Prop:=∀x∈L,x.length<=1000
theorem R5(L:List (List UInt8))(d:List UInt8)(h:BdL L)(hd:d.length<=1000):BdL (li L d):=by
 unfold li;split
 ·exact h
 ·intro x hx
  rcases an.1 hx with h1|h1
  ·exact h x (bV h1)
  ·rcases av.1 h1 with rfl|h1
   ·exact hd
   ·exact h x (dx h1)
theorem Ow(ms:List Man)(L:List (List UInt8))(p:Int×Int)(h:BdL L):BdL (grS ms L p):=by
 unfold grS;split
 ·exact h
 ·exact R5 _ _ h (by have:=vT (ms.getD p.1.toNat mn0);omega)
theorem l20(L:List (List UInt8))(hb:BdL L)(hn:L.length<=1000000000):∀(n i:Nat),L.length-i=n->i<=L.length->
 run T (.loop Px) ⟨[(0,.lst 1 (bls L) .no),(1,.lst 1 (bls L) .no),(5,.int .i64 i)],[],[]⟩=some (.x 0,⟨[],[],[]⟩):=by
 intro n;induction n with
 |zero=>
  intro i h0 h1;have hv:=fj L;have hi:i=L.length:=by omega
  subst hi;rw[ak];simp only[go_sem,Qh,Qj,Qk,reduceCtorEq,reduceIte,hv]
 |succ n ih=>
  intro i h0 h1;have hi:i<L.length:=by omega
  have hv:=fj L;have hg:=jx L i hi;have e1:=bW i (by omega);have g:=f25 (L.getD i []) (L.getD i []) (by have:=hb _ (bN L [] i hi);omega);rw[decide_eq_true rfl]at g;have ih':=ih (i+1) (by omega) (by omega);rw[ak];simp only[go_sem,Qb,Qc,Qd,Qh,Qj,Qk,reduceCtorEq,reduceIte,hi,hv,hg,g,jy,e1,ih']
theorem f20(L:List (List UInt8))(hb:BdL L)(hn:L.length<=1000000000):call T 20 [.lst 1 (bls L) .no,.lst 1 (bls L) .no] [] 0=some ⟨.bool true,[],[]⟩:=by have h:=l20 L hb hn _ 0 rfl (bP _);rw[aC]at h;have hv:=fj L;rw[am xoL];simp only[go_sem,Qe,Qh,Qi,Qj,Qk,reduceCtorEq,reduceIte,hv,h]
theorem vz(a b:List UInt8):cx a b=decide (Lib.compareBytes a b<0):=by
 have:=kN a b
 by_cases h:Lib.compareBytes a b<0
 ·rw[decide_eq_true h];exact this.1 h
 ·rw[decide_eq_false h]
  cases hb:cx a b with
  |false=>rfl
  |true=>exact absurd (this.2 hb) h
theorem xmJ(ms:List Man)(rs:List (Int×Int))(o:Int)(L:List (List UInt8))(d:List UInt8)(hs:we L)(hb:BdL L)(hn:L.length<=1000000000):∀(m k:Nat),lbB L d-k=m->k<=lbB L d->
 run T (.loop Pu) ⟨[(0,.lst 7 (dU ms) .no),(1,.lst 2 (rsv rs) .no),(5,.lst 1 (bls L) (.id 105)),(6,.int .i64 o),(7,.byt d .no),(8,.int .i64 k)],[],[105]⟩=
  some (.x 2,⟨[(0,.lst 7 (dU ms) .no),(1,.lst 2 (rsv rs) .no),(5,.lst 1 (bls L) (.id 105)),(6,.int .i64 o),(7,.byt d .no),(8,.int .i64 (lbB L d))],[],[105]⟩):=by
 intro m;have hv:=fj L;have hle:=l8 L d;induction m with
 |zero=>
  intro k h0 h1;have hk:lbB L d=k:=by omega
  by_cases hq:k<L.length
  ·have hg:=jx L k hq
   have g:=f63 (L.getD k []) d (by have:=hb _ (bN L [] k hq);omega);have hc:=(mR L d hs k hq);rw[vz,decide_eq_false (fun h=>by have:=hc.1 h;omega)]at g;rw[hk,ak];simp only[go_sem,Qh,Qj,Qk,reduceCtorEq,reduceIte,hv,hq,hg,g,xfU]
  ·rw[hk,ak]
   simp only[go_sem,Qh,Qj,Qk,reduceCtorEq,reduceIte,hv,hq]
 |succ m ih=>
  intro k h0 h1;have hq:k<L.length:=by omega
  have hg:=jx L k hq;have g:=f63 (L.getD k []) d (by have:=hb _ (bN L [] k hq);omega);have hc:=(mR L d hs k hq);rw[vz,decide_eq_true (hc.2 (by omega))]at g;have e1:=bW k (by omega);have ih':=ih (k+1) (by omega) (by omega);rw[ak];simp only[go_sem,Qh,Qj,Qk,reduceCtorEq,reduceIte,hv,hq,hg,g,xfU,e1,ih']
theorem l22(ms:List Man)(hm:jz ms)(rs:List (Int×Int))(hr:rs.length<=1000000):∀(n i:Nat)(L:List (List UInt8)),rs.length-i=n->i<=rs.length->we L->BdL L->L.length<=i->
 run T (.loop yu) ⟨[(0,.lst 7 (dU ms) .no),(1,.lst 2 (rsv rs) .no),(5,.lst 1 (bls L) (.id 105)),(6,.int .i64 i)],[],[105]⟩=
  some (.x 0,⟨[(5,.lst 1 (bls ((rs.drop i).foldl (grS ms) L)) (.id 105))],[],[105]⟩):=by
 intro n;induction n with
 |zero=>
  intro i L h0 h1 hs hb hL;have hv:=cD rs;have hi:i=rs.length:=by omega
  subst hi;rw[aM,oI,ak];simp only[go_sem,Qh,Qj,Qk,reduceCtorEq,reduceIte,hv]
 |succ n ih=>
  intro i L h0 h1 hs hb hL;have hi:i<rs.length:=by omega
  have e1:=bW i (by omega);have hv:=cD rs;have hg:=gB rs i hi;have hvm:=dV ms;have hvl:=fj L;have hn:=xmJ ms rs i L;rw[gW rs (0,0) i hi,cZ];have ih':=ih (i+1) (grS ms L (rs.getD i (0,0))) (by omega) (by omega) (CI _ _ _ hs) (Ow _ _ _ hb) (by have:=s8 ms L (rs.getD i (0,0));omega);generalize (rs.drop (i+1)).foldl (grS ms) (grS ms L (rs.getD i (0,0)))=Z at*;generalize rs.getD i (0,0)=p at*;obtain⟨p1,p2⟩:=p;simp only at hg
  by_cases hp0:p1<0
  ·unfold grS at ih'
   rw[if_pos (.inl hp0)]at ih';rw[ak];simp only[go_sem,Qe,Qh,Qi,Qj,Qk,reduceCtorEq,reduceIte,hi,hv,hg,hp0,e1,ih']
  ·by_cases hp1:(ms.length:Int)<=p1
   ·unfold grS at ih'
    rw[if_pos (.inr hp1)]at ih';rw[ak];simp only[go_sem,Qe,Qh,Qi,Qj,Qk,reduceCtorEq,reduceIte,hi,hv,hg,hp0,hvm,hp1,e1,ih']
   ·unfold grS at ih'
    rw[if_neg (by omega)]at ih';obtain⟨k,rfl⟩:∃k:Nat,p1=k:=⟨p1.toNat,by omega⟩;have hk:k<ms.length:=by omega
    have hk':¬ms.length<=k:=by omega
    have hgm:=ij ms k hk;have gd:=f26 (ms.getD k mn0) (hm.2 _ (bN ms mn0 k hk));have hdl:=vT (ms.getD k mn0);rw[fq]at ih';generalize oF (ms.getD k mn0)=d at*;have gl:=hn d hs hb (by omega) _ 0 rfl (bP _);rw[aC]at gl;generalize ms.getD k mn0=mm at*;obtain⟨mv,m1,m2,m3,m4,es,rl⟩:=mm;simp only[Man.sv]at hgm gd;have hle:=l8 L d
    by_cases hq:lbB L d<L.length
    ·have hgq:=jx L _ hq
     have g25:=f25 (L.getD (lbB L d) []) d (by have:=hb _ (bN L [] _ hq);omega)
     by_cases hd:L.getD (lbB L d) []=d
     ·have hi0:li L d=L:=by
       unfold li s6;rw[if_pos (decide_eq_true ⟨hq,hd⟩)]
      rw[hi0]at ih';rw[decide_eq_true hd]at g25;generalize lbB L d=q at*;rw[ak];simp only[go_sem,Qe,Qh,Qi,Qj,Qk,reduceCtorEq,reduceIte,hi,hv,hg,hp0,hvm,hk,hk',hgm,gd,xf2,gl,hvl,hq,hgq,g25,jy,e1,ih']
     ·have hi0:li L d=L.take (lbB L d)++d::L.drop (lbB L d):=by
       unfold li s6;rw[if_neg (by simpa using fun _=>hd)]
      rw[hi0,<-th,lh]at ih';rw[decide_eq_false hd]at g25;have tf:cm L.length (bls L)=bls L:=by rw[<-hvl,bo]
      have vA:(cm (lbB L d) (bls L)).length=lbB L d:=by rw[ax,hvl];omega
      have vD:(eO (lbB L d) (bls L)).length=L.length-lbB L d:=by rw[aE,hvl]
      have b1:lbB L d*24<=140737488355328:=by omega
      have b3:(lbB L d+1)*24<=140737488355328:=by omega
      have b2:(lbB L d+(1+(L.length-lbB L d)))*24<=140737488355328:=by omega
      have b4:(lbB L d+1+(L.length-lbB L d))*24<=140737488355328:=by omega
      generalize lbB L d=q at*;rw[ak];simp only[go_sem,Q2,Q3,Qb,Qc,Qd,Qe,Qh,Qi,Qj,Qk,reduceCtorEq,reduceIte,hi,hv,hg,hp0,hvm,hk,hk',hgm,gd,xf2,gl,hvl,hq,hle,hgq,g25,jy,tf,vA,vD,b1,b3,b4,e1,ih']
    ·have hi0:li L d=L.take (lbB L d)++d::L.drop (lbB L d):=by
      unfold li s6;rw[if_neg (by simpa using fun h=>absurd h hq)]
     rw[hi0,<-th,lh]at ih';have tf:cm L.length (bls L)=bls L:=by rw[<-hvl,bo]
     have vA:(cm (lbB L d) (bls L)).length=lbB L d:=by rw[ax,hvl];omega
     have vD:(eO (lbB L d) (bls L)).length=L.length-lbB L d:=by rw[aE,hvl]
     have b1:lbB L d*24<=140737488355328:=by omega
     have b3:(lbB L d+1)*24<=140737488355328:=by omega
     have b2:(lbB L d+(1+(L.length-lbB L d)))*24<=140737488355328:=by omega
     have b4:(lbB L d+1+(L.length-lbB L d))*24<=140737488355328:=by omega
     generalize lbB L d=q at*;rw[ak];simp only[go_sem,Q2,Q3,Qb,Qc,Qd,Qe,Qh,Qi,Qj,Qk,reduceCtorEq,reduceIte,hi,hv,hg,hp0,hvm,hk,hk',hgm,gd,xf2,gl,hvl,hq,hle,tf,vA,vD,b1,b3,b4,e1,ih']
theorem f22(ms:List Man)(hm:jz ms)(rs:List (Int×Int))(hr:rs.length<=1000000):call T 22 [.lst 7 (dU ms) .no,.lst 2 (rsv rs) .no] [] 0=some ⟨.lst 1 (bls (grV ms rs)) .no,[],[]⟩:=by have h:=l22 ms hm rs hr _ 0 [] rfl (bP _) List.Pairwise.nil (fun x hx=>by cases hx) (aN _);rw[aC,aV]at h;unfold grV;have h0:bls []=[]:=rfl;rw[h0]at h;rw[am xoJ];simp only[go_sem,Qe,Qh,Qi,Qj,Qk,reduceCtorEq,reduceIte,h]
theorem xaC(ms:List Man):∀(rs:List (Int×Int))(L:List (List UInt8)),BdL L->BdL (rs.foldl (grS ms) L)
 |[],_,h=>h
 |p::r,L,h=>by rw[cZ];exact xaC ms r _ (Ow ms L p h)
theorem Ov(ms:List Man):∀(rs:List (Int×Int))(L:List (List UInt8)),(rs.foldl (grS ms) L).length<=L.length+rs.length
 |[],_=>aN _
 |p::r,L=>by rw[cZ,au];have h1:=Ov ms r (grS ms L p);have h2:=s8 ms L p;omega
theorem yP(ms:List Man)(rs:List (Int×Int)):BdL (grV ms rs):=xaC ms rs [] (fun x hx=>by cases hx)
theorem s7(ms:List Man)(rs:List (Int×Int)):(grV ms rs).length<=rs.length:=by have:=Ov ms rs [];rw[aQ,bF]at this;exact this
theorem FS(l:List (Int×Int))(k:Nat):(rsv l).take k=rsv (l.take k):=by rw[rsv,rsv,lx]
theorem f6c(codes chain ma:List UInt8)(ac:Int)(raw:List (Int×Int))(a:Int)(X:List (List SV))(ms:List Man)(hm:jz ms)(R:List (Int×Int))(hR:R.length<=1000)(AT E:Int)
 (ga:call T 10 [] [] 0=some ⟨.bool true,[],[]⟩)
 (g:call T 11 [.byt codes .no,.byt chain .no,.byt ma .no,.int .i64 ac] [] 0=some ⟨.tup [.agg [.int .i64 a,.int .i64 0,.lst 4 X .no],.lst 7 (dU ms) .no],[],[]⟩)
 (g1:call T 12 [.agg [.int .i64 a,.int .i64 0,.lst 4 X .no],.lst 7 (dU ms) .no] [] 0=some ⟨.tup [.lst 2 (rsv R) .no,.int .i64 AT,.int .i64 E],[],[]⟩):
 call T 6 [.byt codes .no,.byt chain .no,.byt ma .no,.int .i64 ac,.lst 2 (rsv raw) .no] [] 0=some ⟨.bool true,[],[]⟩:=by
 have p1:=f21 ms hm R (by omega);have p2:=f22 ms hm R (by omega);have p3:=f20 (grV ms R) (yP ms R) (by have:=s7 ms R;omega);have hv:=cD raw
 by_cases hq:(60:Int)<raw.length
 ·have q1:=f21 ms hm (raw.take 60) (by rw[ax];omega)
  have q2:=f22 ms hm (raw.take 60) (by rw[ax];omega);have q3:=f20 (grV ms (raw.take 60)) (yP ms _) (by have:=s7 ms (raw.take 60);rw[ax]at this;omega);have h1:(60:Int)<=raw.length:=by omega
  have h2:=FS raw 60;rw[am T_6];simp only[go_sem,Q2,Q3,Qe,Qh,Qi,Qj,Qk,reduceCtorEq,reduceIte,ga,qV,hv,hq,h1,h2,g,qU,g1,lT,p1,xf4,p2,xlS,p3,xlT,q1,q2,q3]
 ·have q1:=f21 ms hm raw (by omega)
  have q2:=f22 ms hm raw (by omega);have q3:=f20 (grV ms raw) (yP ms _) (by have:=s7 ms raw;omega);rw[am T_6];simp only[go_sem,Q2,Q3,Qe,Qh,Qi,Qj,Qk,reduceCtorEq,reduceIte,ga,qV,hv,hq,g,qU,g1,lT,p1,xf4,p2,xlS,p3,xlT,q1,q2,q3]
theorem f6(codes chain ma:List UInt8)(ac:Int)(h0: -9223372036854775808<=ac)(h1:ac<=9223372036854775807)(raw:List (Int×Int)):
 call T 6 [.byt codes .no,.byt chain .no,.byt ma .no,.int .i64 ac,.lst 2 (rsv raw) .no] [] 0=some ⟨.bool true,[],[]⟩:=by
 obtain⟨a,l,ms,nl,hl,nm,hm,g⟩:=xfK codes chain ma ac h0 h1;have g1:=f12 a 0 l hl ms hm;have hlen:(exV l ms).rs.length=(exV l ms).at':=lm ms l w0 0 [] rfl;have hle:(exV l ms).at'<=0+l.length:=ut ms l w0 0 [];exact f6c codes chain ma ac raw a (bA l) ms hm (exV l ms).rs (by omega) _ _ f10 g g1


section
section
open Go.ChangeShapes Go.WideShapes
variable {H : Type} {enc : TypeId × Value -> H} {P : Program} {w : World} {base : Nat} {sp : Nat -> Bool} {hd : Bool} {r : Reach} {b0 : Nat} {t e : TypeId} {v : Value} {d : DataW H} {ps : List MemPlace}
theorem Ed{f0 f1:Field}(ht:P.underlying t=some (.slice e))(he:P.underlying e=some (.struct #[f0,f1]))(ce:P.cellsOf e=2)(o0:f0.offset=0)(o1:f1.offset=1)(c0:P.cellsOf f0.type=1)(c1:P.cellsOf f1.type=1)
 (t0:P.underlying f0.type=some (.int .i64)) (t1:P.underlying f1.type=some (.int .i64)) (hval:Value.okWide P w r b0 t v) (h:DataW.Trod enc P w base sp hd t v d ps):
 ∃l:List (Int×Int),Rep (Hb w) (.lst 2 (rsv l) .no) v:=by
 obtain⟨a0,len,cap,rfl⟩:=okWide_slice ht hval;obtain⟨fuel,hf⟩:=h;rcases Go.Deep.open_slice_pairs ht he ce o0 o1 c0 c1 hf with⟨hcs,_⟩|⟨a,len',cap',m,n,V0,V1,D0,D1,P0,P1,hcs,_,hl,hm,hmm,_,hx⟩
 ·simp[Value.cells]at hcs
  obtain⟨rfl,rfl,rfl⟩:=hcs;exact⟨[],.dat _ _ (.lstN 2 .no) trivial⟩
 ·simp[Value.cells]at hcs
  obtain⟨rfl,rfl,rfl⟩:=hcs;have hs:=oT ht hval;obtain⟨b,off,spot⟩:=a;simp only at hs;subst hs;have hlm:len<=m:=by rw[hmm];split<;>omega
  have key:∀i,i<len->∃p:Int×Int,V0 i= .int .i64 p.1/\V1 i= .int .i64 p.2:=fun i hi=>by obtain⟨_,_,g0,g1⟩:=hx i (by omega);obtain⟨x,e0,_,_⟩:=DataW.trod_int t0 g0;obtain⟨y,e1,_,_⟩:=DataW.trod_int t1 g1;exact⟨(x,y),by simpa using e0,by simpa using e1⟩
  obtain⟨q,hq⟩:=Go.Deep.choose_lt key
  have hrow:∀i,i<len->(rsv ((bX len).map q)).getD i []=[.int .i64 (q i).1,.int .i64 (q i).2]:=fun i hi=>by simp[rsv,aa,hi]
  refine⟨(bX len).map q,.dat _ _ (.lst 2 _ .no b off cap len (fun i j=>if j=0 then V0 i else V1 i) (by simp[rsv]) hl (fun i hi=>by rw[hrow i hi];rfl) (fun i j hi hj=> ?_) (fun i j hi hj=> ?_)) trivial⟩
  ·obtain⟨h0,h1,_,_⟩:=hx i (by omega)
   rw[add_plain]at h0 h1;show w.cell? _=_
   match j,hj with
   |0,_=>exact h0
   |1,_=>exact h1
  ·rw[hrow i hi]
   obtain⟨h0,h1⟩:=hq i hi
   match j,hj with
   |0,_=>show cM _ (.int .i64 (q i).1) (V0 i);rw[h0];exact .int _ _
   |1,_=>show cM _ (.int .i64 (q i).2) (V1 i);rw[h1];exact .int _ _
end
end
end Go.Proofs.YtdafipacemgcoaaGreatDoor
