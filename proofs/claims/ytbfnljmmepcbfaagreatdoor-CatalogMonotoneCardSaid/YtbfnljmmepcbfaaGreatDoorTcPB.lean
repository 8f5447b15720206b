/- Contracts. No condition. -/
import Derived.Test.YtbfnljmmepcbfaaGreatDoorTbPB
open Int renaming fdiv_eq_ediv_of_nonneg -> jc, natCast_zero -> ay, tmod_eq_emod_of_nonneg -> fx
open Go.IntKind renaming i64 -> af, u32 -> dq, u64 -> aQ, wrap_u64 -> bO
open List renaming append_assoc -> az, append_nil -> bx, cons_append -> bi, drop -> iD, drop_eq_getElem_cons -> bt, drop_eq_nil_of_le -> bN, drop_length -> bw, drop_take -> fY, drop_zero -> aW, flatMap_cons -> eo, flatMap_nil -> fV, foldl_cons -> cR, foldl_nil -> fo, getD_eq_getElem?_getD -> aa, getElem?_eq_getElem -> ac, getElem?_eq_none -> ia, getElem?_map -> aT, getElem?_range -> cz, getElem_mem -> bv, length_append -> ae, length_cons -> al, length_drop -> aG, length_map -> aY, length_nil -> aA, length_replicate -> dJ, length_singleton -> aF, length_take -> aq, map_append -> cf, map_cons -> aI, map_nil -> bJ, mem_append -> am, mem_cons -> av, nil_append -> aE, not_mem_nil -> cZ, range -> bM, replicate -> aL, singleton_append -> dI, take_of_length_le -> aV
open Nat renaming add_mul -> bE, add_zero -> ft, le_refl -> aJ, mod_eq_of_lt -> cH, mul_comm -> cM, mul_le_mul_right -> bh, sub_self -> sA, zero_add -> bT, zero_le -> aX, zero_mul -> ip
open Option renaming getD_some -> aM
open UInt8 renaming ofInt -> b8, ofNat -> io
set_option maxRecDepth 100000
set_option maxHeartbeats 16000000
set_option linter.unusedSimpArgs false
set_option linter.unusedVariables false
namespace Go.Proofs.YtbfnljmmepcbfaaGreatDoor
open Go.Sy
open UInt8 renaming reduceLT -> Q0, reduceLE -> Q1
open Int renaming reduceToNat -> Q2, reduceLE -> Q3, reduceLT -> Q4, reduceEq -> Q5, reduceNe -> Q6, reduceNeg -> Q7, reduceAdd -> Q8, reduceSub -> Q9, reduceMul -> Qa
open Nat renaming reducePow -> Qb, reduceDiv -> Qc, reduceMod -> Qd, reduceAdd -> Qe, reduceSub -> Qf, reduceMul -> Qg, reduceLT -> Qh, reduceLeDiff -> Qi, reduceEqDiff -> Qj, reduceBEq -> Qk
def frF(h:List d9):d9:=h.flatMap fun X=>w4 (X.length:Int)++X
def frL(t:Int)(h:List d9):d9:=b8 t::frF h
def hsh(t:Int)(h:List d9):d9:=sha (frL t h)
theorem Z3(t:Int)(X:d9):frL t [X]=frame t X:=by simp[frL,frF,frame]
theorem FW(t:Int)(X:d9):hsh t [X]=xF t X:=by rw[hsh,Z3];rfl
theorem i6(t:Int)(h:List d9):(hsh t h).length=32:=ir _
def h16(t:Int)(h:List d9):d9:=(hsh t h).take 16
theorem ek(t:Int)(h:List d9):(h16 t h).length=16:=by rw[h16,aq,i6];rfl
def nY(c:UInt8)(key:d9):d9:=(bM 64).map fun i=>key.getD i 0^^^c
def ZF(key b:d9):d9:=sha (nY 92 key++sha (nY 54 key++b))
def Uk(key h y:d9)(n:Nat):d9:=(ZF key (w4 1++(h++0::(y++w4 (8*(n:Int)))))).take n
theorem yS(key b:d9):(ZF key b).length=32:=ir _
theorem zI(key y C:d9)(n:Nat)(h:n<=32):(Uk key y C n).length=n:=by rw[Uk,aq,yS];omega
def hi4(b:UInt8):Nat:=b.toNat/16
def lo4(b:UInt8):Nat:=b.toNat % 16
def dg(l:d9):LAa:=l.flatMap fun b=> [hi4 b,lo4 b]
def sm(l:d9):Nat:=l.foldl (fun s b=>s+((15-hi4 b)+(15-lo4 b))) 0
def gX(h:d9):LAa:=dg (h16 4 [h])++ [sm (h16 4 [h])/256,sm (h16 4 [h])/16 % 16,sm (h16 4 [h]) % 16]
theorem CM(l:d9):(dg l).length=2*l.length:=by
 induction l with
 |nil=>rfl
 |cons b r h=>simp only[dg,eo,ae,al,aA]at*;omega
theorem xrP(l:d9):∀d∈dg l,d<=15:=by intro d hd;simp only[dg,List.mem_flatMap]at hd;obtain⟨b,_,h⟩:=hd;have:=b.toNat_lt;simp only[av,cZ,or_false]at h;rcases h with rfl|rfl<;>simp only[hi4,lo4]<;>omega
theorem UL(l:d9)(s:Nat):l.foldl (fun s b=>s+((15-hi4 b)+(15-lo4 b))) s<=s+30*l.length:=by
 induction l generalizing s with
 |nil=>simp
 |cons b r h=>rw[cR,al];have:=h (s+((15-hi4 b)+(15-lo4 b)));omega
theorem nP(h:d9):(gX h).length=35:=by rw[gX,ae,CM,ek];rfl
theorem xax(y:d9):∀d∈gX y,d<=15:=by
 intro d hd;rcases am.1 hd with h|h
 ·exact xrP _ d h
 ·have C:=UL (h16 4 [y]) 0
  rw[ek]at C;have E:sm (h16 4 [y])<=480:=by unfold sm;omega
  simp only[av,cZ,or_false]at h;rcases h with rfl|rfl|rfl<;>omega
theorem nQ(h:d9)(c:Nat)(y:c<35):(gX h).getD c 0<=15:=by refine xax h _ ?_;rw[aa,ac (by rw[nP];exact y),aM];exact bv _
def ub(n:Nat):UInt8:=b8 (n:Int)
def Ai(h c p:Nat)(x:d9):d9:=h16 1 [[ub h,ub c,ub p],x]
def iq(h c:Nat):Nat->Nat->d9->d9
 |_,0,x=>x
 |p,n+1,x=>iq h c (p+1) n (Ai h c p x)
theorem yc(h c:Nat):∀(n m p:Nat)(x:d9),iq h c p (n+m) x=iq h c (p+n) m (iq h c p n x)
 |0,m,p,x=>by simp[iq]
 |n+1,m,p,x=>by rw[show n+1+m=(n+m)+1 from by omega];show iq h c (p+1) (n+m) _=_;rw[yc h c n m (p+1),show p+1+n=p+(n+1)from by omega];rfl
theorem fS(y c:Nat):∀(n p:Nat)(x:d9),x.length=16->(iq y c p n x).length=16
 |0,_,_,h=>h
 |n+1,p,x,_=>fS y c n (p+1) _ (ek _ _)
def xJ:d9:=[99,104,97,105,110]
def oO(h:d9)(y c:Nat):d9:=Uk h xJ [ub y,ub c] 16
theorem jd(h:d9)(y c:Nat):(oO h y c).length=16:=zI _ _ _ _ (by decide)
def cat(n:Nat)(f:Nat->d9):d9:=(bM n).flatMap f
theorem nR(n:Nat)(f:Nat->d9):cat (n+1) f=cat n f++f n:=by simp[cat,List.range_succ]
theorem mA(f:Nat->d9):∀n,(∀c,c<n->(f c).length=16)->(cat n f).length=16*n
 |0,_=>rfl
 |n+1,h=>by rw[nR,ae,mA f n (fun c y=>h c (by omega)),h n (by omega)];omega
theorem Gf(f:Nat->d9):∀n,(∀c,c<n->(f c).length=16)->∀c,c<n->((cat n f).drop (16*c)).take 16=f c
 |0,_,_,h=>absurd h (Nat.not_lt_zero _)
 |n+1,h,c,C=>by
  have y:=mA f n (fun c C=>h c (by omega));rw[nR]
  by_cases e:c<n
  ·rw[List.drop_append_of_le_length (by rw[y];omega),List.take_append_of_le_length (by rw[aG,y];omega)]
   exact Gf f n (fun c C=>h c (by omega)) c e
  ·have:c=n:=by omega
   subst this;rw[List.drop_append,y,sA,aW,bN (by rw[y];exact aJ _),aE];exact aV (by rw[h c (by omega)];exact aJ _)
theorem H5(f g:Nat->d9)(n:Nat)(h:∀c,c<n->f c=g c):cat n f=cat n g:=by
 induction n with
 |zero=>rfl
 |succ n y=>rw[nR,nR,y (fun c C=>h c (by omega)),h n (by omega)]
def tK(y:Nat)(h:d9):d9:=h16 2 [[ub y],h]
def pubL(y:d9)(h:Nat):d9:=tK h (cat 35 fun c=>iq h c 0 15 (oO y h c))
def tQ(y:d9)(h:Nat)(C:d9):d9:=cat 35 fun c=>iq h c 0 ((gX C).getD c 0) (oO y h c)
def mT(h:Nat)(y sig:d9):d9:=tK h (cat 35 fun c=>iq h c ((gX y).getD c 0) (15-(gX y).getD c 0) ((sig.drop (16*c)).take 16))
theorem eN(h:d9)(y:Nat):(pubL h y).length=16:=ek _ _
theorem nC(h:d9)(y:Nat)(C:d9):(tQ h y C).length=560:=mA _ 35 fun c _=>fS _ _ _ _ _ (jd _ _ _)
theorem Hj(E:d9)(y:Nat)(C:d9):mT y C (tQ E y C)=pubL E y:=by
 unfold mT pubL
 congr 1
 refine H5 _ _ 35 fun c F=> ?_
 have h:=nQ C c F;unfold tQ;rw[Gf _ 35 (fun c _=>fS _ _ _ _ _ (jd _ _ _)) c F];have:=yc y c ((gX C).getD c 0) (15-(gX C).getD c 0) 0 (oO E y c);rw[bT,show(gX C).getD c 0+(15-(gX C).getD c 0)=15 from by omega]at this;exact this.symm
def jw(h i:Nat)(a b:d9):d9:=h16 3 [[ub h,ub i],a,b]
def lh:Nat->Nat->List d9->d9->d9
 |_,_,[],x=>x
 |h,i,s::r,x=>lh (h+1) (i/2) r (if i % 2=1 then jw h (i/2) s x else jw h (i/2) x s)
theorem zO:∀(p:List d9)(h i:Nat)(x:d9),x.length=16->(lh h i p x).length=16
 |[],_,_,_,h=>h
 |s::r,h,i,x,_=>zO r (h+1) (i/2) _ (by split<;>exact ek _ _)
def xbg:d9:=[115,105,103,110,101,114]
def lsV(y:d9)(h:Nat):d9:=Uk y xbg [ub h] 32
theorem mu(y:d9)(h:Nat):(lsV y h).length=32:=zI _ _ _ _ (by decide)
def lvs(y:d9)(h n:Nat):List d9:=(bM n).map fun i=>pubL (lsV y h) i
def xwi:List d9->d9
 |[a,b]=>jw 0 0 a b
 |[a]=>a
 |_=> []
def js(y:d9)(h:Nat):d9:=ub h::xwi (lvs y h (2^h))
def Zg(i:Nat):List d9->d9
 |[a,b]=>if i=0 then b else a
 |_=> []
def mG(C:d9)(h y:Nat)(E:d9):d9:=ub y::(tQ (lsV C h) y E++Zg y (lvs C h (2^h)))
def rws:Nat->d9->List d9
 |0,_=> []
 |n+1,l=>l.take 16::rws n (l.drop 16)
def gM(pub h sig:d9):Bool:=
 if pub.length=17/\(pub.getD 0 0).toNat<=3 then
  if sig.length=561+16*(pub.getD 0 0).toNat/\(sig.getD 0 0).toNat<2^(pub.getD 0 0).toNat then
   decide (lh 0 (sig.getD 0 0).toNat (rws (pub.getD 0 0).toNat (sig.drop 561)) (mT (sig.getD 0 0).toNat h ((sig.drop 1).take 560))=pub.drop 1)
  else false
 else false
theorem DJ(y E:d9)(C:Nat)(h:C<2):gM (js y 1) E (mG y 1 C E)=true:=by
 have F:=nC (lsV y 1) C E;have I:lvs y 1 (2^1)=[pubL (lsV y 1) 0,pubL (lsV y 1) 1]:=rfl;have p0:=eN (lsV y 1) 0;have p1:=eN (lsV y 1) 1
 have O:(ub C).toNat=C:=by rcases (by omega:C=0\/C=1)with rfl|rfl<;>rfl
 have L:(Zg C (lvs y 1 (2^1))).length=16:=by rw[I,Zg];split<;>assumption
 have Z:(js y 1).getD 0 0=1:=rfl;have e2:(mG y 1 C E).getD 0 0=ub C:=rfl;have W:(js y 1).length=17:=by rw[js,al,I];show(jw 0 0 _ _).length+1=17;rw[jw,ek]
 have T:(mG y 1 C E).length=577:=by rw[mG,al,ae,F,L]
 have Q:((mG y 1 C E).drop 1).take 560=tQ (lsV y 1) C E:=by rw[mG,List.drop_succ_cons,aW,List.take_append_of_le_length (by rw[F];exact aJ _),aV (by rw[F];exact aJ _)]
 have e6:rws 1 ((mG y 1 C E).drop 561)=[Zg C (lvs y 1 (2^1))]:=by
  have:(mG y 1 C E).drop 561=Zg C (lvs y 1 (2^1)):=by rw[mG,List.drop_succ_cons,List.drop_append,F,bN (by rw[F];exact aJ _),aE,sA,aW]
  rw[this,rws,rws,aV (by rw[L];exact aJ _)]
 have e7:(1:UInt8).toNat=1:=rfl;unfold gM;rw[Z,e2,W,T,e7,O,Q,e6,Hj,if_pos ⟨rfl,by decide⟩,if_pos ⟨rfl,h⟩,I];rw[decide_eq_true_iff];have J:iD 1 (js y 1)=jw 0 0 (pubL (lsV y 1) 0) (pubL (lsV y 1) 1):=by rw[js,I];rfl
 rw[J];rcases (by omega:C=0\/C=1)with rfl|rfl
 ·rw[lh,lh];rfl
 ·rw[lh,lh];rfl
theorem xva(v:Int)(E:0<=v)(F:v<4294967296):call T 167 [.int .i64 v] [] 0=some ⟨.byt (w4 v) (.id 60),[],[60]⟩:=by have h:min 24 64=24:=rfl;have y:min 16 64=16:=rfl;have C:min 8 64=8:=rfl;rw[aj xsf];simp only[go_sem,Q2,Q3,Qh,Qi,Qj,Qk,reduceCtorEq,reduceIte,w4,iF,h,y,C]
def xr(c:UInt8)(L:d9)(i:Nat):d9:=(L.take i).map (· ^^^c)++L.drop i
theorem ly(c:UInt8)(K:d9):(nY c K).length=64:=by unfold nY;rw[aY,List.length_range]
def mk(c:UInt8)(K:d9)(i:Nat):d9:=(nY c K).take i++aL (64-i) 0
theorem FJ(c:UInt8)(K:d9):mk c K 0=aL 64 0:=by simp[mk]
theorem FK(c:UInt8)(K:d9):mk c K 64=nY c K:=by have:=ly c K;simp[mk,aV,this]
theorem T3(c:UInt8)(K:d9)(i:Nat)(h:i<=64):(mk c K i).length=64:=by rw[mk,ae,aq,ly,dJ];omega
theorem Kd(c:UInt8)(K:d9)(i:Nat)(h:i<64):(nY c K)[i]? =some (K.getD i 0^^^c):=by unfold nY;rw[aT,cz h];rfl
theorem T2(c:UInt8)(K:d9)(i:Nat)(h:i<64):(mk c K i).set i (K.getD i 0^^^c)=mk c K (i+1):=by
 have y:((nY c K).take i).length=i:=by rw[aq,ly];omega
 unfold mk;rw[List.set_append_right _ _ (by rw[y];exact aJ _),y,sA,show 64-i=(64-(i+1))+1 from by omega,List.replicate_succ,List.set_cons_zero,List.take_add_one,Kd c K i h,az];rfl
theorem xwW(K M:d9)(hK:K.length<=64):∀(n i:Nat),64-i=n->i<=64->
 run T (.loop vv) ⟨[(0,.byt K .no),(1,.byt M .no),(5,.psl 114 1 0 64 (some 64)),(6,.psl 115 1 0 64 (some 64)),(7,.int .i64 i)],[(114,.bar (mk 54 K i)),(115,.bar (mk 92 K i))],[]⟩=
 some (.x 0,⟨[(1,.byt M .no),(5,.psl 114 1 0 64 (some 64)),(6,.psl 115 1 0 64 (some 64))],[(114,.bar (mk 54 K 64)),(115,.bar (mk 92 K 64))],[]⟩):=by
 intro n;induction n with
 |zero=>
  intro i L E;have hi:i=64:=by omega
  subst hi;rw[ai];simp only[c64,go_sem,Q4,Qh,Qj,Qk,reduceCtorEq,reduceIte]
 |succ n O=>
  intro i L E;have h:=O (i+1) (by omega) (by omega);have J:=cg i (by omega);have C:(i:Int)<64:=by omega
  have hn:i<64:=by omega
  have I:=T3 54 K i E;have F:=T3 92 K i E;rw[<-T2 54 K i hn,<-T2 92 K i hn]at h;rw[ai]
  by_cases Q:i<K.length
  ·have y:(i:Int)<(K.length:Int):=by omega
   simp only[go_sem,Qh,Qj,Qk,reduceCtorEq,reduceIte,C,J,hn,y,I,F,h]
  ·have y:¬(i:Int)<(K.length:Int):=by omega
   have hz:K.getD i 0=0:=by rw[aa,ia (by omega)];rfl
   rw[hz]at h;simp only[go_sem,Qh,Qj,Qk,reduceCtorEq,reduceIte,C,J,hn,y,I,F,h]
theorem xxH(K B:d9)(h:K.length<=64)(Q:B.length<=1000000000):call T 168 [.byt K .no,.byt B .no] [] 0=some ⟨.byt (ZF K B) .no,[],[]⟩:=by
 have g:=xwW K B h 64 0 rfl (by omega);rw[FJ,FJ,FK,FK]at g;simp only[ay]at g;have C:=ly 54 K;have E:=ly 92 K;have L:=f68 (nY 54 K++B) (by rw[ae];omega);have F:(sha (nY 54 K++B)).length=32:=ir _;have O:=f68 (nY 92 K++sha (nY 54 K++B)) (by rw[ae];omega);have y:¬(64:Int)<K.length:=by omega
 have c1:64+B.length<=140737488355328:=by omega
 have I:(nY 54 K).take 64=nY 54 K:=aV (by rw[C];exact aJ _);have J:(nY 92 K).take 64=nY 92 K:=aV (by rw[E];exact aJ _);rw[aj xse];simp only[go_sem,Q2,Q3,Qb,Qc,Qd,Qe,Qh,Qi,Qj,Qk,reduceCtorEq,reduceIte,y,g,C,I,c1];simp only[go_sem,Qe,Qh,Qi,Qj,Qk,reduceIte,F,L,O,Gu,ZF,E,J]
theorem xvf(K h y:d9)(n:Nat)(h1:1<=n)(I:n<=32)(hK:K.length<=64)(hl:h.length<=1000)(hc:y.length<=1000):
 call T 148 [.byt K .no,.str h,.byt y .no,.int .i64 n] [] 0=some ⟨.byt (Uk K h y n) .no,[],[]⟩:=by
 have a1:¬(n:Int)<1:=by omega
 have O:¬(1024:Int)<n:=by omega
 have a3:0<n:=by omega
 have a4:¬32<n:=by omega
 have F:af.wrap (8*(n:Int))=8*(n:Int):=w64 (by omega) (by omega);have k2:af.wrap 2=2:=rfl;have J:=xva (8*(n:Int)) (by omega) (by omega);have Z:=xva 1 (by omega) (by omega);have g3:=xxH K (w4 1++(h++0::(y++w4 (8*(n:Int))))) hK (by simp[w4];omega);have E:=yS K (w4 1++(h++0::(y++w4 (8*(n:Int)))));have C:∀x,(w4 x).length=4:=fun _=>rfl
 have c1:h.length<=140737488355327:=by omega
 have c2:h.length+1+y.length<=140737488355328:=by omega
 have c3:h.length+(y.length+1)+4<=140737488355328:=by omega
 have W:4+h.length<=140737488355328:=by omega
 have b2:4+h.length<=140737488355327:=by omega
 have Q:4+(h.length+1)+y.length<=140737488355328:=by omega
 have L:4+(h.length+(y.length+1))<=140737488355324:=by omega
 rw[aj xss];simp only[go_sem,Qe,Qh,Qi,Qj,Qk,reduceCtorEq,reduceIte,a1,O];rw[ai];simp only[go_sem,Q8,Qe,Qg,Qh,Qi,Qj,Qk,reduceCtorEq,reduceIte,a3,F,J,Z,xta,xs9,g3,C,W,b2,Q,L,k2];unfold Uk;generalize ZF K (w4 1++(h++0::(y++w4 (8*(n:Int)))))=X at*;have c6:X.length<=140737488355328:=by omega
 simp only[E];rw[ai];simp only[go_sem,Q2,Q3,Qh,Qi,Qj,Qk,reduceCtorEq,reduceIte,E,a4,I]
def bys(h:List d9):d8:=h.map fun X=> [.byt X .no]
theorem gP(h:List d9):(bys h).length=h.length:=by simp[bys]
theorem rg(y:List d9)(i:Nat)(h:i<y.length):(bys y).getD i []=[.byt (y.getD i []) .no]:=by simp[bys,aa,h]
theorem zh(y:List d9)(i:Nat)(h:i<y.length):frF (y.drop i)=w4 ((y.getD i []).length:Int)++(y.getD i []++frF (y.drop (i+1))):=by
 have:y.drop i=y.getD i []::y.drop (i+1):=by rw[bt h,aa,ac h,aM]
 rw[this];simp[frF]
theorem xxf(y:List d9)(hl:y.length<=100)(L:∀i,i<y.length->(y.getD i []).length<=1000000000):∀(n i:Nat)(h:d9),y.length-i=n->i<=y.length->h.length+(frF (y.drop i)).length<=1000000000000->
 run T (.loop CE) ⟨[(5,.byt h (.id 105)),(12,.lst 1 (bys y) .no),(13,.int .i64 y.length),(14,.int .i64 i)],[],[105]⟩=
 some (.x 0,⟨[(5,.byt (h++frF (y.drop i)) (.id 105))],[],[105]⟩):=by
 intro n;induction n with
 |zero=>
  intro i h O W I;have hi:i=y.length:=by omega
  subst hi;rw[ai];simp only[go_sem,Qh,Qj,Qk,reduceIte,bw,frF,fV,bx]
 |succ n Z=>
  intro i h O W I;have hi:i<y.length:=by omega
  have F:(i:Int)<(y.length:Int):=by omega
  have Q:=cg i (by omega);have hX:=L i hi;have C:=Z (i+1) (h++(w4 ((y.getD i []).length:Int)++y.getD i []));rw[zh y i hi]at I ⊢;have hg:=rg y i hi;have J:=gP y;generalize hc:y.getD i []=X at*;simp only[ae,w4,al,aA]at I C;have E:=C (by omega) (by omega) (by omega);have c1:h.length+4<=140737488355328:=by omega
  have c2:h.length+4+X.length<=140737488355328:=by omega
  have c3:h.length+(4+X.length)<=140737488355328:=by omega
  have e2:dq.wrap (X.length:Int)=X.length:=by rw[IntKind.wrap_u32];omega
  simp only[az,bi,aE,iF]at E;rw[ai];simp only[go_sem,Q2,Q3,Qe,Qh,Qi,Qj,Qk,reduceCtorEq,reduceIte,F,hg,J,Q,e2,c1,c2,m24,m16,m8,w4,iF,az,E]
theorem xrw(t:Int)(h:List d9)(E:h.length<=100)(C:∀i,i<h.length->(h.getD i []).length<=1000000000)(F:(frF h).length<=100000000000):
 call T 104 [.int .i64 t,.lst 1 (bys h) .no] [] 0=some ⟨.byt (frL t h) .no,[],[]⟩:=by
 have g:=xxf h E C _ 0 [b8 t] rfl (aX _) (by rw[aW,aF];omega);have y:=gP h;simp only[ay,aW,dI]at g;rw[aj xio];simp only[go_sem,Qe,Qh,Qi,Qj,Qk,reduceCtorEq,reduceIte,y,g,frL]
theorem xxc(y:List d9)(hl:y.length<=100)(W:∀i,i<y.length->(y.getD i []).length<=1000000000):∀(n i:Nat)(h:d9),y.length-i=n->i<=y.length->h.length+(frF (y.drop i)).length<=1000000000000->
 run T (.loop Cy) ⟨[(1,.lst 1 (bys y) .no),(5,.byt h (.id 105)),(6,.int .i64 i)],[],[105]⟩=
 some (.x 0,⟨[(5,.byt (h++frF (y.drop i)) (.id 105))],[],[105]⟩):=by
 intro n;induction n with
 |zero=>
  intro i h Z h1 Q;have hi:i=y.length:=by omega
  have C:=gP y;subst hi;rw[ai];simp only[go_sem,Qh,Qj,Qk,reduceIte,C,bw,frF,fV,bx]
 |succ n ih=>
  intro i h Z h1 Q;have hi:i<y.length:=by omega
  have L:(i:Int)<(y.length:Int):=by omega
  have e1:=cg i (by omega);have hX:=W i hi;have E:=ih (i+1) (h++(w4 ((y.getD i []).length:Int)++y.getD i []));rw[zh y i hi]at Q ⊢;have hg:=rg y i hi;have C:=gP y;generalize hc:y.getD i []=X at*;simp only[ae,w4,al,aA]at Q E;have F:=E (by omega) (by omega) (by omega);have c1:h.length+4<=140737488355328:=by omega
  have c2:h.length+4+X.length<=140737488355328:=by omega
  have c3:h.length+(4+X.length)<=140737488355328:=by omega
  have I:min 24 64=24:=rfl;have J:min 16 64=16:=rfl;have O:min 8 64=8:=rfl;simp only[az,bi,aE,iF]at F;rw[ai];simp only[go_sem,Q2,Q3,Qe,Qh,Qi,Qj,Qk,reduceCtorEq,reduceIte,L,hg,C,e1,c1,c2,I,J,O,w4,iF,az,F]
theorem xrv(t:Int)(h:List d9)(C:h.length<=100)(y:∀i,i<h.length->(h.getD i []).length<=1000000000)(E:(frF h).length<=100000000000):
 call T 109 [.int .i64 t,.lst 1 (bys h) .no] [] 0=some ⟨.byt (frL t h) .no,[],[]⟩:=by
 have g:=xxc h C y _ 0 [b8 t] rfl (aX _) (by rw[aW,aF];omega);simp only[ay,aW,dI]at g;rw[aj xin];simp only[go_sem,Qe,Qh,Qi,Qj,Qk,reduceCtorEq,reduceIte,g,frL]
theorem xhX(t:Int)(h:List d9)(C:h.length<=100)(y:∀i,i<h.length->(h.getD i []).length<=1000000000)(I:(frF h).length<=10000000000):
 call T 60 [.int .i64 t,.lst 1 (bys h) .no] [] 0=some ⟨.byt (hsh t h) .no,[],[]⟩:=by
 have F:=xrw t h C y (by omega);have E:=xvj (frL t h) (by unfold frL;rw[al];omega);rw[aj xvw];simp only[go_sem,Qe,Qh,Qi,Qj,Qk,reduceCtorEq,reduceIte,F,E,xi4,xi5,hsh]
theorem xhW(t:Int)(h:List d9)(C:h.length<=100)(y:∀i,i<h.length->(h.getD i []).length<=1000000000)(I:(frF h).length<=10000000000):
 call T 65 [.int .i64 t,.lst 1 (bys h) .no] [] 0=some ⟨.byt (hsh t h) .no,[],[]⟩:=by
 have F:=xrv t h C y (by omega);have E:=f68 (frL t h) (by unfold frL;rw[al];omega);rw[aj xvv];simp only[go_sem,Qe,Qh,Qi,Qj,Qk,reduceCtorEq,reduceIte,F,E,xi3,Gu,hsh]
theorem xvp(A B:d9)(y:A.length<=1000000000)(h:B.length<=1000000000):∀i,i< [A,B].length->([A,B].getD i []).length<=1000000000:=fun i hi=>by
 match i,hi with
 |0,_=>exact y
 |1,_=>exact h
theorem xvo(A B C:d9)(y:A.length<=1000000000)(E:B.length<=1000000000)(h:C.length<=1000000000):∀i,i< [A,B,C].length->([A,B,C].getD i []).length<=1000000000:=fun i hi=>by
 match i,hi with
 |0,_=>exact y
 |1,_=>exact E
 |2,_=>exact h
theorem wU(x:Int):(w4 x).length=4:=rfl
theorem a183(t:Int)(A B:d9)(y:A.length<=1000000000)(h:B.length<=1000000000):call T 60 [.int .i64 t,.lst 1 [[.byt A .no],[.byt B .no]] .no] [] 0=some ⟨.byt (hsh t [A,B]) .no,[],[]⟩:=
 xhX t [A,B] (by simp) (xvp A B y h) (by simp only[frF,eo,fV,ae,wU,aA];omega)
theorem xvq(t:Int)(A B:d9)(y:A.length<=1000000000)(h:B.length<=1000000000):call T 65 [.int .i64 t,.lst 1 [[.byt A .no],[.byt B .no]] .no] [] 0=some ⟨.byt (hsh t [A,B]) .no,[],[]⟩:=
 xhW t [A,B] (by simp) (xvp A B y h) (by simp only[frF,eo,fV,ae,wU,aA];omega)
theorem t183(t:Int)(A B C:d9)(E:A.length<=1000000000)(h:B.length<=1000000000)(y:C.length<=1000000000):call T 60 [.int .i64 t,.lst 1 [[.byt A .no],[.byt B .no],[.byt C .no]] .no] [] 0=some ⟨.byt (hsh t [A,B,C]) .no,[],[]⟩:=
 xhX t [A,B,C] (by simp) (xvo A B C E h y) (by simp only[frF,eo,fV,ae,wU,aA];omega)
theorem xv1(t:Int)(A B C:d9)(E:A.length<=1000000000)(h:B.length<=1000000000)(y:C.length<=1000000000):call T 65 [.int .i64 t,.lst 1 [[.byt A .no],[.byt B .no],[.byt C .no]] .no] [] 0=some ⟨.byt (hsh t [A,B,C]) .no,[],[]⟩:=
 xhW t [A,B,C] (by simp) (xvo A B C E h y) (by simp only[frF,eo,fV,ae,wU,aA];omega)
theorem xxF(y:Nat)(h:y<=255):call T 170 [.int .i64 y] [] 0=some ⟨.bool true,[],[]⟩:=by
 have E:(0:Int)<=(y:Int):=by omega
 have C:(y:Int)<=255:=by omega
 rw[aj xsc];simp only[go_sem,Qh,Qi,Qj,Qk,reduceCtorEq,reduceIte,E,C]
theorem xxw(h c p:Nat)(x:d9)(C:x.length<=1000000):call T 196 [.int .i64 h,.int .i64 c,.int .i64 p,.byt x .no] [] 0=some ⟨.byt (Ai h c p x) .no,[],[]⟩:=by have g:=a183 1 [ub h,ub c,ub p] x (by simp) (by omega);have y:=i6 1 [[ub h,ub c,ub p],x];unfold ub at g y;rw[aj xr0];simp only[go_sem,Q2,Q3,Qe,Qh,Qi,Qj,Qk,reduceCtorEq,reduceIte,g,xaZ,y,c32,Ai,h16,ub]
theorem xxC(h:Nat)(x:d9)(C:x.length<=1000000):call T 173 [.int .i64 h,.byt x .no] [] 0=some ⟨.byt (tK h x) .no,[],[]⟩:=by have g:=a183 2 [ub h] x (by simp) (by omega);have y:=i6 2 [[ub h],x];unfold ub at g y;rw[aj xr9];simp only[go_sem,Q2,Q3,Qe,Qh,Qi,Qj,Qk,reduceCtorEq,reduceIte,g,xaZ,y,c32,tK,h16,ub]
theorem xvd(h:Nat)(x:d9)(C:x.length<=1000000):call T 151 [.int .i64 h,.byt x .no] [] 0=some ⟨.byt (tK h x) .no,[],[]⟩:=by have g:=xvq 2 [ub h] x (by simp) (by omega);have y:=i6 2 [[ub h],x];unfold ub at g y;rw[aj xsp];simp only[go_sem,Q2,Q3,Q5,Qe,Qh,Qi,Qj,Qk,reduceCtorEq,reduceIte,g,xaX,y,c32,tK,h16,ub]
theorem xve(h:d9)(y c:Nat)(C:h.length<=64):call T 150 [.byt h .no,.int .i64 y,.int .i64 c] [] 0=some ⟨.byt (oO h y c) .no,[],[]⟩:=by have g:=xvf h xJ [ub y,ub c] 16 (by decide) (by decide) C (by decide) (by simp);unfold xJ ub at g;rw[c16]at g;rw[aj xsq];simp only[go_sem,Qe,Qh,Qi,Qj,Qk,reduceCtorEq,reduceIte,g,xiR,oO,xJ,ub]
theorem xw1(h c C:Nat)(W:C<=15):∀(n p:Nat)(x:d9),p+n=C->x.length<=1000000->
 run T (.loop Cj) ⟨[(0,.int .i64 h),(1,.int .i64 c),(3,.int .i64 C),(4,.byt x .no),(11,.int .i64 p)],[],[]⟩=
 some (.x 0,⟨[(4,.byt (iq h c p n x) .no)],[],[]⟩):=by
 intro n;induction n with
 |zero=>
  intro p x J I;have O:p=C:=by omega
  subst O;rw[ai];simp only[go_sem,Qh,Qj,Qk,reduceCtorEq,reduceIte,iq]
 |succ n Q=>
  intro p x J I;have y:=Q (p+1) (Ai h c p x) (by omega) (by rw[Ai,ek];omega);have E:(p:Int)<(C:Int):=by omega
  have L:=cg p (by omega);have g:=xvq 1 [ub h,ub c,ub p] x (by simp) (by omega);have F:=i6 1 [[ub h,ub c,ub p],x];unfold Ai h16 at y;unfold ub at g F y;rw[ai];simp only[go_sem,Q2,Q3,Q5,Qh,Qj,Qk,reduceCtorEq,reduceIte,E,L,g,xaX,F,c32,y,iq,Ai,h16,ub]
theorem xn9(y c p n C:Nat)(x:d9)(h:p+n=C)(F:C<=15)(E:x.length<=1000000):
 call T 149 [.int .i64 y,.int .i64 c,.int .i64 p,.int .i64 C,.byt x .no] [] 0=some ⟨.byt (iq y c p n x) .no,[],[]⟩:=by
 have g:=xw1 y c C F n p x h E;rw[aj xsr];simp only[go_sem,Qe,Qh,Qi,Qj,Qk,reduceCtorEq,reduceIte,g]
def dgs(l:LAa):d8:=l.map fun(d:Nat)=> [.int .i64 (d:Int)]
theorem kN(l:LAa):(dgs l).length=l.length:=by simp[dgs]
theorem wa(l:LAa)(i:Nat)(h:i<l.length):(dgs l).getD i []=[.int .i64 ((l.getD i 0:Nat):Int)]:=by simp[dgs,aa,h]
theorem F7(a b:LAa):dgs (a++b)=dgs a++dgs b:=by simp[dgs]
theorem Ue(b:UInt8):(io (b.toNat/2^min 4 8)).toNat=hi4 b:=by
 have e:(2:Nat)^min 4 8=16:=by decide
 have:=b.toNat_lt;unfold hi4;rw[e,UInt8.toNat_ofNat',cH (by omega)]
theorem T7(b:UInt8):(b&&&15).toNat=lo4 b:=by unfold lo4;rw[UInt8.toNat_and];exact Nat.and_two_pow_sub_one_eq_mod b.toNat 4
theorem Ga(M:d9)(i:Nat)(h:i<M.length):dg (M.drop i)=hi4 (M.getD i 0)::lo4 (M.getD i 0)::dg (M.drop (i+1)):=by rw[dB M i h];rfl
def smF(s:Nat)(l:d9):Nat:=l.foldl (fun s b=>s+((15-hi4 b)+(15-lo4 b))) s
theorem yh(s:Nat)(M:d9)(i:Nat)(h:i<M.length):smF s (M.drop i)=smF (s+((15-hi4 (M.getD i 0))+(15-lo4 (M.getD i 0)))) (M.drop (i+1)):=by rw[dB M i h];rfl
theorem Ud(b:UInt8):hi4 b<=15:=by have:=b.toNat_lt;unfold hi4;omega
theorem T6(b:UInt8):lo4 b<=15:=by unfold lo4;omega
theorem xwU(M:d9)(hM:M.length=16):∀(n i:Nat)(h:LAa)(s:Nat),16-i=n->i<=16->h.length=2*i->s<=30*i->
 run T (.loop vt) ⟨[(3,.lst 1 (dgs h) (.id 103)),(4,.int .i64 s),(12,.byt M .no),(13,.int .i64 16),(14,.int .i64 i)],[],[103]⟩=
 some (.x 0,⟨[(3,.lst 1 (dgs (h++dg (M.drop i))) (.id 103)),(4,.int .i64 (smF s (M.drop i)))],[],[103]⟩):=by
 intro n;induction n with
 |zero=>
  intro i h s W h1 ha hs;have hi:i=16:=by omega
  subst hi;have hd:M.drop 16=[]:=bN (by omega);rw[hd,ai];simp only[c16,go_sem,Q4,Qh,Qj,Qk,reduceIte,dg,smF,fV,bx,fo]
 |succ n ih=>
  intro i h s W h1 ha hs;have hi:i<16:=by omega
  have F:(i:Int)<16:=by omega
  have Z:=cg i (by omega);have hh:=Ud (M.getD i 0);have hl:=T6 (M.getD i 0);have E:=ih (i+1) (h++ [hi4 (M.getD i 0)]++ [lo4 (M.getD i 0)]) (s+((15-hi4 (M.getD i 0))+(15-lo4 (M.getD i 0)))) (by omega) (by omega) (by simp;omega) (by omega);have a1:=Ue (M.getD i 0);have Q:=T7 (M.getD i 0);rw[Ga M i (by omega),yh s M i (by omega)];generalize L:M.getD i 0=z at*;generalize hi4 z=x at*;generalize lo4 z=y at*;have C:=kN h;have w1:af.wrap (15-(x:Int))=((15-x:Nat):Int):=wZ (by omega)
  have J:af.wrap (15-(y:Int))=((15-y:Nat):Int):=wZ (by omega)
  have I:af.wrap ((s:Int)+((15-x:Nat):Int))=((s+(15-x):Nat):Int):=wZ (by omega)
  have O:af.wrap (((s+(15-x):Nat):Int)+((15-y:Nat):Int))=((s+((15-x)+(15-y)):Nat):Int):=wZ (by omega)
  have k1:af.wrap 1=1:=rfl;have k2:af.wrap 2=2:=rfl;have c1:(h.length+1)*8<=140737488355328:=by omega
  have c2:(h.length+1+1)*8<=140737488355328:=by omega
  simp only[dgs,cf,aI,bJ,az,bi,aE]at E C ⊢;rw[ai];simp only[go_sem,Q2,Q3,Qe,Qh,Qi,Qj,Qk,reduceIte,hi,F,hM,L,a1,Q];rw[ai];simp+decide only[go_sem,Q2,Q8,Qe,Qg,Qh,Qj,Qk,reduceIte,w1,I,k1,c1,C];rw[ai];simp+decide only[go_sem,Q2,Q8,Qe,Qg,Qh,Qj,Qk,reduceIte,J,O,k2,c2,C];rw[ai];simp+decide only[go_sem,Qe,Qh,Qj,Qk,reduceIte,Z,E]
theorem xxE(h:d9)(hm:h.length<=100000000):call T 171 [.byt h .no] [] 0=some ⟨.lst 1 (dgs (gX h)) .no,[],[]⟩:=by
 have I:=f60 4 h (by omega);rw[<-FW]at I;have C:=ek 4 [h];have hh:=i6 4 [h];have E:((32:Nat):Int)=32:=rfl;have L:=xwU (h16 4 [h]) C 16 0 [] 0 rfl (by omega) rfl (by omega);have O:=UL (h16 4 [h]) 0;have es:smF 0 (h16 4 [h])=sm (h16 4 [h]):=rfl;rw[C]at O;change sm (h16 4 [h])<=0+30*16 at O;have y:=CM (h16 4 [h]);rw[C]at y;have a1:=kN (dg (h16 4 [h]));unfold gX;have e0:dgs []=[]:=rfl;simp only[ay,aW,aE,es,F7,e0]at L ⊢;have hu:(hsh 4 [h]).take 16=h16 4 [h]:=rfl;generalize a2:sm (h16 4 [h])=q at*;generalize dg (h16 4 [h])=ds at*
 have Q:(q:Int).fdiv (2^min 8 64)=((q/256:Nat):Int):=by rw[show(2:Int)^min 8 64=256 from by decide,jc _ (by decide)];omega
 have W:(q:Int).fdiv (2^min 4 64)=((q/16:Nat):Int):=by rw[show(2:Int)^min 4 64=16 from by decide,jc _ (by decide)];omega
 have J:∀r:Nat,r<1000->cn .and .i64 (r:Int) 15=((r % 16:Nat):Int):=fun r hr=>by
  have e1:(BitVec.ofNat 64 r&&&BitVec.ofNat 64 15).toNat=r % 16:=by rw[BitVec.toNat_and,BitVec.toNat_ofNat,BitVec.toNat_ofNat,cH (by omega)];exact Nat.and_two_pow_sub_one_eq_mod r 4
  unfold cn;rw[show(15:Int)=((15:Nat):Int)from rfl];simp only[BitVec.ofInt_natCast];show af.wrap (((BitVec.ofNat 64 r&&&BitVec.ofNat 64 15).toNat:Nat):Int)=_;rw[e1];exact w64 (by omega) (by omega)
 have Z:=J q (by omega);have q5:=J (q/16) (by omega);have c3:(2*16+3)*8<=140737488355328:=by decide
 have F:((16:Nat):Int)=16:=rfl;rw[aj xsb];simp only[go_sem,Q2,Q3,Q5,Qe,Qh,Qi,Qj,Qk,reduceCtorEq,reduceIte,I,xaZ,hh,E,hu,C,F,L];simp only[go_sem,Qe,Qg,reduceIte,Q,W,Z,q5,y,c3,dgs,aI,bJ]
 trace_state
def we(c:Nat)(f:Nat->d9):d9:=((bM 35).drop c).flatMap f
theorem l8(f:Nat->d9):we 0 f=cat 35 f:=by unfold we cat;rw[aW]
theorem nS(f:Nat->d9):we 35 f=[]:=by unfold we;rw[bN (by rw[List.length_range];exact aJ _)];rfl
theorem l9(c:Nat)(h:c<35)(f:Nat->d9):we c f=f c++we (c+1) f:=by unfold we;rw[bt (by rw[List.length_range];exact h),List.getElem_range,eo]
theorem xxA(c:Int):call T 176 [.int .i64 c] [] 0=some ⟨.int .i64 15,[],[]⟩:=by rw[aj xr6];simp only[go_sem,Qi,reduceIte]
theorem xxB(D:LAa)(c:Nat)(h:c<D.length):call T 175 [.int .i64 c,.ptr 0 0] [.rc [.lst 1 (dgs D) .no]] 0=some ⟨.int .i64 ((D.getD c 0:Nat):Int),[(0,.rc [.lst 1 (dgs D) .no])],[]⟩:=by have y:=kN D;have C:=wa D c h;rw[aj xr7];simp only[go_sem,Qe,Qh,Qi,Qj,Qk,reduceCtorEq,reduceIte,y,h,C]
theorem xxD(g:d9)(c:Nat)(h:c<35)(E:g.length=560):call T 172 [.int .i64 c,.ptr 0 0] [.rc [.byt g .no]] 0=some ⟨.byt ((g.drop (16*c)).take 16) .no,[(0,.rc [.byt g .no])],[]⟩:=by
 have F:af.wrap ((c:Int)*16)=((16*c:Nat):Int):=wZ (by omega)
 have C:=cg c (by omega);have L:af.wrap (((c+1:Nat):Int)*16)=((16*c+16:Nat):Int):=wZ (by omega)
 have I:16*c<=16*c+16:=by omega
 have J:16*c+16<=560:=by omega
 have y:(g.take (16*c+16)).drop (16*c)=(g.drop (16*c)).take 16:=by rw[fY];congr 1;omega
 rw[aj xsa];simp only[go_sem,Qe,Qh,Qi,Qj,Qk,reduceCtorEq,reduceIte,C,F,L,E,I,J,y]
theorem xrh(h c:Nat)(g:d9)(D:LAa)(hs:g.length=560)(hD:D.length=35)(hd:∀c,c<35->D.getD c 0<=15)(Q:c<35)(y:d9):∀(n p:Nat)(x:d9),p+n=15->x.length<=1000000->
 run T (.loop vr) ⟨[(0,.int .i64 h),(1,.fn 172 [] [.ptr 0 0]),(2,.fn 175 [] [.ptr 1 0]),(3,.fn 176 [] []),(9,.byt y (.id 109)),(10,.int .i64 c),(11,.byt x .no),(12,.int .i64 p),(13,.int .i64 c)],[(0,.rc [.byt g .no]),(1,.rc [.lst 1 (dgs D) .no])],[109]⟩=
 some (.x 2,⟨[(0,.int .i64 h),(1,.fn 172 [] [.ptr 0 0]),(2,.fn 175 [] [.ptr 1 0]),(3,.fn 176 [] []),(9,.byt y (.id 109)),(11,.byt (iq h c p n x) .no),(13,.int .i64 c)],[(0,.rc [.byt g .no]),(1,.rc [.lst 1 (dgs D) .no])],[109]⟩):=by
 have J:=xxA c;intro n;induction n with
 |zero=>
  intro p x W I;have hp:p=15:=by omega
  have F:((15:Nat):Int)=15:=rfl;rw[ai];simp only[hp,F,go_sem,Q4,Qh,Qj,Qk,reduceCtorEq,reduceIte,J,xiF,iq]
 |succ n ih=>
  intro p x W I;have C:=ih (p+1) (Ai h c p x) (by omega) (by rw[Ai,ek];omega);have E:(p:Int)<15:=by omega
  have L:=hd c Q;have O:c<D.length:=by omega
  have Z:=cg p (by omega);have g:=xxw h c p x I;rw[ai];simp only[go_sem,Qh,Qj,Qk,reduceCtorEq,reduceIte,J,xiF,E,Z,g,xs1,C,iq]
theorem xrd(C:Nat)(g:d9)(D:LAa)(Q:g.length=560)(hD:D.length=35)(hd:∀c,c<35->D.getD c 0<=15)(F:Nat->d9)(hF:∀c,c<35->F c=iq C c (D.getD c 0) (15-D.getD c 0) ((g.drop (16*c)).take 16)):∀(n c:Nat)(h:d9),35-c=n->c<=35->h.length=16*c->
 run T (.loop qc) ⟨[(0,.int .i64 C),(1,.fn 172 [] [.ptr 0 0]),(2,.fn 175 [] [.ptr 1 0]),(3,.fn 176 [] []),(9,.byt h (.id 109)),(13,.int .i64 c)],[(0,.rc [.byt g .no]),(1,.rc [.lst 1 (dgs D) .no])],[109]⟩=
 some (.x 0,⟨[(9,.byt (h++we c F) (.id 109))],[(0,.rc [.byt g .no]),(1,.rc [.lst 1 (dgs D) .no])],[109]⟩):=by
 intro n;induction n with
 |zero=>
  intro c h h0 h1 ha;have hi:c=35:=by omega
  subst hi;rw[nS,ai];simp only[c35,go_sem,Q4,Qh,Qj,Qk,reduceCtorEq,reduceIte,bx]
 |succ n ih=>
  intro c h h0 h1 ha;have E:c<35:=by omega
  have O:(c:Int)<35:=by omega
  have e1:=cg c (by omega);have W:=hd c E;have Z:c<D.length:=by omega
  have J:=fS C c (15-D.getD c 0) (D.getD c 0) ((g.drop (16*c)).take 16) (by rw[aq,aG];omega);rw[<-hF c E]at J;have I:=ih (c+1) (h++F c) (by omega) (by omega) (by rw[ae,J];omega);have L:=xrh C c g D Q hD hd E h (15-D.getD c 0) (D.getD c 0) ((g.drop (16*c)).take 16) (by omega) (by have hq:((g.drop (16*c)).take 16).length=16:=(by rw[aq,aG];omega);omega);have gs:=xxD g c E Q;have gf:=xxB D c (by omega);rw[<-hF c E]at L;rw[l9 c E];rw[az]at I;generalize a1:F c=y at*;have c1:h.length+y.length<=140737488355328:=by omega
  try simp only[ay]at L
  rw[ai];simp only[go_sem,Qe,Qg,Qh,Qi,Qj,Qk,reduceCtorEq,reduceIte,O,e1,gs,gf,xs6,xs3,L,c1,I]
theorem xru(h:Nat)(g:d9)(D:LAa)(X:d9)(y:run T (.loop qc) ⟨[(0,.int .i64 h),(1,.fn 172 [] [.ptr 0 0]),(2,.fn 175 [] [.ptr 1 0]),(3,.fn 176 [] []),(9,.byt [] (.id 109)),(13,.int .i64 0)],[(0,.rc [.byt g .no]),(1,.rc [.lst 1 (dgs D) .no])],[109]⟩=some (.x 0,⟨[(9,.byt X (.id 109))],[(0,.rc [.byt g .no]),(1,.rc [.lst 1 (dgs D) .no])],[109]⟩)):
 call T 174 [.int .i64 h,.fn 172 [] [.ptr 0 0],.fn 175 [] [.ptr 1 0],.fn 176 [] []] [.rc [.byt g .no],.rc [.lst 1 (dgs D) .no]] 0=some ⟨.byt X .no,[(0,.rc [.byt g .no]),(1,.rc [.lst 1 (dgs D) .no])],[]⟩:=by
 rw[aj xr8];simp only[go_sem,Qe,Qh,Qi,Qj,Qk,reduceCtorEq,reduceIte,y]
theorem xrz(h:Nat)(g:d9)(D:LAa)(E:g.length=560)(C:D.length=35)(hd:∀c,c<35->D.getD c 0<=15)(F:Nat->d9)(hF:∀c,c<35->F c=iq h c (D.getD c 0) (15-D.getD c 0) ((g.drop (16*c)).take 16)):call T 174 [.int .i64 h,.fn 172 [] [.ptr 0 0],.fn 175 [] [.ptr 1 0],.fn 176 [] []] [.rc [.byt g .no],.rc [.lst 1 (dgs D) .no]] 0=
 some ⟨.byt (cat 35 F) .no,[(0,.rc [.byt g .no]),(1,.rc [.lst 1 (dgs D) .no])],[]⟩:=by
 have y:=xrd h g D E C hd F hF 35 0 [] rfl (by omega) rfl;rw[l8]at y;exact xru h g D (cat 35 F) y
theorem xxM(h:Nat)(y g:d9)(I:h<=255)(F:g.length=560)(O:y.length<=100000000):call T 154 [.int .i64 h,.byt y .no,.byt g .no] [] 0=some ⟨.tup [.byt (mT h y g) .no,.bool true],[],[]⟩:=by
 have W:=xxF h I;have L:=xxE y O;have Q:=xrz h g (gX y) F (nP y) (nQ y) (fun c=>iq h c ((gX y).getD c 0) (15-(gX y).getD c 0) ((g.drop (16*c)).take 16)) (fun c _=>rfl);have E:=mA (fun c=>iq h c ((gX y).getD c 0) (15-(gX y).getD c 0) ((g.drop (16*c)).take 16)) 35 (fun c E=>fS _ _ _ _ _ (by rw[aq,aG];omega));have J:=xxC h _ (show(cat 35 fun c=>iq h c ((gX y).getD c 0) (15-(gX y).getD c 0) ((g.drop (16*c)).take 16)).length<=1000000 by rw[E];decide);have C:((560:Nat):Int)=560:=rfl;unfold mT;generalize (cat 35 fun c=>iq h c ((gX y).getD c 0) (15-(gX y).getD c 0) ((g.drop (16*c)).take 16))=X at*;generalize tK h X=Y at*;rw[aj xsn];simp only[go_sem,Qe,Qg,Qh,Qi,Qj,Qk,reduceCtorEq,reduceIte,W,L,F,C,Q,J,xs8,xs7,xs4,xs5]
 trace_state
theorem xwX(M:d9)(hM:M.length=16):∀(n i:Nat)(h:LAa)(s:Nat),16-i=n->i<=16->h.length=2*i->s<=30*i->
 run T (.loop Cc) ⟨[(3,.byt M .no),(4,.lst 1 (dgs h) (.id 104)),(5,.int .i64 s),(6,.int .i64 i)],[],[104]⟩=
 some (.x 0,⟨[(4,.lst 1 (dgs (h++dg (M.drop i))) (.id 104)),(5,.int .i64 (smF s (M.drop i)))],[],[104]⟩):=by
 intro n;induction n with
 |zero=>
  intro i h s Z h1 ha hs;have hi:i=16:=by omega
  subst hi;have hd:M.drop 16=[]:=bN (by omega);rw[hd,ai];simp only[c16,go_sem,Q4,Qh,Qj,Qk,reduceIte,dg,smF,fV,bx,fo]
 |succ n ih=>
  intro i h s Z h1 ha hs;have hi:i<16:=by omega
  have E:(i:Int)<16:=by omega
  have e1:=cg i (by omega);have hh:=Ud (M.getD i 0);have hl:=T6 (M.getD i 0);have y:=ih (i+1) (h++ [hi4 (M.getD i 0),lo4 (M.getD i 0)]) (s+((15-hi4 (M.getD i 0))+(15-lo4 (M.getD i 0)))) (by omega) (by omega) (by simp;omega) (by omega);have a1:=Ue (M.getD i 0);have W:=T7 (M.getD i 0);have I:=Ga M i (by omega);have F:=yh s M i (by omega);generalize Q:M.getD i 0=z at*;have C:=kN h;have w1:af.wrap (30-((hi4 z:Nat):Int))=((30-hi4 z:Nat):Int):=wZ (by omega)
  have O:af.wrap (((30-hi4 z:Nat):Int)-((lo4 z:Nat):Int))=(((15-hi4 z)+(15-lo4 z):Nat):Int):=wZ (by omega)
  have L:af.wrap ((s:Int)+(((15-hi4 z)+(15-lo4 z):Nat):Int))=((s+((15-hi4 z)+(15-lo4 z)):Nat):Int):=wZ (by omega)
  have c1:(h.length+2)*8<=140737488355328:=by omega
  have J:h++dg (M.drop i)=h++ [hi4 z,lo4 z]++dg (M.drop (i+1)):=by rw[I,az];rfl
  rw[J,F];simp only[dgs,cf,aI,bJ,az,bi,aE]at y C ⊢;rw[ai];simp only[go_sem,Q2,Q3,Qb,Qc,Qd,Qe,Qh,Qi,Qj,Qk,reduceIte,hi,E,hM,Q,e1,a1,W,w1,O,L,c1,C,y]
theorem xvb(h:d9)(hm:h.length<=100000000):call T 166 [.byt h .no] [] 0=some ⟨.lst 1 (dgs (gX h)) .no,[],[]⟩:=by
 have F:=f65 4 h (by omega);rw[<-FW]at F;have E:=ek 4 [h];have hh:=i6 4 [h];have C:((32:Nat):Int)=32:=rfl;have I:=xwX (h16 4 [h]) E 16 0 [] 0 rfl (by omega) rfl (by omega);have J:=UL (h16 4 [h]) 0;have es:smF 0 (h16 4 [h])=sm (h16 4 [h]):=rfl;rw[E]at J;change sm (h16 4 [h])<=0+30*16 at J;have y:=CM (h16 4 [h]);rw[E]at y;have a1:=kN (dg (h16 4 [h]));unfold gX;have W:dgs []=[]:=rfl;simp only[ay,aW,aE,es,F7,W]at I ⊢;have hu:(hsh 4 [h]).take 16=h16 4 [h]:=rfl;generalize a2:sm (h16 4 [h])=q at*;generalize dg (h16 4 [h])=ds at*
 have L:af.wrap ((q:Int).tdiv 256)=((q/256:Nat):Int):=by rw[Int.tdiv_eq_ediv_of_nonneg (by omega),w64 (by omega) (by omega)];omega
 have O:af.wrap ((q:Int).tdiv 16)=((q/16:Nat):Int):=by rw[Int.tdiv_eq_ediv_of_nonneg (by omega),w64 (by omega) (by omega)];omega
 have Z:((q/16:Nat):Int).tmod 16=((q/16 % 16:Nat):Int):=by rw[fx (by omega)];omega
 have Q:(q:Int).tmod 16=((q % 16:Nat):Int):=by rw[fx (by omega)];omega
 have c3:(2*16+3)*8<=140737488355328:=by decide
 have a6:((16:Nat):Int)=16:=rfl;rw[aj xsg];simp only[go_sem,Q2,Q3,Q5,Qe,Qh,Qi,Qj,Qk,reduceCtorEq,reduceIte,F,xaX,hh,C,hu,I];simp only[go_sem,Qe,Qg,reduceIte,L,O,Z,Q,y,c3,dgs,aI,bJ]
 trace_state
theorem xxb(C:d9)(h:Nat)(hs:C.length<=64)(F:Nat->d9)(hF:∀c,c<35->F c=iq h c 0 15 (oO C h c)):∀(n c:Nat)(E:d9),35-c=n->c<=35->E.length=16*c->
 run T (.loop xx) ⟨[(0,.byt C .no),(1,.int .i64 h),(5,.byt E (.id 105)),(6,.int .i64 c)],[],[105]⟩=
 some (.x 0,⟨[(1,.int .i64 h),(5,.byt (E++we c F) (.id 105))],[],[105]⟩):=by
 intro n;induction n with
 |zero=>
  intro c E W h1 ha;have hi:c=35:=by omega
  subst hi;rw[nS,ai];simp only[c35,go_sem,Q4,Qh,Qj,Qk,reduceCtorEq,reduceIte,bx]
 |succ n ih=>
  intro c E W h1 ha;have Q:c<35:=by omega
  have O:(c:Int)<35:=by omega
  have Z:=cg c (by omega);have J:=fS h c 15 0 (oO C h c) (jd C h c);have gs:=xve C h c hs;have L:=xn9 h c 0 15 15 (oO C h c) rfl (by omega) (by rw[jd];decide);rw[<-hF c Q]at J L;rw[c0,c15]at L;have I:=ih (c+1) (E++F c) (by omega) (by omega) (by rw[ae,J];omega);rw[l9 c Q];rw[az]at I;generalize a1:F c=y at*;have c1:E.length+y.length<=140737488355328:=by omega
  rw[ai];simp only[go_sem,Qe,Qh,Qi,Qj,Qk,reduceCtorEq,reduceIte,O,Z,gs,L,xiP,XX,c1,I]
theorem xxl(y X Y:d9)(h:Nat)(J:h<=255)(E:run T (.loop xx) ⟨[(0,.byt y .no),(1,.int .i64 h),(5,.byt [] (.id 105)),(6,.int .i64 0)],[],[105]⟩=some (.x 0,⟨[(1,.int .i64 h),(5,.byt X (.id 105))],[],[105]⟩))
 (I:call T 151 [.int .i64 h,.byt X .no] [] 0=some ⟨.byt Y .no,[],[]⟩):call T 114 [.byt y .no,.int .i64 h] [] 0=some ⟨.byt Y .no,[],[]⟩:=by
 have C:¬(h:Int)<0:=by omega
 have F:¬(255:Int)<h:=by omega
 rw[aj xsQ];simp only[go_sem,Qe,Qh,Qi,Qj,Qk,reduceCtorEq,reduceIte,C,F,E,I,xiO]
theorem xxj(y:d9)(h:Nat)(J:y.length<=64)(I:h<=255)(F:Nat->d9)(hF:∀c,c<35->F c=iq h c 0 15 (oO y h c)):call T 114 [.byt y .no,.int .i64 h] [] 0=some ⟨.byt (tK h (cat 35 F)) .no,[],[]⟩:=by have E:=xxb y h J F hF 35 0 [] rfl (by omega) rfl;have C:=mA F 35 (fun c C=>by rw[hF c C];exact fS _ _ _ _ _ (jd _ _ _));rw[l8]at E;exact xxl y (cat 35 F) _ h I E (xvd h (cat 35 F) (by rw[C];decide))
theorem xod(y:d9)(h:Nat)(E:y.length<=64)(C:h<=255):call T 114 [.byt y .no,.int .i64 h] [] 0=some ⟨.byt (pubL y h) .no,[],[]⟩:=
 xxj y h E C (fun c=>iq h c 0 15 (oO y h c)) (fun c _=>rfl)
theorem xw2(C:d9)(h:Nat)(D:LAa)(hs:C.length<=64)(hD:D.length=35)(hd:∀c,c<35->D.getD c 0<=15)(F:Nat->d9)(hF:∀c,c<35->F c=iq h c 0 (D.getD c 0) (oO C h c)):∀(n c:Nat)(E:d9),35-c=n->c<=35->E.length=16*c->
 run T (.loop xo) ⟨[(0,.byt C .no),(1,.int .i64 h),(7,.lst 1 (dgs D) .no),(8,.byt E (.id 108)),(9,.int .i64 c)],[],[108]⟩=
 some (.x 0,⟨[(8,.byt (E++we c F) (.id 108))],[],[108]⟩):=by
 intro n;induction n with
 |zero=>
  intro c E h0 h1 ha;have hi:c=35:=by omega
  subst hi;rw[nS,ai];simp only[c35,go_sem,Q4,Qh,Qj,Qk,reduceCtorEq,reduceIte,bx]
 |succ n ih=>
  intro c E h0 h1 ha;have L:c<35:=by omega
  have Z:(c:Int)<35:=by omega
  have e1:=cg c (by omega);have Q:=kN D;have O:=wa D c (by omega);have J:=fS h c (D.getD c 0) 0 (oO C h c) (jd C h c);have gs:=xve C h c hs;have W:=xn9 h c 0 (D.getD c 0) (D.getD c 0) (oO C h c) (bT _) (hd c L) (by rw[jd];decide);rw[<-hF c L]at J W;rw[c0]at W;have I:=ih (c+1) (E++F c) (by omega) (by omega) (by rw[ae,J];omega);rw[l9 c L];rw[az]at I;generalize a1:F c=y at*;have c1:E.length+y.length<=140737488355328:=by omega
  rw[ai];simp only[go_sem,Qb,Qc,Qd,Qe,Qh,Qi,Qj,Qk,reduceCtorEq,reduceIte,Z,L,Q,hD,O,e1,gs,W,xiP,XX,c1,I]
theorem h91(y C X:d9)(D:LAa)(h:Nat)(L:h<=255)(E:call T 166 [.byt C .no] [] 0=some ⟨.lst 1 (dgs D) .no,[],[]⟩)(I:run T (.loop xo) ⟨[(0,.byt y .no),(1,.int .i64 h),(7,.lst 1 (dgs D) .no),(8,.byt [] (.id 108)),(9,.int .i64 0)],[],[108]⟩=some (.x 0,⟨[(8,.byt X (.id 108))],[],[108]⟩)):
 call T 145 [.byt y .no,.int .i64 h,.byt C .no] [] 0=some ⟨.byt X .no,[],[]⟩:=by
 have F:¬(h:Int)<0:=by omega
 have J:¬(255:Int)<h:=by omega
 rw[aj xsu];simp only[go_sem,Qe,Qh,Qi,Qj,Qk,reduceCtorEq,reduceIte,F,J,I,E,xiH]
theorem k91(C:d9)(h:Nat)(y:d9)(L:C.length<=64)(I:h<=255)(J:y.length<=100000000)(F:Nat->d9)(hF:∀c,c<35->F c=iq h c 0 ((gX y).getD c 0) (oO C h c)):
 call T 145 [.byt C .no,.int .i64 h,.byt y .no] [] 0=some ⟨.byt (cat 35 F) .no,[],[]⟩:=by
 have E:=xw2 C h (gX y) L (nP y) (nQ y) F hF 35 0 [] rfl (by omega) rfl;rw[l8]at E;exact h91 C y (cat 35 F) (gX y) h I (xvb y J) E
theorem xob(y:d9)(h:Nat)(C:d9)(F:y.length<=64)(E:h<=255)(I:C.length<=100000000):call T 145 [.byt y .no,.int .i64 h,.byt C .no] [] 0=some ⟨.byt (tQ y h C) .no,[],[]⟩:=
 k91 y h C F E I (fun c=>iq h c 0 ((gX C).getD c 0) (oO y h c)) (fun c _=>rfl)
theorem xwT(g:d9)(h:Nat)(D:LAa)(hg:g.length=560)(hD:D.length=35)(hd:∀c,c<35->D.getD c 0<=15)(F:Nat->d9)(hF:∀c,c<35->F c=iq h c (D.getD c 0) (15-D.getD c 0) ((g.drop (16*c)).take 16)):∀(n c:Nat)(C:d9),35-c=n->c<=35->C.length=16*c->
 run T (.loop xj) ⟨[(0,.int .i64 h),(2,.byt g .no),(8,.lst 1 (dgs D) .no),(9,.byt C (.id 109)),(10,.int .i64 c)],[],[109]⟩=
 some (.x 0,⟨[(0,.int .i64 h),(9,.byt (C++we c F) (.id 109))],[],[109]⟩):=by
 intro n;induction n with
 |zero=>
  intro c C h0 h1 ha;have hi:c=35:=by omega
  subst hi;rw[nS,ai];simp only[c35,go_sem,Q4,Qh,Qj,Qk,reduceCtorEq,reduceIte,bx]
 |succ n ih=>
  intro c C h0 h1 ha;have J:c<35:=by omega
  have W:(c:Int)<35:=by omega
  have e1:=cg c (by omega);have O:=kN D;have L:=wa D c (by omega);have m1:af.wrap (16*(c:Int))=((16*c:Nat):Int):=wZ (by omega)
  have m2:af.wrap (((16*c:Nat):Int)+16)=((16*c+16:Nat):Int):=wZ (by omega)
  have h2:16*c<=16*c+16:=by omega
  have Z:16*c+16<=560:=by omega
  have h4:(g.take (16*c+16)).drop (16*c)=(g.drop (16*c)).take 16:=by rw[fY];congr 1;omega
  have I:=fS h c (15-D.getD c 0) (D.getD c 0) ((g.drop (16*c)).take 16) (by rw[aq,aG];omega);have Q:=xn9 h c (D.getD c 0) (15-D.getD c 0) 15 ((g.drop (16*c)).take 16) (by have:=hd c J;omega) (by omega) (by rw[aq,aG];omega);rw[<-hF c J]at I Q;rw[c15]at Q;have E:=ih (c+1) (C++F c) (by omega) (by omega) (by rw[ae,I];omega);rw[l9 c J];rw[az]at E;generalize a1:F c=y at*;have c1:C.length+y.length<=140737488355328:=by omega
  rw[ai];simp only[go_sem,Qb,Qc,Qd,Qe,Qh,Qi,Qj,Qk,reduceCtorEq,reduceIte,W,J,O,hD,L,e1,m1,m2,hg,h2,Z,h4,Q,XX,c1,E]
theorem xxk(C g X Y:d9)(D:LAa)(h:Nat)(Q:h<=255)(L:g.length=560)(E:call T 166 [.byt C .no] [] 0=some ⟨.lst 1 (dgs D) .no,[],[]⟩)(I:run T (.loop xj) ⟨[(0,.int .i64 h),(2,.byt g .no),(8,.lst 1 (dgs D) .no),(9,.byt [] (.id 109)),(10,.int .i64 0)],[],[109]⟩=some (.x 0,⟨[(0,.int .i64 h),(9,.byt X (.id 109))],[],[109]⟩))
 (O:call T 151 [.int .i64 h,.byt X .no] [] 0=some ⟨.byt Y .no,[],[]⟩):call T 194 [.int .i64 h,.byt C .no,.byt g .no] [] 0=some ⟨.tup [.byt Y .no,.bool true],[],[]⟩:=by
 have F:¬(h:Int)<0:=by omega
 have J:¬(255:Int)<h:=by omega
 have y:((560:Nat):Int)=560:=rfl;rw[aj xr2];simp only[go_sem,Qe,Qh,Qi,Qj,Qk,reduceCtorEq,reduceIte,F,J,L,y,E,I,O,xiH,xiO]
theorem xxi(h:Nat)(y g:d9)(J:h<=255)(I:g.length=560)(L:y.length<=100000000)(F:Nat->d9)(hF:∀c,c<35->F c=iq h c ((gX y).getD c 0) (15-(gX y).getD c 0) ((g.drop (16*c)).take 16)):
 call T 194 [.int .i64 h,.byt y .no,.byt g .no] [] 0=some ⟨.tup [.byt (tK h (cat 35 F)) .no,.bool true],[],[]⟩:=by
 have E:=xwT g h (gX y) I (nP y) (nQ y) F hF 35 0 [] rfl (by omega) rfl;have C:=mA F 35 (fun c C=>by rw[hF c C];exact fS _ _ _ _ _ (by rw[aq,aG];omega));rw[l8]at E;exact xxk y g (cat 35 F) _ (gX y) h J I (xvb y L) E (xvd h (cat 35 F) (by rw[C];decide))
theorem xxy(h:Nat)(y g:d9)(C:h<=255)(E:g.length=560)(F:y.length<=100000000):call T 194 [.int .i64 h,.byt y .no,.byt g .no] [] 0=some ⟨.tup [.byt (mT h y g) .no,.bool true],[],[]⟩:=
 xxi h y g C E F (fun c=>iq h c ((gX y).getD c 0) (15-(gX y).getD c 0) ((g.drop (16*c)).take 16)) (fun c _=>rfl)
theorem xyh(n:Nat)(h:n<4611686018427387904):cn .and .i64 (n:Int) 1=((n % 2:Nat):Int):=by
 have y:(BitVec.ofNat 64 n&&&BitVec.ofNat 64 1).toNat=n % 2:=by rw[BitVec.toNat_and,BitVec.toNat_ofNat,BitVec.toNat_ofNat,cH (by omega)];exact Nat.and_one_is_mod n
 unfold cn;rw[show(1:Int)=((1:Nat):Int)from rfl];simp only[BitVec.ofInt_natCast];show af.wrap (((BitVec.ofNat 64 n&&&BitVec.ofNat 64 1).toNat:Nat):Int)=_;rw[y];exact w64 (by omega) (by omega)
theorem xu9(h i:Nat)(a b:d9)(E:a.length<=1000000)(C:b.length<=1000000):call T 177 [.int .i64 h,.int .i64 i,.byt a .no,.byt b .no] [] 0=some ⟨.byt (jw h i a b) .no,[],[]⟩:=by have g:=t183 3 [ub h,ub i] a b (by simp) (by omega) (by omega);have y:=i6 3 [[ub h,ub i],a,b];unfold ub at g y;rw[aj xr5];simp only[go_sem,Q2,Q3,Qe,Qh,Qi,Qj,Qk,reduceCtorEq,reduceIte,g,xaZ,y,c32,jw,h16,ub]
theorem xoa(h i:Nat)(a b:d9)(E:a.length<=1000000)(C:b.length<=1000000):call T 147 [.int .i64 h,.int .i64 i,.byt a .no,.byt b .no] [] 0=some ⟨.byt (jw h i a b) .no,[],[]⟩:=by have g:=xv1 3 [ub h,ub i] a b (by simp) (by omega) (by omega);have y:=i6 3 [[ub h,ub i],a,b];unfold ub at g y;rw[aj xst];simp only[go_sem,Q2,Q3,Q5,Qe,Qh,Qi,Qj,Qk,reduceCtorEq,reduceIte,g,xaX,y,c32,jw,h16,ub]
theorem xh7(B:d9)(h:B.length<=1000000000):call T 112 [.byt B .no] [] 0=some ⟨.byt B .no,[],[]⟩:=by
 have c1:0+B.length<=140737488355328:=by omega
 have c2:B.length<=140737488355328:=by omega
 rw[aj xsS];simp only[go_sem,Qe,Qh,Qi,Qj,Qk,reduceCtorEq,reduceIte,c2,aE]
theorem xw0(P:List d9)(hP:P.length<=3)(hb:∀s∈P,s.length<=1000000):∀(n h i:Nat)(x:d9)(q:Tok),P.length-h=n->h<=P.length->i<1000->x.length<=1000000->
 run T (.loop vx) ⟨[(1,.int .i64 i),(7,.byt x q),(29,.lst 1 (bys P) .no),(30,.int .i64 P.length),(31,.int .i64 h)],[],[128]⟩=
 some (.x 0,⟨[(7,.byt (lh h i (P.drop h) x) (if h=P.length then q else .no))],[],[128]⟩):=by
 intro n;induction n with
 |zero=>
  intro h i x q h0 h1 h2 I;have hi:h=P.length:=by omega
  subst hi;rw[bw,ai];simp only[go_sem,Qh,Qj,Qk,reduceIte,lh,if_true]
 |succ n Z=>
  intro h i x q h0 h1 h2 I;have F:h<P.length:=by omega
  have W:(h:Int)<(P.length:Int):=by omega
  have Q:=cg h (by omega);have hg:=rg P h F;have O:=gP P;have C:=xyh i (by omega)
  have hs:(P.getD h []).length<=1000000:=by rw[aa,ac F,aM];exact hb _ (bv F)
  have hd:P.drop h=P.getD h []::P.drop (h+1):=by rw[bt F,aa,ac F,aM]
  rw[hd];generalize hc:P.getD h []=s at*;have J:¬h=P.length:=by omega
  rw[if_neg J];have e2:((i:Int)/2)=((i/2:Nat):Int):=by omega
  have L:(i:Int).fdiv (2^min 1 64)=((i/2:Nat):Int):=by rw[show(2:Int)^min 1 64=2 from by decide,jc _ (by decide)];omega
  have e4:af.wrap ((i/2:Nat):Int)=((i/2:Nat):Int):=w64 (by omega) (by omega);rw[ai]
  by_cases ho:i % 2=1
  ·have y:=Z (h+1) (i/2) (jw h (i/2) s x) .no (by omega) (by omega) (by omega) (by rw[jw,ek];omega)
   rw[ite_self]at y;have g:=xu9 h (i/2) s x hs I;rw[ho]at C;simp only[Int.natCast_one]at C;simp only[go_sem,Q2,Q3,Qh,Qj,Qk,reduceCtorEq,reduceIte,W,Q,hg,O,C,L,g,xiE,y,lh,ho]
  ·have E:i % 2=0:=by omega
   have y:=Z (h+1) (i/2) (jw h (i/2) x s) .no (by omega) (by omega) (by omega) (by rw[jw,ek];omega);rw[ite_self]at y;have g:=xu9 h (i/2) x s I hs;rw[E]at C;simp only[ay]at C;have z1:¬(0:Int)=1:=by decide
   have z2:¬(0:Nat)=1:=by decide
   simp only[go_sem,Q2,Q3,Qh,Qj,Qk,reduceCtorEq,reduceIte,W,Q,hg,O,C,L,g,xiE,y,lh,E,z1,z2]
attribute [go_sem] Int.cast_ofNat_Int
def nF(v:Nat)(l:d9):Nat:=l.foldl (fun v b=>v*256+b.toNat) v
def nB(l:d9):Nat:=nF 0 l
theorem Iu:∀(l:d9)(v k:Nat),v<256^k->nF v l<256^(k+l.length)
 |[],v,k,h=>h
 |b::r,v,k,h=>by
  have C:=b.toNat_lt
  have y:v*256+b.toNat<256^(k+1):=by have:(v+1)*256<=256^k*256:=bh _ h;rw[Nat.pow_succ];omega
  have:=Iu r (v*256+b.toNat) (k+1) y;rw[al,show k+(r.length+1)=k+1+r.length from by omega];exact this
theorem Iv(l:d9):nB l<256^l.length:=by have:=Iu l 0 0 (by decide);rwa[bT]at this
theorem yL(l:d9)(h:l.length<=6):nB l<281474976710656:=by
 have E:=Iv l;have C:256^l.length<=256^6:=Nat.pow_le_pow_right (by decide) h;have y:(256:Nat)^6=281474976710656:=by decide
 omega
theorem orW(v:Nat)(y:v<1099511627776)(b:UInt8):cn .or .u64 (aQ.wrap ((v:Int)*2^min 8 64)) (b.toNat:Int)=((v*256+b.toNat:Nat):Int):=by
 have C:=b.toNat_lt;have p:((2:Int)^min 8 64)=256:=by decide
 have e:aQ.wrap ((v:Int)*2^min 8 64)=((v*256:Nat):Int):=by rw[p,bO];omega
 rw[e];unfold cn;simp only[BitVec.ofInt_natCast]
 have h:(BitVec.ofNat 64 (v*256)|||BitVec.ofNat 64 b.toNat).toNat=v*256+b.toNat:=by rw[BitVec.toNat_or,BitVec.toNat_ofNat,BitVec.toNat_ofNat,cH (by omega),cH (by omega)];have:=Nat.two_pow_add_eq_or_of_lt (i:=8) (b:=b.toNat) (by omega) v;rw[show(2:Nat)^8=256 from by decide]at this;rw[cM v 256,<-this]
 show aQ.wrap (((BitVec.ofNat 64 (v*256)|||BitVec.ofNat 64 b.toNat).toNat:Nat):Int)=_;rw[h,bO];omega
structure Rs where
 a:Nat
 e:Int
def rdO(B:d9)(t:Nat)(s:Rs):aH:= .rc [.byt B (.id t),.int .i64 s.a,.int .i64 s.e]
def uR(B:d9)(n:Nat)(s:Rs):Int×Rs:=if s.e=0 then(if s.a+n<=B.length then(((nB ((B.drop s.a).take n):Nat):Int),⟨s.a+n,0⟩)else(0,⟨s.a,2⟩))else(0,s)
def wR(B:d9)(n:Nat)(s:Rs):d9×Rs:=if s.e=0 then(if s.a+n<=B.length then((B.drop s.a).take n,⟨s.a+n,0⟩)else([],⟨s.a,2⟩))else([],s)
def bR(B:d9)(m:Nat)(s:Rs):d9×Rs:=
 if s.e=0 then(if s.a+2<=B.length then(if nB ((B.drop s.a).take 2)<=m then(if s.a+2+nB ((B.drop s.a).take 2)<=B.length then((B.drop (s.a+2)).take (nB ((B.drop s.a).take 2)),⟨s.a+(2+nB ((B.drop s.a).take 2)),0⟩)else([],⟨s.a,2⟩))else([],⟨s.a,4⟩))else([],⟨s.a,2⟩))else([],s)
def eR(B:d9)(s:Rs):Int:=if s.e=0 then(if s.a<B.length then 3 else 0)else s.e
structure dU(B:List UInt8)(s:Rs):Prop where
 a:s.a<=B.length
theorem eX{B:d9}{n:Nat}{s:Rs}(h:dU B s):dU B (uR B n s).2:=by
 unfold uR;split
 ·split
  ·rename_i y;exact⟨y⟩
  ·exact⟨h.a⟩
 ·exact h
theorem UE{B:d9}{n:Nat}{s:Rs}(h:dU B s):dU B (wR B n s).2:=by
 unfold wR;split
 ·split
  ·rename_i y;exact⟨y⟩
  ·exact⟨h.a⟩
 ·exact h
theorem ri{B:d9}{n:Nat}{s:Rs}(h:dU B s):dU B (bR B n s).2:=by
 unfold bR;split
 ·split
  ·split
   ·split
    ·rename_i y;exact⟨by show s.a+(2+_)<=_;omega⟩
    ·exact⟨h.a⟩
   ·exact⟨h.a⟩
  ·exact⟨h.a⟩
 ·exact h
theorem f74(B:d9)(C:B.length<=1000000000):call T 74 [.byt B .no] [] 0=some ⟨.ptr 100 0,[(100,rdO B 60 ⟨0,0⟩)],[60]⟩:=by
 rw[aj xyG];unfold rdO;have h:0+B.length<=140737488355328:=by omega
 have y:B.length<=140737488355328:=by omega
 simp only[go_sem,Qe,Qh,Qi,Qj,Qk,reduceCtorEq,reduceIte,y,ay]
theorem xh6(B:d9)(a e x:Int):call T 124 [.ptr 0 0,.int .i64 x] [.rc [.byt B (.id 50),.int .i64 a,.int .i64 e]] 1=some ⟨.tup [],[(0,.rc [.byt B (.id 60),.int .i64 a,.int .i64 x])],[60]⟩:=by rw[aj xsI];simp only[go_sem,Qe,Qh,Qi,Qj,Qk,reduceCtorEq,reduceIte]
theorem f125(B:d9)(e:Int)(O:B.length<=1000000000)(a n p:Nat)(L:a<=B.length)(J:p<=1000000000)(hn:n<=1000000):call T 125 [.ptr 0 0,.int .i64 a,.int .i64 n] [.rc [.byt B (.id 50),.int .i64 p,.int .i64 e]] 1=
 if a+n<=B.length then some ⟨.tup [.byt ((B.drop a).take n) .no,.int .i64 0],[(0,.rc [.byt B (.id 60),.int .i64 p,.int .i64 e])],[60]⟩else some ⟨.tup [.byt [] .no,.int .i64 2],[(0,.rc [.byt B (.id 60),.int .i64 p,.int .i64 e])],[60]⟩:=by
 have C:af.wrap ((B.length:Int)-(a:Int))=((B.length-a:Nat):Int):=wZ (by omega)
 have F:af.wrap ((a:Int)+(n:Int))=((a+n:Nat):Int):=wZ (by omega)
 rw[aj xsH]
 by_cases h:a+n<=B.length
 ·rw[if_pos h]
  have y:¬B.length-a<n:=by omega
  have I:a<=a+n:=by omega
  have E:(B.take (a+n)).drop a=(B.drop a).take n:=by rw[fY];congr 1;omega
  simp only[go_sem,Qe,Qh,Qi,Qj,Qk,reduceCtorEq,reduceIte,C,F,h,y,I,E]
 ·rw[if_neg h]
  have y:B.length-a<n:=by omega
  simp only[go_sem,Qe,Qh,Qi,Qj,Qk,reduceCtorEq,reduceIte,C,y]
theorem l75(t:Nat)(O:aH)(n:Int)(X:d9)(hX:X.length<=6)(I:∃B s,O=rdO B t s):∀(m i v:Nat),X.length-i=m->i<=X.length->v<256^i->
 run T (.loop BL) ⟨[(0,.ptr 0 0),(1,.int .i64 n),(7,.int .u64 v),(38,.byt X .no),(39,.int .i64 X.length),(40,.int .i64 i)],[(0,O)],[t]⟩=
  some (.x 0,⟨[(0,.ptr 0 0),(1,.int .i64 n),(7,.int .u64 ((nF v (X.drop i):Nat):Int))],[(0,O)],[t]⟩):=by
 obtain⟨B,s,rfl⟩:=I;intro m;induction m with
 |zero=>
  intro i v L W E;have:i=X.length:=by omega
  subst this;rw[bw,ai];simp only[rdO,go_sem,Qh,Qj,Qk,reduceCtorEq,reduceIte,nF,fo]
 |succ m Z=>
  intro i v L W E;have hi:i<X.length:=by omega
  have y:(i:Int)<(X.length:Int):=by omega
  have Q:=cg i (by omega)
  have F:v<1099511627776:=by
   have:256^i<=256^5:=Nat.pow_le_pow_right (by decide) (by omega);have C:(256:Nat)^5=1099511627776:=by decide
   omega
  have C:=Iu [X.getD i 0] v i E;have h:=Z (i+1) (v*256+(X.getD i 0).toNat) (by omega) (by omega) C;have ho:=orW v F (X.getD i 0);have hd:nF v (X.drop i)=nF (v*256+(X.getD i 0).toNat) (X.drop (i+1)):=by rw[dB X i hi];rfl
  rw[hd];generalize J:X.getD i 0=c at*;rw[ai];simp only[rdO]at h ⊢;simp only[go_sem,Q2,Q3,Qh,Qj,Qk,reduceCtorEq,reduceIte,y,Q,J,ho,h]
theorem f75(B:d9)(Q:B.length<=1000000000)(n:Nat)(Z:1<=n)(h6:n<=6)(s:Rs)(W:dU B s):call T 75 [.ptr 0 0,.int .i64 n] [rdO B 50 s] 1=some ⟨.int .i64 (uR B n s).1,[(0,rdO B 60 (uR B n s).2)],[60]⟩:=by
 have O:=W.a;have C:=f125 B 0 Q s.a n s.a O (by omega) (by omega);have I:=xh6 B s.a 0 2;have hX:((B.drop s.a).take n).length<=6:=by rw[aq];omega
 have E:=l75 31060 (rdO B 31060 s) n ((B.drop s.a).take n) hX ⟨B,s,rfl⟩ _ 0 0 rfl (aX _) (by decide);have F:=yL _ hX;have n1:¬(n:Int)<1:=by omega
 have n8:¬(8:Int)<n:=by omega
 have J:af.wrap ((s.a:Int)+(n:Int))=((s.a+n:Nat):Int):=wZ (by omega)
 rw[aj xyF];unfold uR
 by_cases y:s.e=0
 ·rw[if_pos y]
  obtain⟨a,e⟩:=s;simp only at y C I E J F;subst y
  by_cases h:a+n<=B.length
  ·rw[if_pos h]at C
   rw[if_pos h];rw[ay,aW]at E;change run T _ _=some (Ex.x 0,⟨[(0,SV.ptr 0 0),(1,SV.int .i64 n),(7,SV.int .u64 ((nB ((B.drop a).take n):Nat):Int))],_,_⟩)at E;have L:¬(9223372036854775807:Int)<((nB ((B.drop a).take n):Nat):Int):=by omega
   have m2:af.wrap ((nB ((B.drop a).take n):Nat):Int)=((nB ((B.drop a).take n):Nat):Int):=w64 (by omega) (by omega);generalize nB ((B.drop a).take n)=V at*;generalize (B.drop a).take n=X at*;simp only[rdO]at E ⊢;simp only[go_sem,Qe,Qg,Qh,Qi,Qj,Qk,reduceCtorEq,reduceIte,n1,n8,C,ry,E,L,m2,J]
  ·rw[if_neg h]at C
   rw[if_neg h];simp only[rdO];simp only[go_sem,Q5,Qe,Qg,Qh,Qi,Qj,Qk,reduceCtorEq,reduceIte,n1,n8,C,ry,I,Bv]
 ·rw[if_neg y]
  obtain⟨a,e⟩:=s;simp only at y;simp only[rdO];simp only[go_sem,Qe,Qh,Qi,Qj,Qk,reduceCtorEq,reduceIte,y]
theorem f78(B:d9)(L:B.length<=1000000000)(n:Nat)(Q:n<=1000000)(s:Rs)(O:dU B s):call T 78 [.ptr 0 0,.int .i64 n] [rdO B 50 s] 1=some ⟨.byt (wR B n s).1 .no,[(0,rdO B 60 (wR B n s).2)],[60]⟩:=by
 have J:=O.a;have C:=f125 B 0 L s.a n s.a J (by omega) (by omega);have F:=xh6 B s.a 0 2;have n1:¬(n:Int)<0:=by omega
 have I:af.wrap ((s.a:Int)+(n:Int))=((s.a+n:Nat):Int):=wZ (by omega)
 have hX:0+((B.drop s.a).take n).length<=140737488355328:=by rw[aq];omega
 have E:((B.drop s.a).take n).length<=140737488355328:=by rw[aq];omega
 rw[aj xyC];unfold wR
 by_cases y:s.e=0
 ·rw[if_pos y]
  obtain⟨a,e⟩:=s;simp only at y C F I hX E;subst y
  by_cases h:a+n<=B.length
  ·rw[if_pos h]at C
   rw[if_pos h];generalize (B.drop a).take n=X at*;simp only[rdO];simp only[go_sem,Qe,Qg,Qh,Qi,Qj,Qk,reduceCtorEq,reduceIte,n1,C,ry,I,E]
  ·rw[if_neg h]at C
   rw[if_neg h];simp only[rdO];simp only[go_sem,Q5,Qe,Qg,Qh,Qi,Qj,Qk,reduceCtorEq,reduceIte,n1,C,ry,F,Bv]
 ·rw[if_neg y]
  obtain⟨a,e⟩:=s;simp only at y;simp only[rdO];simp only[go_sem,Qe,Qh,Qi,Qj,Qk,reduceCtorEq,reduceIte,y]
theorem f77(B:d9)(s:Rs):call T 77 [.ptr 0 0] [rdO B 50 s] 1=some ⟨.int .i64 s.e,[(0,rdO B 60 s)],[60]⟩:=by rw[aj xyD];simp only[rdO];simp only[go_sem,Qe,Qh,Qi,Qj,Qk,reduceCtorEq,reduceIte]
theorem xxX(B:d9)(E:B.length<=1000000000)(s:Rs)(h:dU B s):call T 126 [.ptr 0 0] [rdO B 50 s] 1=some ⟨.int .i64 ((B.length-s.a:Nat):Int),[(0,rdO B 60 s)],[60]⟩:=by
 have C:=h.a;have y:af.wrap ((B.length:Int)-(s.a:Int))=((B.length-s.a:Nat):Int):=wZ (by omega)
 rw[aj xsG];simp only[rdO];simp only[go_sem,Qe,Qh,Qi,Qj,Qk,reduceCtorEq,reduceIte,y]
theorem f79(B:d9)(F:B.length<=1000000000)(s:Rs)(E:dU B s):call T 79 [.ptr 0 0] [rdO B 50 s] 1=some ⟨.int .i64 (eR B s),[(0,rdO B 60 s)],[60]⟩:=by
 have g:=xxX B F s E;rw[aj xyB];unfold eR;obtain⟨a,e⟩:=s;simp only[rdO]at g ⊢
 by_cases C:e=0
 ·subst C
  by_cases h:a<B.length
  ·have y:(0:Int)<((B.length-a:Nat):Int):=by omega
   simp only[go_sem,Qe,Qg,Qh,Qi,Qj,Qk,reduceCtorEq,reduceIte,g,xiY,h,y]
  ·have y:¬(0:Int)<((B.length-a:Nat):Int):=by omega
   simp only[go_sem,Qe,Qg,Qh,Qi,Qj,Qk,reduceCtorEq,reduceIte,g,xiY,h,y]
 ·simp only[go_sem,Qe,Qg,Qh,Qi,Qj,Qk,reduceCtorEq,reduceIte,C]
theorem xrr(B:d9)(a:Nat)(h:a+2<=B.length):∃x y,(B.drop a).take 2=[x,y]:=by
 have:((B.drop a).take 2).length=2:=by rw[aq,aG];omega
 match (B.drop a).take 2,this with
 |[x,y],_=>exact⟨x,y,rfl⟩
theorem xu5(x y:UInt8):cn .or .i64 (af.wrap ((x.toNat:Int)*2^min 8 64)) (y.toNat:Int)=((nB [x,y]:Nat):Int):=by
 have E:=x.toNat_lt;have F:=y.toNat_lt;have p:((2:Int)^min 8 64)=256:=by decide
 have e:af.wrap ((x.toNat:Int)*2^min 8 64)=((x.toNat*256:Nat):Int):=by rw[p,w64 (by omega) (by omega)];omega
 rw[e];unfold cn;simp only[BitVec.ofInt_natCast]
 have h:(BitVec.ofNat 64 (x.toNat*256)|||BitVec.ofNat 64 y.toNat).toNat=x.toNat*256+y.toNat:=by rw[BitVec.toNat_or,BitVec.toNat_ofNat,BitVec.toNat_ofNat,cH (by omega),cH (by omega)];have:=Nat.two_pow_add_eq_or_of_lt (i:=8) (b:=y.toNat) (by omega) x.toNat;rw[show(2:Nat)^8=256 from by decide]at this;rw[cM x.toNat 256,<-this]
 show af.wrap (((BitVec.ofNat 64 (x.toNat*256)|||BitVec.ofNat 64 y.toNat).toNat:Nat):Int)=_;have C:nB [x,y]=x.toNat*256+y.toNat:=by simp[nB,nF]
 rw[h,C,w64 (by omega) (by omega)]
theorem f76(B:d9)(hB:B.length<=1000000000)(m:Nat)(hm:m<=65535)(s:Rs)(hs:dU B s):call T 76 [.ptr 0 0,.int .i64 m] [rdO B 50 s] 1=some ⟨.byt (bR B m s).1 .no,[(0,rdO B 60 (bR B m s).2)],[60]⟩:=by
 have ha:=hs.a;have E:=f125 B 0 hB s.a 2 s.a ha (by omega) (by omega);have Q:=xh6 B s.a 0 2;have g4:=xh6 B s.a 0 4;rw[show((2:Nat):Int)=2 from rfl]at E;rw[aj xyE];unfold bR
 by_cases F:s.e=0
 ·rw[if_pos F]
  obtain⟨a,e⟩:=s;simp only at F E Q g4 ha;subst F
  by_cases h:a+2<=B.length
  ·rw[if_pos h]at E
   rw[if_pos h];obtain⟨x,y,O⟩:=xrr B a h;simp only[O]at E ⊢;have Z:=xu5 x y
   have hn:nB [x,y]<65536:=by
    have:=Iv [x,y];have p:(256:Nat)^ [x,y].length=65536:=by show(256:Nat)^2=65536;decide
    omega
   have e1:af.wrap ((a:Int)+2)=((a+2:Nat):Int):=wZ (by omega)
   have e2:af.wrap (2+((nB [x,y]:Nat):Int))=((2+nB [x,y]:Nat):Int):=wZ (by omega)
   have e3:af.wrap ((a:Int)+((2+nB [x,y]:Nat):Int))=((a+(2+nB [x,y]):Nat):Int):=wZ (by omega)
   have J:=f125 B 0 hB (a+2) (nB [x,y]) a h (by omega) (by omega);generalize nB [x,y]=n at*
   by_cases hq:n<=m
   ·have C:¬(m:Int)<(n:Int):=by omega
    have I:¬m<n:=by omega
    rw[if_pos hq];have hX:0+((B.drop (a+2)).take n).length<=140737488355328:=by rw[aq];omega
    have W:((B.drop (a+2)).take n).length<=140737488355328:=by rw[aq];omega
    by_cases L:a+2+n<=B.length
    ·rw[if_pos L]at J
     rw[if_pos L];generalize (B.drop (a+2)).take n=X at*;simp only[rdO];simp only[go_sem,Q2,Q3,Q4,Qe,Qg,Qh,Qi,Qj,Qk,reduceCtorEq,reduceIte,E,ry,Z,C,J,e1,e2,e3,W]
    ·rw[if_neg L]at J
     rw[if_neg L];simp only[rdO];simp only[go_sem,Q2,Q3,Q4,Q5,Qe,Qg,Qh,Qi,Qj,Qk,reduceCtorEq,reduceIte,E,ry,Z,C,J,e1,Q,Bv]
   ·have C:(m:Int)<(n:Int):=by omega
    have I:m<n:=by omega
    rw[if_neg hq];simp only[rdO];simp only[go_sem,Q2,Q3,Q4,Qe,Qg,Qh,Qi,Qj,Qk,reduceCtorEq,reduceIte,E,ry,Z,C,g4,Bv]
  ·rw[if_neg h]at E
   rw[if_neg h];simp only[rdO];simp only[go_sem,Q5,Qe,Qg,Qh,Qi,Qj,Qk,reduceCtorEq,reduceIte,E,ry,Q,Bv]
 ·rw[if_neg F]
  obtain⟨a,e⟩:=s;simp only at F;simp only[rdO];simp only[go_sem,Qe,Qh,Qi,Qj,Qk,reduceCtorEq,reduceIte,F]
def rqO(B:d9)(s:Rs):aH:= .rc [.byt B .no,.int .i64 s.a,.int .i64 s.e]
theorem f93(B:d9):call T 93 [.byt B .no] [] 0=some ⟨.ptr 100 0,[(100,rqO B ⟨0,0⟩)],[]⟩:=by rw[aj xyp];unfold rqO;simp only[go_sem,Qe,Qh,Qi,Qj,Qk,reduceCtorEq,reduceIte,ay]
theorem xh5(B:d9)(J:B.length<=1000000000)(s:Rs)(I:dU B s)(n:Nat)(hn:n<=1000000):call T 138 [.ptr 0 0,.int .i64 n] [rqO B s] 0=
 if s.e=0 then(if s.a+n<=B.length then some ⟨.bool true,[(0,rqO B s)],[]⟩else some ⟨.bool false,[(0,rqO B ⟨s.a,2⟩)],[]⟩)else some ⟨.bool false,[(0,rqO B s)],[]⟩:=by
 have F:=I.a;have C:af.wrap ((B.length:Int)-(s.a:Int))=((B.length-s.a:Nat):Int):=wZ (by omega)
 obtain⟨a,e⟩:=s;simp only[rqO]at C F ⊢;rw[aj xsA]
 by_cases y:e=0
 ·subst y
  rw[if_pos rfl]
  by_cases h:a+n<=B.length
  ·have E:¬B.length-a<n:=by omega
   rw[if_pos h];simp only[go_sem,Qe,Qh,Qi,Qj,Qk,reduceCtorEq,reduceIte,C,E]
  ·have E:B.length-a<n:=by omega
   rw[if_neg h];simp only[go_sem,Q5,Qe,Qh,Qi,Qj,Qk,reduceCtorEq,reduceIte,C,E]
 ·rw[if_neg y]
  simp only[go_sem,Qe,Qh,Qi,Qj,Qk,reduceCtorEq,reduceIte,y]
theorem xxU(B:d9)(E:B.length<=1000000000)(s:Rs)(h:dU B s):call T 139 [.ptr 0 0] [rqO B s] 0=some ⟨.int .i64 ((B.length-s.a:Nat):Int),[(0,rqO B s)],[]⟩:=by
 have C:=h.a;have y:af.wrap ((B.length:Int)-(s.a:Int))=((B.length-s.a:Nat):Int):=wZ (by omega)
 rw[aj xsz];simp only[rqO];simp only[go_sem,Qe,Qh,Qi,Qj,Qk,reduceCtorEq,reduceIte,y]
theorem f97(B:d9)(F:B.length<=1000000000)(s:Rs)(E:dU B s):call T 97 [.ptr 0 0] [rqO B s] 0=some ⟨.int .i64 (eR B s),[(0,rqO B s)],[]⟩:=by
 have g:=xxU B F s E;rw[aj xyl];unfold eR;obtain⟨a,e⟩:=s;simp only[rqO]at g ⊢
 by_cases C:e=0
 ·subst C
  by_cases h:a<B.length
  ·have y:(0:Int)<((B.length-a:Nat):Int):=by omega
   simp only[go_sem,Qe,Qg,Qh,Qi,Qj,Qk,reduceCtorEq,reduceIte,g,xiU,h,y]
  ·have y:¬(0:Int)<((B.length-a:Nat):Int):=by omega
   simp only[go_sem,Qe,Qg,Qh,Qi,Qj,Qk,reduceCtorEq,reduceIte,g,xiU,h,y]
 ·simp only[go_sem,Qe,Qg,Qh,Qi,Qj,Qk,reduceCtorEq,reduceIte,C]
theorem l94(B:d9)(hB:B.length<=1000000000)(a n:Nat)(h6:n<=6)(hl:a+n<=B.length):∀(m i v:Nat),n-i=m->i<=n->v<256^i->
 run T (.loop BJ) ⟨[(0,.ptr 0 0),(1,.int .i64 n),(5,.int .u64 v),(6,.int .i64 i)],[(0,rqO B ⟨a,0⟩)],[]⟩=
  some (.x 0,⟨[(0,.ptr 0 0),(1,.int .i64 n),(5,.int .u64 ((nF v ((B.drop (a+i)).take (n-i)):Nat):Int))],[(0,rqO B ⟨a,0⟩)],[]⟩):=by
 intro m;induction m with
 |zero=>
  intro i v O W F;have:i=n:=by omega
  subst this;rw[sA,List.take_zero,ai];simp only[rqO,go_sem,Qh,Qj,Qk,reduceCtorEq,reduceIte,nF,fo]
 |succ m Z=>
  intro i v O W F;have hi:i<n:=by omega
  have C:(i:Int)<(n:Int):=by omega
  have Q:=cg i (by omega);have e2:af.wrap ((a:Int)+(i:Int))=((a+i:Nat):Int):=wZ (by omega)
  have y:a+i<B.length:=by omega
  have J:v<1099511627776:=by
   have:256^i<=256^5:=Nat.pow_le_pow_right (by decide) (by omega);have E:(256:Nat)^5=1099511627776:=by decide
   omega
  have E:=Iu [B.getD (a+i) 0] v i F;have h:=Z (i+1) (v*256+(B.getD (a+i) 0).toNat) (by omega) (by omega) E;have I:=orW v J (B.getD (a+i) 0)
  have hd:nF v ((B.drop (a+i)).take (n-i))=nF (v*256+(B.getD (a+i) 0).toNat) ((B.drop (a+(i+1))).take (n-(i+1))):=by rw[dB B (a+i) y,show n-i=n-(i+1)+1 from by omega,List.take_succ_cons];rfl
  rw[hd];generalize L:B.getD (a+i) 0=c at*;rw[ai];simp only[rqO]at h ⊢;simp only[go_sem,Q2,Q3,Qb,Qc,Qd,Qe,Qh,Qi,Qj,Qk,reduceCtorEq,reduceIte,C,y,Q,e2,L,I,h]
theorem f94(B:d9)(I:B.length<=1000000000)(n:Nat)(W:1<=n)(Q:n<=6)(s:Rs)(J:dU B s):call T 94 [.ptr 0 0,.int .i64 n] [rqO B s] 0=some ⟨.int .i64 (uR B n s).1,[(0,rqO B (uR B n s).2)],[]⟩:=by
 have Z:=J.a;have y:=xh5 B I s J n (by omega);have hX:((B.drop s.a).take n).length<=6:=by rw[aq];omega
 have F:=yL _ hX;have n1:¬(n:Int)<1:=by omega
 have n8:¬(8:Int)<n:=by omega
 have L:af.wrap ((s.a:Int)+(n:Int))=((s.a+n:Nat):Int):=wZ (by omega)
 rw[aj xyo];unfold uR
 by_cases C:s.e=0
 ·rw[if_pos C]at y ⊢
  obtain⟨a,e⟩:=s;simp only at C y L F;subst C
  by_cases h:a+n<=B.length
  ·rw[if_pos h]at y
   rw[if_pos h];have E:=l94 B I a n Q h _ 0 0 rfl (aX _) (by decide);rw[ay,ft,Nat.sub_zero]at E;change run T _ _=some (Ex.x 0,⟨[(0,SV.ptr 0 0),(1,SV.int .i64 n),(5,SV.int .u64 ((nB ((B.drop a).take n):Nat):Int))],_,_⟩)at E;have O:¬(9223372036854775808:Int)<=((nB ((B.drop a).take n):Nat):Int):=by omega
   have m2:af.wrap ((nB ((B.drop a).take n):Nat):Int)=((nB ((B.drop a).take n):Nat):Int):=w64 (by omega) (by omega);generalize nB ((B.drop a).take n)=V at*;simp only[rqO]at E y ⊢;simp only[go_sem,Qe,Qg,Qh,Qi,Qj,Qk,reduceCtorEq,reduceIte,n1,n8,y,rx,E,O,m2,L]
  ·rw[if_neg h]at y
   rw[if_neg h];simp only[rqO]at y ⊢;simp only[go_sem,Qe,Qg,Qh,Qi,Qj,Qk,reduceCtorEq,reduceIte,n1,n8,y,rx]
 ·rw[if_neg C]
  obtain⟨a,e⟩:=s;simp only at C;simp only[rqO];simp only[go_sem,Qe,Qg,Qh,Qi,Qj,Qk,reduceCtorEq,reduceIte,C]
theorem f96(B:d9)(Q:B.length<=1000000000)(n:Nat)(W:n<=1000000)(s:Rs)(O:dU B s):call T 96 [.ptr 0 0,.int .i64 n] [rqO B s] 0=some ⟨.byt (wR B n s).1 .no,[(0,rqO B (wR B n s).2)],[]⟩:=by
 have Z:=O.a;have y:=xh5 B Q s O n W;have n1:¬(n:Int)<0:=by omega
 have J:af.wrap ((s.a:Int)+(n:Int))=((s.a+n:Nat):Int):=wZ (by omega)
 have I:af.wrap (((s.a+n:Nat):Int)-(n:Int))=(s.a:Int):=wZ (by omega)
 have hX:0+((B.drop s.a).take n).length<=140737488355328:=by rw[aq];omega
 have E:((B.drop s.a).take n).length<=140737488355328:=by rw[aq];omega
 have F:(B.take (s.a+n)).drop s.a=(B.drop s.a).take n:=by rw[fY];congr 1;omega
 have L:s.a<=s.a+n:=by omega
 rw[aj xym];unfold wR
 by_cases C:s.e=0
 ·rw[if_pos C]at y ⊢
  obtain⟨a,e⟩:=s;simp only at C y J I hX E F L;subst C
  by_cases h:a+n<=B.length
  ·rw[if_pos h]at y
   rw[if_pos h];simp only[rqO]at y ⊢;simp only[go_sem,Qb,Qc,Qd,Qe,Qg,Qh,Qi,Qj,Qk,reduceCtorEq,reduceIte,n1,y,rx,J,I,L,h,F,E]
  ·rw[if_neg h]at y
   rw[if_neg h];simp only[rqO]at y ⊢;simp only[go_sem,Qe,Qg,Qh,Qi,Qj,Qk,reduceCtorEq,reduceIte,n1,y,rx]
 ·rw[if_neg C]
  obtain⟨a,e⟩:=s;simp only at C;simp only[rqO];simp only[go_sem,Qe,Qg,Qh,Qi,Qj,Qk,reduceCtorEq,reduceIte,C]
theorem f95(B:d9)(hB:B.length<=1000000000)(m:Nat)(hm:m<=65535)(s:Rs)(hs:dU B s):call T 95 [.ptr 0 0,.int .i64 m] [rqO B s] 0=some ⟨.byt (bR B m s).1 .no,[(0,rqO B (bR B m s).2)],[]⟩:=by
 have ha:=hs.a;have C:=xh5 B hB s hs 2 (by omega);rw[show((2:Nat):Int)=2 from rfl]at C;rw[aj xyn];unfold bR
 by_cases J:s.e=0
 ·rw[if_pos J]at C ⊢
  obtain⟨a,e⟩:=s;simp only at J C ha;subst J
  by_cases h:a+2<=B.length
  ·rw[if_pos h]at C
   rw[if_pos h]
   have O:(B.drop a).take 2=[B.getD a 0,B.getD (a+1) 0]:=by rw[dB B a (by omega),dB B (a+1) (by omega)];rfl
   simp only[O];have Z:=xu5 (B.getD a 0) (B.getD (a+1) 0)
   have hn:nB [B.getD a 0,B.getD (a+1) 0]<65536:=by
    have:=Iv [B.getD a 0,B.getD (a+1) 0];have p:(256:Nat)^ [B.getD a 0,B.getD (a+1) 0].length=65536:=by show(256:Nat)^2=65536;decide
    omega
   have e0:=cg a (by omega);have a0:a<B.length:=by omega
   have a1:a+1<B.length:=by omega
   generalize hx:B.getD a 0=x at*;generalize hy:B.getD (a+1) 0=y at*;have e2:af.wrap (2+((nB [x,y]:Nat):Int))=((2+nB [x,y]:Nat):Int):=wZ (by omega)
   have e3:af.wrap ((a:Int)+((2+nB [x,y]:Nat):Int))=((a+(2+nB [x,y]):Nat):Int):=wZ (by omega)
   have e4:af.wrap (((a+(2+nB [x,y]):Nat):Int)-((nB [x,y]:Nat):Int))=((a+2:Nat):Int):=wZ (by omega)
   have I:=xh5 B hB ⟨a,0⟩ ⟨by show a<=_;omega⟩ (2+nB [x,y]) (by omega);rw[if_pos rfl]at I;simp only at I;have h3:∀n,(B.take (a+(2+n))).drop (a+2)=(B.drop (a+2)).take n:=fun n=>by rw[fY];congr 1;omega
   have Q:=h3 (nB [x,y]);generalize nB [x,y]=n at*;have hX:0+((B.drop (a+2)).take n).length<=140737488355328:=by rw[aq];omega
   have W:((B.drop (a+2)).take n).length<=140737488355328:=by rw[aq];omega
   have h4:a+2<=a+(2+n):=by omega
   by_cases hq:n<=m
   ·have E:¬(m:Int)<(n:Int):=by omega
    have L:¬m<n:=by omega
    rw[if_pos hq]
    by_cases hr:a+2+n<=B.length
    ·have F:a+(2+n)<=B.length:=by omega
     rw[if_pos F]at I;rw[if_pos hr];simp only[rqO]at C I ⊢;simp only[go_sem,Q2,Q3,Qb,Qc,Qd,Qe,Qg,Qh,Qi,Qj,Qk,reduceCtorEq,reduceIte,C,rx,hx,hy,Z,a0,a1,e0,E,I,e2,e3,e4,h4,F,Q,W]
    ·have F:¬a+(2+n)<=B.length:=by omega
     rw[if_neg F]at I;rw[if_neg hr];simp only[rqO]at C I ⊢;simp only[go_sem,Q2,Q3,Qe,Qg,Qh,Qi,Qj,Qk,reduceCtorEq,reduceIte,C,rx,hx,hy,Z,a0,a1,e0,E,I,e2]
   ·have E:(m:Int)<(n:Int):=by omega
    have L:m<n:=by omega
    rw[if_neg hq];simp only[rqO]at C ⊢;simp only[go_sem,Q2,Q3,Qe,Qg,Qh,Qi,Qj,Qk,reduceCtorEq,reduceIte,C,rx,hx,hy,Z,a0,a1,e0,E]
  ·rw[if_neg h]at C
   rw[if_neg h];simp only[rqO]at C ⊢;simp only[go_sem,Qe,Qg,Qh,Qi,Qj,Qk,reduceCtorEq,reduceIte,C,rx]
 ·rw[if_neg J]
  obtain⟨a,e⟩:=s;simp only at J;simp only[rqO];simp only[go_sem,Qe,Qg,Qh,Qi,Qj,Qk,reduceCtorEq,reduceIte,J]
def bu(k:Nat)(v:Int):d9:=be k (aQ.wrap v)
theorem K8(v s:Nat):(iF (v:Int) s).toNat=v/2^s % 256:=by
 unfold iF
 have e:Int.fdiv (v:Int) (2^s)=((v/2^s:Nat):Int):=by
  have p:((2:Int)^s)=((2^s:Nat):Int):=by rw[Int.natCast_pow];rfl
  rw[p,jc _ (Int.natCast_nonneg _)];rfl
 rw[e];show(b8 ((v/2^s:Nat):Int)).toNat=_;generalize v/2^s=q;simp[b8];omega
theorem xhQ:∀(k a v:Nat),nF a (be k (v:Int))=a*256^k+v % 256^k
 |0,a,v=>by simp[be,nF,Nat.mod_one]
 |k+1,a,v=>by
  have h:(iF (v:Int) (8*k)).toNat=v/256^k % 256:=by rw[K8,Nat.pow_mul]
  show nF (a*256+(iF (v:Int) (8*k)).toNat) (be k (v:Int))=_;rw[xhQ k,h,Nat.mod_pow_succ,Nat.pow_succ,bE,Nat.mul_assoc a,cM 256,cM (v/256^k % 256)];omega
theorem ku(k:Nat)(v:Int)(y:0<=v)(C:v<((256^k:Nat):Int))(h:v<18446744073709551616):((nB (bu k v):Nat):Int)=v:=by
 unfold bu nB;have e:aQ.wrap v=((v.toNat:Nat):Int):=by rw[bO];omega
 rw[e,xhQ,ip,bT,cH (by omega)];omega
theorem rj{B P X S:d9}(h:B=P++(X++S)):(B.drop P.length).take X.length=X/\P.length+X.length<=B.length:=by
 subst h;constructor
 ·rw[List.drop_left',List.take_left']
  ·rfl
  ·rfl
 ·rw[ae,ae];omega
theorem jM{B P X S:d9}(n:Nat)(h:B=P++(X++S))(hn:X.length=n):uR B n ⟨P.length,0⟩=(((nB X:Nat):Int),⟨(P++X).length,0⟩):=by subst hn;obtain⟨y,C⟩:=rj h;unfold uR;rw[if_pos rfl];simp only;rw[if_pos C,y,ae]
theorem xa6{B P X S:d9}(n:Nat)(h:B=P++(X++S))(hn:X.length=n):wR B n ⟨P.length,0⟩=(X,⟨(P++X).length,0⟩):=by subst hn;obtain⟨y,C⟩:=rj h;unfold wR;rw[if_pos rfl];simp only;rw[if_pos C,y,ae]
theorem pp1:((256^1:Nat):Int)=256:=by decide
theorem pp4:((256^4:Nat):Int)=4294967296:=by decide
theorem pp6:((256^6:Nat):Int)=281474976710656:=by decide
structure Wd where
 man:List UInt8
 frm:Int
 deriving DecidableEq
def Wd.sv(w:Wd):t8:=[.byt w.man .no,.int .i64 w.frm]
def nV(w:Wd):Prop:=w.man.length=32/\0<=w.frm/\w.frm<=1099511627776
instance (w:Wd):Decidable (nV w):=by unfold nV;infer_instance
def fW(w:Wd):d9:=if nV w then 22::(w.man++be 6 (aQ.wrap w.frm))else []
theorem f35(w:Wd):call T 35 [.agg w.sv] [] 0=some ⟨.byt (fW w) .no,[],[]⟩:=by
 obtain⟨m,f⟩:=w;unfold fW nV Wd.sv;rw[aj xy4]
 by_cases F:m.length=32
 ·have h:(m.length:Int)=32:=by omega
  by_cases C:f<0
  ·have y:¬(m.length=32/\0<=f/\f<=1099511627776):=by omega
   simp only[go_sem,Qe,Qh,Qi,Qj,Qk,reduceCtorEq,reduceIte,h,C,y]
  ·by_cases I:1099511627776<f
   ·have y:¬(m.length=32/\0<=f/\f<=1099511627776):=by omega
    simp only[go_sem,Qe,Qh,Qi,Qj,Qk,reduceCtorEq,reduceIte,h,C,I,y]
   ·have y:m.length=32/\0<=f/\f<=1099511627776:=by omega
    have E:=f64 (22::m) 6 f (by decide) (by decide) (by rw[al,F];decide);rw[c6]at E;simp only[go_sem,Qb,Qc,Qd,Qe,Qg,Qh,Qi,Qj,Qk,reduceCtorEq,reduceIte,F,C,I,y,E,Gv,bi,aE]
    trace_state
 ·have h:¬(m.length:Int)=32:=by omega
  have y:¬(m.length=32/\0<=f/\f<=1099511627776):=by omega
  simp only[go_sem,Qe,Qh,Qi,Qj,Qk,reduceCtorEq,reduceIte,h,y]
def wT(B:d9):Int×Rs:=uR B 1 ⟨0,0⟩
def wM(B:d9):d9×Rs:=wR B 32 (wT B).2
def wF(B:d9):Int×Rs:=uR B 6 (wM B).2
def wdP(B:d9):Prop:=eR B (wF B).2=0/\(wT B).1=22/\(wF B).1<=1099511627776
instance (B:List UInt8):Decidable (wdP B):=by unfold wdP;infer_instance
def lJ(B:d9):Option Wd:=if wdP B then some ⟨(wM B).1,(wF B).1⟩else none
def wdO:Option Wd->SV
 |some w=> .tup [.agg w.sv,.int .i64 0]
 |none=> .tup [.agg [.byt [] .no,.int .i64 0],.int .i64 30]
theorem f49(B:d9)(L:B.length<=1000000000):call T 49 [.byt B .no] [] 0=some ⟨wdO (lJ B),[],[]⟩:=by
 have o0:dU B ⟨0,0⟩:=⟨aX _⟩;have Z:dU B (wT B).2:=eX o0;have o2:dU B (wM B).2:=UE Z;have o3:dU B (wF B).2:=eX o2;have g0:=f74 B L;have h:=f75 B L 1 (by decide) (by decide) ⟨0,0⟩ o0;have y:=f78 B L 32 (by decide) (wT B).2 Z;have C:=f75 B L 6 (by decide) (by decide) (wM B).2 o2;have F:=f79 B L (wF B).2 o3;change call T 75 _ _ _=some ⟨.int .i64 (wT B).1,[(0,rdO B 60 (wT B).2)],[60]⟩at h;change call T 78 _ _ _=some ⟨.byt (wM B).1 .no,[(0,rdO B 60 (wM B).2)],[60]⟩at y;change call T 75 _ _ _=some ⟨.int .i64 (wF B).1,[(0,rdO B 60 (wF B).2)],[60]⟩at C;rw[c1]at h;rw[c32]at y;rw[c6]at C
 by_cases J:wdP B
 ·rw[show lJ B=some ⟨(wM B).1,(wF B).1⟩from if_pos J]
  obtain⟨I,E,h4⟩:=J;have O:¬1099511627776<(wF B).1:=by omega
  generalize wT B=t at*;generalize wM B=m at*;generalize wF B=f at*;obtain⟨W,t2⟩:=t;obtain⟨m1,m2⟩:=m;obtain⟨f1,Q⟩:=f;simp only[rdO,ay]at g0 h y C F I E O ⊢;generalize eR B Q=e at*;rw[aj xvA];simp only[go_sem,Qe,Qg,Qh,Qi,Qj,Qk,reduceCtorEq,reduceIte,g0,h,y,C,F,Gs,rq,Bs,Gr,I,E,O,wdO,Wd.sv]
 ·rw[show lJ B=none from if_neg J]
  unfold wdP at J;generalize wT B=t at*;generalize wM B=m at*;generalize wF B=f at*;obtain⟨W,t2⟩:=t;obtain⟨m1,m2⟩:=m;obtain⟨f1,Q⟩:=f;simp only[rdO,ay]at g0 h y C F J ⊢;generalize eR B Q=e at*;rw[aj xvA]
  by_cases I:e=0
  ·by_cases E:W=22
   ·have O:1099511627776<f1:=by omega
    simp only[go_sem,Qe,Qg,Qh,Qi,Qj,Qk,reduceCtorEq,reduceIte,g0,h,y,C,F,Gs,rq,Bs,Gr,I,E,O,wdO]
   ·simp only[go_sem,Qe,Qg,Qh,Qi,Qj,Qk,reduceCtorEq,reduceIte,g0,h,y,C,F,Gs,rq,Bs,Gr,I,E,wdO]
  ·by_cases E:W=22
   ·simp only[go_sem,Qe,Qg,Qh,Qi,Qj,Qk,reduceCtorEq,reduceIte,g0,h,y,C,F,Gs,rq,Bs,Gr,I,E,wdO]
   ·simp only[go_sem,Qe,Qg,Qh,Qi,Qj,Qk,reduceCtorEq,reduceIte,g0,h,y,C,F,Gs,rq,Bs,Gr,I,E,wdO]
theorem f54(B:d9)(O:B.length<=1000000000):call T 54 [.byt B .no] [] 0=some ⟨wdO (lJ B),[],[]⟩:=by
 have o0:dU B ⟨0,0⟩:=⟨aX _⟩;have Z:dU B (wT B).2:=eX o0;have o2:dU B (wM B).2:=UE Z;have o3:dU B (wF B).2:=eX o2;have g0:=f93 B;have h:=f94 B O 1 (by decide) (by decide) ⟨0,0⟩ o0;have y:=f96 B O 32 (by decide) (wT B).2 Z;have C:=f94 B O 6 (by decide) (by decide) (wM B).2 o2;have F:=f97 B O (wF B).2 o3;change call T 94 _ _ _=some ⟨.int .i64 (wT B).1,[(0,rqO B (wT B).2)],[]⟩at h;change call T 96 _ _ _=some ⟨.byt (wM B).1 .no,[(0,rqO B (wM B).2)],[]⟩at y;change call T 94 _ _ _=some ⟨.int .i64 (wF B).1,[(0,rqO B (wF B).2)],[]⟩at C;rw[c1]at h;rw[c32]at y;rw[c6]at C
 by_cases J:wdP B
 ·rw[show lJ B=some ⟨(wM B).1,(wF B).1⟩from if_pos J]
  obtain⟨I,E,h4⟩:=J;have L:¬1099511627776<(wF B).1:=by omega
  generalize wT B=t at*;generalize wM B=m at*;generalize wF B=f at*;obtain⟨W,t2⟩:=t;obtain⟨m1,m2⟩:=m;obtain⟨f1,Q⟩:=f;simp only[rqO,ay]at g0 h y C F I E L ⊢;generalize eR B Q=e at*;rw[aj xvy];simp only[go_sem,Qe,Qg,Qh,Qi,Qj,Qk,reduceCtorEq,reduceIte,g0,h,y,C,F,Ja,rp,I9,Gp,I,E,L,wdO,Wd.sv]
 ·rw[show lJ B=none from if_neg J]
  unfold wdP at J;generalize wT B=t at*;generalize wM B=m at*;generalize wF B=f at*;obtain⟨W,t2⟩:=t;obtain⟨m1,m2⟩:=m;obtain⟨f1,Q⟩:=f;simp only[rqO,ay]at g0 h y C F J ⊢;generalize eR B Q=e at*;rw[aj xvy]
  by_cases I:e=0
  ·by_cases E:W=22
   ·have L:1099511627776<f1:=by omega
    simp only[go_sem,Qe,Qg,Qh,Qi,Qj,Qk,reduceCtorEq,reduceIte,g0,h,y,C,F,Ja,rp,I9,Gp,I,E,L,wdO]
   ·simp only[go_sem,Qe,Qg,Qh,Qi,Qj,Qk,reduceCtorEq,reduceIte,g0,h,y,C,F,Ja,rp,I9,Gp,I,E,wdO]
  ·by_cases E:W=22
   ·simp only[go_sem,Qe,Qg,Qh,Qi,Qj,Qk,reduceCtorEq,reduceIte,g0,h,y,C,F,Ja,rp,I9,Gp,I,E,wdO]
   ·simp only[go_sem,Qe,Qg,Qh,Qi,Qj,Qk,reduceCtorEq,reduceIte,g0,h,y,C,F,Ja,rp,I9,Gp,I,E,wdO]
theorem f41(v w:Wd)(h:v.man.length<=140737488355328):call T 41 [.agg v.sv,.agg w.sv] [] 0=some ⟨.bool (decide (v=w)),[],[]⟩:=by
 obtain⟨a,b⟩:=v;obtain⟨c,d⟩:=w;have g:=f31 a c h
 by_cases y:b=d
 ·have e:decide ((⟨a,b⟩:Wd)=⟨c,d⟩)=decide (a=c):=by subst y;simp
  rw[e];unfold Wd.sv;rw[aj xvC];simp only[go_sem,Qe,Qh,Qi,Qj,Qk,reduceCtorEq,reduceIte,g,tj,y]
 ·have e:decide ((⟨a,b⟩:Wd)=⟨c,d⟩)=false:=by simp[y]
  rw[e];unfold Wd.sv;rw[aj xvC];simp only[go_sem,Qe,Qh,Qi,Qj,Qk,reduceCtorEq,reduceIte,y]
theorem lI(w:Wd)(h:nV w):(fW w).length=39:=by rw[fW,if_pos h,al,ae,gr,h.1]
theorem zK(w:Wd)(h:nV w):lJ (fW w)=some w:=by
 have J:be 6 (aQ.wrap w.frm)=bu 6 w.frm:=rfl;have e:fW w=[]++([22]++(w.man++bu 6 w.frm)):=by rw[fW,if_pos h,J];rfl
 have C:wT (fW w)=(22,⟨1,0⟩):=by have:=jM (B:=fW w) (P:=[]) (X:=[22]) 1 e rfl;exact this
 have F:fW w=[22]++(w.man++bu 6 w.frm):=e
 have E:wM (fW w)=(w.man,⟨33,0⟩):=by have:=xa6 (B:=fW w) (P:=[22]) (X:=w.man) 32 F h.1;rw[ae,h.1]at this;unfold wM;rw[C];exact this
 have L:fW w=([22]++w.man)++(bu 6 w.frm++ []):=by rw[bx,az];exact F
 have hn:=ku 6 w.frm h.2.1 (by rw[pp6];have:=h.2.2;omega) (by have:=h.2.2;omega)
 have y:wF (fW w)=(w.frm,⟨39,0⟩):=by
  have:=jM (B:=fW w) (P:=[22]++w.man) (X:=bu 6 w.frm) 6 L (gr _ _);have I:([22]++w.man).length=33:=by rw[ae,h.1];rfl
  have Q:([22]++w.man++bu 6 w.frm).length=39:=by rw[ae,I,bu,gr]
  rw[I,Q,hn]at this;unfold wF;rw[E];exact this
 have O:wdP (fW w):=by unfold wdP;rw[y,C];refine⟨?_,rfl,h.2.2⟩;unfold eR;rw[lI w h];rfl
 unfold lJ;rw[if_pos O,E,y]
end Go.Proofs.YtbfnljmmepcbfaaGreatDoor
