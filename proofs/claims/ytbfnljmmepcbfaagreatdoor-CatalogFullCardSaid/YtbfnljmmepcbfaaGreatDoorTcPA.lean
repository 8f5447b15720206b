/- What the functions come to. No condition. -/
import Derived.Test.YtbfnljmmepcbfaaGreatDoorTaPA
open Int renaming fdiv_eq_ediv_of_nonneg -> ic, natCast_zero -> aD, tmod_eq_emod_of_nonneg -> ib
open Go.IntKind renaming i64 -> ah, u32 -> c9
open List renaming append_assoc -> ay, append_nil -> bG, cons_append -> bg, drop_eq_getElem_cons -> bE, drop_eq_nil_of_le -> bD, drop_length -> bP, drop_zero -> bh, flatMap_cons -> eo, flatMap_nil -> fp, foldl_cons -> dO, foldl_nil -> nH, getD_eq_getElem?_getD -> aa, getElem?_eq_getElem -> ac, getElem?_eq_none -> gj, getElem?_map -> aR, getElem?_range -> ch, getElem_mem -> bo, length_append -> af, length_cons -> am, length_drop -> aL, length_map -> aY, length_nil -> aB, length_replicate -> jS, length_singleton -> br, length_take -> ax, map_append -> du, map_cons -> aF, map_nil -> bX, mem_append -> al, mem_cons -> aw, nil_append -> aI, not_mem_nil -> cR, range -> bA, replicate -> aH, singleton_append -> eI, take_of_length_le -> bj
open Nat renaming le_refl -> aK, mod_eq_of_lt -> cx, zero_add -> bS, zero_le -> bH
open Option renaming getD_some -> aM
open UInt8 renaming ofInt -> cQ, ofNat -> gw
set_option maxRecDepth 100000
set_option maxHeartbeats 16000000
set_option linter.unusedSimpArgs false
set_option linter.unusedVariables false
namespace Go.Proofs.YtbfnljmmepcbfaaGreatDoor
open Go.Sy
open UInt8 renaming reduceLT -> Q0, reduceLE -> Q1
open Int renaming reduceToNat -> Q2, reduceLE -> Q3, reduceLT -> Q4, reduceEq -> Q5, reduceNe -> Q6, reduceNeg -> Q7, reduceAdd -> Q8, reduceSub -> Q9, reduceMul -> Qa
open Nat renaming reducePow -> Qb, reduceDiv -> Qc, reduceMod -> Qd, reduceAdd -> Qe, reduceSub -> Qf, reduceMul -> Qg, reduceLT -> Qh, reduceLeDiff -> Qi, reduceEqDiff -> Qj, reduceBEq -> Qk
def frF(fs:List (List UInt8)):List UInt8:=fs.flatMap fun X=>w4 (X.length:Int)++X
def frL(t:Int)(fs:List (List UInt8)):List UInt8:=cQ t::frF fs
def hsh(t:Int)(fs:List (List UInt8)):List UInt8:=sha (frL t fs)
theorem Re(t:Int)(X:List UInt8):frL t [X]=frame t X:=by simp[frL,frF,frame]
theorem BE(t:Int)(X:List UInt8):hsh t [X]=uf t X:=by rw[hsh,Re];rfl
theorem gY(t:Int)(fs:List (List UInt8)):(hsh t fs).length=32:=lV _
def h16(t:Int)(fs:List (List UInt8)):List UInt8:=(hsh t fs).take 16
theorem eA(t:Int)(fs:List (List UInt8)):(h16 t fs).length=16:=by rw[h16,ax,gY];rfl
def lY(c:UInt8)(key:List UInt8):List UInt8:=(bA 64).map fun i=>key.getD i 0^^^c
def QG(key b:List UInt8):List UInt8:=sha (lY 92 key++sha (lY 54 key++b))
def Np(key label ctx:List UInt8)(n:Nat):List UInt8:=(QG key (w4 1++(label++0::(ctx++w4 (8*(n:Int)))))).take n
theorem vy(key b:List UInt8):(QG key b).length=32:=lV _
theorem vW(key label ctx:List UInt8)(n:Nat)(h:n<=32):(Np key label ctx n).length=n:=by rw[Np,ax,vy];omega
def hi4(b:UInt8):Nat:=b.toNat/16
def lo4(b:UInt8):Nat:=b.toNat % 16
def dg(l:List UInt8):List Nat:=l.flatMap fun b=> [hi4 b,lo4 b]
def sm(l:List UInt8):Nat:=l.foldl (fun s b=>s+((15-hi4 b)+(15-lo4 b))) 0
def ip(msg:List UInt8):List Nat:=dg (h16 4 [msg])++ [sm (h16 4 [msg])/256,sm (h16 4 [msg])/16 % 16,sm (h16 4 [msg]) % 16]
theorem yW(l:List UInt8):(dg l).length=2*l.length:=by
 induction l with
 |nil=>rfl
 |cons b r ih=>simp only[dg,eo,af,am,aB]at*;omega
theorem xgz(l:List UInt8):∀d∈dg l,d<=15:=by intro d hd;simp only[dg,List.mem_flatMap]at hd;obtain⟨b,_,hb⟩:=hd;have:=b.toNat_lt;simp only[aw,cR,or_false]at hb;rcases hb with rfl|rfl<;>simp only[hi4,lo4]<;>omega
theorem NJ(l:List UInt8)(s:Nat):l.foldl (fun s b=>s+((15-hi4 b)+(15-lo4 b))) s<=s+30*l.length:=by
 induction l generalizing s with
 |nil=>simp
 |cons b r ih=>rw[dO,am];have:=ih (s+((15-hi4 b)+(15-lo4 b)));omega
theorem pD(msg:List UInt8):(ip msg).length=35:=by rw[ip,af,yW,eA];rfl
theorem RH(msg:List UInt8):∀d∈ip msg,d<=15:=by
 intro d hd;rcases al.1 hd with h|h
 ·exact xgz _ d h
 ·have h1:=NJ (h16 4 [msg]) 0
  rw[eA]at h1;have h2:sm (h16 4 [msg])<=480:=by unfold sm;omega
  simp only[aw,cR,or_false]at h;rcases h with rfl|rfl|rfl<;>omega
theorem pE(msg:List UInt8)(c:Nat)(hc:c<35):(ip msg).getD c 0<=15:=by refine RH msg _ ?_;rw[aa,ac (by rw[pD];exact hc),aM];exact bo _
def ub(n:Nat):UInt8:=cQ (n:Int)
def wA(leaf c p:Nat)(x:List UInt8):List UInt8:=h16 1 [[ub leaf,ub c,ub p],x]
def gU(leaf c:Nat):Nat->Nat->List UInt8->List UInt8
 |_,0,x=>x
 |p,n+1,x=>gU leaf c (p+1) n (wA leaf c p x)
theorem uI(leaf c:Nat):∀(n m p:Nat)(x:List UInt8),gU leaf c p (n+m) x=gU leaf c (p+n) m (gU leaf c p n x)
 |0,m,p,x=>by simp[gU]
 |n+1,m,p,x=>by rw[show n+1+m=(n+m)+1 from by omega];show gU leaf c (p+1) (n+m) _=_;rw[uI leaf c n m (p+1),show p+1+n=p+(n+1)from by omega];rfl
theorem gz(leaf c:Nat):∀(n p:Nat)(x:List UInt8),x.length=16->(gU leaf c p n x).length=16
 |0,_,_,h=>h
 |n+1,p,x,_=>gz leaf c n (p+1) _ (eA _ _)
def ui:List UInt8:=[99,104,97,105,110]
def mI(seed:List UInt8)(leaf c:Nat):List UInt8:=Np seed ui [ub leaf,ub c] 16
theorem ie(seed:List UInt8)(leaf c:Nat):(mI seed leaf c).length=16:=vW _ _ _ _ (by decide)
def cat(n:Nat)(f:Nat->List UInt8):List UInt8:=(bA n).flatMap f
theorem lQ(n:Nat)(f:Nat->List UInt8):cat (n+1) f=cat n f++f n:=by simp[cat,List.range_succ]
theorem mc(f:Nat->List UInt8):∀n,(∀c,c<n->(f c).length=16)->(cat n f).length=16*n
 |0,_=>rfl
 |n+1,h=>by rw[lQ,af,mc f n (fun c hc=>h c (by omega)),h n (by omega)];omega
theorem BR(f:Nat->List UInt8):∀n,(∀c,c<n->(f c).length=16)->∀c,c<n->((cat n f).drop (16*c)).take 16=f c
 |0,_,_,h=>absurd h (Nat.not_lt_zero _)
 |n+1,h,c,hc=>by
  have hl:=mc f n (fun c hc=>h c (by omega));rw[lQ]
  by_cases e:c<n
  ·rw[List.drop_append_of_le_length (by rw[hl];omega),List.take_append_of_le_length (by rw[aL,hl];omega)]
   exact BR f n (fun c hc=>h c (by omega)) c e
  ·have:c=n:=by omega
   subst this;rw[List.drop_append,hl,Nat.sub_self,bh,bD (by rw[hl];exact aK _),aI];exact bj (by rw[h c (by omega)];exact aK _)
theorem Dy(f g:Nat->List UInt8)(n:Nat)(h:∀c,c<n->f c=g c):cat n f=cat n g:=by
 induction n with
 |zero=>rfl
 |succ n ih=>rw[lQ,lQ,ih (fun c hc=>h c (by omega)),h n (by omega)]
def wh(leaf:Nat)(ends:List UInt8):List UInt8:=h16 2 [[ub leaf],ends]
def pubL(seed:List UInt8)(leaf:Nat):List UInt8:=wh leaf (cat 35 fun c=>gU leaf c 0 15 (mI seed leaf c))
def qQ(seed:List UInt8)(leaf:Nat)(msg:List UInt8):List UInt8:=cat 35 fun c=>gU leaf c 0 ((ip msg).getD c 0) (mI seed leaf c)
def vg(leaf:Nat)(msg sig:List UInt8):List UInt8:=wh leaf (cat 35 fun c=>gU leaf c ((ip msg).getD c 0) (15-(ip msg).getD c 0) ((sig.drop (16*c)).take 16))
theorem ee(seed:List UInt8)(leaf:Nat):(pubL seed leaf).length=16:=eA _ _
theorem lD(seed:List UInt8)(leaf:Nat)(msg:List UInt8):(qQ seed leaf msg).length=560:=mc _ 35 fun c _=>gz _ _ _ _ _ (ie _ _ _)
theorem CQ(seed:List UInt8)(leaf:Nat)(msg:List UInt8):vg leaf msg (qQ seed leaf msg)=pubL seed leaf:=by
 unfold vg pubL
 congr 1
 refine Dy _ _ 35 fun c hc=> ?_
 have h:=pE msg c hc;unfold qQ;rw[BR _ 35 (fun c _=>gz _ _ _ _ _ (ie _ _ _)) c hc];have:=uI leaf c ((ip msg).getD c 0) (15-(ip msg).getD c 0) 0 (mI seed leaf c);rw[bS,show(ip msg).getD c 0+(15-(ip msg).getD c 0)=15 from by omega]at this;exact this.symm
def jw(h i:Nat)(a b:List UInt8):List UInt8:=h16 3 [[ub h,ub i],a,b]
def qr:Nat->Nat->List (List UInt8)->List UInt8->List UInt8
 |_,_,[],x=>x
 |h,i,s::r,x=>qr (h+1) (i/2) r (if i % 2=1 then jw h (i/2) s x else jw h (i/2) x s)
def Ss:List UInt8:=[115,105,103,110,101,114]
def lsV(seed:List UInt8)(height:Nat):List UInt8:=Np seed Ss [ub height] 32
theorem kD(seed:List UInt8)(height:Nat):(lsV seed height).length=32:=vW _ _ _ _ (by decide)
def lvs(seed:List UInt8)(height n:Nat):List (List UInt8):=(bA n).map fun i=>pubL (lsV seed height) i
def xky:List (List UInt8)->List UInt8
 |[a,b]=>jw 0 0 a b
 |[a]=>a
 |_=> []
def iB(seed:List UInt8)(height:Nat):List UInt8:=ub height::xky (lvs seed height (2^height))
def P6(i:Nat):List (List UInt8)->List UInt8
 |[a,b]=>if i=0 then b else a
 |_=> []
def kP(seed:List UInt8)(height leaf:Nat)(msg:List UInt8):List UInt8:=ub leaf::(qQ (lsV seed height) leaf msg++P6 leaf (lvs seed height (2^height)))
def rws:Nat->List UInt8->List (List UInt8)
 |0,_=> []
 |n+1,l=>l.take 16::rws n (l.drop 16)
def jT(pub msg sig:List UInt8):Bool:=
 if pub.length=17/\(pub.getD 0 0).toNat<=3 then
  if sig.length=561+16*(pub.getD 0 0).toNat/\(sig.getD 0 0).toNat<2^(pub.getD 0 0).toNat then
   decide (qr 0 (sig.getD 0 0).toNat (rws (pub.getD 0 0).toNat (sig.drop 561)) (vg (sig.getD 0 0).toNat msg ((sig.drop 1).take 560))=pub.drop 1)
  else false
 else false
theorem zM(seed msg:List UInt8)(leaf:Nat)(h:leaf<2):jT (iB seed 1) msg (kP seed 1 leaf msg)=true:=by
 have h1:=lD (lsV seed 1) leaf msg;have hv:lvs seed 1 (2^1)=[pubL (lsV seed 1) 0,pubL (lsV seed 1) 1]:=rfl;have p0:=ee (lsV seed 1) 0;have p1:=ee (lsV seed 1) 1
 have hb:(ub leaf).toNat=leaf:=by rcases (by omega:leaf=0\/leaf=1)with rfl|rfl<;>rfl
 have hp:(P6 leaf (lvs seed 1 (2^1))).length=16:=by rw[hv,P6];split<;>assumption
 have e1:(iB seed 1).getD 0 0=1:=rfl;have e2:(kP seed 1 leaf msg).getD 0 0=ub leaf:=rfl;have e3:(iB seed 1).length=17:=by rw[iB,am,hv];show(jw 0 0 _ _).length+1=17;rw[jw,eA]
 have e4:(kP seed 1 leaf msg).length=577:=by rw[kP,am,af,h1,hp]
 have e5:((kP seed 1 leaf msg).drop 1).take 560=qQ (lsV seed 1) leaf msg:=by rw[kP,List.drop_succ_cons,bh,List.take_append_of_le_length (by rw[h1];exact aK _),bj (by rw[h1];exact aK _)]
 have e6:rws 1 ((kP seed 1 leaf msg).drop 561)=[P6 leaf (lvs seed 1 (2^1))]:=by
  have:(kP seed 1 leaf msg).drop 561=P6 leaf (lvs seed 1 (2^1)):=by rw[kP,List.drop_succ_cons,List.drop_append,h1,bD (by rw[h1];exact aK _),aI,Nat.sub_self,bh]
  rw[this,rws,rws,bj (by rw[hp];exact aK _)]
 have e7:(1:UInt8).toNat=1:=rfl;unfold jT;rw[e1,e2,e3,e4,e7,hb,e5,e6,CQ,if_pos ⟨rfl,by decide⟩,if_pos ⟨rfl,h⟩,hv];rw[decide_eq_true_iff];have hp2:List.drop 1 (iB seed 1)=jw 0 0 (pubL (lsV seed 1) 0) (pubL (lsV seed 1) 1):=by rw[iB,hv];rfl
 rw[hp2];rcases (by omega:leaf=0\/leaf=1)with rfl|rfl
 ·rw[qr,qr];rfl
 ·rw[qr,qr];rfl
theorem xjA(v:Int)(h0:0<=v)(h1:v<4294967296):call T 167 [.int .i64 v] [] 0=some ⟨.byt (w4 v) (.id 60),[],[60]⟩:=by have m24':min 24 64=24:=rfl;have m16':min 16 64=16:=rfl;have m8':min 8 64=8:=rfl;rw[an xgW];simp only[go_sem,Q2,Q3,Qh,Qi,Qj,Qk,reduceCtorEq,reduceIte,w4,gI,m24',m16',m8']
def xr(c:UInt8)(L:List UInt8)(i:Nat):List UInt8:=(L.take i).map (· ^^^c)++L.drop i
theorem jY(c:UInt8)(K:List UInt8):(lY c K).length=64:=by unfold lY;rw[aY,List.length_range]
def mk(c:UInt8)(K:List UInt8)(i:Nat):List UInt8:=(lY c K).take i++aH (64-i) 0
theorem Bu(c:UInt8)(K:List UInt8):mk c K 0=aH 64 0:=by simp[mk]
theorem Bv(c:UInt8)(K:List UInt8):mk c K 64=lY c K:=by have:=jY c K;simp[mk,bj,this]
theorem M8(c:UInt8)(K:List UInt8)(i:Nat)(h:i<=64):(mk c K i).length=64:=by rw[mk,af,ax,jY,jS];omega
theorem FG(c:UInt8)(K:List UInt8)(i:Nat)(h:i<64):(lY c K)[i]? =some (K.getD i 0^^^c):=by unfold lY;rw[aR,ch h];rfl
theorem M7(c:UInt8)(K:List UInt8)(i:Nat)(h:i<64):(mk c K i).set i (K.getD i 0^^^c)=mk c K (i+1):=by
 have hl:((lY c K).take i).length=i:=by rw[ax,jY];omega
 unfold mk;rw[List.set_append_right _ _ (by rw[hl];exact aK _),hl,Nat.sub_self,show 64-i=(64-(i+1))+1 from by omega,List.replicate_succ,List.set_cons_zero,List.take_add_one,FG c K i h,ay];rfl
theorem xk4(K M:List UInt8)(hK:K.length<=64):∀(n i:Nat),64-i=n->i<=64->
 run T (.loop rZ) ⟨[(0,.byt K .no),(1,.byt M .no),(5,.psl 114 1 0 64 (some 64)),(6,.psl 115 1 0 64 (some 64)),(7,.int .i64 i)],[(114,.bar (mk 54 K i)),(115,.bar (mk 92 K i))],[]⟩=
 some (.x 0,⟨[(1,.byt M .no),(5,.psl 114 1 0 64 (some 64)),(6,.psl 115 1 0 64 (some 64))],[(114,.bar (mk 54 K 64)),(115,.bar (mk 92 K 64))],[]⟩):=by
 intro n;induction n with
 |zero=>
  intro i h0 h1;have hi:i=64:=by omega
  subst hi;rw[ai];simp only[c64,go_sem,Q4,Qh,Qj,Qk,reduceCtorEq,reduceIte]
 |succ n ih=>
  intro i h0 h1;have ih':=ih (i+1) (by omega) (by omega);have e1:=cZ i (by omega);have hlt:(i:Int)<64:=by omega
  have hn:i<64:=by omega
  have l1:=M8 54 K i h1;have l2:=M8 92 K i h1;rw[<-M7 54 K i hn,<-M7 92 K i hn]at ih';rw[ai]
  by_cases hk:i<K.length
  ·have hkI:(i:Int)<(K.length:Int):=by omega
   simp only[go_sem,Qh,Qj,Qk,reduceCtorEq,reduceIte,hlt,e1,hn,hkI,l1,l2,ih']
  ·have hkI:¬(i:Int)<(K.length:Int):=by omega
   have hz:K.getD i 0=0:=by rw[aa,gj (by omega)];rfl
   rw[hz]at ih';simp only[go_sem,Qh,Qj,Qk,reduceCtorEq,reduceIte,hlt,e1,hn,hkI,l1,l2,ih']
theorem xlI(K B:List UInt8)(h:K.length<=64)(hB:B.length<=1000000000):call T 168 [.byt K .no,.byt B .no] [] 0=some ⟨.byt (QG K B) .no,[],[]⟩:=by
 have g:=xk4 K B h 64 0 rfl (by omega);rw[Bu,Bu,Bv,Bv]at g;simp only[aD]at g;have p1:=jY 54 K;have p2:=jY 92 K;have g3:=f68 (lY 54 K++B) (by rw[af];omega);have hl:(sha (lY 54 K++B)).length=32:=lV _;have g4:=f68 (lY 92 K++sha (lY 54 K++B)) (by rw[af];omega);have h64:¬(64:Int)<K.length:=by omega
 have c1:64+B.length<=140737488355328:=by omega
 have t1:(lY 54 K).take 64=lY 54 K:=bj (by rw[p1];exact aK _);have t2:(lY 92 K).take 64=lY 92 K:=bj (by rw[p2];exact aK _);rw[an xgV];simp only[go_sem,Q2,Q3,Qb,Qc,Qd,Qe,Qh,Qi,Qj,Qk,reduceCtorEq,reduceIte,h64,g,p1,t1,c1];simp only[go_sem,Qe,Qh,Qi,Qj,Qk,reduceIte,hl,g3,g4,YC,QG,p2,t2]
theorem xjE(K lab ctx:List UInt8)(n:Nat)(h1:1<=n)(h2:n<=32)(hK:K.length<=64)(hl:lab.length<=1000)(hc:ctx.length<=1000):
 call T 148 [.byt K .no,.str lab,.byt ctx .no,.int .i64 n] [] 0=some ⟨.byt (Np K lab ctx n) .no,[],[]⟩:=by
 have a1:¬(n:Int)<1:=by omega
 have a2:¬(1024:Int)<n:=by omega
 have a3:0<n:=by omega
 have a4:¬32<n:=by omega
 have e8:ah.wrap (8*(n:Int))=8*(n:Int):=w64 (by omega) (by omega);have k2:ah.wrap 2=2:=rfl;have g1:=xjA (8*(n:Int)) (by omega) (by omega);have g2:=xjA 1 (by omega) (by omega);have g3:=xlI K (w4 1++(lab++0::(ctx++w4 (8*(n:Int))))) hK (by simp[w4];omega);have ml:=vy K (w4 1++(lab++0::(ctx++w4 (8*(n:Int)))));have w4l:∀x,(w4 x).length=4:=fun _=>rfl
 have c1:lab.length<=140737488355327:=by omega
 have c2:lab.length+1+ctx.length<=140737488355328:=by omega
 have c3:lab.length+(ctx.length+1)+4<=140737488355328:=by omega
 have b1:4+lab.length<=140737488355328:=by omega
 have b2:4+lab.length<=140737488355327:=by omega
 have b3:4+(lab.length+1)+ctx.length<=140737488355328:=by omega
 have b4:4+(lab.length+(ctx.length+1))<=140737488355324:=by omega
 rw[an xg8];simp only[go_sem,Qe,Qh,Qi,Qj,Qk,reduceCtorEq,reduceIte,a1,a2];rw[ai];simp only[go_sem,Q8,Qe,Qg,Qh,Qi,Qj,Qk,reduceCtorEq,reduceIte,a3,e8,g1,g2,xhL,xhK,g3,w4l,b1,b2,b3,b4,k2];unfold Np;generalize QG K (w4 1++(lab++0::(ctx++w4 (8*(n:Int)))))=X at*;have c6:X.length<=140737488355328:=by omega
 simp only[ml];rw[ai];simp only[go_sem,Q2,Q3,Qh,Qi,Qj,Qk,reduceCtorEq,reduceIte,ml,a4,h2]
def bys(fs:List (List UInt8)):List (List SV):=fs.map fun X=> [.byt X .no]
theorem jy(fs:List (List UInt8)):(bys fs).length=fs.length:=by simp[bys]
theorem sN(fs:List (List UInt8))(i:Nat)(h:i<fs.length):(bys fs).getD i []=[.byt (fs.getD i []) .no]:=by simp[bys,aa,h]
theorem vI(fs:List (List UInt8))(i:Nat)(h:i<fs.length):frF (fs.drop i)=w4 ((fs.getD i []).length:Int)++(fs.getD i []++frF (fs.drop (i+1))):=by
 have:fs.drop i=fs.getD i []::fs.drop (i+1):=by rw[bE h,aa,ac h,aM]
 rw[this];simp[frF]
theorem xlk(fs:List (List UInt8))(hl:fs.length<=100)(hb:∀i,i<fs.length->(fs.getD i []).length<=1000000000):∀(n i:Nat)(acc:List UInt8),fs.length-i=n->i<=fs.length->acc.length+(frF (fs.drop i)).length<=1000000000000->
 run T (.loop yO) ⟨[(5,.byt acc (.id 105)),(12,.lst 1 (bys fs) .no),(13,.int .i64 fs.length),(14,.int .i64 i)],[],[105]⟩=
 some (.x 0,⟨[(5,.byt (acc++frF (fs.drop i)) (.id 105))],[],[105]⟩):=by
 intro n;induction n with
 |zero=>
  intro i acc h0 h1 ha;have hi:i=fs.length:=by omega
  subst hi;rw[ai];simp only[go_sem,Qh,Qj,Qk,reduceIte,bP,frF,fp,bG]
 |succ n ih=>
  intro i acc h0 h1 ha;have hi:i<fs.length:=by omega
  have hiI:(i:Int)<(fs.length:Int):=by omega
  have e1:=cZ i (by omega);have hX:=hb i hi;have ih':=ih (i+1) (acc++(w4 ((fs.getD i []).length:Int)++fs.getD i []));rw[vI fs i hi]at ha ⊢;have hg:=sN fs i hi;have hbl:=jy fs;generalize hc:fs.getD i []=X at*;simp only[af,w4,am,aB]at ha ih';have ih2:=ih' (by omega) (by omega) (by omega);have c1:acc.length+4<=140737488355328:=by omega
  have c2:acc.length+4+X.length<=140737488355328:=by omega
  have c3:acc.length+(4+X.length)<=140737488355328:=by omega
  have e2:c9.wrap (X.length:Int)=X.length:=by rw[IntKind.wrap_u32];omega
  simp only[ay,bg,aI,gI]at ih2;rw[ai];simp only[go_sem,Q2,Q3,Qe,Qh,Qi,Qj,Qk,reduceCtorEq,reduceIte,hiI,hg,hbl,e1,e2,c1,c2,m24,m16,m8,w4,gI,ay,ih2]
theorem xgf(t:Int)(fs:List (List UInt8))(hl:fs.length<=100)(hb:∀i,i<fs.length->(fs.getD i []).length<=1000000000)(hs:(frF fs).length<=100000000000):
 call T 104 [.int .i64 t,.lst 1 (bys fs) .no] [] 0=some ⟨.byt (frL t fs) .no,[],[]⟩:=by
 have g:=xlk fs hl hb _ 0 [cQ t] rfl (bH _) (by rw[bh,br];omega);have hbl:=jy fs;simp only[aD,bh,eI]at g;rw[an Yv];simp only[go_sem,Qe,Qh,Qi,Qj,Qk,reduceCtorEq,reduceIte,hbl,g,frL]
theorem xlh(fs:List (List UInt8))(hl:fs.length<=100)(hb:∀i,i<fs.length->(fs.getD i []).length<=1000000000):∀(n i:Nat)(acc:List UInt8),fs.length-i=n->i<=fs.length->acc.length+(frF (fs.drop i)).length<=1000000000000->
 run T (.loop yI) ⟨[(1,.lst 1 (bys fs) .no),(5,.byt acc (.id 105)),(6,.int .i64 i)],[],[105]⟩=
 some (.x 0,⟨[(5,.byt (acc++frF (fs.drop i)) (.id 105))],[],[105]⟩):=by
 intro n;induction n with
 |zero=>
  intro i acc h0 h1 ha;have hi:i=fs.length:=by omega
  have hbl:=jy fs;subst hi;rw[ai];simp only[go_sem,Qh,Qj,Qk,reduceIte,hbl,bP,frF,fp,bG]
 |succ n ih=>
  intro i acc h0 h1 ha;have hi:i<fs.length:=by omega
  have hiI:(i:Int)<(fs.length:Int):=by omega
  have e1:=cZ i (by omega);have hX:=hb i hi;have ih':=ih (i+1) (acc++(w4 ((fs.getD i []).length:Int)++fs.getD i []));rw[vI fs i hi]at ha ⊢;have hg:=sN fs i hi;have hbl:=jy fs;generalize hc:fs.getD i []=X at*;simp only[af,w4,am,aB]at ha ih';have ih2:=ih' (by omega) (by omega) (by omega);have c1:acc.length+4<=140737488355328:=by omega
  have c2:acc.length+4+X.length<=140737488355328:=by omega
  have c3:acc.length+(4+X.length)<=140737488355328:=by omega
  have m24':min 24 64=24:=rfl;have m16':min 16 64=16:=rfl;have m8':min 8 64=8:=rfl;simp only[ay,bg,aI,gI]at ih2;rw[ai];simp only[go_sem,Q2,Q3,Qe,Qh,Qi,Qj,Qk,reduceCtorEq,reduceIte,hiI,hg,hbl,e1,c1,c2,m24',m16',m8',w4,gI,ay,ih2]
theorem xge(t:Int)(fs:List (List UInt8))(hl:fs.length<=100)(hb:∀i,i<fs.length->(fs.getD i []).length<=1000000000)(hs:(frF fs).length<=100000000000):
 call T 109 [.int .i64 t,.lst 1 (bys fs) .no] [] 0=some ⟨.byt (frL t fs) .no,[],[]⟩:=by
 have g:=xlh fs hl hb _ 0 [cQ t] rfl (bH _) (by rw[bh,br];omega);simp only[aD,bh,eI]at g;rw[an Yu];simp only[go_sem,Qe,Qh,Qi,Qj,Qk,reduceCtorEq,reduceIte,g,frL]
theorem X7(t:Int)(fs:List (List UInt8))(hl:fs.length<=100)(hb:∀i,i<fs.length->(fs.getD i []).length<=1000000000)(hs:(frF fs).length<=10000000000):
 call T 60 [.int .i64 t,.lst 1 (bys fs) .no] [] 0=some ⟨.byt (hsh t fs) .no,[],[]⟩:=by
 have g1:=xgf t fs hl hb (by omega);have g2:=xjJ (frL t fs) (by unfold frL;rw[am];omega);rw[an xjV];simp only[go_sem,Qe,Qh,Qi,Qj,Qk,reduceCtorEq,reduceIte,g1,g2,Y2,Y3,hsh]
theorem X6(t:Int)(fs:List (List UInt8))(hl:fs.length<=100)(hb:∀i,i<fs.length->(fs.getD i []).length<=1000000000)(hs:(frF fs).length<=10000000000):
 call T 65 [.int .i64 t,.lst 1 (bys fs) .no] [] 0=some ⟨.byt (hsh t fs) .no,[],[]⟩:=by
 have g1:=xge t fs hl hb (by omega);have g2:=f68 (frL t fs) (by unfold frL;rw[am];omega);rw[an xjU];simp only[go_sem,Qe,Qh,Qi,Qj,Qk,reduceCtorEq,reduceIte,g1,g2,Y0,YC,hsh]
theorem xjO(A B:List UInt8)(hA:A.length<=1000000000)(hB:B.length<=1000000000):∀i,i< [A,B].length->([A,B].getD i []).length<=1000000000:=fun i hi=>by
 match i,hi with
 |0,_=>exact hA
 |1,_=>exact hB
theorem xjN(A B C:List UInt8)(hA:A.length<=1000000000)(hB:B.length<=1000000000)(hC:C.length<=1000000000):∀i,i< [A,B,C].length->([A,B,C].getD i []).length<=1000000000:=fun i hi=>by
 match i,hi with
 |0,_=>exact hA
 |1,_=>exact hB
 |2,_=>exact hC
theorem tw(x:Int):(w4 x).length=4:=rfl
theorem xdL(t:Int)(A B:List UInt8)(hA:A.length<=1000000000)(hB:B.length<=1000000000):call T 60 [.int .i64 t,.lst 1 [[.byt A .no],[.byt B .no]] .no] [] 0=some ⟨.byt (hsh t [A,B]) .no,[],[]⟩:=
 X7 t [A,B] (by simp) (xjO A B hA hB) (by simp only[frF,eo,fp,af,tw,aB];omega)
theorem xjP(t:Int)(A B:List UInt8)(hA:A.length<=1000000000)(hB:B.length<=1000000000):call T 65 [.int .i64 t,.lst 1 [[.byt A .no],[.byt B .no]] .no] [] 0=some ⟨.byt (hsh t [A,B]) .no,[],[]⟩:=
 X6 t [A,B] (by simp) (xjO A B hA hB) (by simp only[frF,eo,fp,af,tw,aB];omega)
theorem xh6(t:Int)(A B C:List UInt8)(hA:A.length<=1000000000)(hB:B.length<=1000000000)(hC:C.length<=1000000000):call T 60 [.int .i64 t,.lst 1 [[.byt A .no],[.byt B .no],[.byt C .no]] .no] [] 0=some ⟨.byt (hsh t [A,B,C]) .no,[],[]⟩:=
 X7 t [A,B,C] (by simp) (xjN A B C hA hB hC) (by simp only[frF,eo,fp,af,tw,aB];omega)
theorem xkj(t:Int)(A B C:List UInt8)(hA:A.length<=1000000000)(hB:B.length<=1000000000)(hC:C.length<=1000000000):call T 65 [.int .i64 t,.lst 1 [[.byt A .no],[.byt B .no],[.byt C .no]] .no] [] 0=some ⟨.byt (hsh t [A,B,C]) .no,[],[]⟩:=
 X6 t [A,B,C] (by simp) (xjN A B C hA hB hC) (by simp only[frF,eo,fp,af,tw,aB];omega)
theorem xlH(leaf:Nat)(h:leaf<=255):call T 170 [.int .i64 leaf] [] 0=some ⟨.bool true,[],[]⟩:=by
 have h1:(0:Int)<=(leaf:Int):=by omega
 have h2:(leaf:Int)<=255:=by omega
 rw[an xgU];simp only[go_sem,Qh,Qi,Qj,Qk,reduceCtorEq,reduceIte,h1,h2]
theorem xlA(leaf c p:Nat)(x:List UInt8)(hx:x.length<=1000000):call T 196 [.int .i64 leaf,.int .i64 c,.int .i64 p,.byt x .no] [] 0=some ⟨.byt (wA leaf c p x) .no,[],[]⟩:=by have g:=xdL 1 [ub leaf,ub c,ub p] x (by simp) (by omega);have hl:=gY 1 [[ub leaf,ub c,ub p],x];unfold ub at g hl;rw[an xgK];simp only[go_sem,Q2,Q3,Qe,Qh,Qi,Qj,Qk,reduceCtorEq,reduceIte,g,Sa,hl,c32,wA,h16,ub]
theorem xlE(leaf:Nat)(x:List UInt8)(hx:x.length<=1000000):call T 173 [.int .i64 leaf,.byt x .no] [] 0=some ⟨.byt (wh leaf x) .no,[],[]⟩:=by have g:=xdL 2 [ub leaf] x (by simp) (by omega);have hl:=gY 2 [[ub leaf],x];unfold ub at g hl;rw[an xgR];simp only[go_sem,Q2,Q3,Qe,Qh,Qi,Qj,Qk,reduceCtorEq,reduceIte,g,Sa,hl,c32,wh,h16,ub]
theorem xlP(leaf:Nat)(x:List UInt8)(hx:x.length<=1000000):call T 151 [.int .i64 leaf,.byt x .no] [] 0=some ⟨.byt (wh leaf x) .no,[],[]⟩:=by have g:=xjP 2 [ub leaf] x (by simp) (by omega);have hl:=gY 2 [[ub leaf],x];unfold ub at g hl;rw[an xg5];simp only[go_sem,Q2,Q3,Q5,Qe,Qh,Qi,Qj,Qk,reduceCtorEq,reduceIte,g,R9,hl,c32,wh,h16,ub]
theorem xjC(seed:List UInt8)(leaf c:Nat)(hs:seed.length<=64):call T 150 [.byt seed .no,.int .i64 leaf,.int .i64 c] [] 0=some ⟨.byt (mI seed leaf c) .no,[],[]⟩:=by have g:=xjE seed ui [ub leaf,ub c] 16 (by decide) (by decide) hs (by decide) (by simp);unfold ui ub at g;rw[c16]at g;rw[an xg6];simp only[go_sem,Qe,Qh,Qi,Qj,Qk,reduceCtorEq,reduceIte,g,YS,mI,ui,ub]
theorem xk7(leaf c to:Nat)(ht:to<=15):∀(n p:Nat)(x:List UInt8),p+n=to->x.length<=1000000->
 run T (.loop yr) ⟨[(0,.int .i64 leaf),(1,.int .i64 c),(3,.int .i64 to),(4,.byt x .no),(11,.int .i64 p)],[],[]⟩=
 some (.x 0,⟨[(4,.byt (gU leaf c p n x) .no)],[],[]⟩):=by
 intro n;induction n with
 |zero=>
  intro p x h0 hx;have hp:p=to:=by omega
  subst hp;rw[ai];simp only[go_sem,Qh,Qj,Qk,reduceCtorEq,reduceIte,gU]
 |succ n ih=>
  intro p x h0 hx;have ih':=ih (p+1) (wA leaf c p x) (by omega) (by rw[wA,eA];omega);have hlt:(p:Int)<(to:Int):=by omega
  have e1:=cZ p (by omega);have g:=xjP 1 [ub leaf,ub c,ub p] x (by simp) (by omega);have hl:=gY 1 [[ub leaf,ub c,ub p],x];unfold wA h16 at ih';unfold ub at g hl ih';rw[ai];simp only[go_sem,Q2,Q3,Q5,Qh,Qj,Qk,reduceCtorEq,reduceIte,hlt,e1,g,R9,hl,c32,ih',gU,wA,h16,ub]
theorem xjD(leaf c p n to:Nat)(x:List UInt8)(h:p+n=to)(ht:to<=15)(hx:x.length<=1000000):
 call T 149 [.int .i64 leaf,.int .i64 c,.int .i64 p,.int .i64 to,.byt x .no] [] 0=some ⟨.byt (gU leaf c p n x) .no,[],[]⟩:=by
 have g:=xk7 leaf c to ht n p x h hx;rw[an xg7];simp only[go_sem,Qe,Qh,Qi,Qj,Qk,reduceCtorEq,reduceIte,g]
def dgs(l:List Nat):List (List SV):=l.map fun(d:Nat)=> [.int .i64 (d:Int)]
theorem kF(l:List Nat):(dgs l).length=l.length:=by simp[dgs]
theorem BL(l:List Nat)(i:Nat)(h:i<l.length):(dgs l).getD i []=[.int .i64 ((l.getD i 0:Nat):Int)]:=by simp[dgs,aa,h]
theorem BM(a b:List Nat):dgs (a++b)=dgs a++dgs b:=by simp[dgs]
theorem Ni(b:UInt8):(gw (b.toNat/2^min 4 8)).toNat=hi4 b:=by
 have e:(2:Nat)^min 4 8=16:=by decide
 have:=b.toNat_lt;unfold hi4;rw[e,UInt8.toNat_ofNat',cx (by omega)]
theorem Nc(b:UInt8):(b&&&15).toNat=lo4 b:=by unfold lo4;rw[UInt8.toNat_and];exact Nat.and_two_pow_sub_one_eq_mod b.toNat 4
theorem BN(M:List UInt8)(i:Nat)(h:i<M.length):dg (M.drop i)=hi4 (M.getD i 0)::lo4 (M.getD i 0)::dg (M.drop (i+1)):=by rw[eg M i h];rfl
def smF(s:Nat)(l:List UInt8):Nat:=l.foldl (fun s b=>s+((15-hi4 b)+(15-lo4 b))) s
theorem uM(s:Nat)(M:List UInt8)(i:Nat)(h:i<M.length):smF s (M.drop i)=smF (s+((15-hi4 (M.getD i 0))+(15-lo4 (M.getD i 0)))) (M.drop (i+1)):=by rw[eg M i h];rfl
theorem Nh(b:UInt8):hi4 b<=15:=by have:=b.toNat_lt;unfold hi4;omega
theorem Nb(b:UInt8):lo4 b<=15:=by unfold lo4;omega
theorem xk3(M:List UInt8)(hM:M.length=16):∀(n i:Nat)(acc:List Nat)(s:Nat),16-i=n->i<=16->acc.length=2*i->s<=30*i->
 run T (.loop rY) ⟨[(3,.lst 1 (dgs acc) (.id 103)),(4,.int .i64 s),(12,.byt M .no),(13,.int .i64 16),(14,.int .i64 i)],[],[103]⟩=
 some (.x 0,⟨[(3,.lst 1 (dgs (acc++dg (M.drop i))) (.id 103)),(4,.int .i64 (smF s (M.drop i)))],[],[103]⟩):=by
 intro n;induction n with
 |zero=>
  intro i acc s h0 h1 ha hs;have hi:i=16:=by omega
  subst hi;have hd:M.drop 16=[]:=bD (by omega);rw[hd,ai];simp only[c16,go_sem,Q4,Qh,Qj,Qk,reduceIte,dg,smF,fp,bG,nH]
 |succ n ih=>
  intro i acc s h0 h1 ha hs;have hi:i<16:=by omega
  have hiI:(i:Int)<16:=by omega
  have e1:=cZ i (by omega);have hh:=Nh (M.getD i 0);have hl:=Nb (M.getD i 0);have ih':=ih (i+1) (acc++ [hi4 (M.getD i 0)]++ [lo4 (M.getD i 0)]) (s+((15-hi4 (M.getD i 0))+(15-lo4 (M.getD i 0)))) (by omega) (by omega) (by simp;omega) (by omega);have a1:=Ni (M.getD i 0);have a2:=Nc (M.getD i 0);rw[BN M i (by omega),uM s M i (by omega)];generalize hc:M.getD i 0=z at*;generalize hi4 z=x at*;generalize lo4 z=y at*;have hdl:=kF acc;have w1:ah.wrap (15-(x:Int))=((15-x:Nat):Int):=wZ (by omega)
  have w2:ah.wrap (15-(y:Int))=((15-y:Nat):Int):=wZ (by omega)
  have w3:ah.wrap ((s:Int)+((15-x:Nat):Int))=((s+(15-x):Nat):Int):=wZ (by omega)
  have w5:ah.wrap (((s+(15-x):Nat):Int)+((15-y:Nat):Int))=((s+((15-x)+(15-y)):Nat):Int):=wZ (by omega)
  have k1:ah.wrap 1=1:=rfl;have k2:ah.wrap 2=2:=rfl;have c1:(acc.length+1)*8<=140737488355328:=by omega
  have c2:(acc.length+1+1)*8<=140737488355328:=by omega
  simp only[dgs,du,aF,bX,ay,bg,aI]at ih' hdl ⊢;rw[ai];simp only[go_sem,Q2,Q3,Qe,Qh,Qi,Qj,Qk,reduceIte,hi,hiI,hM,hc,a1,a2];rw[ai];simp (config:= {decide:=true}) only[go_sem,Q2,Q8,Qe,Qg,Qh,Qj,Qk,reduceIte,w1,w3,k1,c1,hdl];rw[ai];simp (config:= {decide:=true}) only[go_sem,Q2,Q8,Qe,Qg,Qh,Qj,Qk,reduceIte,w2,w5,k2,c2,hdl];rw[ai];simp (config:= {decide:=true}) only[go_sem,Qe,Qh,Qj,Qk,reduceIte,e1,ih']
theorem xlG(msg:List UInt8)(hm:msg.length<=100000000):call T 171 [.byt msg .no] [] 0=some ⟨.lst 1 (dgs (ip msg)) .no,[],[]⟩:=by
 have g1:=f60 4 msg (by omega);rw[<-BE]at g1;have hl:=eA 4 [msg];have hh:=gY 4 [msg];have e32:((32:Nat):Int)=32:=rfl;have g2:=xk3 (h16 4 [msg]) hl 16 0 [] 0 rfl (by omega) rfl (by omega);have hs:=NJ (h16 4 [msg]) 0;have es:smF 0 (h16 4 [msg])=sm (h16 4 [msg]):=rfl;rw[hl]at hs;change sm (h16 4 [msg])<=0+30*16 at hs;have hdl:=yW (h16 4 [msg]);rw[hl]at hdl;have hdd:=kF (dg (h16 4 [msg]));unfold ip;have e0:dgs []=[]:=rfl;simp only[aD,bh,aI,es,BM,e0]at g2 ⊢;have hu:(hsh 4 [msg]).take 16=h16 4 [msg]:=rfl;generalize hsm:sm (h16 4 [msg])=q at*;generalize dg (h16 4 [msg])=ds at*
 have q1:(q:Int).fdiv (2^min 8 64)=((q/256:Nat):Int):=by rw[show(2:Int)^min 8 64=256 from by decide,ic _ (by decide)];omega
 have q2:(q:Int).fdiv (2^min 4 64)=((q/16:Nat):Int):=by rw[show(2:Int)^min 4 64=16 from by decide,ic _ (by decide)];omega
 have q3:∀r:Nat,r<1000->bZ .and .i64 (r:Int) 15=((r % 16:Nat):Int):=fun r hr=>by
  have e1:(BitVec.ofNat 64 r&&&BitVec.ofNat 64 15).toNat=r % 16:=by rw[BitVec.toNat_and,BitVec.toNat_ofNat,BitVec.toNat_ofNat,cx (by omega)];exact Nat.and_two_pow_sub_one_eq_mod r 4
  unfold bZ;rw[show(15:Int)=((15:Nat):Int)from rfl];simp only[BitVec.ofInt_natCast];show ah.wrap (((BitVec.ofNat 64 r&&&BitVec.ofNat 64 15).toNat:Nat):Int)=_;rw[e1];exact w64 (by omega) (by omega)
 have q4:=q3 q (by omega);have q5:=q3 (q/16) (by omega);have c3:(2*16+3)*8<=140737488355328:=by decide
 have e16:((16:Nat):Int)=16:=rfl;rw[an xgT];simp only[go_sem,Q2,Q3,Q5,Qe,Qh,Qi,Qj,Qk,reduceCtorEq,reduceIte,g1,Sa,hh,e32,hu,hl,e16,g2];simp only[go_sem,Qe,Qg,reduceIte,q1,q2,q4,q5,hdl,c3,dgs,aF,bX]
 trace_state
def wa(c:Nat)(f:Nat->List UInt8):List UInt8:=((bA 35).drop c).flatMap f
theorem mD(f:Nat->List UInt8):wa 0 f=cat 35 f:=by unfold wa cat;rw[bh]
theorem pJ(f:Nat->List UInt8):wa 35 f=[]:=by unfold wa;rw[bD (by rw[List.length_range];exact aK _)];rfl
theorem mE(c:Nat)(h:c<35)(f:Nat->List UInt8):wa c f=f c++wa (c+1) f:=by unfold wa;rw[bE (by rw[List.length_range];exact h),List.getElem_range,eo]
theorem xlC(c:Int):call T 176 [.int .i64 c] [] 0=some ⟨.int .i64 15,[],[]⟩:=by rw[an xgO];simp only[go_sem,Qi,reduceIte]
theorem xlD(D:List Nat)(c:Nat)(h:c<D.length):call T 175 [.int .i64 c,.ptr 0 0] [.rc [.lst 1 (dgs D) .no]] 0=some ⟨.int .i64 ((D.getD c 0:Nat):Int),[(0,.rc [.lst 1 (dgs D) .no])],[]⟩:=by have hl:=kF D;have hg:=BL D c h;rw[an xgP];simp only[go_sem,Qe,Qh,Qi,Qj,Qk,reduceCtorEq,reduceIte,hl,h,hg]
theorem xlF(g:List UInt8)(c:Nat)(h:c<35)(hl:g.length=560):call T 172 [.int .i64 c,.ptr 0 0] [.rc [.byt g .no]] 0=some ⟨.byt ((g.drop (16*c)).take 16) .no,[(0,.rc [.byt g .no])],[]⟩:=by
 have e1:ah.wrap ((c:Int)*16)=((16*c:Nat):Int):=wZ (by omega)
 have e0:=cZ c (by omega);have e2:ah.wrap (((c+1:Nat):Int)*16)=((16*c+16:Nat):Int):=wZ (by omega)
 have h1:16*c<=16*c+16:=by omega
 have h2:16*c+16<=560:=by omega
 have h3:(g.take (16*c+16)).drop (16*c)=(g.drop (16*c)).take 16:=by rw[List.drop_take];congr 1;omega
 rw[an xgS];simp only[go_sem,Qe,Qh,Qi,Qj,Qk,reduceCtorEq,reduceIte,e0,e1,e2,hl,h1,h2,h3]
theorem xf0(leaf c:Nat)(g:List UInt8)(D:List Nat)(hs:g.length=560)(hD:D.length=35)(hd:∀c,c<35->D.getD c 0<=15)(hc:c<35)(acc:List UInt8):∀(n p:Nat)(x:List UInt8),p+n=15->x.length<=1000000->
 run T (.loop rX) ⟨[(0,.int .i64 leaf),(1,.fn 172 [] [.ptr 0 0]),(2,.fn 175 [] [.ptr 1 0]),(3,.fn 176 [] []),(9,.byt acc (.id 109)),(10,.int .i64 c),(11,.byt x .no),(12,.int .i64 p),(13,.int .i64 c)],[(0,.rc [.byt g .no]),(1,.rc [.lst 1 (dgs D) .no])],[109]⟩=
 some (.x 2,⟨[(0,.int .i64 leaf),(1,.fn 172 [] [.ptr 0 0]),(2,.fn 175 [] [.ptr 1 0]),(3,.fn 176 [] []),(9,.byt acc (.id 109)),(11,.byt (gU leaf c p n x) .no),(13,.int .i64 c)],[(0,.rc [.byt g .no]),(1,.rc [.lst 1 (dgs D) .no])],[109]⟩):=by
 have gt:=xlC c;intro n;induction n with
 |zero=>
  intro p x h0 hx;have hp:p=15:=by omega
  have e15:((15:Nat):Int)=15:=rfl;rw[ai];simp only[hp,e15,go_sem,Q4,Qh,Qj,Qk,reduceCtorEq,reduceIte,gt,YL,gU]
 |succ n ih=>
  intro p x h0 hx;have ih':=ih (p+1) (wA leaf c p x) (by omega) (by rw[wA,eA];omega);have hlt:(p:Int)<15:=by omega
  have hdc:=hd c hc;have hDl:c<D.length:=by omega
  have e1:=cZ p (by omega);have g:=xlA leaf c p x hx;rw[ai];simp only[go_sem,Qh,Qj,Qk,reduceCtorEq,reduceIte,gt,YL,hlt,e1,g,xhC,ih',gU]
theorem xfW(leaf:Nat)(g:List UInt8)(D:List Nat)(hs:g.length=560)(hD:D.length=35)(hd:∀c,c<35->D.getD c 0<=15)(F:Nat->List UInt8)(hF:∀c,c<35->F c=gU leaf c (D.getD c 0) (15-D.getD c 0) ((g.drop (16*c)).take 16)):∀(n c:Nat)(acc:List UInt8),35-c=n->c<=35->acc.length=16*c->
 run T (.loop od) ⟨[(0,.int .i64 leaf),(1,.fn 172 [] [.ptr 0 0]),(2,.fn 175 [] [.ptr 1 0]),(3,.fn 176 [] []),(9,.byt acc (.id 109)),(13,.int .i64 c)],[(0,.rc [.byt g .no]),(1,.rc [.lst 1 (dgs D) .no])],[109]⟩=
 some (.x 0,⟨[(9,.byt (acc++wa c F) (.id 109))],[(0,.rc [.byt g .no]),(1,.rc [.lst 1 (dgs D) .no])],[109]⟩):=by
 intro n;induction n with
 |zero=>
  intro c acc h0 h1 ha;have hi:c=35:=by omega
  subst hi;rw[pJ,ai];simp only[c35,go_sem,Q4,Qh,Qj,Qk,reduceCtorEq,reduceIte,bG]
 |succ n ih=>
  intro c acc h0 h1 ha;have hc:c<35:=by omega
  have hcI:(c:Int)<35:=by omega
  have e1:=cZ c (by omega);have hdc:=hd c hc;have hDl:c<D.length:=by omega
  have hsl:=gz leaf c (15-D.getD c 0) (D.getD c 0) ((g.drop (16*c)).take 16) (by rw[ax,aL];omega);rw[<-hF c hc]at hsl;have ih':=ih (c+1) (acc++F c) (by omega) (by omega) (by rw[af,hsl];omega);have g1:=xf0 leaf c g D hs hD hd hc acc (15-D.getD c 0) (D.getD c 0) ((g.drop (16*c)).take 16) (by omega) (by have hq:((g.drop (16*c)).take 16).length=16:=(by rw[ax,aL];omega);omega);have gs:=xlF g c hc hs;have gf:=xlD D c (by omega);rw[<-hF c hc]at g1;rw[mE c hc];rw[ay]at ih';generalize hst:F c=y at*;have c1:acc.length+y.length<=140737488355328:=by omega
  try simp only[aD]at g1
  rw[ai];simp only[go_sem,Qe,Qg,Qh,Qi,Qj,Qk,reduceCtorEq,reduceIte,hcI,e1,gs,gf,xhH,xhE,g1,c1,ih']
theorem xgd(leaf:Nat)(g:List UInt8)(D:List Nat)(X:List UInt8)(hg:run T (.loop od) ⟨[(0,.int .i64 leaf),(1,.fn 172 [] [.ptr 0 0]),(2,.fn 175 [] [.ptr 1 0]),(3,.fn 176 [] []),(9,.byt [] (.id 109)),(13,.int .i64 0)],[(0,.rc [.byt g .no]),(1,.rc [.lst 1 (dgs D) .no])],[109]⟩=some (.x 0,⟨[(9,.byt X (.id 109))],[(0,.rc [.byt g .no]),(1,.rc [.lst 1 (dgs D) .no])],[109]⟩)):
 call T 174 [.int .i64 leaf,.fn 172 [] [.ptr 0 0],.fn 175 [] [.ptr 1 0],.fn 176 [] []] [.rc [.byt g .no],.rc [.lst 1 (dgs D) .no]] 0=some ⟨.byt X .no,[(0,.rc [.byt g .no]),(1,.rc [.lst 1 (dgs D) .no])],[]⟩:=by
 rw[an xgQ];simp only[go_sem,Qe,Qh,Qi,Qj,Qk,reduceCtorEq,reduceIte,hg]
theorem xgi(leaf:Nat)(g:List UInt8)(D:List Nat)(hs:g.length=560)(hD:D.length=35)(hd:∀c,c<35->D.getD c 0<=15)(F:Nat->List UInt8)(hF:∀c,c<35->F c=gU leaf c (D.getD c 0) (15-D.getD c 0) ((g.drop (16*c)).take 16)):call T 174 [.int .i64 leaf,.fn 172 [] [.ptr 0 0],.fn 175 [] [.ptr 1 0],.fn 176 [] []] [.rc [.byt g .no],.rc [.lst 1 (dgs D) .no]] 0=
 some ⟨.byt (cat 35 F) .no,[(0,.rc [.byt g .no]),(1,.rc [.lst 1 (dgs D) .no])],[]⟩:=by
 have hq:=xfW leaf g D hs hD hd F hF 35 0 [] rfl (by omega) rfl;rw[mD]at hq;exact xgd leaf g D (cat 35 F) hq
theorem xlN(leaf:Nat)(msg g:List UInt8)(hl:leaf<=255)(hg:g.length=560)(hm:msg.length<=100000000):call T 154 [.int .i64 leaf,.byt msg .no,.byt g .no] [] 0=some ⟨.tup [.byt (vg leaf msg g) .no,.bool true],[],[]⟩:=by
 have g1:=xlH leaf hl;have g2:=xlG msg hm;have g3:=xgi leaf g (ip msg) hg (pD msg) (pE msg) (fun c=>gU leaf c ((ip msg).getD c 0) (15-(ip msg).getD c 0) ((g.drop (16*c)).take 16)) (fun c _=>rfl);have hc:=mc (fun c=>gU leaf c ((ip msg).getD c 0) (15-(ip msg).getD c 0) ((g.drop (16*c)).take 16)) 35 (fun c hc=>gz _ _ _ _ _ (by rw[ax,aL];omega));have g4:=xlE leaf _ (show(cat 35 fun c=>gU leaf c ((ip msg).getD c 0) (15-(ip msg).getD c 0) ((g.drop (16*c)).take 16)).length<=1000000 by rw[hc];decide);have e560:((560:Nat):Int)=560:=rfl;unfold vg;generalize (cat 35 fun c=>gU leaf c ((ip msg).getD c 0) (15-(ip msg).getD c 0) ((g.drop (16*c)).take 16))=X at*;generalize wh leaf X=Y at*;rw[an xg4];simp only[go_sem,Qe,Qg,Qh,Qi,Qj,Qk,reduceCtorEq,reduceIte,g1,g2,hg,e560,g3,g4,xhJ,xhI,xhF,xhG]
 trace_state
theorem xk5(M:List UInt8)(hM:M.length=16):∀(n i:Nat)(acc:List Nat)(s:Nat),16-i=n->i<=16->acc.length=2*i->s<=30*i->
 run T (.loop yo) ⟨[(3,.byt M .no),(4,.lst 1 (dgs acc) (.id 104)),(5,.int .i64 s),(6,.int .i64 i)],[],[104]⟩=
 some (.x 0,⟨[(4,.lst 1 (dgs (acc++dg (M.drop i))) (.id 104)),(5,.int .i64 (smF s (M.drop i)))],[],[104]⟩):=by
 intro n;induction n with
 |zero=>
  intro i acc s h0 h1 ha hs;have hi:i=16:=by omega
  subst hi;have hd:M.drop 16=[]:=bD (by omega);rw[hd,ai];simp only[c16,go_sem,Q4,Qh,Qj,Qk,reduceIte,dg,smF,fp,bG,nH]
 |succ n ih=>
  intro i acc s h0 h1 ha hs;have hi:i<16:=by omega
  have hiI:(i:Int)<16:=by omega
  have e1:=cZ i (by omega);have hh:=Nh (M.getD i 0);have hl:=Nb (M.getD i 0);have ih':=ih (i+1) (acc++ [hi4 (M.getD i 0),lo4 (M.getD i 0)]) (s+((15-hi4 (M.getD i 0))+(15-lo4 (M.getD i 0)))) (by omega) (by omega) (by simp;omega) (by omega);have a1:=Ni (M.getD i 0);have a2:=Nc (M.getD i 0);have hda:=BN M i (by omega);have hsa:=uM s M i (by omega);generalize hc:M.getD i 0=z at*;have hdl:=kF acc;have w1:ah.wrap (30-((hi4 z:Nat):Int))=((30-hi4 z:Nat):Int):=wZ (by omega)
  have w2:ah.wrap (((30-hi4 z:Nat):Int)-((lo4 z:Nat):Int))=(((15-hi4 z)+(15-lo4 z):Nat):Int):=wZ (by omega)
  have w3:ah.wrap ((s:Int)+(((15-hi4 z)+(15-lo4 z):Nat):Int))=((s+((15-hi4 z)+(15-lo4 z)):Nat):Int):=wZ (by omega)
  have c1:(acc.length+2)*8<=140737488355328:=by omega
  have hap:acc++dg (M.drop i)=acc++ [hi4 z,lo4 z]++dg (M.drop (i+1)):=by rw[hda,ay];rfl
  rw[hap,hsa];simp only[dgs,du,aF,bX,ay,bg,aI]at ih' hdl ⊢;rw[ai];simp only[go_sem,Q2,Q3,Qb,Qc,Qd,Qe,Qh,Qi,Qj,Qk,reduceIte,hi,hiI,hM,hc,e1,a1,a2,w1,w2,w3,c1,hdl,ih']
theorem xlJ(msg:List UInt8)(hm:msg.length<=100000000):call T 166 [.byt msg .no] [] 0=some ⟨.lst 1 (dgs (ip msg)) .no,[],[]⟩:=by
 have g1:=f65 4 msg (by omega);rw[<-BE]at g1;have hl:=eA 4 [msg];have hh:=gY 4 [msg];have e32:((32:Nat):Int)=32:=rfl;have g2:=xk5 (h16 4 [msg]) hl 16 0 [] 0 rfl (by omega) rfl (by omega);have hs:=NJ (h16 4 [msg]) 0;have es:smF 0 (h16 4 [msg])=sm (h16 4 [msg]):=rfl;rw[hl]at hs;change sm (h16 4 [msg])<=0+30*16 at hs;have hdl:=yW (h16 4 [msg]);rw[hl]at hdl;have hdd:=kF (dg (h16 4 [msg]));unfold ip;have e0:dgs []=[]:=rfl;simp only[aD,bh,aI,es,BM,e0]at g2 ⊢;have hu:(hsh 4 [msg]).take 16=h16 4 [msg]:=rfl;generalize hsm:sm (h16 4 [msg])=q at*;generalize dg (h16 4 [msg])=ds at*
 have q1:ah.wrap ((q:Int).tdiv 256)=((q/256:Nat):Int):=by rw[Int.tdiv_eq_ediv_of_nonneg (by omega),w64 (by omega) (by omega)];omega
 have q2:ah.wrap ((q:Int).tdiv 16)=((q/16:Nat):Int):=by rw[Int.tdiv_eq_ediv_of_nonneg (by omega),w64 (by omega) (by omega)];omega
 have q3:((q/16:Nat):Int).tmod 16=((q/16 % 16:Nat):Int):=by rw[ib (by omega)];omega
 have q4:(q:Int).tmod 16=((q % 16:Nat):Int):=by rw[ib (by omega)];omega
 have c3:(2*16+3)*8<=140737488355328:=by decide
 have e16:((16:Nat):Int)=16:=rfl;rw[an xgX];simp only[go_sem,Q2,Q3,Q5,Qe,Qh,Qi,Qj,Qk,reduceCtorEq,reduceIte,g1,R9,hh,e32,hu,g2];simp only[go_sem,Qe,Qg,reduceIte,q1,q2,q3,q4,hdl,c3,dgs,aF,bX]
 trace_state
theorem xlg(seed:List UInt8)(leaf:Nat)(hs:seed.length<=64)(F:Nat->List UInt8)(hF:∀c,c<35->F c=gU leaf c 0 15 (mI seed leaf c)):∀(n c:Nat)(acc:List UInt8),35-c=n->c<=35->acc.length=16*c->
 run T (.loop tV) ⟨[(0,.byt seed .no),(1,.int .i64 leaf),(5,.byt acc (.id 105)),(6,.int .i64 c)],[],[105]⟩=
 some (.x 0,⟨[(1,.int .i64 leaf),(5,.byt (acc++wa c F) (.id 105))],[],[105]⟩):=by
 intro n;induction n with
 |zero=>
  intro c acc h0 h1 ha;have hi:c=35:=by omega
  subst hi;rw[pJ,ai];simp only[c35,go_sem,Q4,Qh,Qj,Qk,reduceCtorEq,reduceIte,bG]
 |succ n ih=>
  intro c acc h0 h1 ha;have hc:c<35:=by omega
  have hcI:(c:Int)<35:=by omega
  have e1:=cZ c (by omega);have hsl:=gz leaf c 15 0 (mI seed leaf c) (ie seed leaf c);have gs:=xjC seed leaf c hs;have g1:=xjD leaf c 0 15 15 (mI seed leaf c) rfl (by omega) (by rw[ie];decide);rw[<-hF c hc]at hsl g1;rw[c0,c15]at g1;have ih':=ih (c+1) (acc++F c) (by omega) (by omega) (by rw[af,hsl];omega);rw[mE c hc];rw[ay]at ih';generalize hst:F c=y at*;have c1:acc.length+y.length<=140737488355328:=by omega
  rw[ai];simp only[go_sem,Qe,Qh,Qi,Qj,Qk,reduceCtorEq,reduceIte,hcI,e1,gs,g1,YQ,YR,c1,ih']
theorem xlp(seed X Y:List UInt8)(leaf:Nat)(hl:leaf<=255)(hq:run T (.loop tV) ⟨[(0,.byt seed .no),(1,.int .i64 leaf),(5,.byt [] (.id 105)),(6,.int .i64 0)],[],[105]⟩=some (.x 0,⟨[(1,.int .i64 leaf),(5,.byt X (.id 105))],[],[105]⟩))
 (g4:call T 151 [.int .i64 leaf,.byt X .no] [] 0=some ⟨.byt Y .no,[],[]⟩):call T 114 [.byt seed .no,.int .i64 leaf] [] 0=some ⟨.byt Y .no,[],[]⟩:=by
 have h1:¬(leaf:Int)<0:=by omega
 have h2:¬(255:Int)<leaf:=by omega
 rw[an xhr];simp only[go_sem,Qe,Qh,Qi,Qj,Qk,reduceCtorEq,reduceIte,h1,h2,hq,g4,xhP]
theorem xln(seed:List UInt8)(leaf:Nat)(hs:seed.length<=64)(hl:leaf<=255)(F:Nat->List UInt8)(hF:∀c,c<35->F c=gU leaf c 0 15 (mI seed leaf c)):call T 114 [.byt seed .no,.int .i64 leaf] [] 0=some ⟨.byt (wh leaf (cat 35 F)) .no,[],[]⟩:=by have hq:=xlg seed leaf hs F hF 35 0 [] rfl (by omega) rfl;have hc:=mc F 35 (fun c hc=>by rw[hF c hc];exact gz _ _ _ _ _ (ie _ _ _));rw[mD]at hq;exact xlp seed (cat 35 F) _ leaf hl hq (xlP leaf (cat 35 F) (by rw[hc];decide))
theorem xdF(seed:List UInt8)(leaf:Nat)(hs:seed.length<=64)(hl:leaf<=255):call T 114 [.byt seed .no,.int .i64 leaf] [] 0=some ⟨.byt (pubL seed leaf) .no,[],[]⟩:=
 xln seed leaf hs hl (fun c=>gU leaf c 0 15 (mI seed leaf c)) (fun c _=>rfl)
theorem xk8(seed:List UInt8)(leaf:Nat)(D:List Nat)(hs:seed.length<=64)(hD:D.length=35)(hd:∀c,c<35->D.getD c 0<=15)(F:Nat->List UInt8)(hF:∀c,c<35->F c=gU leaf c 0 (D.getD c 0) (mI seed leaf c)):∀(n c:Nat)(acc:List UInt8),35-c=n->c<=35->acc.length=16*c->
 run T (.loop tQ) ⟨[(0,.byt seed .no),(1,.int .i64 leaf),(7,.lst 1 (dgs D) .no),(8,.byt acc (.id 108)),(9,.int .i64 c)],[],[108]⟩=
 some (.x 0,⟨[(8,.byt (acc++wa c F) (.id 108))],[],[108]⟩):=by
 intro n;induction n with
 |zero=>
  intro c acc h0 h1 ha;have hi:c=35:=by omega
  subst hi;rw[pJ,ai];simp only[c35,go_sem,Q4,Qh,Qj,Qk,reduceCtorEq,reduceIte,bG]
 |succ n ih=>
  intro c acc h0 h1 ha;have hc:c<35:=by omega
  have hcI:(c:Int)<35:=by omega
  have e1:=cZ c (by omega);have hdl:=kF D;have hdg:=BL D c (by omega);have hsl:=gz leaf c (D.getD c 0) 0 (mI seed leaf c) (ie seed leaf c);have gs:=xjC seed leaf c hs;have g1:=xjD leaf c 0 (D.getD c 0) (D.getD c 0) (mI seed leaf c) (bS _) (hd c hc) (by rw[ie];decide);rw[<-hF c hc]at hsl g1;rw[c0]at g1;have ih':=ih (c+1) (acc++F c) (by omega) (by omega) (by rw[af,hsl];omega);rw[mE c hc];rw[ay]at ih';generalize hst:F c=y at*;have c1:acc.length+y.length<=140737488355328:=by omega
  rw[ai];simp only[go_sem,Qb,Qc,Qd,Qe,Qh,Qi,Qj,Qk,reduceCtorEq,reduceIte,hcI,hc,hdl,hD,hdg,e1,gs,g1,YQ,YR,c1,ih']
theorem h91(seed msg X:List UInt8)(D:List Nat)(leaf:Nat)(hl:leaf<=255)(g2:call T 166 [.byt msg .no] [] 0=some ⟨.lst 1 (dgs D) .no,[],[]⟩)(hq:run T (.loop tQ) ⟨[(0,.byt seed .no),(1,.int .i64 leaf),(7,.lst 1 (dgs D) .no),(8,.byt [] (.id 108)),(9,.int .i64 0)],[],[108]⟩=some (.x 0,⟨[(8,.byt X (.id 108))],[],[108]⟩)):
 call T 145 [.byt seed .no,.int .i64 leaf,.byt msg .no] [] 0=some ⟨.byt X .no,[],[]⟩:=by
 have h1:¬(leaf:Int)<0:=by omega
 have h2:¬(255:Int)<leaf:=by omega
 rw[an xha];simp only[go_sem,Qe,Qh,Qi,Qj,Qk,reduceCtorEq,reduceIte,h1,h2,hq,g2,xhM]
theorem k91(seed:List UInt8)(leaf:Nat)(msg:List UInt8)(hs:seed.length<=64)(hl:leaf<=255)(hm:msg.length<=100000000)(F:Nat->List UInt8)(hF:∀c,c<35->F c=gU leaf c 0 ((ip msg).getD c 0) (mI seed leaf c)):
 call T 145 [.byt seed .no,.int .i64 leaf,.byt msg .no] [] 0=some ⟨.byt (cat 35 F) .no,[],[]⟩:=by
 have hq:=xk8 seed leaf (ip msg) hs (pD msg) (pE msg) F hF 35 0 [] rfl (by omega) rfl;rw[mD]at hq;exact h91 seed msg (cat 35 F) (ip msg) leaf hl (xlJ msg hm) hq
theorem xdD(seed:List UInt8)(leaf:Nat)(msg:List UInt8)(hs:seed.length<=64)(hl:leaf<=255)(hm:msg.length<=100000000):call T 145 [.byt seed .no,.int .i64 leaf,.byt msg .no] [] 0=some ⟨.byt (qQ seed leaf msg) .no,[],[]⟩:=
 k91 seed leaf msg hs hl hm (fun c=>gU leaf c 0 ((ip msg).getD c 0) (mI seed leaf c)) (fun c _=>rfl)
theorem xmf(n:Nat)(h:n<4611686018427387904):bZ .and .i64 (n:Int) 1=((n % 2:Nat):Int):=by
 have e1:(BitVec.ofNat 64 n&&&BitVec.ofNat 64 1).toNat=n % 2:=by rw[BitVec.toNat_and,BitVec.toNat_ofNat,BitVec.toNat_ofNat,cx (by omega)];exact Nat.and_one_is_mod n
 unfold bZ;rw[show(1:Int)=((1:Nat):Int)from rfl];simp only[BitVec.ofInt_natCast];show ah.wrap (((BitVec.ofNat 64 n&&&BitVec.ofNat 64 1).toNat:Nat):Int)=_;rw[e1];exact w64 (by omega) (by omega)
theorem xjz(h i:Nat)(a b:List UInt8)(ha:a.length<=1000000)(hb:b.length<=1000000):call T 177 [.int .i64 h,.int .i64 i,.byt a .no,.byt b .no] [] 0=some ⟨.byt (jw h i a b) .no,[],[]⟩:=by have g:=xh6 3 [ub h,ub i] a b (by simp) (by omega) (by omega);have hl:=gY 3 [[ub h,ub i],a,b];unfold ub at g hl;rw[an xgN];simp only[go_sem,Q2,Q3,Qe,Qh,Qi,Qj,Qk,reduceCtorEq,reduceIte,g,Sa,hl,c32,jw,h16,ub]
theorem xlQ(h i:Nat)(a b:List UInt8)(ha:a.length<=1000000)(hb:b.length<=1000000):call T 147 [.int .i64 h,.int .i64 i,.byt a .no,.byt b .no] [] 0=some ⟨.byt (jw h i a b) .no,[],[]⟩:=by have g:=xkj 3 [ub h,ub i] a b (by simp) (by omega) (by omega);have hl:=gY 3 [[ub h,ub i],a,b];unfold ub at g hl;rw[an xg9];simp only[go_sem,Q2,Q3,Q5,Qe,Qh,Qi,Qj,Qk,reduceCtorEq,reduceIte,g,R9,hl,c32,jw,h16,ub]
theorem xdG(B:List UInt8)(h:B.length<=1000000000):call T 112 [.byt B .no] [] 0=some ⟨.byt B .no,[],[]⟩:=by
 have c1:0+B.length<=140737488355328:=by omega
 have c2:B.length<=140737488355328:=by omega
 rw[an xht];simp only[go_sem,Qe,Qh,Qi,Qj,Qk,reduceCtorEq,reduceIte,c2,aI]
theorem xk6(P:List (List UInt8))(hP:P.length<=3)(hb:∀s∈P,s.length<=1000000):∀(n h i:Nat)(x:List UInt8)(q:Tok),P.length-h=n->h<=P.length->i<1000->x.length<=1000000->
 run T (.loop r4) ⟨[(1,.int .i64 i),(7,.byt x q),(29,.lst 1 (bys P) .no),(30,.int .i64 P.length),(31,.int .i64 h)],[],[128]⟩=
 some (.x 0,⟨[(7,.byt (qr h i (P.drop h) x) (if h=P.length then q else .no))],[],[128]⟩):=by
 intro n;induction n with
 |zero=>
  intro h i x q h0 h1 h2 hx;have hi:h=P.length:=by omega
  subst hi;rw[bP,ai];simp only[go_sem,Qh,Qj,Qk,reduceIte,qr,if_true]
 |succ n ih=>
  intro h i x q h0 h1 h2 hx;have hh:h<P.length:=by omega
  have hI:(h:Int)<(P.length:Int):=by omega
  have e1:=cZ h (by omega);have hg:=sN P h hh;have hl:=jy P;have ha:=xmf i (by omega)
  have hs:(P.getD h []).length<=1000000:=by rw[aa,ac hh,aM];exact hb _ (bo hh)
  have hd:P.drop h=P.getD h []::P.drop (h+1):=by rw[bE hh,aa,ac hh,aM]
  rw[hd];generalize hc:P.getD h []=s at*;have hne:¬h=P.length:=by omega
  rw[if_neg hne];have e2:((i:Int)/2)=((i/2:Nat):Int):=by omega
  have e3:(i:Int).fdiv (2^min 1 64)=((i/2:Nat):Int):=by rw[show(2:Int)^min 1 64=2 from by decide,ic _ (by decide)];omega
  have e4:ah.wrap ((i/2:Nat):Int)=((i/2:Nat):Int):=w64 (by omega) (by omega);rw[ai]
  by_cases ho:i % 2=1
  ·have ih':=ih (h+1) (i/2) (jw h (i/2) s x) .no (by omega) (by omega) (by omega) (by rw[jw,eA];omega)
   rw[ite_self]at ih';have g:=xjz h (i/2) s x hs hx;rw[ho]at ha;simp only[Int.natCast_one]at ha;simp only[go_sem,Q2,Q3,Qh,Qj,Qk,reduceCtorEq,reduceIte,hI,e1,hg,hl,ha,e3,g,YK,ih',qr,ho]
  ·have ho2:i % 2=0:=by omega
   have ih':=ih (h+1) (i/2) (jw h (i/2) x s) .no (by omega) (by omega) (by omega) (by rw[jw,eA];omega);rw[ite_self]at ih';have g:=xjz h (i/2) x s hx hs;rw[ho2]at ha;simp only[aD]at ha;have z1:¬(0:Int)=1:=by decide
   have z2:¬(0:Nat)=1:=by decide
   simp only[go_sem,Q2,Q3,Qh,Qj,Qk,reduceCtorEq,reduceIte,hI,e1,hg,hl,ha,e3,g,YK,ih',qr,ho2,z1,z2]
end Go.Proofs.YtbfnljmmepcbfaaGreatDoor
