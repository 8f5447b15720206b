/- What the functions come to. No condition. -/
import Derived.Test.YtkggincjigbelaaGreatDoorTb
open Int renaming natCast_zero -> aJ
open Go.IntKind renaming i64 -> af, u32 -> cw
open List renaming append_assoc -> aY, append_nil -> br, cons_append -> bo, drop_eq_getElem_cons -> c9, drop_eq_nil_of_le -> bH, drop_length -> jf, drop_zero -> bK, ext_getElem -> n7, flatMap_cons -> dw, flatMap_nil -> fM, getD_eq_getElem?_getD -> aa, getElem?_append_right -> bC, getElem?_drop -> bj, getElem?_eq_getElem -> ab, getElem?_eq_none -> dE, getElem?_map -> aI, getElem?_range -> bE, getElem_mem -> bd, length_append -> ai, length_cons -> aj, length_drop -> aS, length_map -> aK, length_nil -> ay, length_replicate -> dj, length_singleton -> bR, length_take -> ax, map_append -> c7, mem_append -> ah, mem_cons -> am, nil_append -> aQ, not_mem_nil -> cg, range -> bw, replicate -> az, singleton_append -> di, take_of_length_le -> aT
open Nat renaming le_refl -> aP, zero_add -> cn, zero_le -> dB
open Option renaming getD_some -> aV
open UInt8 renaming ofInt -> cW
set_option maxRecDepth 100000
set_option maxHeartbeats 16000000
set_option linter.unusedSimpArgs false
set_option linter.unusedVariables false
namespace Go.Proofs.YtkggincjigbelaaGreatDoor
open Go.Sy
open UInt8 renaming reduceLT -> Q0, reduceLE -> Q1
open Int renaming reduceToNat -> Q2, reduceLE -> Q3, reduceLT -> Q4, reduceEq -> Q5, reduceNe -> Q6, reduceNeg -> Q7, reduceAdd -> Q8, reduceSub -> Q9, reduceMul -> Qa
open Nat renaming reducePow -> Qb, reduceDiv -> Qc, reduceMod -> Qd, reduceAdd -> Qe, reduceSub -> Qf, reduceMul -> Qg, reduceLT -> Qh, reduceLeDiff -> Qi, reduceEqDiff -> Qj, reduceBEq -> Qk
def frF(fs:List (List UInt8)):List UInt8:=fs.flatMap fun X=>w4 (X.length:Int)++X
def frL(t:Int)(fs:List (List UInt8)):List UInt8:=cW t::frF fs
def hsh(t:Int)(fs:List (List UInt8)):List UInt8:=sha (frL t fs)
theorem Hi(t:Int)(X:List UInt8):frL t [X]=frame t X:=by simp[frL,frF,frame]
theorem Hf(t:Int)(X:List UInt8):hsh t [X]=EW t X:=by rw[hsh,Hi];rfl
theorem gE(t:Int)(fs:List (List UInt8)):(hsh t fs).length=32:=j9 _
def h16(t:Int)(fs:List (List UInt8)):List UInt8:=(hsh t fs).take 16
theorem dt(t:Int)(fs:List (List UInt8)):(h16 t fs).length=16:=by rw[h16,ax,gE];rfl
def gz(c:UInt8)(key:List UInt8):List UInt8:=(bw 64).map fun i=>key.getD i 0^^^c
def uV(key b:List UInt8):List UInt8:=sha (gz 92 key++sha (gz 54 key++b))
def u6(key label ctx:List UInt8)(n:Nat):List UInt8:=(uV key (w4 1++(label++0::(ctx++w4 (8*(n:Int)))))).take n
theorem mj(key b:List UInt8):(uV key b).length=32:=j9 _
theorem qt(key label ctx:List UInt8)(n:Nat)(h:n<=32):(u6 key label ctx n).length=n:=by rw[u6,ax,mj];omega
def hi4(b:UInt8):Nat:=b.toNat/16
def lo4(b:UInt8):Nat:=b.toNat % 16
def dg(l:List UInt8):List Nat:=l.flatMap fun b=> [hi4 b,lo4 b]
def sm(l:List UInt8):Nat:=l.foldl (fun s b=>s+((15-hi4 b)+(15-lo4 b))) 0
def gM(msg:List UInt8):List Nat:=dg (h16 4 [msg])++ [sm (h16 4 [msg])/256,sm (h16 4 [msg])/16 % 16,sm (h16 4 [msg]) % 16]
theorem Eg(l:List UInt8):(dg l).length=2*l.length:=by
 induction l with
 |nil=>rfl
 |cons b r ih=>simp only[dg,dw,ai,aj,ay]at*;omega
theorem UN(l:List UInt8):∀d∈dg l,d<=15:=by intro d hd;simp only[dg,List.mem_flatMap]at hd;obtain⟨b,_,hb⟩:=hd;have:=b.toNat_lt;simp only[am,cg,or_false]at hb;rcases hb with rfl|rfl<;>simp only[hi4,lo4]<;>omega
theorem Ih(l:List UInt8)(s:Nat):l.foldl (fun s b=>s+((15-hi4 b)+(15-lo4 b))) s<=s+30*l.length:=by
 induction l generalizing s with
 |nil=>simp
 |cons b r ih=>rw[List.foldl_cons,aj];have:=ih (s+((15-hi4 b)+(15-lo4 b)));omega
theorem mA(msg:List UInt8):(gM msg).length=35:=by rw[gM,ai,Eg,dt];rfl
theorem HG(msg:List UInt8):∀d∈gM msg,d<=15:=by
 intro d hd;rcases ah.1 hd with h|h
 ·exact UN _ d h
 ·have h1:=Ih (h16 4 [msg]) 0
  rw[dt]at h1;have h2:sm (h16 4 [msg])<=480:=by unfold sm;omega
  simp only[am,cg,or_false]at h;rcases h with rfl|rfl|rfl<;>omega
theorem mB(msg:List UInt8)(c:Nat)(hc:c<35):(gM msg).getD c 0<=15:=by refine HG msg _ ?_;rw[aa,ab (by rw[mA];exact hc),aV];exact bd _
def ub(n:Nat):UInt8:=cW (n:Int)
def mJ(leaf c p:Nat)(x:List UInt8):List UInt8:=h16 1 [[ub leaf,ub c,ub p],x]
def dX(leaf c:Nat):Nat->Nat->List UInt8->List UInt8
 |_,0,x=>x
 |p,n+1,x=>dX leaf c (p+1) n (mJ leaf c p x)
theorem pJ(leaf c:Nat):∀(n m p:Nat)(x:List UInt8),dX leaf c p (n+m) x=dX leaf c (p+n) m (dX leaf c p n x)
 |0,m,p,x=>by simp[dX]
 |n+1,m,p,x=>by rw[show n+1+m=(n+m)+1 from by omega];show dX leaf c (p+1) (n+m) _=_;rw[pJ leaf c n m (p+1),show p+1+n=p+(n+1)from by omega];rfl
theorem ee(leaf c:Nat):∀(n p:Nat)(x:List UInt8),x.length=16->(dX leaf c p n x).length=16
 |0,_,_,h=>h
 |n+1,p,x,_=>ee leaf c n (p+1) _ (dt _ _)
def jP:List UInt8:=[99,104,97,105,110]
def fB(seed:List UInt8)(leaf c:Nat):List UInt8:=u6 seed jP [ub leaf,ub c] 16
theorem eg(seed:List UInt8)(leaf c:Nat):(fB seed leaf c).length=16:=qt _ _ _ _ (by decide)
def cat(n:Nat)(f:Nat->List UInt8):List UInt8:=(bw n).flatMap f
theorem j5(n:Nat)(f:Nat->List UInt8):cat (n+1) f=cat n f++f n:=by simp[cat,List.range_succ]
theorem jq(f:Nat->List UInt8):∀n,(∀c,c<n->(f c).length=16)->(cat n f).length=16*n
 |0,_=>rfl
 |n+1,h=>by rw[j5,ai,jq f n (fun c hc=>h c (by omega)),h n (by omega)];omega
theorem u7(f:Nat->List UInt8):∀n,(∀c,c<n->(f c).length=16)->∀c,c<n->((cat n f).drop (16*c)).take 16=f c
 |0,_,_,h=>absurd h (Nat.not_lt_zero _)
 |n+1,h,c,hc=>by
  have hl:=jq f n (fun c hc=>h c (by omega));rw[j5]
  by_cases e:c<n
  ·rw[List.drop_append_of_le_length (by rw[hl];omega),List.take_append_of_le_length (by rw[aS,hl];omega)]
   exact u7 f n (fun c hc=>h c (by omega)) c e
  ·have:c=n:=by omega
   subst this;rw[List.drop_append,hl,Nat.sub_self,bK,bH (by rw[hl];exact aP _),aQ];exact aT (by rw[h c (by omega)];exact aP _)
theorem w7(f g:Nat->List UInt8)(n:Nat)(h:∀c,c<n->f c=g c):cat n f=cat n g:=by
 induction n with
 |zero=>rfl
 |succ n ih=>rw[j5,j5,ih (fun c hc=>h c (by omega)),h n (by omega)]
def pF(leaf:Nat)(ends:List UInt8):List UInt8:=h16 2 [[ub leaf],ends]
def pubL(seed:List UInt8)(leaf:Nat):List UInt8:=pF leaf (cat 35 fun c=>dX leaf c 0 15 (fB seed leaf c))
def lz(seed:List UInt8)(leaf:Nat)(msg:List UInt8):List UInt8:=cat 35 fun c=>dX leaf c 0 ((gM msg).getD c 0) (fB seed leaf c)
def pU(leaf:Nat)(msg sig:List UInt8):List UInt8:=pF leaf (cat 35 fun c=>dX leaf c ((gM msg).getD c 0) (15-(gM msg).getD c 0) ((sig.drop (16*c)).take 16))
theorem dq(seed:List UInt8)(leaf:Nat):(pubL seed leaf).length=16:=dt _ _
theorem jS(seed:List UInt8)(leaf:Nat)(msg:List UInt8):(lz seed leaf msg).length=560:=jq _ 35 fun c _=>ee _ _ _ _ _ (eg _ _ _)
theorem vY(seed:List UInt8)(leaf:Nat)(msg:List UInt8):pU leaf msg (lz seed leaf msg)=pubL seed leaf:=by
 unfold pU pubL
 congr 1
 refine w7 _ _ 35 fun c hc=> ?_
 have h:=mB msg c hc;unfold lz;rw[u7 _ 35 (fun c _=>ee _ _ _ _ _ (eg _ _ _)) c hc];have:=pJ leaf c ((gM msg).getD c 0) (15-(gM msg).getD c 0) 0 (fB seed leaf c);rw[cn,show(gM msg).getD c 0+(15-(gM msg).getD c 0)=15 from by omega]at this;exact this.symm
def gD(h i:Nat)(a b:List UInt8):List UInt8:=h16 3 [[ub h,ub i],a,b]
def mZ:Nat->Nat->List (List UInt8)->List UInt8->List UInt8
 |_,_,[],x=>x
 |h,i,s::r,x=>mZ (h+1) (i/2) r (if i % 2=1 then gD h (i/2) s x else gD h (i/2) x s)
def xN:List UInt8:=[115,105,103,110,101,114]
def lsV(seed:List UInt8)(height:Nat):List UInt8:=u6 seed xN [ub height] 32
theorem gC(seed:List UInt8)(height:Nat):(lsV seed height).length=32:=qt _ _ _ _ (by decide)
def lvs(seed:List UInt8)(height n:Nat):List (List UInt8):=(bw n).map fun i=>pubL (lsV seed height) i
def Yd:List (List UInt8)->List UInt8
 |[a,b]=>gD 0 0 a b
 |[a]=>a
 |_=> []
def gb(seed:List UInt8)(height:Nat):List UInt8:=ub height::Yd (lvs seed height (2^height))
def GA(i:Nat):List (List UInt8)->List UInt8
 |[a,b]=>if i=0 then b else a
 |_=> []
def jw(seed:List UInt8)(height leaf:Nat)(msg:List UInt8):List UInt8:=ub leaf::(lz (lsV seed height) leaf msg++GA leaf (lvs seed height (2^height)))
def rws:Nat->List UInt8->List (List UInt8)
 |0,_=> []
 |n+1,l=>l.take 16::rws n (l.drop 16)
def jA(pub msg sig:List UInt8):Bool:=
 if pub.length=17/\(pub.getD 0 0).toNat<=3 then
  if sig.length=561+16*(pub.getD 0 0).toNat/\(sig.getD 0 0).toNat<2^(pub.getD 0 0).toNat then
   decide (mZ 0 (sig.getD 0 0).toNat (rws (pub.getD 0 0).toNat (sig.drop 561)) (pU (sig.getD 0 0).toNat msg ((sig.drop 1).take 560))=pub.drop 1)
  else false
 else false
theorem FA(seed msg:List UInt8)(leaf:Nat)(h:leaf<2):jA (gb seed 1) msg (jw seed 1 leaf msg)=true:=by
 have h1:=jS (lsV seed 1) leaf msg;have hv:lvs seed 1 (2^1)=[pubL (lsV seed 1) 0,pubL (lsV seed 1) 1]:=rfl;have p0:=dq (lsV seed 1) 0;have p1:=dq (lsV seed 1) 1
 have hb:(ub leaf).toNat=leaf:=by rcases (by omega:leaf=0\/leaf=1)with rfl|rfl<;>rfl
 have hp:(GA leaf (lvs seed 1 (2^1))).length=16:=by rw[hv,GA];split<;>assumption
 have e1:(gb seed 1).getD 0 0=1:=rfl;have e2:(jw seed 1 leaf msg).getD 0 0=ub leaf:=rfl;have e3:(gb seed 1).length=17:=by rw[gb,aj,hv];show(gD 0 0 _ _).length+1=17;rw[gD,dt]
 have e4:(jw seed 1 leaf msg).length=577:=by rw[jw,aj,ai,h1,hp]
 have e5:((jw seed 1 leaf msg).drop 1).take 560=lz (lsV seed 1) leaf msg:=by rw[jw,List.drop_succ_cons,bK,List.take_append_of_le_length (by rw[h1];exact aP _),aT (by rw[h1];exact aP _)]
 have e6:rws 1 ((jw seed 1 leaf msg).drop 561)=[GA leaf (lvs seed 1 (2^1))]:=by
  have:(jw seed 1 leaf msg).drop 561=GA leaf (lvs seed 1 (2^1)):=by rw[jw,List.drop_succ_cons,List.drop_append,h1,bH (by rw[h1];exact aP _),aQ,Nat.sub_self,bK]
  rw[this,rws,rws,aT (by rw[hp];exact aP _)]
 have e7:(1:UInt8).toNat=1:=rfl;unfold jA;rw[e1,e2,e3,e4,e7,hb,e5,e6,vY,if_pos ⟨rfl,by decide⟩,if_pos ⟨rfl,h⟩,hv];rw[decide_eq_true_iff];have hp2:List.drop 1 (gb seed 1)=gD 0 0 (pubL (lsV seed 1) 0) (pubL (lsV seed 1) 1):=by rw[gb,hv];rfl
 rw[hp2];rcases (by omega:leaf=0\/leaf=1)with rfl|rfl
 ·rw[mZ,mZ];rfl
 ·rw[mZ,mZ];rfl
theorem Xo(v:Int)(h0:0<=v)(h1:v<4294967296):call T 185 [.int .i64 v] [] 0=some ⟨.byt (w4 v) (.id 60),[],[60]⟩:=by have m24':min 24 64=24:=rfl;have m16':min 16 64=16:=rfl;have m8':min 8 64=8:=rfl;rw[ao U6];simp only[go_sem,Q0,Q1,Q2,Q3,Q4,Q5,Q6,Q7,Q8,Q9,Qa,Qb,Qc,Qd,Qe,Qf,Qg,Qh,Qi,Qj,Qk,reduceCtorEq,reduceIte,w4,fC,m24',m16',m8']
theorem Xn(v:Int)(h0:0<=v)(h1:v<4294967296):call T 191 [.int .i64 v] [] 0=some ⟨.byt (w4 v) (.id 60),[],[60]⟩:=by have m24':min 24 64=24:=rfl;have m16':min 16 64=16:=rfl;have m8':min 8 64=8:=rfl;rw[ao U0];simp only[go_sem,Q0,Q1,Q2,Q3,Q4,Q5,Q6,Q7,Q8,Q9,Qa,Qb,Qc,Qd,Qe,Qf,Qg,Qh,Qi,Qj,Qk,reduceCtorEq,reduceIte,w4,fC,m24',m16',m8']
def xr(c:UInt8)(L:List UInt8)(i:Nat):List UInt8:=(L.take i).map (· ^^^c)++L.drop i
theorem Fq(c:UInt8)(L:List UInt8):xr c L 0=L:=by simp[xr]
theorem Og(c:UInt8)(L:List UInt8)(i:Nat):(xr c L i).length=L.length:=by unfold xr;rw[ai,aK,ax,aS];omega
theorem Oh(c:UInt8)(L:List UInt8)(i:Nat)(h:i<L.length):(xr c L i).getD i 0=L.getD i 0:=by
 unfold xr;rw[aa,bC (by rw[aK,ax];omega),aK,ax,bj,aa]
 congr 2;omega
theorem Oe(c:UInt8)(L:List UInt8)(i:Nat)(h:i<L.length):(xr c L i).set i (L.getD i 0^^^c)=xr c L (i+1):=by
 unfold xr;have hl:((L.take i).map (· ^^^c)).length=i:=by rw[aK,ax];omega
 rw[List.set_append_right _ _ (by rw[hl];exact aP _),hl,Nat.sub_self,ej L i h,List.set_cons_zero,List.take_add_one,c7,aY];rw[ab h,aa,ab h];rfl
theorem Of(c:UInt8)(K:List UInt8)(h:K.length<=64):xr c (K++az (64-K.length) 0) 64=gz c K:=by
 have hl:(K++az (64-K.length) (0:UInt8)).length=64:=by rw[ai,dj];omega
 unfold xr gz;rw[aT (by omega),bH (by omega),br];refine n7 (by rw[aK,aK,hl,List.length_range]) fun i h1 h2=> ?_
 rw[aK,hl]at h1;rw[List.getElem_map,List.getElem_map,List.getElem_range]
 congr 1
 rw[aa]
 by_cases hi:i<K.length
 ·rw[List.getElem_append_left hi,ab hi];rfl
 ·rw[List.getElem_append_right (by omega),List.getElem_replicate,dE (by omega)];rfl
theorem Yt(c:UInt8)(L K:List UInt8)(hL:L.length=64):∀(n i:Nat),64-i=n->i<=64->
 run T (.loop sD) ⟨[(0,.u8 c),(4,.psl 106 1 0 64 (some 64)),(10,.int .i64 i)],[(0,.rc [.byt K .no]),(106,.bar (xr c L i))],[]⟩=
 some (.x 0,⟨[(4,.psl 106 1 0 64 (some 64))],[(0,.rc [.byt K .no]),(106,.bar (xr c L 64))],[]⟩):=by
 intro n;induction n with
 |zero=>
  intro i h0 h1;have hi:i=64:=by omega
  subst hi;rw[aq];simp only[c64,go_sem,Q0,Q1,Q2,Q3,Q4,Q5,Q6,Q7,Q8,Q9,Qa,Qb,Qc,Qd,Qe,Qf,Qg,Qh,Qi,Qj,Qk,reduceCtorEq,reduceIte]
 |succ n ih=>
  intro i h0 h1;have ih':=ih (i+1) (by omega) (by omega);have e1:=dF i (by omega);have hlt:(i:Int)<64:=by omega
  have hn:i<64:=by omega
  have hl:=Og c L i;rw[hL]at hl;have hg:=Oh c L i (by omega);have hs:=Oe c L i (by omega);rw[<-hs,<-hg]at ih';generalize hc:(xr c L i).getD i 0=z at*;rw[aq];simp only[go_sem,Q0,Q1,Q2,Q3,Q4,Q5,Q6,Q7,Q8,Q9,Qa,Qb,Qc,Qd,Qe,Qf,Qg,Qh,Qi,Qj,Qk,reduceCtorEq,reduceIte,hlt,e1,hn,hl,hc,ih']
  trace_state
theorem fp(c:UInt8)(K:List UInt8):(gz c K).length=64:=by unfold gz;rw[aK,List.length_range]
theorem Xm(c:UInt8)(K:List UInt8)(h:K.length<=64):call T 205 [.u8 c,.ptr 0 0] [.rc [.byt K .no]] 0=some ⟨.byt (gz c K) (.id 60),[(0,.rc [.byt K .no])],[60]⟩:=by have g:=Yt c (K++az (64-K.length) 0) K (by rw[ai,dj];omega) 64 0 rfl (by omega);rw[Fq,Of c K h]at g;simp only[aJ]at g;have t1:K.take 64=K:=aT h;have hp:=fp c K;have t2:(gz c K).take 64=gz c K:=aT (by rw[hp];exact aP _);have l64:64<=64:=aP _;rw[ao UY];simp only[go_sem,Q0,Q1,Q2,Q3,Q4,Q5,Q6,Q7,Q8,Q9,Qa,Qb,Qc,Qd,Qe,Qf,Qg,Qh,Qi,Qj,Qk,reduceCtorEq,reduceIte,t1,List.drop_replicate,g,hp,t2,l64]
theorem YY(K B:List UInt8)(h:K.length<=64)(hB:B.length<=1000000000):call T 186 [.byt K .no,.byt B .no] [] 0=some ⟨.byt (uV K B) .no,[],[]⟩:=by
 have g1:=Xm 54 K h;have g2:=Xm 92 K h;have p1:=fp 54 K;have p2:=fp 92 K;have g3:=f64 (gz 54 K++B) (by rw[ai];omega);have hl:(sha (gz 54 K++B)).length=32:=j9 _;have g4:=f64 (gz 92 K++sha (gz 54 K++B)) (by rw[ai];omega);have h64:¬(64:Int)<K.length:=by omega
 have c1:64+B.length<=140737488355328:=by omega
 have c2:64+32<=140737488355328:=by decide
 rw[ao U5];simp only[go_sem,Q0,Q1,Q2,Q3,Q4,Q5,Q6,Q7,Q8,Q9,Qa,Qb,Qc,Qd,Qe,Qf,Qg,Qh,Qi,Qj,Qk,reduceCtorEq,reduceIte,h64,g1,VF,p1,p2,c1,c2,hl,g2,g3,g4,R6,uV]
def mk(c:UInt8)(K:List UInt8)(i:Nat):List UInt8:=(gz c K).take i++az (64-i) 0
theorem uT(c:UInt8)(K:List UInt8):mk c K 0=az 64 0:=by simp[mk]
theorem uU(c:UInt8)(K:List UInt8):mk c K 64=gz c K:=by have:=fp c K;simp[mk,aT,this]
theorem D8(c:UInt8)(K:List UInt8)(i:Nat)(h:i<=64):(mk c K i).length=64:=by rw[mk,ai,ax,fp,dj];omega
theorem yR(c:UInt8)(K:List UInt8)(i:Nat)(h:i<64):(gz c K)[i]? =some (K.getD i 0^^^c):=by unfold gz;rw[aI,bE h];rfl
theorem D7(c:UInt8)(K:List UInt8)(i:Nat)(h:i<64):(mk c K i).set i (K.getD i 0^^^c)=mk c K (i+1):=by
 have hl:((gz c K).take i).length=i:=by rw[ax,fp];omega
 unfold mk;rw[List.set_append_right _ _ (by rw[hl];exact aP _),hl,Nat.sub_self,show 64-i=(64-(i+1))+1 from by omega,List.replicate_succ,List.set_cons_zero,List.take_add_one,yR c K i h,aY];rfl
theorem Yv(K M:List UInt8)(hK:K.length<=64):∀(n i:Nat),64-i=n->i<=64->
 run T (.loop oh) ⟨[(0,.byt K .no),(1,.byt M .no),(5,.psl 114 1 0 64 (some 64)),(6,.psl 115 1 0 64 (some 64)),(7,.int .i64 i)],[(114,.bar (mk 54 K i)),(115,.bar (mk 92 K i))],[]⟩=
 some (.x 0,⟨[(1,.byt M .no),(5,.psl 114 1 0 64 (some 64)),(6,.psl 115 1 0 64 (some 64))],[(114,.bar (mk 54 K 64)),(115,.bar (mk 92 K 64))],[]⟩):=by
 intro n;induction n with
 |zero=>
  intro i h0 h1;have hi:i=64:=by omega
  subst hi;rw[aq];simp only[c64,go_sem,Q0,Q1,Q2,Q3,Q4,Q5,Q6,Q7,Q8,Q9,Qa,Qb,Qc,Qd,Qe,Qf,Qg,Qh,Qi,Qj,Qk,reduceCtorEq,reduceIte]
 |succ n ih=>
  intro i h0 h1;have ih':=ih (i+1) (by omega) (by omega);have e1:=dF i (by omega);have hlt:(i:Int)<64:=by omega
  have hn:i<64:=by omega
  have l1:=D8 54 K i h1;have l2:=D8 92 K i h1;rw[<-D7 54 K i hn,<-D7 92 K i hn]at ih';rw[aq]
  by_cases hk:i<K.length
  ·have hkI:(i:Int)<(K.length:Int):=by omega
   simp only[go_sem,Q0,Q1,Q2,Q3,Q4,Q5,Q6,Q7,Q8,Q9,Qa,Qb,Qc,Qd,Qe,Qf,Qg,Qh,Qi,Qj,Qk,reduceCtorEq,reduceIte,hlt,e1,hn,hk,hkI,l1,l2,ih']
  ·have hkI:¬(i:Int)<(K.length:Int):=by omega
   have hz:K.getD i 0=0:=by rw[aa,dE (by omega)];rfl
   rw[hz]at ih';simp only[go_sem,Q0,Q1,Q2,Q3,Q4,Q5,Q6,Q7,Q8,Q9,Qa,Qb,Qc,Qd,Qe,Qf,Qg,Qh,Qi,Qj,Qk,reduceCtorEq,reduceIte,hlt,e1,hn,hk,hkI,l1,l2,ih']
theorem YV(K B:List UInt8)(h:K.length<=64)(hB:B.length<=1000000000):call T 192 [.byt K .no,.byt B .no] [] 0=some ⟨.byt (uV K B) .no,[],[]⟩:=by
 have g:=Yv K B h 64 0 rfl (by omega);rw[uT,uT,uU,uU]at g;simp only[aJ]at g;have p1:=fp 54 K;have p2:=fp 92 K;have g3:=f73 (gz 54 K++B) (by rw[ai];omega);have hl:(sha (gz 54 K++B)).length=32:=j9 _;have g4:=f73 (gz 92 K++sha (gz 54 K++B)) (by rw[ai];omega);have h64:¬(64:Int)<K.length:=by omega
 have c1:64+B.length<=140737488355328:=by omega
 have t1:(gz 54 K).take 64=gz 54 K:=aT (by rw[p1];exact aP _);have t2:(gz 92 K).take 64=gz 92 K:=aT (by rw[p2];exact aP _);rw[ao UZ];simp only[go_sem,Q0,Q1,Q2,Q3,Q4,Q5,Q6,Q7,Q8,Q9,Qa,Qb,Qc,Qd,Qe,Qf,Qg,Qh,Qi,Qj,Qk,reduceCtorEq,reduceIte,h64,g,p1,p2,t1,t2,c1];simp only[go_sem,Q0,Q1,Q2,Q3,Q4,Q5,Q6,Q7,Q8,Q9,Qa,Qb,Qc,Qd,Qe,Qf,Qg,Qh,Qi,Qj,Qk,reduceCtorEq,reduceIte,c1,hl,g3,g4,R5,uV,p2,t2]
theorem Xr(K lab ctx:List UInt8)(n:Nat)(h1:1<=n)(h2:n<=32)(hK:K.length<=64)(hl:lab.length<=1000)(hc:ctx.length<=1000):
 call T 138 [.byt K .no,.str lab,.byt ctx .no,.int .i64 n] [] 0=some ⟨.byt (u6 K lab ctx n) .no,[],[]⟩:=by
 have a1:¬(n:Int)<1:=by omega
 have a2:¬(1024:Int)<n:=by omega
 have a3:0<n:=by omega
 have a4:¬32<n:=by omega
 have e8:af.wrap (8*(n:Int))=8*(n:Int):=w64 (by omega) (by omega);have k2:af.wrap 2=2:=rfl;have g1:=Xo (8*(n:Int)) (by omega) (by omega);have g2:=Xo 1 (by omega) (by omega);have g3:=YY K (w4 1++(lab++0::(ctx++w4 (8*(n:Int))))) hK (by simp[w4];omega);have ml:=mj K (w4 1++(lab++0::(ctx++w4 (8*(n:Int)))));have w4l:∀x,(w4 x).length=4:=fun _=>rfl
 have c1:lab.length<=140737488355327:=by omega
 have c2:lab.length+1+ctx.length<=140737488355328:=by omega
 have c3:lab.length+(ctx.length+1)+4<=140737488355328:=by omega
 have c5:4+(lab.length+(ctx.length+4+1))<=140737488355328:=by omega
 rw[ao Vl];simp only[go_sem,Q0,Q1,Q2,Q3,Q4,Q5,Q6,Q7,Q8,Q9,Qa,Qb,Qc,Qd,Qe,Qf,Qg,Qh,Qi,Qj,Qk,reduceCtorEq,reduceIte,a1,a2,e8,g1,Nc,c1,c2,w4l,c3];rw[aq];simp only[go_sem,Q0,Q1,Q2,Q3,Q4,Q5,Q6,Q7,Q8,Q9,Qa,Qb,Qc,Qd,Qe,Qf,Qg,Qh,Qi,Qj,Qk,reduceCtorEq,reduceIte,a3,g2,Nc,VK,g3,w4l,c5,k2];unfold u6;generalize uV K (w4 1++(lab++0::(ctx++w4 (8*(n:Int)))))=X at*;have c6:X.length<=140737488355328:=by omega
 simp only[ml,c6];rw[aq];simp only[go_sem,Q0,Q1,Q2,Q3,Q4,Q5,Q6,Q7,Q8,Q9,Qa,Qb,Qc,Qd,Qe,Qf,Qg,Qh,Qi,Qj,Qk,reduceCtorEq,reduceIte,ml,a4,h2]
theorem Xq(K lab ctx:List UInt8)(n:Nat)(h1:1<=n)(h2:n<=32)(hK:K.length<=64)(hl:lab.length<=1000)(hc:ctx.length<=1000):
 call T 145 [.byt K .no,.str lab,.byt ctx .no,.int .i64 n] [] 0=some ⟨.byt (u6 K lab ctx n) .no,[],[]⟩:=by
 have a1:¬(n:Int)<1:=by omega
 have a2:¬(1024:Int)<n:=by omega
 have a3:0<n:=by omega
 have a4:¬32<n:=by omega
 have e8:af.wrap (8*(n:Int))=8*(n:Int):=w64 (by omega) (by omega);have k2:af.wrap 2=2:=rfl;have g1:=Xn (8*(n:Int)) (by omega) (by omega);have g2:=Xn 1 (by omega) (by omega);have g3:=YV K (w4 1++(lab++0::(ctx++w4 (8*(n:Int))))) hK (by simp[w4];omega);have ml:=mj K (w4 1++(lab++0::(ctx++w4 (8*(n:Int)))));have w4l:∀x,(w4 x).length=4:=fun _=>rfl
 have c1:lab.length<=140737488355327:=by omega
 have c2:lab.length+1+ctx.length<=140737488355328:=by omega
 have c3:lab.length+(ctx.length+1)+4<=140737488355328:=by omega
 have b1:4+lab.length<=140737488355328:=by omega
 have b2:4+lab.length<=140737488355327:=by omega
 have b3:4+(lab.length+1)+ctx.length<=140737488355328:=by omega
 have b4:4+(lab.length+(ctx.length+1))<=140737488355324:=by omega
 rw[ao Vh];simp only[go_sem,Q0,Q1,Q2,Q3,Q4,Q5,Q6,Q7,Q8,Q9,Qa,Qb,Qc,Qd,Qe,Qf,Qg,Qh,Qi,Qj,Qk,reduceCtorEq,reduceIte,a1,a2];rw[aq];simp only[go_sem,Q0,Q1,Q2,Q3,Q4,Q5,Q6,Q7,Q8,Q9,Qa,Qb,Qc,Qd,Qe,Qf,Qg,Qh,Qi,Qj,Qk,reduceCtorEq,reduceIte,a3,e8,g1,g2,VH,VG,g3,w4l,b1,b2,b3,b4,k2];unfold u6;generalize uV K (w4 1++(lab++0::(ctx++w4 (8*(n:Int)))))=X at*;have c6:X.length<=140737488355328:=by omega
 simp only[ml,c6];rw[aq];simp only[go_sem,Q0,Q1,Q2,Q3,Q4,Q5,Q6,Q7,Q8,Q9,Qa,Qb,Qc,Qd,Qe,Qf,Qg,Qh,Qi,Qj,Qk,reduceCtorEq,reduceIte,ml,a4,h2]
def bys(fs:List (List UInt8)):List (List SV):=fs.map fun X=> [.byt X .no]
theorem im(fs:List (List UInt8)):(bys fs).length=fs.length:=by simp[bys]
theorem oD(fs:List (List UInt8))(i:Nat)(h:i<fs.length):(bys fs).getD i []=[.byt (fs.getD i []) .no]:=by simp[bys,aa,h]
theorem qk(fs:List (List UInt8))(i:Nat)(h:i<fs.length):frF (fs.drop i)=w4 ((fs.getD i []).length:Int)++(fs.getD i []++frF (fs.drop (i+1))):=by
 have:fs.drop i=fs.getD i []::fs.drop (i+1):=by rw[c9 h,aa,ab h,aV]
 rw[this];simp[frF]
theorem Yu(fs:List (List UInt8))(hl:fs.length<=100)(hb:∀i,i<fs.length->(fs.getD i []).length<=1000000000):∀(n i:Nat)(acc:List UInt8),fs.length-i=n->i<=fs.length->acc.length+(frF (fs.drop i)).length<=1000000000000->
 run T (.loop sE) ⟨[(5,.byt acc (.id 105)),(12,.lst 1 (bys fs) .no),(13,.int .i64 fs.length),(14,.int .i64 i)],[],[105]⟩=
 some (.x 0,⟨[(5,.byt (acc++frF (fs.drop i)) (.id 105))],[],[105]⟩):=by
 intro n;induction n with
 |zero=>
  intro i acc h0 h1 ha;have hi:i=fs.length:=by omega
  subst hi;rw[aq];simp only[go_sem,Q0,Q1,Q2,Q3,Q4,Q5,Q6,Q7,Q8,Q9,Qa,Qb,Qc,Qd,Qe,Qf,Qg,Qh,Qi,Qj,Qk,reduceCtorEq,reduceIte,jf,frF,fM,br]
 |succ n ih=>
  intro i acc h0 h1 ha;have hi:i<fs.length:=by omega
  have hiI:(i:Int)<(fs.length:Int):=by omega
  have e1:=dF i (by omega);have hX:=hb i hi;have ih':=ih (i+1) (acc++(w4 ((fs.getD i []).length:Int)++fs.getD i []));rw[qk fs i hi]at ha ⊢;have hg:=oD fs i hi;have hbl:=im fs;generalize hc:fs.getD i []=X at*;simp only[ai,w4,aj,ay]at ha ih';have ih2:=ih' (by omega) (by omega) (by omega);have c1:acc.length+4<=140737488355328:=by omega
  have c2:acc.length+4+X.length<=140737488355328:=by omega
  have c3:acc.length+(4+X.length)<=140737488355328:=by omega
  have e2:cw.wrap (X.length:Int)=X.length:=by rw[IntKind.wrap_u32];omega
  simp only[aY,bo,aQ,fC]at ih2;rw[aq];simp only[go_sem,Q0,Q1,Q2,Q3,Q4,Q5,Q6,Q7,Q8,Q9,Qa,Qb,Qc,Qd,Qe,Qf,Qg,Qh,Qi,Qj,Qk,reduceCtorEq,reduceIte,hi,hiI,hg,hbl,hc,e1,e2,c1,c2,c3,m24,m16,m8,w4,fC,aY,ih2]
theorem UA(t:Int)(fs:List (List UInt8))(hl:fs.length<=100)(hb:∀i,i<fs.length->(fs.getD i []).length<=1000000000)(hs:(frF fs).length<=100000000000):
 call T 204 [.int .i64 t,.lst 1 (bys fs) .no] [] 0=some ⟨.byt (frL t fs) .no,[],[]⟩:=by
 have g:=Yu fs hl hb _ 0 [cW t] rfl (dB _) (by rw[bK,bR];omega);have hbl:=im fs;simp only[aJ,bK,di]at g;rw[ao M4];simp only[go_sem,Q0,Q1,Q2,Q3,Q4,Q5,Q6,Q7,Q8,Q9,Qa,Qb,Qc,Qd,Qe,Qf,Qg,Qh,Qi,Qj,Qk,reduceCtorEq,reduceIte,hbl,g,frL]
theorem Ys(fs:List (List UInt8))(hl:fs.length<=100)(hb:∀i,i<fs.length->(fs.getD i []).length<=1000000000):∀(n i:Nat)(acc:List UInt8),fs.length-i=n->i<=fs.length->acc.length+(frF (fs.drop i)).length<=1000000000000->
 run T (.loop sC) ⟨[(1,.lst 1 (bys fs) .no),(5,.byt acc (.id 105)),(6,.int .i64 i)],[],[105]⟩=
 some (.x 0,⟨[(5,.byt (acc++frF (fs.drop i)) (.id 105))],[],[105]⟩):=by
 intro n;induction n with
 |zero=>
  intro i acc h0 h1 ha;have hi:i=fs.length:=by omega
  have hbl:=im fs;subst hi;rw[aq];simp only[go_sem,Q0,Q1,Q2,Q3,Q4,Q5,Q6,Q7,Q8,Q9,Qa,Qb,Qc,Qd,Qe,Qf,Qg,Qh,Qi,Qj,Qk,reduceCtorEq,reduceIte,hbl,jf,frF,fM,br]
 |succ n ih=>
  intro i acc h0 h1 ha;have hi:i<fs.length:=by omega
  have hiI:(i:Int)<(fs.length:Int):=by omega
  have e1:=dF i (by omega);have hX:=hb i hi;have ih':=ih (i+1) (acc++(w4 ((fs.getD i []).length:Int)++fs.getD i []));rw[qk fs i hi]at ha ⊢;have hg:=oD fs i hi;have hbl:=im fs;generalize hc:fs.getD i []=X at*;simp only[ai,w4,aj,ay]at ha ih';have ih2:=ih' (by omega) (by omega) (by omega);have c1:acc.length+4<=140737488355328:=by omega
  have c2:acc.length+4+X.length<=140737488355328:=by omega
  have c3:acc.length+(4+X.length)<=140737488355328:=by omega
  have m24':min 24 64=24:=rfl;have m16':min 16 64=16:=rfl;have m8':min 8 64=8:=rfl;simp only[aY,bo,aQ,fC]at ih2;rw[aq];simp only[go_sem,Q0,Q1,Q2,Q3,Q4,Q5,Q6,Q7,Q8,Q9,Qa,Qb,Qc,Qd,Qe,Qf,Qg,Qh,Qi,Qj,Qk,reduceCtorEq,reduceIte,hi,hiI,hg,hbl,hc,e1,c1,c2,c3,m24',m16',m8',w4,fC,aY,ih2]
theorem Uz(t:Int)(fs:List (List UInt8))(hl:fs.length<=100)(hb:∀i,i<fs.length->(fs.getD i []).length<=1000000000)(hs:(frF fs).length<=100000000000):
 call T 206 [.int .i64 t,.lst 1 (bys fs) .no] [] 0=some ⟨.byt (frL t fs) .no,[],[]⟩:=by
 have g:=Ys fs hl hb _ 0 [cW t] rfl (dB _) (by rw[bK,bR];omega);simp only[aJ,bK,di]at g;rw[ao UX];simp only[go_sem,Q0,Q1,Q2,Q3,Q4,Q5,Q6,Q7,Q8,Q9,Qa,Qb,Qc,Qd,Qe,Qf,Qg,Qh,Qi,Qj,Qk,reduceCtorEq,reduceIte,g,frL]
theorem MN(t:Int)(fs:List (List UInt8))(hl:fs.length<=100)(hb:∀i,i<fs.length->(fs.getD i []).length<=1000000000)(hs:(frF fs).length<=10000000000):
 call T 183 [.int .i64 t,.lst 1 (bys fs) .no] [] 0=some ⟨.byt (hsh t fs) .no,[],[]⟩:=by
 have g1:=UA t fs hl hb (by omega);have g2:=f64 (frL t fs) (by unfold frL;rw[aj];omega);rw[ao M5];simp only[go_sem,Q0,Q1,Q2,Q3,Q4,Q5,Q6,Q7,Q8,Q9,Qa,Qb,Qc,Qd,Qe,Qf,Qg,Qh,Qi,Qj,Qk,reduceCtorEq,reduceIte,g1,g2,Na,R6,hsh]
theorem MM(t:Int)(fs:List (List UInt8))(hl:fs.length<=100)(hb:∀i,i<fs.length->(fs.getD i []).length<=1000000000)(hs:(frF fs).length<=10000000000):
 call T 190 [.int .i64 t,.lst 1 (bys fs) .no] [] 0=some ⟨.byt (hsh t fs) .no,[],[]⟩:=by
 have g1:=Uz t fs hl hb (by omega);have g2:=f73 (frL t fs) (by unfold frL;rw[aj];omega);rw[ao U1];simp only[go_sem,Q0,Q1,Q2,Q3,Q4,Q5,Q6,Q7,Q8,Q9,Qa,Qb,Qc,Qd,Qe,Qf,Qg,Qh,Qi,Qj,Qk,reduceCtorEq,reduceIte,g1,g2,VE,R5,hsh]
theorem Xx(A B:List UInt8)(hA:A.length<=1000000000)(hB:B.length<=1000000000):∀i,i< [A,B].length->([A,B].getD i []).length<=1000000000:=fun i hi=>by
 match i,hi with
 |0,_=>exact hA
 |1,_=>exact hB
theorem Xw(A B C:List UInt8)(hA:A.length<=1000000000)(hB:B.length<=1000000000)(hC:C.length<=1000000000):∀i,i< [A,B,C].length->([A,B,C].getD i []).length<=1000000000:=fun i hi=>by
 match i,hi with
 |0,_=>exact hA
 |1,_=>exact hB
 |2,_=>exact hC
theorem oV(x:Int):(w4 x).length=4:=rfl
theorem a183(t:Int)(A B:List UInt8)(hA:A.length<=1000000000)(hB:B.length<=1000000000):call T 183 [.int .i64 t,.lst 1 [[.byt A .no],[.byt B .no]] .no] [] 0=some ⟨.byt (hsh t [A,B]) .no,[],[]⟩:=
 MN t [A,B] (by simp) (Xx A B hA hB) (by simp only[frF,dw,fM,ai,oV,ay];omega)
theorem Xz(t:Int)(A B:List UInt8)(hA:A.length<=1000000000)(hB:B.length<=1000000000):call T 190 [.int .i64 t,.lst 1 [[.byt A .no],[.byt B .no]] .no] [] 0=some ⟨.byt (hsh t [A,B]) .no,[],[]⟩:=
 MM t [A,B] (by simp) (Xx A B hA hB) (by simp only[frF,dw,fM,ai,oV,ay];omega)
theorem t183(t:Int)(A B C:List UInt8)(hA:A.length<=1000000000)(hB:B.length<=1000000000)(hC:C.length<=1000000000):call T 183 [.int .i64 t,.lst 1 [[.byt A .no],[.byt B .no],[.byt C .no]] .no] [] 0=some ⟨.byt (hsh t [A,B,C]) .no,[],[]⟩:=
 MN t [A,B,C] (by simp) (Xw A B C hA hB hC) (by simp only[frF,dw,fM,ai,oV,ay];omega)
theorem X0(t:Int)(A B C:List UInt8)(hA:A.length<=1000000000)(hB:B.length<=1000000000)(hC:C.length<=1000000000):call T 190 [.int .i64 t,.lst 1 [[.byt A .no],[.byt B .no],[.byt C .no]] .no] [] 0=some ⟨.byt (hsh t [A,B,C]) .no,[],[]⟩:=
 MM t [A,B,C] (by simp) (Xw A B C hA hB hC) (by simp only[frF,dw,fM,ai,oV,ay];omega)
end Go.Proofs.YtkggincjigbelaaGreatDoor
