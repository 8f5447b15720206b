/- What the functions come to. No condition. -/
import Derived.Test.YtkggincjigbelaaGreatDoorTbB
open Int renaming natCast_zero -> aw
open Go.IntKind renaming i64 -> af, u32 -> cQ
open List renaming append_assoc -> ay, append_nil -> bg, cons_append -> aU, drop -> gJ, drop_eq_getElem_cons -> bF, drop_eq_nil_of_le -> bN, drop_length -> bG, drop_zero -> bj, ext_getElem -> sB, flatMap_cons -> dU, flatMap_nil -> eZ, foldl_cons -> fM, getD_eq_getElem?_getD -> aa, getElem?_append_right -> bU, getElem?_drop -> bw, getElem?_eq_getElem -> ab, getElem?_eq_none -> eo, getElem?_map -> aQ, getElem?_range -> bV, getElem_mem -> bh, length_append -> ac, length_cons -> aj, length_drop -> aI, length_map -> aP, length_nil -> aq, length_replicate -> dI, length_singleton -> aW, length_take -> ax, map_append -> ct, mem_append -> al, mem_cons -> av, nil_append -> az, not_mem_nil -> cL, range -> bE, replicate -> aE, singleton_append -> dd, take_of_length_le -> aO
open Nat renaming le_refl -> aH, mod_eq_of_lt -> cy, zero_add -> bX, zero_le -> bt
open Option renaming getD_some -> aY
open UInt8 renaming ofInt -> bK
set_option maxRecDepth 100000
set_option maxHeartbeats 16000000
set_option linter.unusedSimpArgs false
set_option linter.unusedVariables false
namespace Go.Proofs.YtkggincjigbelaaGreatDoor
open Go.Sy
open UInt8 renaming reduceLT -> Q0, reduceLE -> Q1
open Int renaming reduceToNat -> Q2, reduceLE -> Q3, reduceLT -> Q4, reduceEq -> Q5, reduceNe -> Q6, reduceNeg -> Q7, reduceAdd -> Q8, reduceSub -> Q9, reduceMul -> Qa
open Nat renaming reducePow -> Qb, reduceDiv -> Qc, reduceMod -> Qd, reduceAdd -> Qe, reduceSub -> Qf, reduceMul -> Qg, reduceLT -> Qh, reduceLeDiff -> Qi, reduceEqDiff -> Qj, reduceBEq -> Qk
def frF(fs:List (List UInt8)):List UInt8:=fs.flatMap fun X=>w4 (X.length:Int)++X
def frL(t:Int)(fs:List (List UInt8)):List UInt8:=bK t::frF fs
def hsh(t:Int)(fs:List (List UInt8)):List UInt8:=sha (frL t fs)
theorem RU(t:Int)(X:List UInt8):frL t [X]=frame t X:=by simp[frL,frF,frame]
theorem BR(t:Int)(X:List UInt8):hsh t [X]=xL t X:=by rw[hsh,RU];rfl
theorem il(t:Int)(fs:List (List UInt8)):(hsh t fs).length=32:=md _
def h16(t:Int)(fs:List (List UInt8)):List UInt8:=(hsh t fs).take 16
theorem db(t:Int)(fs:List (List UInt8)):(h16 t fs).length=16:=by rw[h16,ax,il];rfl
def iR(c:UInt8)(key:List UInt8):List UInt8:=(bE 64).map fun i=>key.getD i 0^^^c
def BN(key b:List UInt8):List UInt8:=sha (iR 92 key++sha (iR 54 key++b))
def BX(key label ctx:List UInt8)(n:Nat):List UInt8:=(BN key (w4 1++(label++0::(ctx++w4 (8*(n:Int)))))).take n
theorem pD(key b:List UInt8):(BN key b).length=32:=md _
theorem wj(key label ctx:List UInt8)(n:Nat)(h:n<=32):(BX key label ctx n).length=n:=by rw[BX,ax,pD];omega
def hi4(b:UInt8):Nat:=b.toNat/16
def lo4(b:UInt8):Nat:=b.toNat % 16
def dg(l:List UInt8):List Nat:=l.flatMap fun b=> [hi4 b,lo4 b]
def sm(l:List UInt8):Nat:=l.foldl (fun s b=>s+((15-hi4 b)+(15-lo4 b))) 0
def fp(msg:List UInt8):List Nat:=dg (h16 4 [msg])++ [sm (h16 4 [msg])/256,sm (h16 4 [msg])/16 % 16,sm (h16 4 [msg]) % 16]
theorem zi(l:List UInt8):(dg l).length=2*l.length:=by
 induction l with
 |nil=>rfl
 |cons b r ih=>simp only[dg,dU,ac,aj,aq]at*;omega
theorem xiC(l:List UInt8):∀d∈dg l,d<=15:=by intro d hd;simp only[dg,List.mem_flatMap]at hd;obtain⟨b,_,hb⟩:=hd;have:=b.toNat_lt;simp only[av,cL,or_false]at hb;rcases hb with rfl|rfl<;>simp only[hi4,lo4]<;>omega
theorem Ol(l:List UInt8)(s:Nat):l.foldl (fun s b=>s+((15-hi4 b)+(15-lo4 b))) s<=s+30*l.length:=by
 induction l generalizing s with
 |nil=>simp
 |cons b r ih=>rw[fM,aj];have:=ih (s+((15-hi4 b)+(15-lo4 b)));omega
theorem kx(msg:List UInt8):(fp msg).length=35:=by rw[fp,ac,zi,db];rfl
theorem Sn(msg:List UInt8):∀d∈fp msg,d<=15:=by
 intro d hd;rcases al.1 hd with h|h
 ·exact xiC _ d h
 ·have h1:=Ol (h16 4 [msg]) 0
  rw[db]at h1;have h2:sm (h16 4 [msg])<=480:=by unfold sm;omega
  simp only[av,cL,or_false]at h;rcases h with rfl|rfl|rfl<;>omega
theorem ky(msg:List UInt8)(c:Nat)(hc:c<35):(fp msg).getD c 0<=15:=by refine Sn msg _ ?_;rw[aa,ab (by rw[kx];exact hc),aY];exact bh _
def ub(n:Nat):UInt8:=bK (n:Int)
def pY(leaf c p:Nat)(x:List UInt8):List UInt8:=h16 1 [[ub leaf,ub c,ub p],x]
def eg(leaf c:Nat):Nat->Nat->List UInt8->List UInt8
 |_,0,x=>x
 |p,n+1,x=>eg leaf c (p+1) n (pY leaf c p x)
theorem uT(leaf c:Nat):∀(n m p:Nat)(x:List UInt8),eg leaf c p (n+m) x=eg leaf c (p+n) m (eg leaf c p n x)
 |0,m,p,x=>by simp[eg]
 |n+1,m,p,x=>by rw[show n+1+m=(n+m)+1 from by omega];show eg leaf c (p+1) (n+m) _=_;rw[uT leaf c n m (p+1),show p+1+n=p+(n+1)from by omega];rfl
theorem dZ(leaf c:Nat):∀(n p:Nat)(x:List UInt8),x.length=16->(eg leaf c p n x).length=16
 |0,_,_,h=>h
 |n+1,p,x,_=>dZ leaf c n (p+1) _ (db _ _)
def lN:List UInt8:=[99,104,97,105,110]
def fx(seed:List UInt8)(leaf c:Nat):List UInt8:=BX seed lN [ub leaf,ub c] 16
theorem ek(seed:List UInt8)(leaf c:Nat):(fx seed leaf c).length=16:=wj _ _ _ _ (by decide)
def cat(n:Nat)(f:Nat->List UInt8):List UInt8:=(bE n).flatMap f
theorem l7(n:Nat)(f:Nat->List UInt8):cat (n+1) f=cat n f++f n:=by simp[cat,List.range_succ]
theorem jE(f:Nat->List UInt8):∀n,(∀c,c<n->(f c).length=16)->(cat n f).length=16*n
 |0,_=>rfl
 |n+1,h=>by rw[l7,ac,jE f n (fun c hc=>h c (by omega)),h n (by omega)];omega
theorem B0(f:Nat->List UInt8):∀n,(∀c,c<n->(f c).length=16)->∀c,c<n->((cat n f).drop (16*c)).take 16=f c
 |0,_,_,h=>absurd h (Nat.not_lt_zero _)
 |n+1,h,c,hc=>by
  have hl:=jE f n (fun c hc=>h c (by omega));rw[l7]
  by_cases e:c<n
  ·rw[List.drop_append_of_le_length (by rw[hl];omega),List.take_append_of_le_length (by rw[aI,hl];omega)]
   exact B0 f n (fun c hc=>h c (by omega)) c e
  ·have:c=n:=by omega
   subst this;rw[List.drop_append,hl,Nat.sub_self,bj,bN (by rw[hl];exact aH _),az];exact aO (by rw[h c (by omega)];exact aH _)
theorem DD(f g:Nat->List UInt8)(n:Nat)(h:∀c,c<n->f c=g c):cat n f=cat n g:=by
 induction n with
 |zero=>rfl
 |succ n ih=>rw[l7,l7,ih (fun c hc=>h c (by omega)),h n (by omega)]
def pX(leaf:Nat)(ends:List UInt8):List UInt8:=h16 2 [[ub leaf],ends]
def pubL(seed:List UInt8)(leaf:Nat):List UInt8:=pX leaf (cat 35 fun c=>eg leaf c 0 15 (fx seed leaf c))
def kg(seed:List UInt8)(leaf:Nat)(msg:List UInt8):List UInt8:=cat 35 fun c=>eg leaf c 0 ((fp msg).getD c 0) (fx seed leaf c)
def lx(leaf:Nat)(msg sig:List UInt8):List UInt8:=pX leaf (cat 35 fun c=>eg leaf c ((fp msg).getD c 0) (15-(fp msg).getD c 0) ((sig.drop (16*c)).take 16))
theorem co(seed:List UInt8)(leaf:Nat):(pubL seed leaf).length=16:=db _ _
theorem gr(seed:List UInt8)(leaf:Nat)(msg:List UInt8):(kg seed leaf msg).length=560:=jE _ 35 fun c _=>dZ _ _ _ _ _ (ek _ _ _)
theorem CZ(seed:List UInt8)(leaf:Nat)(msg:List UInt8):lx leaf msg (kg seed leaf msg)=pubL seed leaf:=by
 unfold lx pubL
 congr 1
 refine DD _ _ 35 fun c hc=> ?_
 have h:=ky msg c hc;unfold kg;rw[B0 _ 35 (fun c _=>dZ _ _ _ _ _ (ek _ _ _)) c hc];have:=uT leaf c ((fp msg).getD c 0) (15-(fp msg).getD c 0) 0 (fx seed leaf c);rw[bX,show(fp msg).getD c 0+(15-(fp msg).getD c 0)=15 from by omega]at this;exact this.symm
def gT(h i:Nat)(a b:List UInt8):List UInt8:=h16 3 [[ub h,ub i],a,b]
def jT:Nat->Nat->List (List UInt8)->List UInt8->List UInt8
 |_,_,[],x=>x
 |h,i,s::r,x=>jT (h+1) (i/2) r (if i % 2=1 then gT h (i/2) s x else gT h (i/2) x s)
theorem wv:∀(p:List (List UInt8))(h i:Nat)(x:List UInt8),x.length=16->(jT h i p x).length=16
 |[],_,_,_,h=>h
 |s::r,h,i,x,_=>wv r (h+1) (i/2) _ (by split<;>exact db _ _)
def Ei:List UInt8:=[115,105,103,110,101,114]
def lsV(seed:List UInt8)(height:Nat):List UInt8:=BX seed Ei [ub height] 32
theorem e9(seed:List UInt8)(height:Nat):(lsV seed height).length=32:=wj _ _ _ _ (by decide)
def lvs(seed:List UInt8)(height n:Nat):List (List UInt8):=(bE n).map fun i=>pubL (lsV seed height) i
def xm9:List (List UInt8)->List UInt8
 |[a,b]=>gT 0 0 a b
 |[a]=>a
 |_=> []
def ii(seed:List UInt8)(height:Nat):List UInt8:=ub height::xm9 (lvs seed height (2^height))
def Ej(i:Nat):List (List UInt8)->List UInt8
 |[a,b]=>if i=0 then b else a
 |_=> []
def iw(seed:List UInt8)(height leaf:Nat)(msg:List UInt8):List UInt8:=ub leaf::(kg (lsV seed height) leaf msg++Ej leaf (lvs seed height (2^height)))
def rws:Nat->List UInt8->List (List UInt8)
 |0,_=> []
 |n+1,l=>l.take 16::rws n (l.drop 16)
def fw(pub msg sig:List UInt8):Bool:=
 if pub.length=17/\(pub.getD 0 0).toNat<=3 then
  if sig.length=561+16*(pub.getD 0 0).toNat/\(sig.getD 0 0).toNat<2^(pub.getD 0 0).toNat then
   decide (jT 0 (sig.getD 0 0).toNat (rws (pub.getD 0 0).toNat (sig.drop 561)) (lx (sig.getD 0 0).toNat msg ((sig.drop 1).take 560))=pub.drop 1)
  else false
 else false
theorem sC(seed msg:List UInt8)(leaf:Nat)(h:leaf<2):fw (ii seed 1) msg (iw seed 1 leaf msg)=true:=by
 have h1:=gr (lsV seed 1) leaf msg;have hv:lvs seed 1 (2^1)=[pubL (lsV seed 1) 0,pubL (lsV seed 1) 1]:=rfl;have p0:=co (lsV seed 1) 0;have p1:=co (lsV seed 1) 1
 have hb:(ub leaf).toNat=leaf:=by rcases (by omega:leaf=0\/leaf=1)with rfl|rfl<;>rfl
 have hp:(Ej leaf (lvs seed 1 (2^1))).length=16:=by rw[hv,Ej];split<;>assumption
 have e1:(ii seed 1).getD 0 0=1:=rfl;have e2:(iw seed 1 leaf msg).getD 0 0=ub leaf:=rfl;have e3:(ii seed 1).length=17:=by rw[ii,aj,hv];show(gT 0 0 _ _).length+1=17;rw[gT,db]
 have e4:(iw seed 1 leaf msg).length=577:=by rw[iw,aj,ac,h1,hp]
 have e5:((iw seed 1 leaf msg).drop 1).take 560=kg (lsV seed 1) leaf msg:=by rw[iw,List.drop_succ_cons,bj,List.take_append_of_le_length (by rw[h1];exact aH _),aO (by rw[h1];exact aH _)]
 have e6:rws 1 ((iw seed 1 leaf msg).drop 561)=[Ej leaf (lvs seed 1 (2^1))]:=by
  have:(iw seed 1 leaf msg).drop 561=Ej leaf (lvs seed 1 (2^1)):=by rw[iw,List.drop_succ_cons,List.drop_append,h1,bN (by rw[h1];exact aH _),az,Nat.sub_self,bj]
  rw[this,rws,rws,aO (by rw[hp];exact aH _)]
 have e7:(1:UInt8).toNat=1:=rfl;unfold fw;rw[e1,e2,e3,e4,e7,hb,e5,e6,CZ,if_pos ⟨rfl,by decide⟩,if_pos ⟨rfl,h⟩,hv];rw[decide_eq_true_iff];have hp2:gJ 1 (ii seed 1)=gT 0 0 (pubL (lsV seed 1) 0) (pubL (lsV seed 1) 1):=by rw[ii,hv];rfl
 rw[hp2];rcases (by omega:leaf=0\/leaf=1)with rfl|rfl
 ·rw[jT,jT];rfl
 ·rw[jT,jT];rfl
theorem xl8(v:Int)(h0:0<=v)(h1:v<4294967296):call T 185 [.int .i64 v] [] 0=some ⟨.byt (w4 v) (.id 60),[],[60]⟩:=by have m24':min 24 64=24:=rfl;have m16':min 16 64=16:=rfl;have m8':min 8 64=8:=rfl;rw[ah xiT];simp only[go_sem,Q0,Q1,Q2,Q3,Q4,Q5,Q6,Q7,Q8,Q9,Qa,Qb,Qc,Qd,Qe,Qf,Qg,Qh,Qi,Qj,Qk,reduceCtorEq,reduceIte,w4,gF,m24',m16',m8']
theorem xl7(v:Int)(h0:0<=v)(h1:v<4294967296):call T 191 [.int .i64 v] [] 0=some ⟨.byt (w4 v) (.id 60),[],[60]⟩:=by have m24':min 24 64=24:=rfl;have m16':min 16 64=16:=rfl;have m8':min 8 64=8:=rfl;rw[ah xiO];simp only[go_sem,Q0,Q1,Q2,Q3,Q4,Q5,Q6,Q7,Q8,Q9,Qa,Qb,Qc,Qd,Qe,Qf,Qg,Qh,Qi,Qj,Qk,reduceCtorEq,reduceIte,w4,gF,m24',m16',m8']
def xr(c:UInt8)(L:List UInt8)(i:Nat):List UInt8:=(L.take i).map (· ^^^c)++L.drop i
theorem PG(c:UInt8)(L:List UInt8):xr c L 0=L:=by simp[xr]
theorem xbA(c:UInt8)(L:List UInt8)(i:Nat):(xr c L i).length=L.length:=by unfold xr;rw[ac,aP,ax,aI];omega
theorem xbB(c:UInt8)(L:List UInt8)(i:Nat)(h:i<L.length):(xr c L i).getD i 0=L.getD i 0:=by
 unfold xr;rw[aa,bU (by rw[aP,ax];omega),aP,ax,bw,aa]
 congr 2;omega
theorem xby(c:UInt8)(L:List UInt8)(i:Nat)(h:i<L.length):(xr c L i).set i (L.getD i 0^^^c)=xr c L (i+1):=by
 unfold xr;have hl:((L.take i).map (· ^^^c)).length=i:=by rw[aP,ax];omega
 rw[List.set_append_right _ _ (by rw[hl];exact aH _),hl,Nat.sub_self,cP L i h,List.set_cons_zero,List.take_add_one,ct,ay];rw[ab h,aa,ab h];rfl
theorem xbz(c:UInt8)(K:List UInt8)(h:K.length<=64):xr c (K++aE (64-K.length) 0) 64=iR c K:=by
 have hl:(K++aE (64-K.length) (0:UInt8)).length=64:=by rw[ac,dI];omega
 unfold xr iR;rw[aO (by omega),bN (by omega),bg];refine sB (by rw[aP,aP,hl,List.length_range]) fun i h1 h2=> ?_
 rw[aP,hl]at h1;rw[List.getElem_map,List.getElem_map,List.getElem_range]
 congr 1
 rw[aa]
 by_cases hi:i<K.length
 ·rw[List.getElem_append_left hi,ab hi];rfl
 ·rw[List.getElem_append_right (by omega),List.getElem_replicate,eo (by omega)];rfl
theorem xnF(c:UInt8)(L K:List UInt8)(hL:L.length=64):∀(n i:Nat),64-i=n->i<=64->
 run T (.loop yM) ⟨[(0,.u8 c),(4,.psl 106 1 0 64 (some 64)),(10,.int .i64 i)],[(0,.rc [.byt K .no]),(106,.bar (xr c L i))],[]⟩=
 some (.x 0,⟨[(4,.psl 106 1 0 64 (some 64))],[(0,.rc [.byt K .no]),(106,.bar (xr c L 64))],[]⟩):=by
 intro n;induction n with
 |zero=>
  intro i h0 h1;have hi:i=64:=by omega
  subst hi;rw[ai];simp only[c64,go_sem,Q0,Q1,Q2,Q3,Q4,Q5,Q6,Q7,Q8,Q9,Qa,Qb,Qc,Qd,Qe,Qf,Qg,Qh,Qi,Qj,Qk,reduceCtorEq,reduceIte]
 |succ n ih=>
  intro i h0 h1;have ih':=ih (i+1) (by omega) (by omega);have e1:=cA i (by omega);have hlt:(i:Int)<64:=by omega
  have hn:i<64:=by omega
  have hl:=xbA c L i;rw[hL]at hl;have hg:=xbB c L i (by omega);have hs:=xby c L i (by omega);rw[<-hs,<-hg]at ih';generalize hc:(xr c L i).getD i 0=z at*;rw[ai];simp only[go_sem,Q0,Q1,Q2,Q3,Q4,Q5,Q6,Q7,Q8,Q9,Qa,Qb,Qc,Qd,Qe,Qf,Qg,Qh,Qi,Qj,Qk,reduceCtorEq,reduceIte,hlt,e1,hn,hl,hc,ih']
  trace_state
theorem gw(c:UInt8)(K:List UInt8):(iR c K).length=64:=by unfold iR;rw[aP,List.length_range]
theorem xl6(c:UInt8)(K:List UInt8)(h:K.length<=64):call T 205 [.u8 c,.ptr 0 0] [.rc [.byt K .no]] 0=some ⟨.byt (iR c K) (.id 60),[(0,.rc [.byt K .no])],[60]⟩:=by have g:=xnF c (K++aE (64-K.length) 0) K (by rw[ac,dI];omega) 64 0 rfl (by omega);rw[PG,xbz c K h]at g;simp only[aw]at g;have t1:K.take 64=K:=aO h;have hp:=gw c K;have t2:(iR c K).take 64=iR c K:=aO (by rw[hp];exact aH _);have l64:64<=64:=aH _;rw[ah xiL];simp only[go_sem,Q0,Q1,Q2,Q3,Q4,Q5,Q6,Q7,Q8,Q9,Qa,Qb,Qc,Qd,Qe,Qf,Qg,Qh,Qi,Qj,Qk,reduceCtorEq,reduceIte,t1,List.drop_replicate,g,hp,t2,l64]
theorem xox(K B:List UInt8)(h:K.length<=64)(hB:B.length<=1000000000):call T 186 [.byt K .no,.byt B .no] [] 0=some ⟨.byt (BN K B) .no,[],[]⟩:=by
 have g1:=xl6 54 K h;have g2:=xl6 92 K h;have p1:=gw 54 K;have p2:=gw 92 K;have g3:=f64 (iR 54 K++B) (by rw[ac];omega);have hl:(sha (iR 54 K++B)).length=32:=md _;have g4:=f64 (iR 92 K++sha (iR 54 K++B)) (by rw[ac];omega);have h64:¬(64:Int)<K.length:=by omega
 have c1:64+B.length<=140737488355328:=by omega
 have c2:64+32<=140737488355328:=by decide
 rw[ah xiS];simp only[go_sem,Q0,Q1,Q2,Q3,Q4,Q5,Q6,Q7,Q8,Q9,Qa,Qb,Qc,Qd,Qe,Qf,Qg,Qh,Qi,Qj,Qk,reduceCtorEq,reduceIte,h64,g1,xjL,p1,p2,c1,c2,hl,g2,g3,g4,xfx,BN]
def mk(c:UInt8)(K:List UInt8)(i:Nat):List UInt8:=(iR c K).take i++aE (64-i) 0
theorem BJ(c:UInt8)(K:List UInt8):mk c K 0=aE 64 0:=by simp[mk]
theorem BK(c:UInt8)(K:List UInt8):mk c K 64=iR c K:=by have:=gw c K;simp[mk,aO,this]
theorem NS(c:UInt8)(K:List UInt8)(i:Nat)(h:i<=64):(mk c K i).length=64:=by rw[mk,ac,ax,gw,dI];omega
theorem FF(c:UInt8)(K:List UInt8)(i:Nat)(h:i<64):(iR c K)[i]? =some (K.getD i 0^^^c):=by unfold iR;rw[aQ,bV h];rfl
theorem NR(c:UInt8)(K:List UInt8)(i:Nat)(h:i<64):(mk c K i).set i (K.getD i 0^^^c)=mk c K (i+1):=by
 have hl:((iR c K).take i).length=i:=by rw[ax,gw];omega
 unfold mk;rw[List.set_append_right _ _ (by rw[hl];exact aH _),hl,Nat.sub_self,show 64-i=(64-(i+1))+1 from by omega,List.replicate_succ,List.set_cons_zero,List.take_add_one,FF c K i h,ay];rfl
theorem xnI(K M:List UInt8)(hK:K.length<=64):∀(n i:Nat),64-i=n->i<=64->
 run T (.loop sN) ⟨[(0,.byt K .no),(1,.byt M .no),(5,.psl 114 1 0 64 (some 64)),(6,.psl 115 1 0 64 (some 64)),(7,.int .i64 i)],[(114,.bar (mk 54 K i)),(115,.bar (mk 92 K i))],[]⟩=
 some (.x 0,⟨[(1,.byt M .no),(5,.psl 114 1 0 64 (some 64)),(6,.psl 115 1 0 64 (some 64))],[(114,.bar (mk 54 K 64)),(115,.bar (mk 92 K 64))],[]⟩):=by
 intro n;induction n with
 |zero=>
  intro i h0 h1;have hi:i=64:=by omega
  subst hi;rw[ai];simp only[c64,go_sem,Q0,Q1,Q2,Q3,Q4,Q5,Q6,Q7,Q8,Q9,Qa,Qb,Qc,Qd,Qe,Qf,Qg,Qh,Qi,Qj,Qk,reduceCtorEq,reduceIte]
 |succ n ih=>
  intro i h0 h1;have ih':=ih (i+1) (by omega) (by omega);have e1:=cA i (by omega);have hlt:(i:Int)<64:=by omega
  have hn:i<64:=by omega
  have l1:=NS 54 K i h1;have l2:=NS 92 K i h1;rw[<-NR 54 K i hn,<-NR 92 K i hn]at ih';rw[ai]
  by_cases hk:i<K.length
  ·have hkI:(i:Int)<(K.length:Int):=by omega
   simp only[go_sem,Q0,Q1,Q2,Q3,Q4,Q5,Q6,Q7,Q8,Q9,Qa,Qb,Qc,Qd,Qe,Qf,Qg,Qh,Qi,Qj,Qk,reduceCtorEq,reduceIte,hlt,e1,hn,hk,hkI,l1,l2,ih']
  ·have hkI:¬(i:Int)<(K.length:Int):=by omega
   have hz:K.getD i 0=0:=by rw[aa,eo (by omega)];rfl
   rw[hz]at ih';simp only[go_sem,Q0,Q1,Q2,Q3,Q4,Q5,Q6,Q7,Q8,Q9,Qa,Qb,Qc,Qd,Qe,Qf,Qg,Qh,Qi,Qj,Qk,reduceCtorEq,reduceIte,hlt,e1,hn,hk,hkI,l1,l2,ih']
theorem xot(K B:List UInt8)(h:K.length<=64)(hB:B.length<=1000000000):call T 192 [.byt K .no,.byt B .no] [] 0=some ⟨.byt (BN K B) .no,[],[]⟩:=by
 have g:=xnI K B h 64 0 rfl (by omega);rw[BJ,BJ,BK,BK]at g;simp only[aw]at g;have p1:=gw 54 K;have p2:=gw 92 K;have g3:=f73 (iR 54 K++B) (by rw[ac];omega);have hl:(sha (iR 54 K++B)).length=32:=md _;have g4:=f73 (iR 92 K++sha (iR 54 K++B)) (by rw[ac];omega);have h64:¬(64:Int)<K.length:=by omega
 have c1:64+B.length<=140737488355328:=by omega
 have t1:(iR 54 K).take 64=iR 54 K:=aO (by rw[p1];exact aH _);have t2:(iR 92 K).take 64=iR 92 K:=aO (by rw[p2];exact aH _);rw[ah xiN];simp only[go_sem,Q0,Q1,Q2,Q3,Q4,Q5,Q6,Q7,Q8,Q9,Qa,Qb,Qc,Qd,Qe,Qf,Qg,Qh,Qi,Qj,Qk,reduceCtorEq,reduceIte,h64,g,p1,p2,t1,t2,c1];simp only[go_sem,Q0,Q1,Q2,Q3,Q4,Q5,Q6,Q7,Q8,Q9,Qa,Qb,Qc,Qd,Qe,Qf,Qg,Qh,Qi,Qj,Qk,reduceCtorEq,reduceIte,c1,hl,g3,g4,Z3,BN,p2,t2]
theorem xmf(K lab ctx:List UInt8)(n:Nat)(h1:1<=n)(h2:n<=32)(hK:K.length<=64)(hl:lab.length<=1000)(hc:ctx.length<=1000):
 call T 138 [.byt K .no,.str lab,.byt ctx .no,.int .i64 n] [] 0=some ⟨.byt (BX K lab ctx n) .no,[],[]⟩:=by
 have a1:¬(n:Int)<1:=by omega
 have a2:¬(1024:Int)<n:=by omega
 have a3:0<n:=by omega
 have a4:¬32<n:=by omega
 have e8:af.wrap (8*(n:Int))=8*(n:Int):=w64 (by omega) (by omega);have k2:af.wrap 2=2:=rfl;have g1:=xl8 (8*(n:Int)) (by omega) (by omega);have g2:=xl8 1 (by omega) (by omega);have g3:=xox K (w4 1++(lab++0::(ctx++w4 (8*(n:Int))))) hK (by simp[w4];omega);have ml:=pD K (w4 1++(lab++0::(ctx++w4 (8*(n:Int)))));have w4l:∀x,(w4 x).length=4:=fun _=>rfl
 have c1:lab.length<=140737488355327:=by omega
 have c2:lab.length+1+ctx.length<=140737488355328:=by omega
 have c3:lab.length+(ctx.length+1)+4<=140737488355328:=by omega
 have c5:4+(lab.length+(ctx.length+4+1))<=140737488355328:=by omega
 rw[ah xjf];simp only[go_sem,Q0,Q1,Q2,Q3,Q4,Q5,Q6,Q7,Q8,Q9,Qa,Qb,Qc,Qd,Qe,Qf,Qg,Qh,Qi,Qj,Qk,reduceCtorEq,reduceIte,a1,a2,e8,g1,xaa,c1,c2,w4l,c3];rw[ai];simp only[go_sem,Q0,Q1,Q2,Q3,Q4,Q5,Q6,Q7,Q8,Q9,Qa,Qb,Qc,Qd,Qe,Qf,Qg,Qh,Qi,Qj,Qk,reduceCtorEq,reduceIte,a3,g2,xaa,xjQ,g3,w4l,c5,k2];unfold BX;generalize BN K (w4 1++(lab++0::(ctx++w4 (8*(n:Int)))))=X at*;have c6:X.length<=140737488355328:=by omega
 simp only[ml,c6];rw[ai];simp only[go_sem,Q0,Q1,Q2,Q3,Q4,Q5,Q6,Q7,Q8,Q9,Qa,Qb,Qc,Qd,Qe,Qf,Qg,Qh,Qi,Qj,Qk,reduceCtorEq,reduceIte,ml,a4,h2]
theorem xmc(K lab ctx:List UInt8)(n:Nat)(h1:1<=n)(h2:n<=32)(hK:K.length<=64)(hl:lab.length<=1000)(hc:ctx.length<=1000):
 call T 145 [.byt K .no,.str lab,.byt ctx .no,.int .i64 n] [] 0=some ⟨.byt (BX K lab ctx n) .no,[],[]⟩:=by
 have a1:¬(n:Int)<1:=by omega
 have a2:¬(1024:Int)<n:=by omega
 have a3:0<n:=by omega
 have a4:¬32<n:=by omega
 have e8:af.wrap (8*(n:Int))=8*(n:Int):=w64 (by omega) (by omega);have k2:af.wrap 2=2:=rfl;have g1:=xl7 (8*(n:Int)) (by omega) (by omega);have g2:=xl7 1 (by omega) (by omega);have g3:=xot K (w4 1++(lab++0::(ctx++w4 (8*(n:Int))))) hK (by simp[w4];omega);have ml:=pD K (w4 1++(lab++0::(ctx++w4 (8*(n:Int)))));have w4l:∀x,(w4 x).length=4:=fun _=>rfl
 have c1:lab.length<=140737488355327:=by omega
 have c2:lab.length+1+ctx.length<=140737488355328:=by omega
 have c3:lab.length+(ctx.length+1)+4<=140737488355328:=by omega
 have b1:4+lab.length<=140737488355328:=by omega
 have b2:4+lab.length<=140737488355327:=by omega
 have b3:4+(lab.length+1)+ctx.length<=140737488355328:=by omega
 have b4:4+(lab.length+(ctx.length+1))<=140737488355324:=by omega
 rw[ah xja];simp only[go_sem,Q0,Q1,Q2,Q3,Q4,Q5,Q6,Q7,Q8,Q9,Qa,Qb,Qc,Qd,Qe,Qf,Qg,Qh,Qi,Qj,Qk,reduceCtorEq,reduceIte,a1,a2];rw[ai];simp only[go_sem,Q0,Q1,Q2,Q3,Q4,Q5,Q6,Q7,Q8,Q9,Qa,Qb,Qc,Qd,Qe,Qf,Qg,Qh,Qi,Qj,Qk,reduceCtorEq,reduceIte,a3,e8,g1,g2,xjN,xjM,g3,w4l,b1,b2,b3,b4,k2];unfold BX;generalize BN K (w4 1++(lab++0::(ctx++w4 (8*(n:Int)))))=X at*;have c6:X.length<=140737488355328:=by omega
 simp only[ml,c6];rw[ai];simp only[go_sem,Q0,Q1,Q2,Q3,Q4,Q5,Q6,Q7,Q8,Q9,Qa,Qb,Qc,Qd,Qe,Qf,Qg,Qh,Qi,Qj,Qk,reduceCtorEq,reduceIte,ml,a4,h2]
def bys(fs:List (List UInt8)):List (List SV):=fs.map fun X=> [.byt X .no]
theorem fL(fs:List (List UInt8)):(bys fs).length=fs.length:=by simp[bys]
theorem pd(fs:List (List UInt8))(i:Nat)(h:i<fs.length):(bys fs).getD i []=[.byt (fs.getD i []) .no]:=by simp[bys,aa,h]
theorem vO(fs:List (List UInt8))(i:Nat)(h:i<fs.length):frF (fs.drop i)=w4 ((fs.getD i []).length:Int)++(fs.getD i []++frF (fs.drop (i+1))):=by
 have:fs.drop i=fs.getD i []::fs.drop (i+1):=by rw[bF h,aa,ab h,aY]
 rw[this];simp[frF]
theorem xnG(fs:List (List UInt8))(hl:fs.length<=100)(hb:∀i,i<fs.length->(fs.getD i []).length<=1000000000):∀(n i:Nat)(acc:List UInt8),fs.length-i=n->i<=fs.length->acc.length+(frF (fs.drop i)).length<=1000000000000->
 run T (.loop yN) ⟨[(5,.byt acc (.id 105)),(12,.lst 1 (bys fs) .no),(13,.int .i64 fs.length),(14,.int .i64 i)],[],[105]⟩=
 some (.x 0,⟨[(5,.byt (acc++frF (fs.drop i)) (.id 105))],[],[105]⟩):=by
 intro n;induction n with
 |zero=>
  intro i acc h0 h1 ha;have hi:i=fs.length:=by omega
  subst hi;rw[ai];simp only[go_sem,Q0,Q1,Q2,Q3,Q4,Q5,Q6,Q7,Q8,Q9,Qa,Qb,Qc,Qd,Qe,Qf,Qg,Qh,Qi,Qj,Qk,reduceCtorEq,reduceIte,bG,frF,eZ,bg]
 |succ n ih=>
  intro i acc h0 h1 ha;have hi:i<fs.length:=by omega
  have hiI:(i:Int)<(fs.length:Int):=by omega
  have e1:=cA i (by omega);have hX:=hb i hi;have ih':=ih (i+1) (acc++(w4 ((fs.getD i []).length:Int)++fs.getD i []));rw[vO fs i hi]at ha ⊢;have hg:=pd fs i hi;have hbl:=fL fs;generalize hc:fs.getD i []=X at*;simp only[ac,w4,aj,aq]at ha ih';have ih2:=ih' (by omega) (by omega) (by omega);have c1:acc.length+4<=140737488355328:=by omega
  have c2:acc.length+4+X.length<=140737488355328:=by omega
  have c3:acc.length+(4+X.length)<=140737488355328:=by omega
  have e2:cQ.wrap (X.length:Int)=X.length:=by rw[IntKind.wrap_u32];omega
  simp only[ay,aU,az,gF]at ih2;rw[ai];simp only[go_sem,Q0,Q1,Q2,Q3,Q4,Q5,Q6,Q7,Q8,Q9,Qa,Qb,Qc,Qd,Qe,Qf,Qg,Qh,Qi,Qj,Qk,reduceCtorEq,reduceIte,hi,hiI,hg,hbl,hc,e1,e2,c1,c2,c3,m24,m16,m8,w4,gF,ay,ih2]
theorem xip(t:Int)(fs:List (List UInt8))(hl:fs.length<=100)(hb:∀i,i<fs.length->(fs.getD i []).length<=1000000000)(hs:(frF fs).length<=100000000000):
 call T 204 [.int .i64 t,.lst 1 (bys fs) .no] [] 0=some ⟨.byt (frL t fs) .no,[],[]⟩:=by
 have g:=xnG fs hl hb _ 0 [bK t] rfl (bt _) (by rw[bj,aW];omega);have hbl:=fL fs;simp only[aw,bj,dd]at g;rw[ah ZU];simp only[go_sem,Q0,Q1,Q2,Q3,Q4,Q5,Q6,Q7,Q8,Q9,Qa,Qb,Qc,Qd,Qe,Qf,Qg,Qh,Qi,Qj,Qk,reduceCtorEq,reduceIte,hbl,g,frL]
theorem xnE(fs:List (List UInt8))(hl:fs.length<=100)(hb:∀i,i<fs.length->(fs.getD i []).length<=1000000000):∀(n i:Nat)(acc:List UInt8),fs.length-i=n->i<=fs.length->acc.length+(frF (fs.drop i)).length<=1000000000000->
 run T (.loop yL) ⟨[(1,.lst 1 (bys fs) .no),(5,.byt acc (.id 105)),(6,.int .i64 i)],[],[105]⟩=
 some (.x 0,⟨[(5,.byt (acc++frF (fs.drop i)) (.id 105))],[],[105]⟩):=by
 intro n;induction n with
 |zero=>
  intro i acc h0 h1 ha;have hi:i=fs.length:=by omega
  have hbl:=fL fs;subst hi;rw[ai];simp only[go_sem,Q0,Q1,Q2,Q3,Q4,Q5,Q6,Q7,Q8,Q9,Qa,Qb,Qc,Qd,Qe,Qf,Qg,Qh,Qi,Qj,Qk,reduceCtorEq,reduceIte,hbl,bG,frF,eZ,bg]
 |succ n ih=>
  intro i acc h0 h1 ha;have hi:i<fs.length:=by omega
  have hiI:(i:Int)<(fs.length:Int):=by omega
  have e1:=cA i (by omega);have hX:=hb i hi;have ih':=ih (i+1) (acc++(w4 ((fs.getD i []).length:Int)++fs.getD i []));rw[vO fs i hi]at ha ⊢;have hg:=pd fs i hi;have hbl:=fL fs;generalize hc:fs.getD i []=X at*;simp only[ac,w4,aj,aq]at ha ih';have ih2:=ih' (by omega) (by omega) (by omega);have c1:acc.length+4<=140737488355328:=by omega
  have c2:acc.length+4+X.length<=140737488355328:=by omega
  have c3:acc.length+(4+X.length)<=140737488355328:=by omega
  have m24':min 24 64=24:=rfl;have m16':min 16 64=16:=rfl;have m8':min 8 64=8:=rfl;simp only[ay,aU,az,gF]at ih2;rw[ai];simp only[go_sem,Q0,Q1,Q2,Q3,Q4,Q5,Q6,Q7,Q8,Q9,Qa,Qb,Qc,Qd,Qe,Qf,Qg,Qh,Qi,Qj,Qk,reduceCtorEq,reduceIte,hi,hiI,hg,hbl,hc,e1,c1,c2,c3,m24',m16',m8',w4,gF,ay,ih2]
theorem xio(t:Int)(fs:List (List UInt8))(hl:fs.length<=100)(hb:∀i,i<fs.length->(fs.getD i []).length<=1000000000)(hs:(frF fs).length<=100000000000):
 call T 206 [.int .i64 t,.lst 1 (bys fs) .no] [] 0=some ⟨.byt (frL t fs) .no,[],[]⟩:=by
 have g:=xnE fs hl hb _ 0 [bK t] rfl (bt _) (by rw[bj,aW];omega);simp only[aw,bj,dd]at g;rw[ah ZT];simp only[go_sem,Q0,Q1,Q2,Q3,Q4,Q5,Q6,Q7,Q8,Q9,Qa,Qb,Qc,Qd,Qe,Qf,Qg,Qh,Qi,Qj,Qk,reduceCtorEq,reduceIte,g,frL]
theorem Zx(t:Int)(fs:List (List UInt8))(hl:fs.length<=100)(hb:∀i,i<fs.length->(fs.getD i []).length<=1000000000)(hs:(frF fs).length<=10000000000):
 call T 183 [.int .i64 t,.lst 1 (bys fs) .no] [] 0=some ⟨.byt (hsh t fs) .no,[],[]⟩:=by
 have g1:=xip t fs hl hb (by omega);have g2:=f64 (frL t fs) (by unfold frL;rw[aj];omega);rw[ah ZW];simp only[go_sem,Q0,Q1,Q2,Q3,Q4,Q5,Q6,Q7,Q8,Q9,Qa,Qb,Qc,Qd,Qe,Qf,Qg,Qh,Qi,Qj,Qk,reduceCtorEq,reduceIte,g1,g2,Z7,xfx,hsh]
theorem Zw(t:Int)(fs:List (List UInt8))(hl:fs.length<=100)(hb:∀i,i<fs.length->(fs.getD i []).length<=1000000000)(hs:(frF fs).length<=10000000000):
 call T 190 [.int .i64 t,.lst 1 (bys fs) .no] [] 0=some ⟨.byt (hsh t fs) .no,[],[]⟩:=by
 have g1:=xio t fs hl hb (by omega);have g2:=f73 (frL t fs) (by unfold frL;rw[aj];omega);rw[ah ZV];simp only[go_sem,Q0,Q1,Q2,Q3,Q4,Q5,Q6,Q7,Q8,Q9,Qa,Qb,Qc,Qd,Qe,Qf,Qg,Qh,Qi,Qj,Qk,reduceCtorEq,reduceIte,g1,g2,Z6,Z3,hsh]
theorem xmp(A B:List UInt8)(hA:A.length<=1000000000)(hB:B.length<=1000000000):∀i,i< [A,B].length->([A,B].getD i []).length<=1000000000:=fun i hi=>by
 match i,hi with
 |0,_=>exact hA
 |1,_=>exact hB
theorem xmo(A B C:List UInt8)(hA:A.length<=1000000000)(hB:B.length<=1000000000)(hC:C.length<=1000000000):∀i,i< [A,B,C].length->([A,B,C].getD i []).length<=1000000000:=fun i hi=>by
 match i,hi with
 |0,_=>exact hA
 |1,_=>exact hB
 |2,_=>exact hC
theorem tT(x:Int):(w4 x).length=4:=rfl
theorem a183(t:Int)(A B:List UInt8)(hA:A.length<=1000000000)(hB:B.length<=1000000000):call T 183 [.int .i64 t,.lst 1 [[.byt A .no],[.byt B .no]] .no] [] 0=some ⟨.byt (hsh t [A,B]) .no,[],[]⟩:=
 Zx t [A,B] (by simp) (xmp A B hA hB) (by simp only[frF,dU,eZ,ac,tT,aq];omega)
theorem xmq(t:Int)(A B:List UInt8)(hA:A.length<=1000000000)(hB:B.length<=1000000000):call T 190 [.int .i64 t,.lst 1 [[.byt A .no],[.byt B .no]] .no] [] 0=some ⟨.byt (hsh t [A,B]) .no,[],[]⟩:=
 Zw t [A,B] (by simp) (xmp A B hA hB) (by simp only[frF,dU,eZ,ac,tT,aq];omega)
theorem t183(t:Int)(A B C:List UInt8)(hA:A.length<=1000000000)(hB:B.length<=1000000000)(hC:C.length<=1000000000):call T 183 [.int .i64 t,.lst 1 [[.byt A .no],[.byt B .no],[.byt C .no]] .no] [] 0=some ⟨.byt (hsh t [A,B,C]) .no,[],[]⟩:=
 Zx t [A,B,C] (by simp) (xmo A B C hA hB hC) (by simp only[frF,dU,eZ,ac,tT,aq];omega)
theorem xmV(t:Int)(A B C:List UInt8)(hA:A.length<=1000000000)(hB:B.length<=1000000000)(hC:C.length<=1000000000):call T 190 [.int .i64 t,.lst 1 [[.byt A .no],[.byt B .no],[.byt C .no]] .no] [] 0=some ⟨.byt (hsh t [A,B,C]) .no,[],[]⟩:=
 Zw t [A,B,C] (by simp) (xmo A B C hA hB hC) (by simp only[frF,dU,eZ,ac,tT,aq];omega)
theorem xo5(n:Nat)(h:n<4611686018427387904):bP .and .i64 (n:Int) 1=((n % 2:Nat):Int):=by
 have e1:(BitVec.ofNat 64 n&&&BitVec.ofNat 64 1).toNat=n % 2:=by rw[BitVec.toNat_and,BitVec.toNat_ofNat,BitVec.toNat_ofNat,cy (by omega)];exact Nat.and_one_is_mod n
 unfold bP;rw[show(1:Int)=((1:Nat):Int)from rfl];simp only[BitVec.ofInt_natCast];show af.wrap (((BitVec.ofNat 64 n&&&BitVec.ofNat 64 1).toNat:Nat):Int)=_;rw[e1];exact w64 (by omega) (by omega)
theorem xfg(h i:Nat)(a b:List UInt8)(ha:a.length<=1000000)(hb:b.length<=1000000):call T 150 [.int .i64 h,.int .i64 i,.byt a .no,.byt b .no] [] 0=some ⟨.byt (gT h i a b) .no,[],[]⟩:=by have g:=t183 3 [ub h,ub i] a b (by simp) (by omega) (by omega);have hl:=il 3 [[ub h,ub i],a,b];unfold ub at g hl;rw[ah xi5];simp only[go_sem,Q0,Q1,Q2,Q3,Q4,Q5,Q6,Q7,Q8,Q9,Qa,Qb,Qc,Qd,Qe,Qf,Qg,Qh,Qi,Qj,Qk,reduceCtorEq,reduceIte,g,Ed,hl,c32,gT,h16,ub]
theorem xff(h i:Nat)(a b:List UInt8)(ha:a.length<=1000000)(hb:b.length<=1000000):call T 179 [.int .i64 h,.int .i64 i,.byt a .no,.byt b .no] [] 0=some ⟨.byt (gT h i a b) .no,[],[]⟩:=by have g:=xmV 3 [ub h,ub i] a b (by simp) (by omega) (by omega);have hl:=il 3 [[ub h,ub i],a,b];unfold ub at g hl;rw[ah xiY];simp only[go_sem,Q0,Q1,Q2,Q3,Q4,Q5,Q6,Q7,Q8,Q9,Qa,Qb,Qc,Qd,Qe,Qf,Qg,Qh,Qi,Qj,Qk,reduceCtorEq,reduceIte,g,Ec,hl,c32,gT,h16,ub]
theorem xiv:call T 139 [.int .i64 1] [] 0=some ⟨.int .i64 0,[],[]⟩:=by rw[ah ZY];simp only[go_sem,Q0,Q1,Q2,Q3,Q4,Q5,Q6,Q7,Q8,Q9,Qa,Qb,Qc,Qd,Qe,Qf,Qg,Qh,Qi,Qj,Qk,reduceCtorEq,reduceIte];rw[ai];simp (config:= {decide:=true}) only[go_sem,Q0,Q1,Q2,Q3,Q4,Q5,Q6,Q7,Q8,Q9,Qa,Qb,Qc,Qd,Qe,Qf,Qg,Qh,Qi,Qj,Qk,reduceCtorEq,reduceIte]
theorem ZH:call T 139 [.int .i64 2] [] 0=some ⟨.int .i64 1,[],[]⟩:=by have k1:af.wrap 1=1:=rfl;rw[ah ZY];simp only[go_sem,Q0,Q1,Q2,Q3,Q4,Q5,Q6,Q7,Q8,Q9,Qa,Qb,Qc,Qd,Qe,Qf,Qg,Qh,Qi,Qj,Qk,reduceCtorEq,reduceIte,k1];rw[ai];simp (config:= {decide:=true}) only[go_sem,Q0,Q1,Q2,Q3,Q4,Q5,Q6,Q7,Q8,Q9,Qa,Qb,Qc,Qd,Qe,Qf,Qg,Qh,Qi,Qj,Qk,reduceCtorEq,reduceIte,k1];rw[ai];simp (config:= {decide:=true}) only[go_sem,Q0,Q1,Q2,Q3,Q4,Q5,Q6,Q7,Q8,Q9,Qa,Qb,Qc,Qd,Qe,Qf,Qg,Qh,Qi,Qj,Qk,reduceCtorEq,reduceIte,k1]
theorem ZI(B:List UInt8)(h:B.length<=1000000000):call T 124 [.byt B .no] [] 0=some ⟨.byt B .no,[],[]⟩:=by
 have c1:0+B.length<=140737488355328:=by omega
 have c2:B.length<=140737488355328:=by omega
 rw[ah xjs];simp only[go_sem,Q0,Q1,Q2,Q3,Q4,Q5,Q6,Q7,Q8,Q9,Qa,Qb,Qc,Qd,Qe,Qf,Qg,Qh,Qi,Qj,Qk,reduceCtorEq,reduceIte,c1,c2,az]
theorem l95(P:List (List UInt8))(hP:P.length<=3)(hb:∀s∈P,s.length<=1000000):∀(n h i:Nat)(x:List UInt8)(q:Tok),P.length-h=n->h<=P.length->i<1000->x.length<=1000000->
 run T (.loop yq) ⟨[(1,.int .i64 i),(7,.byt x q),(29,.lst 1 (bys P) .no),(30,.int .i64 P.length),(31,.int .i64 h)],[],[128]⟩=
 some (.x 0,⟨[(7,.byt (jT h i (P.drop h) x) (if h=P.length then q else .no))],[],[128]⟩):=by
 intro n;induction n with
 |zero=>
  intro h i x q h0 h1 h2 hx;have hi:h=P.length:=by omega
  subst hi;rw[bG,ai];simp only[go_sem,Q0,Q1,Q2,Q3,Q4,Q5,Q6,Q7,Q8,Q9,Qa,Qb,Qc,Qd,Qe,Qf,Qg,Qh,Qi,Qj,Qk,reduceCtorEq,reduceIte,jT,if_true]
 |succ n ih=>
  intro h i x q h0 h1 h2 hx;have hh:h<P.length:=by omega
  have hI:(h:Int)<(P.length:Int):=by omega
  have e1:=cA h (by omega);have hg:=pd P h hh;have hl:=fL P;have ha:=xo5 i (by omega)
  have hs:(P.getD h []).length<=1000000:=by rw[aa,ab hh,aY];exact hb _ (bh hh)
  have hd:P.drop h=P.getD h []::P.drop (h+1):=by rw[bF hh,aa,ab hh,aY]
  rw[hd];generalize hc:P.getD h []=s at*;have hne:¬h=P.length:=by omega
  rw[if_neg hne];have e2:((i:Int)/2)=((i/2:Nat):Int):=by omega
  have e3:(i:Int).fdiv (2^min 1 64)=((i/2:Nat):Int):=by rw[show(2:Int)^min 1 64=2 from by decide,Int.fdiv_eq_ediv_of_nonneg _ (by decide)];omega
  have e4:af.wrap ((i/2:Nat):Int)=((i/2:Nat):Int):=w64 (by omega) (by omega);rw[ai]
  by_cases ho:i % 2=1
  ·have ih':=ih (h+1) (i/2) (gT h (i/2) s x) .no (by omega) (by omega) (by omega) (by rw[gT,db];omega)
   rw[ite_self]at ih';have g:=xfg h (i/2) s x hs hx;rw[ho]at ha;simp only[Int.natCast_one]at ha;simp only[go_sem,Q0,Q1,Q2,Q3,Q4,Q5,Q6,Q7,Q8,Q9,Qa,Qb,Qc,Qd,Qe,Qf,Qg,Qh,Qi,Qj,Qk,reduceCtorEq,reduceIte,hh,hI,e1,hg,hl,hc,ha,e2,e3,e4,g,Pu,ih',jT,ho]
  ·have ho2:i % 2=0:=by omega
   have ih':=ih (h+1) (i/2) (gT h (i/2) x s) .no (by omega) (by omega) (by omega) (by rw[gT,db];omega);rw[ite_self]at ih';have g:=xfg h (i/2) x s hx hs;rw[ho2]at ha;simp only[aw]at ha;have z1:¬(0:Int)=1:=by decide
   have z2:¬(0:Nat)=1:=by decide
   simp only[go_sem,Q0,Q1,Q2,Q3,Q4,Q5,Q6,Q7,Q8,Q9,Qa,Qb,Qc,Qd,Qe,Qf,Qg,Qh,Qi,Qj,Qk,reduceCtorEq,reduceIte,hh,hI,e1,hg,hl,hc,ha,e2,e3,e4,g,Pu,ih',jT,ho2,z1,z2]
end Go.Proofs.YtkggincjigbelaaGreatDoor
