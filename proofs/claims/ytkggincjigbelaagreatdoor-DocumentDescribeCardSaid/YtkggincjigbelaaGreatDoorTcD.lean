/- What the functions come to. No condition. -/
import Derived.Test.YtkggincjigbelaaGreatDoorTbD
open Int renaming natCast_zero -> aB
open Go.IntKind renaming i64 -> af, u32 -> cK
open List renaming append_assoc -> av, append_nil -> aZ, cons_append -> aS, drop_eq_getElem_cons -> bq, drop_eq_nil_of_le -> bO, drop_length -> bP, drop_zero -> bj, ext_getElem -> qI, flatMap_cons -> dl, flatMap_nil -> eI, foldl_cons -> cr, getD_eq_getElem?_getD -> aa, getElem?_append_right -> bB, getElem?_drop -> br, getElem?_eq_getElem -> ab, getElem?_eq_none -> dV, getElem?_map -> aO, getElem?_range -> bW, getElem_mem -> bi, length_append -> ac, length_cons -> ai, length_drop -> aQ, length_map -> aN, length_nil -> aw, length_replicate -> cj, length_singleton -> aV, length_take -> ax, map_append -> cE, mem_append -> al, mem_cons -> an, nil_append -> aF, not_mem_nil -> bU, range -> bD, replicate -> aD, singleton_append -> dA, take_append_of_le_length -> kt, take_of_length_le -> bf
open Nat renaming le_refl -> aH, mod_eq_of_lt -> cx, sub_self -> kr, zero_add -> cg, zero_le -> bJ
open Option renaming getD_some -> aX
open UInt8 renaming ofInt -> co
set_option maxRecDepth 100000
set_option maxHeartbeats 16000000
set_option linter.unusedSimpArgs false
set_option linter.unusedVariables false
namespace Go.Proofs.YtkggincjigbelaaGreatDoor
open Go.Sy
open UInt8 renaming reduceLT -> Q0, reduceLE -> Q1
open Int renaming reduceToNat -> Q2, reduceLE -> Q3, reduceLT -> Q4, reduceEq -> Q5, reduceNe -> Q6, reduceNeg -> Q7, reduceAdd -> Q8, reduceSub -> Q9, reduceMul -> Qa
open Nat renaming reducePow -> Qb, reduceDiv -> Qc, reduceMod -> Qd, reduceAdd -> Qe, reduceSub -> Qf, reduceMul -> Qg, reduceLT -> Qh, reduceLeDiff -> Qi, reduceEqDiff -> Qj, reduceBEq -> Qk
def frF(fs:List (List UInt8)):List UInt8:=fs.flatMap fun X=>w4 (X.length:Int)++X
def frL(t:Int)(fs:List (List UInt8)):List UInt8:=co t::frF fs
def hsh(t:Int)(fs:List (List UInt8)):List UInt8:=sha (frL t fs)
theorem PU(t:Int)(X:List UInt8):frL t [X]=frame t X:=by simp[frL,frF,frame]
theorem A3(t:Int)(X:List UInt8):hsh t [X]=vS t X:=by rw[hsh,PU];rfl
theorem gA(t:Int)(fs:List (List UInt8)):(hsh t fs).length=32:=i9 _
def h16(t:Int)(fs:List (List UInt8)):List UInt8:=(hsh t fs).take 16
theorem dC(t:Int)(fs:List (List UInt8)):(h16 t fs).length=16:=by rw[h16,ax,gA];rfl
def hZ(c:UInt8)(key:List UInt8):List UInt8:=(bD 64).map fun i=>key.getD i 0^^^c
def AV(key b:List UInt8):List UInt8:=sha (hZ 92 key++sha (hZ 54 key++b))
def Bd(key label ctx:List UInt8)(n:Nat):List UInt8:=(AV key (w4 1++(label++0::(ctx++w4 (8*(n:Int)))))).take n
theorem oj(key b:List UInt8):(AV key b).length=32:=i9 _
theorem uE(key label ctx:List UInt8)(n:Nat)(h:n<=32):(Bd key label ctx n).length=n:=by rw[Bd,ax,oj];omega
def hi4(b:UInt8):Nat:=b.toNat/16
def lo4(b:UInt8):Nat:=b.toNat % 16
def dg(l:List UInt8):List Nat:=l.flatMap fun b=> [hi4 b,lo4 b]
def sm(l:List UInt8):Nat:=l.foldl (fun s b=>s+((15-hi4 b)+(15-lo4 b))) 0
def gg(msg:List UInt8):List Nat:=dg (h16 4 [msg])++ [sm (h16 4 [msg])/256,sm (h16 4 [msg])/16 % 16,sm (h16 4 [msg]) % 16]
theorem xT(l:List UInt8):(dg l).length=2*l.length:=by
 induction l with
 |nil=>rfl
 |cons b r ih=>simp only[dg,dl,ac,ai,aw]at*;omega
theorem xgb(l:List UInt8):∀d∈dg l,d<=15:=by intro d hd;simp only[dg,List.mem_flatMap]at hd;obtain⟨b,_,hb⟩:=hd;have:=b.toNat_lt;simp only[an,bU,or_false]at hb;rcases hb with rfl|rfl<;>simp only[hi4,lo4]<;>omega
theorem M2(l:List UInt8)(s:Nat):l.foldl (fun s b=>s+((15-hi4 b)+(15-lo4 b))) s<=s+30*l.length:=by
 induction l generalizing s with
 |nil=>simp
 |cons b r ih=>rw[cr,ai];have:=ih (s+((15-hi4 b)+(15-lo4 b)));omega
theorem lj(msg:List UInt8):(gg msg).length=35:=by rw[gg,ac,xT,dC];rfl
theorem QE(msg:List UInt8):∀d∈gg msg,d<=15:=by
 intro d hd;rcases al.1 hd with h|h
 ·exact xgb _ d h
 ·have h1:=M2 (h16 4 [msg]) 0
  rw[dC]at h1;have h2:sm (h16 4 [msg])<=480:=by unfold sm;omega
  simp only[an,bU,or_false]at h;rcases h with rfl|rfl|rfl<;>omega
theorem lk(msg:List UInt8)(c:Nat)(hc:c<35):(gg msg).getD c 0<=15:=by refine QE msg _ ?_;rw[aa,ab (by rw[lj];exact hc),aX];exact bi _
def ub(n:Nat):UInt8:=co (n:Int)
def oK(leaf c p:Nat)(x:List UInt8):List UInt8:=h16 1 [[ub leaf,ub c,ub p],x]
def ec(leaf c:Nat):Nat->Nat->List UInt8->List UInt8
 |_,0,x=>x
 |p,n+1,x=>ec leaf c (p+1) n (oK leaf c p x)
theorem tu(leaf c:Nat):∀(n m p:Nat)(x:List UInt8),ec leaf c p (n+m) x=ec leaf c (p+n) m (ec leaf c p n x)
 |0,m,p,x=>by simp[ec]
 |n+1,m,p,x=>by rw[show n+1+m=(n+m)+1 from by omega];show ec leaf c (p+1) (n+m) _=_;rw[tu leaf c n m (p+1),show p+1+n=p+(n+1)from by omega];rfl
theorem ei(leaf c:Nat):∀(n p:Nat)(x:List UInt8),x.length=16->(ec leaf c p n x).length=16
 |0,_,_,h=>h
 |n+1,p,x,_=>ei leaf c n (p+1) _ (dC _ _)
def kT:List UInt8:=[99,104,97,105,110]
def eZ(seed:List UInt8)(leaf c:Nat):List UInt8:=Bd seed kT [ub leaf,ub c] 16
theorem dU(seed:List UInt8)(leaf c:Nat):(eZ seed leaf c).length=16:=uE _ _ _ _ (by decide)
def cat(n:Nat)(f:Nat->List UInt8):List UInt8:=(bD n).flatMap f
theorem ll(n:Nat)(f:Nat->List UInt8):cat (n+1) f=cat n f++f n:=by simp[cat,List.range_succ]
theorem kp(f:Nat->List UInt8):∀n,(∀c,c<n->(f c).length=16)->(cat n f).length=16*n
 |0,_=>rfl
 |n+1,h=>by rw[ll,ac,kp f n (fun c hc=>h c (by omega)),h n (by omega)];omega
theorem Bg(f:Nat->List UInt8):∀n,(∀c,c<n->(f c).length=16)->∀c,c<n->((cat n f).drop (16*c)).take 16=f c
 |0,_,_,h=>absurd h (Nat.not_lt_zero _)
 |n+1,h,c,hc=>by
  have hl:=kp f n (fun c hc=>h c (by omega));rw[ll]
  by_cases e:c<n
  ·rw[List.drop_append_of_le_length (by rw[hl];omega),kt (by rw[aQ,hl];omega)]
   exact Bg f n (fun c hc=>h c (by omega)) c e
  ·have:c=n:=by omega
   subst this;rw[List.drop_append,hl,kr,bj,bO (by rw[hl];exact aH _),aF];exact bf (by rw[h c (by omega)];exact aH _)
theorem CS(f g:Nat->List UInt8)(n:Nat)(h:∀c,c<n->f c=g c):cat n f=cat n g:=by
 induction n with
 |zero=>rfl
 |succ n ih=>rw[ll,ll,ih (fun c hc=>h c (by omega)),h n (by omega)]
def tn(leaf:Nat)(ends:List UInt8):List UInt8:=h16 2 [[ub leaf],ends]
def pubL(seed:List UInt8)(leaf:Nat):List UInt8:=tn leaf (cat 35 fun c=>ec leaf c 0 15 (eZ seed leaf c))
def jH(seed:List UInt8)(leaf:Nat)(msg:List UInt8):List UInt8:=cat 35 fun c=>ec leaf c 0 ((gg msg).getD c 0) (eZ seed leaf c)
def tN(leaf:Nat)(msg sig:List UInt8):List UInt8:=tn leaf (cat 35 fun c=>ec leaf c ((gg msg).getD c 0) (15-(gg msg).getD c 0) ((sig.drop (16*c)).take 16))
theorem cu(seed:List UInt8)(leaf:Nat):(pubL seed leaf).length=16:=dC _ _
theorem gF(seed:List UInt8)(leaf:Nat)(msg:List UInt8):(jH seed leaf msg).length=560:=kp _ 35 fun c _=>ei _ _ _ _ _ (dU _ _ _)
theorem Cd(seed:List UInt8)(leaf:Nat)(msg:List UInt8):tN leaf msg (jH seed leaf msg)=pubL seed leaf:=by
 unfold tN pubL
 congr 1
 refine CS _ _ 35 fun c hc=> ?_
 have h:=lk msg c hc;unfold jH;rw[Bg _ 35 (fun c _=>ei _ _ _ _ _ (dU _ _ _)) c hc];have:=tu leaf c ((gg msg).getD c 0) (15-(gg msg).getD c 0) 0 (eZ seed leaf c);rw[cg,show(gg msg).getD c 0+(15-(gg msg).getD c 0)=15 from by omega]at this;exact this.symm
def ie(h i:Nat)(a b:List UInt8):List UInt8:=h16 3 [[ub h,ub i],a,b]
def ph:Nat->Nat->List (List UInt8)->List UInt8->List UInt8
 |_,_,[],x=>x
 |h,i,s::r,x=>ph (h+1) (i/2) r (if i % 2=1 then ie h (i/2) s x else ie h (i/2) x s)
def Dx:List UInt8:=[115,105,103,110,101,114]
def lsV(seed:List UInt8)(height:Nat):List UInt8:=Bd seed Dx [ub height] 32
theorem eJ(seed:List UInt8)(height:Nat):(lsV seed height).length=32:=uE _ _ _ _ (by decide)
def lvs(seed:List UInt8)(height n:Nat):List (List UInt8):=(bD n).map fun i=>pubL (lsV seed height) i
def xkc:List (List UInt8)->List UInt8
 |[a,b]=>ie 0 0 a b
 |[a]=>a
 |_=> []
def gx(seed:List UInt8)(height:Nat):List UInt8:=ub height::xkc (lvs seed height (2^height))
def Pb(i:Nat):List (List UInt8)->List UInt8
 |[a,b]=>if i=0 then b else a
 |_=> []
def ip(seed:List UInt8)(height leaf:Nat)(msg:List UInt8):List UInt8:=ub leaf::(jH (lsV seed height) leaf msg++Pb leaf (lvs seed height (2^height)))
def rws:Nat->List UInt8->List (List UInt8)
 |0,_=> []
 |n+1,l=>l.take 16::rws n (l.drop 16)
def jq(pub msg sig:List UInt8):Bool:=
 if pub.length=17/\(pub.getD 0 0).toNat<=3 then
  if sig.length=561+16*(pub.getD 0 0).toNat/\(sig.getD 0 0).toNat<2^(pub.getD 0 0).toNat then
   decide (ph 0 (sig.getD 0 0).toNat (rws (pub.getD 0 0).toNat (sig.drop 561)) (tN (sig.getD 0 0).toNat msg ((sig.drop 1).take 560))=pub.drop 1)
  else false
 else false
theorem qJ(seed msg:List UInt8)(leaf:Nat)(h:leaf<2):jq (gx seed 1) msg (ip seed 1 leaf msg)=true:=by
 have h1:=gF (lsV seed 1) leaf msg;have hv:lvs seed 1 (2^1)=[pubL (lsV seed 1) 0,pubL (lsV seed 1) 1]:=rfl;have p0:=cu (lsV seed 1) 0;have p1:=cu (lsV seed 1) 1
 have hb:(ub leaf).toNat=leaf:=by rcases (by omega:leaf=0\/leaf=1)with rfl|rfl<;>rfl
 have hp:(Pb leaf (lvs seed 1 (2^1))).length=16:=by rw[hv,Pb];split<;>assumption
 have e1:(gx seed 1).getD 0 0=1:=rfl;have e2:(ip seed 1 leaf msg).getD 0 0=ub leaf:=rfl;have e3:(gx seed 1).length=17:=by rw[gx,ai,hv];show(ie 0 0 _ _).length+1=17;rw[ie,dC]
 have e4:(ip seed 1 leaf msg).length=577:=by rw[ip,ai,ac,h1,hp]
 have e5:((ip seed 1 leaf msg).drop 1).take 560=jH (lsV seed 1) leaf msg:=by rw[ip,List.drop_succ_cons,bj,kt (by rw[h1];exact aH _),bf (by rw[h1];exact aH _)]
 have e6:rws 1 ((ip seed 1 leaf msg).drop 561)=[Pb leaf (lvs seed 1 (2^1))]:=by
  have:(ip seed 1 leaf msg).drop 561=Pb leaf (lvs seed 1 (2^1)):=by rw[ip,List.drop_succ_cons,List.drop_append,h1,bO (by rw[h1];exact aH _),aF,kr,bj]
  rw[this,rws,rws,bf (by rw[hp];exact aH _)]
 have e7:(1:UInt8).toNat=1:=rfl;unfold jq;rw[e1,e2,e3,e4,e7,hb,e5,e6,Cd,if_pos ⟨rfl,by decide⟩,if_pos ⟨rfl,h⟩,hv];rw[decide_eq_true_iff];have hp2:List.drop 1 (gx seed 1)=ie 0 0 (pubL (lsV seed 1) 0) (pubL (lsV seed 1) 1):=by rw[gx,hv];rfl
 rw[hp2];rcases (by omega:leaf=0\/leaf=1)with rfl|rfl
 ·rw[ph,ph];rfl
 ·rw[ph,ph];rfl
theorem xi9(v:Int)(h0:0<=v)(h1:v<4294967296):call T 185 [.int .i64 v] [] 0=some ⟨.byt (w4 v) (.id 60),[],[60]⟩:=by have m24':min 24 64=24:=rfl;have m16':min 16 64=16:=rfl;have m8':min 8 64=8:=rfl;rw[aj xgs];simp only[go_sem,Q0,Q1,Q2,Q3,Q4,Q5,Q6,Q7,Q8,Q9,Qa,Qb,Qc,Qd,Qe,Qf,Qg,Qh,Qi,Qj,Qk,reduceCtorEq,reduceIte,w4,fW,m24',m16',m8']
theorem xi8(v:Int)(h0:0<=v)(h1:v<4294967296):call T 191 [.int .i64 v] [] 0=some ⟨.byt (w4 v) (.id 60),[],[60]⟩:=by have m24':min 24 64=24:=rfl;have m16':min 16 64=16:=rfl;have m8':min 8 64=8:=rfl;rw[aj xgn];simp only[go_sem,Q0,Q1,Q2,Q3,Q4,Q5,Q6,Q7,Q8,Q9,Qa,Qb,Qc,Qd,Qe,Qf,Qg,Qh,Qi,Qj,Qk,reduceCtorEq,reduceIte,w4,fW,m24',m16',m8']
def xr(c:UInt8)(L:List UInt8)(i:Nat):List UInt8:=(L.take i).map (· ^^^c)++L.drop i
theorem N2(c:UInt8)(L:List UInt8):xr c L 0=L:=by simp[xr]
theorem Zn(c:UInt8)(L:List UInt8)(i:Nat):(xr c L i).length=L.length:=by unfold xr;rw[ac,aN,ax,aQ];omega
theorem Zo(c:UInt8)(L:List UInt8)(i:Nat)(h:i<L.length):(xr c L i).getD i 0=L.getD i 0:=by
 unfold xr;rw[aa,bB (by rw[aN,ax];omega),aN,ax,br,aa]
 congr 2;omega
theorem Zl(c:UInt8)(L:List UInt8)(i:Nat)(h:i<L.length):(xr c L i).set i (L.getD i 0^^^c)=xr c L (i+1):=by
 unfold xr;have hl:((L.take i).map (· ^^^c)).length=i:=by rw[aN,ax];omega
 rw[List.set_append_right _ _ (by rw[hl];exact aH _),hl,kr,de L i h,List.set_cons_zero,List.take_add_one,cE,av];rw[ab h,aa,ab h];rfl
theorem Zm(c:UInt8)(K:List UInt8)(h:K.length<=64):xr c (K++aD (64-K.length) 0) 64=hZ c K:=by
 have hl:(K++aD (64-K.length) (0:UInt8)).length=64:=by rw[ac,cj];omega
 unfold xr hZ;rw[bf (by omega),bO (by omega),aZ];refine qI (by rw[aN,aN,hl,List.length_range]) fun i h1 h2=> ?_
 rw[aN,hl]at h1;rw[List.getElem_map,List.getElem_map,List.getElem_range]
 congr 1
 rw[aa]
 by_cases hi:i<K.length
 ·rw[List.getElem_append_left hi,ab hi];rfl
 ·rw[List.getElem_append_right (by omega),List.getElem_replicate,dV (by omega)];rfl
theorem xkB(c:UInt8)(L K:List UInt8)(hL:L.length=64):∀(n i:Nat),64-i=n->i<=64->
 run T (.loop xg) ⟨[(0,.u8 c),(4,.psl 106 1 0 64 (some 64)),(10,.int .i64 i)],[(0,.rc [.byt K .no]),(106,.bar (xr c L i))],[]⟩=
 some (.x 0,⟨[(4,.psl 106 1 0 64 (some 64))],[(0,.rc [.byt K .no]),(106,.bar (xr c L 64))],[]⟩):=by
 intro n;induction n with
 |zero=>
  intro i h0 h1;have hi:i=64:=by omega
  subst hi;rw[ah];simp only[c64,go_sem,Q0,Q1,Q2,Q3,Q4,Q5,Q6,Q7,Q8,Q9,Qa,Qb,Qc,Qd,Qe,Qf,Qg,Qh,Qi,Qj,Qk,reduceCtorEq,reduceIte]
 |succ n ih=>
  intro i h0 h1;have ih':=ih (i+1) (by omega) (by omega);have e1:=cR i (by omega);have hlt:(i:Int)<64:=by omega
  have hn:i<64:=by omega
  have hl:=Zn c L i;rw[hL]at hl;have hg:=Zo c L i (by omega);have hs:=Zl c L i (by omega);rw[<-hs,<-hg]at ih';generalize hc:(xr c L i).getD i 0=z at*;rw[ah];simp only[go_sem,Q0,Q1,Q2,Q3,Q4,Q5,Q6,Q7,Q8,Q9,Qa,Qb,Qc,Qd,Qe,Qf,Qg,Qh,Qi,Qj,Qk,reduceCtorEq,reduceIte,hlt,e1,hn,hl,hc,ih']
  trace_state
theorem fP(c:UInt8)(K:List UInt8):(hZ c K).length=64:=by unfold hZ;rw[aN,List.length_range]
theorem xi7(c:UInt8)(K:List UInt8)(h:K.length<=64):call T 205 [.u8 c,.ptr 0 0] [.rc [.byt K .no]] 0=some ⟨.byt (hZ c K) (.id 60),[(0,.rc [.byt K .no])],[60]⟩:=by have g:=xkB c (K++aD (64-K.length) 0) K (by rw[ac,cj];omega) 64 0 rfl (by omega);rw[N2,Zm c K h]at g;simp only[aB]at g;have t1:K.take 64=K:=bf h;have hp:=fP c K;have t2:(hZ c K).take 64=hZ c K:=bf (by rw[hp];exact aH _);have l64:64<=64:=aH _;rw[aj xgk];simp only[go_sem,Q0,Q1,Q2,Q3,Q4,Q5,Q6,Q7,Q8,Q9,Qa,Qb,Qc,Qd,Qe,Qf,Qg,Qh,Qi,Qj,Qk,reduceCtorEq,reduceIte,t1,List.drop_replicate,g,hp,t2,l64]
theorem xlr(K B:List UInt8)(h:K.length<=64)(hB:B.length<=1000000000):call T 186 [.byt K .no,.byt B .no] [] 0=some ⟨.byt (AV K B) .no,[],[]⟩:=by
 have g1:=xi7 54 K h;have g2:=xi7 92 K h;have p1:=fP 54 K;have p2:=fP 92 K;have g3:=f64 (hZ 54 K++B) (by rw[ac];omega);have hl:(sha (hZ 54 K++B)).length=32:=i9 _;have g4:=f64 (hZ 92 K++sha (hZ 54 K++B)) (by rw[ac];omega);have h64:¬(64:Int)<K.length:=by omega
 have c1:64+B.length<=140737488355328:=by omega
 have c2:64+32<=140737488355328:=by decide
 rw[aj xgr];simp only[go_sem,Q0,Q1,Q2,Q3,Q4,Q5,Q6,Q7,Q8,Q9,Qa,Qb,Qc,Qd,Qe,Qf,Qg,Qh,Qi,Qj,Qk,reduceCtorEq,reduceIte,h64,g1,xhl,p1,p2,c1,c2,hl,g2,g3,g4,Rg,AV]
def mk(c:UInt8)(K:List UInt8)(i:Nat):List UInt8:=(hZ c K).take i++aD (64-i) 0
theorem AQ(c:UInt8)(K:List UInt8):mk c K 0=aD 64 0:=by simp[mk]
theorem AR(c:UInt8)(K:List UInt8):mk c K 64=hZ c K:=by have:=fP c K;simp[mk,bf,this]
theorem My(c:UInt8)(K:List UInt8)(i:Nat)(h:i<=64):(mk c K i).length=64:=by rw[mk,ac,ax,fP,cj];omega
theorem ED(c:UInt8)(K:List UInt8)(i:Nat)(h:i<64):(hZ c K)[i]? =some (K.getD i 0^^^c):=by unfold hZ;rw[aO,bW h];rfl
theorem Mx(c:UInt8)(K:List UInt8)(i:Nat)(h:i<64):(mk c K i).set i (K.getD i 0^^^c)=mk c K (i+1):=by
 have hl:((hZ c K).take i).length=i:=by rw[ax,fP];omega
 unfold mk;rw[List.set_append_right _ _ (by rw[hl];exact aH _),hl,kr,show 64-i=(64-(i+1))+1 from by omega,List.replicate_succ,List.set_cons_zero,List.take_add_one,ED c K i h,av];rfl
theorem xkE(K M:List UInt8)(hK:K.length<=64):∀(n i:Nat),64-i=n->i<=64->
 run T (.loop qV) ⟨[(0,.byt K .no),(1,.byt M .no),(5,.psl 114 1 0 64 (some 64)),(6,.psl 115 1 0 64 (some 64)),(7,.int .i64 i)],[(114,.bar (mk 54 K i)),(115,.bar (mk 92 K i))],[]⟩=
 some (.x 0,⟨[(1,.byt M .no),(5,.psl 114 1 0 64 (some 64)),(6,.psl 115 1 0 64 (some 64))],[(114,.bar (mk 54 K 64)),(115,.bar (mk 92 K 64))],[]⟩):=by
 intro n;induction n with
 |zero=>
  intro i h0 h1;have hi:i=64:=by omega
  subst hi;rw[ah];simp only[c64,go_sem,Q0,Q1,Q2,Q3,Q4,Q5,Q6,Q7,Q8,Q9,Qa,Qb,Qc,Qd,Qe,Qf,Qg,Qh,Qi,Qj,Qk,reduceCtorEq,reduceIte]
 |succ n ih=>
  intro i h0 h1;have ih':=ih (i+1) (by omega) (by omega);have e1:=cR i (by omega);have hlt:(i:Int)<64:=by omega
  have hn:i<64:=by omega
  have l1:=My 54 K i h1;have l2:=My 92 K i h1;rw[<-Mx 54 K i hn,<-Mx 92 K i hn]at ih';rw[ah]
  by_cases hk:i<K.length
  ·have hkI:(i:Int)<(K.length:Int):=by omega
   simp only[go_sem,Q0,Q1,Q2,Q3,Q4,Q5,Q6,Q7,Q8,Q9,Qa,Qb,Qc,Qd,Qe,Qf,Qg,Qh,Qi,Qj,Qk,reduceCtorEq,reduceIte,hlt,e1,hn,hk,hkI,l1,l2,ih']
  ·have hkI:¬(i:Int)<(K.length:Int):=by omega
   have hz:K.getD i 0=0:=by rw[aa,dV (by omega)];rfl
   rw[hz]at ih';simp only[go_sem,Q0,Q1,Q2,Q3,Q4,Q5,Q6,Q7,Q8,Q9,Qa,Qb,Qc,Qd,Qe,Qf,Qg,Qh,Qi,Qj,Qk,reduceCtorEq,reduceIte,hlt,e1,hn,hk,hkI,l1,l2,ih']
theorem xln(K B:List UInt8)(h:K.length<=64)(hB:B.length<=1000000000):call T 192 [.byt K .no,.byt B .no] [] 0=some ⟨.byt (AV K B) .no,[],[]⟩:=by
 have g:=xkE K B h 64 0 rfl (by omega);rw[AQ,AQ,AR,AR]at g;simp only[aB]at g;have p1:=fP 54 K;have p2:=fP 92 K;have g3:=f73 (hZ 54 K++B) (by rw[ac];omega);have hl:(sha (hZ 54 K++B)).length=32:=i9 _;have g4:=f73 (hZ 92 K++sha (hZ 54 K++B)) (by rw[ac];omega);have h64:¬(64:Int)<K.length:=by omega
 have c1:64+B.length<=140737488355328:=by omega
 have t1:(hZ 54 K).take 64=hZ 54 K:=bf (by rw[p1];exact aH _);have t2:(hZ 92 K).take 64=hZ 92 K:=bf (by rw[p2];exact aH _);rw[aj xgm];simp only[go_sem,Q0,Q1,Q2,Q3,Q4,Q5,Q6,Q7,Q8,Q9,Qa,Qb,Qc,Qd,Qe,Qf,Qg,Qh,Qi,Qj,Qk,reduceCtorEq,reduceIte,h64,g,p1,p2,t1,t2,c1];simp only[go_sem,Q0,Q1,Q2,Q3,Q4,Q5,Q6,Q7,Q8,Q9,Qa,Qb,Qc,Qd,Qe,Qf,Qg,Qh,Qi,Qj,Qk,reduceCtorEq,reduceIte,c1,hl,g3,g4,XR,AV,p2,t2]
theorem xjf(K lab ctx:List UInt8)(n:Nat)(h1:1<=n)(h2:n<=32)(hK:K.length<=64)(hl:lab.length<=1000)(hc:ctx.length<=1000):
 call T 138 [.byt K .no,.str lab,.byt ctx .no,.int .i64 n] [] 0=some ⟨.byt (Bd K lab ctx n) .no,[],[]⟩:=by
 have a1:¬(n:Int)<1:=by omega
 have a2:¬(1024:Int)<n:=by omega
 have a3:0<n:=by omega
 have a4:¬32<n:=by omega
 have e8:af.wrap (8*(n:Int))=8*(n:Int):=w64 (by omega) (by omega);have k2:af.wrap 2=2:=rfl;have g1:=xi9 (8*(n:Int)) (by omega) (by omega);have g2:=xi9 1 (by omega) (by omega);have g3:=xlr K (w4 1++(lab++0::(ctx++w4 (8*(n:Int))))) hK (by simp[w4];omega);have ml:=oj K (w4 1++(lab++0::(ctx++w4 (8*(n:Int)))));have w4l:∀x,(w4 x).length=4:=fun _=>rfl
 have c1:lab.length<=140737488355327:=by omega
 have c2:lab.length+1+ctx.length<=140737488355328:=by omega
 have c3:lab.length+(ctx.length+1)+4<=140737488355328:=by omega
 have c5:4+(lab.length+(ctx.length+4+1))<=140737488355328:=by omega
 rw[aj xgO];simp only[go_sem,Q0,Q1,Q2,Q3,Q4,Q5,Q6,Q7,Q8,Q9,Qa,Qb,Qc,Qd,Qe,Qf,Qg,Qh,Qi,Qj,Qk,reduceCtorEq,reduceIte,a1,a2,e8,g1,XW,c1,c2,w4l,c3];rw[ah];simp only[go_sem,Q0,Q1,Q2,Q3,Q4,Q5,Q6,Q7,Q8,Q9,Qa,Qb,Qc,Qd,Qe,Qf,Qg,Qh,Qi,Qj,Qk,reduceCtorEq,reduceIte,a3,g2,XW,xhq,g3,w4l,c5,k2];unfold Bd;generalize AV K (w4 1++(lab++0::(ctx++w4 (8*(n:Int)))))=X at*;have c6:X.length<=140737488355328:=by omega
 simp only[ml,c6];rw[ah];simp only[go_sem,Q0,Q1,Q2,Q3,Q4,Q5,Q6,Q7,Q8,Q9,Qa,Qb,Qc,Qd,Qe,Qf,Qg,Qh,Qi,Qj,Qk,reduceCtorEq,reduceIte,ml,a4,h2]
theorem xjc(K lab ctx:List UInt8)(n:Nat)(h1:1<=n)(h2:n<=32)(hK:K.length<=64)(hl:lab.length<=1000)(hc:ctx.length<=1000):
 call T 145 [.byt K .no,.str lab,.byt ctx .no,.int .i64 n] [] 0=some ⟨.byt (Bd K lab ctx n) .no,[],[]⟩:=by
 have a1:¬(n:Int)<1:=by omega
 have a2:¬(1024:Int)<n:=by omega
 have a3:0<n:=by omega
 have a4:¬32<n:=by omega
 have e8:af.wrap (8*(n:Int))=8*(n:Int):=w64 (by omega) (by omega);have k2:af.wrap 2=2:=rfl;have g1:=xi8 (8*(n:Int)) (by omega) (by omega);have g2:=xi8 1 (by omega) (by omega);have g3:=xln K (w4 1++(lab++0::(ctx++w4 (8*(n:Int))))) hK (by simp[w4];omega);have ml:=oj K (w4 1++(lab++0::(ctx++w4 (8*(n:Int)))));have w4l:∀x,(w4 x).length=4:=fun _=>rfl
 have c1:lab.length<=140737488355327:=by omega
 have c2:lab.length+1+ctx.length<=140737488355328:=by omega
 have c3:lab.length+(ctx.length+1)+4<=140737488355328:=by omega
 have b1:4+lab.length<=140737488355328:=by omega
 have b2:4+lab.length<=140737488355327:=by omega
 have b3:4+(lab.length+1)+ctx.length<=140737488355328:=by omega
 have b4:4+(lab.length+(ctx.length+1))<=140737488355324:=by omega
 rw[aj xgJ];simp only[go_sem,Q0,Q1,Q2,Q3,Q4,Q5,Q6,Q7,Q8,Q9,Qa,Qb,Qc,Qd,Qe,Qf,Qg,Qh,Qi,Qj,Qk,reduceCtorEq,reduceIte,a1,a2];rw[ah];simp only[go_sem,Q0,Q1,Q2,Q3,Q4,Q5,Q6,Q7,Q8,Q9,Qa,Qb,Qc,Qd,Qe,Qf,Qg,Qh,Qi,Qj,Qk,reduceCtorEq,reduceIte,a3,e8,g1,g2,xhn,xhm,g3,w4l,b1,b2,b3,b4,k2];unfold Bd;generalize AV K (w4 1++(lab++0::(ctx++w4 (8*(n:Int)))))=X at*;have c6:X.length<=140737488355328:=by omega
 simp only[ml,c6];rw[ah];simp only[go_sem,Q0,Q1,Q2,Q3,Q4,Q5,Q6,Q7,Q8,Q9,Qa,Qb,Qc,Qd,Qe,Qf,Qg,Qh,Qi,Qj,Qk,reduceCtorEq,reduceIte,ml,a4,h2]
def bys(fs:List (List UInt8)):List (List SV):=fs.map fun X=> [.byt X .no]
theorem jd(fs:List (List UInt8)):(bys fs).length=fs.length:=by simp[bys]
theorem rG(fs:List (List UInt8))(i:Nat)(h:i<fs.length):(bys fs).getD i []=[.byt (fs.getD i []) .no]:=by simp[bys,aa,h]
theorem uj(fs:List (List UInt8))(i:Nat)(h:i<fs.length):frF (fs.drop i)=w4 ((fs.getD i []).length:Int)++(fs.getD i []++frF (fs.drop (i+1))):=by
 have:fs.drop i=fs.getD i []::fs.drop (i+1):=by rw[bq h,aa,ab h,aX]
 rw[this];simp[frF]
theorem xkC(fs:List (List UInt8))(hl:fs.length<=100)(hb:∀i,i<fs.length->(fs.getD i []).length<=1000000000):∀(n i:Nat)(acc:List UInt8),fs.length-i=n->i<=fs.length->acc.length+(frF (fs.drop i)).length<=1000000000000->
 run T (.loop xh) ⟨[(5,.byt acc (.id 105)),(12,.lst 1 (bys fs) .no),(13,.int .i64 fs.length),(14,.int .i64 i)],[],[105]⟩=
 some (.x 0,⟨[(5,.byt (acc++frF (fs.drop i)) (.id 105))],[],[105]⟩):=by
 intro n;induction n with
 |zero=>
  intro i acc h0 h1 ha;have hi:i=fs.length:=by omega
  subst hi;rw[ah];simp only[go_sem,Q0,Q1,Q2,Q3,Q4,Q5,Q6,Q7,Q8,Q9,Qa,Qb,Qc,Qd,Qe,Qf,Qg,Qh,Qi,Qj,Qk,reduceCtorEq,reduceIte,bP,frF,eI,aZ]
 |succ n ih=>
  intro i acc h0 h1 ha;have hi:i<fs.length:=by omega
  have hiI:(i:Int)<(fs.length:Int):=by omega
  have e1:=cR i (by omega);have hX:=hb i hi;have ih':=ih (i+1) (acc++(w4 ((fs.getD i []).length:Int)++fs.getD i []));rw[uj fs i hi]at ha ⊢;have hg:=rG fs i hi;have hbl:=jd fs;generalize hc:fs.getD i []=X at*;simp only[ac,w4,ai,aw]at ha ih';have ih2:=ih' (by omega) (by omega) (by omega);have c1:acc.length+4<=140737488355328:=by omega
  have c2:acc.length+4+X.length<=140737488355328:=by omega
  have c3:acc.length+(4+X.length)<=140737488355328:=by omega
  have e2:cK.wrap (X.length:Int)=X.length:=by rw[IntKind.wrap_u32];omega
  simp only[av,aS,aF,fW]at ih2;rw[ah];simp only[go_sem,Q0,Q1,Q2,Q3,Q4,Q5,Q6,Q7,Q8,Q9,Qa,Qb,Qc,Qd,Qe,Qf,Qg,Qh,Qi,Qj,Qk,reduceCtorEq,reduceIte,hi,hiI,hg,hbl,hc,e1,e2,c1,c2,c3,m24,m16,m8,w4,fW,av,ih2]
theorem xfV(t:Int)(fs:List (List UInt8))(hl:fs.length<=100)(hb:∀i,i<fs.length->(fs.getD i []).length<=1000000000)(hs:(frF fs).length<=100000000000):
 call T 204 [.int .i64 t,.lst 1 (bys fs) .no] [] 0=some ⟨.byt (frL t fs) .no,[],[]⟩:=by
 have g:=xkC fs hl hb _ 0 [co t] rfl (bJ _) (by rw[bj,aV];omega);have hbl:=jd fs;simp only[aB,bj,dA]at g;rw[aj XH];simp only[go_sem,Q0,Q1,Q2,Q3,Q4,Q5,Q6,Q7,Q8,Q9,Qa,Qb,Qc,Qd,Qe,Qf,Qg,Qh,Qi,Qj,Qk,reduceCtorEq,reduceIte,hbl,g,frL]
theorem xkA(fs:List (List UInt8))(hl:fs.length<=100)(hb:∀i,i<fs.length->(fs.getD i []).length<=1000000000):∀(n i:Nat)(acc:List UInt8),fs.length-i=n->i<=fs.length->acc.length+(frF (fs.drop i)).length<=1000000000000->
 run T (.loop xf) ⟨[(1,.lst 1 (bys fs) .no),(5,.byt acc (.id 105)),(6,.int .i64 i)],[],[105]⟩=
 some (.x 0,⟨[(5,.byt (acc++frF (fs.drop i)) (.id 105))],[],[105]⟩):=by
 intro n;induction n with
 |zero=>
  intro i acc h0 h1 ha;have hi:i=fs.length:=by omega
  have hbl:=jd fs;subst hi;rw[ah];simp only[go_sem,Q0,Q1,Q2,Q3,Q4,Q5,Q6,Q7,Q8,Q9,Qa,Qb,Qc,Qd,Qe,Qf,Qg,Qh,Qi,Qj,Qk,reduceCtorEq,reduceIte,hbl,bP,frF,eI,aZ]
 |succ n ih=>
  intro i acc h0 h1 ha;have hi:i<fs.length:=by omega
  have hiI:(i:Int)<(fs.length:Int):=by omega
  have e1:=cR i (by omega);have hX:=hb i hi;have ih':=ih (i+1) (acc++(w4 ((fs.getD i []).length:Int)++fs.getD i []));rw[uj fs i hi]at ha ⊢;have hg:=rG fs i hi;have hbl:=jd fs;generalize hc:fs.getD i []=X at*;simp only[ac,w4,ai,aw]at ha ih';have ih2:=ih' (by omega) (by omega) (by omega);have c1:acc.length+4<=140737488355328:=by omega
  have c2:acc.length+4+X.length<=140737488355328:=by omega
  have c3:acc.length+(4+X.length)<=140737488355328:=by omega
  have m24':min 24 64=24:=rfl;have m16':min 16 64=16:=rfl;have m8':min 8 64=8:=rfl;simp only[av,aS,aF,fW]at ih2;rw[ah];simp only[go_sem,Q0,Q1,Q2,Q3,Q4,Q5,Q6,Q7,Q8,Q9,Qa,Qb,Qc,Qd,Qe,Qf,Qg,Qh,Qi,Qj,Qk,reduceCtorEq,reduceIte,hi,hiI,hg,hbl,hc,e1,c1,c2,c3,m24',m16',m8',w4,fW,av,ih2]
theorem xfU(t:Int)(fs:List (List UInt8))(hl:fs.length<=100)(hb:∀i,i<fs.length->(fs.getD i []).length<=1000000000)(hs:(frF fs).length<=100000000000):
 call T 206 [.int .i64 t,.lst 1 (bys fs) .no] [] 0=some ⟨.byt (frL t fs) .no,[],[]⟩:=by
 have g:=xkA fs hl hb _ 0 [co t] rfl (bJ _) (by rw[bj,aV];omega);simp only[aB,bj,dA]at g;rw[aj XG];simp only[go_sem,Q0,Q1,Q2,Q3,Q4,Q5,Q6,Q7,Q8,Q9,Qa,Qb,Qc,Qd,Qe,Qf,Qg,Qh,Qi,Qj,Qk,reduceCtorEq,reduceIte,g,frL]
theorem Xl(t:Int)(fs:List (List UInt8))(hl:fs.length<=100)(hb:∀i,i<fs.length->(fs.getD i []).length<=1000000000)(hs:(frF fs).length<=10000000000):
 call T 183 [.int .i64 t,.lst 1 (bys fs) .no] [] 0=some ⟨.byt (hsh t fs) .no,[],[]⟩:=by
 have g1:=xfV t fs hl hb (by omega);have g2:=f64 (frL t fs) (by unfold frL;rw[ai];omega);rw[aj XJ];simp only[go_sem,Q0,Q1,Q2,Q3,Q4,Q5,Q6,Q7,Q8,Q9,Qa,Qb,Qc,Qd,Qe,Qf,Qg,Qh,Qi,Qj,Qk,reduceCtorEq,reduceIte,g1,g2,XT,Rg,hsh]
theorem Xk(t:Int)(fs:List (List UInt8))(hl:fs.length<=100)(hb:∀i,i<fs.length->(fs.getD i []).length<=1000000000)(hs:(frF fs).length<=10000000000):
 call T 190 [.int .i64 t,.lst 1 (bys fs) .no] [] 0=some ⟨.byt (hsh t fs) .no,[],[]⟩:=by
 have g1:=xfU t fs hl hb (by omega);have g2:=f73 (frL t fs) (by unfold frL;rw[ai];omega);rw[aj XI];simp only[go_sem,Q0,Q1,Q2,Q3,Q4,Q5,Q6,Q7,Q8,Q9,Qa,Qb,Qc,Qd,Qe,Qf,Qg,Qh,Qi,Qj,Qk,reduceCtorEq,reduceIte,g1,g2,XS,XR,hsh]
theorem xjp(A B:List UInt8)(hA:A.length<=1000000000)(hB:B.length<=1000000000):∀i,i< [A,B].length->([A,B].getD i []).length<=1000000000:=fun i hi=>by
 match i,hi with
 |0,_=>exact hA
 |1,_=>exact hB
theorem xjo(A B C:List UInt8)(hA:A.length<=1000000000)(hB:B.length<=1000000000)(hC:C.length<=1000000000):∀i,i< [A,B,C].length->([A,B,C].getD i []).length<=1000000000:=fun i hi=>by
 match i,hi with
 |0,_=>exact hA
 |1,_=>exact hB
 |2,_=>exact hC
theorem se(x:Int):(w4 x).length=4:=rfl
theorem a183(t:Int)(A B:List UInt8)(hA:A.length<=1000000000)(hB:B.length<=1000000000):call T 183 [.int .i64 t,.lst 1 [[.byt A .no],[.byt B .no]] .no] [] 0=some ⟨.byt (hsh t [A,B]) .no,[],[]⟩:=
 Xl t [A,B] (by simp) (xjp A B hA hB) (by simp only[frF,dl,eI,ac,se,aw];omega)
theorem xjq(t:Int)(A B:List UInt8)(hA:A.length<=1000000000)(hB:B.length<=1000000000):call T 190 [.int .i64 t,.lst 1 [[.byt A .no],[.byt B .no]] .no] [] 0=some ⟨.byt (hsh t [A,B]) .no,[],[]⟩:=
 Xk t [A,B] (by simp) (xjp A B hA hB) (by simp only[frF,dl,eI,ac,se,aw];omega)
theorem t183(t:Int)(A B C:List UInt8)(hA:A.length<=1000000000)(hB:B.length<=1000000000)(hC:C.length<=1000000000):call T 183 [.int .i64 t,.lst 1 [[.byt A .no],[.byt B .no],[.byt C .no]] .no] [] 0=some ⟨.byt (hsh t [A,B,C]) .no,[],[]⟩:=
 Xl t [A,B,C] (by simp) (xjo A B C hA hB hC) (by simp only[frF,dl,eI,ac,se,aw];omega)
theorem xjZ(t:Int)(A B C:List UInt8)(hA:A.length<=1000000000)(hB:B.length<=1000000000)(hC:C.length<=1000000000):call T 190 [.int .i64 t,.lst 1 [[.byt A .no],[.byt B .no],[.byt C .no]] .no] [] 0=some ⟨.byt (hsh t [A,B,C]) .no,[],[]⟩:=
 Xk t [A,B,C] (by simp) (xjo A B C hA hB hC) (by simp only[frF,dl,eI,ac,se,aw];omega)
theorem xl5(n:Nat)(h:n<4611686018427387904):bS .and .i64 (n:Int) 1=((n % 2:Nat):Int):=by
 have e1:(BitVec.ofNat 64 n&&&BitVec.ofNat 64 1).toNat=n % 2:=by rw[BitVec.toNat_and,BitVec.toNat_ofNat,BitVec.toNat_ofNat,cx (by omega)];exact Nat.and_one_is_mod n
 unfold bS;rw[show(1:Int)=((1:Nat):Int)from rfl];simp only[BitVec.ofInt_natCast];show af.wrap (((BitVec.ofNat 64 n&&&BitVec.ofNat 64 1).toNat:Nat):Int)=_;rw[e1];exact w64 (by omega) (by omega)
theorem xc0(h i:Nat)(a b:List UInt8)(ha:a.length<=1000000)(hb:b.length<=1000000):call T 150 [.int .i64 h,.int .i64 i,.byt a .no,.byt b .no] [] 0=some ⟨.byt (ie h i a b) .no,[],[]⟩:=by have g:=t183 3 [ub h,ub i] a b (by simp) (by omega) (by omega);have hl:=gA 3 [[ub h,ub i],a,b];unfold ub at g hl;rw[aj xgE];simp only[go_sem,Q0,Q1,Q2,Q3,Q4,Q5,Q6,Q7,Q8,Q9,Qa,Qb,Qc,Qd,Qe,Qf,Qg,Qh,Qi,Qj,Qk,reduceCtorEq,reduceIte,g,Dq,hl,c32,ie,h16,ub]
theorem xlv(h i:Nat)(a b:List UInt8)(ha:a.length<=1000000)(hb:b.length<=1000000):call T 179 [.int .i64 h,.int .i64 i,.byt a .no,.byt b .no] [] 0=some ⟨.byt (ie h i a b) .no,[],[]⟩:=by have g:=xjZ 3 [ub h,ub i] a b (by simp) (by omega) (by omega);have hl:=gA 3 [[ub h,ub i],a,b];unfold ub at g hl;rw[aj xgw];simp only[go_sem,Q0,Q1,Q2,Q3,Q4,Q5,Q6,Q7,Q8,Q9,Qa,Qb,Qc,Qd,Qe,Qf,Qg,Qh,Qi,Qj,Qk,reduceCtorEq,reduceIte,g,Dp,hl,c32,ie,h16,ub]
theorem xf4:call T 139 [.int .i64 1] [] 0=some ⟨.int .i64 0,[],[]⟩:=by rw[aj XM];simp only[go_sem,Q0,Q1,Q2,Q3,Q4,Q5,Q6,Q7,Q8,Q9,Qa,Qb,Qc,Qd,Qe,Qf,Qg,Qh,Qi,Qj,Qk,reduceCtorEq,reduceIte];rw[ah];simp (config:= {decide:=true}) only[go_sem,Q0,Q1,Q2,Q3,Q4,Q5,Q6,Q7,Q8,Q9,Qa,Qb,Qc,Qd,Qe,Qf,Qg,Qh,Qi,Qj,Qk,reduceCtorEq,reduceIte]
theorem Xu:call T 139 [.int .i64 2] [] 0=some ⟨.int .i64 1,[],[]⟩:=by have k1:af.wrap 1=1:=rfl;rw[aj XM];simp only[go_sem,Q0,Q1,Q2,Q3,Q4,Q5,Q6,Q7,Q8,Q9,Qa,Qb,Qc,Qd,Qe,Qf,Qg,Qh,Qi,Qj,Qk,reduceCtorEq,reduceIte,k1];rw[ah];simp (config:= {decide:=true}) only[go_sem,Q0,Q1,Q2,Q3,Q4,Q5,Q6,Q7,Q8,Q9,Qa,Qb,Qc,Qd,Qe,Qf,Qg,Qh,Qi,Qj,Qk,reduceCtorEq,reduceIte,k1];rw[ah];simp (config:= {decide:=true}) only[go_sem,Q0,Q1,Q2,Q3,Q4,Q5,Q6,Q7,Q8,Q9,Qa,Qb,Qc,Qd,Qe,Qf,Qg,Qh,Qi,Qj,Qk,reduceCtorEq,reduceIte,k1]
theorem xc3(B:List UInt8)(h:B.length<=1000000000):call T 124 [.byt B .no] [] 0=some ⟨.byt B .no,[],[]⟩:=by
 have c1:0+B.length<=140737488355328:=by omega
 have c2:B.length<=140737488355328:=by omega
 rw[aj xg0];simp only[go_sem,Q0,Q1,Q2,Q3,Q4,Q5,Q6,Q7,Q8,Q9,Qa,Qb,Qc,Qd,Qe,Qf,Qg,Qh,Qi,Qj,Qk,reduceCtorEq,reduceIte,c1,c2,aF]
theorem l95(P:List (List UInt8))(hP:P.length<=3)(hb:∀s∈P,s.length<=1000000):∀(n h i:Nat)(x:List UInt8)(q:Tok),P.length-h=n->h<=P.length->i<1000->x.length<=1000000->
 run T (.loop wO) ⟨[(1,.int .i64 i),(7,.byt x q),(29,.lst 1 (bys P) .no),(30,.int .i64 P.length),(31,.int .i64 h)],[],[128]⟩=
 some (.x 0,⟨[(7,.byt (ph h i (P.drop h) x) (if h=P.length then q else .no))],[],[128]⟩):=by
 intro n;induction n with
 |zero=>
  intro h i x q h0 h1 h2 hx;have hi:h=P.length:=by omega
  subst hi;rw[bP,ah];simp only[go_sem,Q0,Q1,Q2,Q3,Q4,Q5,Q6,Q7,Q8,Q9,Qa,Qb,Qc,Qd,Qe,Qf,Qg,Qh,Qi,Qj,Qk,reduceCtorEq,reduceIte,ph,if_true]
 |succ n ih=>
  intro h i x q h0 h1 h2 hx;have hh:h<P.length:=by omega
  have hI:(h:Int)<(P.length:Int):=by omega
  have e1:=cR h (by omega);have hg:=rG P h hh;have hl:=jd P;have ha:=xl5 i (by omega)
  have hs:(P.getD h []).length<=1000000:=by rw[aa,ab hh,aX];exact hb _ (bi hh)
  have hd:P.drop h=P.getD h []::P.drop (h+1):=by rw[bq hh,aa,ab hh,aX]
  rw[hd];generalize hc:P.getD h []=s at*;have hne:¬h=P.length:=by omega
  rw[if_neg hne];have e2:((i:Int)/2)=((i/2:Nat):Int):=by omega
  have e3:(i:Int).fdiv (2^min 1 64)=((i/2:Nat):Int):=by rw[show(2:Int)^min 1 64=2 from by decide,Int.fdiv_eq_ediv_of_nonneg _ (by decide)];omega
  have e4:af.wrap ((i/2:Nat):Int)=((i/2:Nat):Int):=w64 (by omega) (by omega);rw[ah]
  by_cases ho:i % 2=1
  ·have ih':=ih (h+1) (i/2) (ie h (i/2) s x) .no (by omega) (by omega) (by omega) (by rw[ie,dC];omega)
   rw[ite_self]at ih';have g:=xc0 h (i/2) s x hs hx;rw[ho]at ha;simp only[Int.natCast_one]at ha;simp only[go_sem,Q0,Q1,Q2,Q3,Q4,Q5,Q6,Q7,Q8,Q9,Qa,Qb,Qc,Qd,Qe,Qf,Qg,Qh,Qi,Qj,Qk,reduceCtorEq,reduceIte,hh,hI,e1,hg,hl,hc,ha,e2,e3,e4,g,NR,ih',ph,ho]
  ·have ho2:i % 2=0:=by omega
   have ih':=ih (h+1) (i/2) (ie h (i/2) x s) .no (by omega) (by omega) (by omega) (by rw[ie,dC];omega);rw[ite_self]at ih';have g:=xc0 h (i/2) x s hx hs;rw[ho2]at ha;simp only[aB]at ha;have z1:¬(0:Int)=1:=by decide
   have z2:¬(0:Nat)=1:=by decide
   simp only[go_sem,Q0,Q1,Q2,Q3,Q4,Q5,Q6,Q7,Q8,Q9,Qa,Qb,Qc,Qd,Qe,Qf,Qg,Qh,Qi,Qj,Qk,reduceCtorEq,reduceIte,hh,hI,e1,hg,hl,hc,ha,e2,e3,e4,g,NR,ih',ph,ho2,z1,z2]
end Go.Proofs.YtkggincjigbelaaGreatDoor
