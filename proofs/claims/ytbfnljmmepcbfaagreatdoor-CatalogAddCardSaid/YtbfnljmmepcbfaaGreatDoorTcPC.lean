/- Contracts. No condition. -/
import Derived.Test.YtbfnljmmepcbfaaGreatDoorTbPC
open Int renaming fdiv_eq_ediv_of_nonneg -> je, natCast_zero -> az, tmod_eq_emod_of_nonneg -> fq
open Go.IntKind renaming i64 -> af, u32 -> dr, u64 -> aQ, wrap_u64 -> bV
open List renaming append_assoc -> ay, append_nil -> bA, cons_append -> bp, drop -> iH, drop_eq_getElem_cons -> bz, drop_eq_nil_of_le -> bT, drop_length -> bK, drop_take -> fW, drop_zero -> bj, flatMap_cons -> ek, flatMap_nil -> fS, foldl_cons -> ez, foldl_nil -> iP, getD_eq_getElem?_getD -> aa, getElem?_eq_getElem -> ac, getElem?_eq_none -> ib, getElem?_map -> aU, getElem?_range -> cC, getElem_mem -> bv, length_append -> ae, length_cons -> al, length_drop -> aE, length_map -> aV, length_nil -> aB, length_range -> ij, length_replicate -> dG, length_singleton -> aG, length_take -> an, map_append -> co, map_cons -> aI, map_nil -> bO, mem_append -> am, mem_cons -> av, nil_append -> aF, not_mem_nil -> cG, range -> bC, replicate -> aL, singleton_append -> eF, take_of_length_le -> aT
open Nat renaming add_mul -> bH, add_zero -> fm, le_refl -> aK, mod_eq_of_lt -> ct, mul_comm -> cS, mul_le_mul_right -> bo, sub_self -> sI, zero_add -> bY, zero_le -> aY, zero_mul -> iq
open Option renaming getD_some -> aM
open UInt8 renaming ofInt -> cf, ofNat -> ip
set_option maxRecDepth 100000
set_option maxHeartbeats 16000000
set_option linter.unusedSimpArgs false
set_option linter.unusedVariables false
namespace Go.Proofs.YtbfnljmmepcbfaaGreatDoor
open Go.Sy
open UInt8 renaming reduceLT -> Q0, reduceLE -> Q3
open Int renaming reduceToNat -> Q4, reduceLE -> Q5, reduceLT -> Q6, reduceEq -> Q7, reduceNe -> Q8, reduceNeg -> Q9, reduceAdd -> Qa, reduceSub -> Qb, reduceMul -> Qc
open Nat renaming reducePow -> Qd, reduceDiv -> Qe, reduceMod -> Qf, reduceAdd -> Qg, reduceSub -> Qh, reduceMul -> Qi, reduceLT -> Qj, reduceLeDiff -> Qk, reduceEqDiff -> Ql, reduceBEq -> Qm
def frF(y:List d9):d9:=y.flatMap fun X=>w4 (X.length:Int)++X
def frL(t:Int)(y:List d9):d9:=cf t::frF y
def hsh(t:Int)(y:List d9):d9:=sha (frL t y)
theorem xae(t:Int)(X:d9):frL t [X]=frame t X:=by simp[frL,frF,frame]
theorem Gd(t:Int)(X:d9):hsh t [X]=xO t X:=by rw[hsh,xae];rfl
theorem i9(t:Int)(y:List d9):(hsh t y).length=32:=iu _
def h16(t:Int)(y:List d9):d9:=(hsh t y).take 16
theorem ej(t:Int)(y:List d9):(h16 t y).length=16:=by rw[h16,an,i9];rfl
def oh(c:UInt8)(key:d9):d9:=(bC 64).map fun i=>key.getD i 0^^^c
def ZQ(key b:d9):d9:=sha (oh 92 key++sha (oh 54 key++b))
def UH(key y C:d9)(n:Nat):d9:=(ZQ key (w4 1++(y++0::(C++w4 (8*(n:Int)))))).take n
theorem y7(key b:d9):(ZQ key b).length=32:=iu _
theorem zQ(key y C:d9)(n:Nat)(h:n<=32):(UH key y C n).length=n:=by rw[UH,an,y7];omega
def hi4(b:UInt8):Nat:=b.toNat/16
def lo4(b:UInt8):Nat:=b.toNat % 16
def dg(l:d9):t8:=l.flatMap fun b=> [hi4 b,lo4 b]
def sm(l:d9):Nat:=l.foldl (fun s b=>s+((15-hi4 b)+(15-lo4 b))) 0
def gW(y:d9):t8:=dg (h16 4 [y])++ [sm (h16 4 [y])/256,sm (h16 4 [y])/16 % 16,sm (h16 4 [y]) % 16]
theorem CX(l:d9):(dg l).length=2*l.length:=by
 induction l with
 |nil=>rfl
 |cons b r y=>simp only[dg,ek,ae,al,aB]at*;omega
theorem xrU(l:d9):∀d∈dg l,d<=15:=by intro d hd;simp only[dg,List.mem_flatMap]at hd;obtain⟨b,_,y⟩:=hd;have:=b.toNat_lt;simp only[av,cG,or_false]at y;rcases y with rfl|rfl<;>simp only[hi4,lo4]<;>omega
theorem U6(l:d9)(s:Nat):l.foldl (fun s b=>s+((15-hi4 b)+(15-lo4 b))) s<=s+30*l.length:=by
 induction l generalizing s with
 |nil=>simp
 |cons b r y=>rw[ez,al];have:=y (s+((15-hi4 b)+(15-lo4 b)));omega
theorem nU(y:d9):(gW y).length=35:=by rw[gW,ae,CX,ej];rfl
theorem xaH(y:d9):∀d∈gW y,d<=15:=by
 intro d hd;rcases am.1 hd with h|h
 ·exact xrU _ d h
 ·have C:=U6 (h16 4 [y]) 0
  rw[ej]at C;have E:sm (h16 4 [y])<=480:=by unfold sm;omega
  simp only[av,cG,or_false]at h;rcases h with rfl|rfl|rfl<;>omega
theorem nV(y:d9)(c:Nat)(C:c<35):(gW y).getD c 0<=15:=by refine xaH y _ ?_;rw[aa,ac (by rw[nU];exact C),aM];exact bv _
def ub(n:Nat):UInt8:=cf (n:Int)
def Aq(y c p:Nat)(x:d9):d9:=h16 1 [[ub y,ub c,ub p],x]
def ir(y c:Nat):Nat->Nat->d9->d9
 |_,0,x=>x
 |p,n+1,x=>ir y c (p+1) n (Aq y c p x)
theorem yq(y c:Nat):∀(n m p:Nat)(x:d9),ir y c p (n+m) x=ir y c (p+n) m (ir y c p n x)
 |0,m,p,x=>by simp[ir]
 |n+1,m,p,x=>by rw[show n+1+m=(n+m)+1 from by omega];show ir y c (p+1) (n+m) _=_;rw[yq y c n m (p+1),show p+1+n=p+(n+1)from by omega];rfl
theorem fQ(y c:Nat):∀(n p:Nat)(x:d9),x.length=16->(ir y c p n x).length=16
 |0,_,_,h=>h
 |n+1,p,x,_=>fQ y c n (p+1) _ (ej _ _)
def xS:d9:=[99,104,97,105,110]
def oT(y:d9)(C c:Nat):d9:=UH y xS [ub C,ub c] 16
theorem jg(y:d9)(C c:Nat):(oT y C c).length=16:=zQ _ _ _ _ (by decide)
def cat(n:Nat)(f:Nat->d9):d9:=(bC n).flatMap f
theorem nW(n:Nat)(f:Nat->d9):cat (n+1) f=cat n f++f n:=by simp[cat,List.range_succ]
theorem mC(f:Nat->d9):∀n,(∀c,c<n->(f c).length=16)->(cat n f).length=16*n
 |0,_=>rfl
 |n+1,h=>by rw[nW,ae,mC f n (fun c y=>h c (by omega)),h n (by omega)];omega
theorem Gu(f:Nat->d9):∀n,(∀c,c<n->(f c).length=16)->∀c,c<n->((cat n f).drop (16*c)).take 16=f c
 |0,_,_,h=>absurd h (Nat.not_lt_zero _)
 |n+1,h,c,C=>by
  have y:=mC f n (fun c C=>h c (by omega));rw[nW]
  by_cases e:c<n
  ·rw[List.drop_append_of_le_length (by rw[y];omega),List.take_append_of_le_length (by rw[aE,y];omega)]
   exact Gu f n (fun c C=>h c (by omega)) c e
  ·have:c=n:=by omega
   subst this;rw[List.drop_append,y,sI,bj,bT (by rw[y];exact aK _),aF];exact aT (by rw[h c (by omega)];exact aK _)
theorem Ir(f g:Nat->d9)(n:Nat)(h:∀c,c<n->f c=g c):cat n f=cat n g:=by
 induction n with
 |zero=>rfl
 |succ n y=>rw[nW,nW,y (fun c C=>h c (by omega)),h n (by omega)]
def tW(C:Nat)(y:d9):d9:=h16 2 [[ub C],y]
def pubL(C:d9)(y:Nat):d9:=tW y (cat 35 fun c=>ir y c 0 15 (oT C y c))
def ud(C:d9)(y:Nat)(E:d9):d9:=cat 35 fun c=>ir y c 0 ((gW E).getD c 0) (oT C y c)
def mW(y:Nat)(C sig:d9):d9:=tW y (cat 35 fun c=>ir y c ((gW C).getD c 0) (15-(gW C).getD c 0) ((sig.drop (16*c)).take 16))
theorem eN(y:d9)(C:Nat):(pubL y C).length=16:=ej _ _
theorem nI(y:d9)(C:Nat)(E:d9):(ud y C E).length=560:=mC _ 35 fun c _=>fQ _ _ _ _ _ (jg _ _ _)
theorem Hz(E:d9)(y:Nat)(C:d9):mW y C (ud E y C)=pubL E y:=by
 unfold mW pubL
 congr 1
 refine Ir _ _ 35 fun c F=> ?_
 have h:=nV C c F;unfold ud;rw[Gu _ 35 (fun c _=>fQ _ _ _ _ _ (jg _ _ _)) c F];have:=yq y c ((gW C).getD c 0) (15-(gW C).getD c 0) 0 (oT E y c);rw[bY,show(gW C).getD c 0+(15-(gW C).getD c 0)=15 from by omega]at this;exact this.symm
def jB(h i:Nat)(a b:d9):d9:=h16 3 [[ub h,ub i],a,b]
def lk:Nat->Nat->List d9->d9->d9
 |_,_,[],x=>x
 |h,i,s::r,x=>lk (h+1) (i/2) r (if i % 2=1 then jB h (i/2) s x else jB h (i/2) x s)
theorem zX:∀(p:List d9)(h i:Nat)(x:d9),x.length=16->(lk h i p x).length=16
 |[],_,_,_,h=>h
 |s::r,h,i,x,_=>zX r (h+1) (i/2) _ (by split<;>exact ej _ _)
def xbn:d9:=[115,105,103,110,101,114]
def lsV(C:d9)(y:Nat):d9:=UH C xbn [ub y] 32
theorem mw(C:d9)(y:Nat):(lsV C y).length=32:=zQ _ _ _ _ (by decide)
def lvs(C:d9)(y n:Nat):List d9:=(bC n).map fun i=>pubL (lsV C y) i
def xwb:List d9->d9
 |[a,b]=>jB 0 0 a b
 |[a]=>a
 |_=> []
def jv(C:d9)(y:Nat):d9:=ub y::xwb (lvs C y (2^y))
def Zr(i:Nat):List d9->d9
 |[a,b]=>if i=0 then b else a
 |_=> []
def mJ(E:d9)(y C:Nat)(F:d9):d9:=ub C::(ud (lsV E y) C F++Zr C (lvs E y (2^y)))
def rws:Nat->d9->List d9
 |0,_=> []
 |n+1,l=>l.take 16::rws n (l.drop 16)
def gK(pub y sig:d9):Bool:=
 if pub.length=17/\(pub.getD 0 0).toNat<=3 then
  if sig.length=561+16*(pub.getD 0 0).toNat/\(sig.getD 0 0).toNat<2^(pub.getD 0 0).toNat then
   decide (lk 0 (sig.getD 0 0).toNat (rws (pub.getD 0 0).toNat (sig.drop 561)) (mW (sig.getD 0 0).toNat y ((sig.drop 1).take 560))=pub.drop 1)
  else false
 else false
theorem DW(y E:d9)(C:Nat)(h:C<2):gK (jv y 1) E (mJ y 1 C E)=true:=by
 have F:=nI (lsV y 1) C E;have I:lvs y 1 (2^1)=[pubL (lsV y 1) 0,pubL (lsV y 1) 1]:=rfl;have p0:=eN (lsV y 1) 0;have p1:=eN (lsV y 1) 1
 have Q:(ub C).toNat=C:=by rcases (by omega:C=0\/C=1)with rfl|rfl<;>rfl
 have L:(Zr C (lvs y 1 (2^1))).length=16:=by rw[I,Zr];split<;>assumption
 have O:(jv y 1).getD 0 0=1:=rfl;have W:(mJ y 1 C E).getD 0 0=ub C:=rfl;have T:(jv y 1).length=17:=by rw[jv,al,I];show(jB 0 0 _ _).length+1=17;rw[jB,ej]
 have e4:(mJ y 1 C E).length=577:=by rw[mJ,al,ae,F,L]
 have e5:((mJ y 1 C E).drop 1).take 560=ud (lsV y 1) C E:=by rw[mJ,List.drop_succ_cons,bj,List.take_append_of_le_length (by rw[F];exact aK _),aT (by rw[F];exact aK _)]
 have e6:rws 1 ((mJ y 1 C E).drop 561)=[Zr C (lvs y 1 (2^1))]:=by
  have:(mJ y 1 C E).drop 561=Zr C (lvs y 1 (2^1)):=by rw[mJ,List.drop_succ_cons,List.drop_append,F,bT (by rw[F];exact aK _),aF,sI,bj]
  rw[this,rws,rws,aT (by rw[L];exact aK _)]
 have Z:(1:UInt8).toNat=1:=rfl;unfold gK;rw[O,W,T,e4,Z,Q,e5,e6,Hz,if_pos ⟨rfl,by decide⟩,if_pos ⟨rfl,h⟩,I];rw[decide_eq_true_iff];have J:iH 1 (jv y 1)=jB 0 0 (pubL (lsV y 1) 0) (pubL (lsV y 1) 1):=by rw[jv,I];rfl
 rw[J];rcases (by omega:C=0\/C=1)with rfl|rfl
 ·rw[lk,lk];rfl
 ·rw[lk,lk];rfl
theorem xu4(v:Int)(F:0<=v)(I:v<4294967296):call T 167 [.int .i64 v] [] 0=some ⟨.byt (w4 v) (.id 60),[],[60]⟩:=by have C:min 24 64=24:=rfl;have y:min 16 64=16:=rfl;have E:min 8 64=8:=rfl;rw[aj xsk];simp only[go_sem,Q4,Q5,Qj,Qk,Ql,Qm,reduceCtorEq,reduceIte,w4,iJ,C,y,E]
def xr(c:UInt8)(L:d9)(i:Nat):d9:=(L.take i).map (· ^^^c)++L.drop i
theorem lC(c:UInt8)(K:d9):(oh c K).length=64:=by unfold oh;rw[aV,ij]
def mk(c:UInt8)(K:d9)(i:Nat):d9:=(oh c K).take i++aL (64-i) 0
theorem FX(c:UInt8)(K:d9):mk c K 0=aL 64 0:=by simp[mk]
theorem FY(c:UInt8)(K:d9):mk c K 64=oh c K:=by have:=lC c K;simp[mk,aT,this]
theorem Uq(c:UInt8)(K:d9)(i:Nat)(h:i<=64):(mk c K i).length=64:=by rw[mk,ae,an,lC,dG];omega
theorem Kv(c:UInt8)(K:d9)(i:Nat)(h:i<64):(oh c K)[i]? =some (K.getD i 0^^^c):=by unfold oh;rw[aU,cC h];rfl
theorem Up(c:UInt8)(K:d9)(i:Nat)(h:i<64):(mk c K i).set i (K.getD i 0^^^c)=mk c K (i+1):=by
 have y:((oh c K).take i).length=i:=by rw[an,lC];omega
 unfold mk;rw[List.set_append_right _ _ (by rw[y];exact aK _),y,sI,show 64-i=(64-(i+1))+1 from by omega,List.replicate_succ,List.set_cons_zero,List.take_add_one,Kv c K i h,ay];rfl
theorem xwQ(K M:d9)(hK:K.length<=64):∀(n i:Nat),64-i=n->i<=64->
 run T (.loop vE) ⟨[(0,.byt K .no),(1,.byt M .no),(5,.psl 114 1 0 64 (some 64)),(6,.psl 115 1 0 64 (some 64)),(7,.int .i64 i)],[(114,.bar (mk 54 K i)),(115,.bar (mk 92 K i))],[]⟩=
 some (.x 0,⟨[(1,.byt M .no),(5,.psl 114 1 0 64 (some 64)),(6,.psl 115 1 0 64 (some 64))],[(114,.bar (mk 54 K 64)),(115,.bar (mk 92 K 64))],[]⟩):=by
 intro n;induction n with
 |zero=>
  intro i O F;have hi:i=64:=by omega
  subst hi;rw[ai];simp only[c64,go_sem,Q6,Qj,Ql,Qm,reduceCtorEq,reduceIte]
 |succ n Q=>
  intro i O F;have y:=Q (i+1) (by omega) (by omega);have I:=cr i (by omega);have E:(i:Int)<64:=by omega
  have hn:i<64:=by omega
  have J:=Uq 54 K i F;have L:=Uq 92 K i F;rw[<-Up 54 K i hn,<-Up 92 K i hn]at y;rw[ai]
  by_cases W:i<K.length
  ·have C:(i:Int)<(K.length:Int):=by omega
   simp only[go_sem,Qj,Ql,Qm,reduceCtorEq,reduceIte,E,I,hn,C,J,L,y]
  ·have C:¬(i:Int)<(K.length:Int):=by omega
   have hz:K.getD i 0=0:=by rw[aa,ib (by omega)];rfl
   rw[hz]at y;simp only[go_sem,Qj,Ql,Qm,reduceCtorEq,reduceIte,E,I,hn,C,J,L,y]
theorem xxB(K B:d9)(h:K.length<=64)(Q:B.length<=1000000000):call T 168 [.byt K .no,.byt B .no] [] 0=some ⟨.byt (ZQ K B) .no,[],[]⟩:=by
 have g:=xwQ K B h 64 0 rfl (by omega);rw[FX,FX,FY,FY]at g;simp only[az]at g;have C:=lC 54 K;have E:=lC 92 K;have F:=f68 (oh 54 K++B) (by rw[ae];omega);have L:(sha (oh 54 K++B)).length=32:=iu _;have O:=f68 (oh 92 K++sha (oh 54 K++B)) (by rw[ae];omega);have y:¬(64:Int)<K.length:=by omega
 have c1:64+B.length<=140737488355328:=by omega
 have J:(oh 54 K).take 64=oh 54 K:=aT (by rw[C];exact aK _);have I:(oh 92 K).take 64=oh 92 K:=aT (by rw[E];exact aK _);rw[aj xsj];simp only[go_sem,Q4,Q5,Qd,Qe,Qf,Qg,Qj,Qk,Ql,Qm,reduceCtorEq,reduceIte,y,g,C,J,c1];simp only[go_sem,Qg,Qj,Qk,Ql,Qm,reduceIte,L,F,O,GJ,ZQ,E,I]
theorem xu9(K y C:d9)(n:Nat)(h1:1<=n)(W:n<=32)(hK:K.length<=64)(hl:y.length<=1000)(hc:C.length<=1000):
 call T 148 [.byt K .no,.str y,.byt C .no,.int .i64 n] [] 0=some ⟨.byt (UH K y C n) .no,[],[]⟩:=by
 have a1:¬(n:Int)<1:=by omega
 have a2:¬(1024:Int)<n:=by omega
 have a3:0<n:=by omega
 have a4:¬32<n:=by omega
 have e8:af.wrap (8*(n:Int))=8*(n:Int):=w64 (by omega) (by omega);have k2:af.wrap 2=2:=rfl;have Q:=xu4 (8*(n:Int)) (by omega) (by omega);have J:=xu4 1 (by omega) (by omega);have I:=xxB K (w4 1++(y++0::(C++w4 (8*(n:Int))))) hK (by simp[w4];omega);have F:=y7 K (w4 1++(y++0::(C++w4 (8*(n:Int)))));have E:∀x,(w4 x).length=4:=fun _=>rfl
 have c1:y.length<=140737488355327:=by omega
 have c2:y.length+1+C.length<=140737488355328:=by omega
 have c3:y.length+(C.length+1)+4<=140737488355328:=by omega
 have O:4+y.length<=140737488355328:=by omega
 have b2:4+y.length<=140737488355327:=by omega
 have Z:4+(y.length+1)+C.length<=140737488355328:=by omega
 have L:4+(y.length+(C.length+1))<=140737488355324:=by omega
 rw[aj xsx];simp only[go_sem,Qg,Qj,Qk,Ql,Qm,reduceCtorEq,reduceIte,a1,a2];rw[ai];simp only[go_sem,Qa,Qg,Qi,Qj,Qk,Ql,Qm,reduceCtorEq,reduceIte,a3,e8,Q,J,xtf,xte,I,E,O,b2,Z,L,k2];unfold UH;generalize ZQ K (w4 1++(y++0::(C++w4 (8*(n:Int)))))=X at*;have c6:X.length<=140737488355328:=by omega
 simp only[F];rw[ai];simp only[go_sem,Q4,Q5,Qj,Qk,Ql,Qm,reduceCtorEq,reduceIte,F,a4,W]
def bys(y:List d9):d8:=y.map fun X=> [.byt X .no]
theorem gN(y:List d9):(bys y).length=y.length:=by simp[bys]
theorem rj(y:List d9)(i:Nat)(h:i<y.length):(bys y).getD i []=[.byt (y.getD i []) .no]:=by simp[bys,aa,h]
theorem zt(y:List d9)(i:Nat)(h:i<y.length):frF (y.drop i)=w4 ((y.getD i []).length:Int)++(y.getD i []++frF (y.drop (i+1))):=by
 have:y.drop i=y.getD i []::y.drop (i+1):=by rw[bz h,aa,ac h,aM]
 rw[this];simp[frF]
theorem xw9(C:List d9)(hl:C.length<=100)(hb:∀i,i<C.length->(C.getD i []).length<=1000000000):∀(n i:Nat)(y:d9),C.length-i=n->i<=C.length->y.length+(frF (C.drop i)).length<=1000000000000->
 run T (.loop CP) ⟨[(5,.byt y (.id 105)),(12,.lst 1 (bys C) .no),(13,.int .i64 C.length),(14,.int .i64 i)],[],[105]⟩=
 some (.x 0,⟨[(5,.byt (y++frF (C.drop i)) (.id 105))],[],[105]⟩):=by
 intro n;induction n with
 |zero=>
  intro i y O h1 I;have hi:i=C.length:=by omega
  subst hi;rw[ai];simp only[go_sem,Qj,Ql,Qm,reduceIte,bK,frF,fS,bA]
 |succ n Z=>
  intro i y O h1 I;have hi:i<C.length:=by omega
  have L:(i:Int)<(C.length:Int):=by omega
  have W:=cr i (by omega);have hX:=hb i hi;have F:=Z (i+1) (y++(w4 ((C.getD i []).length:Int)++C.getD i []));rw[zt C i hi]at I ⊢;have Q:=rj C i hi;have J:=gN C;generalize hc:C.getD i []=X at*;simp only[ae,w4,al,aB]at I F;have E:=F (by omega) (by omega) (by omega);have c1:y.length+4<=140737488355328:=by omega
  have c2:y.length+4+X.length<=140737488355328:=by omega
  have c3:y.length+(4+X.length)<=140737488355328:=by omega
  have e2:dr.wrap (X.length:Int)=X.length:=by rw[IntKind.wrap_u32];omega
  simp only[ay,bp,aF,iJ]at E;rw[ai];simp only[go_sem,Q4,Q5,Qg,Qj,Qk,Ql,Qm,reduceCtorEq,reduceIte,L,Q,J,W,e2,c1,c2,m24,m16,m8,w4,iJ,ay,E]
theorem xrB(t:Int)(y:List d9)(F:y.length<=100)(E:∀i,i<y.length->(y.getD i []).length<=1000000000)(I:(frF y).length<=100000000000):
 call T 104 [.int .i64 t,.lst 1 (bys y) .no] [] 0=some ⟨.byt (frL t y) .no,[],[]⟩:=by
 have g:=xw9 y F E _ 0 [cf t] rfl (aY _) (by rw[bj,aG];omega);have C:=gN y;simp only[az,bj,eF]at g;rw[aj xir];simp only[go_sem,Qg,Qj,Qk,Ql,Qm,reduceCtorEq,reduceIte,C,g,frL]
theorem xw6(C:List d9)(hl:C.length<=100)(hb:∀i,i<C.length->(C.getD i []).length<=1000000000):∀(n i:Nat)(y:d9),C.length-i=n->i<=C.length->y.length+(frF (C.drop i)).length<=1000000000000->
 run T (.loop CJ) ⟨[(1,.lst 1 (bys C) .no),(5,.byt y (.id 105)),(6,.int .i64 i)],[],[105]⟩=
 some (.x 0,⟨[(5,.byt (y++frF (C.drop i)) (.id 105))],[],[105]⟩):=by
 intro n;induction n with
 |zero=>
  intro i y Z h1 O;have hi:i=C.length:=by omega
  have E:=gN C;subst hi;rw[ai];simp only[go_sem,Qj,Ql,Qm,reduceIte,E,bK,frF,fS,bA]
 |succ n ih=>
  intro i y Z h1 O;have hi:i<C.length:=by omega
  have W:(i:Int)<(C.length:Int):=by omega
  have e1:=cr i (by omega);have hX:=hb i hi;have L:=ih (i+1) (y++(w4 ((C.getD i []).length:Int)++C.getD i []));rw[zt C i hi]at O ⊢;have hg:=rj C i hi;have E:=gN C;generalize hc:C.getD i []=X at*;simp only[ae,w4,al,aB]at O L;have J:=L (by omega) (by omega) (by omega);have c1:y.length+4<=140737488355328:=by omega
  have c2:y.length+4+X.length<=140737488355328:=by omega
  have c3:y.length+(4+X.length)<=140737488355328:=by omega
  have F:min 24 64=24:=rfl;have I:min 16 64=16:=rfl;have Q:min 8 64=8:=rfl;simp only[ay,bp,aF,iJ]at J;rw[ai];simp only[go_sem,Q4,Q5,Qg,Qj,Qk,Ql,Qm,reduceCtorEq,reduceIte,W,hg,E,e1,c1,c2,F,I,Q,w4,iJ,ay,J]
theorem xrA(t:Int)(y:List d9)(E:y.length<=100)(C:∀i,i<y.length->(y.getD i []).length<=1000000000)(F:(frF y).length<=100000000000):
 call T 109 [.int .i64 t,.lst 1 (bys y) .no] [] 0=some ⟨.byt (frL t y) .no,[],[]⟩:=by
 have g:=xw6 y E C _ 0 [cf t] rfl (aY _) (by rw[bj,aG];omega);simp only[az,bj,eF]at g;rw[aj xiq];simp only[go_sem,Qg,Qj,Qk,Ql,Qm,reduceCtorEq,reduceIte,g,frL]
theorem xhZ(t:Int)(y:List d9)(I:y.length<=100)(C:∀i,i<y.length->(y.getD i []).length<=1000000000)(J:(frF y).length<=10000000000):
 call T 60 [.int .i64 t,.lst 1 (bys y) .no] [] 0=some ⟨.byt (hsh t y) .no,[],[]⟩:=by
 have F:=xrB t y I C (by omega);have E:=xve (frL t y) (by unfold frL;rw[al];omega);rw[aj xvr];simp only[go_sem,Qg,Qj,Qk,Ql,Qm,reduceCtorEq,reduceIte,F,E,xi6,xi7,hsh]
theorem xhY(t:Int)(y:List d9)(I:y.length<=100)(C:∀i,i<y.length->(y.getD i []).length<=1000000000)(J:(frF y).length<=10000000000):
 call T 65 [.int .i64 t,.lst 1 (bys y) .no] [] 0=some ⟨.byt (hsh t y) .no,[],[]⟩:=by
 have F:=xrA t y I C (by omega);have E:=f68 (frL t y) (by unfold frL;rw[al];omega);rw[aj xvq];simp only[go_sem,Qg,Qj,Qk,Ql,Qm,reduceCtorEq,reduceIte,F,E,xi5,GJ,hsh]
theorem xvk(A B:d9)(y:A.length<=1000000000)(C:B.length<=1000000000):∀i,i< [A,B].length->([A,B].getD i []).length<=1000000000:=fun i hi=>by
 match i,hi with
 |0,_=>exact y
 |1,_=>exact C
theorem xvj(A B C:d9)(y:A.length<=1000000000)(F:B.length<=1000000000)(E:C.length<=1000000000):∀i,i< [A,B,C].length->([A,B,C].getD i []).length<=1000000000:=fun i hi=>by
 match i,hi with
 |0,_=>exact y
 |1,_=>exact F
 |2,_=>exact E
theorem w8(x:Int):(w4 x).length=4:=rfl
theorem a183(t:Int)(A B:d9)(y:A.length<=1000000000)(C:B.length<=1000000000):call T 60 [.int .i64 t,.lst 1 [[.byt A .no],[.byt B .no]] .no] [] 0=some ⟨.byt (hsh t [A,B]) .no,[],[]⟩:=
 xhZ t [A,B] (by simp) (xvk A B y C) (by simp only[frF,ek,fS,ae,w8,aB];omega)
theorem xvl(t:Int)(A B:d9)(y:A.length<=1000000000)(C:B.length<=1000000000):call T 65 [.int .i64 t,.lst 1 [[.byt A .no],[.byt B .no]] .no] [] 0=some ⟨.byt (hsh t [A,B]) .no,[],[]⟩:=
 xhY t [A,B] (by simp) (xvk A B y C) (by simp only[frF,ek,fS,ae,w8,aB];omega)
theorem t183(t:Int)(A B C:d9)(y:A.length<=1000000000)(F:B.length<=1000000000)(E:C.length<=1000000000):call T 60 [.int .i64 t,.lst 1 [[.byt A .no],[.byt B .no],[.byt C .no]] .no] [] 0=some ⟨.byt (hsh t [A,B,C]) .no,[],[]⟩:=
 xhZ t [A,B,C] (by simp) (xvj A B C y F E) (by simp only[frF,ek,fS,ae,w8,aB];omega)
theorem xvU(t:Int)(A B C:d9)(y:A.length<=1000000000)(F:B.length<=1000000000)(E:C.length<=1000000000):call T 65 [.int .i64 t,.lst 1 [[.byt A .no],[.byt B .no],[.byt C .no]] .no] [] 0=some ⟨.byt (hsh t [A,B,C]) .no,[],[]⟩:=
 xhY t [A,B,C] (by simp) (xvj A B C y F E) (by simp only[frF,ek,fS,ae,w8,aB];omega)
theorem xxz(y:Nat)(h:y<=255):call T 170 [.int .i64 y] [] 0=some ⟨.bool true,[],[]⟩:=by
 have C:(0:Int)<=(y:Int):=by omega
 have E:(y:Int)<=255:=by omega
 rw[aj xsh];simp only[go_sem,Qj,Qk,Ql,Qm,reduceCtorEq,reduceIte,C,E]
theorem xxq(y c p:Nat)(x:d9)(E:x.length<=1000000):call T 196 [.int .i64 y,.int .i64 c,.int .i64 p,.byt x .no] [] 0=some ⟨.byt (Aq y c p x) .no,[],[]⟩:=by have g:=a183 1 [ub y,ub c,ub p] x (by simp) (by omega);have C:=i9 1 [[ub y,ub c,ub p],x];unfold ub at g C;rw[aj xr5];simp only[go_sem,Q4,Q5,Qg,Qj,Qk,Ql,Qm,reduceCtorEq,reduceIte,g,xa8,C,c32,Aq,h16,ub]
theorem xxw(y:Nat)(x:d9)(E:x.length<=1000000):call T 173 [.int .i64 y,.byt x .no] [] 0=some ⟨.byt (tW y x) .no,[],[]⟩:=by have g:=a183 2 [ub y] x (by simp) (by omega);have C:=i9 2 [[ub y],x];unfold ub at g C;rw[aj xse];simp only[go_sem,Q4,Q5,Qg,Qj,Qk,Ql,Qm,reduceCtorEq,reduceIte,g,xa8,C,c32,tW,h16,ub]
theorem xu7(y:Nat)(x:d9)(E:x.length<=1000000):call T 151 [.int .i64 y,.byt x .no] [] 0=some ⟨.byt (tW y x) .no,[],[]⟩:=by have g:=xvl 2 [ub y] x (by simp) (by omega);have C:=i9 2 [[ub y],x];unfold ub at g C;rw[aj xsu];simp only[go_sem,Q4,Q5,Q7,Qg,Qj,Qk,Ql,Qm,reduceCtorEq,reduceIte,g,xa6,C,c32,tW,h16,ub]
theorem xu8(y:d9)(C c:Nat)(E:y.length<=64):call T 150 [.byt y .no,.int .i64 C,.int .i64 c] [] 0=some ⟨.byt (oT y C c) .no,[],[]⟩:=by have g:=xu9 y xS [ub C,ub c] 16 (by decide) (by decide) E (by decide) (by simp);unfold xS ub at g;rw[c16]at g;rw[aj xsv];simp only[go_sem,Qg,Qj,Qk,Ql,Qm,reduceCtorEq,reduceIte,g,xiV,oT,xS,ub]
theorem xwV(y c E:Nat)(Z:E<=15):∀(n p:Nat)(x:d9),p+n=E->x.length<=1000000->
 run T (.loop Cu) ⟨[(0,.int .i64 y),(1,.int .i64 c),(3,.int .i64 E),(4,.byt x .no),(11,.int .i64 p)],[],[]⟩=
 some (.x 0,⟨[(4,.byt (ir y c p n x) .no)],[],[]⟩):=by
 intro n;induction n with
 |zero=>
  intro p x J W;have L:p=E:=by omega
  subst L;rw[ai];simp only[go_sem,Qj,Ql,Qm,reduceCtorEq,reduceIte,ir]
 |succ n Q=>
  intro p x J W;have C:=Q (p+1) (Aq y c p x) (by omega) (by rw[Aq,ej];omega);have F:(p:Int)<(E:Int):=by omega
  have O:=cr p (by omega);have g:=xvl 1 [ub y,ub c,ub p] x (by simp) (by omega);have I:=i9 1 [[ub y,ub c,ub p],x];unfold Aq h16 at C;unfold ub at g I C;rw[ai];simp only[go_sem,Q4,Q5,Q7,Qj,Ql,Qm,reduceCtorEq,reduceIte,F,O,g,xa6,I,c32,C,ir,Aq,h16,ub]
theorem xoi(y c p n C:Nat)(x:d9)(h:p+n=C)(E:C<=15)(F:x.length<=1000000):
 call T 149 [.int .i64 y,.int .i64 c,.int .i64 p,.int .i64 C,.byt x .no] [] 0=some ⟨.byt (ir y c p n x) .no,[],[]⟩:=by
 have g:=xwV y c C E n p x h F;rw[aj xsw];simp only[go_sem,Qg,Qj,Qk,Ql,Qm,reduceCtorEq,reduceIte,g]
def dgs(l:t8):d8:=l.map fun(d:Nat)=> [.int .i64 (d:Int)]
theorem kP(l:t8):(dgs l).length=l.length:=by simp[dgs]
theorem wj(l:t8)(i:Nat)(h:i<l.length):(dgs l).getD i []=[.int .i64 ((l.getD i 0:Nat):Int)]:=by simp[dgs,aa,h]
theorem Gn(a b:t8):dgs (a++b)=dgs a++dgs b:=by simp[dgs]
theorem UB(b:UInt8):(ip (b.toNat/2^min 4 8)).toNat=hi4 b:=by
 have e:(2:Nat)^min 4 8=16:=by decide
 have:=b.toNat_lt;unfold hi4;rw[e,UInt8.toNat_ofNat',ct (by omega)]
theorem Uu(b:UInt8):(b&&&15).toNat=lo4 b:=by unfold lo4;rw[UInt8.toNat_and];exact Nat.and_two_pow_sub_one_eq_mod b.toNat 4
theorem Gp(M:d9)(i:Nat)(h:i<M.length):dg (M.drop i)=hi4 (M.getD i 0)::lo4 (M.getD i 0)::dg (M.drop (i+1)):=by rw[dz M i h];rfl
def smF(s:Nat)(l:d9):Nat:=l.foldl (fun s b=>s+((15-hi4 b)+(15-lo4 b))) s
theorem yx(s:Nat)(M:d9)(i:Nat)(h:i<M.length):smF s (M.drop i)=smF (s+((15-hi4 (M.getD i 0))+(15-lo4 (M.getD i 0)))) (M.drop (i+1)):=by rw[dz M i h];rfl
theorem UA(b:UInt8):hi4 b<=15:=by have:=b.toNat_lt;unfold hi4;omega
theorem Ut(b:UInt8):lo4 b<=15:=by unfold lo4;omega
theorem xwO(M:d9)(hM:M.length=16):∀(n i:Nat)(C:t8)(s:Nat),16-i=n->i<=16->C.length=2*i->s<=30*i->
 run T (.loop vB) ⟨[(3,.lst 1 (dgs C) (.id 103)),(4,.int .i64 s),(12,.byt M .no),(13,.int .i64 16),(14,.int .i64 i)],[],[103]⟩=
 some (.x 0,⟨[(3,.lst 1 (dgs (C++dg (M.drop i))) (.id 103)),(4,.int .i64 (smF s (M.drop i)))],[],[103]⟩):=by
 intro n;induction n with
 |zero=>
  intro i C s J h1 W hs;have hi:i=16:=by omega
  subst hi;have hd:M.drop 16=[]:=bT (by omega);rw[hd,ai];simp only[c16,go_sem,Q6,Qj,Ql,Qm,reduceIte,dg,smF,fS,bA,iP]
 |succ n Q=>
  intro i C s J h1 W hs;have hi:i<16:=by omega
  have I:(i:Int)<16:=by omega
  have L:=cr i (by omega);have hh:=UA (M.getD i 0);have hl:=Ut (M.getD i 0);have F:=Q (i+1) (C++ [hi4 (M.getD i 0)]++ [lo4 (M.getD i 0)]) (s+((15-hi4 (M.getD i 0))+(15-lo4 (M.getD i 0)))) (by omega) (by omega) (by simp;omega) (by omega);have a1:=UB (M.getD i 0);have a2:=Uu (M.getD i 0);rw[Gp M i (by omega),yx s M i (by omega)];generalize hc:M.getD i 0=z at*;generalize hi4 z=x at*;generalize lo4 z=y at*;have E:=kP C;have w1:af.wrap (15-(x:Int))=((15-x:Nat):Int):=wZ (by omega)
  have O:af.wrap (15-(y:Int))=((15-y:Nat):Int):=wZ (by omega)
  have Z:af.wrap ((s:Int)+((15-x:Nat):Int))=((s+(15-x):Nat):Int):=wZ (by omega)
  have w5:af.wrap (((s+(15-x):Nat):Int)+((15-y:Nat):Int))=((s+((15-x)+(15-y)):Nat):Int):=wZ (by omega)
  have k1:af.wrap 1=1:=rfl;have k2:af.wrap 2=2:=rfl;have c1:(C.length+1)*8<=140737488355328:=by omega
  have c2:(C.length+1+1)*8<=140737488355328:=by omega
  simp only[dgs,co,aI,bO,ay,bp,aF]at F E ⊢;rw[ai];simp only[go_sem,Q4,Q5,Qg,Qj,Qk,Ql,Qm,reduceIte,hi,I,hM,hc,a1,a2];rw[ai];simp+decide only[go_sem,Q4,Qa,Qg,Qi,Qj,Ql,Qm,reduceIte,w1,Z,k1,c1,E];rw[ai];simp+decide only[go_sem,Q4,Qa,Qg,Qi,Qj,Ql,Qm,reduceIte,O,w5,k2,c2,E];rw[ai];simp+decide only[go_sem,Qg,Qj,Ql,Qm,reduceIte,L,F]
theorem xxy(y:d9)(hm:y.length<=100000000):call T 171 [.byt y .no] [] 0=some ⟨.lst 1 (dgs (gW y)) .no,[],[]⟩:=by
 have L:=f60 4 y (by omega);rw[<-Gd]at L;have E:=ej 4 [y];have hh:=i9 4 [y];have I:((32:Nat):Int)=32:=rfl;have J:=xwO (h16 4 [y]) E 16 0 [] 0 rfl (by omega) rfl (by omega);have Q:=U6 (h16 4 [y]) 0;have es:smF 0 (h16 4 [y])=sm (h16 4 [y]):=rfl;rw[E]at Q;change sm (h16 4 [y])<=0+30*16 at Q;have C:=CX (h16 4 [y]);rw[E]at C;have a1:=kP (dg (h16 4 [y]));unfold gW;have e0:dgs []=[]:=rfl;simp only[az,bj,aF,es,Gn,e0]at J ⊢;have hu:(hsh 4 [y]).take 16=h16 4 [y]:=rfl;generalize W:sm (h16 4 [y])=q at*;generalize dg (h16 4 [y])=ds at*
 have Z:(q:Int).fdiv (2^min 8 64)=((q/256:Nat):Int):=by rw[show(2:Int)^min 8 64=256 from by decide,je _ (by decide)];omega
 have q2:(q:Int).fdiv (2^min 4 64)=((q/16:Nat):Int):=by rw[show(2:Int)^min 4 64=16 from by decide,je _ (by decide)];omega
 have O:∀r:Nat,r<1000->cx .and .i64 (r:Int) 15=((r % 16:Nat):Int):=fun r hr=>by
  have e1:(BitVec.ofNat 64 r&&&BitVec.ofNat 64 15).toNat=r % 16:=by rw[BitVec.toNat_and,BitVec.toNat_ofNat,BitVec.toNat_ofNat,ct (by omega)];exact Nat.and_two_pow_sub_one_eq_mod r 4
  unfold cx;rw[show(15:Int)=((15:Nat):Int)from rfl];simp only[BitVec.ofInt_natCast];show af.wrap (((BitVec.ofNat 64 r&&&BitVec.ofNat 64 15).toNat:Nat):Int)=_;rw[e1];exact w64 (by omega) (by omega)
 have q4:=O q (by omega);have q5:=O (q/16) (by omega);have c3:(2*16+3)*8<=140737488355328:=by decide
 have F:((16:Nat):Int)=16:=rfl;rw[aj xsg];simp only[go_sem,Q4,Q5,Q7,Qg,Qj,Qk,Ql,Qm,reduceCtorEq,reduceIte,L,xa8,hh,I,hu,E,F,J];simp only[go_sem,Qg,Qi,reduceIte,Z,q2,q4,q5,C,c3,dgs,aI,bO]
 trace_state
def wq(c:Nat)(f:Nat->d9):d9:=((bC 35).drop c).flatMap f
theorem l9(f:Nat->d9):wq 0 f=cat 35 f:=by unfold wq cat;rw[bj]
theorem nX(f:Nat->d9):wq 35 f=[]:=by unfold wq;rw[bT (by rw[ij];exact aK _)];rfl
theorem ma(c:Nat)(h:c<35)(f:Nat->d9):wq c f=f c++wq (c+1) f:=by unfold wq;rw[bz (by rw[ij];exact h),List.getElem_range,ek]
theorem xxu(c:Int):call T 176 [.int .i64 c] [] 0=some ⟨.int .i64 15,[],[]⟩:=by rw[aj xsb];simp only[go_sem,Qk,reduceIte]
theorem xxv(D:t8)(c:Nat)(h:c<D.length):call T 175 [.int .i64 c,.ptr 0 0] [.rc [.lst 1 (dgs D) .no]] 0=some ⟨.int .i64 ((D.getD c 0:Nat):Int),[(0,.rc [.lst 1 (dgs D) .no])],[]⟩:=by have y:=kP D;have C:=wj D c h;rw[aj xsc];simp only[go_sem,Qg,Qj,Qk,Ql,Qm,reduceCtorEq,reduceIte,y,h,C]
theorem xxx(g:d9)(c:Nat)(h:c<35)(E:g.length=560):call T 172 [.int .i64 c,.ptr 0 0] [.rc [.byt g .no]] 0=some ⟨.byt ((g.drop (16*c)).take 16) .no,[(0,.rc [.byt g .no])],[]⟩:=by
 have C:af.wrap ((c:Int)*16)=((16*c:Nat):Int):=wZ (by omega)
 have F:=cr c (by omega);have L:af.wrap (((c+1:Nat):Int)*16)=((16*c+16:Nat):Int):=wZ (by omega)
 have I:16*c<=16*c+16:=by omega
 have y:16*c+16<=560:=by omega
 have J:(g.take (16*c+16)).drop (16*c)=(g.drop (16*c)).take 16:=by rw[fW];congr 1;omega
 rw[aj xsf];simp only[go_sem,Qg,Qj,Qk,Ql,Qm,reduceCtorEq,reduceIte,F,C,L,E,I,y,J]
theorem xrk(y c:Nat)(g:d9)(D:t8)(hs:g.length=560)(hD:D.length=35)(hd:∀c,c<35->D.getD c 0<=15)(hc:c<35)(C:d9):∀(n p:Nat)(x:d9),p+n=15->x.length<=1000000->
 run T (.loop vz) ⟨[(0,.int .i64 y),(1,.fn 172 [] [.ptr 0 0]),(2,.fn 175 [] [.ptr 1 0]),(3,.fn 176 [] []),(9,.byt C (.id 109)),(10,.int .i64 c),(11,.byt x .no),(12,.int .i64 p),(13,.int .i64 c)],[(0,.rc [.byt g .no]),(1,.rc [.lst 1 (dgs D) .no])],[109]⟩=
 some (.x 2,⟨[(0,.int .i64 y),(1,.fn 172 [] [.ptr 0 0]),(2,.fn 175 [] [.ptr 1 0]),(3,.fn 176 [] []),(9,.byt C (.id 109)),(11,.byt (ir y c p n x) .no),(13,.int .i64 c)],[(0,.rc [.byt g .no]),(1,.rc [.lst 1 (dgs D) .no])],[109]⟩):=by
 have J:=xxu c;intro n;induction n with
 |zero=>
  intro p x O L;have Q:p=15:=by omega
  have E:((15:Nat):Int)=15:=rfl;rw[ai];simp only[Q,E,go_sem,Q6,Qj,Ql,Qm,reduceCtorEq,reduceIte,J,xiJ,ir]
 |succ n Z=>
  intro p x O L;have I:=Z (p+1) (Aq y c p x) (by omega) (by rw[Aq,ej];omega);have F:(p:Int)<15:=by omega
  have a2:=hd c hc;have a1:c<D.length:=by omega
  have W:=cr p (by omega);have g:=xxq y c p x L;rw[ai];simp only[go_sem,Qj,Ql,Qm,reduceCtorEq,reduceIte,J,xiJ,F,W,g,xs6,I,ir]
theorem xrg(E:Nat)(g:d9)(D:t8)(W:g.length=560)(hD:D.length=35)(hd:∀c,c<35->D.getD c 0<=15)(F:Nat->d9)(hF:∀c,c<35->F c=ir E c (D.getD c 0) (15-D.getD c 0) ((g.drop (16*c)).take 16)):∀(n c:Nat)(C:d9),35-c=n->c<=35->C.length=16*c->
 run T (.loop qh) ⟨[(0,.int .i64 E),(1,.fn 172 [] [.ptr 0 0]),(2,.fn 175 [] [.ptr 1 0]),(3,.fn 176 [] []),(9,.byt C (.id 109)),(13,.int .i64 c)],[(0,.rc [.byt g .no]),(1,.rc [.lst 1 (dgs D) .no])],[109]⟩=
 some (.x 0,⟨[(9,.byt (C++wq c F) (.id 109))],[(0,.rc [.byt g .no]),(1,.rc [.lst 1 (dgs D) .no])],[109]⟩):=by
 intro n;induction n with
 |zero=>
  intro c C Z h1 ha;have hi:c=35:=by omega
  subst hi;rw[nX,ai];simp only[c35,go_sem,Q6,Qj,Ql,Qm,reduceCtorEq,reduceIte,bA]
 |succ n ih=>
  intro c C Z h1 ha;have I:c<35:=by omega
  have Q:(c:Int)<35:=by omega
  have e1:=cr c (by omega);have a1:=hd c I;have a2:c<D.length:=by omega
  have L:=fQ E c (15-D.getD c 0) (D.getD c 0) ((g.drop (16*c)).take 16) (by rw[an,aE];omega);rw[<-hF c I]at L;have J:=ih (c+1) (C++F c) (by omega) (by omega) (by rw[ae,L];omega);have O:=xrk E c g D W hD hd I C (15-D.getD c 0) (D.getD c 0) ((g.drop (16*c)).take 16) (by omega) (by have hq:((g.drop (16*c)).take 16).length=16:=(by rw[an,aE];omega);omega);have gs:=xxx g c I W;have gf:=xxv D c (by omega);rw[<-hF c I]at O;rw[ma c I];rw[ay]at J;generalize a6:F c=y at*;have c1:C.length+y.length<=140737488355328:=by omega
  try simp only[az]at O
  rw[ai];simp only[go_sem,Qg,Qi,Qj,Qk,Ql,Qm,reduceCtorEq,reduceIte,Q,e1,gs,gf,xtb,xs8,O,c1,J]
theorem xrz(y:Nat)(g:d9)(D:t8)(X:d9)(C:run T (.loop qh) ⟨[(0,.int .i64 y),(1,.fn 172 [] [.ptr 0 0]),(2,.fn 175 [] [.ptr 1 0]),(3,.fn 176 [] []),(9,.byt [] (.id 109)),(13,.int .i64 0)],[(0,.rc [.byt g .no]),(1,.rc [.lst 1 (dgs D) .no])],[109]⟩=some (.x 0,⟨[(9,.byt X (.id 109))],[(0,.rc [.byt g .no]),(1,.rc [.lst 1 (dgs D) .no])],[109]⟩)):
 call T 174 [.int .i64 y,.fn 172 [] [.ptr 0 0],.fn 175 [] [.ptr 1 0],.fn 176 [] []] [.rc [.byt g .no],.rc [.lst 1 (dgs D) .no]] 0=some ⟨.byt X .no,[(0,.rc [.byt g .no]),(1,.rc [.lst 1 (dgs D) .no])],[]⟩:=by
 rw[aj xsd];simp only[go_sem,Qg,Qj,Qk,Ql,Qm,reduceCtorEq,reduceIte,C]
theorem xrE(y:Nat)(g:d9)(D:t8)(I:g.length=560)(E:D.length=35)(hd:∀c,c<35->D.getD c 0<=15)(F:Nat->d9)(hF:∀c,c<35->F c=ir y c (D.getD c 0) (15-D.getD c 0) ((g.drop (16*c)).take 16)):call T 174 [.int .i64 y,.fn 172 [] [.ptr 0 0],.fn 175 [] [.ptr 1 0],.fn 176 [] []] [.rc [.byt g .no],.rc [.lst 1 (dgs D) .no]] 0=
 some ⟨.byt (cat 35 F) .no,[(0,.rc [.byt g .no]),(1,.rc [.lst 1 (dgs D) .no])],[]⟩:=by
 have C:=xrg y g D I E hd F hF 35 0 [] rfl (by omega) rfl;rw[l9]at C;exact xrz y g D (cat 35 F) C
theorem xxG(y:Nat)(C g:d9)(Z:y<=255)(I:g.length=560)(O:C.length<=100000000):call T 154 [.int .i64 y,.byt C .no,.byt g .no] [] 0=some ⟨.tup [.byt (mW y C g) .no,.bool true],[],[]⟩:=by
 have Q:=xxz y Z;have L:=xxy C O;have J:=xrE y g (gW C) I (nU C) (nV C) (fun c=>ir y c ((gW C).getD c 0) (15-(gW C).getD c 0) ((g.drop (16*c)).take 16)) (fun c _=>rfl);have F:=mC (fun c=>ir y c ((gW C).getD c 0) (15-(gW C).getD c 0) ((g.drop (16*c)).take 16)) 35 (fun c F=>fQ _ _ _ _ _ (by rw[an,aE];omega));have W:=xxw y _ (show(cat 35 fun c=>ir y c ((gW C).getD c 0) (15-(gW C).getD c 0) ((g.drop (16*c)).take 16)).length<=1000000 by rw[F];decide);have E:((560:Nat):Int)=560:=rfl;unfold mW;generalize (cat 35 fun c=>ir y c ((gW C).getD c 0) (15-(gW C).getD c 0) ((g.drop (16*c)).take 16))=X at*;generalize tW y X=Y at*;rw[aj xss];simp only[go_sem,Qg,Qi,Qj,Qk,Ql,Qm,reduceCtorEq,reduceIte,Q,L,I,E,J,W,xtd,xtc,xs9,xta]
 trace_state
theorem xwR(M:d9)(hM:M.length=16):∀(n i:Nat)(y:t8)(s:Nat),16-i=n->i<=16->y.length=2*i->s<=30*i->
 run T (.loop Cn) ⟨[(3,.byt M .no),(4,.lst 1 (dgs y) (.id 104)),(5,.int .i64 s),(6,.int .i64 i)],[],[104]⟩=
 some (.x 0,⟨[(4,.lst 1 (dgs (y++dg (M.drop i))) (.id 104)),(5,.int .i64 (smF s (M.drop i)))],[],[104]⟩):=by
 intro n;induction n with
 |zero=>
  intro i y s O h1 ha hs;have hi:i=16:=by omega
  subst hi;have hd:M.drop 16=[]:=bT (by omega);rw[hd,ai];simp only[c16,go_sem,Q6,Qj,Ql,Qm,reduceIte,dg,smF,fS,bA,iP]
 |succ n Z=>
  intro i y s O h1 ha hs;have hi:i<16:=by omega
  have J:(i:Int)<16:=by omega
  have Q:=cr i (by omega);have hh:=UA (M.getD i 0);have hl:=Ut (M.getD i 0);have C:=Z (i+1) (y++ [hi4 (M.getD i 0),lo4 (M.getD i 0)]) (s+((15-hi4 (M.getD i 0))+(15-lo4 (M.getD i 0)))) (by omega) (by omega) (by simp;omega) (by omega);have a1:=UB (M.getD i 0);have a2:=Uu (M.getD i 0);have L:=Gp M i (by omega);have I:=yx s M i (by omega);generalize hc:M.getD i 0=z at*;have E:=kP y;have w1:af.wrap (30-((hi4 z:Nat):Int))=((30-hi4 z:Nat):Int):=wZ (by omega)
  have W:af.wrap (((30-hi4 z:Nat):Int)-((lo4 z:Nat):Int))=(((15-hi4 z)+(15-lo4 z):Nat):Int):=wZ (by omega)
  have w3:af.wrap ((s:Int)+(((15-hi4 z)+(15-lo4 z):Nat):Int))=((s+((15-hi4 z)+(15-lo4 z)):Nat):Int):=wZ (by omega)
  have c1:(y.length+2)*8<=140737488355328:=by omega
  have F:y++dg (M.drop i)=y++ [hi4 z,lo4 z]++dg (M.drop (i+1)):=by rw[L,ay];rfl
  rw[F,I];simp only[dgs,co,aI,bO,ay,bp,aF]at C E ⊢;rw[ai];simp only[go_sem,Q4,Q5,Qd,Qe,Qf,Qg,Qj,Qk,Ql,Qm,reduceIte,hi,J,hM,hc,Q,a1,a2,w1,W,w3,c1,E,C]
theorem xu5(y:d9)(hm:y.length<=100000000):call T 166 [.byt y .no] [] 0=some ⟨.lst 1 (dgs (gW y)) .no,[],[]⟩:=by
 have J:=f65 4 y (by omega);rw[<-Gd]at J;have E:=ej 4 [y];have W:=i9 4 [y];have F:((32:Nat):Int)=32:=rfl;have I:=xwR (h16 4 [y]) E 16 0 [] 0 rfl (by omega) rfl (by omega);have L:=U6 (h16 4 [y]) 0;have es:smF 0 (h16 4 [y])=sm (h16 4 [y]):=rfl;rw[E]at L;change sm (h16 4 [y])<=0+30*16 at L;have C:=CX (h16 4 [y]);rw[E]at C;have a2:=kP (dg (h16 4 [y]));unfold gW;have e0:dgs []=[]:=rfl;simp only[az,bj,aF,es,Gn,e0]at I ⊢;have hu:(hsh 4 [y]).take 16=h16 4 [y]:=rfl;generalize O:sm (h16 4 [y])=q at*;generalize dg (h16 4 [y])=ds at*
 have Q:af.wrap ((q:Int).tdiv 256)=((q/256:Nat):Int):=by rw[Int.tdiv_eq_ediv_of_nonneg (by omega),w64 (by omega) (by omega)];omega
 have Z:af.wrap ((q:Int).tdiv 16)=((q/16:Nat):Int):=by rw[Int.tdiv_eq_ediv_of_nonneg (by omega),w64 (by omega) (by omega)];omega
 have q3:((q/16:Nat):Int).tmod 16=((q/16 % 16:Nat):Int):=by rw[fq (by omega)];omega
 have q4:(q:Int).tmod 16=((q % 16:Nat):Int):=by rw[fq (by omega)];omega
 have c3:(2*16+3)*8<=140737488355328:=by decide
 have a1:((16:Nat):Int)=16:=rfl;rw[aj xsl];simp only[go_sem,Q4,Q5,Q7,Qg,Qj,Qk,Ql,Qm,reduceCtorEq,reduceIte,J,xa6,W,F,hu,I];simp only[go_sem,Qg,Qi,reduceIte,Q,Z,q3,q4,C,c3,dgs,aI,bO]
 trace_state
theorem xw5(E:d9)(C:Nat)(hs:E.length<=64)(F:Nat->d9)(hF:∀c,c<35->F c=ir C c 0 15 (oT E C c)):∀(n c:Nat)(I:d9),35-c=n->c<=35->I.length=16*c->
 run T (.loop xG) ⟨[(0,.byt E .no),(1,.int .i64 C),(5,.byt I (.id 105)),(6,.int .i64 c)],[],[105]⟩=
 some (.x 0,⟨[(1,.int .i64 C),(5,.byt (I++wq c F) (.id 105))],[],[105]⟩):=by
 intro n;induction n with
 |zero=>
  intro c I Z h1 ha;have hi:c=35:=by omega
  subst hi;rw[nX,ai];simp only[c35,go_sem,Q6,Qj,Ql,Qm,reduceCtorEq,reduceIte,bA]
 |succ n ih=>
  intro c I Z h1 ha;have W:c<35:=by omega
  have Q:(c:Int)<35:=by omega
  have e1:=cr c (by omega);have L:=fQ C c 15 0 (oT E C c) (jg E C c);have gs:=xu8 E C c hs;have O:=xoi C c 0 15 15 (oT E C c) rfl (by omega) (by rw[jg];decide);rw[<-hF c W]at L O;rw[c0,c15]at O;have J:=ih (c+1) (I++F c) (by omega) (by omega) (by rw[ae,L];omega);rw[ma c W];rw[ay]at J;generalize a1:F c=y at*;have c1:I.length+y.length<=140737488355328:=by omega
  rw[ai];simp only[go_sem,Qg,Qj,Qk,Ql,Qm,reduceCtorEq,reduceIte,Q,e1,gs,O,xiU,X8,c1,J]
theorem xxf(C X Y:d9)(y:Nat)(L:y<=255)(J:run T (.loop xG) ⟨[(0,.byt C .no),(1,.int .i64 y),(5,.byt [] (.id 105)),(6,.int .i64 0)],[],[105]⟩=some (.x 0,⟨[(1,.int .i64 y),(5,.byt X (.id 105))],[],[105]⟩))
 (F:call T 151 [.int .i64 y,.byt X .no] [] 0=some ⟨.byt Y .no,[],[]⟩):call T 114 [.byt C .no,.int .i64 y] [] 0=some ⟨.byt Y .no,[],[]⟩:=by
 have I:¬(y:Int)<0:=by omega
 have E:¬(255:Int)<y:=by omega
 rw[aj xsV];simp only[go_sem,Qg,Qj,Qk,Ql,Qm,reduceCtorEq,reduceIte,I,E,J,F,xiT]
theorem xxd(C:d9)(y:Nat)(L:C.length<=64)(J:y<=255)(F:Nat->d9)(hF:∀c,c<35->F c=ir y c 0 15 (oT C y c)):call T 114 [.byt C .no,.int .i64 y] [] 0=some ⟨.byt (tW y (cat 35 F)) .no,[],[]⟩:=by have I:=xw5 C y L F hF 35 0 [] rfl (by omega) rfl;have E:=mC F 35 (fun c E=>by rw[hF c E];exact fQ _ _ _ _ _ (jg _ _ _));rw[l9]at I;exact xxf C (cat 35 F) _ y J I (xu7 y (cat 35 F) (by rw[E];decide))
theorem xom(C:d9)(y:Nat)(E:C.length<=64)(F:y<=255):call T 114 [.byt C .no,.int .i64 y] [] 0=some ⟨.byt (pubL C y) .no,[],[]⟩:=
 xxd C y E F (fun c=>ir y c 0 15 (oT C y c)) (fun c _=>rfl)
theorem xwW(E:d9)(C:Nat)(D:t8)(hs:E.length<=64)(hD:D.length=35)(hd:∀c,c<35->D.getD c 0<=15)(F:Nat->d9)(hF:∀c,c<35->F c=ir C c 0 (D.getD c 0) (oT E C c)):∀(n c:Nat)(I:d9),35-c=n->c<=35->I.length=16*c->
 run T (.loop xC) ⟨[(0,.byt E .no),(1,.int .i64 C),(7,.lst 1 (dgs D) .no),(8,.byt I (.id 108)),(9,.int .i64 c)],[],[108]⟩=
 some (.x 0,⟨[(8,.byt (I++wq c F) (.id 108))],[],[108]⟩):=by
 intro n;induction n with
 |zero=>
  intro c I h0 h1 ha;have hi:c=35:=by omega
  subst hi;rw[nX,ai];simp only[c35,go_sem,Q6,Qj,Ql,Qm,reduceCtorEq,reduceIte,bA]
 |succ n ih=>
  intro c I h0 h1 ha;have O:c<35:=by omega
  have Z:(c:Int)<35:=by omega
  have e1:=cr c (by omega);have a1:=kP D;have Q:=wj D c (by omega);have L:=fQ C c (D.getD c 0) 0 (oT E C c) (jg E C c);have gs:=xu8 E C c hs;have W:=xoi C c 0 (D.getD c 0) (D.getD c 0) (oT E C c) (bY _) (hd c O) (by rw[jg];decide);rw[<-hF c O]at L W;rw[c0]at W;have J:=ih (c+1) (I++F c) (by omega) (by omega) (by rw[ae,L];omega);rw[ma c O];rw[ay]at J;generalize a2:F c=y at*;have c1:I.length+y.length<=140737488355328:=by omega
  rw[ai];simp only[go_sem,Qd,Qe,Qf,Qg,Qj,Qk,Ql,Qm,reduceCtorEq,reduceIte,Z,O,a1,hD,Q,e1,gs,W,xiU,X8,c1,J]
theorem h91(C E X:d9)(D:t8)(y:Nat)(O:y<=255)(F:call T 166 [.byt E .no] [] 0=some ⟨.lst 1 (dgs D) .no,[],[]⟩)(L:run T (.loop xC) ⟨[(0,.byt C .no),(1,.int .i64 y),(7,.lst 1 (dgs D) .no),(8,.byt [] (.id 108)),(9,.int .i64 0)],[],[108]⟩=some (.x 0,⟨[(8,.byt X (.id 108))],[],[108]⟩)):
 call T 145 [.byt C .no,.int .i64 y,.byt E .no] [] 0=some ⟨.byt X .no,[],[]⟩:=by
 have J:¬(y:Int)<0:=by omega
 have I:¬(255:Int)<y:=by omega
 rw[aj xsz];simp only[go_sem,Qg,Qj,Qk,Ql,Qm,reduceCtorEq,reduceIte,J,I,L,F,xiL]
theorem k91(E:d9)(y:Nat)(C:d9)(O:E.length<=64)(L:y<=255)(J:C.length<=100000000)(F:Nat->d9)(hF:∀c,c<35->F c=ir y c 0 ((gW C).getD c 0) (oT E y c)):
 call T 145 [.byt E .no,.int .i64 y,.byt C .no] [] 0=some ⟨.byt (cat 35 F) .no,[],[]⟩:=by
 have I:=xwW E y (gW C) O (nU C) (nV C) F hF 35 0 [] rfl (by omega) rfl;rw[l9]at I;exact h91 E C (cat 35 F) (gW C) y L (xu5 C J) I
theorem xok(C:d9)(y:Nat)(E:d9)(F:C.length<=64)(J:y<=255)(I:E.length<=100000000):call T 145 [.byt C .no,.int .i64 y,.byt E .no] [] 0=some ⟨.byt (ud C y E) .no,[],[]⟩:=
 k91 C y E F J I (fun c=>ir y c 0 ((gW E).getD c 0) (oT C y c)) (fun c _=>rfl)
theorem xwN(g:d9)(C:Nat)(D:t8)(hg:g.length=560)(hD:D.length=35)(hd:∀c,c<35->D.getD c 0<=15)(F:Nat->d9)(hF:∀c,c<35->F c=ir C c (D.getD c 0) (15-D.getD c 0) ((g.drop (16*c)).take 16)):∀(n c:Nat)(E:d9),35-c=n->c<=35->E.length=16*c->
 run T (.loop xz) ⟨[(0,.int .i64 C),(2,.byt g .no),(8,.lst 1 (dgs D) .no),(9,.byt E (.id 109)),(10,.int .i64 c)],[],[109]⟩=
 some (.x 0,⟨[(0,.int .i64 C),(9,.byt (E++wq c F) (.id 109))],[],[109]⟩):=by
 intro n;induction n with
 |zero=>
  intro c E h0 h1 ha;have hi:c=35:=by omega
  subst hi;rw[nX,ai];simp only[c35,go_sem,Q6,Qj,Ql,Qm,reduceCtorEq,reduceIte,bA]
 |succ n ih=>
  intro c E h0 h1 ha;have L:c<35:=by omega
  have W:(c:Int)<35:=by omega
  have e1:=cr c (by omega);have Z:=kP D;have O:=wj D c (by omega);have m1:af.wrap (16*(c:Int))=((16*c:Nat):Int):=wZ (by omega)
  have m2:af.wrap (((16*c:Nat):Int)+16)=((16*c+16:Nat):Int):=wZ (by omega)
  have h2:16*c<=16*c+16:=by omega
  have h3:16*c+16<=560:=by omega
  have h4:(g.take (16*c+16)).drop (16*c)=(g.drop (16*c)).take 16:=by rw[fW];congr 1;omega
  have J:=fQ C c (15-D.getD c 0) (D.getD c 0) ((g.drop (16*c)).take 16) (by rw[an,aE];omega);have Q:=xoi C c (D.getD c 0) (15-D.getD c 0) 15 ((g.drop (16*c)).take 16) (by have:=hd c L;omega) (by omega) (by rw[an,aE];omega);rw[<-hF c L]at J Q;rw[c15]at Q;have I:=ih (c+1) (E++F c) (by omega) (by omega) (by rw[ae,J];omega);rw[ma c L];rw[ay]at I;generalize a1:F c=y at*;have c1:E.length+y.length<=140737488355328:=by omega
  rw[ai];simp only[go_sem,Qd,Qe,Qf,Qg,Qj,Qk,Ql,Qm,reduceCtorEq,reduceIte,W,L,Z,hD,O,e1,m1,m2,hg,h2,h3,h4,Q,X8,c1,I]
theorem xxe(C g X Y:d9)(D:t8)(y:Nat)(W:y<=255)(J:g.length=560)(F:call T 166 [.byt C .no] [] 0=some ⟨.lst 1 (dgs D) .no,[],[]⟩)(Q:run T (.loop xz) ⟨[(0,.int .i64 y),(2,.byt g .no),(8,.lst 1 (dgs D) .no),(9,.byt [] (.id 109)),(10,.int .i64 0)],[],[109]⟩=some (.x 0,⟨[(0,.int .i64 y),(9,.byt X (.id 109))],[],[109]⟩))
 (L:call T 151 [.int .i64 y,.byt X .no] [] 0=some ⟨.byt Y .no,[],[]⟩):call T 194 [.int .i64 y,.byt C .no,.byt g .no] [] 0=some ⟨.tup [.byt Y .no,.bool true],[],[]⟩:=by
 have O:¬(y:Int)<0:=by omega
 have I:¬(255:Int)<y:=by omega
 have E:((560:Nat):Int)=560:=rfl;rw[aj xr7];simp only[go_sem,Qg,Qj,Qk,Ql,Qm,reduceCtorEq,reduceIte,O,I,J,E,F,Q,L,xiL,xiT]
theorem xxc(y:Nat)(C g:d9)(O:y<=255)(I:g.length=560)(L:C.length<=100000000)(F:Nat->d9)(hF:∀c,c<35->F c=ir y c ((gW C).getD c 0) (15-(gW C).getD c 0) ((g.drop (16*c)).take 16)):
 call T 194 [.int .i64 y,.byt C .no,.byt g .no] [] 0=some ⟨.tup [.byt (tW y (cat 35 F)) .no,.bool true],[],[]⟩:=by
 have J:=xwN g y (gW C) I (nU C) (nV C) F hF 35 0 [] rfl (by omega) rfl;have E:=mC F 35 (fun c E=>by rw[hF c E];exact fQ _ _ _ _ _ (by rw[an,aE];omega));rw[l9]at J;exact xxe C g (cat 35 F) _ (gW C) y O I (xu5 C L) J (xu7 y (cat 35 F) (by rw[E];decide))
theorem xxs(y:Nat)(C g:d9)(I:y<=255)(F:g.length=560)(E:C.length<=100000000):call T 194 [.int .i64 y,.byt C .no,.byt g .no] [] 0=some ⟨.tup [.byt (mW y C g) .no,.bool true],[],[]⟩:=
 xxc y C g I F E (fun c=>ir y c ((gW C).getD c 0) (15-(gW C).getD c 0) ((g.drop (16*c)).take 16)) (fun c _=>rfl)
theorem xyb(n:Nat)(h:n<4611686018427387904):cx .and .i64 (n:Int) 1=((n % 2:Nat):Int):=by
 have y:(BitVec.ofNat 64 n&&&BitVec.ofNat 64 1).toNat=n % 2:=by rw[BitVec.toNat_and,BitVec.toNat_ofNat,BitVec.toNat_ofNat,ct (by omega)];exact Nat.and_one_is_mod n
 unfold cx;rw[show(1:Int)=((1:Nat):Int)from rfl];simp only[BitVec.ofInt_natCast];show af.wrap (((BitVec.ofNat 64 n&&&BitVec.ofNat 64 1).toNat:Nat):Int)=_;rw[y];exact w64 (by omega) (by omega)
theorem xu3(h i:Nat)(a b:d9)(E:a.length<=1000000)(C:b.length<=1000000):call T 177 [.int .i64 h,.int .i64 i,.byt a .no,.byt b .no] [] 0=some ⟨.byt (jB h i a b) .no,[],[]⟩:=by have g:=t183 3 [ub h,ub i] a b (by simp) (by omega) (by omega);have y:=i9 3 [[ub h,ub i],a,b];unfold ub at g y;rw[aj xsa];simp only[go_sem,Q4,Q5,Qg,Qj,Qk,Ql,Qm,reduceCtorEq,reduceIte,g,xa8,y,c32,jB,h16,ub]
theorem xoj(h i:Nat)(a b:d9)(E:a.length<=1000000)(C:b.length<=1000000):call T 147 [.int .i64 h,.int .i64 i,.byt a .no,.byt b .no] [] 0=some ⟨.byt (jB h i a b) .no,[],[]⟩:=by have g:=xvU 3 [ub h,ub i] a b (by simp) (by omega) (by omega);have y:=i9 3 [[ub h,ub i],a,b];unfold ub at g y;rw[aj xsy];simp only[go_sem,Q4,Q5,Q7,Qg,Qj,Qk,Ql,Qm,reduceCtorEq,reduceIte,g,xa6,y,c32,jB,h16,ub]
theorem xib(B:d9)(h:B.length<=1000000000):call T 112 [.byt B .no] [] 0=some ⟨.byt B .no,[],[]⟩:=by
 have c1:0+B.length<=140737488355328:=by omega
 have c2:B.length<=140737488355328:=by omega
 rw[aj xsX];simp only[go_sem,Qg,Qj,Qk,Ql,Qm,reduceCtorEq,reduceIte,c2,aF]
theorem xwU(P:List d9)(hP:P.length<=3)(hb:∀s∈P,s.length<=1000000):∀(n h i:Nat)(x:d9)(q:Tok),P.length-h=n->h<=P.length->i<1000->x.length<=1000000->
 run T (.loop vG) ⟨[(1,.int .i64 i),(7,.byt x q),(29,.lst 1 (bys P) .no),(30,.int .i64 P.length),(31,.int .i64 h)],[],[128]⟩=
 some (.x 0,⟨[(7,.byt (lk h i (P.drop h) x) (if h=P.length then q else .no))],[],[128]⟩):=by
 intro n;induction n with
 |zero=>
  intro h i x q h0 h1 h2 J;have hi:h=P.length:=by omega
  subst hi;rw[bK,ai];simp only[go_sem,Qj,Ql,Qm,reduceIte,lk,if_true]
 |succ n W=>
  intro h i x q h0 h1 h2 J;have E:h<P.length:=by omega
  have hI:(h:Int)<(P.length:Int):=by omega
  have O:=cr h (by omega);have L:=rj P h E;have Q:=gN P;have C:=xyb i (by omega)
  have hs:(P.getD h []).length<=1000000:=by rw[aa,ac E,aM];exact hb _ (bv E)
  have hd:P.drop h=P.getD h []::P.drop (h+1):=by rw[bz E,aa,ac E,aM]
  rw[hd];generalize hc:P.getD h []=s at*;have I:¬h=P.length:=by omega
  rw[if_neg I];have e2:((i:Int)/2)=((i/2:Nat):Int):=by omega
  have Z:(i:Int).fdiv (2^min 1 64)=((i/2:Nat):Int):=by rw[show(2:Int)^min 1 64=2 from by decide,je _ (by decide)];omega
  have e4:af.wrap ((i/2:Nat):Int)=((i/2:Nat):Int):=w64 (by omega) (by omega);rw[ai]
  by_cases ho:i % 2=1
  ·have y:=W (h+1) (i/2) (jB h (i/2) s x) .no (by omega) (by omega) (by omega) (by rw[jB,ej];omega)
   rw[ite_self]at y;have g:=xu3 h (i/2) s x hs J;rw[ho]at C;simp only[Int.natCast_one]at C;simp only[go_sem,Q4,Q5,Qj,Ql,Qm,reduceCtorEq,reduceIte,hI,O,L,Q,C,Z,g,xiI,y,lk,ho]
  ·have F:i % 2=0:=by omega
   have y:=W (h+1) (i/2) (jB h (i/2) x s) .no (by omega) (by omega) (by omega) (by rw[jB,ej];omega);rw[ite_self]at y;have g:=xu3 h (i/2) x s J hs;rw[F]at C;simp only[az]at C;have z1:¬(0:Int)=1:=by decide
   have z2:¬(0:Nat)=1:=by decide
   simp only[go_sem,Q4,Q5,Qj,Ql,Qm,reduceCtorEq,reduceIte,hI,O,L,Q,C,Z,g,xiI,y,lk,F,z1,z2]
attribute [go_sem] Int.cast_ofNat_Int
def nF(v:Nat)(l:d9):Nat:=l.foldl (fun v b=>v*256+b.toNat) v
def nB(l:d9):Nat:=nF 0 l
theorem II:∀(l:d9)(v k:Nat),v<256^k->nF v l<256^(k+l.length)
 |[],v,k,h=>h
 |b::r,v,k,h=>by
  have C:=b.toNat_lt
  have y:v*256+b.toNat<256^(k+1):=by have:(v+1)*256<=256^k*256:=bo _ h;rw[Nat.pow_succ];omega
  have:=II r (v*256+b.toNat) (k+1) y;rw[al,show k+(r.length+1)=k+1+r.length from by omega];exact this
theorem IJ(l:d9):nB l<256^l.length:=by have:=II l 0 0 (by decide);rwa[bY]at this
theorem yY(l:d9)(h:l.length<=6):nB l<281474976710656:=by
 have y:=IJ l;have C:256^l.length<=256^6:=Nat.pow_le_pow_right (by decide) h;have E:(256:Nat)^6=281474976710656:=by decide
 omega
theorem orW(v:Nat)(E:v<1099511627776)(b:UInt8):cx .or .u64 (aQ.wrap ((v:Int)*2^min 8 64)) (b.toNat:Int)=((v*256+b.toNat:Nat):Int):=by
 have C:=b.toNat_lt;have p:((2:Int)^min 8 64)=256:=by decide
 have e:aQ.wrap ((v:Int)*2^min 8 64)=((v*256:Nat):Int):=by rw[p,bV];omega
 rw[e];unfold cx;simp only[BitVec.ofInt_natCast]
 have y:(BitVec.ofNat 64 (v*256)|||BitVec.ofNat 64 b.toNat).toNat=v*256+b.toNat:=by rw[BitVec.toNat_or,BitVec.toNat_ofNat,BitVec.toNat_ofNat,ct (by omega),ct (by omega)];have:=Nat.two_pow_add_eq_or_of_lt (i:=8) (b:=b.toNat) (by omega) v;rw[show(2:Nat)^8=256 from by decide]at this;rw[cS v 256,<-this]
 show aQ.wrap (((BitVec.ofNat 64 (v*256)|||BitVec.ofNat 64 b.toNat).toNat:Nat):Int)=_;rw[y,bV];omega
structure Rs where
 a:Nat
 e:Int
def rdO(B:d9)(t:Nat)(s:Rs):aH:= .rc [.byt B (.id t),.int .i64 s.a,.int .i64 s.e]
def uR(B:d9)(n:Nat)(s:Rs):Int×Rs:=if s.e=0 then(if s.a+n<=B.length then(((nB ((B.drop s.a).take n):Nat):Int),⟨s.a+n,0⟩)else(0,⟨s.a,2⟩))else(0,s)
def wR(B:d9)(n:Nat)(s:Rs):d9×Rs:=if s.e=0 then(if s.a+n<=B.length then((B.drop s.a).take n,⟨s.a+n,0⟩)else([],⟨s.a,2⟩))else([],s)
def bR(B:d9)(m:Nat)(s:Rs):d9×Rs:=
 if s.e=0 then(if s.a+2<=B.length then(if nB ((B.drop s.a).take 2)<=m then(if s.a+2+nB ((B.drop s.a).take 2)<=B.length then((B.drop (s.a+2)).take (nB ((B.drop s.a).take 2)),⟨s.a+(2+nB ((B.drop s.a).take 2)),0⟩)else([],⟨s.a,2⟩))else([],⟨s.a,4⟩))else([],⟨s.a,2⟩))else([],s)
def eR(B:d9)(s:Rs):Int:=if s.e=0 then(if s.a<B.length then 3 else 0)else s.e
structure dU(B:List UInt8)(s:Rs):Prop where
 a:s.a<=B.length
theorem eV{B:d9}{n:Nat}{s:Rs}(h:dU B s):dU B (uR B n s).2:=by
 unfold uR;split
 ·split
  ·rename_i y;exact⟨y⟩
  ·exact⟨h.a⟩
 ·exact h
theorem U0{B:d9}{n:Nat}{s:Rs}(h:dU B s):dU B (wR B n s).2:=by
 unfold wR;split
 ·split
  ·rename_i y;exact⟨y⟩
  ·exact⟨h.a⟩
 ·exact h
theorem rl{B:d9}{n:Nat}{s:Rs}(h:dU B s):dU B (bR B n s).2:=by
 unfold bR;split
 ·split
  ·split
   ·split
    ·rename_i y;exact⟨by show s.a+(2+_)<=_;omega⟩
    ·exact⟨h.a⟩
   ·exact⟨h.a⟩
  ·exact⟨h.a⟩
 ·exact h
theorem f74(B:d9)(C:B.length<=1000000000):call T 74 [.byt B .no] [] 0=some ⟨.ptr 100 0,[(100,rdO B 60 ⟨0,0⟩)],[60]⟩:=by
 rw[aj xyA];unfold rdO;have h:0+B.length<=140737488355328:=by omega
 have y:B.length<=140737488355328:=by omega
 simp only[go_sem,Qg,Qj,Qk,Ql,Qm,reduceCtorEq,reduceIte,y,az]
theorem xia(B:d9)(a e x:Int):call T 124 [.ptr 0 0,.int .i64 x] [.rc [.byt B (.id 50),.int .i64 a,.int .i64 e]] 1=some ⟨.tup [],[(0,.rc [.byt B (.id 60),.int .i64 a,.int .i64 x])],[60]⟩:=by rw[aj xsN];simp only[go_sem,Qg,Qj,Qk,Ql,Qm,reduceCtorEq,reduceIte]
theorem f125(B:d9)(e:Int)(O:B.length<=1000000000)(a n p:Nat)(L:a<=B.length)(J:p<=1000000000)(hn:n<=1000000):call T 125 [.ptr 0 0,.int .i64 a,.int .i64 n] [.rc [.byt B (.id 50),.int .i64 p,.int .i64 e]] 1=
 if a+n<=B.length then some ⟨.tup [.byt ((B.drop a).take n) .no,.int .i64 0],[(0,.rc [.byt B (.id 60),.int .i64 p,.int .i64 e])],[60]⟩else some ⟨.tup [.byt [] .no,.int .i64 2],[(0,.rc [.byt B (.id 60),.int .i64 p,.int .i64 e])],[60]⟩:=by
 have C:af.wrap ((B.length:Int)-(a:Int))=((B.length-a:Nat):Int):=wZ (by omega)
 have I:af.wrap ((a:Int)+(n:Int))=((a+n:Nat):Int):=wZ (by omega)
 rw[aj xsM]
 by_cases h:a+n<=B.length
 ·rw[if_pos h]
  have y:¬B.length-a<n:=by omega
  have E:a<=a+n:=by omega
  have F:(B.take (a+n)).drop a=(B.drop a).take n:=by rw[fW];congr 1;omega
  simp only[go_sem,Qg,Qj,Qk,Ql,Qm,reduceCtorEq,reduceIte,C,I,h,y,E,F]
 ·rw[if_neg h]
  have y:B.length-a<n:=by omega
  simp only[go_sem,Qg,Qj,Qk,Ql,Qm,reduceCtorEq,reduceIte,C,y]
theorem l75(t:Nat)(O:aH)(n:Int)(X:d9)(hX:X.length<=6)(Q:∃B s,O=rdO B t s):∀(m i v:Nat),X.length-i=m->i<=X.length->v<256^i->
 run T (.loop BX) ⟨[(0,.ptr 0 0),(1,.int .i64 n),(7,.int .u64 v),(38,.byt X .no),(39,.int .i64 X.length),(40,.int .i64 i)],[(0,O)],[t]⟩=
  some (.x 0,⟨[(0,.ptr 0 0),(1,.int .i64 n),(7,.int .u64 ((nF v (X.drop i):Nat):Int))],[(0,O)],[t]⟩):=by
 obtain⟨B,s,rfl⟩:=Q;intro m;induction m with
 |zero=>
  intro i v I h1 F;have:i=X.length:=by omega
  subst this;rw[bK,ai];simp only[rdO,go_sem,Qj,Ql,Qm,reduceCtorEq,reduceIte,nF,iP]
 |succ m L=>
  intro i v I h1 F;have hi:i<X.length:=by omega
  have C:(i:Int)<(X.length:Int):=by omega
  have J:=cr i (by omega)
  have hv:v<1099511627776:=by
   have:256^i<=256^5:=Nat.pow_le_pow_right (by decide) (by omega);have E:(256:Nat)^5=1099511627776:=by decide
   omega
  have E:=II [X.getD i 0] v i F;have y:=L (i+1) (v*256+(X.getD i 0).toNat) (by omega) (by omega) E;have W:=orW v hv (X.getD i 0);have hd:nF v (X.drop i)=nF (v*256+(X.getD i 0).toNat) (X.drop (i+1)):=by rw[dz X i hi];rfl
  rw[hd];generalize Z:X.getD i 0=c at*;rw[ai];simp only[rdO]at y ⊢;simp only[go_sem,Q4,Q5,Qj,Ql,Qm,reduceCtorEq,reduceIte,C,J,Z,W,y]
theorem f75(B:d9)(W:B.length<=1000000000)(n:Nat)(h1:1<=n)(Z:n<=6)(s:Rs)(Q:dU B s):call T 75 [.ptr 0 0,.int .i64 n] [rdO B 50 s] 1=some ⟨.int .i64 (uR B n s).1,[(0,rdO B 60 (uR B n s).2)],[60]⟩:=by
 have L:=Q.a;have C:=f125 B 0 W s.a n s.a L (by omega) (by omega);have I:=xia B s.a 0 2;have hX:((B.drop s.a).take n).length<=6:=by rw[an];omega
 have E:=l75 31060 (rdO B 31060 s) n ((B.drop s.a).take n) hX ⟨B,s,rfl⟩ _ 0 0 rfl (aY _) (by decide);have F:=yY _ hX;have n1:¬(n:Int)<1:=by omega
 have n8:¬(8:Int)<n:=by omega
 have J:af.wrap ((s.a:Int)+(n:Int))=((s.a+n:Nat):Int):=wZ (by omega)
 rw[aj xyz];unfold uR
 by_cases y:s.e=0
 ·rw[if_pos y]
  obtain⟨a,e⟩:=s;simp only at y C I E J F;subst y
  by_cases h:a+n<=B.length
  ·rw[if_pos h]at C
   rw[if_pos h];rw[az,bj]at E;change run T _ _=some (Ex.x 0,⟨[(0,SV.ptr 0 0),(1,SV.int .i64 n),(7,SV.int .u64 ((nB ((B.drop a).take n):Nat):Int))],_,_⟩)at E;have O:¬(9223372036854775807:Int)<((nB ((B.drop a).take n):Nat):Int):=by omega
   have m2:af.wrap ((nB ((B.drop a).take n):Nat):Int)=((nB ((B.drop a).take n):Nat):Int):=w64 (by omega) (by omega);generalize nB ((B.drop a).take n)=V at*;generalize (B.drop a).take n=X at*;simp only[rdO]at E ⊢;simp only[go_sem,Qg,Qi,Qj,Qk,Ql,Qm,reduceCtorEq,reduceIte,n1,n8,C,rC,E,O,m2,J]
  ·rw[if_neg h]at C
   rw[if_neg h];simp only[rdO];simp only[go_sem,Q7,Qg,Qi,Qj,Qk,Ql,Qm,reduceCtorEq,reduceIte,n1,n8,C,rC,I,BH]
 ·rw[if_neg y]
  obtain⟨a,e⟩:=s;simp only at y;simp only[rdO];simp only[go_sem,Qg,Qj,Qk,Ql,Qm,reduceCtorEq,reduceIte,y]
theorem f78(B:d9)(O:B.length<=1000000000)(n:Nat)(Q:n<=1000000)(s:Rs)(L:dU B s):call T 78 [.ptr 0 0,.int .i64 n] [rdO B 50 s] 1=some ⟨.byt (wR B n s).1 .no,[(0,rdO B 60 (wR B n s).2)],[60]⟩:=by
 have J:=L.a;have C:=f125 B 0 O s.a n s.a J (by omega) (by omega);have F:=xia B s.a 0 2;have n1:¬(n:Int)<0:=by omega
 have I:af.wrap ((s.a:Int)+(n:Int))=((s.a+n:Nat):Int):=wZ (by omega)
 have hX:0+((B.drop s.a).take n).length<=140737488355328:=by rw[an];omega
 have E:((B.drop s.a).take n).length<=140737488355328:=by rw[an];omega
 rw[aj xyw];unfold wR
 by_cases y:s.e=0
 ·rw[if_pos y]
  obtain⟨a,e⟩:=s;simp only at y C F I hX E;subst y
  by_cases h:a+n<=B.length
  ·rw[if_pos h]at C
   rw[if_pos h];generalize (B.drop a).take n=X at*;simp only[rdO];simp only[go_sem,Qg,Qi,Qj,Qk,Ql,Qm,reduceCtorEq,reduceIte,n1,C,rC,I,E]
  ·rw[if_neg h]at C
   rw[if_neg h];simp only[rdO];simp only[go_sem,Q7,Qg,Qi,Qj,Qk,Ql,Qm,reduceCtorEq,reduceIte,n1,C,rC,F,BH]
 ·rw[if_neg y]
  obtain⟨a,e⟩:=s;simp only at y;simp only[rdO];simp only[go_sem,Qg,Qj,Qk,Ql,Qm,reduceCtorEq,reduceIte,y]
theorem f77(B:d9)(s:Rs):call T 77 [.ptr 0 0] [rdO B 50 s] 1=some ⟨.int .i64 s.e,[(0,rdO B 60 s)],[60]⟩:=by rw[aj xyx];simp only[rdO];simp only[go_sem,Qg,Qj,Qk,Ql,Qm,reduceCtorEq,reduceIte]
theorem xxQ(B:d9)(F:B.length<=1000000000)(s:Rs)(y:dU B s):call T 126 [.ptr 0 0] [rdO B 50 s] 1=some ⟨.int .i64 ((B.length-s.a:Nat):Int),[(0,rdO B 60 s)],[60]⟩:=by
 have E:=y.a;have C:af.wrap ((B.length:Int)-(s.a:Int))=((B.length-s.a:Nat):Int):=wZ (by omega)
 rw[aj xsL];simp only[rdO];simp only[go_sem,Qg,Qj,Qk,Ql,Qm,reduceCtorEq,reduceIte,C]
theorem f79(B:d9)(F:B.length<=1000000000)(s:Rs)(E:dU B s):call T 79 [.ptr 0 0] [rdO B 50 s] 1=some ⟨.int .i64 (eR B s),[(0,rdO B 60 s)],[60]⟩:=by
 have g:=xxQ B F s E;rw[aj xyv];unfold eR;obtain⟨a,e⟩:=s;simp only[rdO]at g ⊢
 by_cases C:e=0
 ·subst C
  by_cases h:a<B.length
  ·have y:(0:Int)<((B.length-a:Nat):Int):=by omega
   simp only[go_sem,Qg,Qi,Qj,Qk,Ql,Qm,reduceCtorEq,reduceIte,g,xi1,h,y]
  ·have y:¬(0:Int)<((B.length-a:Nat):Int):=by omega
   simp only[go_sem,Qg,Qi,Qj,Qk,Ql,Qm,reduceCtorEq,reduceIte,g,xi1,h,y]
 ·simp only[go_sem,Qg,Qi,Qj,Qk,Ql,Qm,reduceCtorEq,reduceIte,C]
theorem xru(B:d9)(a:Nat)(h:a+2<=B.length):∃x y,(B.drop a).take 2=[x,y]:=by
 have:((B.drop a).take 2).length=2:=by rw[an,aE];omega
 match (B.drop a).take 2,this with
 |[x,y],_=>exact⟨x,y,rfl⟩
theorem xuZ(x y:UInt8):cx .or .i64 (af.wrap ((x.toNat:Int)*2^min 8 64)) (y.toNat:Int)=((nB [x,y]:Nat):Int):=by
 have I:=x.toNat_lt;have F:=y.toNat_lt;have p:((2:Int)^min 8 64)=256:=by decide
 have e:af.wrap ((x.toNat:Int)*2^min 8 64)=((x.toNat*256:Nat):Int):=by rw[p,w64 (by omega) (by omega)];omega
 rw[e];unfold cx;simp only[BitVec.ofInt_natCast]
 have C:(BitVec.ofNat 64 (x.toNat*256)|||BitVec.ofNat 64 y.toNat).toNat=x.toNat*256+y.toNat:=by rw[BitVec.toNat_or,BitVec.toNat_ofNat,BitVec.toNat_ofNat,ct (by omega),ct (by omega)];have:=Nat.two_pow_add_eq_or_of_lt (i:=8) (b:=y.toNat) (by omega) x.toNat;rw[show(2:Nat)^8=256 from by decide]at this;rw[cS x.toNat 256,<-this]
 show af.wrap (((BitVec.ofNat 64 (x.toNat*256)|||BitVec.ofNat 64 y.toNat).toNat:Nat):Int)=_;have E:nB [x,y]=x.toNat*256+y.toNat:=by simp[nB,nF]
 rw[C,E,w64 (by omega) (by omega)]
theorem f76(B:d9)(hB:B.length<=1000000000)(m:Nat)(hm:m<=65535)(s:Rs)(hs:dU B s):call T 76 [.ptr 0 0,.int .i64 m] [rdO B 50 s] 1=some ⟨.byt (bR B m s).1 .no,[(0,rdO B 60 (bR B m s).2)],[60]⟩:=by
 have ha:=hs.a;have C:=f125 B 0 hB s.a 2 s.a ha (by omega) (by omega);have O:=xia B s.a 0 2;have g4:=xia B s.a 0 4;rw[show((2:Nat):Int)=2 from rfl]at C;rw[aj xyy];unfold bR
 by_cases F:s.e=0
 ·rw[if_pos F]
  obtain⟨a,e⟩:=s;simp only at F C O g4 ha;subst F
  by_cases h:a+2<=B.length
  ·rw[if_pos h]at C
   rw[if_pos h];obtain⟨x,y,W⟩:=xru B a h;simp only[W]at C ⊢;have Q:=xuZ x y
   have hn:nB [x,y]<65536:=by
    have:=IJ [x,y];have p:(256:Nat)^ [x,y].length=65536:=by show(256:Nat)^2=65536;decide
    omega
   have e1:af.wrap ((a:Int)+2)=((a+2:Nat):Int):=wZ (by omega)
   have e2:af.wrap (2+((nB [x,y]:Nat):Int))=((2+nB [x,y]:Nat):Int):=wZ (by omega)
   have e3:af.wrap ((a:Int)+((2+nB [x,y]:Nat):Int))=((a+(2+nB [x,y]):Nat):Int):=wZ (by omega)
   have J:=f125 B 0 hB (a+2) (nB [x,y]) a h (by omega) (by omega);generalize nB [x,y]=n at*
   by_cases hq:n<=m
   ·have E:¬(m:Int)<(n:Int):=by omega
    have I:¬m<n:=by omega
    rw[if_pos hq];have hX:0+((B.drop (a+2)).take n).length<=140737488355328:=by rw[an];omega
    have Z:((B.drop (a+2)).take n).length<=140737488355328:=by rw[an];omega
    by_cases L:a+2+n<=B.length
    ·rw[if_pos L]at J
     rw[if_pos L];generalize (B.drop (a+2)).take n=X at*;simp only[rdO];simp only[go_sem,Q4,Q5,Q6,Qg,Qi,Qj,Qk,Ql,Qm,reduceCtorEq,reduceIte,C,rC,Q,E,J,e1,e2,e3,Z]
    ·rw[if_neg L]at J
     rw[if_neg L];simp only[rdO];simp only[go_sem,Q4,Q5,Q6,Q7,Qg,Qi,Qj,Qk,Ql,Qm,reduceCtorEq,reduceIte,C,rC,Q,E,J,e1,O,BH]
   ·have E:(m:Int)<(n:Int):=by omega
    have I:m<n:=by omega
    rw[if_neg hq];simp only[rdO];simp only[go_sem,Q4,Q5,Q6,Qg,Qi,Qj,Qk,Ql,Qm,reduceCtorEq,reduceIte,C,rC,Q,E,g4,BH]
  ·rw[if_neg h]at C
   rw[if_neg h];simp only[rdO];simp only[go_sem,Q7,Qg,Qi,Qj,Qk,Ql,Qm,reduceCtorEq,reduceIte,C,rC,O,BH]
 ·rw[if_neg F]
  obtain⟨a,e⟩:=s;simp only at F;simp only[rdO];simp only[go_sem,Qg,Qj,Qk,Ql,Qm,reduceCtorEq,reduceIte,F]
def rqO(B:d9)(s:Rs):aH:= .rc [.byt B .no,.int .i64 s.a,.int .i64 s.e]
theorem f93(B:d9):call T 93 [.byt B .no] [] 0=some ⟨.ptr 100 0,[(100,rqO B ⟨0,0⟩)],[]⟩:=by rw[aj xyj];unfold rqO;simp only[go_sem,Qg,Qj,Qk,Ql,Qm,reduceCtorEq,reduceIte,az]
theorem xh9(B:d9)(J:B.length<=1000000000)(s:Rs)(F:dU B s)(n:Nat)(hn:n<=1000000):call T 138 [.ptr 0 0,.int .i64 n] [rqO B s] 0=
 if s.e=0 then(if s.a+n<=B.length then some ⟨.bool true,[(0,rqO B s)],[]⟩else some ⟨.bool false,[(0,rqO B ⟨s.a,2⟩)],[]⟩)else some ⟨.bool false,[(0,rqO B s)],[]⟩:=by
 have I:=F.a;have C:af.wrap ((B.length:Int)-(s.a:Int))=((B.length-s.a:Nat):Int):=wZ (by omega)
 obtain⟨a,e⟩:=s;simp only[rqO]at C I ⊢;rw[aj xsF]
 by_cases y:e=0
 ·subst y
  rw[if_pos rfl]
  by_cases h:a+n<=B.length
  ·have E:¬B.length-a<n:=by omega
   rw[if_pos h];simp only[go_sem,Qg,Qj,Qk,Ql,Qm,reduceCtorEq,reduceIte,C,E]
  ·have E:B.length-a<n:=by omega
   rw[if_neg h];simp only[go_sem,Q7,Qg,Qj,Qk,Ql,Qm,reduceCtorEq,reduceIte,C,E]
 ·rw[if_neg y]
  simp only[go_sem,Qg,Qj,Qk,Ql,Qm,reduceCtorEq,reduceIte,y]
theorem xxN(B:d9)(F:B.length<=1000000000)(s:Rs)(y:dU B s):call T 139 [.ptr 0 0] [rqO B s] 0=some ⟨.int .i64 ((B.length-s.a:Nat):Int),[(0,rqO B s)],[]⟩:=by
 have E:=y.a;have C:af.wrap ((B.length:Int)-(s.a:Int))=((B.length-s.a:Nat):Int):=wZ (by omega)
 rw[aj xsE];simp only[rqO];simp only[go_sem,Qg,Qj,Qk,Ql,Qm,reduceCtorEq,reduceIte,C]
theorem f97(B:d9)(F:B.length<=1000000000)(s:Rs)(E:dU B s):call T 97 [.ptr 0 0] [rqO B s] 0=some ⟨.int .i64 (eR B s),[(0,rqO B s)],[]⟩:=by
 have g:=xxN B F s E;rw[aj xyf];unfold eR;obtain⟨a,e⟩:=s;simp only[rqO]at g ⊢
 by_cases C:e=0
 ·subst C
  by_cases h:a<B.length
  ·have y:(0:Int)<((B.length-a:Nat):Int):=by omega
   simp only[go_sem,Qg,Qi,Qj,Qk,Ql,Qm,reduceCtorEq,reduceIte,g,xiX,h,y]
  ·have y:¬(0:Int)<((B.length-a:Nat):Int):=by omega
   simp only[go_sem,Qg,Qi,Qj,Qk,Ql,Qm,reduceCtorEq,reduceIte,g,xiX,h,y]
 ·simp only[go_sem,Qg,Qi,Qj,Qk,Ql,Qm,reduceCtorEq,reduceIte,C]
theorem l94(B:d9)(hB:B.length<=1000000000)(a n:Nat)(h6:n<=6)(hl:a+n<=B.length):∀(m i v:Nat),n-i=m->i<=n->v<256^i->
 run T (.loop BV) ⟨[(0,.ptr 0 0),(1,.int .i64 n),(5,.int .u64 v),(6,.int .i64 i)],[(0,rqO B ⟨a,0⟩)],[]⟩=
  some (.x 0,⟨[(0,.ptr 0 0),(1,.int .i64 n),(5,.int .u64 ((nF v ((B.drop (a+i)).take (n-i)):Nat):Int))],[(0,rqO B ⟨a,0⟩)],[]⟩):=by
 intro m;induction m with
 |zero=>
  intro i v J h1 I;have:i=n:=by omega
  subst this;rw[sI,List.take_zero,ai];simp only[rqO,go_sem,Qj,Ql,Qm,reduceCtorEq,reduceIte,nF,iP]
 |succ m O=>
  intro i v J h1 I;have hi:i<n:=by omega
  have E:(i:Int)<(n:Int):=by omega
  have L:=cr i (by omega);have Q:af.wrap ((a:Int)+(i:Int))=((a+i:Nat):Int):=wZ (by omega)
  have C:a+i<B.length:=by omega
  have hv:v<1099511627776:=by
   have:256^i<=256^5:=Nat.pow_le_pow_right (by decide) (by omega);have F:(256:Nat)^5=1099511627776:=by decide
   omega
  have F:=II [B.getD (a+i) 0] v i I;have y:=O (i+1) (v*256+(B.getD (a+i) 0).toNat) (by omega) (by omega) F;have W:=orW v hv (B.getD (a+i) 0)
  have hd:nF v ((B.drop (a+i)).take (n-i))=nF (v*256+(B.getD (a+i) 0).toNat) ((B.drop (a+(i+1))).take (n-(i+1))):=by rw[dz B (a+i) C,show n-i=n-(i+1)+1 from by omega,List.take_succ_cons];rfl
  rw[hd];generalize Z:B.getD (a+i) 0=c at*;rw[ai];simp only[rqO]at y ⊢;simp only[go_sem,Q4,Q5,Qd,Qe,Qf,Qg,Qj,Qk,Ql,Qm,reduceCtorEq,reduceIte,E,C,L,Q,Z,W,y]
theorem f94(B:d9)(L:B.length<=1000000000)(n:Nat)(Z:1<=n)(O:n<=6)(s:Rs)(J:dU B s):call T 94 [.ptr 0 0,.int .i64 n] [rqO B s] 0=some ⟨.int .i64 (uR B n s).1,[(0,rqO B (uR B n s).2)],[]⟩:=by
 have W:=J.a;have y:=xh9 B L s J n (by omega);have hX:((B.drop s.a).take n).length<=6:=by rw[an];omega
 have F:=yY _ hX;have n1:¬(n:Int)<1:=by omega
 have n8:¬(8:Int)<n:=by omega
 have I:af.wrap ((s.a:Int)+(n:Int))=((s.a+n:Nat):Int):=wZ (by omega)
 rw[aj xyi];unfold uR
 by_cases C:s.e=0
 ·rw[if_pos C]at y ⊢
  obtain⟨a,e⟩:=s;simp only at C y I F;subst C
  by_cases h:a+n<=B.length
  ·rw[if_pos h]at y
   rw[if_pos h];have E:=l94 B L a n O h _ 0 0 rfl (aY _) (by decide);rw[az,fm,Nat.sub_zero]at E;change run T _ _=some (Ex.x 0,⟨[(0,SV.ptr 0 0),(1,SV.int .i64 n),(5,SV.int .u64 ((nB ((B.drop a).take n):Nat):Int))],_,_⟩)at E;have Q:¬(9223372036854775808:Int)<=((nB ((B.drop a).take n):Nat):Int):=by omega
   have m2:af.wrap ((nB ((B.drop a).take n):Nat):Int)=((nB ((B.drop a).take n):Nat):Int):=w64 (by omega) (by omega);generalize nB ((B.drop a).take n)=V at*;simp only[rqO]at E y ⊢;simp only[go_sem,Qg,Qi,Qj,Qk,Ql,Qm,reduceCtorEq,reduceIte,n1,n8,y,rB,E,Q,m2,I]
  ·rw[if_neg h]at y
   rw[if_neg h];simp only[rqO]at y ⊢;simp only[go_sem,Qg,Qi,Qj,Qk,Ql,Qm,reduceCtorEq,reduceIte,n1,n8,y,rB]
 ·rw[if_neg C]
  obtain⟨a,e⟩:=s;simp only at C;simp only[rqO];simp only[go_sem,Qg,Qi,Qj,Qk,Ql,Qm,reduceCtorEq,reduceIte,C]
theorem f96(B:d9)(Q:B.length<=1000000000)(n:Nat)(W:n<=1000000)(s:Rs)(I:dU B s):call T 96 [.ptr 0 0,.int .i64 n] [rqO B s] 0=some ⟨.byt (wR B n s).1 .no,[(0,rqO B (wR B n s).2)],[]⟩:=by
 have Z:=I.a;have y:=xh9 B Q s I n W;have n1:¬(n:Int)<0:=by omega
 have O:af.wrap ((s.a:Int)+(n:Int))=((s.a+n:Nat):Int):=wZ (by omega)
 have F:af.wrap (((s.a+n:Nat):Int)-(n:Int))=(s.a:Int):=wZ (by omega)
 have hX:0+((B.drop s.a).take n).length<=140737488355328:=by rw[an];omega
 have E:((B.drop s.a).take n).length<=140737488355328:=by rw[an];omega
 have L:(B.take (s.a+n)).drop s.a=(B.drop s.a).take n:=by rw[fW];congr 1;omega
 have J:s.a<=s.a+n:=by omega
 rw[aj xyg];unfold wR
 by_cases C:s.e=0
 ·rw[if_pos C]at y ⊢
  obtain⟨a,e⟩:=s;simp only at C y O F hX E L J;subst C
  by_cases h:a+n<=B.length
  ·rw[if_pos h]at y
   rw[if_pos h];simp only[rqO]at y ⊢;simp only[go_sem,Qd,Qe,Qf,Qg,Qi,Qj,Qk,Ql,Qm,reduceCtorEq,reduceIte,n1,y,rB,O,F,J,h,L,E]
  ·rw[if_neg h]at y
   rw[if_neg h];simp only[rqO]at y ⊢;simp only[go_sem,Qg,Qi,Qj,Qk,Ql,Qm,reduceCtorEq,reduceIte,n1,y,rB]
 ·rw[if_neg C]
  obtain⟨a,e⟩:=s;simp only at C;simp only[rqO];simp only[go_sem,Qg,Qi,Qj,Qk,Ql,Qm,reduceCtorEq,reduceIte,C]
theorem f95(B:d9)(hB:B.length<=1000000000)(m:Nat)(hm:m<=65535)(s:Rs)(hs:dU B s):call T 95 [.ptr 0 0,.int .i64 m] [rqO B s] 0=some ⟨.byt (bR B m s).1 .no,[(0,rqO B (bR B m s).2)],[]⟩:=by
 have ha:=hs.a;have C:=xh9 B hB s hs 2 (by omega);rw[show((2:Nat):Int)=2 from rfl]at C;rw[aj xyh];unfold bR
 by_cases J:s.e=0
 ·rw[if_pos J]at C ⊢
  obtain⟨a,e⟩:=s;simp only at J C ha;subst J
  by_cases h:a+2<=B.length
  ·rw[if_pos h]at C
   rw[if_pos h]
   have a2:(B.drop a).take 2=[B.getD a 0,B.getD (a+1) 0]:=by rw[dz B a (by omega),dz B (a+1) (by omega)];rfl
   simp only[a2];have O:=xuZ (B.getD a 0) (B.getD (a+1) 0)
   have hn:nB [B.getD a 0,B.getD (a+1) 0]<65536:=by
    have:=IJ [B.getD a 0,B.getD (a+1) 0];have p:(256:Nat)^ [B.getD a 0,B.getD (a+1) 0].length=65536:=by show(256:Nat)^2=65536;decide
    omega
   have Z:=cr a (by omega);have a0:a<B.length:=by omega
   have W:a+1<B.length:=by omega
   generalize hx:B.getD a 0=x at*;generalize hy:B.getD (a+1) 0=y at*;have e2:af.wrap (2+((nB [x,y]:Nat):Int))=((2+nB [x,y]:Nat):Int):=wZ (by omega)
   have e3:af.wrap ((a:Int)+((2+nB [x,y]:Nat):Int))=((a+(2+nB [x,y]):Nat):Int):=wZ (by omega)
   have e4:af.wrap (((a+(2+nB [x,y]):Nat):Int)-((nB [x,y]:Nat):Int))=((a+2:Nat):Int):=wZ (by omega)
   have I:=xh9 B hB ⟨a,0⟩ ⟨by show a<=_;omega⟩ (2+nB [x,y]) (by omega);rw[if_pos rfl]at I;simp only at I;have h3:∀n,(B.take (a+(2+n))).drop (a+2)=(B.drop (a+2)).take n:=fun n=>by rw[fW];congr 1;omega
   have Q:=h3 (nB [x,y]);generalize nB [x,y]=n at*;have hX:0+((B.drop (a+2)).take n).length<=140737488355328:=by rw[an];omega
   have a6:((B.drop (a+2)).take n).length<=140737488355328:=by rw[an];omega
   have h4:a+2<=a+(2+n):=by omega
   by_cases hq:n<=m
   ·have F:¬(m:Int)<(n:Int):=by omega
    have L:¬m<n:=by omega
    rw[if_pos hq]
    by_cases hr:a+2+n<=B.length
    ·have E:a+(2+n)<=B.length:=by omega
     rw[if_pos E]at I;rw[if_pos hr];simp only[rqO]at C I ⊢;simp only[go_sem,Q4,Q5,Qd,Qe,Qf,Qg,Qi,Qj,Qk,Ql,Qm,reduceCtorEq,reduceIte,C,rB,hx,hy,O,a0,W,Z,F,I,e2,e3,e4,h4,E,Q,a6]
    ·have E:¬a+(2+n)<=B.length:=by omega
     rw[if_neg E]at I;rw[if_neg hr];simp only[rqO]at C I ⊢;simp only[go_sem,Q4,Q5,Qg,Qi,Qj,Qk,Ql,Qm,reduceCtorEq,reduceIte,C,rB,hx,hy,O,a0,W,Z,F,I,e2]
   ·have F:(m:Int)<(n:Int):=by omega
    have L:m<n:=by omega
    rw[if_neg hq];simp only[rqO]at C ⊢;simp only[go_sem,Q4,Q5,Qg,Qi,Qj,Qk,Ql,Qm,reduceCtorEq,reduceIte,C,rB,hx,hy,O,a0,W,Z,F]
  ·rw[if_neg h]at C
   rw[if_neg h];simp only[rqO]at C ⊢;simp only[go_sem,Qg,Qi,Qj,Qk,Ql,Qm,reduceCtorEq,reduceIte,C,rB]
 ·rw[if_neg J]
  obtain⟨a,e⟩:=s;simp only at J;simp only[rqO];simp only[go_sem,Qg,Qi,Qj,Qk,Ql,Qm,reduceCtorEq,reduceIte,J]
def bu(k:Nat)(v:Int):d9:=be k (aQ.wrap v)
theorem Lr(v s:Nat):(iJ (v:Int) s).toNat=v/2^s % 256:=by
 unfold iJ
 have e:Int.fdiv (v:Int) (2^s)=((v/2^s:Nat):Int):=by
  have p:((2:Int)^s)=((2^s:Nat):Int):=by rw[Int.natCast_pow];rfl
  rw[p,je _ (Int.natCast_nonneg _)];rfl
 rw[e];show(cf ((v/2^s:Nat):Int)).toNat=_;generalize v/2^s=q;simp[cf];omega
theorem xhS:∀(k a v:Nat),nF a (be k (v:Int))=a*256^k+v % 256^k
 |0,a,v=>by simp[be,nF,Nat.mod_one]
 |k+1,a,v=>by
  have y:(iJ (v:Int) (8*k)).toNat=v/256^k % 256:=by rw[Lr,Nat.pow_mul]
  show nF (a*256+(iJ (v:Int) (8*k)).toNat) (be k (v:Int))=_;rw[xhS k,y,Nat.mod_pow_succ,Nat.pow_succ,bH,Nat.mul_assoc a,cS 256,cS (v/256^k % 256)];omega
theorem kx(k:Nat)(v:Int)(y:0<=v)(C:v<((256^k:Nat):Int))(E:v<18446744073709551616):((nB (bu k v):Nat):Int)=v:=by
 unfold bu nB;have e:aQ.wrap v=((v.toNat:Nat):Int):=by rw[bV];omega
 rw[e,xhS,iq,bY,ct (by omega)];omega
theorem rp{B P X S:d9}(h:B=P++(X++S)):(B.drop P.length).take X.length=X/\P.length+X.length<=B.length:=by
 subst h;constructor
 ·rw[List.drop_left',List.take_left']
  ·rfl
  ·rfl
 ·rw[ae,ae];omega
theorem jO{B P X S:d9}(n:Nat)(h:B=P++(X++S))(hn:X.length=n):uR B n ⟨P.length,0⟩=(((nB X:Nat):Int),⟨(P++X).length,0⟩):=by subst hn;obtain⟨C,y⟩:=rp h;unfold uR;rw[if_pos rfl];simp only;rw[if_pos y,C,ae]
theorem xbe{B P X S:d9}(n:Nat)(h:B=P++(X++S))(hn:X.length=n):wR B n ⟨P.length,0⟩=(X,⟨(P++X).length,0⟩):=by subst hn;obtain⟨C,y⟩:=rp h;unfold wR;rw[if_pos rfl];simp only;rw[if_pos y,C,ae]
theorem pp1:((256^1:Nat):Int)=256:=by decide
theorem pp4:((256^4:Nat):Int)=4294967296:=by decide
theorem pp6:((256^6:Nat):Int)=281474976710656:=by decide
structure Wd where
 man:List UInt8
 frm:Int
 deriving DecidableEq
def Wd.sv(w:Wd):f8:=[.byt w.man .no,.int .i64 w.frm]
def oc(w:Wd):Prop:=w.man.length=32/\0<=w.frm/\w.frm<=1099511627776
instance (w:Wd):Decidable (oc w):=by unfold oc;infer_instance
def fU(w:Wd):d9:=if oc w then 22::(w.man++be 6 (aQ.wrap w.frm))else []
theorem f35(w:Wd):call T 35 [.agg w.sv] [] 0=some ⟨.byt (fU w) .no,[],[]⟩:=by
 obtain⟨m,f⟩:=w;unfold fU oc Wd.sv;rw[aj xyX]
 by_cases J:m.length=32
 ·have y:(m.length:Int)=32:=by omega
  by_cases E:f<0
  ·have C:¬(m.length=32/\0<=f/\f<=1099511627776):=by omega
   simp only[go_sem,Qg,Qj,Qk,Ql,Qm,reduceCtorEq,reduceIte,y,E,C]
  ·by_cases I:1099511627776<f
   ·have C:¬(m.length=32/\0<=f/\f<=1099511627776):=by omega
    simp only[go_sem,Qg,Qj,Qk,Ql,Qm,reduceCtorEq,reduceIte,y,E,I,C]
   ·have C:m.length=32/\0<=f/\f<=1099511627776:=by omega
    have F:=f64 (22::m) 6 f (by decide) (by decide) (by rw[al,J];decide);rw[c6]at F;simp only[go_sem,Qd,Qe,Qf,Qg,Qi,Qj,Qk,Ql,Qm,reduceCtorEq,reduceIte,J,E,I,C,F,GK,bp,aF]
    trace_state
 ·have y:¬(m.length:Int)=32:=by omega
  have C:¬(m.length=32/\0<=f/\f<=1099511627776):=by omega
  simp only[go_sem,Qg,Qj,Qk,Ql,Qm,reduceCtorEq,reduceIte,y,C]
def wT(B:d9):Int×Rs:=uR B 1 ⟨0,0⟩
def wM(B:d9):d9×Rs:=wR B 32 (wT B).2
def wF(B:d9):Int×Rs:=uR B 6 (wM B).2
def wdP(B:d9):Prop:=eR B (wF B).2=0/\(wT B).1=22/\(wF B).1<=1099511627776
instance (B:List UInt8):Decidable (wdP B):=by unfold wdP;infer_instance
def lK(B:d9):Option Wd:=if wdP B then some ⟨(wM B).1,(wF B).1⟩else none
def wdO:Option Wd->SV
 |some w=> .tup [.agg w.sv,.int .i64 0]
 |none=> .tup [.agg [.byt [] .no,.int .i64 0],.int .i64 30]
theorem f49(B:d9)(O:B.length<=1000000000):call T 49 [.byt B .no] [] 0=some ⟨wdO (lK B),[],[]⟩:=by
 have o0:dU B ⟨0,0⟩:=⟨aY _⟩;have o1:dU B (wT B).2:=eV o0;have o2:dU B (wM B).2:=U0 o1;have o3:dU B (wF B).2:=eV o2;have g0:=f74 B O;have E:=f75 B O 1 (by decide) (by decide) ⟨0,0⟩ o0;have C:=f78 B O 32 (by decide) (wT B).2 o1;have y:=f75 B O 6 (by decide) (by decide) (wM B).2 o2;have I:=f79 B O (wF B).2 o3;change call T 75 _ _ _=some ⟨.int .i64 (wT B).1,[(0,rdO B 60 (wT B).2)],[60]⟩at E;change call T 78 _ _ _=some ⟨.byt (wM B).1 .no,[(0,rdO B 60 (wM B).2)],[60]⟩at C;change call T 75 _ _ _=some ⟨.int .i64 (wF B).1,[(0,rdO B 60 (wF B).2)],[60]⟩at y;rw[c1]at E;rw[c32]at C;rw[c6]at y
 by_cases L:wdP B
 ·rw[show lK B=some ⟨(wM B).1,(wF B).1⟩from if_pos L]
  obtain⟨J,F,h4⟩:=L;have Q:¬1099511627776<(wF B).1:=by omega
  generalize wT B=t at*;generalize wM B=m at*;generalize wF B=f at*;obtain⟨W,t2⟩:=t;obtain⟨m1,m2⟩:=m;obtain⟨f1,Z⟩:=f;simp only[rdO,az]at g0 E C y I J F Q ⊢;generalize eR B Z=e at*;rw[aj xvv];simp only[go_sem,Qg,Qi,Qj,Qk,Ql,Qm,reduceCtorEq,reduceIte,g0,E,C,y,I,GH,rA,BD,GG,J,F,Q,wdO,Wd.sv]
 ·rw[show lK B=none from if_neg L]
  unfold wdP at L;generalize wT B=t at*;generalize wM B=m at*;generalize wF B=f at*;obtain⟨W,t2⟩:=t;obtain⟨m1,m2⟩:=m;obtain⟨f1,Z⟩:=f;simp only[rdO,az]at g0 E C y I L ⊢;generalize eR B Z=e at*;rw[aj xvv]
  by_cases J:e=0
  ·by_cases F:W=22
   ·have Q:1099511627776<f1:=by omega
    simp only[go_sem,Qg,Qi,Qj,Qk,Ql,Qm,reduceCtorEq,reduceIte,g0,E,C,y,I,GH,rA,BD,GG,J,F,Q,wdO]
   ·simp only[go_sem,Qg,Qi,Qj,Qk,Ql,Qm,reduceCtorEq,reduceIte,g0,E,C,y,I,GH,rA,BD,GG,J,F,wdO]
  ·by_cases F:W=22
   ·simp only[go_sem,Qg,Qi,Qj,Qk,Ql,Qm,reduceCtorEq,reduceIte,g0,E,C,y,I,GH,rA,BD,GG,J,F,wdO]
   ·simp only[go_sem,Qg,Qi,Qj,Qk,Ql,Qm,reduceCtorEq,reduceIte,g0,E,C,y,I,GH,rA,BD,GG,J,F,wdO]
theorem f54(B:d9)(Q:B.length<=1000000000):call T 54 [.byt B .no] [] 0=some ⟨wdO (lK B),[],[]⟩:=by
 have o0:dU B ⟨0,0⟩:=⟨aY _⟩;have o1:dU B (wT B).2:=eV o0;have o2:dU B (wM B).2:=U0 o1;have o3:dU B (wF B).2:=eV o2;have g0:=f93 B;have E:=f94 B Q 1 (by decide) (by decide) ⟨0,0⟩ o0;have C:=f96 B Q 32 (by decide) (wT B).2 o1;have y:=f94 B Q 6 (by decide) (by decide) (wM B).2 o2;have I:=f97 B Q (wF B).2 o3;change call T 94 _ _ _=some ⟨.int .i64 (wT B).1,[(0,rqO B (wT B).2)],[]⟩at E;change call T 96 _ _ _=some ⟨.byt (wM B).1 .no,[(0,rqO B (wM B).2)],[]⟩at C;change call T 94 _ _ _=some ⟨.int .i64 (wF B).1,[(0,rqO B (wF B).2)],[]⟩at y;rw[c1]at E;rw[c32]at C;rw[c6]at y
 by_cases L:wdP B
 ·rw[show lK B=some ⟨(wM B).1,(wF B).1⟩from if_pos L]
  obtain⟨J,F,h4⟩:=L;have O:¬1099511627776<(wF B).1:=by omega
  generalize wT B=t at*;generalize wM B=m at*;generalize wF B=f at*;obtain⟨W,t2⟩:=t;obtain⟨m1,m2⟩:=m;obtain⟨f1,Z⟩:=f;simp only[rqO,az]at g0 E C y I J F O ⊢;generalize eR B Z=e at*;rw[aj xvt];simp only[go_sem,Qg,Qi,Qj,Qk,Ql,Qm,reduceCtorEq,reduceIte,g0,E,C,y,I,Jq,rz,Jp,GE,J,F,O,wdO,Wd.sv]
 ·rw[show lK B=none from if_neg L]
  unfold wdP at L;generalize wT B=t at*;generalize wM B=m at*;generalize wF B=f at*;obtain⟨W,t2⟩:=t;obtain⟨m1,m2⟩:=m;obtain⟨f1,Z⟩:=f;simp only[rqO,az]at g0 E C y I L ⊢;generalize eR B Z=e at*;rw[aj xvt]
  by_cases J:e=0
  ·by_cases F:W=22
   ·have O:1099511627776<f1:=by omega
    simp only[go_sem,Qg,Qi,Qj,Qk,Ql,Qm,reduceCtorEq,reduceIte,g0,E,C,y,I,Jq,rz,Jp,GE,J,F,O,wdO]
   ·simp only[go_sem,Qg,Qi,Qj,Qk,Ql,Qm,reduceCtorEq,reduceIte,g0,E,C,y,I,Jq,rz,Jp,GE,J,F,wdO]
  ·by_cases F:W=22
   ·simp only[go_sem,Qg,Qi,Qj,Qk,Ql,Qm,reduceCtorEq,reduceIte,g0,E,C,y,I,Jq,rz,Jp,GE,J,F,wdO]
   ·simp only[go_sem,Qg,Qi,Qj,Qk,Ql,Qm,reduceCtorEq,reduceIte,g0,E,C,y,I,Jq,rz,Jp,GE,J,F,wdO]
theorem f41(v w:Wd)(h:v.man.length<=140737488355328):call T 41 [.agg v.sv,.agg w.sv] [] 0=some ⟨.bool (decide (v=w)),[],[]⟩:=by
 obtain⟨a,b⟩:=v;obtain⟨c,d⟩:=w;have g:=f31 a c h
 by_cases y:b=d
 ·have e:decide ((⟨a,b⟩:Wd)=⟨c,d⟩)=decide (a=c):=by subst y;simp
  rw[e];unfold Wd.sv;rw[aj xvx];simp only[go_sem,Qg,Qj,Qk,Ql,Qm,reduceCtorEq,reduceIte,g,vg,y]
 ·have e:decide ((⟨a,b⟩:Wd)=⟨c,d⟩)=false:=by simp[y]
  rw[e];unfold Wd.sv;rw[aj xvx];simp only[go_sem,Qg,Qj,Qk,Ql,Qm,reduceCtorEq,reduceIte,y]
theorem lJ(w:Wd)(h:oc w):(fU w).length=39:=by rw[fU,if_pos h,al,ae,gr,h.1]
theorem zT(w:Wd)(h:oc w):lK (fU w)=some w:=by
 have L:be 6 (aQ.wrap w.frm)=bu 6 w.frm:=rfl;have e:fU w=[]++([22]++(w.man++bu 6 w.frm)):=by rw[fU,if_pos h,L];rfl
 have E:wT (fU w)=(22,⟨1,0⟩):=by have:=jO (B:=fU w) (P:=[]) (X:=[22]) 1 e rfl;exact this
 have I:fU w=[22]++(w.man++bu 6 w.frm):=e
 have y:wM (fU w)=(w.man,⟨33,0⟩):=by have:=xbe (B:=fU w) (P:=[22]) (X:=w.man) 32 I h.1;rw[ae,h.1]at this;unfold wM;rw[E];exact this
 have O:fU w=([22]++w.man)++(bu 6 w.frm++ []):=by rw[bA,ay];exact I
 have hn:=kx 6 w.frm h.2.1 (by rw[pp6];have:=h.2.2;omega) (by have:=h.2.2;omega)
 have F:wF (fU w)=(w.frm,⟨39,0⟩):=by
  have:=jO (B:=fU w) (P:=[22]++w.man) (X:=bu 6 w.frm) 6 O (gr _ _);have C:([22]++w.man).length=33:=by rw[ae,h.1];rfl
  have Q:([22]++w.man++bu 6 w.frm).length=39:=by rw[ae,C,bu,gr]
  rw[C,Q,hn]at this;unfold wF;rw[y];exact this
 have J:wdP (fU w):=by unfold wdP;rw[F,E];refine⟨?_,rfl,h.2.2⟩;unfold eR;rw[lJ w h];rfl
 unfold lK;rw[if_pos J,y,F]
end Go.Proofs.YtbfnljmmepcbfaaGreatDoor
