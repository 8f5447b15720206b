/- Contracts. No condition. -/
import Derived.Test.YtmhhnklkcmpdkaaGreatDoorTaPA
open Int renaming natCast_zero -> aA, tmod_eq_emod_of_nonneg -> fv
open Go.IntKind renaming i64 -> ai
open List renaming append_assoc -> ay, append_nil -> aZ, cons_append -> br, drop_eq_getElem_cons -> aF, drop_eq_nil_of_le -> ct, drop_length -> bB, drop_zero -> bj, flatMap_cons -> ia, getD_eq_getElem?_getD -> aa, getElem?_eq_getElem -> ab, getElem?_eq_none -> eH, getElem?_map -> aN, getElem?_range -> cM, getElem_mem -> aU, length_append -> ac, length_cons -> ah, length_map -> aC, length_nil -> au, length_replicate -> dG, length_singleton -> aD, length_take -> av, map_append -> cz, map_cons -> aG, map_nil -> cV, mem_append -> an, mem_cons -> al, nil_append -> aR, not_mem_nil -> bA, range -> bQ, replicate -> aJ, singleton_append -> cf, take_of_length_le -> bh
open Nat renaming le_refl -> bc, mod_eq_of_lt -> dF, zero_add -> cd, zero_le -> bC
open Option renaming getD_some -> aO
open UInt8 renaming ofInt -> dQ, ofNat -> aQ
set_option maxRecDepth 100000
set_option maxHeartbeats 16000000
set_option linter.unusedSimpArgs false
set_option linter.unusedVariables false
namespace Go.Proofs.YtmhhnklkcmpdkaaGreatDoor
open Go.Sy
open UInt8 renaming reduceLT -> Q0, reduceLE -> Q1
open Int renaming reduceToNat -> Q2, reduceLE -> Q3, reduceLT -> Q4, reduceEq -> Q5, reduceNe -> Q6, reduceNeg -> Q7, reduceAdd -> Q8, reduceSub -> Q9, reduceMul -> Qa
open Nat renaming reducePow -> Qb, reduceDiv -> Qc, reduceMod -> Qd, reduceAdd -> Qe, reduceSub -> Qf, reduceMul -> Qg, reduceLT -> Qh, reduceLeDiff -> Qi, reduceEqDiff -> Qj, reduceBEq -> Qk
def frF(h:List d9):d9:=h.flatMap fun X=>w4 (X.length:Int)++X
def frL(t:Int)(h:List d9):d9:=dQ t::frF h
def hsh(t:Int)(h:List d9):d9:=sha (frL t h)
theorem R4(t:Int)(X:d9):frL t [X]=frame t X:=by simp[frL,frF,frame]
theorem RY(t:Int)(X:d9):hsh t [X]=O6 t X:=by rw[hsh,R4];rfl
theorem nL(t:Int)(h:List d9):(hsh t h).length=32:=pr _
def h16(t:Int)(h:List d9):d9:=(hsh t h).take 16
theorem lU(t:Int)(h:List d9):(h16 t h).length=16:=by rw[h16,av,nL];rfl
def nz(c:UInt8)(h:d9):d9:=(bQ 64).map fun i=>h.getD i 0^^^c
def RB(h b:d9):d9:=sha (nz 92 h++sha (nz 54 h++b))
def NP(z h y:d9)(n:Nat):d9:=(RB z (w4 1++(h++0::(y++w4 (8*(n:Int)))))).take n
theorem we(h b:d9):(RB h b).length=32:=pr _
theorem wD(C y z:d9)(n:Nat)(h:n<=32):(NP C y z n).length=n:=by rw[NP,av,we];omega
def hi4(b:UInt8):Nat:=b.toNat/16
def lo4(b:UInt8):Nat:=b.toNat % 16
def dg(l:d9):t7:=l.flatMap fun b=> [hi4 b,lo4 b]
def sm(l:d9):Nat:=l.foldl (fun s b=>s+((15-hi4 b)+(15-lo4 b))) 0
def tW(h:d9):t7:=dg (h16 4 [h])++ [sm (h16 4 [h])/256,sm (h16 4 [h])/16 % 16,sm (h16 4 [h]) % 16]
theorem NO(l:d9):(dg l).length=2*l.length:=by
 induction l with
 |nil=>rfl
 |cons b r h=>simp only[dg,ia,ac,ah,au]at*;omega
theorem xhr(l:d9):∀d∈dg l,d<=15:=by intro d hd;simp only[dg,List.mem_flatMap]at hd;obtain⟨b,_,h⟩:=hd;have:=b.toNat_lt;simp only[al,bA,or_false]at h;rcases h with rfl|rfl<;>simp only[hi4,lo4]<;>omega
theorem Te(l:d9)(s:Nat):l.foldl (fun s b=>s+((15-hi4 b)+(15-lo4 b))) s<=s+30*l.length:=by
 induction l generalizing s with
 |nil=>simp
 |cons b r h=>rw[List.foldl_cons,ah];have:=h (s+((15-hi4 b)+(15-lo4 b)));omega
theorem wC(h:d9):(tW h).length=35:=by rw[tW,ac,NO,lU];rfl
theorem SC(y:d9):∀d∈tW y,d<=15:=by
 intro d hd;rcases an.1 hd with h|h
 ·exact xhr _ d h
 ·have z:=Te (h16 4 [y]) 0
  rw[lU]at z;have C:sm (h16 4 [y])<=480:=by unfold sm;omega
  simp only[al,bA,or_false]at h;rcases h with rfl|rfl|rfl<;>omega
theorem Gj(h:d9)(c:Nat)(y:c<35):(tW h).getD c 0<=15:=by refine SC h _ ?_;rw[aa,ab (by rw[wC];exact y),aO];exact aU _
def ub(n:Nat):UInt8:=dQ (n:Int)
def P8(h c p:Nat)(x:d9):d9:=h16 1 [[ub h,ub c,ub p],x]
def pf(h c:Nat):Nat->Nat->d9->d9
 |_,0,x=>x
 |p,n+1,x=>pf h c (p+1) n (P8 h c p x)
theorem kV(y c:Nat):∀(n p:Nat)(x:d9),x.length=16->(pf y c p n x).length=16
 |0,_,_,h=>h
 |n+1,p,x,_=>kV y c n (p+1) _ (lU _ _)
def u9:d9:=[99,104,97,105,110]
def oX(y:d9)(h c:Nat):d9:=NP y u9 [ub h,ub c] 16
theorem jH(y:d9)(h c:Nat):(oX y h c).length=16:=wD _ _ _ _ (by decide)
def cat(n:Nat)(f:Nat->d9):d9:=(bQ n).flatMap f
theorem Gp(n:Nat)(f:Nat->d9):cat (n+1) f=cat n f++f n:=by simp[cat,List.range_succ]
theorem uc(f:Nat->d9):∀n,(∀c,c<n->(f c).length=16)->(cat n f).length=16*n
 |0,_=>rfl
 |n+1,h=>by rw[Gp,ac,uc f n (fun c y=>h c (by omega)),h n (by omega)];omega
def S6(h:Nat)(y:d9):d9:=h16 2 [[ub h],y]
def pubL(y:d9)(h:Nat):d9:=S6 h (cat 35 fun c=>pf h c 0 15 (oX y h c))
def xk(y:d9)(h:Nat)(z:d9):d9:=cat 35 fun c=>pf h c 0 ((tW z).getD c 0) (oX y h c)
theorem fF(y:d9)(h:Nat):(pubL y h).length=16:=lU _ _
theorem mO(y:d9)(h:Nat)(z:d9):(xk y h z).length=560:=uc _ 35 fun c _=>kV _ _ _ _ _ (jH _ _ _)
def xev(h i:Nat)(a b:d9):d9:=h16 3 [[ub h,ub i],a,b]
def Tf:d9:=[115,105,103,110,101,114]
def lsV(y:d9)(h:Nat):d9:=NP y Tf [ub h] 32
theorem lQ(y:d9)(h:Nat):(lsV y h).length=32:=wD _ _ _ _ (by decide)
def lvs(y:d9)(h n:Nat):List d9:=(bQ n).map fun i=>pubL (lsV y h) i
def xeq(i:Nat):List d9->d9
 |[a,b]=>if i=0 then b else a
 |_=> []
def th(z:d9)(h y:Nat)(C:d9):d9:=ub y::(xk (lsV z h) y C++xeq y (lvs z h (2^h)))
theorem xkV(v:Int)(C:0<=v)(E:v<4294967296):call T 295 [.int .i64 v] [] 0=some ⟨.byt (w4 v) (.id 60),[],[60]⟩:=by have h:min 24 64=24:=rfl;have y:min 16 64=16:=rfl;have z:min 8 64=8:=rfl;rw[am xhB];simp only[go_sem,Q0,Q1,Q2,Q3,Q4,Q5,Q6,Q7,Q8,Q9,Qa,Qb,Qc,Qd,Qe,Qf,Qg,Qh,Qi,Qj,Qk,reduceCtorEq,reduceIte,w4,kq,h,y,z]
def xr(c:UInt8)(L:d9)(i:Nat):d9:=(L.take i).map (· ^^^c)++L.drop i
theorem kZ(c:UInt8)(K:d9):(nz c K).length=64:=by unfold nz;rw[aC,List.length_range]
def mk(c:UInt8)(K:d9)(i:Nat):d9:=(nz c K).take i++aJ (64-i) 0
theorem Cc(c:UInt8)(K:d9):mk c K 0=aJ 64 0:=by simp[mk]
theorem Cd(c:UInt8)(K:d9):mk c K 64=nz c K:=by have:=kZ c K;simp[mk,bh,this]
theorem NB(c:UInt8)(K:d9)(i:Nat)(h:i<=64):(mk c K i).length=64:=by rw[mk,ac,av,kZ,dG];omega
theorem FF(c:UInt8)(K:d9)(i:Nat)(h:i<64):(nz c K)[i]? =some (K.getD i 0^^^c):=by unfold nz;rw[aN,cM h];rfl
theorem NA(c:UInt8)(K:d9)(i:Nat)(h:i<64):(mk c K i).set i (K.getD i 0^^^c)=mk c K (i+1):=by
 have y:((nz c K).take i).length=i:=by rw[av,kZ];omega
 unfold mk;rw[List.set_append_right _ _ (by rw[y];exact bc _),y,Nat.sub_self,show 64-i=(64-(i+1))+1 from by omega,List.replicate_succ,List.set_cons_zero,List.take_add_one,FF c K i h,ay];rfl
theorem xmi(K M:d9)(O:K.length<=64):∀(n i:Nat),64-i=n->i<=64->
 run T (.loop tr) ⟨[(0,.byt K .no),(1,.byt M .no),(5,.psl 114 1 0 64 (some 64)),(6,.psl 115 1 0 64 (some 64)),(7,.int .i64 i)],[(114,.bar (mk 54 K i)),(115,.bar (mk 92 K i))],[]⟩=
 some (.x 0,⟨[(1,.byt M .no),(5,.psl 114 1 0 64 (some 64)),(6,.psl 115 1 0 64 (some 64))],[(114,.bar (mk 54 K 64)),(115,.bar (mk 92 K 64))],[]⟩):=by
 intro n;induction n with
 |zero=>
  intro i J C;have hi:i=64:=by omega
  subst hi;rw[aj];simp only[c64,go_sem,Q0,Q1,Q2,Q3,Q4,Q5,Q6,Q7,Q8,Q9,Qa,Qb,Qc,Qd,Qe,Qf,Qg,Qh,Qi,Qj,Qk,reduceCtorEq,reduceIte]
 |succ n L=>
  intro i J C;have h:=L (i+1) (by omega) (by omega);have E:=cX i (by omega);have z:(i:Int)<64:=by omega
  have hn:i<64:=by omega
  have I:=NB 54 K i C;have F:=NB 92 K i C;rw[<-NA 54 K i hn,<-NA 92 K i hn]at h;rw[aj]
  by_cases H:i<K.length
  ·have y:(i:Int)<(K.length:Int):=by omega
   simp only[go_sem,Q0,Q1,Q2,Q3,Q4,Q5,Q6,Q7,Q8,Q9,Qa,Qb,Qc,Qd,Qe,Qf,Qg,Qh,Qi,Qj,Qk,reduceCtorEq,reduceIte,z,E,hn,H,y,I,F,h]
  ·have y:¬(i:Int)<(K.length:Int):=by omega
   have hz:K.getD i 0=0:=by rw[aa,eH (by omega)];rfl
   rw[hz]at h;simp only[go_sem,Q0,Q1,Q2,Q3,Q4,Q5,Q6,Q7,Q8,Q9,Qa,Qb,Qc,Qd,Qe,Qf,Qg,Qh,Qi,Qj,Qk,reduceCtorEq,reduceIte,z,E,hn,H,y,I,F,h]
theorem xmX(K B:d9)(h:K.length<=64)(H:B.length<=1000000000):call T 296 [.byt K .no,.byt B .no] [] 0=some ⟨.byt (RB K B) .no,[],[]⟩:=by
 have g:=xmi K B h 64 0 rfl (by omega);rw[Cc,Cc,Cd,Cd]at g;simp only[aA]at g;have C:=kZ 54 K;have z:=kZ 92 K;have g3:=Sh (nz 54 K++B) (by rw[ac];omega);have F:(sha (nz 54 K++B)).length=32:=pr _;have g4:=Sh (nz 92 K++sha (nz 54 K++B)) (by rw[ac];omega);have y:¬(64:Int)<K.length:=by omega
 have c1:64+B.length<=140737488355328:=by omega
 have E:(nz 54 K).take 64=nz 54 K:=bh (by rw[C];exact bc _);have t2:(nz 92 K).take 64=nz 92 K:=bh (by rw[z];exact bc _);rw[am xhA];simp only[go_sem,Q0,Q1,Q2,Q3,Q4,Q5,Q6,Q7,Q8,Q9,Qa,Qb,Qc,Qd,Qe,Qf,Qg,Qh,Qi,Qj,Qk,reduceCtorEq,reduceIte,y,g,C,z,E,t2,c1];simp only[go_sem,Q0,Q1,Q2,Q3,Q4,Q5,Q6,Q7,Q8,Q9,Qa,Qb,Qc,Qd,Qe,Qf,Qg,Qh,Qi,Qj,Qk,reduceCtorEq,reduceIte,c1,F,g3,g4,Et,RB,z,t2]
theorem f244(K h y:d9)(n:Nat)(h1:1<=n)(L:n<=32)(O:K.length<=64)(Z:h.length<=1000)(hc:y.length<=1000):
 call T 244 [.byt K .no,.str h,.byt y .no,.int .i64 n] [] 0=some ⟨.byt (NP K h y n) .no,[],[]⟩:=by
 have Q:¬(n:Int)<1:=by omega
 have a2:¬(1024:Int)<n:=by omega
 have a3:0<n:=by omega
 have a4:¬32<n:=by omega
 have E:ai.wrap (8*(n:Int))=8*(n:Int):=w64 (by omega) (by omega);have k2:ai.wrap 2=2:=rfl;have g1:=xkV (8*(n:Int)) (by omega) (by omega);have F:=xkV 1 (by omega) (by omega);have g3:=xmX K (w4 1++(h++0::(y++w4 (8*(n:Int))))) O (by simp[w4];omega);have C:=we K (w4 1++(h++0::(y++w4 (8*(n:Int)))));have z:∀x,(w4 x).length=4:=fun _=>rfl
 have c1:h.length<=140737488355327:=by omega
 have c2:h.length+1+y.length<=140737488355328:=by omega
 have c3:h.length+(y.length+1)+4<=140737488355328:=by omega
 have I:4+h.length<=140737488355328:=by omega
 have H:4+h.length<=140737488355327:=by omega
 have J:4+(h.length+1)+y.length<=140737488355328:=by omega
 have W:4+(h.length+(y.length+1))<=140737488355324:=by omega
 rw[am xhM];simp only[go_sem,Q0,Q1,Q2,Q3,Q4,Q5,Q6,Q7,Q8,Q9,Qa,Qb,Qc,Qd,Qe,Qf,Qg,Qh,Qi,Qj,Qk,reduceCtorEq,reduceIte,Q,a2];rw[aj];simp only[go_sem,Q0,Q1,Q2,Q3,Q4,Q5,Q6,Q7,Q8,Q9,Qa,Qb,Qc,Qd,Qe,Qf,Qg,Qh,Qi,Qj,Qk,reduceCtorEq,reduceIte,a3,E,g1,F,xiz,xiy,g3,z,I,H,J,W,k2];unfold NP;generalize RB K (w4 1++(h++0::(y++w4 (8*(n:Int)))))=X at*;have c6:X.length<=140737488355328:=by omega
 simp only[C,c6];rw[aj];simp only[go_sem,Q0,Q1,Q2,Q3,Q4,Q5,Q6,Q7,Q8,Q9,Qa,Qb,Qc,Qd,Qe,Qf,Qg,Qh,Qi,Qj,Qk,reduceCtorEq,reduceIte,C,a4,L]
def bys(h:List d9):d8:=h.map fun X=> [.byt X .no]
theorem Cw(h:List d9):(bys h).length=h.length:=by simp[bys]
theorem SM(y:List d9)(i:Nat)(h:i<y.length):(bys y).getD i []=[.byt (y.getD i []) .no]:=by simp[bys,aa,h]
theorem Gb(y:List d9)(i:Nat)(h:i<y.length):frF (y.drop i)=w4 ((y.getD i []).length:Int)++(y.getD i []++frF (y.drop (i+1))):=by
 have:y.drop i=y.getD i []::y.drop (i+1):=by rw[aF h,aa,ab h,aO]
 rw[this];simp[frF]
theorem xmr(h:List d9)(hl:h.length<=100)(Z:∀i,i<h.length->(h.getD i []).length<=1000000000):∀(n i:Nat)(acc:d9),h.length-i=n->i<=h.length->acc.length+(frF (h.drop i)).length<=1000000000000->
 run T (.loop zh) ⟨[(1,.lst 1 (bys h) .no),(5,.byt acc (.id 105)),(6,.int .i64 i)],[],[105]⟩=
 some (.x 0,⟨[(5,.byt (acc++frF (h.drop i)) (.id 105))],[],[105]⟩):=by
 intro n;induction n with
 |zero=>
  intro i acc O h1 H;have hi:i=h.length:=by omega
  have y:=Cw h;subst hi;rw[aj];simp only[go_sem,Q0,Q1,Q2,Q3,Q4,Q5,Q6,Q7,Q8,Q9,Qa,Qb,Qc,Qd,Qe,Qf,Qg,Qh,Qi,Qj,Qk,reduceCtorEq,reduceIte,y,bB,frF,List.flatMap_nil,aZ]
 |succ n W=>
  intro i acc O h1 H;have hi:i<h.length:=by omega
  have J:(i:Int)<(h.length:Int):=by omega
  have Q:=cX i (by omega);have hX:=Z i hi;have F:=W (i+1) (acc++(w4 ((h.getD i []).length:Int)++h.getD i []));rw[Gb h i hi]at H ⊢;have L:=SM h i hi;have y:=Cw h;generalize hc:h.getD i []=X at*;simp only[ac,w4,ah,au]at H F;have z:=F (by omega) (by omega) (by omega);have c1:acc.length+4<=140737488355328:=by omega
  have c2:acc.length+4+X.length<=140737488355328:=by omega
  have c3:acc.length+(4+X.length)<=140737488355328:=by omega
  have C:min 24 64=24:=rfl;have E:min 16 64=16:=rfl;have I:min 8 64=8:=rfl;simp only[ay,br,aR,kq]at z;rw[aj];simp only[go_sem,Q0,Q1,Q2,Q3,Q4,Q5,Q6,Q7,Q8,Q9,Qa,Qb,Qc,Qd,Qe,Qf,Qg,Qh,Qi,Qj,Qk,reduceCtorEq,reduceIte,hi,J,L,y,hc,Q,c1,c2,c3,C,E,I,w4,kq,ay,z]
theorem xg4(t:Int)(h:List d9)(y:h.length<=100)(z:∀i,i<h.length->(h.getD i []).length<=1000000000)(C:(frF h).length<=100000000000):
 call T 206 [.int .i64 t,.lst 1 (bys h) .no] [] 0=some ⟨.byt (frL t h) .no,[],[]⟩:=by
 have g:=xmr h y z _ 0 [dQ t] rfl (bC _) (by rw[bj,aD];omega);simp only[aA,bj,cf]at g;rw[am Zi];simp only[go_sem,Q0,Q1,Q2,Q3,Q4,Q5,Q6,Q7,Q8,Q9,Qa,Qb,Qc,Qd,Qe,Qf,Qg,Qh,Qi,Qj,Qk,reduceCtorEq,reduceIte,g,frL]
theorem YW(t:Int)(h:List d9)(z:h.length<=100)(C:∀i,i<h.length->(h.getD i []).length<=1000000000)(E:(frF h).length<=10000000000):
 call T 133 [.int .i64 t,.lst 1 (bys h) .no] [] 0=some ⟨.byt (hsh t h) .no,[],[]⟩:=by
 have g1:=xg4 t h z C (by omega);have y:=Sh (frL t h) (by unfold frL;rw[ah];omega);rw[am Zp];simp only[go_sem,Q0,Q1,Q2,Q3,Q4,Q5,Q6,Q7,Q8,Q9,Qa,Qb,Qc,Qd,Qe,Qf,Qg,Qh,Qi,Qj,Qk,reduceCtorEq,reduceIte,g1,y,ZF,Et,hsh]
theorem xnt(A B:d9)(y:A.length<=1000000000)(h:B.length<=1000000000):∀i,i< [A,B].length->([A,B].getD i []).length<=1000000000:=fun i hi=>by
 match i,hi with
 |0,_=>exact y
 |1,_=>exact h
theorem xns(A B C:d9)(y:A.length<=1000000000)(h:B.length<=1000000000)(z:C.length<=1000000000):∀i,i< [A,B,C].length->([A,B,C].getD i []).length<=1000000000:=fun i hi=>by
 match i,hi with
 |0,_=>exact y
 |1,_=>exact h
 |2,_=>exact z
theorem GH(x:Int):(w4 x).length=4:=rfl
theorem xlf(t:Int)(A B:d9)(y:A.length<=1000000000)(h:B.length<=1000000000):call T 133 [.int .i64 t,.lst 1 [[.byt A .no],[.byt B .no]] .no] [] 0=some ⟨.byt (hsh t [A,B]) .no,[],[]⟩:=
 YW t [A,B] (by simp) (xnt A B y h) (by simp only[frF,ia,List.flatMap_nil,ac,GH,au];omega)
theorem xlu(t:Int)(A B C:d9)(z:A.length<=1000000000)(h:B.length<=1000000000)(y:C.length<=1000000000):call T 133 [.int .i64 t,.lst 1 [[.byt A .no],[.byt B .no],[.byt C .no]] .no] [] 0=some ⟨.byt (hsh t [A,B,C]) .no,[],[]⟩:=
 YW t [A,B,C] (by simp) (xns A B C z h y) (by simp only[frF,ia,List.flatMap_nil,ac,GH,au];omega)
theorem xmY(h:Nat)(x:d9)(z:x.length<=1000000):call T 293 [.int .i64 h,.byt x .no] [] 0=some ⟨.byt (S6 h x) .no,[],[]⟩:=by have g:=xlf 2 [ub h] x (by simp) (by omega);have y:=nL 2 [[ub h],x];unfold ub at g y;rw[am xhC];simp only[go_sem,Q0,Q1,Q2,Q3,Q4,Q5,Q6,Q7,Q8,Q9,Qa,Qb,Qc,Qd,Qe,Qf,Qg,Qh,Qi,Qj,Qk,reduceCtorEq,reduceIte,g,Es,y,c32,S6,h16,ub]
theorem xkW(h:d9)(y c:Nat)(z:h.length<=64):call T 275 [.byt h .no,.int .i64 y,.int .i64 c] [] 0=some ⟨.byt (oX h y c) .no,[],[]⟩:=by have g:=f244 h u9 [ub y,ub c] 16 (by decide) (by decide) z (by decide) (by simp);unfold u9 ub at g;rw[c16]at g;rw[am xhJ];simp only[go_sem,Q0,Q1,Q2,Q3,Q4,Q5,Q6,Q7,Q8,Q9,Qa,Qb,Qc,Qd,Qe,Qf,Qg,Qh,Qi,Qj,Qk,reduceCtorEq,reduceIte,g,Zz,oX,u9,ub]
theorem xmk(h c z:Nat)(O:z<=15):∀(n p:Nat)(x:d9),p+n=z->x.length<=1000000->
 run T (.loop y8) ⟨[(0,.int .i64 h),(1,.int .i64 c),(3,.int .i64 z),(4,.byt x .no),(11,.int .i64 p)],[],[]⟩=
 some (.x 0,⟨[(4,.byt (pf h c p n x) .no)],[],[]⟩):=by
 intro n;induction n with
 |zero=>
  intro p x H L;have F:p=z:=by omega
  subst F;rw[aj];simp only[go_sem,Q0,Q1,Q2,Q3,Q4,Q5,Q6,Q7,Q8,Q9,Qa,Qb,Qc,Qd,Qe,Qf,Qg,Qh,Qi,Qj,Qk,reduceCtorEq,reduceIte,pf]
 |succ n J=>
  intro p x H L;have y:=J (p+1) (P8 h c p x) (by omega) (by rw[P8,lU];omega);have C:(p:Int)<(z:Int):=by omega
  have I:=cX p (by omega);have g:=xlf 1 [ub h,ub c,ub p] x (by simp) (by omega);have E:=nL 1 [[ub h,ub c,ub p],x];unfold P8 h16 at y;unfold ub at g E y;rw[aj];simp only[go_sem,Q0,Q1,Q2,Q3,Q4,Q5,Q6,Q7,Q8,Q9,Qa,Qb,Qc,Qd,Qe,Qf,Qg,Qh,Qi,Qj,Qk,reduceCtorEq,reduceIte,C,I,g,Es,E,c32,y,pf,P8,h16,ub]
theorem xkX(y c p n z:Nat)(x:d9)(h:p+n=z)(E:z<=15)(C:x.length<=1000000):
 call T 274 [.int .i64 y,.int .i64 c,.int .i64 p,.int .i64 z,.byt x .no] [] 0=some ⟨.byt (pf y c p n x) .no,[],[]⟩:=by
 have g:=xmk y c z E n p x h C;rw[am xhK];simp only[go_sem,Q0,Q1,Q2,Q3,Q4,Q5,Q6,Q7,Q8,Q9,Qa,Qb,Qc,Qd,Qe,Qf,Qg,Qh,Qi,Qj,Qk,reduceCtorEq,reduceIte,g]
def dgs(l:t7):d8:=l.map fun(d:Nat)=> [.int .i64 (d:Int)]
theorem tX(l:t7):(dgs l).length=l.length:=by simp[dgs]
theorem SE(l:t7)(i:Nat)(h:i<l.length):(dgs l).getD i []=[.int .i64 ((l.getD i 0:Nat):Int)]:=by simp[dgs,aa,h]
theorem Cn(a b:t7):dgs (a++b)=dgs a++dgs b:=by simp[dgs]
theorem xdQ(b:UInt8):(aQ (b.toNat/2^min 4 8)).toNat=hi4 b:=by
 have e:(2:Nat)^min 4 8=16:=by decide
 have:=b.toNat_lt;unfold hi4;rw[e,UInt8.toNat_ofNat',dF (by omega)]
theorem xdL(b:UInt8):(b&&&15).toNat=lo4 b:=by unfold lo4;rw[UInt8.toNat_and];exact Nat.and_two_pow_sub_one_eq_mod b.toNat 4
theorem SF(M:d9)(i:Nat)(h:i<M.length):dg (M.drop i)=hi4 (M.getD i 0)::lo4 (M.getD i 0)::dg (M.drop (i+1)):=by rw[eE M i h];rfl
def smF(s:Nat)(l:d9):Nat:=l.foldl (fun s b=>s+((15-hi4 b)+(15-lo4 b))) s
theorem EV(s:Nat)(M:d9)(i:Nat)(h:i<M.length):smF s (M.drop i)=smF (s+((15-hi4 (M.getD i 0))+(15-lo4 (M.getD i 0)))) (M.drop (i+1)):=by rw[eE M i h];rfl
theorem xdP(b:UInt8):hi4 b<=15:=by have:=b.toNat_lt;unfold hi4;omega
theorem xdK(b:UInt8):lo4 b<=15:=by unfold lo4;omega
def ya(c:Nat)(f:Nat->d9):d9:=((bQ 35).drop c).flatMap f
theorem sL(f:Nat->d9):ya 0 f=cat 35 f:=by unfold ya cat;rw[bj]
theorem wJ(f:Nat->d9):ya 35 f=[]:=by unfold ya;rw[ct (by rw[List.length_range];exact bc _)];rfl
theorem sN(c:Nat)(h:c<35)(f:Nat->d9):ya c f=f c++ya (c+1) f:=by unfold ya;rw[aF (by rw[List.length_range];exact h),List.getElem_range,ia]
theorem xml(M:d9)(hM:M.length=16):∀(n i:Nat)(acc:t7)(s:Nat),16-i=n->i<=16->acc.length=2*i->s<=30*i->
 run T (.loop y9) ⟨[(3,.byt M .no),(4,.lst 1 (dgs acc) (.id 104)),(5,.int .i64 s),(6,.int .i64 i)],[],[104]⟩=
 some (.x 0,⟨[(4,.lst 1 (dgs (acc++dg (M.drop i))) (.id 104)),(5,.int .i64 (smF s (M.drop i)))],[],[104]⟩):=by
 intro n;induction n with
 |zero=>
  intro i acc s J h1 Z W;have hi:i=16:=by omega
  subst hi;have hd:M.drop 16=[]:=ct (by omega);rw[hd,aj];simp only[c16,go_sem,Q0,Q1,Q2,Q3,Q4,Q5,Q6,Q7,Q8,Q9,Qa,Qb,Qc,Qd,Qe,Qf,Qg,Qh,Qi,Qj,Qk,reduceCtorEq,reduceIte,dg,smF,List.flatMap_nil,aZ,List.foldl_nil]
 |succ n Q=>
  intro i acc s J h1 Z W;have hi:i<16:=by omega
  have E:(i:Int)<16:=by omega
  have O:=cX i (by omega);have hh:=xdP (M.getD i 0);have hl:=xdK (M.getD i 0);have y:=Q (i+1) (acc++ [hi4 (M.getD i 0),lo4 (M.getD i 0)]) (s+((15-hi4 (M.getD i 0))+(15-lo4 (M.getD i 0)))) (by omega) (by omega) (by simp;omega) (by omega);have a1:=xdQ (M.getD i 0);have a2:=xdL (M.getD i 0);have H:=SF M i (by omega);have F:=EV s M i (by omega);generalize hc:M.getD i 0=z at*;have h:=tX acc;have w1:ai.wrap (30-((hi4 z:Nat):Int))=((30-hi4 z:Nat):Int):=wZ (by omega)
  have I:ai.wrap (((30-hi4 z:Nat):Int)-((lo4 z:Nat):Int))=(((15-hi4 z)+(15-lo4 z):Nat):Int):=wZ (by omega)
  have L:ai.wrap ((s:Int)+(((15-hi4 z)+(15-lo4 z):Nat):Int))=((s+((15-hi4 z)+(15-lo4 z)):Nat):Int):=wZ (by omega)
  have c1:(acc.length+2)*8<=140737488355328:=by omega
  have C:acc++dg (M.drop i)=acc++ [hi4 z,lo4 z]++dg (M.drop (i+1)):=by rw[H,ay];rfl
  rw[C,F];simp only[Cn,dgs,cz,aG,cV,ay,br,aR]at y h ⊢;rw[aj];simp only[go_sem,Q0,Q1,Q2,Q3,Q4,Q5,Q6,Q7,Q8,Q9,Qa,Qb,Qc,Qd,Qe,Qf,Qg,Qh,Qi,Qj,Qk,reduceCtorEq,reduceIte,hi,E,hM,hc,O,a1,a2,w1,I,L,c1,h,y,ay,br,aR]
theorem xm1(h:d9)(hm:h.length<=100000000):call T 273 [.byt h .no] [] 0=some ⟨.lst 1 (dgs (tW h)) .no,[],[]⟩:=by
 have g1:=xnj 4 h (by omega);rw[<-RY]at g1;have z:=lU 4 [h];have W:=nL 4 [h];have C:((32:Nat):Int)=32:=rfl;have L:=xml (h16 4 [h]) z 16 0 [] 0 rfl (by omega) rfl (by omega);have J:=Te (h16 4 [h]) 0;have es:smF 0 (h16 4 [h])=sm (h16 4 [h]):=rfl;rw[z]at J;change sm (h16 4 [h])<=0+30*16 at J;have y:=NO (h16 4 [h]);rw[z]at y;have H:=tX (dg (h16 4 [h]));unfold tW;have e0:dgs []=[]:=rfl;simp only[aA,bj,aR,es,Cn,e0]at L ⊢;have hu:(hsh 4 [h]).take 16=h16 4 [h]:=rfl;generalize Q:sm (h16 4 [h])=q at*;generalize dg (h16 4 [h])=ds at*
 have O:ai.wrap ((q:Int).tdiv 256)=((q/256:Nat):Int):=by rw[Int.tdiv_eq_ediv_of_nonneg (by omega),w64 (by omega) (by omega)];omega
 have Z:ai.wrap ((q:Int).tdiv 16)=((q/16:Nat):Int):=by rw[Int.tdiv_eq_ediv_of_nonneg (by omega),w64 (by omega) (by omega)];omega
 have F:((q/16:Nat):Int).tmod 16=((q/16 % 16:Nat):Int):=by rw[fv (by omega)];omega
 have I:(q:Int).tmod 16=((q % 16:Nat):Int):=by rw[fv (by omega)];omega
 have c3:(2*16+3)*8<=140737488355328:=by decide
 have E:((16:Nat):Int)=16:=rfl;rw[am xhL];simp only[go_sem,Q0,Q1,Q2,Q3,Q4,Q5,Q6,Q7,Q8,Q9,Qa,Qb,Qc,Qd,Qe,Qf,Qg,Qh,Qi,Qj,Qk,reduceCtorEq,reduceIte,g1,Es,W,C,hu,z,E,L];simp only[go_sem,Q0,Q1,Q2,Q3,Q4,Q5,Q6,Q7,Q8,Q9,Qa,Qb,Qc,Qd,Qe,Qf,Qg,Qh,Qi,Qj,Qk,reduceCtorEq,reduceIte,O,Z,F,I,H,y,c3,dgs,aG,cV]
 trace_state
theorem xmm(z:d9)(h:Nat)(W:z.length<=64)(F:Nat->d9)(hF:∀c,c<35->F c=pf h c 0 15 (oX z h c)):∀(n c:Nat)(acc:d9),35-c=n->c<=35->acc.length=16*c->
 run T (.loop uP) ⟨[(0,.byt z .no),(1,.int .i64 h),(5,.byt acc (.id 105)),(6,.int .i64 c)],[],[105]⟩=
 some (.x 0,⟨[(1,.int .i64 h),(5,.byt (acc++ya c F) (.id 105))],[],[105]⟩):=by
 intro n;induction n with
 |zero=>
  intro c acc J h1 Z;have hi:c=35:=by omega
  subst hi;rw[wJ,aj];simp only[c35,go_sem,Q0,Q1,Q2,Q3,Q4,Q5,Q6,Q7,Q8,Q9,Qa,Qb,Qc,Qd,Qe,Qf,Qg,Qh,Qi,Qj,Qk,reduceCtorEq,reduceIte,aZ]
 |succ n Q=>
  intro c acc J h1 Z;have I:c<35:=by omega
  have H:(c:Int)<35:=by omega
  have O:=cX c (by omega);have C:=kV h c 15 0 (oX z h c) (jH z h c);have gs:=xkW z h c W;have g1:=xkX h c 0 15 15 (oX z h c) rfl (by omega) (by rw[jH];decide);rw[<-hF c I]at C g1;rw[c0,c15]at g1;have E:=Q (c+1) (acc++F c) (by omega) (by omega) (by rw[ac,C];omega);rw[sN c I];rw[ay]at E;generalize L:F c=y at*;have c1:acc.length+y.length<=140737488355328:=by omega
  rw[aj];simp only[go_sem,Q0,Q1,Q2,Q3,Q4,Q5,Q6,Q7,Q8,Q9,Qa,Qb,Qc,Qd,Qe,Qf,Qg,Qh,Qi,Qj,Qk,reduceCtorEq,reduceIte,H,O,gs,g1,Zx,Zy,c1,E]
theorem xmG(y X Y:d9)(h:Nat)(F:h<=255)(z:run T (.loop uP) ⟨[(0,.byt y .no),(1,.int .i64 h),(5,.byt [] (.id 105)),(6,.int .i64 0)],[],[105]⟩=some (.x 0,⟨[(1,.int .i64 h),(5,.byt X (.id 105))],[],[105]⟩))
 (g4:call T 293 [.int .i64 h,.byt X .no] [] 0=some ⟨.byt Y .no,[],[]⟩):call T 239 [.byt y .no,.int .i64 h] [] 0=some ⟨.byt Y .no,[],[]⟩:=by
 have E:¬(h:Int)<0:=by omega
 have C:¬(255:Int)<h:=by omega
 rw[am xhN];simp only[go_sem,Q0,Q1,Q2,Q3,Q4,Q5,Q6,Q7,Q8,Q9,Qa,Qb,Qc,Qd,Qe,Qf,Qg,Qh,Qi,Qj,Qk,reduceCtorEq,reduceIte,E,C,z,g4,xiA]
theorem xmE(y:d9)(h:Nat)(I:y.length<=64)(H:h<=255)(F:Nat->d9)(E:∀c,c<35->F c=pf h c 0 15 (oX y h c)):call T 239 [.byt y .no,.int .i64 h] [] 0=some ⟨.byt (S6 h (cat 35 F)) .no,[],[]⟩:=by have C:=xmm y h I F E 35 0 [] rfl (by omega) rfl;have z:=uc F 35 (fun c z=>by rw[E c z];exact kV _ _ _ _ _ (jH _ _ _));rw[sL]at C;exact xmG y (cat 35 F) _ h H C (xmY h (cat 35 F) (by rw[z];decide))
theorem xeA(y:d9)(h:Nat)(C:y.length<=64)(z:h<=255):call T 239 [.byt y .no,.int .i64 h] [] 0=some ⟨.byt (pubL y h) .no,[],[]⟩:=
 xmE y h C z (fun c=>pf h c 0 15 (oX y h c)) (fun c _=>rfl)
theorem xmq(z:d9)(h:Nat)(D:t7)(hs:z.length<=64)(W:D.length=35)(hd:∀c,c<35->D.getD c 0<=15)(F:Nat->d9)(hF:∀c,c<35->F c=pf h c 0 (D.getD c 0) (oX z h c)):∀(n c:Nat)(acc:d9),35-c=n->c<=35->acc.length=16*c->
 run T (.loop uS) ⟨[(0,.byt z .no),(1,.int .i64 h),(7,.lst 1 (dgs D) .no),(8,.byt acc (.id 108)),(9,.int .i64 c)],[],[108]⟩=
 some (.x 0,⟨[(8,.byt (acc++ya c F) (.id 108))],[],[108]⟩):=by
 intro n;induction n with
 |zero=>
  intro c acc O h1 ha;have hi:c=35:=by omega
  subst hi;rw[wJ,aj];simp only[c35,go_sem,Q0,Q1,Q2,Q3,Q4,Q5,Q6,Q7,Q8,Q9,Qa,Qb,Qc,Qd,Qe,Qf,Qg,Qh,Qi,Qj,Qk,reduceCtorEq,reduceIte,aZ]
 |succ n ih=>
  intro c acc O h1 ha;have H:c<35:=by omega
  have J:(c:Int)<35:=by omega
  have Z:=cX c (by omega);have I:=tX D;have L:=SE D c (by omega);have C:=kV h c (D.getD c 0) 0 (oX z h c) (jH z h c);have gs:=xkW z h c hs;have g1:=xkX h c 0 (D.getD c 0) (D.getD c 0) (oX z h c) (cd _) (hd c H) (by rw[jH];decide);rw[<-hF c H]at C g1;rw[c0]at g1;have E:=ih (c+1) (acc++F c) (by omega) (by omega) (by rw[ac,C];omega);rw[sN c H];rw[ay]at E;generalize Q:F c=y at*;have c1:acc.length+y.length<=140737488355328:=by omega
  rw[aj];simp only[go_sem,Q0,Q1,Q2,Q3,Q4,Q5,Q6,Q7,Q8,Q9,Qa,Qb,Qc,Qd,Qe,Qf,Qg,Qh,Qi,Qj,Qk,reduceCtorEq,reduceIte,J,H,I,W,L,Z,gs,g1,Zx,Zy,c1,E]
theorem h91(y z X:d9)(D:t7)(h:Nat)(I:h<=255)(E:call T 273 [.byt z .no] [] 0=some ⟨.lst 1 (dgs D) .no,[],[]⟩)(C:run T (.loop uS) ⟨[(0,.byt y .no),(1,.int .i64 h),(7,.lst 1 (dgs D) .no),(8,.byt [] (.id 108)),(9,.int .i64 0)],[],[108]⟩=some (.x 0,⟨[(8,.byt X (.id 108))],[],[108]⟩)):
 call T 211 [.byt y .no,.int .i64 h,.byt z .no] [] 0=some ⟨.byt X .no,[],[]⟩:=by
 have H:¬(h:Int)<0:=by omega
 have F:¬(255:Int)<h:=by omega
 rw[am xh3];simp only[go_sem,Q0,Q1,Q2,Q3,Q4,Q5,Q6,Q7,Q8,Q9,Qa,Qb,Qc,Qd,Qe,Qf,Qg,Qh,Qi,Qj,Qk,reduceCtorEq,reduceIte,H,F,C,E,xiC]
theorem k91(z:d9)(h:Nat)(y:d9)(J:z.length<=64)(E:h<=255)(I:y.length<=100000000)(F:Nat->d9)(H:∀c,c<35->F c=pf h c 0 ((tW y).getD c 0) (oX z h c)):
 call T 211 [.byt z .no,.int .i64 h,.byt y .no] [] 0=some ⟨.byt (cat 35 F) .no,[],[]⟩:=by
 have C:=xmq z h (tW y) J (wC y) (Gj y) F H 35 0 [] rfl (by omega) rfl;rw[sL]at C;exact h91 z y (cat 35 F) (tW y) h E (xm1 y I) C
theorem xeD(y:d9)(h:Nat)(z:d9)(F:y.length<=64)(C:h<=255)(E:z.length<=100000000):call T 211 [.byt y .no,.int .i64 h,.byt z .no] [] 0=some ⟨.byt (xk y h z) .no,[],[]⟩:=
 k91 y h z F C E (fun c=>pf h c 0 ((tW z).getD c 0) (oX y h c)) (fun c _=>rfl)
theorem xmZ(h i:Nat)(a b:d9)(z:a.length<=1000000)(C:b.length<=1000000):call T 292 [.int .i64 h,.int .i64 i,.byt a .no,.byt b .no] [] 0=some ⟨.byt (xev h i a b) .no,[],[]⟩:=by have g:=xlu 3 [ub h,ub i] a b (by simp) (by omega) (by omega);have y:=nL 3 [[ub h,ub i],a,b];unfold ub at g y;rw[am xhD];simp only[go_sem,Q0,Q1,Q2,Q3,Q4,Q5,Q6,Q7,Q8,Q9,Qa,Qb,Qc,Qd,Qe,Qf,Qg,Qh,Qi,Qj,Qk,reduceCtorEq,reduceIte,g,Es,y,c32,xev,h16,ub]
theorem xkY(B:d9)(h:B.length<=1000000000):call T 238 [.byt B .no] [] 0=some ⟨.byt B .no,[],[]⟩:=by
 have c1:0+B.length<=140737488355328:=by omega
 have c2:B.length<=140737488355328:=by omega
 rw[am xhO];simp only[go_sem,Q0,Q1,Q2,Q3,Q4,Q5,Q6,Q7,Q8,Q9,Qa,Qb,Qc,Qd,Qe,Qf,Qg,Qh,Qi,Qj,Qk,reduceCtorEq,reduceIte,c1,c2,aR]
end Go.Proofs.YtmhhnklkcmpdkaaGreatDoor
