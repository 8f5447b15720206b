/- Contracts. No condition. -/
import Derived.Test.YtmhhnklkcmpdkaaGreatDoorTdPA
import Derived.Test.YtmhhnklkcmpdkaaGreatDoorTgPA
open Int renaming cast_ofNat_Int -> dw, natCast_zero -> aA, toNat_natCast -> fX
open Go.IntKind renaming i64 -> ai
open List renaming append_assoc -> ay, append_nil -> aZ, getD_eq_getElem?_getD -> aa, getElem?_eq_getElem -> ab, getElem_of_mem -> bH, length_append -> ac, length_cons -> ah, length_drop -> aX, length_nil -> au, length_singleton -> aD, length_take -> av, map_append -> cz, mem_cons_of_mem -> af, mem_cons_self -> aq, nil_append -> aR, take_of_length_le -> bh
open Nat renaming le_trans -> gf, zero_le -> bC
set_option maxRecDepth 100000
set_option maxHeartbeats 16000000
set_option linter.unusedSimpArgs false
set_option linter.unusedVariables false
namespace Go.Proofs.YtmhhnklkcmpdkaaGreatDoor
open Go.Sy
open UInt8 renaming reduceLT -> Q0, reduceLE -> Q1
open Int renaming reduceToNat -> Q2, reduceLE -> Q3, reduceLT -> Q4, reduceEq -> Q5, reduceNe -> Q6, reduceNeg -> Q7, reduceAdd -> Q8, reduceSub -> Q9, reduceMul -> Qa
open Nat renaming reducePow -> Qb, reduceDiv -> Qc, reduceMod -> Qd, reduceAdd -> Qe, reduceSub -> Qf, reduceMul -> Qg, reduceLT -> Qh, reduceLeDiff -> Qi, reduceEqDiff -> Qj, reduceBEq -> Qk
theorem gQ(k:Nat)(v:Int):(bu k v).length=k:=by unfold bu;exact eO _ _
theorem Eh{B P X S:d9}(m:Nat)(h:B=P++((bu 2 (X.length:Int)++X)++S))(J:X.length<=m)(L:X.length<65536):bR B m ⟨P.length,0⟩=(X,⟨(P++(bu 2 (X.length:Int)++X)).length,0⟩):=by
 have hn:nB (bu 2 (X.length:Int))=X.length:=by
  have I:((256^2:Nat):Int)=65536:=by decide
  have:=D6 2 (X.length:Int) (by omega) (by rw[I];omega) (by omega);omega
 have z:(bu 2 (X.length:Int)).length=2:=gQ ..;have C:B=P++(bu 2 (X.length:Int)++(X++S)):=by rw[h,ay (bu 2 _)]
 have y:B=(P++bu 2 (X.length:Int))++(X++S):=by rw[C,ay]
 obtain⟨F,a2⟩:=uy C;obtain⟨H,E⟩:=uy y;rw[z]at F a2;rw[ac,z]at H E;unfold bR;rw[if_pos rfl];simp only;rw[if_pos a2,F,hn,if_pos J,if_pos E,H];rw[ac,ac,z]
theorem ue(B X:d9)(h:X.length<65536):lW B X=B++(bu 2 (X.length:Int)++X):=by unfold lW bu;rw[bh (by omega),ay]
def d1(B:d9):Int×Rs:=uR B 1 ⟨0,0⟩
def d2(B:d9):Int×Rs:=uR B 4 (d1 B).2
def d3(B:d9):d9×Rs:=bR B 12 (d2 B).2
def d4(B:d9):d9×Rs:=bR B 64 (d3 B).2
def dX(B:d9):Img:=⟨(d1 B).1,(d3 B).1,(d2 B).1,(d4 B).1⟩
def dcI(B:d9):Img×Int:=if eR B (d4 B).2=0/\eW (dX B)=0 then(dX B,0)else(im0,30)
theorem Za(B:d9):iR B (d1 B).2/\iR B (d2 B).2/\iR B (d3 B).2/\iR B (d4 B).2:=by have z:iR B (d1 B).2:=Ta ⟨bC _⟩;have y:iR B (d2 B).2:=Ta z;have h:iR B (d3 B).2:=vb y;exact⟨z,y,h,vb h⟩
theorem xm3(B:d9)(h:B.length<=1000000000):call T 231 [.byt B .no] [] 0=some ⟨.tup [.agg (dcI B).1.sv,.int .i64 (dcI B).2],[],[]⟩:=by
 obtain⟨k1,k2,Z,L⟩:=Za B;have g0:=xk2 B h;have g1:=xeC B h 1 (by omega) (by omega) ⟨0,0⟩ ⟨bC _⟩;have y:=xeC B h 4 (by omega) (by omega) (d1 B).2 k1;have g3:=xk1 B h 12 (by omega) (d2 B).2 k2;have g4:=xk1 B h 64 (by omega) (d3 B).2 Z;have z:=xk0 B h (d4 B).2 L;have C:=O9 (dX B);change call T 229 _ _ _=some ⟨.int .i64 (d1 B).1,[(0,rdO B 60 (d1 B).2)],[60]⟩at g1;change call T 229 _ _ _=some ⟨.int .i64 (d2 B).1,[(0,rdO B 60 (d2 B).2)],[60]⟩at y;change call T 232 _ _ _=some ⟨.byt (d3 B).1 .no,[(0,rdO B 60 (d3 B).2)],[60]⟩at g3;change call T 232 _ _ _=some ⟨.byt (d4 B).1 .no,[(0,rdO B 60 (d4 B).2)],[60]⟩at g4;rw[c1]at g1;rw[c4]at y;rw[c12]at g3;rw[c64]at g4;unfold dcI;unfold dX at C ⊢;generalize (d1 B)=W at*;generalize (d2 B)=q2 at*;generalize (d3 B)=Q at*;generalize (d4 B)=q4 at*;obtain⟨J,s1⟩:=W;obtain⟨v2,s2⟩:=q2;obtain⟨v3,s3⟩:=Q;obtain⟨v4,O⟩:=q4;simp only[rdO,Img.sv]at*;simp only[aA,dw]at g1;generalize hE:eW ⟨J,v3,v2,v4⟩=E at*;generalize hF:eR B O=F at*;rw[am xhT]
 by_cases I:F=0
 ·subst I
  by_cases H:E=0
  ·subst H
   simp only[go_sem,Q0,Q1,Q2,Q3,Q4,Q5,Q6,Q7,Q8,Q9,Qa,Qb,Qc,Qd,Qe,Qf,Qg,Qh,Qi,Qj,Qk,reduceCtorEq,reduceIte,g0,rN,g1,rM,y,g3,yj,g4,z,vg,C,mn]
  ·simp only[go_sem,Q0,Q1,Q2,Q3,Q4,Q5,Q6,Q7,Q8,Q9,Qa,Qb,Qc,Qd,Qe,Qf,Qg,Qh,Qi,Qj,Qk,reduceCtorEq,reduceIte,g0,rN,g1,rM,y,g3,yj,g4,z,vg,C,mn,H,im0]
 ·simp only[go_sem,Q0,Q1,Q2,Q3,Q4,Q5,Q6,Q7,Q8,Q9,Qa,Qb,Qc,Qd,Qe,Qf,Qg,Qh,Qi,Qj,Qk,reduceCtorEq,reduceIte,g0,rN,g1,rM,y,g3,yj,g4,z,vg,I,im0]
theorem xm8(B:d9)(h:B.length<=1000000000):call T 163 [.byt B .no] [] 0=some ⟨.tup [.agg (dcI B).1.sv,.int .i64 (dcI B).2],[],[]⟩:=by
 obtain⟨k1,k2,Z,L⟩:=Za B;have g0:=xk8 B;have g1:=xeF B h 1 (by omega) (by omega) ⟨0,0⟩ ⟨bC _⟩;have y:=xeF B h 4 (by omega) (by omega) (d1 B).2 k1;have g3:=xeE B h 12 (by omega) (d2 B).2 k2;have g4:=xeE B h 64 (by omega) (d3 B).2 Z;have z:=f165 B h (d4 B).2 L;have C:=O8 (dX B);change call T 162 _ _ _=some ⟨.int .i64 (d1 B).1,[(0,rqO B (d1 B).2)],[]⟩at g1;change call T 162 _ _ _=some ⟨.int .i64 (d2 B).1,[(0,rqO B (d2 B).2)],[]⟩at y;change call T 164 _ _ _=some ⟨.byt (d3 B).1 .no,[(0,rqO B (d3 B).2)],[]⟩at g3;change call T 164 _ _ _=some ⟨.byt (d4 B).1 .no,[(0,rqO B (d4 B).2)],[]⟩at g4;rw[c1]at g1;rw[c4]at y;rw[c12]at g3;rw[c64]at g4;unfold dcI;unfold dX at C ⊢;generalize (d1 B)=W at*;generalize (d2 B)=q2 at*;generalize (d3 B)=Q at*;generalize (d4 B)=q4 at*;obtain⟨J,s1⟩:=W;obtain⟨v2,s2⟩:=q2;obtain⟨v3,s3⟩:=Q;obtain⟨v4,O⟩:=q4;simp only[rqO,Img.sv]at*;simp only[aA,dw]at g1;generalize hE:eW ⟨J,v3,v2,v4⟩=E at*;generalize hF:eR B O=F at*;rw[am xid]
 by_cases I:F=0
 ·subst I
  by_cases H:E=0
  ·subst H
   simp only[go_sem,Q0,Q1,Q2,Q3,Q4,Q5,Q6,Q7,Q8,Q9,Qa,Qb,Qc,Qd,Qe,Qf,Qg,Qh,Qi,Qj,Qk,reduceCtorEq,reduceIte,g0,ql,g1,qk,y,g3,ym,g4,z,vh,C,mi]
  ·simp only[go_sem,Q0,Q1,Q2,Q3,Q4,Q5,Q6,Q7,Q8,Q9,Qa,Qb,Qc,Qd,Qe,Qf,Qg,Qh,Qi,Qj,Qk,reduceCtorEq,reduceIte,g0,ql,g1,qk,y,g3,ym,g4,z,vh,C,mi,H,im0]
 ·simp only[go_sem,Q0,Q1,Q2,Q3,Q4,Q5,Q6,Q7,Q8,Q9,Qa,Qb,Qc,Qd,Qe,Qf,Qg,Qh,Qi,Qj,Qk,reduceCtorEq,reduceIte,g0,ql,g1,qk,y,g3,ym,g4,z,vh,I,im0]
theorem Cs{x:Img}(h:eW x=0):dcI (iB x)=(x,0):=by
 obtain⟨T,Q,O,v2,hn,L⟩:=nJ h;have I:=nX hn
 have y:iB x=bu 1 x.role++(bu 4 x.ver++((bu 2 (x.name.length:Int)++x.name)++(bu 2 (x.pay.length:Int)++x.pay))):=by unfold iB;rw[if_pos h,ue _ _ (by omega),ue _ _ (by omega)];simp only[bu,ay]
 generalize iB x=B at*
 have F:d1 B=(x.role,⟨1,0⟩):=by unfold d1;have:=Og (B:=B) (P:=[]) (X:=bu 1 x.role) (S:=bu 4 x.ver++((bu 2 (x.name.length:Int)++x.name)++(bu 2 (x.pay.length:Int)++x.pay))) 1 y (gQ _ _);rw[au]at this;rw[this,D6 1 x.role (by omega) (by rw[pp1];omega) (by omega),aR,gQ]
 have E:d2 B=(x.ver,⟨5,0⟩):=by unfold d2;rw[F];have:=Og (B:=B) (P:=bu 1 x.role) (X:=bu 4 x.ver) (S:=(bu 2 (x.name.length:Int)++x.name)++(bu 2 (x.pay.length:Int)++x.pay)) 4 y (gQ _ _);rw[gQ]at this;rw[this,D6 4 x.ver (by omega) (by rw[pp4];omega) (by omega),ac,gQ,gQ]
 have H:d3 B=(x.name,⟨7+x.name.length,0⟩):=by
  unfold d3;rw[E];have:=Eh (B:=B) (P:=bu 1 x.role++bu 4 x.ver) (X:=x.name) (S:=bu 2 (x.pay.length:Int)++x.pay) 12 (by rw[y];simp only[ay]) (by omega) (by omega);rw[ac,gQ,gQ]at this;rw[this];simp only[ac,gQ]
  congr 2;omega
 have C:d4 B=(x.pay,⟨B.length,0⟩):=by
  unfold d4;rw[H];have:=Eh (B:=B) (P:=bu 1 x.role++bu 4 x.ver++(bu 2 (x.name.length:Int)++x.name)) (X:=x.pay) (S:=[]) 64 (by rw[y];simp only[ay,aZ]) (by omega) (by omega);have J:(bu 1 x.role++bu 4 x.ver++(bu 2 (x.name.length:Int)++x.name)).length=7+x.name.length:=by simp only[ac,gQ];omega
  have z:B.length=(bu 1 x.role++bu 4 x.ver++(bu 2 (x.name.length:Int)++x.name)++(bu 2 (x.pay.length:Int)++x.pay)).length:=by rw[y];simp only[ay]
  rw[J]at this;rw[this,z]
 have ex:dX B=x:=by unfold dX;rw[F,E,H,C]
 unfold dcI;rw[ex,C];have:eR B ⟨B.length,0⟩=0:=by unfold eR;rw[if_pos rfl,if_neg (Nat.lt_irrefl _)]
 rw[if_pos ⟨this,h⟩]
theorem xhd(B:d9)(O:B.length<=1000000000)(m:Nat)(hm:m<=1000000000)(s:Rs)(hs:iR B s):call T 232 [.ptr 0 0,.int .i64 m] [rdO B 50 s] 1=some ⟨.byt (bR B m s).1 .no,[(0,rdO B 60 (bR B m s).2)],[60]⟩:=by
 have W:=hs.a;have g1:=Se B 0 O s.a 2 s.a W (by omega) (by omega);have I:=Sf B s.a 0 2;have g4:=Sf B s.a 0 4;rw[show((2:Nat):Int)=2 from rfl]at g1;rw[am Zh];unfold bR
 by_cases E:s.e=0
 ·rw[if_pos E]
  obtain⟨a,e⟩:=s;simp only at E g1 I g4 W;subst E
  by_cases h:a+2<=B.length
  ·rw[if_pos h]at g1
   rw[if_pos h];obtain⟨x,y,H⟩:=YV B a h;simp only[H]at g1 ⊢;have J:=xer x y
   have hn:nB [x,y]<65536:=by
    have:=xO [x,y];have p:(256:Nat)^ [x,y].length=65536:=by show(256:Nat)^2=65536;decide
    omega
   have Q:ai.wrap ((a:Int)+2)=((a+2:Nat):Int):=wZ (by omega)
   have e2:ai.wrap (2+((nB [x,y]:Nat):Int))=((2+nB [x,y]:Nat):Int):=wZ (by omega)
   have e3:ai.wrap ((a:Int)+((2+nB [x,y]:Nat):Int))=((a+(2+nB [x,y]):Nat):Int):=wZ (by omega)
   have g3:=Se B 0 O (a+2) (nB [x,y]) a h (by omega) (by omega);generalize nB [x,y]=n at*
   by_cases Z:n<=m
   ·have C:¬(m:Int)<(n:Int):=by omega
    have z:¬m<n:=by omega
    rw[if_pos Z];have hX:0+((B.drop (a+2)).take n).length<=140737488355328:=by rw[av];omega
    have L:((B.drop (a+2)).take n).length<=140737488355328:=by rw[av];omega
    by_cases F:a+2+n<=B.length
    ·rw[if_pos F]at g3
     rw[if_pos F];generalize (B.drop (a+2)).take n=X at*;simp only[rdO];simp only[go_sem,Q0,Q1,Q2,Q3,Q4,Q5,Q6,Q7,Q8,Q9,Qa,Qb,Qc,Qd,Qe,Qf,Qg,Qh,Qi,Qj,Qk,reduceCtorEq,reduceIte,g1,nj,J,C,z,g3,Q,e2,e3,hX,L]
    ·rw[if_neg F]at g3
     rw[if_neg F];simp only[rdO];simp only[go_sem,Q0,Q1,Q2,Q3,Q4,Q5,Q6,Q7,Q8,Q9,Qa,Qb,Qc,Qd,Qe,Qf,Qg,Qh,Qi,Qj,Qk,reduceCtorEq,reduceIte,g1,nj,J,C,z,g3,Q,I,rL]
   ·have C:(m:Int)<(n:Int):=by omega
    have z:m<n:=by omega
    rw[if_neg Z];simp only[rdO];simp only[go_sem,Q0,Q1,Q2,Q3,Q4,Q5,Q6,Q7,Q8,Q9,Qa,Qb,Qc,Qd,Qe,Qf,Qg,Qh,Qi,Qj,Qk,reduceCtorEq,reduceIte,g1,nj,J,C,z,g4,rL]
  ·rw[if_neg h]at g1
   rw[if_neg h];simp only[rdO];simp only[go_sem,Q0,Q1,Q2,Q3,Q4,Q5,Q6,Q7,Q8,Q9,Qa,Qb,Qc,Qd,Qe,Qf,Qg,Qh,Qi,Qj,Qk,reduceCtorEq,reduceIte,g1,nj,I,rL]
 ·rw[if_neg E]
  obtain⟨a,e⟩:=s;simp only at E;simp only[rdO];simp only[go_sem,Q0,Q1,Q2,Q3,Q4,Q5,Q6,Q7,Q8,Q9,Qa,Qb,Qc,Qd,Qe,Qf,Qg,Qh,Qi,Qj,Qk,reduceCtorEq,reduceIte,E]
theorem NZ(B:d9)(m:Nat)(s:Rs):(bR B m s).1.length<=B.length:=by
 unfold bR
 repeat' split
 all_goals simp only[au,bC,av,aX]
 all_goals omega
theorem NV(B:d9):(dcI B).2=0\/(dcI B).2=30:=by
 unfold dcI;split
 ·exact .inl rfl
 ·exact .inr rfl
theorem NW(B:d9):(d1 B).1=(((d1 B).1.toNat:Nat):Int)/\(d1 B).1.toNat<256:=by
 unfold d1 uR
 repeat' split
 ·have h:=xO ((B.drop 0).take 1)
  have z:((B.drop 0).take 1).length<=1:=by rw[av];omega
  have y:256^((B.drop 0).take 1).length<=256^1:=Nat.pow_le_pow_right (by omega) z;rw[show(256:Nat)^1=256 from by decide]at y;simp only[fX];exact⟨trivial,by omega⟩
 ·exact⟨rfl,by decide⟩
 ·exact⟨rfl,by decide⟩
def dcL(B:d9):Nat->Rs->List Img->Option (List Img×Rs)
 |0,s,acc=>some (acc,s)
 |n+1,s,acc=>if s.e=0 then(if(dcI (bR B B.length s).1).2=0 then dcL B n (bR B B.length s).2 (acc++ [(dcI (bR B B.length s).1).1])else none)else some (acc,s)
def dcC(B:d9):List Img×Int:=
 match dcL B (d1 B).1.toNat (d1 B).2 []with
 |none=>([],30)
 |some (l,s)=>if eR B s=0/\chE l=0 then(l,0)else([],30)
theorem jz(l:List Img)(x:Img):cZ l++ [x.sv]=cZ (l++ [x]):=by rw[cZ,cZ,cz];rfl
theorem NU{B:d9}:∀{n:Nat}{s:Rs}{acc:List Img}{p:List Img×Rs},iR B s->dcL B n s acc=some p->iR B p.2
 |0,s,acc,p,h,e=>by cases e;exact h
 |n+1,s,acc,p,h,e=>by
  rw[dcL]at e;split at e
  ·split at e
   ·exact NU (vb h) e
   ·cases e
  ·cases e;exact h
theorem xmx(B:d9)(H:B.length<=1000000000):∀(n:Nat)(s:Rs)(acc:List Img)(t:Nat),n<256->acc.length+n<=1000->iR B s->(t=13060\/t=27060)->
 ∃(h:Nat)(y:Img)(z:Rs),(h=13060\/h=18060\/h=27060)/\
 run T (.loop tB) ⟨[(0,.byt B .no),(4,.ptr 11100 0),(5,.lst 4 (cZ acc) (.id 105)),(6,.int .i64 n)],[(11100,rdO B t s)],[105,t]⟩=
  match dcL B n s acc with
  |none=>some (.r,⟨[(2,.lst 4 [] .clip),(3,.int .i64 30)],[(107,.rc y.sv),(11100,rdO B 27060 z)],[105,27060]⟩)
  |some (l,s')=>some (.x 0,⟨[(4,.ptr 11100 0),(5,.lst 4 (cZ l) (.id 105))],[(11100,rdO B h s')],[105,h]⟩):=by
 intro n;induction n with
 |zero=>
  intro s acc t hn ha J C;refine⟨t,im0,s,by omega, ?_⟩;rw[aj];simp only[rdO,dcL]
  rcases C with rfl|rfl<;>
   simp only[go_sem,Q0,Q1,Q2,Q3,Q4,Q5,Q6,Q7,Q8,Q9,Qa,Qb,Qc,Qd,Qe,Qf,Qg,Qh,Qi,Qj,Qk,reduceCtorEq,reduceIte,aA,dw]
 |succ n ih=>
  intro s acc t hn ha J C;have g1:=xm4 B s;have O:=xhd B H B.length H s J;have g3:=xm3 (bR B B.length s).1 (gf (NZ B B.length s) H);have I:=NV (bR B B.length s).1;have hv:=cg acc;have hk:iR B (bR B B.length s).2:=vb J;have i0:(0:Int)<((n+1:Nat):Int):=by omega
  have W:ai.wrap (((n+1:Nat):Int)-1)=(n:Int):=wZ (by omega)
  have i2:(acc.length+1)*56<=140737488355328:=by omega
  rw[dcL]
  by_cases F:s.e=0
  ·rw[if_pos F]
   generalize bR B B.length s=Q at*;obtain⟨b1,Z⟩:=Q;simp only at*;generalize dcI b1=D at*;obtain⟨x,e⟩:=D;simp only at*;obtain⟨h,y,z,L,E⟩:=ih Z (acc++ [x]) 27060 (by omega) (by simp only[ac,aD];omega) hk (.inr rfl);rw[<-jz]at E;obtain⟨a,e0⟩:=s;simp only[rdO]at*;subst F;rcases I with rfl|rfl
   ·refine⟨h,y,z,L, ?_⟩
    obtain⟨ro,na,ve,p⟩:=x;simp only[Img.sv]at*;rw[if_pos trivial,<-E,aj]
    rcases C with rfl|rfl<;>
     simp only[go_sem,Q0,Q1,Q2,Q3,Q4,Q5,Q6,Q7,Q8,Q9,Qa,Qb,Qc,Qd,Qe,Qf,Qg,Qh,Qi,Qj,Qk,reduceCtorEq,reduceIte,g1,PE,i0,O,yj,g3,ZD,hv,W,i2]
   ·refine⟨27060,x,Z,by omega, ?_⟩
    obtain⟨ro,na,ve,p⟩:=x;simp only[Img.sv]at*;rw[if_neg (by decide),aj]
    rcases C with rfl|rfl<;>
     simp only[go_sem,Q0,Q1,Q2,Q3,Q4,Q5,Q6,Q7,Q8,Q9,Qa,Qb,Qc,Qd,Qe,Qf,Qg,Qh,Qi,Qj,Qk,reduceCtorEq,reduceIte,g1,PE,i0,O,yj,g3,ZD,hv,W,i2]
  ·rw[if_neg F]
   refine⟨18060,im0,s,by omega, ?_⟩;obtain⟨a,e0⟩:=s;simp only[rdO]at*;rw[aj]
   rcases C with rfl|rfl<;>
    simp only[go_sem,Q0,Q1,Q2,Q3,Q4,Q5,Q6,Q7,Q8,Q9,Qa,Qb,Qc,Qd,Qe,Qf,Qg,Qh,Qi,Qj,Qk,reduceCtorEq,reduceIte,g1,PE,i0,F]
theorem xm9(B:d9)(I:B.length<=1000000000):call T 159 [.byt B .no] [] 0=some ⟨.tup [.lst 4 (cZ (dcC B).1) .no,.int .i64 (dcC B).2],[],[]⟩:=by
 obtain⟨k1,_,_,_⟩:=Za B;have g0:=xk2 B I;have g1:=xeC B I 1 (by omega) (by omega) ⟨0,0⟩ ⟨bC _⟩;rw[c1]at g1;change call T 229 _ _ _=some ⟨.int .i64 (d1 B).1,[(0,rdO B 60 (d1 B).2)],[60]⟩at g1;obtain⟨n1,Q⟩:=NW B;have O:=fun p=>NU (B:=B) (n:=(d1 B).1.toNat) (s:=(d1 B).2) (acc:=[]) (p:=p) k1
 obtain⟨t',y,z,L,F⟩:=xmx B I (d1 B).1.toNat (d1 B).2 [] 13060 Q (by simp only[au];omega) k1 (.inl rfl);unfold dcC;rw[<-n1]at F;generalize dcL B (d1 B).1.toNat (d1 B).2 []=W at*;generalize (d1 B)=Z at*;obtain⟨v1,s1⟩:=Z;simp only[rdO]at*;simp only[aA,dw]at g0 g1;change run T _ ⟨[_,_,(5,.lst 4 [] _),_],_,_⟩=_ at F;rw[am xih];cases W with
 |none=>simp only at F;simp only[go_sem,Q0,Q1,Q2,Q3,Q4,Q5,Q6,Q7,Q8,Q9,Qa,Qb,Qc,Qd,Qe,Qf,Qg,Qh,Qi,Qj,Qk,reduceCtorEq,reduceIte,g0,rN,g1,rM,F];rfl
 |some p=>
  obtain⟨l,s⟩:=p;have g3:=xk0 B I s (O _ rfl);have g4:=f78 l;simp only[rdO]at*;generalize eR B s=E at*;generalize chE l=C at*;rcases L with rfl|rfl|rfl<;>
  ·by_cases H:E=0
   ·by_cases J:C=0
    ·rw[if_pos ⟨H,J⟩]
     subst H J;simp only[go_sem,Q0,Q1,Q2,Q3,Q4,Q5,Q6,Q7,Q8,Q9,Qa,Qb,Qc,Qd,Qe,Qf,Qg,Qh,Qi,Qj,Qk,reduceCtorEq,reduceIte,g0,rN,g1,rM,F,g3,vg,g4,N6]
    ·rw[if_neg (fun h=>J h.2)]
     subst H;simp only[go_sem,Q0,Q1,Q2,Q3,Q4,Q5,Q6,Q7,Q8,Q9,Qa,Qb,Qc,Qd,Qe,Qf,Qg,Qh,Qi,Qj,Qk,reduceCtorEq,reduceIte,g0,rN,g1,rM,F,g3,vg,g4,N6,J];rfl
   ·rw[if_neg (fun h=>H h.1)]
    simp only[go_sem,Q0,Q1,Q2,Q3,Q4,Q5,Q6,Q7,Q8,Q9,Qa,Qb,Qc,Qd,Qe,Qf,Qg,Qh,Qi,Qj,Qk,reduceCtorEq,reduceIte,g0,rN,g1,rM,F,g3,vg,H];rfl
def dcR(B:d9):Nat->Rs->List Img->Option (List Img×Rs)
 |0,s,acc=>some (acc,s)
 |n+1,s,acc=>if(dcI (bR B 200 s).1).2=0 then dcR B n (bR B 200 s).2 (acc++ [(dcI (bR B 200 s).1).1])else none
def dcD(B:d9):List Img×Int:=
 match dcR B (min (d1 B).1.toNat 9) (d1 B).2 []with
 |none=>([],30)
 |some (l,s)=>if(d1 B).1<=8/\eR B s=0/\chE l=0 then(l,0)else([],30)
theorem NT{B:d9}:∀{n:Nat}{s:Rs}{acc:List Img}{p:List Img×Rs},iR B s->dcR B n s acc=some p->iR B p.2
 |0,s,acc,p,h,e=>by cases e;exact h
 |n+1,s,acc,p,h,e=>by
  rw[dcR]at e;split at e
  ·exact NT (vb h) e
  ·cases e
theorem xmD(B:d9)(I:B.length<=1000000000)(c:Nat)(hc:c<256):∀(n i:Nat)(s:Rs)(acc:List Img),i<=min c 9->min c 9-i=n->acc.length+n<=1000->iR B s->
 ∃(y:Img)(z:Rs)(L:Nat),
 run T (.loop tJ) ⟨[(4,.ptr 12100 0),(5,.int .i64 c),(6,.lst 4 (cZ acc) (.id 106)),(7,.int .i64 i)],[(12100,rqO B s)],[106]⟩=
  match dcR B n s acc with
  |none=>some (.r,⟨[(2,.lst 4 [] .clip),(3,.int .i64 30)],[(108,.rc y.sv),(12100,rqO B z)],[106]⟩)
  |some (l,s')=>some (.x 0,⟨[(4,.ptr 12100 0),(5,.int .i64 c),(6,.lst 4 (cZ l) (.id 106))],[(12100,rqO B s')],[106]⟩):=by
 intro n;induction n with
 |zero=>
  intro i s acc hi hn ha H;refine⟨im0,s,0, ?_⟩;rw[aj];simp only[rqO,dcR]
  by_cases h:(i:Int)<(c:Int)
  ·have h9:¬(i:Int)<=8:=by omega
   simp only[go_sem,Q0,Q1,Q2,Q3,Q4,Q5,Q6,Q7,Q8,Q9,Qa,Qb,Qc,Qd,Qe,Qf,Qg,Qh,Qi,Qj,Qk,reduceCtorEq,reduceIte,h,h9]
  ·simp only[go_sem,Q0,Q1,Q2,Q3,Q4,Q5,Q6,Q7,Q8,Q9,Qa,Qb,Qc,Qd,Qe,Qf,Qg,Qh,Qi,Qj,Qk,reduceCtorEq,reduceIte,h]
 |succ n W=>
  intro i s acc hi hn ha H;have E:=xeE B I 200 (by omega) s H;have g3:=xm8 (bR B 200 s).1 (gf (NZ B 200 s) I);have F:=NV (bR B 200 s).1;have hv:=cg acc;have Z:iR B (bR B 200 s).2:=vb H;have i0:(i:Int)<(c:Int):=by omega
  have i8:(i:Int)<=8:=by omega
  have J:=cX i (by omega);have i2:(acc.length+1)*56<=140737488355328:=by omega
  rw[xle]at E;rw[dcR];generalize bR B 200 s=Q at*;obtain⟨b1,O⟩:=Q;simp only at*;generalize dcI b1=D at*;obtain⟨x,e⟩:=D;simp only at*;obtain⟨y,z,L,C⟩:=W (i+1) O (acc++ [x]) (by omega) (by omega) (by simp only[ac,aD];omega) Z;rw[<-jz]at C;obtain⟨a,e0⟩:=s;simp only[rqO]at*;rcases F with rfl|rfl
  ·refine⟨y,z,L, ?_⟩
   obtain⟨ro,na,ve,p⟩:=x;simp only[Img.sv]at*;rw[if_pos trivial,<-C,aj];simp only[go_sem,Q0,Q1,Q2,Q3,Q4,Q5,Q6,Q7,Q8,Q9,Qa,Qb,Qc,Qd,Qe,Qf,Qg,Qh,Qi,Qj,Qk,reduceCtorEq,reduceIte,i0,i8,E,ym,g3,ZI,hv,J,i2]
  ·refine⟨x,O,0, ?_⟩
   obtain⟨ro,na,ve,p⟩:=x;simp only[Img.sv]at*;rw[if_neg (by decide),aj];simp only[go_sem,Q0,Q1,Q2,Q3,Q4,Q5,Q6,Q7,Q8,Q9,Qa,Qb,Qc,Qd,Qe,Qf,Qg,Qh,Qi,Qj,Qk,reduceCtorEq,reduceIte,i0,i8,E,ym,g3,ZI,hv,J,i2]
theorem xnm(B:d9)(L:B.length<=1000000000):call T 100 [.byt B .no] [] 0=some ⟨.tup [.lst 4 (cZ (dcD B).1) .no,.int .i64 (dcD B).2],[],[]⟩:=by
 obtain⟨k1,_,_,_⟩:=Za B;have g0:=xk8 B;have g1:=xeF B L 1 (by omega) (by omega) ⟨0,0⟩ ⟨bC _⟩;rw[c1]at g1;change call T 162 _ _ _=some ⟨.int .i64 (d1 B).1,[(0,rqO B (d1 B).2)],[]⟩at g1;obtain⟨n1,n2⟩:=NW B;have Q:=fun p=>NT (B:=B) (n:=min (d1 B).1.toNat 9) (s:=(d1 B).2) (acc:=[]) (p:=p) k1
 obtain⟨y,z,i',H⟩:=xmD B L (d1 B).1.toNat n2 (min (d1 B).1.toNat 9) 0 (d1 B).2 [] (by omega) rfl (by simp only[au];omega) k1;unfold dcD;rw[<-n1,aA]at H;generalize dcR B (min (d1 B).1.toNat 9) (d1 B).2 []=W at*;generalize (d1 B)=q1 at*;obtain⟨O,s1⟩:=q1;simp only[rqO]at*;simp only[aA,dw]at g0 g1;change run T _ ⟨[_,_,(6,.lst 4 [] _),_],_,_⟩=_ at H;rw[am xiw];cases W with
 |none=>simp only at H;simp only[go_sem,Q0,Q1,Q2,Q3,Q4,Q5,Q6,Q7,Q8,Q9,Qa,Qb,Qc,Qd,Qe,Qf,Qg,Qh,Qi,Qj,Qk,reduceCtorEq,reduceIte,g0,ql,g1,qk,H];rfl
 |some p=>
  obtain⟨l,s⟩:=p;have g3:=f165 B L s (Q _ rfl);have g4:=xla l;simp only[rqO]at*;generalize eR B s=E at*;generalize chE l=C at*
  by_cases Z:O<=8
  ·have F:¬(8:Int)<O:=by omega
   by_cases I:E=0
   ·by_cases J:C=0
    ·rw[if_pos ⟨Z,I,J⟩]
     subst I J;simp only[go_sem,Q0,Q1,Q2,Q3,Q4,Q5,Q6,Q7,Q8,Q9,Qa,Qb,Qc,Qd,Qe,Qf,Qg,Qh,Qi,Qj,Qk,reduceCtorEq,reduceIte,g0,ql,g1,qk,H,F,g3,vh,g4,Eo]
    ·rw[if_neg (fun h=>J h.2.2)]
     subst I;simp only[go_sem,Q0,Q1,Q2,Q3,Q4,Q5,Q6,Q7,Q8,Q9,Qa,Qb,Qc,Qd,Qe,Qf,Qg,Qh,Qi,Qj,Qk,reduceCtorEq,reduceIte,g0,ql,g1,qk,H,F,g3,vh,g4,Eo,J];rfl
   ·rw[if_neg (fun h=>I h.2.1)]
    simp only[go_sem,Q0,Q1,Q2,Q3,Q4,Q5,Q6,Q7,Q8,Q9,Qa,Qb,Qc,Qd,Qe,Qf,Qg,Qh,Qi,Qj,Qk,reduceCtorEq,reduceIte,g0,ql,g1,qk,H,F,g3,vh,I];rfl
  ·have F:(8:Int)<O:=by omega
   rw[if_neg (fun h=>Z h.1)];simp only[go_sem,Q0,Q1,Q2,Q3,Q4,Q5,Q6,Q7,Q8,Q9,Qa,Qb,Qc,Qd,Qe,Qf,Qg,Qh,Qi,Qj,Qk,reduceCtorEq,reduceIte,g0,ql,g1,qk,H,F];rfl
def kC:List Img->d9
 |[]=> []
 |x::r=>(bu 2 ((iB x).length:Int)++iB x)++kC r
theorem me:∀(l:List Img)(b:d9),(∀x∈l,eW x=0)->pW b l=b++kC l
 |[],b,_=>by simp[pW,kC]
 |x::r,b,h=>by have C:=gP (h x aq);rw[pW,me r _ (fun y z=>h y (af _ z)),ue _ _ (by omega),kC];simp only[ay]
theorem Cr:∀(l:List Img)(B P:d9)(acc:List Img),B=P++kC l->(∀x∈l,eW x=0)->dcL B l.length ⟨P.length,0⟩ acc=some (acc++l,⟨B.length,0⟩)
 |[],B,P,acc,hB,_=>by
  have:B=P:=by rw[hB,kC,aZ]
  rw[this,aZ];rfl
 |x::r,B,P,acc,hB,h=>by
  have z:=h x aq;have I:=gP z;have F:(iB x).length<=B.length:=by rw[hB,kC];simp only[ac];omega
  have H:=Eh B.length hB F (by omega);have C:=Cr r B (P++(bu 2 ((iB x).length:Int)++iB x)) (acc++ [x]) (by rw[hB,kC];simp only[ay]) (fun y E=>h y (af _ E));rw[ah,dcL,if_pos rfl,H];simp only;rw[Cs z,if_pos rfl,C,ay];rfl
theorem Cq:∀(l:List Img)(B P:d9)(acc:List Img),B=P++kC l->(∀x∈l,eW x=0)->dcR B l.length ⟨P.length,0⟩ acc=some (acc++l,⟨B.length,0⟩)
 |[],B,P,acc,hB,_=>by
  have:B=P:=by rw[hB,kC,aZ]
  rw[this,aZ];rfl
 |x::r,B,P,acc,hB,h=>by have z:=h x aq;have H:=gP z;have F:=Eh 200 hB (by omega) (by omega);have C:=Cq r B (P++(bu 2 ((iB x).length:Int)++iB x)) (acc++ [x]) (by rw[hB,kC];simp only[ay]) (fun y E=>h y (af _ E));rw[ah,dcR,F];simp only;rw[Cs z,if_pos rfl,C,ay];rfl
theorem NS{c:List Img}(h:chE c=0):dcC (bK c)=(c,0)/\dcD (bK c)=(c,0):=by
 obtain⟨I,l8,H⟩:=mJ h
 have y:∀x∈c,eW x=0:=fun x y=>by obtain⟨i,hi,rfl⟩:=bH y;have:=H i hi;rwa[aa,ab hi]at this
 have z:bK c=bu 1 (c.length:Int)++kC c:=by unfold bK;rw[if_pos h,me c _ y];rfl
 generalize bK c=B at*
 have C:d1 B=((c.length:Int),⟨1,0⟩):=by unfold d1;have:=Og (B:=B) (P:=[]) (X:=bu 1 (c.length:Int)) (S:=kC c) 1 z (gQ _ _);rw[au]at this;rw[this,D6 1 c.length (by omega) (by rw[pp1];omega) (by omega),aR,gQ]
 have E:=Cr c B (bu 1 (c.length:Int)) [] z y;have a2:=Cq c B (bu 1 (c.length:Int)) [] z y;rw[gQ,aR]at E a2;have F:eR B ⟨B.length,0⟩=0:=by unfold eR;rw[if_pos rfl,if_neg (Nat.lt_irrefl _)]
 constructor
 ·unfold dcC
  rw[C];simp only[fX,E];rw[if_pos ⟨F,h⟩]
 ·unfold dcD
  rw[C];simp only[fX];rw[show min c.length 9=c.length from by omega,a2];simp only;rw[if_pos ⟨by omega,F,h⟩]
end Go.Proofs.YtmhhnklkcmpdkaaGreatDoor
