/- Contracts. No condition. -/
import Derived.Test.YtmhhnklkcmpdkaaGreatDoorTaPR
open Int renaming cast_ofNat_Int -> aN, natCast_zero -> ak
open Go.IntKind renaming i64 -> ah
open List renaming getD_eq_getElem?_getD -> aa, length_map -> av, length_replicate -> cC, length_set -> bM, replicate -> aB, take_of_length_le -> bp
open Nat renaming le_refl -> aM
set_option maxRecDepth 100000
set_option maxHeartbeats 16000000
set_option linter.unusedSimpArgs false
set_option linter.unusedVariables false
noncomputable section
namespace Go.Proofs.YtmhhnklkcmpdkaaGreatDoor
open Go.Sy

attribute [go_sem] aN
attribute [go_sem] aN
structure Ev where
 reg:Int
 kind:Int
 dg:List (List UInt8)
 data:List UInt8
def bls(l:List t8):f9:=l.map fun d=> [bN d]
def Ev.sv(e:Ev):LAa:=[iV e.reg,iV e.kind,.lst 1 (bls e.dg) .no,bN e.data]
def fA(l:List Ev):f9:=l.map Ev.sv
theorem cW(l:List Ev):(fA l).length=l.length:=av ..
theorem LY(l:List Ev)(i:Nat)(h:i<l.length):(fA l).getD i []=(l.getD i ⟨0,0,[],[]⟩).sv:=by simp[fA,aa,h]
def ev0:Ev:=⟨0,0,[],[]⟩
theorem jg(l:List Ev)(i:Nat)(h:i<l.length):(fA l).getD i []=(l.getD i ev0).sv:=LY l i h
def bo(l:List Bool):f9:=l.map fun b=> [.bool b]
theorem uS(l:List Bool):(bo l).length=l.length:=av ..
theorem zW(l:List Bool)(i:Nat)(h:i<l.length:=by omega):(bo l).getD i []=[.bool (l.getD i false)]:=by simp[bo,aa,h]
theorem Na(l:List Bool)(i:Nat)(b:Bool):(bo l).set i [.bool b]=bo (l.set i b):=by simp[bo,List.map_set]
theorem Nb(n:Nat):aB n [SV.bool false]=bo (aB n false):=by simp[bo]
theorem xaq(P L:t8)(k N:Nat)(hk:k<P.length)(hL:L.length<=1000000)(hN:N=L.length+1)(X:List Bool)(hX:X.length=N):∀(n i:Nat)(Y:List Bool),N-i=n->i<=N->Y.length=N->
 ∃Z:List Bool,Z.length=N/\run T (.loop rO) ⟨[(0,.str P),(1,bN L),(5,.lst 1 (bo X) .clip),(6,iV k),(7,.psl 124 1 0 N (some N)),(8,iV i)],[(124,.arr 1 (bo Y))],[]⟩=
 some (.x 2,⟨[(0,.str P),(1,bN L),(6,iV k),(7,.psl 124 1 0 N (some N))],[(124,.arr 1 (bo Z))],[]⟩):=by
 intro n;induction n with
 |zero=>
  intro i Y h0 h1 hY;have c:¬i<=L.length:=by omega
  have c':¬(i:Int)<=(L.length:Int):=by omega
  refine⟨Y,hY, ?_⟩;rw[ab];simp only[go_sem,simprocAttr,c']
 |succ n ih=>
  intro i Y h0 h1 hY;have hi:i<=L.length:=by omega
  have J:(i:Int)<=(L.length:Int):=by omega
  have K:i<N:=by omega
  have Q:(i:Int)<(N:Int):=by omega
  have e1:=bJ i;have hg:=zW X i;have C:(bo X).length=N:=by rw[uS];exact hX
  have z:(bo Y).length=N:=by rw[uS];exact hY
  have e2:0<i->ah.wrap ((i:Int)-1)=((i-1:Nat):Int):=fun h=>by rw[w64];omega
  have hi4:i-1<N:=by omega
  have I:((i-1:Nat):Int)<(N:Int):=by omega
  have b2:=zW Y (i-1);have b0:=zW X (i-1);have hs:=Na Y i;have b1:=ih (i+1) Y (by omega) (by omega) hY;have a6:=fun b=>ih (i+1) (Y.set i b) (by omega) (by omega) (by rw[bM];exact hY)
  generalize X.getD i false=x0 at*;generalize X.getD (i-1) false=x1 at*;generalize Y.getD (i-1) false=y1 at*;rw[ab]
  by_cases hp:0<i
  ·have F:(0:Int)<(i:Int):=by omega
   have a1:=e2 hp;have b4:i-1<L.length:=by omega
   have a8:((i-1:Nat):Int)<(L.length:Int):=by omega
   by_cases H:P.getD k 0=42
   ·have y:=a6 (x0||y1)
    cases x0<;>cases y1<;>simp only[go_sem,simprocAttr,J,K,Q,hi4,I,hk,H,hg,b2,F,C,z,hs,e1,a1]<;>exact y
   ·by_cases a7:P.getD k 0=63
    ·have b3:¬(63:UInt8)=42:=by decide
     have y:=a6 x1;cases x1<;>simp only[go_sem,simprocAttr,J,K,Q,I,hk,a7,b3,b0,F,C,z,hs,e1,a1]<;>exact y
    ·have y:=a6 (x1&&decide (P.getD k 0=L.getD (i-1) 0))
     by_cases hq:P.getD k 0=L.getD (i-1) 0
     ·rw[decide_eq_true hq]at y
      rw[hq]at H a7;cases x1<;>simp only[go_sem,simprocAttr,J,K,Q,I,a8,hk,hq,H,a7,b0,F,C,z,hs,e1,a1]<;>exact y
     ·rw[decide_eq_false hq]at y
      cases x1<;>simp only[go_sem,simprocAttr,J,K,Q,I,a8,hk,hq,H,a7,b0,F,C,z,hs,e1,a1]<;>exact y
  ·have F:¬(0:Int)<(i:Int):=by omega
   by_cases H:P.getD k 0=42
   ·have y:=a6 x0
    cases x0<;>simp only[go_sem,simprocAttr,J,K,Q,hk,H,hg,F,C,z,hs,e1]<;>exact y
   ·simp only[go_sem,simprocAttr,J,hk,H,F,e1]
    exact b1
theorem xap(P L:t8)(N:Nat)(hP:P.length<=1000000)(hL:L.length<=1000000)(I:N=L.length+1):∀(n k:Nat)(X:List Bool),P.length-k=n->k<=P.length->X.length=N->
 ∃Z:List Bool,Z.length=N/\run T (.loop rN) ⟨[(0,.str P),(1,bN L),(5,.lst 1 (bo X) .clip),(6,iV k)],[],[]⟩=some (.x 0,⟨[(1,bN L),(5,.lst 1 (bo Z) .clip)],[],[]⟩):=by
 intro n;induction n with
 |zero=>
  intro k X h0 h1 C;have z:k=P.length:=by omega
  subst z;refine⟨X,C, ?_⟩;rw[ab];simp only[go_sem,simprocAttr]
 |succ n ih=>
  intro k X h0 h1 C;have z:k<P.length:=by omega
  have e1:=bJ k;have e2:=bJ L.length;obtain⟨Y,J,h⟩:=xaq P L k N z hL I X C _ 0 (aB N false) rfl (by omega) (by rw[cC]);rw[<-Nb,ak]at h;obtain⟨Z,hZ,H⟩:=ih (k+1) Y (by omega) (by omega) J;have y:(bo Y).length=N:=by rw[uS];exact J
  have K:(bo Y).take N=bo Y:=bp (by rw[y];exact aM _);subst I;have Q:((L.length+1:Nat):Int)<=9223372036854775807:=by omega
  have F:((L.length+1:Nat):Int)<=140737488355328:=by omega
  refine⟨Z,hZ, ?_⟩;rw[ab];simp only[go_sem,simprocAttr,z,e1,e2,Q,F,c1,Int.one_mul,h,y,K,H]
theorem xhF(P L:t8)(hP:P.length<=1000000)(hL:L.length<=1000000):∃q,call T 341 [.str P,bN L] [] 0=okV (.bool q):=by
 have e2:=bJ L.length;obtain⟨Z,hZ,h⟩:=xap P L (L.length+1) hP hL rfl _ 0 ((aB (L.length+1) false).set 0 true) rfl (by omega) (by rw[bM,cC]);have K:((L.length+1:Nat):Int)<=9223372036854775807:=by omega
 have F:((L.length+1:Nat):Int)<=140737488355328:=by omega
 have I:(0:Int)<((L.length+1:Nat):Int):=by omega
 have h0:0<L.length+1:=by omega
 have z:(aB (L.length+1) [SV.bool false]).set 0 [.bool true]=bo ((aB (L.length+1) false).set 0 true):=by rw[Nb,Na]
 have y:(bo ((aB (L.length+1) false).set 0 true)).length=L.length+1:=by rw[uS,bM,cC]
 have J:(bo ((aB (L.length+1) false).set 0 true)).take (L.length+1)=bo ((aB (L.length+1) false).set 0 true):=bp (by rw[y];exact aM _);have C:(bo Z).length=L.length+1:=by rw[uS];exact hZ
 have Q:=zW Z L.length;have H:L.length<L.length+1:=by omega
 rw[ak]at h;rw[ccT 341];refine⟨Z.getD L.length false, ?_⟩;simp only[go_sem,simprocAttr,e2,K,F,I,h0,c1,Int.one_mul,h,y,C,J,z,Q,H]
end Go.Proofs.YtmhhnklkcmpdkaaGreatDoor
