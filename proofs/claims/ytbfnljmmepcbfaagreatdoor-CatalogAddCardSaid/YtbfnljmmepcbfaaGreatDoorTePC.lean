/- Contracts. No condition. -/
import Derived.Test.YtbfnljmmepcbfaaGreatDoorTcPC
open Int renaming natCast_zero -> az
open Go.IntKind renaming i64 -> af, u64 -> aQ, wrap_u64 -> bV
open List renaming append_assoc -> ay, append_nil -> bA, cons_append -> bp, drop -> iH, drop_eq_getElem_cons -> bz, drop_eq_nil_of_le -> bT, drop_length -> bK, drop_zero -> bj, flatten_cons -> cK, foldl_cons -> ez, foldl_nil -> iP, getD_eq_getElem?_getD -> aa, getElem?_eq_getElem -> ac, getElem_mem -> bv, getElem_of_mem -> bg, length_append -> ae, length_cons -> al, length_map -> aV, length_nil -> aB, length_singleton -> aG, length_take -> an, map_append -> co, map_cons -> aI, mem_append -> am, mem_cons -> av, mem_cons_of_mem -> aw, mem_cons_self -> aA, mem_singleton -> bq, nil_append -> aF, not_mem_nil -> cG, pairwise_cons -> bJ, pairwise_iff_getElem -> cD, take -> eS, take_of_length_le -> aT
open Nat renaming add_mul -> bH, le_refl -> aK, lt_or_ge -> bQ, zero_le -> aY
open Go.Op renaming bytesLess -> bN
open Option renaming some -> ax
open UInt8 renaming ofInt -> cf
set_option maxRecDepth 100000
set_option maxHeartbeats 16000000
set_option linter.unusedSimpArgs false
set_option linter.unusedVariables false
namespace Go.Proofs.YtbfnljmmepcbfaaGreatDoor
open Go.Sy
open UInt8 renaming reduceLT -> Q0, reduceLE -> Q3
open Int renaming reduceToNat -> Q4, reduceLE -> Q5, reduceLT -> Q6, reduceEq -> Q7, reduceNe -> Q8, reduceNeg -> Q9, reduceAdd -> Qa, reduceSub -> Qb, reduceMul -> Qc
open Nat renaming reducePow -> Qd, reduceDiv -> Qe, reduceMod -> Qf, reduceAdd -> Qg, reduceSub -> Qh, reduceMul -> Qi, reduceLT -> Qj, reduceLeDiff -> Qk, reduceEqDiff -> Ql, reduceBEq -> Qm
attribute [go_sem] Int.cast_ofNat_Int
structure Ev where
 reg:Int
 kind:Int
 dg:List (List UInt8)
 data:List UInt8
def bls(l:List d9):d8:=l.map fun d=> [.byt d .no]
def Ev.sv(e:Ev):f8:=[.int .i64 e.reg,.int .i64 e.kind,.lst 1 (bls e.dg) .no,.byt e.data .no]
structure Img where
 role:Int
 name:List UInt8
 ver:Int
 pay:List UInt8
def Img.sv(x:Img):f8:=[.int .i64 x.role,.str x.name,.int .i64 x.ver,.byt x.pay .no]
theorem xw8(s:d9)(Q:s.length<=1000000000000):∀(n i:Nat),s.length-i=n->i<=s.length->
 run T (.loop CM) ⟨[(0,.str s),(3,.int .i64 i)],[],[]⟩=if(s.drop i).all Pr.okc=true then some (.x 0,⟨[],[],[]⟩)else some (.r,⟨[(2,.bool false)],[],[]⟩):=by
 intro n;induction n with
 |zero=>
  intro i J O;have hi:i=s.length:=by omega
  subst hi;rw[ai,bK];simp only[go_sem,Qj,Ql,Qm,reduceCtorEq,reduceIte]
 |succ n L=>
  intro i J O;have hi:i<s.length:=by omega
  have F:=cr i (by omega);have y:=L (i+1) (by omega) (by omega);rw[ai,dz s i hi,List.all_cons];unfold Pr.okc at y ⊢;generalize C:s.getD i 0=c at*;generalize List.all (iH (i+1) s) _=q at*
  by_cases E:c<97
  ·by_cases a3:c<48
   ·by_cases a5:c=45
    ·subst a5;simp only[go_sem,Q0,Qj,Ql,Qm,reduceCtorEq,reduceIte,hi,C,F,y]
    ·simp only[go_sem,Qj,Ql,Qm,reduceCtorEq,reduceIte,hi,C,E,a3,a5]
   ·by_cases a4:57<c
    ·by_cases a5:c=45
     ·subst a5;simp only[go_sem,Q0,Qj,Ql,Qm,reduceCtorEq,reduceIte,hi,C,F,y]
     ·simp only[go_sem,Qj,Ql,Qm,reduceCtorEq,reduceIte,hi,C,E,a3,a4,a5]
    ·simp only[go_sem,Qj,Ql,Qm,reduceCtorEq,reduceIte,hi,C,F,E,a3,a4,y]
  ·by_cases I:122<c
   ·by_cases a3:c<48
    ·exact absurd a3 (by intro h;have:=UInt8.lt_trans I h;revert this;decide)
    ·by_cases a4:57<c
     ·by_cases a5:c=45
      ·subst a5;simp only[go_sem,Q0,Qj,Ql,Qm,reduceCtorEq,reduceIte,hi,C,F,y]
      ·simp only[go_sem,Qj,Ql,Qm,reduceCtorEq,reduceIte,hi,C,E,I,a3,a4,a5]
     ·simp only[go_sem,Qj,Ql,Qm,reduceCtorEq,reduceIte,hi,C,F,E,I,a3,a4,y]
   ·simp only[go_sem,Qj,Ql,Qm,reduceCtorEq,reduceIte,hi,C,F,E,I,y]
theorem xop(s:d9)(I:s.length<=1000000000000):call T 106 [.str s] [] 0=some ⟨.bool (Pr.nameB s),[],[]⟩:=by
 have h:=xw8 s I _ 0 rfl (by omega);simp only[az,bj]at h;rw[aj xs1];unfold Pr.nameB
 by_cases E:s.length<1
 ·have y:(s.length:Int)<1:=by omega
  simp only[go_sem,Qj,Qk,Ql,Qm,reduceCtorEq,reduceIte,E,y]
 ·have y:¬(s.length:Int)<1:=by omega
  by_cases F:12<s.length
  ·have C:(12:Int)<s.length:=by omega
   simp only[go_sem,Qj,Qk,Ql,Qm,reduceCtorEq,reduceIte,E,y,F,C]
  ·have C:¬(12:Int)<s.length:=by omega
   cases hq:s.all Pr.okc with
   |true=>rw[if_pos hq]at h;simp only[go_sem,Qj,Qk,Ql,Qm,reduceCtorEq,reduceIte,E,y,F,C,h]
   |false=>rw[if_neg (by rw[hq];simp)]at h;simp only[go_sem,Qj,Qk,Ql,Qm,reduceCtorEq,reduceIte,E,y,F,C,h]
def lnF:d9->List d9->d9->Option (List d9×d9)
 |[],o,l=>some (o,l)
 |c::r,o,l=>if c=10 then(if(l.length:Int)=0 then none else if(4:Int)<=o.length then none else lnF r (o++ [l]) [])else if c<32 then none else if 126<c then none else lnF r o (l++ [c])
def kZ(p:d9):List d9:=match lnF p [] []with
 |some (o,l)=>if(0:Int)<l.length then []else o
 |none=> []
theorem Gw(l:List d9):(bls l).length=l.length:=aV ..
theorem xaS(l:List d9)(d:d9):bls (l++ [d])=bls l++ [[.byt d .no]]:=by simp[bls]
theorem xwP(J:Int)(I:d9)(L:Int)(p:d9)(hp:p.length<=1000000000000):∀(n i:Nat)(o:List d9)(l:d9),p.length-i=n->i<=p.length->l.length<=i->o.length<=4->
 run T (.loop vC) ⟨[(1,.ptr 101 0),(3,.lst 1 (bls o) (.id 103)),(4,.byt l (.id 104)),(5,.int .i64 i)],[(101,.rc [.int .i64 J,.str I,.int .i64 L,.byt p .no])],[103,104]⟩=
 match lnF (p.drop i) o l with
 |some (o',l')=>some (.x 0,⟨[(3,.lst 1 (bls o') (.id 103)),(4,.byt l' (.id 104))],[(101,.rc [.int .i64 J,.str I,.int .i64 L,.byt p .no])],[103,104]⟩)
 |none=>some (.r,⟨[(2,.lst 1 [] .clip)],[(101,.rc [.int .i64 J,.str I,.int .i64 L,.byt p .no])],[103,104]⟩):=by
 intro n;induction n with
 |zero=>
  intro i o l h0 h1 h2 Z;have hi:i=p.length:=by omega
  subst hi;rw[ai,bK];simp only[go_sem,Qg,Qj,Ql,Qm,reduceIte,lnF]
 |succ n Q=>
  intro i o l h0 h1 h2 Z;have hi:i<p.length:=by omega
  have O:=cr i (by omega);have W:=Gw o;rw[ai,dz p i hi];unfold lnF;generalize E:p.getD i 0=c at*;have c1:l.length+1<=140737488355328:=by omega
  have c2:(o.length+1)*24<=140737488355328:=by omega
  by_cases F:c=10
  ·subst F
   by_cases C:(l.length:Int)=0
   ·simp only[go_sem,Q0,Qg,Qj,Ql,Qm,reduceIte,hi,E,C]
   ·by_cases a3:(4:Int)<=o.length
    ·simp only[go_sem,Q0,Qg,Qj,Ql,Qm,reduceIte,hi,E,C,a3,W]
    ·have y:=Q (i+1) (o++ [l]) [] (by omega) (by omega) (by simp) (by rw[ae,aG];omega)
     rw[xaS]at y;simp only[go_sem,Q0,Qg,Qj,Qk,Ql,Qm,reduceIte,hi,E,O,C,a3,W,c2,y]
  ·have y:=Q (i+1) o (l++ [c]) (by omega) (by omega) (by rw[ae,aG];omega) Z
   by_cases C:c<32
   ·simp only[go_sem,Qg,Qj,Qk,Ql,Qm,reduceIte,hi,E,F,C]
   ·by_cases a3:126<c
    ·simp only[go_sem,Qg,Qj,Qk,Ql,Qm,reduceIte,hi,E,F,C,a3]
    ·simp only[go_sem,Qg,Qj,Qk,Ql,Qm,reduceIte,hi,E,O,F,C,a3,c1,y]
theorem xxA(x:Img)(F:x.pay.length<=1000000000000):call T 169 [.agg x.sv] [] 0=some ⟨.lst 1 (bls (kZ x.pay)) .no,[],[]⟩:=by
 obtain⟨I,E,J,p⟩:=x;have h:=xwP I E J p F _ 0 [] [] rfl (by omega) (by simp) (by simp);simp only[az,bj]at h;have y:bls []=[]:=rfl;rw[y]at h;rw[aj xsi];unfold kZ Img.sv;cases hq:lnF p [] []with
 |none=>rw[hq]at h;simp only[go_sem,Qg,Qj,Qk,Ql,Qm,reduceCtorEq,reduceIte,h,y]
 |some q=>
  obtain⟨o,l⟩:=q;rw[hq]at h
  by_cases C:(0:Int)<l.length
  ·simp only[go_sem,Qg,Qj,Qk,Ql,Qm,reduceCtorEq,reduceIte,h,y,C]
  ·simp only[go_sem,Qg,Qj,Qk,Ql,Qm,reduceCtorEq,reduceIte,h,C]
def kF(x:Img):Int:=
 if x.role<1 then 1 else if 4<x.role then 1 else if x.ver<0 then 1 else if 1000000<x.ver then 1 else if Pr.nameB x.name=false then 43 else if(64:Int)<x.pay.length then 4 else if x.role=4 then(if((kZ x.pay).length:Int)=0 then 40 else 0)else 0
theorem xxI(x:Img)(hn:x.name.length<=1000000000000)(hp:x.pay.length<=1000000000000):call T 152 [.agg x.sv] [] 0=some ⟨.int .i64 (kF x),[],[]⟩:=by
 have C:=xop x.name hn;have I:=xxA x hp;obtain⟨J,Z,W,p⟩:=x;have Q:=Gw (kZ p);simp only[Img.sv]at C I ⊢;rw[aj xst];unfold kF
 by_cases y:J<1
 ·simp only[go_sem,Qg,Qj,Qk,Ql,Qm,reduceCtorEq,reduceIte,y]
 by_cases E:4<J
 ·simp only[go_sem,Qg,Qj,Qk,Ql,Qm,reduceCtorEq,reduceIte,y,E]
 by_cases a3:W<0
 ·simp only[go_sem,Qg,Qj,Qk,Ql,Qm,reduceCtorEq,reduceIte,y,E,a3]
 by_cases a4:1000000<W
 ·simp only[go_sem,Qg,Qj,Qk,Ql,Qm,reduceCtorEq,reduceIte,y,E,a3,a4]
 cases a5:Pr.nameB Z with
 |false=>rw[a5]at C;simp only[go_sem,Qg,Qj,Qk,Ql,Qm,reduceCtorEq,reduceIte,y,E,a3,a4,C,gH]
 |true=>
  rw[a5]at C
  by_cases F:(64:Int)<p.length
  ·simp only[go_sem,Qg,Qj,Qk,Ql,Qm,reduceCtorEq,reduceIte,y,E,a3,a4,C,gH,F]
  by_cases L:J=4
  ·subst L
   by_cases O:((kZ p).length:Int)=0
   ·simp only[go_sem,Qg,Qj,Qk,Ql,Qm,reduceCtorEq,reduceIte,y,E,a3,a4,C,gH,F,I,xiK,Q,O]
   ·simp only[go_sem,Qg,Qj,Qk,Ql,Qm,reduceCtorEq,reduceIte,y,E,a3,a4,C,gH,F,I,xiK,Q,O]
  ·simp only[go_sem,Qg,Qj,Qk,Ql,Qm,reduceCtorEq,reduceIte,y,E,a3,a4,C,gH,F,L]
def oy(x:Img):d9:=if kF x=0 then jM (jM (be 1 (aQ.wrap x.role)++be 4 (aQ.wrap x.ver)) x.name) x.pay else []
theorem eP(B X:d9):(jM B X).length=B.length+2+min 65535 X.length:=by unfold jM;rw[ae,ae,gr,an]
theorem zO(x:Img)(hn:x.name.length<=1000000)(y:x.pay.length<=1000000):(oy x).length<=10000000:=by
 unfold oy;split
 ·rw[eP,eP,ae,gr,gr];omega
 ·simp
theorem xvd(x:Img)(hn:x.name.length<=1000000)(O:x.pay.length<=1000000):call T 120 [.agg x.sv] [] 0=some ⟨.byt (oy x) .no,[],[]⟩:=by
 have g0:=xxI x (by omega) (by omega);have C:=f64 [] 1 x.role (by omega) (by omega) (by simp);have y:=f64 (be 1 (aQ.wrap x.role)) 4 x.ver (by omega) (by omega) (by rw[gr];omega);have E:=f63 (be 1 (aQ.wrap x.role)++be 4 (aQ.wrap x.ver)) x.name (by rw[ae,gr,gr];omega) (by omega);have I:=f63 (jM (be 1 (aQ.wrap x.role)++be 4 (aQ.wrap x.ver)) x.name) x.pay (by rw[eP,ae,gr,gr];omega) (by omega);simp only[Int.cast_ofNat_Int,aF]at C y;obtain⟨J,F,L,p⟩:=x;simp only[Img.sv]at*;rw[aj xsP];unfold oy
 by_cases h:kF ⟨J,F,L,p⟩=0
 ·rw[h]at g0
  simp only[go_sem,Qg,Qi,Qj,Qk,Ql,Qm,reduceCtorEq,reduceIte,g0,xiS,C,GK,y,E,xa7,I,h]
 ·simp only[go_sem,Qg,Qj,Qk,Ql,Qm,reduceCtorEq,reduceIte,g0,xiS,h]
theorem lV{s:d9}(h:Pr.nameB s=true):1<=s.length/\s.length<=12:=by
 unfold Pr.nameB at h;split at h
 ·cases h
 ·omega
theorem we{x:Img}(h:kF x=0):1<=x.role/\x.role<=4/\0<=x.ver/\x.ver<=1000000/\Pr.nameB x.name=true/\x.pay.length<=64:=by
 unfold kF at h
 repeat' split at h
 all_goals first|omega|skip
 all_goals (cases y:Pr.nameB x.name with
  |true=>exact⟨by omega,by omega,by omega,by omega,rfl,by omega⟩
  |false=>simp_all)
theorem CW{x:Img}(h:kF x=0):x.name.length<=1000000/\x.pay.length<=1000000:=by obtain⟨_,_,_,_,y,C⟩:=we h;have:=lV y;omega
def jC(l:List Img):d8:=l.map Img.sv
def im0:Img:=⟨0,[],0,[]⟩
theorem ke(l:List Img):(jC l).length=l.length:=aV ..
theorem rZ(l:List Img)(i:Nat)(h:i<l.length):(jC l).getD i []=(l.getD i im0).sv:=by simp[jC,aa,h]
structure iG(l:List Img):Prop where
 n1:1<=l.length
 n8:l.length<=8
 ok:∀i,i<l.length->kF (l.getD i im0)=0
 ord:∀i,i+1<l.length->(l.getD i im0).role<=(l.getD (i+1) im0).role
 dup:∀i,i<l.length->∀k,k<i->(l.getD k im0).role=(l.getD i im0).role->(l.getD k im0).name≠(l.getD i im0).name
 fw:∃i,i<l.length/\(l.getD i im0).role=1
 kn:∃i,i<l.length/\(l.getD i im0).role=3
def rf(a b:Int):Int:=if a<b then-1 else if b<a then 1 else 0
theorem xu6(a:Int):call T 161 [.int .i64 a] [] 0=some ⟨.bool false,[],[]⟩:=by rw[aj xso];simp only[go_sem,Qj,Qk,Ql,Qm,reduceCtorEq,reduceIte]
theorem xol(a b:Int):call T 134 [.int .i64 a,.int .i64 b] [] 0=some ⟨.int .i64 (rf a b),[],[]⟩:=by
 have C:=xu6 a;have y:=xu6 b;rw[aj xsH];unfold rf
 by_cases E:a<b
 ·simp only[go_sem,Q9,Qg,Qj,Qk,Ql,Qm,reduceCtorEq,reduceIte,C,y,X7,E]
 ·by_cases F:b<a
  ·simp only[go_sem,Q9,Qg,Qj,Qk,Ql,Qm,reduceCtorEq,reduceIte,C,y,X7,E,F]
  ·simp only[go_sem,Q9,Qg,Qj,Qk,Ql,Qm,reduceCtorEq,reduceIte,C,y,X7,E,F]
theorem f83(a b:d9):call T 83 [.byt a .no,.byt b .no] [] 0=some ⟨.int .i64 (Lib.compareBytes a b),[],[]⟩:=by rw[ff xyr];rfl
theorem xxt(a b:d9):call T 191 [.str a,.str b] [] 0=some ⟨.int .i64 (Lib.compareBytes a b),[],[]⟩:=by rw[ff xr8];rfl
theorem f189(a:d9):call T 189 [.str a] [] 0=some ⟨.bool (Pr.nameB a),[],[]⟩:=by rw[ff xr9];rfl
theorem xxE(a b:d9):call T 159 [.str a,.str b] [] 0=some ⟨.int .i64 (Lib.compareBytes a b),[],[]⟩:=by have g:=xxt a b;rw[aj xsp];simp only[go_sem,Qg,Qj,Qk,Ql,Qm,reduceCtorEq,reduceIte,g,xs7]
def orI(a b c d:Int):Int:=if a≠0 then a else if b≠0 then b else if c≠0 then c else d
theorem xxP(a b c d:Int):call T 133 [.lst 1 [[.int .i64 a],[.int .i64 b],[.int .i64 c],[.int .i64 d]] .no] [] 0=some ⟨.int .i64 (orI a b c d),[],[]⟩:=by
 have k1:af.wrap 1=1:=rfl;have k2:af.wrap 2=2:=rfl;have y:af.wrap 3=3:=rfl;have J:af.wrap 4=4:=rfl;rw[aj xio];unfold orI
 by_cases I:a=0
 ·subst I
  by_cases F:b=0
  ·subst F
   by_cases E:c=0
   ·subst E
    by_cases C:d=0
    ·subst C
     simp only[go_sem,Qg,Qj,Qk,Ql,Qm,reduceCtorEq,reduceIte]
     iterate 5
      rw[ai];simp only[go_sem,Q4,Q5,Q6,Qa,Qg,Qj,Ql,Qm,reduceIte,k1,k2,y,J]
    ·simp only[go_sem,Qg,Qj,Qk,Ql,Qm,reduceCtorEq,reduceIte]
     iterate 4
      rw[ai];simp only[go_sem,Q4,Q5,Q6,Qa,Qg,Qj,Ql,Qm,reduceIte,k1,k2,y,C]
   ·simp only[go_sem,Qg,Qj,Qk,Ql,Qm,reduceCtorEq,reduceIte]
    iterate 3
     rw[ai];simp only[go_sem,Q4,Q5,Q6,Qa,Qg,Qj,Ql,Qm,reduceIte,k1,k2,E]
  ·simp only[go_sem,Qg,Qj,Qk,Ql,Qm,reduceCtorEq,reduceIte]
   iterate 2
    rw[ai];simp only[go_sem,Q4,Q5,Q6,Qa,Qg,Qj,Ql,Qm,reduceIte,k1,F]
 ·simp only[go_sem,Qg,Qj,Qk,Ql,Qm,reduceCtorEq,reduceIte]
  rw[ai];simp only[go_sem,Q4,Q5,Q6,Qg,Qj,Ql,Qm,reduceIte,I]
structure Ent where
 role:Int
 name:List UInt8
 ver:Int
 dig:List UInt8
def Ent.sv(x:Ent):f8:=[.int .i64 x.role,.str x.name,.int .i64 x.ver,.byt x.dig .no]
def Jc(x y:Ent):Int:=orI (rf x.role y.role) (Lib.compareBytes x.name y.name) (rf x.ver y.ver) (Lib.compareBytes x.dig y.dig)
theorem f128(x y:Ent):call T 128 [.agg x.sv,.agg y.sv] [] 0=some ⟨.int .i64 (Jc x y),[],[]⟩:=by have I:=xol x.role y.role;have E:=xxE x.name y.name;have C:=xol x.ver y.ver;have J:=f83 x.dig y.dig;have F:=xxP (rf x.role y.role) (Lib.compareBytes x.name y.name) (rf x.ver y.ver) (Lib.compareBytes x.dig y.dig);obtain⟨r,n,v,d⟩:=x;obtain⟨L,n2,O,Q⟩:=y;simp only[Ent.sv]at*;rw[aj xsJ];unfold Jc;simp only[go_sem,Qd,Qe,Qf,Qg,Qj,Qk,Ql,Qm,reduceCtorEq,reduceIte,I,xiY,E,xth,C,J,xow,F,xiZ]
def lsF:d9->d9->Option Bool
 |a::x,b::y=>if a=b then lsF x y else some (decide (a<b))
 |_,_=>none
theorem y9:∀x y:d9,bN x y=match lsF x y with|some q=>q|none=>decide (x.length<y.length)
 |[],[]=>by simp[lsF,bN]
 |[],_::_=>by simp[lsF,bN]
 |_::_,[]=>by simp[lsF,bN]
 |a::x,b::y=>by
  unfold lsF bN
  by_cases h:a=b
  ·subst h
   rw[if_pos rfl,y9 x y];have:¬a<a:=UInt8.lt_irrefl a;simp[this]
  ·rw[if_neg h]
   simp[h]
theorem l98(a b:d9)(W:a.length<=1000000000000):∀(n i:Nat),a.length-i=n->i<=a.length->i<=b.length->
 run T (.loop Va) ⟨[(0,.byt a .no),(1,.byt b .no),(5,.int .i64 i)],[],[]⟩=
 match lsF (a.drop i) (b.drop i)with
 |some q=>some (.r,⟨[(4,.bool q)],[],[]⟩)
 |none=>some (.x 0,⟨[(0,.byt a .no),(1,.byt b .no)],[],[]⟩):=by
 intro n;induction n with
 |zero=>
  intro i F Q I;have:i=a.length:=by omega
  subst this;have e:lsF [] (b.drop a.length)=none:=by unfold lsF;rfl
  rw[ai,bK,e];simp only[go_sem,Qj,Ql,Qm,reduceCtorEq,reduceIte]
 |succ n L=>
  intro i F Q I;have hi:i<a.length:=by omega
  have J:=cr i (by omega);rw[ai,dz a i hi]
  by_cases C:i<b.length
  ·have E:=L (i+1) (by omega) (by omega) (by omega)
   rw[dz b i C];unfold lsF
   by_cases y:a.getD i 0=b.getD i 0
   ·rw[if_pos y]
    simp only[go_sem,Qj,Ql,Qm,reduceCtorEq,reduceIte,hi,C,J,y,E]
   ·rw[if_neg y]
    simp only[go_sem,Qj,Ql,Qm,reduceCtorEq,reduceIte,hi,C,y]
  ·have O:b.drop i=[]:=bT (by omega)
   have e:lsF (a.getD i 0::a.drop (i+1)) []=none:=by unfold lsF;rfl
   rw[O,e];simp only[go_sem,Qj,Ql,Qm,reduceCtorEq,reduceIte,hi,C]
theorem f98(a b:d9)(y:a.length<=1000000000000):call T 98 [.byt a .no,.byt b .no] [] 0=some ⟨.bool (bN a b),[],[]⟩:=by
 have h:=l98 a b y _ 0 rfl (by omega) (by omega);simp only[az,bj]at h;rw[aj xye,y9];cases hq:lsF a b with
 |some q=>rw[hq]at h;simp only[go_sem,Qg,Qj,Qk,Ql,Qm,reduceCtorEq,reduceIte,h]
 |none=>rw[hq]at h;simp only[go_sem,Qg,Qj,Qk,Ql,Qm,reduceCtorEq,reduceIte,h]
def jd(x y:Ent):Bool:=if x.role=y.role then(if x.name=y.name then(if x.ver=y.ver then bN x.dig y.dig else decide (x.ver<y.ver))else bN x.name y.name)else decide (x.role<y.role)
theorem xoo(x y:Ent)(L:x.dig.length<=1000000000000):call T 107 [.agg x.sv,.agg y.sv] [] 0=some ⟨.bool (jd x y),[],[]⟩:=by
 have g:=f98 x.dig y.dig L;obtain⟨r,n,v,d⟩:=x;obtain⟨I,n2,J,O⟩:=y;simp only[Ent.sv]at*;rw[aj xs0];unfold jd
 by_cases C:r=I
 ·by_cases E:n=n2
  ·by_cases F:v=J
   ·simp only[go_sem,Qg,Qj,Qk,Ql,Qm,reduceCtorEq,reduceIte,C,E,F,g,GD]
   ·simp only[go_sem,Qg,Qj,Qk,Ql,Qm,reduceCtorEq,reduceIte,C,E,F]
  ·simp only[go_sem,Qg,Qj,Qk,Ql,Qm,reduceCtorEq,reduceIte,C,E]
 ·simp only[go_sem,Qg,Qj,Qk,Ql,Qm,reduceCtorEq,reduceIte,C]
theorem ec:∀x y:d9,Lib.compareBytes x y<0↔bN x y=true
 |[],[]=>by simp[Lib.compareBytes,bN]
 |[],_::_=>by simp[Lib.compareBytes,bN]
 |_::_,[]=>by simp[Lib.compareBytes,bN]
 |a::x,b::y=>by
  unfold Lib.compareBytes bN;have I:=ec x y
  by_cases C:a<b
  ·simp[C]
  ·by_cases E:b<a
   ·have F:¬a=b:=by intro e;subst e;exact C E
    simp[C,E,F]
   ·have F:a=b:=UInt8.le_antisymm (UInt8.not_lt.1 E) (UInt8.not_lt.1 C)
    subst F;simp[C,I]
theorem gM:∀x y:d9,Lib.compareBytes x y=0↔x=y
 |[],[]=>by simp[Lib.compareBytes]
 |[],_::_=>by simp[Lib.compareBytes]
 |_::_,[]=>by simp[Lib.compareBytes]
 |a::x,b::y=>by
  unfold Lib.compareBytes;have I:=gM x y
  by_cases C:a<b
  ·have E:¬a=b:=by intro e;subst e;exact UInt8.lt_irrefl a C
   simp[C,E]
  ·by_cases F:b<a
   ·have E:¬a=b:=by intro e;subst e;exact C F
    simp[C,F,E]
   ·have E:a=b:=UInt8.le_antisymm (UInt8.not_lt.1 F) (UInt8.not_lt.1 C)
    subst E;simp[C,I]
theorem Gr(a b:Int):rf a b<0↔a<b:=by
 unfold rf;repeat' split
 all_goals omega
theorem qZ(a b:Int):rf a b=0↔a=b:=by
 unfold rf;repeat' split
 all_goals omega
theorem ZB(x y:Ent):Jc x y<0↔jd x y=true:=by
 unfold Jc orI jd
 by_cases E:x.role=y.role
 ·rw[if_neg (by simp[qZ,E]),if_pos E]
  by_cases C:x.name=y.name
  ·rw[if_neg (by simp[gM,C]),if_pos C]
   by_cases F:x.ver=y.ver
   ·rw[if_neg (by simp[qZ,F]),if_pos F];exact ec _ _
   ·rw[if_pos (by simp[qZ,F]),if_neg F,decide_eq_true_eq];exact Gr _ _
  ·rw[if_pos (by simp[gM,C]),if_neg C];exact ec _ _
 ·rw[if_pos (by simp[qZ,E]),if_neg E,decide_eq_true_eq];exact Gr _ _
theorem xrF(s:d9):call T 158 [.agg [.int .i64 1,.str s,.int .i64 0,.byt [] .no]] [] 0=some ⟨.int .i64 (if Pr.nameB s=true then 0 else 43),[],[]⟩:=by
 have g:=f189 s;rw[aj xsq];cases h:Pr.nameB s with
 |true=>rw[h]at g;simp only[go_sem,Q6,Q7,Qg,Qj,Qk,Ql,Qm,reduceCtorEq,reduceIte,g,xiG]
 |false=>rw[h]at g;simp only[go_sem,Q6,Q7,Qg,Qj,Qk,Ql,Qm,reduceCtorEq,reduceIte,g,xiG]
theorem xvb(s:d9):call T 127 [.str s] [] 0=some ⟨.bool (Pr.nameB s),[],[]⟩:=by
 have g:=xrF s;rw[aj xsK];cases h:Pr.nameB s with
 |true=>rw[h]at g;simp only[go_sem,Qg,Qj,Qk,Ql,Qm,reduceCtorEq,reduceIte,g,xiP]
 |false=>rw[h]at g;simp only[go_sem,Q7,Qg,Qj,Qk,Ql,Qm,reduceCtorEq,reduceIte,g,xiP]
structure Rul where
 kind:Int
 text:List UInt8
 lo:Int
 hi:Int
def Rul.sv(r:Rul):f8:=[.int .i64 r.kind,.str r.text,.int .i64 r.lo,.int .i64 r.hi]
structure Man where
 vendor:List UInt8
 ver:Int
 flr:Int
 frm:Int
 til:Int
 ents:List Ent
 ruls:List Rul
def di(l:List Ent):d8:=l.map Ent.sv
def dS(l:List Rul):d8:=l.map Rul.sv
def Man.sv(m:Man):f8:=[.str m.vendor,.int .i64 m.ver,.int .i64 m.flr,.int .i64 m.frm,.int .i64 m.til,.lst 4 (di m.ents) .no,.lst 4 (dS m.ruls) .no]
def en0:Ent:=⟨0,[],0,[]⟩
def rl0:Rul:=⟨0,[],0,0⟩
theorem dn(l:List Ent):(di l).length=l.length:=aV ..
theorem dM(l:List Rul):(dS l).length=l.length:=aV ..
theorem fR(l:List Ent)(i:Nat)(h:i<l.length):(di l).getD i []=(l.getD i en0).sv:=by simp[di,aa,h]
theorem jY(l:List Rul)(i:Nat)(h:i<l.length):(dS l).getD i []=(l.getD i rl0).sv:=by simp[dS,aa,h]
structure dC(m:Man):Prop where
 v:m.vendor.length<=1000000
 en:m.ents.length<=1000000
 rn:m.ruls.length<=1000000
 e:∀x∈m.ents,x.name.length<=1000000/\x.dig.length<=1000000
 r:∀x∈m.ruls,x.text.length<=1000000
theorem bP{α:Type}(l:List α)(d:α)(i:Nat)(h:i<l.length):l.getD i d∈l:=by rw[aa,ac h];exact bv _
def nb(l:List Ent)(i:Nat):Int:=
 if(l.getD i en0).role<1 then 1 else if 3<(l.getD i en0).role then 1 else if(l.getD i en0).ver<0 then 1 else if 1000000<(l.getD i en0).ver then 1
 else if((l.getD i en0).dig.length:Int)=32 then(if Pr.nameB (l.getD i en0).name=true then(if i=0 then 0 else if jd (l.getD (i-1) en0) (l.getD i en0)=true then 0 else 41)else 43)else 1
def iN(l:List Ent):Nat->Nat->Int
 |0,_=>0
 |n+1,i=>if nb l i=0 then iN l n (i+1)else nb l i
def p6(r:Rul):Int:=chk r.kind r.text r.lo r.hi
def iW:List Rul->Int
 |[]=>0
 |r::t=>if p6 r=0 then iW t else p6 r
def fj(m:Man):Int:=
 if Pr.nameB m.vendor=true then
  (if m.flr<0 then 1 else if m.ver<m.flr then 1 else if 1000000<m.ver then 1 else if m.frm<0 then 1 else if m.til<=m.frm then 1 else if 1099511627776<m.til then 1
  else if(16:Int)<m.ents.length then 4 else if(8:Int)<m.ruls.length then 4 else if iN m.ents m.ents.length 0=0 then iW m.ruls else iN m.ents m.ents.length 0)
 else 43
def D9(m:Man)(i:Nat):CSt:=⟨[(1,.ptr 101 0),(58,.lst 4 (di m.ents) .no),(59,.int .i64 m.ents.length),(60,.int .i64 i)],[(101,.rc m.sv)],[]⟩
theorem s44(m:Man)(hm:dC m)(i:Nat)(hi:i<m.ents.length):
 (nb m.ents i=0->run T (.loop nj) (D9 m i)=run T (.loop nj) (D9 m (i+1)))/\
 (nb m.ents i≠0->∃ob,run T (.loop nj) (D9 m i)=some (.r,⟨[(2,.int .i64 (nb m.ents i))],ob,[]⟩)):=by
 have e1:=cr i (by have:=hm.en;omega);have J:=dn m.ents;have I:=fR m.ents i hi;have W:=xvb (m.ents.getD i en0).name;have g2:=f128 (m.ents.getD (i-1) en0) (m.ents.getD i en0);have hb:=ZB (m.ents.getD (i-1) en0) (m.ents.getD i en0);have es:0<i->af.wrap ((i:Int)-1)=((i-1:Nat):Int):=fun h=>by rw[w64 (by omega) (by have:=hm.en;omega)];omega
 have Q:i-1<m.ents.length:=by omega
 have Z:=fR m.ents (i-1) Q;unfold nb;obtain⟨L,O,m2,m3,m4,C,rs⟩:=m;simp only[D9,Man.sv]at*;generalize C.getD i en0=x at*;generalize C.getD (i-1) en0=y at*;obtain⟨r,n,v,d⟩:=x;obtain⟨r2,n2,v2,d2⟩:=y;simp only[Ent.sv]at*
 by_cases E:r<1
 ·refine⟨fun h=>by simp[E]at h,fun _=>⟨[(101,.rc [.str L,.int .i64 O,.int .i64 m2,.int .i64 m3,.int .i64 m4,.lst 4 (di C) .no,.lst 4 (dS rs) .no]),(104,.rc [.int .i64 r,.str n,.int .i64 v,.byt d .no])], ?_⟩⟩
  rw[ai];simp only[go_sem,Qg,Qj,Qk,Ql,Qm,reduceIte,hi,J,I,E]
 by_cases F:3<r
 ·refine⟨fun h=>by simp[E,F]at h,fun _=>⟨[(101,.rc [.str L,.int .i64 O,.int .i64 m2,.int .i64 m3,.int .i64 m4,.lst 4 (di C) .no,.lst 4 (dS rs) .no]),(104,.rc [.int .i64 r,.str n,.int .i64 v,.byt d .no])], ?_⟩⟩
  rw[ai];simp only[go_sem,Qg,Qj,Qk,Ql,Qm,reduceIte,hi,J,I,E,F]
 by_cases a3:v<0
 ·refine⟨fun h=>by simp[E,F,a3]at h,fun _=>⟨[(101,.rc [.str L,.int .i64 O,.int .i64 m2,.int .i64 m3,.int .i64 m4,.lst 4 (di C) .no,.lst 4 (dS rs) .no]),(104,.rc [.int .i64 r,.str n,.int .i64 v,.byt d .no])], ?_⟩⟩
  rw[ai];simp only[go_sem,Qg,Qj,Qk,Ql,Qm,reduceIte,hi,J,I,E,F,a3]
 by_cases a4:1000000<v
 ·refine⟨fun h=>by simp[E,F,a3,a4]at h,fun _=>⟨[(101,.rc [.str L,.int .i64 O,.int .i64 m2,.int .i64 m3,.int .i64 m4,.lst 4 (di C) .no,.lst 4 (dS rs) .no]),(104,.rc [.int .i64 r,.str n,.int .i64 v,.byt d .no])], ?_⟩⟩
  rw[ai];simp only[go_sem,Qg,Qj,Qk,Ql,Qm,reduceIte,hi,J,I,E,F,a3,a4]
 by_cases a5:(d.length:Int)=32
 ·cases a6:Pr.nameB n with
  |false=>rw[a6]at W;refine⟨fun h=>by simp[E,F,a3,a4,a5]at h,fun _=>⟨[(101,.rc [.str L,.int .i64 O,.int .i64 m2,.int .i64 m3,.int .i64 m4,.lst 4 (di C) .no,.lst 4 (dS rs) .no]),(104,.rc [.int .i64 r,.str n,.int .i64 v,.byt d .no])], ?_⟩⟩;rw[ai];simp only[go_sem,Qg,Qj,Qk,Ql,Qm,reduceIte,hi,J,I,E,F,a3,a4,a5,W,ju]
  |true=>
   rw[a6]at W
   by_cases a7:i=0
   ·subst a7
    have hp:(0:Int)<C.length:=by omega
    have kw:af.wrap 1=1:=rfl;refine⟨fun _=> ?_,fun h=>by simp[E,F,a3,a4,a5]at h⟩;rw[ai];simp only[go_sem,Q4,Q5,Q6,Qa,Qd,Qe,Qf,Qg,Qj,Qk,Ql,Qm,reduceIte,hp,kw,J,I,E,F,a3,a4,a5,W,ju]
   ·have hp:(0:Int)<(i:Nat):=by omega
    have b1:0<i:=by omega
    have b0:=es b1;cases a8:jd ⟨r2,n2,v2,d2⟩ ⟨r,n,v,d⟩with
    |true=>
     have h9:¬0<=Jc ⟨r2,n2,v2,d2⟩ ⟨r,n,v,d⟩:=by have:=hb.2 a8;omega
     refine⟨fun _=> ?_,fun h=>by simp[E,F,a3,a4,a5,a7]at h⟩;rw[ai];simp only[go_sem,Qd,Qe,Qf,Qg,Qj,Qk,Ql,Qm,reduceIte,hi,hp,Q,b0,Z,e1,J,I,E,F,a3,a4,a5,W,ju,g2,xi0,h9]
    |false=>
     have h9:0<=Jc ⟨r2,n2,v2,d2⟩ ⟨r,n,v,d⟩:=by
      rcases Int.lt_or_le (Jc ⟨r2,n2,v2,d2⟩ ⟨r,n,v,d⟩) 0 with h|h
      ·rw[hb.1 h]at a8;cases a8
      ·exact h
     refine⟨fun h=>by simp[E,F,a3,a4,a5,a7]at h,fun _=>⟨[(101,.rc [.str L,.int .i64 O,.int .i64 m2,.int .i64 m3,.int .i64 m4,.lst 4 (di C) .no,.lst 4 (dS rs) .no]),(104,.rc [.int .i64 r,.str n,.int .i64 v,.byt d .no])], ?_⟩⟩;rw[ai];simp only[go_sem,Qd,Qe,Qf,Qg,Qj,Qk,Ql,Qm,reduceIte,hi,hp,Q,b0,Z,J,I,E,F,a3,a4,a5,W,ju,g2,xi0,h9,a7]
 ·refine⟨fun h=>by simp[E,F,a3,a4,a5]at h,fun _=>⟨[(101,.rc [.str L,.int .i64 O,.int .i64 m2,.int .i64 m3,.int .i64 m4,.lst 4 (di C) .no,.lst 4 (dS rs) .no]),(104,.rc [.int .i64 r,.str n,.int .i64 v,.byt d .no])], ?_⟩⟩
  rw[ai];simp only[go_sem,Qg,Qj,Qk,Ql,Qm,reduceIte,hi,J,I,E,F,a3,a4,a5]
theorem l80(m:Man)(E:dC m):∀(n i:Nat),m.ents.length-i=n->i<=m.ents.length->
 (iN m.ents n i=0->run T (.loop nj) (D9 m i)=some (.x 1,⟨[(1,.ptr 101 0)],[(101,.rc m.sv)],[]⟩))/\
 (iN m.ents n i≠0->∃ob,run T (.loop nj) (D9 m i)=some (.r,⟨[(2,.int .i64 (iN m.ents n i))],ob,[]⟩)):=by
 intro n;induction n with
 |zero=>
  intro i y J;have:i=m.ents.length:=by omega
  subst this;refine⟨fun _=> ?_,fun h=>absurd rfl h⟩;rw[ai];simp only[D9,go_sem,Qj,Ql,Qm,reduceIte]
 |succ n I=>
  intro i y J;obtain⟨F,O⟩:=s44 m E i (by omega);obtain⟨C,Q⟩:=I (i+1) (by omega) (by omega);unfold iN
  by_cases h:nb m.ents i=0
  ·rw[if_pos h,F h];exact⟨C,Q⟩
  ·rw[if_neg h];exact⟨fun L=>absurd L h,O⟩
theorem xwu(m:Man)(Q:dC m)(ob:List (Nat×aH))(O:ob=[(101,.rc m.sv)]):∀(n i:Nat),m.ruls.length-i=n->i<=m.ruls.length->
 (iW (m.ruls.drop i)=0->run T (.loop xj) ⟨[(111,.lst 4 (dS m.ruls) .no),(112,.int .i64 m.ruls.length),(113,.int .i64 i)],ob,[]⟩=some (.x 4,⟨[],ob,[]⟩))/\
 (iW (m.ruls.drop i)≠0->∃ob',run T (.loop xj) ⟨[(111,.lst 4 (dS m.ruls) .no),(112,.int .i64 m.ruls.length),(113,.int .i64 i)],ob,[]⟩=some (.r,⟨[(2,.int .i64 (iW (m.ruls.drop i)))],ob',[]⟩)):=by
 intro n;induction n with
 |zero=>
  intro i Z h1;have:i=m.ruls.length:=by omega
  subst this;rw[bK];refine⟨fun _=> ?_,fun h=>absurd rfl h⟩;rw[ai];simp only[go_sem,Qj,Ql,Qm,reduceIte]
 |succ n ih=>
  intro i Z h1;have hi:i<m.ruls.length:=by omega
  obtain⟨i1,i2⟩:=ih (i+1) (by omega) (by omega);have W:=cr i (by have:=Q.rn;omega);have F:=dM m.ruls;have E:=jY m.ruls i hi;have hd:m.ruls.drop i=m.ruls.getD i rl0::m.ruls.drop (i+1):=by rw[bz hi,aa,ac hi];rfl
  have hb:=Q.r _ (bP m.ruls rl0 i hi);rw[hd];unfold iW;generalize m.ruls.drop (i+1)=R at*;generalize m.ruls.getD i rl0=x at*;obtain⟨mv,m1,m2,m3,m4,J,rs⟩:=m;obtain⟨k,t,lo,y⟩:=x;simp only[Man.sv,Rul.sv]at*;subst O;have g:=f129 k t lo y (by omega)
  by_cases h:p6 ⟨k,t,lo,y⟩=0
  ·rw[if_pos h]
   unfold p6 at h;simp only at h;rw[h]at g;refine⟨fun C=> ?_,fun C=> ?_⟩
   ·have I:=i1 C
    rw[ai];simp only[go_sem,Qg,Qj,Qk,Ql,Qm,reduceIte,hi,W,F,E,g,Yc,I]
   ·obtain⟨ob',L⟩:=i2 C
    refine⟨ob', ?_⟩;rw[ai];simp only[go_sem,Qg,Qj,Qk,Ql,Qm,reduceIte,hi,W,F,E,g,Yc,L]
  ·rw[if_neg h]
   unfold p6 at h ⊢;simp only at h ⊢;refine⟨fun C=>absurd C h,fun C=>⟨[(101,.rc [.str mv,.int .i64 m1,.int .i64 m2,.int .i64 m3,.int .i64 m4,.lst 4 (di J) .no,.lst 4 (dS rs) .no]),(106,.rc [.int .i64 k,.str t,.int .i64 lo,.int .i64 y])], ?_⟩⟩;rw[ai];simp only[go_sem,Qg,Qj,Qk,Ql,Qm,reduceIte,hi,F,E,g,Yc,h]
theorem f80(m:Man)(hm:dC m):call T 80 [.agg m.sv] [] 0=some ⟨.int .i64 (fj m),[],[]⟩:=by
 have y:=xvb m.vendor;obtain⟨l1,l2⟩:=l80 m hm _ 0 rfl (by omega);obtain⟨r1,r2⟩:=xwu m hm _ rfl _ 0 rfl (by omega);have O:=dn m.ents;have W:=dM m.ruls;obtain⟨mv,m1,m2,m3,m4,F,rs⟩:=m;simp only[D9,Man.sv,az,bj,Nat.sub_zero]at*;rw[aj xyu];unfold fj;simp only;cases a0:Pr.nameB mv with
 |false=>rw[a0]at y;simp only[go_sem,Qg,Qj,Qk,Ql,Qm,reduceCtorEq,reduceIte,y,ju]
 |true=>
  rw[a0]at y
  by_cases C:m2<0
  ·simp only[go_sem,Qg,Qj,Qk,Ql,Qm,reduceCtorEq,reduceIte,y,ju,C]
  by_cases E:m1<m2
  ·simp only[go_sem,Qg,Qj,Qk,Ql,Qm,reduceCtorEq,reduceIte,y,ju,C,E]
  by_cases a3:1000000<m1
  ·simp only[go_sem,Qg,Qj,Qk,Ql,Qm,reduceCtorEq,reduceIte,y,ju,C,E,a3]
  by_cases a4:m3<0
  ·simp only[go_sem,Qg,Qj,Qk,Ql,Qm,reduceCtorEq,reduceIte,y,ju,C,E,a3,a4]
  by_cases a5:m4<=m3
  ·simp only[go_sem,Qg,Qj,Qk,Ql,Qm,reduceCtorEq,reduceIte,y,ju,C,E,a3,a4,a5]
  by_cases I:1099511627776<m4
  ·simp only[go_sem,Qg,Qj,Qk,Ql,Qm,reduceCtorEq,reduceIte,y,ju,C,E,a3,a4,a5,I]
  by_cases L:(16:Int)<F.length
  ·simp only[go_sem,Qg,Qj,Qk,Ql,Qm,reduceCtorEq,reduceIte,y,ju,C,E,a3,a4,a5,I,L,O]
  by_cases Q:(8:Int)<rs.length
  ·simp only[go_sem,Qg,Qj,Qk,Ql,Qm,reduceCtorEq,reduceIte,y,ju,C,E,a3,a4,a5,I,L,Q,O,W]
  by_cases a9:iN F F.length 0=0
  ·have J:=l1 a9
   by_cases b0:iW rs=0
   ·have b1:=r1 b0
    simp only[go_sem,Qg,Qj,Qk,Ql,Qm,reduceCtorEq,reduceIte,y,ju,C,E,a3,a4,a5,I,L,Q,O,W,J,a9,b1,b0]
   ·obtain⟨ob,b3⟩:=r2 b0
    simp only[go_sem,Qg,Qj,Qk,Ql,Qm,reduceCtorEq,reduceIte,y,ju,C,E,a3,a4,a5,I,L,Q,O,W,J,a9,b3]
  ·obtain⟨ob,Z⟩:=l2 a9
   simp only[go_sem,Qg,Qj,Qk,Ql,Qm,reduceCtorEq,reduceIte,y,ju,C,E,a3,a4,a5,I,L,Q,O,W,Z,a9]
def D8(m:Man)(i:Nat):CSt:=⟨[(1,.ptr 101 0),(3,.int .i64 i)],[(101,.rc m.sv)],[]⟩
theorem s54(m:Man)(hm:dC m)(i:Nat)(hi:i<m.ents.length):
 (nb m.ents i=0->run T (.loop np) (D8 m i)=run T (.loop np) (D8 m (i+1)))/\
 (nb m.ents i≠0->∃ob,run T (.loop np) (D8 m i)=some (.r,⟨[(2,.int .i64 (nb m.ents i))],ob,[]⟩)):=by
 have e1:=cr i (by have:=hm.en;omega);have L:=dn m.ents;have I:=fR m.ents i hi;have b3:=hm.e _ (bP m.ents en0 i hi);have J:i-1<m.ents.length:=by omega
 have hby:=hm.e _ (bP m.ents en0 (i-1) J);have W:=xop (m.ents.getD i en0).name (by omega);have g2:=xoo (m.ents.getD (i-1) en0) (m.ents.getD i en0) (by omega);have es:0<i->af.wrap ((i:Int)-1)=((i-1:Nat):Int):=fun h=>by rw[w64 (by omega) (by have:=hm.en;omega)];omega
 have Z:=fR m.ents (i-1) J;unfold nb;obtain⟨O,Q,m2,m3,m4,C,rs⟩:=m;simp only[D8,Man.sv]at*;generalize C.getD i en0=x at*;generalize C.getD (i-1) en0=y at*;obtain⟨r,n,v,d⟩:=x;obtain⟨r2,n2,v2,d2⟩:=y;simp only[Ent.sv]at*
 by_cases E:r<1
 ·refine⟨fun h=>by simp[E]at h,fun _=>⟨[(101,.rc [.str O,.int .i64 Q,.int .i64 m2,.int .i64 m3,.int .i64 m4,.lst 4 (di C) .no,.lst 4 (dS rs) .no]),(104,.rc [.int .i64 r,.str n,.int .i64 v,.byt d .no])], ?_⟩⟩
  rw[ai];simp only[go_sem,Qg,Qj,Qk,Ql,Qm,reduceIte,hi,L,I,E]
 by_cases F:3<r
 ·refine⟨fun h=>by simp[E,F]at h,fun _=>⟨[(101,.rc [.str O,.int .i64 Q,.int .i64 m2,.int .i64 m3,.int .i64 m4,.lst 4 (di C) .no,.lst 4 (dS rs) .no]),(104,.rc [.int .i64 r,.str n,.int .i64 v,.byt d .no])], ?_⟩⟩
  rw[ai];simp only[go_sem,Qg,Qj,Qk,Ql,Qm,reduceIte,hi,L,I,E,F]
 by_cases a3:v<0
 ·refine⟨fun h=>by simp[E,F,a3]at h,fun _=>⟨[(101,.rc [.str O,.int .i64 Q,.int .i64 m2,.int .i64 m3,.int .i64 m4,.lst 4 (di C) .no,.lst 4 (dS rs) .no]),(104,.rc [.int .i64 r,.str n,.int .i64 v,.byt d .no])], ?_⟩⟩
  rw[ai];simp only[go_sem,Qg,Qj,Qk,Ql,Qm,reduceIte,hi,L,I,E,F,a3]
 by_cases a4:1000000<v
 ·refine⟨fun h=>by simp[E,F,a3,a4]at h,fun _=>⟨[(101,.rc [.str O,.int .i64 Q,.int .i64 m2,.int .i64 m3,.int .i64 m4,.lst 4 (di C) .no,.lst 4 (dS rs) .no]),(104,.rc [.int .i64 r,.str n,.int .i64 v,.byt d .no])], ?_⟩⟩
  rw[ai];simp only[go_sem,Qg,Qj,Qk,Ql,Qm,reduceIte,hi,L,I,E,F,a3,a4]
 by_cases a5:(d.length:Int)=32
 ·cases a6:Pr.nameB n with
  |false=>rw[a6]at W;refine⟨fun h=>by simp[E,F,a3,a4,a5]at h,fun _=>⟨[(101,.rc [.str O,.int .i64 Q,.int .i64 m2,.int .i64 m3,.int .i64 m4,.lst 4 (di C) .no,.lst 4 (dS rs) .no]),(104,.rc [.int .i64 r,.str n,.int .i64 v,.byt d .no])], ?_⟩⟩;rw[ai];simp only[go_sem,Qg,Qj,Qk,Ql,Qm,reduceIte,hi,L,I,E,F,a3,a4,a5,W,gH]
  |true=>
   rw[a6]at W
   by_cases a7:i=0
   ·subst a7
    have hp:(0:Int)<C.length:=by omega
    have kw:af.wrap 1=1:=rfl;refine⟨fun _=> ?_,fun h=>by simp[E,F,a3,a4,a5]at h⟩;rw[ai];simp only[go_sem,Q4,Q5,Q6,Qa,Qd,Qe,Qf,Qg,Qj,Qk,Ql,Qm,reduceIte,hp,kw,L,I,E,F,a3,a4,a5,W,gH]
   ·have hp:(0:Int)<(i:Nat):=by omega
    have b1:0<i:=by omega
    have b0:=es b1;cases a8:jd ⟨r2,n2,v2,d2⟩ ⟨r,n,v,d⟩with
    |true=>rw[a8]at g2;refine⟨fun _=> ?_,fun h=>by simp[E,F,a3,a4,a5,a7]at h⟩;rw[ai];simp only[go_sem,Qd,Qe,Qf,Qg,Qj,Qk,Ql,Qm,reduceIte,hi,hp,J,b0,Z,e1,L,I,E,F,a3,a4,a5,W,gH,g2,xW]
    |false=>rw[a8]at g2;refine⟨fun h=>by simp[E,F,a3,a4,a5,a7]at h,fun _=>⟨[(101,.rc [.str O,.int .i64 Q,.int .i64 m2,.int .i64 m3,.int .i64 m4,.lst 4 (di C) .no,.lst 4 (dS rs) .no]),(104,.rc [.int .i64 r,.str n,.int .i64 v,.byt d .no])], ?_⟩⟩;rw[ai];simp only[go_sem,Qd,Qe,Qf,Qg,Qj,Qk,Ql,Qm,reduceIte,hi,hp,J,b0,Z,L,I,E,F,a3,a4,a5,W,gH,g2,xW,a7]
 ·refine⟨fun h=>by simp[E,F,a3,a4,a5]at h,fun _=>⟨[(101,.rc [.str O,.int .i64 Q,.int .i64 m2,.int .i64 m3,.int .i64 m4,.lst 4 (di C) .no,.lst 4 (dS rs) .no]),(104,.rc [.int .i64 r,.str n,.int .i64 v,.byt d .no])], ?_⟩⟩
  rw[ai];simp only[go_sem,Qg,Qj,Qk,Ql,Qm,reduceIte,hi,L,I,E,F,a3,a4,a5]
theorem l62(m:Man)(E:dC m):∀(n i:Nat),m.ents.length-i=n->i<=m.ents.length->
 (iN m.ents n i=0->run T (.loop np) (D8 m i)=some (.x 0,⟨[(1,.ptr 101 0)],[(101,.rc m.sv)],[]⟩))/\
 (iN m.ents n i≠0->∃ob,run T (.loop np) (D8 m i)=some (.r,⟨[(2,.int .i64 (iN m.ents n i))],ob,[]⟩)):=by
 intro n;induction n with
 |zero=>
  intro i y W;have:i=m.ents.length:=by omega
  subst this;refine⟨fun _=> ?_,fun h=>absurd rfl h⟩;rw[ai];have Q:=dn m.ents;obtain⟨mv,m1,m2,m3,m4,Z,rs⟩:=m;simp only[D8,Man.sv]at*;simp only[go_sem,Qg,Qj,Qk,Ql,Qm,reduceIte,Q]
 |succ n I=>
  intro i y W;obtain⟨F,L⟩:=s54 m E i (by omega);obtain⟨C,O⟩:=I (i+1) (by omega) (by omega);unfold iN
  by_cases h:nb m.ents i=0
  ·rw[if_pos h,F h];exact⟨C,O⟩
  ·rw[if_neg h];exact⟨fun J=>absurd J h,L⟩
theorem xwz(m:Man)(Q:dC m)(ob:List (Nat×aH))(I:ob=[(101,.rc m.sv)]):∀(n i:Nat),m.ruls.length-i=n->i<=m.ruls.length->
 (iW (m.ruls.drop i)=0->run T (.loop xl) ⟨[(1,.ptr 101 0),(5,.int .i64 i)],ob,[]⟩=some (.x 2,⟨[],ob,[]⟩))/\
 (iW (m.ruls.drop i)≠0->∃ob',run T (.loop xl) ⟨[(1,.ptr 101 0),(5,.int .i64 i)],ob,[]⟩=some (.r,⟨[(2,.int .i64 (iW (m.ruls.drop i)))],ob',[]⟩)):=by
 intro n;induction n with
 |zero=>
  intro i h0 h1;have:i=m.ruls.length:=by omega
  subst this;rw[bK];refine⟨fun _=> ?_,fun h=>absurd rfl h⟩;have E:=dM m.ruls;obtain⟨Z,m1,m2,m3,m4,F,rs⟩:=m;subst I;simp only[Man.sv]at*;rw[ai];simp only[go_sem,Qg,Qj,Ql,Qm,reduceIte,E]
 |succ n ih=>
  intro i h0 h1;have hi:i<m.ruls.length:=by omega
  obtain⟨i1,i2⟩:=ih (i+1) (by omega) (by omega);have W:=cr i (by have:=Q.rn;omega);have E:=dM m.ruls;have J:=jY m.ruls i hi;have hd:m.ruls.drop i=m.ruls.getD i rl0::m.ruls.drop (i+1):=by rw[bz hi,aa,ac hi];rfl
  have hb:=Q.r _ (bP m.ruls rl0 i hi);rw[hd];unfold iW;generalize m.ruls.drop (i+1)=R at*;generalize m.ruls.getD i rl0=x at*;obtain⟨Z,m1,m2,m3,m4,F,rs⟩:=m;obtain⟨k,t,lo,C⟩:=x;simp only[Man.sv,Rul.sv]at*;subst I;have g:=xxY k t lo C (by omega)
  by_cases h:p6 ⟨k,t,lo,C⟩=0
  ·rw[if_pos h]
   unfold p6 at h;simp only at h;rw[h]at g;refine⟨fun y=> ?_,fun y=> ?_⟩
   ·have L:=i1 y
    rw[ai];simp only[go_sem,Qg,Qj,Ql,Qm,reduceIte,hi,W,E,J,g,Yf,L]
   ·obtain⟨ob',O⟩:=i2 y
    refine⟨ob', ?_⟩;rw[ai];simp only[go_sem,Qg,Qj,Ql,Qm,reduceIte,hi,W,E,J,g,Yf,O]
  ·rw[if_neg h]
   unfold p6 at h ⊢;simp only at h ⊢;refine⟨fun y=>absurd y h,fun y=>⟨[(101,.rc [.str Z,.int .i64 m1,.int .i64 m2,.int .i64 m3,.int .i64 m4,.lst 4 (di F) .no,.lst 4 (dS rs) .no])], ?_⟩⟩;rw[ai];simp only[go_sem,Qg,Qj,Ql,Qm,reduceIte,hi,E,J,g,Yf,h]
theorem f62(m:Man)(Z:dC m):call T 62 [.agg m.sv] [] 0=some ⟨.int .i64 (fj m),[],[]⟩:=by
 have y:=xop m.vendor (by have:=Z.v;omega);obtain⟨l1,l2⟩:=l62 m Z _ 0 rfl (by omega);obtain⟨r1,r2⟩:=xwz m Z _ rfl _ 0 rfl (by omega);have O:=dn m.ents;have W:=dM m.ruls;obtain⟨mv,m1,m2,m3,m4,F,rs⟩:=m;simp only[D8,Man.sv,az,bj,Nat.sub_zero]at*;rw[aj xyI];unfold fj;simp only;cases a0:Pr.nameB mv with
 |false=>rw[a0]at y;simp only[go_sem,Qg,Qj,Qk,Ql,Qm,reduceCtorEq,reduceIte,y,gH]
 |true=>
  rw[a0]at y
  by_cases C:m2<0
  ·simp only[go_sem,Qg,Qj,Qk,Ql,Qm,reduceCtorEq,reduceIte,y,gH,C]
  by_cases E:m1<m2
  ·simp only[go_sem,Qg,Qj,Qk,Ql,Qm,reduceCtorEq,reduceIte,y,gH,C,E]
  by_cases a3:1000000<m1
  ·simp only[go_sem,Qg,Qj,Qk,Ql,Qm,reduceCtorEq,reduceIte,y,gH,C,E,a3]
  by_cases a4:m3<0
  ·simp only[go_sem,Qg,Qj,Qk,Ql,Qm,reduceCtorEq,reduceIte,y,gH,C,E,a3,a4]
  by_cases a5:m4<=m3
  ·simp only[go_sem,Qg,Qj,Qk,Ql,Qm,reduceCtorEq,reduceIte,y,gH,C,E,a3,a4,a5]
  by_cases I:1099511627776<m4
  ·simp only[go_sem,Qg,Qj,Qk,Ql,Qm,reduceCtorEq,reduceIte,y,gH,C,E,a3,a4,a5,I]
  by_cases L:(16:Int)<F.length
  ·simp only[go_sem,Qg,Qj,Qk,Ql,Qm,reduceCtorEq,reduceIte,y,gH,C,E,a3,a4,a5,I,L,O]
  by_cases Q:(8:Int)<rs.length
  ·simp only[go_sem,Qg,Qj,Qk,Ql,Qm,reduceCtorEq,reduceIte,y,gH,C,E,a3,a4,a5,I,L,Q,O,W]
  by_cases a9:iN F F.length 0=0
  ·have J:=l1 a9
   by_cases b0:iW rs=0
   ·have b3:=r1 b0
    simp only[go_sem,Qg,Qj,Qk,Ql,Qm,reduceCtorEq,reduceIte,y,gH,C,E,a3,a4,a5,I,L,Q,O,W,J,a9,b3,b0]
   ·obtain⟨ob,b4⟩:=r2 b0
    simp only[go_sem,Qg,Qj,Qk,Ql,Qm,reduceCtorEq,reduceIte,y,gH,C,E,a3,a4,a5,I,L,Q,O,W,J,a9,b4]
  ·obtain⟨ob,b1⟩:=l2 a9
   simp only[go_sem,Qg,Qj,Qk,Ql,Qm,reduceCtorEq,reduceIte,y,gH,C,E,a3,a4,a5,I,L,Q,O,W,b1,a9]
end Go.Proofs.YtbfnljmmepcbfaaGreatDoor
namespace SortT
variable {α : Type}
structure SO(lt:α->α->Bool):Prop where
 irr:∀x,lt x x=false
 tr:∀x y z,lt x y=true->lt y z=true->lt x z=true
 tri:∀x y,lt x y=false->lt y x=false->x=y
def Str(lt:α->α->Bool)(l:List α):Prop:=l.Pairwise fun x y=>lt x y=true
theorem od{lt:α->α->Bool}(h:SO lt):∀{a b:List α},Str lt a->Str lt b->(∀x,x∈a↔x∈b)->a=b
 |[],[],_,_,_=>rfl
 |[],y::b,_,_,he=>absurd ((he y).2 aA) cG
 |x::a,[],_,_,he=>absurd ((he x).1 aA) cG
 |x::a,y::b,ha,hb,he=>by
  obtain⟨E,I⟩:=bJ.1 ha;obtain⟨F,J⟩:=bJ.1 hb
  have C:x=y:=by
   rcases av.1 ((he x).1 aA)with e|hx
   ·exact e
   ·rcases av.1 ((he y).2 aA)with e|hy
    ·exact e.symm
    ·have:=h.tr x y x (E y hy) (F x hx)
     rw[h.irr]at this;cases this
  subst C
  have key:∀z,z∈a↔z∈b:=by
   intro z;constructor
   ·intro hz
    rcases av.1 ((he z).1 (aw _ hz))with e|hz'
    ·subst e
     have:=E z hz;rw[h.irr]at this;cases this
    ·exact hz'
   ·intro hz
    rcases av.1 ((he z).2 (aw _ hz))with e|hz'
    ·subst e
     have:=F z hz;rw[h.irr]at this;cases this
    ·exact hz'
  rw[od h I J key]
def inn(y:α->α->Bool)(d:α):Nat->List α->Nat->Nat->List α×Nat
 |0,B,k,_=>(B,k)
 |m+1,B,k,p=>if y (B.getD p d) (B.getD (p-1) d)=true then inn y d m B k (p+1)else inn y d m (B.set k (B.getD p d)) (k+1) (p+1)
def Bf(lt:α->α->Bool)(x:α):List α->List α
 |[]=> [x]
 |y::r=>if lt y x=true then y::Bf lt x r else if lt x y=true then x::y::r else y::r
theorem rY{lt:α->α->Bool}(h:SO lt)(x:α):∀(l:List α),∀z,z∈Bf lt x l↔z=x\/z∈l
 |[],z=>by simp[Bf]
 |y::r,z=>by
  have E:=rY h x r z;unfold Bf;split
  ·rw[av,E,av]
   constructor
   ·rintro(h|h|h)<;>simp[h]
   ·rintro(h|h|h)<;>simp[h]
  ·rename_i F
   split
   ·rw[av]
   ·rename_i C
    have:x=y:=h.tri _ _ (by simpa using C) (by simpa using F);subst this;rw[av];constructor
    ·exact .inr
    ·rintro(h|h)
     ·exact .inl h
     ·exact h
theorem zl{lt:α->α->Bool}(h:SO lt)(x:α):∀(l:List α),Str lt l->Str lt (Bf lt x l)
 |[],_=>List.pairwise_singleton _ _
 |y::r,hs=>by
  obtain⟨E,F⟩:=bJ.1 hs;unfold Bf;split
  ·rename_i C
   refine bJ.2 ⟨fun z hz=> ?_,zl h x r F⟩;rcases (rY h x r z).1 hz with rfl|hz
   ·exact C
   ·exact E z hz
  ·split
   ·rename_i C
    refine bJ.2 ⟨fun z hz=> ?_,hs⟩;rcases av.1 hz with rfl|hz
    ·exact C
    ·exact h.tr _ _ _ C (E z hz)
   ·exact hs
end SortT
namespace Go.Proofs.YtbfnljmmepcbfaaGreatDoor
open Go.Sy
open UInt8 renaming reduceLT -> Q0, reduceLE -> Q3
open Int renaming reduceToNat -> Q4, reduceLE -> Q5, reduceLT -> Q6, reduceEq -> Q7, reduceNe -> Q8, reduceNeg -> Q9, reduceAdd -> Qa, reduceSub -> Qb, reduceMul -> Qc
open Nat renaming reducePow -> Qd, reduceDiv -> Qe, reduceMod -> Qf, reduceAdd -> Qg, reduceSub -> Qh, reduceMul -> Qi, reduceLT -> Qj, reduceLeDiff -> Qk, reduceEqDiff -> Ql, reduceBEq -> Qm
section
open SortT
theorem iD:∀a:d9,Lib.compareBytes a a=0
 |[]=>rfl
 |x::r=>by have h:=iD r;simp[Lib.compareBytes,h]
theorem nC:∀a b c:d9,Lib.compareBytes a b<0->Lib.compareBytes b c<0->Lib.compareBytes a c<0
 |[],[],_,h,_=>by simp[Lib.compareBytes]at h
 |[],_::_,[],_,k=>by simp[Lib.compareBytes]at k
 |[],_::_,_::_,_,_=>by simp[Lib.compareBytes]
 |_::_,[],_,h,_=>by simp[Lib.compareBytes]at h
 |_::_,_::_,[],_,k=>by simp[Lib.compareBytes]at k
 |x::r,y::s,z::t,h,k=>by
  have J:=nC r s t;unfold Lib.compareBytes at h k ⊢;have I:(x<y)=(x.toNat<y.toNat):=rfl;have T:(y<z)=(y.toNat<z.toNat):=rfl;have Q:(x<z)=(x.toNat<z.toNat):=rfl;have F:(y<x)=(y.toNat<x.toNat):=rfl;have L:(z<y)=(z.toNat<y.toNat):=rfl;have E:(z<x)=(z.toNat<x.toNat):=rfl;simp only[I,T,Q,F,L,E]at h k ⊢
  by_cases O:x.toNat<y.toNat
  ·by_cases C:y.toNat<z.toNat
   ·rw[if_pos (by omega)];decide
   ·rw[if_neg C]at k
    by_cases a3:z.toNat<y.toNat
    ·rw[if_pos a3]at k;exact absurd k (by decide)
    ·rw[if_pos (by omega)];decide
  ·rw[if_neg O]at h
   by_cases a4:y.toNat<x.toNat
   ·rw[if_pos a4]at h;exact absurd h (by decide)
   ·rw[if_neg a4]at h
    by_cases C:y.toNat<z.toNat
    ·rw[if_pos (by omega)];decide
    ·rw[if_neg C]at k
     by_cases a3:z.toNat<y.toNat
     ·rw[if_pos a3]at k;exact absurd k (by decide)
     ·rw[if_neg a3]at k
      rw[if_neg (by omega),if_neg (by omega)];exact J h k
theorem jh:∀{a b:d9},¬Lib.compareBytes a b<0->¬Lib.compareBytes a b=0->Lib.compareBytes b a<0
 |[],[],_,k=>absurd rfl k
 |[],_::_,h,_=>absurd (by simp[Lib.compareBytes]) h
 |_::_,[],_,_=>by simp[Lib.compareBytes]
 |x::r,y::s,h,k=>by
  unfold Lib.compareBytes at h k ⊢
  by_cases E:x<y
  ·rw[if_pos E]at h;exact absurd (by decide) h
  ·rw[if_neg E]at h k
   by_cases C:y<x
   ·rw[if_pos C];decide
   ·rw[if_neg C]at h k
    rw[if_neg C,if_neg E];exact jh h k
theorem C1(a:d9):¬bN a a=true:=fun h=>by have:=(ec a a).2 h;rw[iD]at this;omega
theorem xig{a b c:d9}(h:bN a b=true)(k:bN b c=true):bN a c=true:=(ec _ _).1 (nC _ _ _ ((ec _ _).2 h) ((ec _ _).2 k))
theorem UK{a b:d9}(h:¬bN a b=true)(k:¬bN b a=true):a=b:=by refine(gM a b).1 (Classical.byContradiction fun e=> ?_);exact k ((ec _ _).1 (jh (fun y=>h ((ec _ _).1 y)) e))
theorem wv(x y:Ent):jd x y=true↔x.role<y.role\/(x.role=y.role/\(bN x.name y.name=true\/(x.name=y.name/\(x.ver<y.ver\/(x.ver=y.ver/\bN x.dig y.dig=true))))):=by
 unfold jd
 by_cases C:x.role=y.role
 ·rw[if_pos C]
  by_cases E:x.name=y.name
  ·rw[if_pos E]
   have n2:¬bN x.name y.name=true:=by rw[E];exact C1 _
   by_cases F:x.ver=y.ver
   ·rw[if_pos F]
    constructor
    ·intro h;exact .inr ⟨C,.inr ⟨E,.inr ⟨F,h⟩⟩⟩
    ·rintro(h|⟨-,h|⟨-,h|⟨-,h⟩⟩⟩)
     ·omega
     ·exact absurd h n2
     ·omega
     ·exact h
   ·rw[if_neg F,decide_eq_true_eq]
    constructor
    ·intro h;exact .inr ⟨C,.inr ⟨E,.inl h⟩⟩
    ·rintro(h|⟨-,h|⟨-,h|⟨h, -⟩⟩⟩)
     ·omega
     ·exact absurd h n2
     ·exact h
     ·exact absurd h F
  ·rw[if_neg E]
   constructor
   ·intro h;exact .inr ⟨C,.inl h⟩
   ·rintro(h|⟨-,h|⟨h, -⟩⟩)
    ·omega
    ·exact h
    ·exact absurd h E
 ·rw[if_neg C,decide_eq_true_eq]
  constructor
  ·intro h;exact .inl h
  ·rintro(h|⟨h, -⟩)
   ·exact h
   ·exact absurd h C
theorem UM:SO jd where
 irr:=fun x=>by
  cases h:jd x x with
  |false=>rfl
  |true=>
   rcases (wv x x).1 h with h|⟨-,h|⟨-,h|⟨-,h⟩⟩⟩
   ·omega
   ·exact absurd h (C1 _)
   ·omega
   ·exact absurd h (C1 _)
 tr:=fun x y z E C=>by
  rw[wv]at E C ⊢;rcases E with E|⟨F,E⟩
  ·rcases C with C|⟨I,C⟩
   ·left;omega
   ·left;omega
  ·rcases C with C|⟨I,C⟩
   ·left;omega
   ·refine .inr ⟨F.trans I, ?_⟩
    rcases E with E|⟨n1,E⟩
    ·rcases C with C|⟨n2,C⟩
     ·exact .inl (xig E C)
     ·rw[n2]at E;exact .inl E
    ·rcases C with C|⟨n2,C⟩
     ·rw[<-n1]at C;exact .inl C
     ·refine .inr ⟨n1.trans n2, ?_⟩
      rcases E with E|⟨v1,E⟩
      ·rcases C with C|⟨L,C⟩
       ·left;omega
       ·left;omega
      ·rcases C with C|⟨L,C⟩
       ·left;omega
       ·exact .inr ⟨v1.trans L,xig E C⟩
 tri:=fun x y E C=>by
  have n1:¬jd x y=true:=by rw[E];simp
  have n2:¬jd y x=true:=by rw[C];simp
  rw[wv]at n1 n2
  have F:x.role=y.role:=by
   have a:¬x.role<y.role:=fun h=>n1 (.inl h)
   have b:¬y.role<x.role:=fun h=>n2 (.inl h)
   omega
  have I:x.name=y.name:=UK (fun h=>n1 (.inr ⟨F,.inl h⟩)) (fun h=>n2 (.inr ⟨F.symm,.inl h⟩))
  have J:x.ver=y.ver:=by
   have a:¬x.ver<y.ver:=fun h=>n1 (.inr ⟨F,.inr ⟨I,.inl h⟩⟩)
   have b:¬y.ver<x.ver:=fun h=>n2 (.inr ⟨F.symm,.inr ⟨I.symm,.inl h⟩⟩)
   omega
  have O:x.dig=y.dig:=UK (fun h=>n1 (.inr ⟨F,.inr ⟨I,.inr ⟨J,h⟩⟩⟩)) (fun h=>n2 (.inr ⟨F.symm,.inr ⟨I.symm,.inr ⟨J.symm,h⟩⟩⟩));obtain⟨r,n,v,d⟩:=x;obtain⟨Q,n2,L,T⟩:=y;simp only at F I J O;subst F;subst I;subst J;subst O;rfl
structure rE(x:Ent):Prop where
 r1:1<=x.role
 r3:x.role<=3
 v0:0<=x.ver
 v1:x.ver<=1000000
 d:x.dig.length=32
 n:Pr.nameB x.name=true
theorem K4{l:List Ent}(h:∀x∈l,rE x)(F:Str jd l)(i:Nat)(hi:i<l.length):nb l i=0:=by
 obtain⟨O,I,Q,L,J,C⟩:=h _ (bP l en0 i hi);unfold nb;rw[if_neg (by omega),if_neg (by omega),if_neg (by omega),if_neg (by omega),if_pos (by omega),if_pos C]
 by_cases y:i=0
 ·rw[if_pos y]
 ·have E:jd (l.getD (i-1) en0) (l.getD i en0)=true:=by
   have:=cD.1 F (i-1) i (by omega) hi (by omega);rw[aa,aa,ac (by omega),ac hi];exact this
  rw[if_neg y,if_pos E]
theorem uI{l:List Ent}(h:∀x∈l,rE x)(y:Str jd l):∀(n i:Nat),i+n<=l.length->iN l n i=0
 |0,_,_=>rfl
 |n+1,i,hi=>by unfold iN;rw[if_pos (K4 h y i (by omega))];exact uI h y n (i+1) (by omega)
theorem ug:∀{l:List Rul},(∀r∈l,p6 r=0)->iW l=0
 |[],_=>rfl
 |r::t,h=>by unfold iW;rw[if_pos (h r aA)];exact ug fun x y=>h x (aw _ y)
theorem nO{m:Man}(C:Pr.nameB m.vendor=true)(J:0<=m.flr)(W:m.flr<=m.ver)(T:m.ver<=1000000)(Q:0<=m.frm)(I:m.frm<m.til)(O:m.til<=1099511627776)(L:m.ents.length<=16)(Z:m.ruls.length<=8)
 (F:∀x∈m.ents,rE x) (E:Str jd m.ents) (y:∀r∈m.ruls,p6 r=0):fj m=0:=by
 unfold fj;rw[if_pos C,if_neg (by omega),if_neg (by omega),if_neg (by omega),if_neg (by omega),if_neg (by omega),if_neg (by omega),if_neg (by omega),if_neg (by omega),if_pos (uI F E _ 0 (by omega))];exact ug y
end
def hdM(m:Man):d9:=jM ([]++bu 1 21) m.vendor++bu 4 m.ver++bu 4 m.flr++bu 6 m.frm++bu 6 m.til++bu 1 (m.ents.length:Int)
theorem cQ(k:Nat)(v:Int):(bu k v).length=k:=gr ..
theorem l6(B:d9)(k:Nat)(v:Int)(y:1<=k)(C:k<=8)(E:B.length<=10000000000000):
 call T 101 [.byt B .no,.int .i64 k,.int .i64 v] [] 0=some ⟨.byt (B++bu k v) (.id 60),[],[60]⟩:=xvf B k v y C E
def oz(B:d9)(x:Ent):d9:=jM (B++bu 1 x.role) x.name++bu 4 x.ver++x.dig
def mK(B:d9)(r:Rul):d9:=jM (B++bu 1 r.kind) r.text++bu 4 r.lo++bu 4 r.hi
theorem sA(B:d9)(x:Ent)(hn:x.name.length<=1000000)(hd:x.dig.length<=1000000):(oz B x).length<=B.length+2000007:=by unfold oz;rw[ae,ae,eP,ae,cQ,cQ];omega
theorem rK(B:d9)(x:Rul)(hn:x.text.length<=1000000):(mK B x).length<=B.length+2000007:=by unfold mK;rw[ae,ae,eP,ae,cQ,cQ,cQ];omega
def tkA:Bool->t8
 |false=> [103,12060,17060,21060,24060,28060,31060]
 |true=> [103,12060,17060,21060,24060,28060,31060,51060]
theorem xpc(m:Man)(E:dC m)(b:Bool)(i:Nat)(hi:i<m.ents.length)(B:d9)(hB:B.length<=1000000000):
 run T (.loop sQ) ⟨[(1,.ptr 101 0),(3,.byt B (.id 103)),(37,.lst 4 (di m.ents) .no),(38,.int .i64 m.ents.length),(39,.int .i64 i)],[(101,.rc m.sv)],tkA b⟩=
 run T (.loop sQ) ⟨[(1,.ptr 101 0),(3,.byt (oz B (m.ents.getD i en0)) (.id 103)),(37,.lst 4 (di m.ents) .no),(38,.int .i64 m.ents.length),(39,.int .i64 ((i+1:Nat):Int))],[(101,.rc m.sv)],tkA true⟩:=by
 have k1:((1:Nat):Int)=1:=rfl;have k4:((4:Nat):Int)=4:=rfl;have a2:=E.en;have O:=cr i (by omega);have L:=fR m.ents i hi;have y:=dn m.ents;obtain⟨a6,a1⟩:=E.e _ (bP m.ents en0 i hi);clear E;generalize m.ents.getD i en0=x at*;unfold oz;have C:=l6 B 1 x.role (by omega) (by omega) (by omega);rw[k1]at C;have n1:(B++bu 1 x.role).length<=1000000001:=by rw[ae,cQ];omega
 generalize B++bu 1 x.role=F at*;have W:=xoq F x.name (by omega) (by omega);have n2:(jM F x.name).length<=1010000000:=by rw[eP];omega
 generalize jM F x.name=J at*;have I:=l6 J 4 x.ver (by omega) (by omega) (by omega);rw[k4]at I;have n3:(J++bu 4 x.ver).length<=1010000004:=by rw[ae,cQ];omega
 generalize J++bu 4 x.ver=Z at*;have Q:Z.length+x.dig.length<=140737488355328:=by omega
 obtain⟨mv,m1,m2,m3,m4,es,rs⟩:=m;obtain⟨x1,x2,x3,x4⟩:=x;simp only[Man.sv,Ent.sv]at*;cases b with
 |false=>rw[ai];simp only[tkA];simp only[go_sem,Qd,Qe,Qf,Qg,Qi,Qj,Qk,Ql,Qm,reduceCtorEq,reduceIte,hi,O,L,y,C,W,I,Q,mb,nZ]
 |true=>rw[ai];simp only[tkA];simp only[go_sem,Qd,Qe,Qf,Qg,Qi,Qj,Qk,Ql,Qm,reduceCtorEq,reduceIte,hi,O,L,y,C,W,I,Q,mb,nZ]
theorem xwB(m:Man)(F:dC m)(h16:m.ents.length<=16):∀(n i:Nat)(b:Bool)(B:d9),m.ents.length-i=n->i<=m.ents.length->B.length<=20000000+i*2000007->
 ∃Q,run T (.loop sQ) ⟨[(1,.ptr 101 0),(3,.byt B (.id 103)),(37,.lst 4 (di m.ents) .no),(38,.int .i64 m.ents.length),(39,.int .i64 i)],[(101,.rc m.sv)],tkA b⟩=
 some (.x 0,⟨[(1,.ptr 101 0),(3,.byt ((m.ents.drop i).foldl oz B) (.id 103))],[(101,.rc m.sv)],tkA Q⟩):=by
 intro n;induction n with
 |zero=>
  intro i b B I O J;have:i=m.ents.length:=by omega
  subst this;refine⟨b, ?_⟩;rw[bK,iP,ai];cases b with
  |false=>simp only[tkA];simp only[go_sem,Qj,Ql,Qm,reduceIte]
  |true=>simp only[tkA];simp only[go_sem,Qj,Ql,Qm,reduceIte]
 |succ n L=>
  intro i b B I O J;have hi:i<m.ents.length:=by omega
  have y:m.ents.drop i=m.ents.getD i en0::m.ents.drop (i+1):=by rw[bz hi,aa,ac hi];rfl
  obtain⟨E,C⟩:=F.e _ (bP m.ents en0 i hi);have W:=sA B (m.ents.getD i en0) E C;rw[xpc m F b i hi B (by omega),y,ez];exact L (i+1) true _ (by omega) (by omega) (by omega)
def tkB:Bool->t8
 |false=> [103,12060,17060,21060,24060,28060,31060,64060]
 |true=> [103,12060,17060,21060,24060,28060,31060,51060,64060]
def tkC:Bool->t8
 |false=> [103,12060,17060,21060,24060,28060,31060,64060,79060,86060]
 |true=> [103,12060,17060,21060,24060,28060,31060,51060,64060,79060,86060]
theorem xpb(m:Man)(b:Bool)(t:Nat)(tk:t8)(ht:(t=64060/\tk=tkB b)\/(t=86060/\tk=tkC b))(rs:List Rul)(hx:∀x∈rs,x.text.length<=1000000)(hn:rs.length<=1000000)(i:Nat)(hi:i<rs.length)(B:d9)(hB:B.length<=1000000000):
 run T (.loop sP) ⟨[(3,.byt B (.id t)),(65,.lst 4 (dS rs) .no),(66,.int .i64 rs.length),(67,.int .i64 i)],[(101,.rc m.sv)],tk⟩=
 run T (.loop sP) ⟨[(3,.byt (mK B (rs.getD i rl0)) (.id 86060)),(65,.lst 4 (dS rs) .no),(66,.int .i64 rs.length),(67,.int .i64 ((i+1:Nat):Int))],[(101,.rc m.sv)],tkC b⟩:=by
 have k1:((1:Nat):Int)=1:=rfl;have W:((4:Nat):Int)=4:=rfl;have I:=cr i (by omega);have J:=jY rs i hi;have y:=dM rs;have a2:=hx _ (bP rs rl0 i hi);generalize rs.getD i rl0=x at*;unfold mK;have C:=l6 B 1 x.kind (by omega) (by omega) (by omega);rw[k1]at C;have n1:(B++bu 1 x.kind).length<=1000000001:=by rw[ae,cQ];omega
 generalize B++bu 1 x.kind=O at*;have L:=xoq O x.text (by omega) (by omega);have n2:(jM O x.text).length<=1010000000:=by rw[eP];omega
 generalize jM O x.text=Q at*;have F:=l6 Q 4 x.lo (by omega) (by omega) (by omega);rw[W]at F;have n3:(Q++bu 4 x.lo).length<=1010000004:=by rw[ae,cQ];omega
 generalize Q++bu 4 x.lo=Z at*;have E:=l6 Z 4 x.hi (by omega) (by omega) (by omega);rw[W]at E;obtain⟨mv,m1,m2,m3,m4,es,a1⟩:=m;obtain⟨x1,x2,x3,x4⟩:=x;simp only[Rul.sv,Man.sv]at*;rcases ht with⟨rfl,rfl⟩|⟨rfl,rfl⟩
 ·cases b with
  |false=>rw[ai];simp only[tkB,tkC];simp only[go_sem,Qd,Qe,Qf,Qg,Qi,Qj,Qk,Ql,Qm,reduceCtorEq,reduceIte,hi,I,J,y,C,L,F,E,mb,nZ]
  |true=>rw[ai];simp only[tkB,tkC];simp only[go_sem,Qd,Qe,Qf,Qg,Qi,Qj,Qk,Ql,Qm,reduceCtorEq,reduceIte,hi,I,J,y,C,L,F,E,mb,nZ]
 ·cases b with
  |false=>rw[ai];simp only[tkC];simp only[go_sem,Qd,Qe,Qf,Qg,Qi,Qj,Qk,Ql,Qm,reduceCtorEq,reduceIte,hi,I,J,y,C,L,F,E,mb,nZ]
  |true=>rw[ai];simp only[tkC];simp only[go_sem,Qd,Qe,Qf,Qg,Qi,Qj,Qk,Ql,Qm,reduceCtorEq,reduceIte,hi,I,J,y,C,L,F,E,mb,nZ]
theorem xwA(m:Man)(b:Bool)(rs:List Rul)(F:∀x∈rs,x.text.length<=1000000)(hn:rs.length<=8):∀(n i t:Nat)(tk:t8)(B:d9),(t=64060/\tk=tkB b)\/(t=86060/\tk=tkC b)->rs.length-i=n->i<=rs.length->B.length<=100000000+i*2000007->
 ∃E tk',((E=64060/\tk'=tkB b)\/(E=86060/\tk'=tkC b))/\run T (.loop sP) ⟨[(3,.byt B (.id t)),(65,.lst 4 (dS rs) .no),(66,.int .i64 rs.length),(67,.int .i64 i)],[(101,.rc m.sv)],tk⟩=
 some (.x 2,⟨[(3,.byt ((rs.drop i).foldl mK B) (.id E))],[(101,.rc m.sv)],tk'⟩):=by
 intro n;induction n with
 |zero=>
  intro i t tk B y I O L;have:i=rs.length:=by omega
  subst this;refine⟨t,tk,y, ?_⟩;rw[bK,iP,ai];rcases y with⟨rfl,rfl⟩|⟨rfl,rfl⟩
  ·cases b with
   |false=>simp only[tkB];simp only[go_sem,Qj,Ql,Qm,reduceIte]
   |true=>simp only[tkB];simp only[go_sem,Qj,Ql,Qm,reduceIte]
  ·cases b with
   |false=>simp only[tkC];simp only[go_sem,Qj,Ql,Qm,reduceIte]
   |true=>simp only[tkC];simp only[go_sem,Qj,Ql,Qm,reduceIte]
 |succ n J=>
  intro i t tk B y I O L;have hi:i<rs.length:=by omega
  have C:rs.drop i=rs.getD i rl0::rs.drop (i+1):=by rw[bz hi,aa,ac hi];rfl
  have Q:=rK B (rs.getD i rl0) (F _ (bP rs rl0 i hi));rw[xpb m b t tk y rs F (by omega) i hi B (by omega),C,ez];exact J (i+1) 86060 _ _ (.inr ⟨rfl,rfl⟩) (by omega) (by omega) (by omega)
def eO(m:Man):d9:=if fj m=0 then m.ruls.foldl mK (m.ents.foldl oz (hdM m)++bu 1 (m.ruls.length:Int))else []
theorem lZ:∀(l:List Ent)(B:d9),(∀x∈l,x.name.length<=1000000/\x.dig.length<=1000000)->(l.foldl oz B).length<=B.length+l.length*2000007
 |[],B,_=>by simp
 |x::r,B,h=>by rw[ez,al];have F:=lZ r (oz B x) (fun y C=>h y (aw _ C));obtain⟨a,c⟩:=h x aA;have E:=sA B x a c;rw[bH];omega
theorem uG:∀(l:List Rul)(B:d9),(∀x∈l,x.text.length<=1000000)->B.length<=(l.foldl mK B).length/\(l.foldl mK B).length<=B.length+l.length*2000007
 |[],B,_=>by simp
 |x::r,B,h=>by
  rw[ez,al];have F:=uG r (mK B x) (fun y C=>h y (aw _ C));have I:=rK B x (h x aA)
  have E:B.length<=(mK B x).length:=by unfold mK;rw[ae,ae,eP,ae];omega
  rw[bH];omega
theorem jR{m:Man}(h:fj m=0):m.ents.length<=16/\m.ruls.length<=8:=by
 unfold fj at h
 repeat' split at h
 all_goals first|(exfalso;omega)|skip
 exact⟨by omega,by omega⟩
theorem f59(m:Man)(J:dC m):call T 59 [.agg m.sv] [] 0=some ⟨.byt (eO m) .no,[],[]⟩:=by
 have I:=f80 m J;have k1:((1:Nat):Int)=1:=rfl;have k4:((4:Nat):Int)=4:=rfl;have k6:((6:Nat):Int)=6:=rfl;have b6:=J.v;have b4:=J.rn;have C:=dn m.ents;have F:=dM m.ruls;unfold eO
 by_cases hv:fj m=0
 ·obtain⟨h16,h8⟩:=jR hv
  rw[hv]at I;rw[if_pos hv];unfold hdM;have L:=l6 [] 1 21 (by omega) (by omega) (by decide);rw[k1]at L;generalize b0:([]++bu 1 21:d9)=B1 at*;have n1:B1.length<=1000:=by rw[<-b0];simp[cQ]
  have u2:=xoq B1 m.vendor (by omega) (by omega);generalize a6:jM B1 m.vendor=B2 at*;have n2:B2.length<=10000000:=by rw[<-a6,eP];omega
  have Z:=l6 B2 4 m.ver (by omega) (by omega) (by omega);rw[k4]at Z;generalize a8:B2++bu 4 m.ver=B3 at*;have n3:B3.length<=10000004:=by rw[<-a8,ae,cQ];omega
  have O:=l6 B3 4 m.flr (by omega) (by omega) (by omega);rw[k4]at O;generalize a7:B3++bu 4 m.flr=B4 at*;have n4:B4.length<=10000008:=by rw[<-a7,ae,cQ];omega
  have Q:=l6 B4 6 m.frm (by omega) (by omega) (by omega);rw[k6]at Q;generalize a2:B4++bu 6 m.frm=B5 at*;have n5:B5.length<=10000014:=by rw[<-a2,ae,cQ];omega
  have u6:=l6 B5 6 m.til (by omega) (by omega) (by omega);rw[k6]at u6;generalize a1:B5++bu 6 m.til=B6 at*;have n6:B6.length<=10000020:=by rw[<-a1,ae,cQ];omega
  have W:=l6 B6 1 (m.ents.length:Int) (by omega) (by omega) (by omega);rw[k1]at W;generalize b1:B6++bu 1 (m.ents.length:Int)=B7 at*;have n7:B7.length<=10000021:=by rw[<-b1,ae,cQ];omega
  obtain⟨b,y⟩:=xwB m J h16 _ 0 false B7 rfl (by omega) (by omega);have n8:=lZ m.ents B7 J.e;rw[bj,az]at y;generalize m.ents.foldl oz B7=B8 at*;have u8:=l6 B8 1 (m.ruls.length:Int) (by omega) (by omega) (by omega);rw[k1]at u8;generalize b3:B8++bu 1 (m.ruls.length:Int)=B9 at*;have n9:B9.length<=10000022+16*2000007:=by rw[<-b3,ae,cQ];omega
  obtain⟨t',tk',ht,E⟩:=xwA m b m.ruls J.r h8 _ 0 64060 (tkB b) B9 (.inl ⟨rfl,rfl⟩) rfl (by omega) (by omega);rw[bj,az]at E;generalize m.ruls.foldl mK B9=b5 at*;obtain⟨mv,m1,m2,m3,m4,es,rs⟩:=m;simp only[Man.sv]at*;rw[aj xvs];cases b with
  |false=>
   rcases ht with⟨rfl,rfl⟩|⟨rfl,rfl⟩
   ·simp only[tkA,tkB]at y E
    simp only[go_sem,Qd,Qe,Qf,Qg,Qi,Qj,Qk,Ql,Qm,reduceCtorEq,reduceIte,I,Jr,L,u2,Z,O,Q,u6,W,mb,nZ,C,y,u8,F,E]
   ·simp only[tkA,tkB,tkC]at y E
    simp only[go_sem,Qd,Qe,Qf,Qg,Qi,Qj,Qk,Ql,Qm,reduceCtorEq,reduceIte,I,Jr,L,u2,Z,O,Q,u6,W,mb,nZ,C,y,u8,F,E]
  |true=>
   rcases ht with⟨rfl,rfl⟩|⟨rfl,rfl⟩
   ·simp only[tkA,tkB]at y E
    simp only[go_sem,Qd,Qe,Qf,Qg,Qi,Qj,Qk,Ql,Qm,reduceCtorEq,reduceIte,I,Jr,L,u2,Z,O,Q,u6,W,mb,nZ,C,y,u8,F,E]
   ·simp only[tkA,tkB,tkC]at y E
    simp only[go_sem,Qd,Qe,Qf,Qg,Qi,Qj,Qk,Ql,Qm,reduceCtorEq,reduceIte,I,Jr,L,u2,Z,O,Q,u6,W,mb,nZ,C,y,u8,F,E]
 ·rw[if_neg hv]
  obtain⟨mv,m1,m2,m3,m4,es,rs⟩:=m;simp only[Man.sv]at*;rw[aj xvs];simp only[go_sem,Qg,Qj,Qk,Ql,Qm,reduceCtorEq,reduceIte,I,Jr,hv]
def bU(m:Man):d9:=if eO m=[]then []else xO 21 (eO m)
theorem kg(m:Man)(y:dC m):(eO m).length<=100000000:=by
 unfold eO
 by_cases C:fj m=0
 ·rw[if_pos C]
  obtain⟨h16,F⟩:=jR C;have I:=lZ m.ents (hdM m) y.e;have E:=uG m.ruls (m.ents.foldl oz (hdM m)++bu 1 (m.ruls.length:Int)) y.r
  have J:(hdM m).length<=10000000:=by have:=y.v;unfold hdM;simp only[ae,eP,cQ,aB];omega
  rw[ae,cQ]at E;omega
 ·rw[if_neg C];exact aY _
theorem xx8(v:Int):cf (Int.fdiv (aQ.wrap v) (2^0))=cf v:=by
 rw[show(2:Int)^0=1 from rfl,Int.fdiv_one,bV];unfold cf
 congr 2
 omega
theorem tx(v:Int):bu 1 v=[cf v]:=by rw[<-xx8 v];rfl
theorem Jg(B:d9)(k:Nat)(v:Int)(y:1<=k)(C:k<=8)(E:B.length<=10000000000000):
 call T 64 [.byt B .no,.int .i64 k,.int .i64 v] [] 0=some ⟨.byt (B++bu k v) (.id 60),[],[60]⟩:=f64 B k v y C E
def tkR:Bool->Bool->t8
 |false,false=> [103,16060,20060,24060,28060]
 |true,false=> [103,16060,20060,24060,28060,61060]
 |false,true=> [103,16060,20060,24060,28060,97060]
 |true,true=> [103,16060,20060,24060,28060,61060,97060]
theorem xvZ(m:Man)(C:dC m)(b:Bool)(i:Nat)(hi:i<m.ents.length)(B:d9)(hB:B.length<=1000000000):
 run T (.loop sX) ⟨[(1,.ptr 101 0),(3,.byt B (.id 103)),(4,.int .i64 i)],[(101,.rc m.sv)],tkR b false⟩=
 run T (.loop sX) ⟨[(1,.ptr 101 0),(3,.byt (oz B (m.ents.getD i en0)) (.id 103)),(4,.int .i64 ((i+1:Nat):Int))],[(101,.rc m.sv)],tkR true false⟩:=by
 have Z:((4:Nat):Int)=4:=rfl;have a2:=C.en;have O:=cr i (by omega);have L:=fR m.ents i hi;have y:=dn m.ents;obtain⟨a6,a1⟩:=C.e _ (bP m.ents en0 i hi);clear C;generalize m.ents.getD i en0=x at*;unfold oz;have n1:(B++bu 1 x.role).length<=1000000001:=by rw[ae,cQ];omega
 have J:B.length+1<=140737488355328:=by omega
 have E:=f63 (B++bu 1 x.role) x.name (by omega) (by omega);have n2:(jM (B++bu 1 x.role) x.name).length<=1010000000:=by rw[eP];omega
 generalize jM (B++bu 1 x.role) x.name=I at*;rw[tx]at E;have F:=Jg I 4 x.ver (by omega) (by omega) (by omega);rw[Z]at F;have n3:(I++bu 4 x.ver).length<=1010000004:=by rw[ae,cQ];omega
 generalize I++bu 4 x.ver=W at*;have Q:W.length+x.dig.length<=140737488355328:=by omega
 obtain⟨mv,m1,m2,m3,m4,es,rs⟩:=m;obtain⟨x1,x2,x3,x4⟩:=x;simp only[Man.sv,Ent.sv]at*;cases b with
 |false=>rw[ai];simp only[tkR];simp only[go_sem,Qd,Qe,Qf,Qg,Qi,Qj,Qk,Ql,Qm,reduceCtorEq,reduceIte,hi,O,L,y,J,E,F,Q,GK,xa7]
 |true=>rw[ai];simp only[tkR];simp only[go_sem,Qd,Qe,Qf,Qg,Qi,Qj,Qk,Ql,Qm,reduceCtorEq,reduceIte,hi,O,L,y,J,E,F,Q,GK,xa7]
theorem xwJ(m:Man)(I:dC m)(h16:m.ents.length<=16):∀(n i:Nat)(b:Bool)(B:d9),m.ents.length-i=n->i<=m.ents.length->B.length<=20000000+i*2000007->
 ∃O,run T (.loop sX) ⟨[(1,.ptr 101 0),(3,.byt B (.id 103)),(4,.int .i64 i)],[(101,.rc m.sv)],tkR b false⟩=
 some (.x 0,⟨[(1,.ptr 101 0),(3,.byt ((m.ents.drop i).foldl oz B) (.id 103))],[(101,.rc m.sv)],tkR O false⟩):=by
 intro n;induction n with
 |zero=>
  intro i b B J W Q;have y:=dn m.ents;have:i=m.ents.length:=by omega
  subst this;refine⟨b, ?_⟩;rw[bK,iP,ai];obtain⟨mv,m1,m2,m3,m4,es,rs⟩:=m;simp only[Man.sv]at*;cases b with
  |false=>simp only[tkR];simp only[go_sem,Qg,Qj,Qk,Ql,Qm,reduceIte,y]
  |true=>simp only[tkR];simp only[go_sem,Qg,Qj,Qk,Ql,Qm,reduceIte,y]
 |succ n L=>
  intro i b B J W Q;have hi:i<m.ents.length:=by omega
  have C:m.ents.drop i=m.ents.getD i en0::m.ents.drop (i+1):=by rw[bz hi,aa,ac hi];rfl
  obtain⟨F,E⟩:=I.e _ (bP m.ents en0 i hi);have Z:=sA B (m.ents.getD i en0) F E;rw[xvZ m I b i hi B (by omega),C,ez];exact L (i+1) true _ (by omega) (by omega) (by omega)
theorem xvY(m:Man)(F:∀x∈m.ruls,x.text.length<=1000000)(hn:m.ruls.length<=1000000)(b c:Bool)(i:Nat)(hi:i<m.ruls.length)(B:d9)(hB:B.length<=1000000000):
 run T (.loop sW) ⟨[(1,.ptr 101 0),(3,.byt B (.id 103)),(6,.int .i64 i)],[(101,.rc m.sv)],tkR b c⟩=
 run T (.loop sW) ⟨[(1,.ptr 101 0),(3,.byt (mK B (m.ruls.getD i rl0)) (.id 103)),(6,.int .i64 ((i+1:Nat):Int))],[(101,.rc m.sv)],tkR b true⟩:=by
 have L:((4:Nat):Int)=4:=rfl;have W:=cr i (by omega);have Q:=jY m.ruls i hi;have y:=dM m.ruls;have a1:=F _ (bP m.ruls rl0 i hi);clear F;generalize m.ruls.getD i rl0=x at*;unfold mK;have n1:(B++bu 1 x.kind).length<=1000000001:=by rw[ae,cQ];omega
 have O:B.length+1<=140737488355328:=by omega
 have I:=f63 (B++bu 1 x.kind) x.text (by omega) (by omega);have n2:(jM (B++bu 1 x.kind) x.text).length<=1010000000:=by rw[eP];omega
 generalize jM (B++bu 1 x.kind) x.text=C at*;rw[tx]at I;have J:=Jg C 4 x.lo (by omega) (by omega) (by omega);rw[L]at J;have n3:(C++bu 4 x.lo).length<=1010000004:=by rw[ae,cQ];omega
 generalize C++bu 4 x.lo=Z at*;have E:=Jg Z 4 x.hi (by omega) (by omega) (by omega);rw[L]at E;obtain⟨mv,m1,m2,m3,m4,es,rs⟩:=m;obtain⟨x1,x2,x3,x4⟩:=x;simp only[Rul.sv,Man.sv]at*
 cases b<;>cases c<;>
  (rw[ai]
   simp only[tkR];simp only[go_sem,Qd,Qe,Qf,Qg,Qi,Qj,Qk,Ql,Qm,reduceCtorEq,reduceIte,hi,W,Q,y,O,I,J,E,GK,xa7])
theorem xwI(m:Man)(E:∀x∈m.ruls,x.text.length<=1000000)(hn:m.ruls.length<=8)(b:Bool):∀(n i:Nat)(c:Bool)(B:d9),m.ruls.length-i=n->i<=m.ruls.length->B.length<=100000000+i*2000007->
 ∃J,run T (.loop sW) ⟨[(1,.ptr 101 0),(3,.byt B (.id 103)),(6,.int .i64 i)],[(101,.rc m.sv)],tkR b c⟩=
 some (.x 2,⟨[(3,.byt ((m.ruls.drop i).foldl mK B) (.id 103))],[(101,.rc m.sv)],tkR b J⟩):=by
 intro n;induction n with
 |zero=>
  intro i c B F O L;have C:=dM m.ruls;have:i=m.ruls.length:=by omega
  subst this;refine⟨c, ?_⟩;rw[bK,iP,ai];obtain⟨W,Z,m2,m3,m4,es,rs⟩:=m;simp only[Man.sv]at*;cases b<;>cases c<;>(simp only[tkR];simp only[go_sem,Qg,Qj,Ql,Qm,reduceIte,C])
 |succ n I=>
  intro i c B F O L;have hi:i<m.ruls.length:=by omega
  have y:m.ruls.drop i=m.ruls.getD i rl0::m.ruls.drop (i+1):=by rw[bz hi,aa,ac hi];rfl
  have Q:=rK B (m.ruls.getD i rl0) (E _ (bP m.ruls rl0 i hi));rw[xvY m E (by omega) b c i hi B (by omega),y,ez];exact I (i+1) true _ (by omega) (by omega) (by omega)
theorem f34(m:Man)(y:dC m):call T 34 [.agg m.sv] [] 0=some ⟨.byt (eO m) .no,[],[]⟩:=by
 have L:=f62 m y;have k4:((4:Nat):Int)=4:=rfl;have k6:((6:Nat):Int)=6:=rfl;have b3:=y.v;have b0:=y.rn;have O:=dn m.ents;have a8:=dM m.ruls;unfold eO
 by_cases E:fj m=0
 ·obtain⟨h16,h8⟩:=jR E
  rw[E]at L;rw[if_pos E];unfold hdM;have a7:bu 1 21=[21]:=by rw[tx];rfl
  have u2:=f63 [21] m.vendor (by simp) (by omega);rw[a7,aF];generalize a1:jM [21] m.vendor=B2 at*;have n2:B2.length<=10000000:=by rw[<-a1,eP];simp;omega
  have u3:=Jg B2 4 m.ver (by omega) (by omega) (by omega);rw[k4]at u3;generalize a6:B2++bu 4 m.ver=W at*;have n3:W.length<=10000004:=by rw[<-a6,ae,cQ];omega
  have u4:=Jg W 4 m.flr (by omega) (by omega) (by omega);rw[k4]at u4;generalize a2:W++bu 4 m.flr=B4 at*;have n4:B4.length<=10000008:=by rw[<-a2,ae,cQ];omega
  have u5:=Jg B4 6 m.frm (by omega) (by omega) (by omega);rw[k6]at u5;generalize Z:B4++bu 6 m.frm=B5 at*;have n5:B5.length<=10000014:=by rw[<-Z,ae,cQ];omega
  have u6:=Jg B5 6 m.til (by omega) (by omega) (by omega);rw[k6]at u6;generalize Q:B5++bu 6 m.til=C at*;have n6:C.length<=10000020:=by rw[<-Q,ae,cQ];omega
  have r6:C.length+1<=140737488355328:=by omega
  have n7:(C++bu 1 (m.ents.length:Int)).length<=10000021:=by rw[ae,cQ];omega
  obtain⟨b,F⟩:=xwJ m y h16 _ 0 false (C++bu 1 (m.ents.length:Int)) rfl (by omega) (by omega);have n8:=lZ m.ents (C++bu 1 (m.ents.length:Int)) y.e;rw[bj,az]at F;generalize m.ents.foldl oz (C++bu 1 (m.ents.length:Int))=I at*;rw[tx]at F;have r8:I.length+1<=140737488355328:=by omega
  have n9:(I++bu 1 (m.ruls.length:Int)).length<=10000022+16*2000007:=by rw[ae,cQ];omega
  obtain⟨c,J⟩:=xwI m y.r h8 b _ 0 false (I++bu 1 (m.ruls.length:Int)) rfl (by omega) (by omega);rw[bj,az]at J;generalize m.ruls.foldl mK (I++bu 1 (m.ruls.length:Int))=b1 at*;rw[tx]at J;obtain⟨mv,m1,m2,m3,m4,es,rs⟩:=m;simp only[Man.sv]at*;rw[aj xvy]
  cases b<;>cases c<;>
   (simp only[tkR]at F J
    simp only[go_sem,Qg,Qi,Qj,Qk,Ql,Qm,reduceCtorEq,reduceIte,L,xiB,u2,u3,u4,u5,u6,GK,xa7,O,r6,F,r8,a8,J])
 ·rw[if_neg E]
  obtain⟨mv,m1,m2,m3,m4,es,rs⟩:=m;simp only[Man.sv]at*;rw[aj xvy];simp only[go_sem,Qg,Qj,Qk,Ql,Qm,reduceCtorEq,reduceIte,L,xiB,E]
def jp(B:d9)(s:Rs):Ent×Rs:=(⟨(uR B 1 s).1,(bR B 12 (uR B 1 s).2).1,(uR B 4 (bR B 12 (uR B 1 s).2).2).1,(wR B 32 (uR B 4 (bR B 12 (uR B 1 s).2).2).2).1⟩,(wR B 32 (uR B 4 (bR B 12 (uR B 1 s).2).2).2).2)
def jm(B:d9)(s:Rs):Rul×Rs:=(⟨(uR B 1 s).1,(bR B 32 (uR B 1 s).2).1,(uR B 4 (bR B 32 (uR B 1 s).2).2).1,(uR B 4 (uR B 4 (bR B 32 (uR B 1 s).2).2).2).1⟩,(uR B 4 (uR B 4 (bR B 32 (uR B 1 s).2).2).2).2)
def eX(B:d9):Nat->List Ent->Rs->List Ent×Rs
 |0,es,s=>(es,s)
 |n+1,es,s=>if s.e=0 then eX B n (es++ [(jp B s).1]) (jp B s).2 else(es,s)
def eW(B:d9):Nat->List Rul->Rs->List Rul×Rs
 |0,es,s=>(es,s)
 |n+1,es,s=>if s.e=0 then eW B n (es++ [(jm B s).1]) (jm B s).2 else(es,s)
theorem qV{B:d9}{s:Rs}(h:dU B s):dU B (jp B s).2:=U0 (eV (rl (eV h)))
theorem pZ{B:d9}{s:Rs}(h:dU B s):dU B (jm B s).2:=eV (eV (rl (eV h)))
theorem zI{B:d9}:∀{n:Nat}{es:List Ent}{s:Rs},dU B s->dU B (eX B n es s).2
 |0,_,_,h=>h
 |n+1,es,s,h=>by
  unfold eX;split
  ·exact zI (qV h)
  ·exact h
theorem yG{B:d9}:∀{n:Nat}{es:List Rul}{s:Rs},dU B s->dU B (eW B n es s).2
 |0,_,_,h=>h
 |n+1,es,s,h=>by
  unfold eW;split
  ·exact yG (pZ h)
  ·exact h
theorem uK{B:d9}:∀{n:Nat}{es:List Ent}{s:Rs},(eX B n es s).1.length<=es.length+n
 |0,_,_=>aK _
 |n+1,es,s=>by
  unfold eX;split
  ·have:=uK (B:=B) (n:=n) (es:=es++ [(jp B s).1]) (s:=(jp B s).2)
   rw[ae,aG]at this;omega
  ·show es.length<=_;omega
theorem ui{B:d9}:∀{n:Nat}{es:List Rul}{s:Rs},(eW B n es s).1.length<=es.length+n
 |0,_,_=>aK _
 |n+1,es,s=>by
  unfold eW;split
  ·have:=ui (B:=B) (n:=n) (es:=es++ [(jm B s).1]) (s:=(jm B s).2)
   rw[ae,aG]at this;omega
  ·show es.length<=_;omega
def mR(v:d9)(F fl C E:Int)(es:List Ent)(t:Tok)(rs:List Rul)(y:Tok):aH:= .rc [.str v,.int .i64 F,.int .i64 fl,.int .i64 C,.int .i64 E,.lst 4 (di es) t,.lst 4 (dS rs) y]
def zR:aH:= .rc [.str [],.int .i64 0,.int .i64 0,.int .i64 0,.int .i64 0,.lst 4 [] .clip,.lst 4 [] .clip]
theorem zN(l:List Ent)(x:Ent):di (l++ [x])=di l++ [x.sv]:=by rw[di,di,co];rfl
theorem yL(l:List Rul)(x:Rul):dS (l++ [x])=dS l++ [x.sv]:=by rw[dS,dS,co];rfl
theorem xwH(B:d9)(hB:B.length<=1000000000)(v:d9)(ve fl fr ti:Int):∀(n:Nat)(es:List Ent)(s:Rs)(t:Tok)(tk:t8)(t0:Nat),es.length+n<=1000->dU B s->
 (t= .clip/\tk=[]/\es=[]\/t= .id 160/\tk=[160])->(t0=34060\/t0=55060)->
 ∃(t':Tok)(tk':t8)(O:Nat),(t'= .clip/\tk'=[]/\(eX B n es s).1=[]\/t'= .id 160/\tk'=[160])/\(O=34060\/O=55060\/O=39060)/\
  run T (.loop Ci) ⟨[(2,.ptr 102 0),(4,.ptr 12100 0),(5,.ptr 105 0),(6,.int .i64 n)],[(102,zR),(105,mR v ve fl fr ti es t [] .clip),(12100,rdO B t0 s)],tk++ [t0]⟩=
   some (.x 0,⟨[(2,.ptr 102 0),(4,.ptr 12100 0),(5,.ptr 105 0)],[(102,zR),(105,mR v ve fl fr ti (eX B n es s).1 t' [] .clip),(12100,rdO B O (eX B n es s).2)],tk'++ [O]⟩):=by
 intro n;induction n with
 |zero=>intro es s t tk t0 h1 h2 Q E;refine⟨t,tk,t0,Q,by omega, ?_⟩;unfold eX;rw[ai];rcases Q with⟨rfl,rfl,rfl⟩|⟨rfl,rfl⟩<;>rcases E with rfl|rfl<;>simp only[zR,mR,rdO]<;>simp only[go_sem,Q6,Qg,Qi,Qj,Qk,Ql,Qm,reduceIte,az]
 |succ n ih=>
  intro es s t tk t0 h1 h2 Q E;have hp:(0:Int)<((n+1:Nat):Int):=by omega
  have e1:af.wrap (((n+1:Nat):Int)-1)=(n:Int):=wZ (by omega)
  have g0:=f77 B s
  by_cases W:s.e=0
  ·obtain⟨t',tk',O,q1,q2,y⟩:=ih (es++ [(jp B s).1]) (jp B s).2 (.id 160) [160] 55060 (by rw[ae,aG];omega) (qV h2) (.inr ⟨rfl,rfl⟩) (.inr rfl)
   have hu:eX B (n+1) es s=eX B n (es++ [(jp B s).1]) (jp B s).2:=by
    conv=>lhs;unfold eX
    rw[if_pos W]
   rw[hu];refine⟨t',tk',O,q1,q2, ?_⟩;have hv:=dn es;have b1:(es.length+1)*56<=140737488355328:=by omega
   generalize eX B n (es++ [(jp B s).1]) (jp B s).2=Z at*;have k1:=eV (n:=1) h2;have F:=f75 B hB 1 (by omega) (by omega) s h2;unfold jp mR at y;rw[zN]at y;generalize uR B 1 s=p1 at*;obtain⟨x1,s1⟩:=p1;simp only at k1 F y;have k2:=rl (n:=12) k1;have L:=f76 B hB 12 (by omega) s1 k1;generalize bR B 12 s1=p2 at*;obtain⟨x2,s2⟩:=p2;simp only at k2 L y;have k3:=eV (n:=4) k2;have I:=f75 B hB 4 (by omega) (by omega) s2 k2;generalize uR B 4 s2=p3 at*;obtain⟨x3,s3⟩:=p3;simp only at k3 I y;have J:=f78 B hB 32 (by omega) s3 k3;generalize wR B 32 s3=p4 at*;obtain⟨x4,s4⟩:=p4;simp only at J y;rw[show((1:Nat):Int)=1 from rfl]at F;rw[show((12:Nat):Int)=12 from rfl]at L;rw[show((4:Nat):Int)=4 from rfl]at I;rw[show((32:Nat):Int)=32 from rfl]at J;rw[W]at g0;simp only[zR,mR,rdO,Ent.sv,bp,aF]at g0 F L I J y ⊢;rw[W]at g0 F;rw[W];rw[ai];rcases Q with⟨rfl,rfl,rfl⟩|⟨rfl,rfl⟩<;>rcases E with rfl|rfl
   ·have C:di []=[]:=rfl
    simp only[C,aF]at y ⊢;simp only[go_sem,Qg,Qi,Qj,Qk,Ql,Qm,reduceIte,hp,e1,g0,Js,F,rA,L,Jt,I,J,BD,y]
   ·have C:di []=[]:=rfl
    simp only[C,aF]at y ⊢;simp only[go_sem,Qg,Qi,Qj,Qk,Ql,Qm,reduceIte,hp,e1,g0,Js,F,rA,L,Jt,I,J,BD,y]
   ·simp only[bp,aF]
    simp only[go_sem,Qg,Qi,Qj,Qk,Ql,Qm,reduceIte,hp,e1,g0,Js,F,rA,L,Jt,I,J,BD,hv,b1,y]
   ·simp only[bp,aF]
    simp only[go_sem,Qg,Qi,Qj,Qk,Ql,Qm,reduceIte,hp,e1,g0,Js,F,rA,L,Jt,I,J,BD,hv,b1,y]
  ·have hu:eX B (n+1) es s=(es,s):=by
    unfold eX;rw[if_neg W]
   rw[hu];refine⟨t,tk,39060,Q,by omega, ?_⟩;rw[ai];simp only[zR,mR,rdO]at g0 ⊢;rcases Q with⟨rfl,rfl,rfl⟩|⟨rfl,rfl⟩<;>rcases E with rfl|rfl<;>simp only[go_sem,Qg,Qi,Qj,Qk,Ql,Qm,reduceIte,hp,g0,Js,W,bp,aF]
theorem xwG(B:d9)(hB:B.length<=1000000000)(v:d9)(ve fl fr ti:Int)(es:List Ent)(t2:Tok)(C:t8)(J:t2= .clip/\C=[]/\es=[]\/t2= .id 160/\C=[160]):∀(n:Nat)(rs:List Rul)(s:Rs)(t:Tok)(tk:t8)(t0:Nat),rs.length+n<=1000->dU B s->
 (t= .clip/\tk=[]/\rs=[]\/t= .id 190/\tk=[190])->(t0=64060\/t0=85060)->
 ∃(W:Tok)(tk':t8)(I:Nat),(W= .clip/\tk'=[]/\(eW B n rs s).1=[]\/W= .id 190/\tk'=[190])/\(I=64060\/I=85060\/I=69060)/\
  run T (.loop Ch) ⟨[(2,.ptr 102 0),(4,.ptr 12100 0),(5,.ptr 105 0),(8,.int .i64 n)],[(102,zR),(105,mR v ve fl fr ti es t2 rs t),(12100,rdO B t0 s)],C++(tk++ [t0])⟩=
   some (.x 2,⟨[(2,.ptr 102 0),(4,.ptr 12100 0),(5,.ptr 105 0)],[(102,zR),(105,mR v ve fl fr ti es t2 (eW B n rs s).1 W),(12100,rdO B I (eW B n rs s).2)],C++(tk'++ [I])⟩):=by
 intro n;induction n with
 |zero=>intro rs s t tk t0 h1 h2 L E;refine⟨t,tk,t0,L,by omega, ?_⟩;unfold eW;rw[ai];rcases J with⟨rfl,rfl,rfl⟩|⟨rfl,rfl⟩<;>rcases L with⟨rfl,rfl,rfl⟩|⟨rfl,rfl⟩<;>rcases E with rfl|rfl<;>simp only[zR,mR,rdO]<;>simp only[go_sem,Q6,Qg,Qi,Qj,Qk,Ql,Qm,reduceIte,az]
 |succ n ih=>
  intro rs s t tk t0 h1 h2 L E;have hp:(0:Int)<((n+1:Nat):Int):=by omega
  have e1:af.wrap (((n+1:Nat):Int)-1)=(n:Int):=wZ (by omega)
  have g0:=f77 B s
  by_cases O:s.e=0
  ·obtain⟨W,tk',I,q1,q2,y⟩:=ih (rs++ [(jm B s).1]) (jm B s).2 (.id 190) [190] 85060 (by rw[ae,aG];omega) (pZ h2) (.inr ⟨rfl,rfl⟩) (.inr rfl)
   have hu:eW B (n+1) rs s=eW B n (rs++ [(jm B s).1]) (jm B s).2:=by
    conv=>lhs;unfold eW
    rw[if_pos O]
   rw[hu];refine⟨W,tk',I,q1,q2, ?_⟩;have hv:=dM rs;have b1:(rs.length+1)*40<=140737488355328:=by omega
   generalize eW B n (rs++ [(jm B s).1]) (jm B s).2=Z at*;have k1:=eV (n:=1) h2;have Q:=f75 B hB 1 (by omega) (by omega) s h2;unfold jm mR at y;rw[yL]at y;generalize uR B 1 s=p1 at*;obtain⟨x1,s1⟩:=p1;simp only at k1 Q y;have k2:=rl (n:=32) k1;have g2:=f76 B hB 32 (by omega) s1 k1;generalize bR B 32 s1=p2 at*;obtain⟨x2,s2⟩:=p2;simp only at k2 g2 y;have k3:=eV (n:=4) k2;have g3:=f75 B hB 4 (by omega) (by omega) s2 k2;generalize uR B 4 s2=p3 at*;obtain⟨x3,s3⟩:=p3;simp only at k3 g3 y;have g4:=f75 B hB 4 (by omega) (by omega) s3 k3;generalize uR B 4 s3=p4 at*;obtain⟨x4,s4⟩:=p4;simp only at g4 y;rw[show((1:Nat):Int)=1 from rfl]at Q;rw[show((32:Nat):Int)=32 from rfl]at g2;rw[show((4:Nat):Int)=4 from rfl]at g3 g4;rw[O]at g0;simp only[zR,mR,rdO,Rul.sv,bp,aF]at g0 Q g2 g3 g4 y ⊢;rw[O]at g0 Q;rw[O];rw[ai];rcases J with⟨rfl,rfl,rfl⟩|⟨rfl,rfl⟩<;>rcases L with⟨rfl,rfl,rfl⟩|⟨rfl,rfl⟩<;>rcases E with rfl|rfl
   all_goals
    have a1:dS []=[]:=rfl;have F:di []=[]:=rfl;simp only[a1,F,aF,bp]at y ⊢;simp only[go_sem,Qg,Qi,Qj,Qk,Ql,Qm,reduceIte,hp,e1,g0,Js,Q,rA,g2,Jt,g3,g4,hv,b1,y]
  ·have hu:eW B (n+1) rs s=(rs,s):=by
    unfold eW;rw[if_neg O]
   rw[hu];refine⟨t,tk,69060,L,by omega, ?_⟩;rw[ai];simp only[zR,mR,rdO]at g0 ⊢;rcases J with⟨rfl,rfl,rfl⟩|⟨rfl,rfl⟩<;>rcases L with⟨rfl,rfl,rfl⟩|⟨rfl,rfl⟩<;>rcases E with rfl|rfl<;>simp only[go_sem,Qg,Qi,Qj,Qk,Ql,Qm,reduceIte,hp,g0,Js,O,bp,aF]
def xqX(x:Ent):Prop:=0<=x.ver/\x.ver<=1000000/\x.name.length<=1000000
theorem xav{l:List Ent}{i:Nat}(h:nb l i=0):1<=(l.getD i en0).role/\(l.getD i en0).role<=3/\0<=(l.getD i en0).ver/\(l.getD i en0).ver<=1000000/\(l.getD i en0).dig.length=32/\Pr.nameB (l.getD i en0).name=true:=by
 unfold nb at h;generalize l.getD i en0=x at*
 repeat' split at h
 all_goals first|omega|skip
 all_goals (refine⟨by omega,by omega,by omega,by omega,by omega,by assumption⟩)
theorem zM(l:List Ent):∀(n i:Nat),iN l n i=0->∀k,i<=k->k<i+n->nb l k=0
 |0,i,_,k,h1,h2=>by omega
 |n+1,i,h,k,h1,h2=>by
  unfold iN at h
  by_cases y:nb l i=0
  ·rw[if_pos y]at h
   rcases bQ i k with C|C
   ·exact zM l n (i+1) h k (by omega) (by omega)
   ·have:k=i:=by omega
    rw[this];exact y
  ·rw[if_neg y]at h;exact absurd h y
theorem vZ{m:Man}(h:fj m=0):iN m.ents m.ents.length 0=0/\iW m.ruls=0/\m.ents.length<=16/\m.ruls.length<=8/\Pr.nameB m.vendor=true/\0<=m.flr/\m.flr<=m.ver/\m.ver<=1000000/\0<=m.frm/\m.frm<m.til/\m.til<=1099511627776:=by
 unfold fj at h
 by_cases y:Pr.nameB m.vendor=true
 ·rw[if_pos y]at h
  repeat' split at h
  all_goals first|(exfalso;omega)|skip
  refine⟨by assumption,h,by omega,by omega,y,by omega,by omega,by omega,by omega,by omega,by omega⟩
 ·rw[if_neg y]at h;omega
theorem ZO{m:Man}(h:fj m=0):∀x∈m.ents,1<=x.role/\x.role<=3/\xqX x/\x.dig.length=32/\Pr.nameB x.name=true:=by
 intro x C;obtain⟨i,hi,rfl⟩:=bg C;have y:=xav (zM m.ents _ 0 (vZ h).1 i (aY _) (by omega));have e:m.ents.getD i en0=m.ents[i]:=by rw[aa,ac hi];rfl
 rw[e]at y;obtain⟨a,b,c,d,f,g⟩:=y;have:=lV g;exact⟨a,b,⟨c,d,by omega⟩,f,g⟩
theorem V0{B P X S:d9}(m:Nat)(h:B=P++((bu 2 (X.length:Int)++X)++S))(L:X.length<=m)(Q:X.length<65536):bR B m ⟨P.length,0⟩=(X,⟨(P++(bu 2 (X.length:Int)++X)).length,0⟩):=by
 have hn:nB (bu 2 (X.length:Int))=X.length:=by
  have O:((256^2:Nat):Int)=65536:=by decide
  have:=kx 2 (X.length:Int) (by omega) (by rw[O];omega) (by omega);omega
 have C:(bu 2 (X.length:Int)).length=2:=cQ ..;have J:B=P++(bu 2 (X.length:Int)++(X++S)):=by rw[h,ay (bu 2 _)]
 have y:B=(P++bu 2 (X.length:Int))++(X++S):=by rw[J,ay]
 obtain⟨I,F⟩:=rp J;obtain⟨E,b2⟩:=rp y;rw[C]at I F;rw[ae,C]at E b2;unfold bR;rw[if_pos rfl];simp only;rw[if_pos F,I,hn,if_pos L,if_pos b2,E];rw[ae,ae,C]
def qW(x:Ent):d9:=bu 1 x.role++(bu 2 (x.name.length:Int)++x.name)++bu 4 x.ver++x.dig
def uM(r:Rul):d9:=bu 1 r.kind++(bu 2 (r.text.length:Int)++r.text)++bu 4 r.lo++bu 4 r.hi
theorem wu(B X:d9)(h:X.length<65536):jM B X=B++(bu 2 (X.length:Int)++X):=by unfold jM bu;rw[aT (by omega),ay]
theorem xaF(B:d9)(x:Ent)(h:x.name.length<65536):oz B x=B++qW x:=by unfold oz qW;rw[wu _ _ h];simp only[ay]
theorem Y6(B:d9)(x:Rul)(h:x.text.length<65536):mK B x=B++uM x:=by unfold mK uM;rw[wu _ _ h];simp only[ay]
theorem zw:∀(l:List Ent)(B:d9),(∀x∈l,x.name.length<65536)->l.foldl oz B=B++(l.map qW).flatten
 |[],B,_=>by simp
 |x::r,B,h=>by rw[ez,xaF _ _ (h x aA),zw r _ (fun y C=>h y (aw _ C)),aI,cK,ay]
theorem zu:∀(l:List Rul)(B:d9),(∀x∈l,x.text.length<65536)->l.foldl mK B=B++(l.map uM).flatten
 |[],B,_=>by simp
 |x::r,B,h=>by rw[ez,Y6 _ _ (h x aA),zu r _ (fun y C=>h y (aw _ C)),aI,cK,ay]
structure xoG(x:Ent):Prop where
 r0:0<=x.role
 r1:x.role<256
 n:x.name.length<=12
 v0:0<=x.ver
 v1:x.ver<4294967296
 d:x.dig.length=32
structure xoF(x:Rul):Prop where
 r0:0<=x.kind
 r1:x.kind<256
 n:x.text.length<=32
 v0:0<=x.lo
 v1:x.lo<4294967296
 w0:0<=x.hi
 w1:x.hi<4294967296
theorem xat{B P S:d9}{x:Ent}(y:xoG x)(h:B=P++(qW x++S)):jp B ⟨P.length,0⟩=(x,⟨(P++qW x).length,0⟩):=by unfold qW at h;have C:=jO (B:=B) (P:=P) (X:=bu 1 x.role) (S:=(bu 2 (x.name.length:Int)++x.name)++(bu 4 x.ver++(x.dig++S))) 1 (by rw[h];simp only[ay]) (cQ ..);have E:=V0 (B:=B) (P:=P++bu 1 x.role) (X:=x.name) (S:=bu 4 x.ver++(x.dig++S)) 12 (by rw[h];simp only[ay]) y.n (by have:=y.n;omega);have a3:=jO (B:=B) (P:=P++bu 1 x.role++(bu 2 (x.name.length:Int)++x.name)) (X:=bu 4 x.ver) (S:=x.dig++S) 4 (by rw[h];simp only[ay]) (cQ ..);have a4:=xbe (B:=B) (P:=P++bu 1 x.role++(bu 2 (x.name.length:Int)++x.name)++bu 4 x.ver) (X:=x.dig) (S:=S) 32 (by rw[h];simp only[ay]) y.d;rw[kx 1 x.role y.r0 (by rw[pp1];exact y.r1) (by have:=y.r1;omega)]at C;rw[kx 4 x.ver y.v0 (by rw[pp4];exact y.v1) (by have:=y.v1;omega)]at a3;unfold jp;rw[C];simp only;rw[E];simp only;rw[a3];simp only;rw[a4];unfold qW;simp only[ay]
theorem Y4{B P S:d9}{x:Rul}(y:xoF x)(h:B=P++(uM x++S)):jm B ⟨P.length,0⟩=(x,⟨(P++uM x).length,0⟩):=by unfold uM at h;have C:=jO (B:=B) (P:=P) (X:=bu 1 x.kind) (S:=(bu 2 (x.text.length:Int)++x.text)++(bu 4 x.lo++(bu 4 x.hi++S))) 1 (by rw[h];simp only[ay]) (cQ ..);have E:=V0 (B:=B) (P:=P++bu 1 x.kind) (X:=x.text) (S:=bu 4 x.lo++(bu 4 x.hi++S)) 32 (by rw[h];simp only[ay]) y.n (by have:=y.n;omega);have a3:=jO (B:=B) (P:=P++bu 1 x.kind++(bu 2 (x.text.length:Int)++x.text)) (X:=bu 4 x.lo) (S:=bu 4 x.hi++S) 4 (by rw[h];simp only[ay]) (cQ ..);have a4:=jO (B:=B) (P:=P++bu 1 x.kind++(bu 2 (x.text.length:Int)++x.text)++bu 4 x.lo) (X:=bu 4 x.hi) (S:=S) 4 (by rw[h];simp only[ay]) (cQ ..);rw[kx 1 x.kind y.r0 (by rw[pp1];exact y.r1) (by have:=y.r1;omega)]at C;rw[kx 4 x.lo y.v0 (by rw[pp4];exact y.v1) (by have:=y.v1;omega)]at a3;rw[kx 4 x.hi y.w0 (by rw[pp4];exact y.w1) (by have:=y.w1;omega)]at a4;unfold jm;rw[C];simp only;rw[E];simp only;rw[a3];simp only;rw[a4];unfold uM;simp only[ay]
theorem zL{B:d9}:∀(l:List Ent)(es:List Ent)(P S:d9),(∀x∈l,xoG x)->B=P++((l.map qW).flatten++S)->eX B l.length es ⟨P.length,0⟩=(es++l,⟨(P++(l.map qW).flatten).length,0⟩)
 |[],es,P,S,_,_=>by simp[eX]
 |x::r,es,P,S,hx,h=>by have a:=xat (B:=B) (P:=P) (S:=(r.map qW).flatten++S) (hx x aA) (by rw[h,aI,cK];simp only[ay]);rw[al];unfold eX;rw[if_pos rfl,a];simp only;rw[zL r (es++ [x]) (P++qW x) S (fun y C=>hx y (aw _ C)) (by rw[h,aI,cK];simp only[ay]),aI,cK];simp only[ay,bp,aF]
theorem yJ{B:d9}:∀(l:List Rul)(es:List Rul)(P S:d9),(∀x∈l,xoF x)->B=P++((l.map uM).flatten++S)->eW B l.length es ⟨P.length,0⟩=(es++l,⟨(P++(l.map uM).flatten).length,0⟩)
 |[],es,P,S,_,_=>by simp[eW]
 |x::r,es,P,S,hx,h=>by have a:=Y4 (B:=B) (P:=P) (S:=(r.map uM).flatten++S) (hx x aA) (by rw[h,aI,cK];simp only[ay]);rw[al];unfold eW;rw[if_pos rfl,a];simp only;rw[yJ r (es++ [x]) (P++uM x) S (fun y C=>hx y (aw _ C)) (by rw[h,aI,cK];simp only[ay]),aI,cK];simp only[ay,bp,aF]
def hV(B:d9):d9×Rs:=bR B 12 (uR B 1 ⟨0,0⟩).2
def hE(B:d9):Int×Rs:=uR B 4 (hV B).2
def hF(B:d9):Int×Rs:=uR B 4 (hE B).2
def hM(B:d9):Int×Rs:=uR B 6 (hF B).2
def hT(B:d9):Int×Rs:=uR B 6 (hM B).2
def hN(B:d9):Int×Rs:=uR B 1 (hT B).2
def hL(B:d9):List Ent×Rs:=eX B (hN B).1.toNat [] (hN B).2
def hK(B:d9):Int×Rs:=uR B 1 (hL B).2
def hR(B:d9):List Rul×Rs:=eW B (hK B).1.toNat [] (hK B).2
def oY(B:d9):Man:=⟨(hV B).1,(hE B).1,(hF B).1,(hM B).1,(hT B).1,(hL B).1,(hR B).1⟩
def okP(B:d9):Prop:=(uR B 1 ⟨0,0⟩).1=21/\eR B (hR B).2=0/\fj (oY B)=0
instance (B:List UInt8):Decidable (okP B):=by unfold okP;infer_instance
def jU(B:d9):Option Man:=if okP B then some (oY B)else none
theorem xnY{k:Int}{t:d9}{lo hi:Int}(h:chk k t lo hi=0):1<=k/\k<=4/\t.length<=32/\0<=lo/\lo<=1000000000/\0<=hi/\hi<=1000000000:=by
 unfold chk at h
 repeat' split at h
 all_goals first|(exfalso;omega)|skip
 ·refine⟨by omega,by omega,by omega,by omega,by omega,by omega,by omega⟩
 ·rename_i y
  refine⟨by omega,by omega,by rw[y];simp,by omega,by omega,by omega,by omega⟩
 ·refine⟨by omega,by omega,by omega,by omega,by omega,by omega,by omega⟩
theorem yD:∀{l:List Rul},iW l=0->∀r∈l,p6 r=0
 |[],_,r,hr=>by cases hr
 |x::t,h,r,hr=>by
  unfold iW at h
  by_cases y:p6 x=0
  ·rw[if_pos y]at h
   rcases av.1 hr with rfl|hr
   ·exact y
   ·exact yD h r hr
  ·rw[if_neg y]at h;exact absurd h y
theorem KJ{m:Man}(h:fj m=0):∀x∈m.ents,xoG x:=by intro x E;obtain⟨I,F,⟨a3,a4,a5⟩,C,y⟩:=ZO h x E;exact⟨by omega,by omega,(lV y).2,a3,by omega,C⟩
theorem KI{m:Man}(h:fj m=0):∀x∈m.ruls,xoF x:=by intro x C;obtain⟨I,F,a3,a4,a5,y,E⟩:=xnY (yD (vZ h).2.1 x C);exact⟨by omega,by omega,a3,a4,by omega,y,by omega⟩
theorem mB{m:Man}(h:fj m=0):jU (eO m)=some m:=by
 obtain⟨-, -,hn,hr,hv,u0,u1,u2,u3,u4,u5⟩:=vZ h;have C:=KJ h;have E:=KI h;have W:=(lV hv).2
 have key:eO m=bu 1 21++((bu 2 (m.vendor.length:Int)++m.vendor)++(bu 4 m.ver++(bu 4 m.flr++(bu 6 m.frm++(bu 6 m.til++(bu 1 (m.ents.length:Int)++((m.ents.map qW).flatten++(bu 1 (m.ruls.length:Int)++((m.ruls.map uM).flatten++ []))))))))):=by unfold eO hdM;rw[if_pos h,zw _ _ (fun x Z=>by have:=(C x Z).n;omega),zu _ _ (fun x Z=>by have:=(E x Z).n;omega),wu _ _ (by omega)];simp only[ay,aF,bA]
 generalize eO m=B at*;have a0:=jO (B:=B) (P:=[]) 1 key (cQ 1 21);have a1:=V0 (B:=B) (P:=bu 1 21) 12 key W (by omega);have a2:=jO (B:=B) (P:=bu 1 21++(bu 2 (m.vendor.length:Int)++m.vendor)) 4 (by rw[key];simp only[ay];rfl) (cQ 4 m.ver);have a3:=jO (B:=B) (P:=bu 1 21++(bu 2 (m.vendor.length:Int)++m.vendor)++bu 4 m.ver) 4 (by rw[key];simp only[ay];rfl) (cQ 4 m.flr);have a4:=jO (B:=B) (P:=bu 1 21++(bu 2 (m.vendor.length:Int)++m.vendor)++bu 4 m.ver++bu 4 m.flr) 6 (by rw[key];simp only[ay];rfl) (cQ 6 m.frm);have a5:=jO (B:=B) (P:=bu 1 21++(bu 2 (m.vendor.length:Int)++m.vendor)++bu 4 m.ver++bu 4 m.flr++bu 6 m.frm) 6 (by rw[key];simp only[ay];rfl) (cQ 6 m.til);have a6:=jO (B:=B) (P:=bu 1 21++(bu 2 (m.vendor.length:Int)++m.vendor)++bu 4 m.ver++bu 4 m.flr++bu 6 m.frm++bu 6 m.til) 1 (by rw[key];simp only[ay];rfl) (cQ 1 (m.ents.length:Int));have a7:=zL (B:=B) m.ents [] (bu 1 21++(bu 2 (m.vendor.length:Int)++m.vendor)++bu 4 m.ver++bu 4 m.flr++bu 6 m.frm++bu 6 m.til++bu 1 (m.ents.length:Int)) _ C (by rw[key];simp only[ay];rfl);have a8:=jO (B:=B) (P:=bu 1 21++(bu 2 (m.vendor.length:Int)++m.vendor)++bu 4 m.ver++bu 4 m.flr++bu 6 m.frm++bu 6 m.til++bu 1 (m.ents.length:Int)++(m.ents.map qW).flatten) 1 (by rw[key];simp only[ay];rfl) (cQ 1 (m.ruls.length:Int));have a9:=yJ (B:=B) m.ruls [] (bu 1 21++(bu 2 (m.vendor.length:Int)++m.vendor)++bu 4 m.ver++bu 4 m.flr++bu 6 m.frm++bu 6 m.til++bu 1 (m.ents.length:Int)++(m.ents.map qW).flatten++bu 1 (m.ruls.length:Int)) [] E (by rw[key];simp only[ay])
 rw[kx 1 21 (by omega) (by rw[pp1];omega) (by omega)]at a0;rw[kx 4 m.ver (by omega) (by rw[pp4];omega) (by omega)]at a2;rw[kx 4 m.flr (by omega) (by rw[pp4];omega) (by omega)]at a3;rw[kx 6 m.frm (by omega) (by rw[pp6];omega) (by omega)]at a4;rw[kx 6 m.til (by omega) (by rw[pp6];omega) (by omega)]at a5;rw[kx 1 (m.ents.length:Int) (by omega) (by rw[pp1];omega) (by omega)]at a6;rw[kx 1 (m.ruls.length:Int) (by omega) (by rw[pp1];omega) (by omega)]at a8;rw[aB,aF]at a0;have O:=(congrArg (fun z:Int×Rs=>bR B 12 z.2) a0).trans a1;change hV B=_ at O;have I:=(congrArg (fun z:d9×Rs=>uR B 4 z.2) O).trans a2;change hE B=_ at I;have F:=(congrArg (fun z:Int×Rs=>uR B 4 z.2) I).trans a3;change hF B=_ at F;have T:=(congrArg (fun z:Int×Rs=>uR B 6 z.2) F).trans a4;change hM B=_ at T;have L:=(congrArg (fun z:Int×Rs=>uR B 6 z.2) T).trans a5;change hT B=_ at L;have q6:=(congrArg (fun z:Int×Rs=>uR B 1 z.2) L).trans a6;change hN B=_ at q6;have J:=(congrArg (fun z:Int×Rs=>eX B z.1.toNat [] z.2) q6).trans a7;change hL B=_ at J;have q8:=(congrArg (fun z:List Ent×Rs=>uR B 1 z.2) J).trans a8;change hK B=_ at q8;have Q:=(congrArg (fun z:Int×Rs=>eW B z.1.toNat [] z.2) q8).trans a9;change hR B=_ at Q
 have hm:oY B=m:=by unfold oY;rw[O,I,F,T,L,J,Q];rfl
 have y:eR B (hR B).2=0:=by
  rw[Q];unfold eR;rw[if_pos rfl,if_neg];simp only
  conv=>rhs;rw[key]
  simp only[ay,bA];omega
 unfold jU;rw[if_pos ⟨by rw[a0],y,by rw[hm];exact h⟩,hm]
theorem xaw{m n:Man}(y:fj m=0)(hn:fj n=0)(h:eO m=eO n):m=n:=by have:=mB y;rw[h,mB hn]at this;exact(ax.inj this).symm
theorem pF(B:d9)(m:Nat)(s:Rs):(bR B m s).1.length<=m:=by
 unfold bR;split
 ·split
  ·split
   ·split
    ·rename_i h _;show(eS _ _).length<=_;rw[an];omega
    ·exact aY _
   ·exact aY _
  ·exact aY _
 ·exact aY _
theorem LC(B:d9)(m:Nat)(s:Rs):(wR B m s).1.length<=m:=by
 unfold wR;split
 ·split
  ·show(eS _ _).length<=_;rw[an];omega
  ·exact aY _
 ·exact aY _
theorem pC(B:d9)(s:Rs):0<=(uR B 1 s).1/\(uR B 1 s).1<256:=by
 unfold uR;split
 ·split
  ·have h:=IJ ((B.drop s.a).take 1)
   have y:((B.drop s.a).take 1).length<=1:=by rw[an];omega
   have C:256^((B.drop s.a).take 1).length<=256^1:=Nat.pow_le_pow_right (by decide) y;have E:(256:Nat)^1=256:=by decide
   constructor
   ·exact Int.natCast_nonneg _
   ·show((nB _:Nat):Int)<256;omega
  ·exact⟨Int.le_refl _,by show(0:Int)<256;decide⟩
 ·exact⟨Int.le_refl _,by show(0:Int)<256;decide⟩
theorem zK{B:d9}:∀{n:Nat}{es:List Ent}{s:Rs},(∀x∈es,x.name.length<=12/\x.dig.length<=32)->∀x∈(eX B n es s).1,x.name.length<=12/\x.dig.length<=32
 |0,_,_,h=>h
 |n+1,es,s,h=>by
  unfold eX;split
  ·refine zK fun x y=> ?_
   rw[am,bq]at y;rcases y with y|rfl
   ·exact h x y
   ·exact⟨pF _ _ _,LC _ _ _⟩
  ·exact h
theorem yI{B:d9}:∀{n:Nat}{es:List Rul}{s:Rs},(∀x∈es,x.text.length<=32)->∀x∈(eW B n es s).1,x.text.length<=32
 |0,_,_,h=>h
 |n+1,es,s,h=>by
  unfold eW;split
  ·refine yI fun x y=> ?_
   rw[am,bq]at y;rcases y with y|rfl
   ·exact h x y
   ·exact pF _ _ _
  ·exact h
theorem vY(B:d9):dC (oY B):=by
 have F:=uK (B:=B) (n:=(hN B).1.toNat) (es:=[]) (s:=(hN B).2);have C:=ui (B:=B) (n:=(hK B).1.toNat) (es:=[]) (s:=(hK B).2);have I:=pC B (hT B).2;have E:=pC B (hL B).2;change 0<=(hN B).1/\(hN B).1<256 at I;change 0<=(hK B).1/\(hK B).1<256 at E;rw[aB]at F C
 exact⟨by have:=pF B 12 (uR B 1 ⟨0,0⟩).2;show(hV B).1.length<=_;unfold hV;omega,by show(hL B).1.length<=_;unfold hL;omega,by show(hR B).1.length<=_;unfold hR;omega,
  fun x y=>by have:=zK (B:=B) (n:=(hN B).1.toNat) (es:=[]) (s:=(hN B).2) (fun x y=>by cases y) x y;omega,
  fun x y=>by have:=yI (B:=B) (n:=(hK B).1.toNat) (es:=[]) (s:=(hK B).2) (fun x y=>by cases y) x y;omega⟩
def mnz:Man:=⟨[],0,0,0,0,[],[]⟩
def zU(B:d9):Man:=match jU B with|some m=>m|none=>mnz
def zV(B:d9):Int:=match jU B with|some _=>0|none=>30
theorem xwo(B:d9)(O:B.length<=1000000000)(v:d9)(F fl C E:Int)(es:List Ent)(s:Rs)(J:dU B s)(t:Tok)(tk:t8)(y:Nat)
 (I:t= .clip/\tk=[]/\es=[]\/t= .id 160/\tk=[160]) (L:y=34060\/y=55060\/y=39060):
 run T (.ops sV) ⟨[(2,.ptr 102 0),(4,.ptr 12100 0),(5,.ptr 105 0)],[(102,zR),(105,mR v F fl C E es t [] .clip),(12100,rdO B y s)],tk++ [y]⟩=
  some (.n,⟨[(2,.ptr 102 0),(4,.ptr 12100 0),(5,.ptr 105 0),(8,.int .i64 (uR B 1 s).1)],[(102,zR),(105,mR v F fl C E es t [] .clip),(12100,rdO B 64060 (uR B 1 s).2)],tk++ [64060]⟩):=by
 have g:=f75 B O 1 (by omega) (by omega) s J;rw[show((1:Nat):Int)=1 from rfl]at g;simp only[zR,mR,rdO]at g ⊢;rcases I with⟨rfl,rfl,rfl⟩|⟨rfl,rfl⟩<;>rcases L with rfl|rfl|rfl<;>simp only[go_sem,Qg,Qi,Qj,Qk,Ql,Qm,reduceIte,g,rA]
theorem xwn(B:d9)(hB:B.length<=1000000000)(v:d9)(y fl C E:Int)(es:List Ent)(s:Rs)(Z:dU B s)(t:Tok)(tk:t8)(rs:List Rul)(u:Tok)(I:t8)(F:Nat)
 (W:dC ⟨v,y,fl,C,E,es,rs⟩)
 (J:t= .clip/\tk=[]/\es=[]\/t= .id 160/\tk=[160]) (hu:u= .clip/\I=[]/\rs=[]\/u= .id 190/\I=[190]) (L:F=64060\/F=85060\/F=69060):
 run T (.ops sU) ⟨[(2,.ptr 102 0),(4,.ptr 12100 0),(5,.ptr 105 0)],[(102,zR),(105,mR v y fl C E es t rs u),(12100,rdO B F s)],tk++(I++ [F])⟩=
  some (.n,⟨[(2,.ptr 102 0),(5,.ptr 105 0),(99,.bool (!decide (eR B s=0/\fj ⟨v,y,fl,C,E,es,rs⟩=0)))],[(102,zR),(105,mR v y fl C E es t rs u),(12100,rdO B 94060 s)],tk++(I++ [94060])⟩):=by
 have g:=f79 B hB s Z;have gm:=f80 ⟨v,y,fl,C,E,es,rs⟩ W;generalize fj ⟨v,y,fl,C,E,es,rs⟩=q at*;generalize eR B s=p at*
 by_cases O:p=0
 ·subst O
  by_cases Q:q=0
  ·subst Q
   simp only[zR,mR,rdO,Man.sv]at g gm ⊢;rcases J with⟨rfl,rfl,rfl⟩|⟨rfl,rfl⟩<;>rcases hu with⟨rfl,rfl,rfl⟩|⟨rfl,rfl⟩<;>rcases L with rfl|rfl|rfl<;>simp only[go_sem,Qg,Qi,Qj,Qk,Ql,Qm,reduceIte,g,GG,gm,Jr]
  ·simp only[zR,mR,rdO,Man.sv]at g gm ⊢
   rcases J with⟨rfl,rfl,rfl⟩|⟨rfl,rfl⟩<;>rcases hu with⟨rfl,rfl,rfl⟩|⟨rfl,rfl⟩<;>rcases L with rfl|rfl|rfl<;>simp only[go_sem,Qg,Qi,Qj,Qk,Ql,Qm,reduceIte,g,GG,gm,Jr,Q]
 ·simp only[zR,mR,rdO,Man.sv]at g gm ⊢
  rcases J with⟨rfl,rfl,rfl⟩|⟨rfl,rfl⟩<;>rcases hu with⟨rfl,rfl,rfl⟩|⟨rfl,rfl⟩<;>rcases L with rfl|rfl|rfl<;>simp only[go_sem,Qg,Qi,Qj,Qk,Ql,Qm,reduceIte,g,GG,O]
attribute [-go_sem] sV sU
theorem f47(B:d9)(y:B.length<=1000000000):call T 47 [.byt B .no] [] 0=some ⟨.tup [.agg (zU B).sv,.int .i64 (zV B)],[],[]⟩:=by
 have g0:=f74 B y;have k0:dU B ⟨0,0⟩:=⟨aY _⟩;have C:=f75 B y 1 (by omega) (by omega) ⟨0,0⟩ k0;have k1:=eV (n:=1) k0;have W:=f76 B y 12 (by omega) _ k1;have k2:dU B (hV B).2:=rl (n:=12) k1;have O:=f75 B y 4 (by omega) (by omega) _ k2;have k3:dU B (hE B).2:=eV (n:=4) k2;have Q:=f75 B y 4 (by omega) (by omega) _ k3;have k4:dU B (hF B).2:=eV (n:=4) k3;have Z:=f75 B y 6 (by omega) (by omega) _ k4;have k5:dU B (hM B).2:=eV (n:=6) k4;have g6:=f75 B y 6 (by omega) (by omega) _ k5;have k6:dU B (hT B).2:=eV (n:=6) k5;have g7:=f75 B y 1 (by omega) (by omega) _ k6;have k7:dU B (hN B).2:=eV (n:=1) k6;have n1:=pC B (hT B).2;have n2:=pC B (hL B).2;change 0<=(hN B).1/\(hN B).1<256 at n1;change 0<=(hK B).1/\(hK B).1<256 at n2;have nn:(hN B).1=(((hN B).1.toNat:Nat):Int):=by omega
 have nk:(hK B).1=(((hK B).1.toNat:Nat):Int):=by omega
 obtain⟨J,tk',t1,q1,q2,I⟩:=xwH B y (hV B).1 (hE B).1 (hF B).1 (hM B).1 (hT B).1 (hN B).1.toNat [] (hN B).2 .clip [] 34060 (by rw[aB];omega) k7 (.inl ⟨rfl,rfl,rfl⟩) (.inl rfl);have k8:dU B (hL B).2:=zI k7;have g8:=f75 B y 1 (by omega) (by omega) _ k8;have k9:dU B (hK B).2:=eV (n:=1) k8;have gm:=f80 (oY B) (vY B);change (J= .clip/\tk'=[]/\(hL B).1=[]\/J= .id 160/\tk'=[160])at q1;obtain⟨u',a6,u1,r1,r2,r3⟩:=xwG B y (hV B).1 (hE B).1 (hF B).1 (hM B).1 (hT B).1 (hL B).1 J tk' q1 (hK B).1.toNat [] (hK B).2 .clip [] 64060 (by rw[aB];omega) k9 (.inl ⟨rfl,rfl,rfl⟩) (.inl rfl);have a1:dU B (hR B).2:=yG k9;have g9:=f79 B y _ a1;change _/\_/\(hR B).1=[]\/_ at r1;rw[<-nn]at I;rw[<-nk]at r3;change run T _ _=some (Ex.x 0,⟨_,[_,(105,mR _ _ _ _ _ (hL B).1 J [] .clip),(12100,rdO B t1 (hL B).2)],_⟩)at I;change run T _ _=some (Ex.x 2,⟨_,[_,(105,mR _ _ _ _ _ (hL B).1 J (hR B).1 u'),(12100,rdO B u1 (hR B).2)],_⟩)at r3;change call T 75 _ _ _=some ⟨.int .i64 (hE B).1,[(0,rdO B 60 (hE B).2)],[60]⟩at O;change call T 75 _ _ _=some ⟨.int .i64 (hF B).1,[(0,rdO B 60 (hF B).2)],[60]⟩at Q;change call T 75 _ _ _=some ⟨.int .i64 (hM B).1,[(0,rdO B 60 (hM B).2)],[60]⟩at Z;change call T 75 _ _ _=some ⟨.int .i64 (hT B).1,[(0,rdO B 60 (hT B).2)],[60]⟩at g6;change call T 75 _ _ _=some ⟨.int .i64 (hN B).1,[(0,rdO B 60 (hN B).2)],[60]⟩at g7;change call T 75 _ _ _=some ⟨.int .i64 (hK B).1,[(0,rdO B 60 (hK B).2)],[60]⟩at g8;change call T 76 _ _ _=some ⟨.byt (hV B).1 .no,[(0,rdO B 60 (hV B).2)],[60]⟩at W
 have o1:=xwo B y (hV B).1 (hE B).1 (hF B).1 (hM B).1 (hT B).1 (hL B).1 (hL B).2 k8 J tk' t1 q1 q2;have L:=xwn B y (hV B).1 (hE B).1 (hF B).1 (hM B).1 (hT B).1 (hL B).1 (hR B).2 a1 J tk' (hR B).1 u' a6 u1 (vY B) q1 r1 r2;change run T _ _=some (Ex.n,⟨[_,_,_,(8,SV.int .i64 (hK B).1)],[_,_,(12100,rdO B 64060 (hK B).2)],_⟩)at o1;change run T _ _=some (Ex.n,⟨[_,_,(99,SV.bool (!decide (eR B (hR B).2=0/\fj (oY B)=0)))],_,_⟩)at L
 have a2:jU B=if(uR B 1 ⟨0,0⟩).1=21/\eR B (hR B).2=0/\fj (oY B)=0 then some (oY B)else none:=by unfold jU okP;rfl
 have a7:(oY B).sv=[.str (hV B).1,.int .i64 (hE B).1,.int .i64 (hF B).1,.int .i64 (hM B).1,.int .i64 (hT B).1,.lst 4 (di (hL B).1) .no,.lst 4 (dS (hR B).1) .no]:=rfl;have F:di []=[]:=rfl;have E:dS []=[]:=rfl;rw[show((1:Nat):Int)=1 from rfl]at C g7;rw[show((12:Nat):Int)=12 from rfl]at W;rw[show((4:Nat):Int)=4 from rfl]at O Q;rw[show((6:Nat):Int)=6 from rfl]at Z g6;unfold zU zV;rw[a2];rw[aj xyO];simp only[aF]at I r3
 by_cases ht:(uR B 1 ⟨0,0⟩).1=21
 ·by_cases hb:eR B (hR B).2=0/\fj (oY B)=0
  ·rw[if_pos ⟨ht,hb⟩]
   rw[decide_eq_true hb]at L;simp only[a7];simp only[zR,mR,rdO,F,E,az]at g0 C W O Q Z g6 g7 I r3 o1 L;rw[ht]at C;simp only[go_sem,Qg,Qi,Qj,Qk,Ql,Qm,reduceCtorEq,reduceIte,g0,GH,C,rA,W,Jt,O,Q,Z,g6,g7,I,o1,r3,L]
  ·rw[if_neg (fun h=>hb h.2)]
   rw[decide_eq_false hb]at L;simp only[zR,mR,rdO,F,E,az]at g0 C W O Q Z g6 g7 I r3 o1 L;rw[ht]at C;simp only[go_sem,Qg,Qi,Qj,Qk,Ql,Qm,reduceCtorEq,reduceIte,g0,GH,C,rA,W,Jt,O,Q,Z,g6,g7,I,o1,r3,L];rcases q1 with⟨rfl,rfl,hz⟩|⟨rfl,rfl⟩<;>rcases r1 with⟨rfl,rfl,a8⟩|⟨rfl,rfl⟩<;>simp only[go_sem,F,E,mnz,Man.sv]
 ·rw[if_neg (fun h=>ht h.1)]
  simp only[rdO,az]at g0 C;simp only[go_sem,Qg,Qi,Qj,Qk,Ql,Qm,reduceCtorEq,reduceIte,g0,GH,C,rA,ht,mnz,Man.sv,F,E]
attribute [go_sem] sV sU
theorem nh{B:d9}{n:Nat}{s:Rs}(h:¬s.e=0):(uR B n s).2=s:=by unfold uR;rw[if_neg h]
theorem LD{B:d9}{n:Nat}{s:Rs}(h:¬s.e=0):(wR B n s).2=s:=by unfold wR;rw[if_neg h]
theorem UN{B:d9}{n:Nat}{s:Rs}(h:¬s.e=0):(bR B n s).2=s:=by unfold bR;rw[if_neg h]
theorem K5{B:d9}{s:Rs}(h:¬s.e=0):(jp B s).2=s:=by show(wR B 32 (uR B 4 (bR B 12 (uR B 1 s).2).2).2).2=s;rw[nh h,UN h,nh h,LD h]
theorem Kh{B:d9}{s:Rs}(h:¬s.e=0):(jm B s).2=s:=by show(uR B 4 (uR B 4 (bR B 32 (uR B 1 s).2).2).2).2=s;rw[nh h,UN h,nh h,nh h]
def gG(B:d9):Nat->List Ent->Rs->List Ent×Rs
 |0,es,s=>(es,s)
 |n+1,es,s=>gG B n (es++ [(jp B s).1]) (jp B s).2
def gA(B:d9):Nat->List Rul->Rs->List Rul×Rs
 |0,es,s=>(es,s)
 |n+1,es,s=>gA B n (es++ [(jm B s).1]) (jm B s).2
theorem uJ{B:d9}:∀{n:Nat}{es:List Ent}{s:Rs},¬s.e=0->(gG B n es s).2=s
 |0,_,_,_=>rfl
 |n+1,es,s,h=>by show(gG B n _ (jp B s).2).2=s;rw[K5 h];exact uJ h
theorem uh{B:d9}:∀{n:Nat}{es:List Rul}{s:Rs},¬s.e=0->(gA B n es s).2=s
 |0,_,_,_=>rfl
 |n+1,es,s,h=>by show(gA B n _ (jm B s).2).2=s;rw[Kh h];exact uh h
theorem l7{B:d9}:∀{n:Nat}{es:List Ent}{s:Rs},(gG B n es s).1.length=es.length+n
 |0,_,_=>rfl
 |n+1,es,s=>by show(gG B n _ _).1.length=_;rw[l7,ae,aG];omega
theorem lS{B:d9}:∀{n:Nat}{es:List Rul}{s:Rs},(gA B n es s).1.length=es.length+n
 |0,_,_=>rfl
 |n+1,es,s=>by show(gA B n _ _).1.length=_;rw[lS,ae,aG];omega
theorem zF{B:d9}:∀{n:Nat}{es:List Ent}{s:Rs},dU B s->dU B (gG B n es s).2
 |0,_,_,h=>h
 |n+1,es,s,h=>by show dU B (gG B n _ (jp B s).2).2;exact zF (qV h)
theorem yE{B:d9}:∀{n:Nat}{es:List Rul}{s:Rs},dU B s->dU B (gA B n es s).2
 |0,_,_,h=>h
 |n+1,es,s,h=>by show dU B (gA B n _ (jm B s).2).2;exact yE (pZ h)
theorem zG{B:d9}:∀{n:Nat}{es:List Ent}{s:Rs},(gG B n es s).2.e=0->eX B n es s=gG B n es s/\s.e=0
 |0,_,_,h=>⟨rfl,h⟩
 |n+1,es,s,h=>by
  by_cases y:s.e=0
  ·refine⟨?_,y⟩
   show(if s.e=0 then _ else _)=_;rw[if_pos y];exact(zG (n:=n) h).1
  ·rw[uJ y]at h;exact absurd h y
theorem rJ{B:d9}:∀{n:Nat}{es:List Rul}{s:Rs},(gA B n es s).2.e=0->eW B n es s=gA B n es s/\s.e=0
 |0,_,_,h=>⟨rfl,h⟩
 |n+1,es,s,h=>by
  by_cases y:s.e=0
  ·refine⟨?_,y⟩
   show(if s.e=0 then _ else _)=_;rw[if_pos y];exact(rJ (n:=n) h).1
  ·rw[uh y]at h;exact absurd h y
theorem zJ{B:d9}:∀{n:Nat}{es:List Ent}{s:Rs},(eX B n es s).2.e=0->eX B n es s=gG B n es s
 |0,_,_,_=>rfl
 |n+1,es,s,h=>by
  have u:eX B (n+1) es s=if s.e=0 then eX B n (es++ [(jp B s).1]) (jp B s).2 else(es,s):=rfl
  by_cases y:s.e=0
  ·rw[u,if_pos y]at h ⊢
   exact zJ h
  ·rw[u,if_neg y]at h;exact absurd h y
theorem yH{B:d9}:∀{n:Nat}{es:List Rul}{s:Rs},(eW B n es s).2.e=0->eW B n es s=gA B n es s
 |0,_,_,_=>rfl
 |n+1,es,s,h=>by
  have u:eW B (n+1) es s=if s.e=0 then eW B n (es++ [(jm B s).1]) (jm B s).2 else(es,s):=rfl
  by_cases y:s.e=0
  ·rw[u,if_pos y]at h ⊢
   exact yH h
  ·rw[u,if_neg y]at h;exact absurd h y
theorem xbi{B:d9}{n:Nat}{s:Rs}(h:(uR B n s).2.e=0):s.e=0:=by
 by_cases y:s.e=0
 ·exact y
 ·rw[nh y]at h;exact h
theorem VW{B:d9}{s:Rs}(h:eR B s=0):s.e=0:=by
 unfold eR at h;split at h
 ·assumption
 ·exact h
def qN(B:d9):Nat:=min (hN B).1.toNat 17
def qL(B:d9):List Ent×Rs:=gG B (qN B) [] (hN B).2
def qK(B:d9):Int×Rs:=uR B 1 (qL B).2
def qM(B:d9):Nat:=min (qK B).1.toNat 9
def qR(B:d9):List Rul×Rs:=gA B (qM B) [] (qK B).2
def s9(B:d9):Man:=⟨(hV B).1,(hE B).1,(hF B).1,(hM B).1,(hT B).1,(qL B).1,(qR B).1⟩
def okQ(B:d9):Prop:=(uR B 1 ⟨0,0⟩).1=21/\eR B (qR B).2=0/\fj (s9 B)=0
instance (B:List UInt8):Decidable (okQ B):=by unfold okQ;infer_instance
theorem xm6{B:d9}(h:okQ B):okP B/\s9 B=oY B:=by
 obtain⟨Z,F,E⟩:=h;obtain⟨L,Q⟩:=jR E;have O:=VW F;obtain⟨r1,J⟩:=rJ (B:=B) (n:=qM B) (es:=[]) (s:=(qK B).2) O;have T:=xbi (B:=B) (n:=1) (s:=(qL B).2) J;obtain⟨r3,r4⟩:=zG (B:=B) (n:=qN B) (es:=[]) (s:=(hN B).2) T;have l1:(qL B).1.length=0+qN B:=l7;have l2:(qR B).1.length=0+qM B:=lS
 have n1:qN B=(hN B).1.toNat:=by have:(qL B).1.length<=16:=L;have:qN B=min (hN B).1.toNat 17:=rfl;omega
 have I:hL B=qL B:=by show eX B (hN B).1.toNat [] (hN B).2=gG B (qN B) [] (hN B).2;rw[<-n1];exact r3
 have W:hK B=qK B:=by unfold hK qK;rw[I]
 have n2:qM B=(qK B).1.toNat:=by have:(qR B).1.length<=8:=Q;have:qM B=min (qK B).1.toNat 9:=rfl;omega
 have y:hR B=qR B:=by show eW B (hK B).1.toNat [] (hK B).2=gA B (qM B) [] (qK B).2;rw[W,<-n2];exact r1
 have C:s9 B=oY B:=by unfold s9 oY;rw[I,y]
 exact⟨⟨Z,by rw[y];exact F,by rw[<-C];exact E⟩,C⟩
theorem xqW{B:d9}(h:okP B):okQ B:=by
 obtain⟨h1,F,E⟩:=h;obtain⟨Q,W⟩:=jR E;have C:=VW F;have r1:=yH (B:=B) (n:=(hK B).1.toNat) (es:=[]) (s:=(hK B).2) C;have L:=(rJ (B:=B) (n:=(hK B).1.toNat) (es:=[]) (s:=(hK B).2) (by rw[<-r1];exact C)).2;have Z:=xbi (B:=B) (n:=1) (s:=(hL B).2) L;have r3:=zJ (B:=B) (n:=(hN B).1.toNat) (es:=[]) (s:=(hN B).2) Z
 have l1:(hL B).1.length=0+(hN B).1.toNat:=by show(eX B (hN B).1.toNat [] (hN B).2).1.length=_;rw[r3];exact l7
 have l2:(hR B).1.length=0+(hK B).1.toNat:=by show(eW B (hK B).1.toNat [] (hK B).2).1.length=_;rw[r1];exact lS
 have O:(hL B).1.length<=16:=Q;have a1:(hR B).1.length<=8:=W;have n1:qN B=(hN B).1.toNat:=by unfold qN;omega
 have I:qL B=hL B:=by show gG B (qN B) [] (hN B).2=eX B (hN B).1.toNat [] (hN B).2;rw[n1,r3]
 have J:qK B=hK B:=by unfold hK qK;rw[I]
 have n2:qM B=(hK B).1.toNat:=by unfold qM;rw[J];omega
 have y:qR B=hR B:=by show gA B (qM B) [] (qK B).2=eW B (hK B).1.toNat [] (hK B).2;rw[J,n2,r1]
 have T:s9 B=oY B:=by unfold s9 oY;rw[I,y]
 exact⟨h1,by rw[y];exact F,by rw[T];exact E⟩
theorem xaJ(B:d9):(if okQ B then some (s9 B)else none)=jU B:=by
 unfold jU
 by_cases h:okQ B
 ·obtain⟨y,C⟩:=xm6 h
  rw[if_pos h,if_pos y,C]
 ·rw[if_neg h,if_neg (fun k=>h (xqW k))]
theorem zH{B:d9}:∀{n:Nat}{es:List Ent}{s:Rs},(∀x∈es,x.name.length<=12/\x.dig.length<=32)->∀x∈(gG B n es s).1,x.name.length<=12/\x.dig.length<=32
 |0,_,_,h=>h
 |n+1,es,s,h=>zH (n:=n) fun x y=>by
  rcases am.1 y with y|y
  ·exact h x y
  ·rw[bq.1 y];exact⟨pF _ _ _,LC _ _ _⟩
theorem yF{B:d9}:∀{n:Nat}{es:List Rul}{s:Rs},(∀x∈es,x.text.length<=32)->∀x∈(gA B n es s).1,x.text.length<=32
 |0,_,_,h=>h
 |n+1,es,s,h=>yF (n:=n) fun x y=>by
  rcases am.1 y with y|y
  ·exact h x y
  ·rw[bq.1 y];exact pF _ _ _
theorem ZP(B:d9):dC (s9 B):=by
 have F:(qL B).1.length=0+qN B:=l7;have C:(qR B).1.length=0+qM B:=lS;have I:qN B=min (hN B).1.toNat 17:=rfl;have E:qM B=min (qK B).1.toNat 9:=rfl
 exact⟨by have:=pF B 12 (uR B 1 ⟨0,0⟩).2;show(hV B).1.length<=_;unfold hV;omega,by show(qL B).1.length<=_;omega,by show(qR B).1.length<=_;omega,
  fun x y=>by have:=zH (B:=B) (n:=qN B) (es:=[]) (s:=(hN B).2) (fun x y=>by cases y) x y;omega,
  fun x y=>by have:=yF (B:=B) (n:=qM B) (es:=[]) (s:=(qK B).2) (fun x y=>by cases y) x y;omega⟩
theorem xwF(B:d9)(hB:B.length<=1000000000)(v:d9)(ve fl fr ti W:Int)(N:Nat):∀(n i:Nat)(es:List Ent)(s:Rs)(t:Tok)(tk:t8),min N 17-i=n->i<=min N 17->es.length=i->dU B s->
 (t= .clip/\tk=[]/\es=[]\/t= .id 161/\tk=[161])->
 ∃(I:Tok)(tk':t8),(I= .clip/\tk'=[]/\(gG B n es s).1=[]\/I= .id 161/\tk'=[161])/\
  run T (.loop Cg) ⟨[(2,.ptr 102 0),(4,.ptr 15100 0),(5,.ptr 105 0),(6,.int .i64 W),(7,.int .i64 N),(8,.int .i64 i)],[(102,zR),(105,mR v ve fl fr ti es t [] .clip),(15100,rqO B s)],tk⟩=
   some (.x 0,⟨[(2,.ptr 102 0),(4,.ptr 15100 0),(5,.ptr 105 0),(6,.int .i64 W)],[(102,zR),(105,mR v ve fl fr ti (gG B n es s).1 I [] .clip),(15100,rqO B (gG B n es s).2)],tk'⟩):=by
 intro n;induction n with
 |zero=>
  intro i es s t tk h0 h1 hl h2 O;refine⟨t,tk,O, ?_⟩;unfold gG;rw[ai]
  by_cases Q:i<N
  ·have hI:¬(i:Int)<=16:=by omega
   rcases O with⟨rfl,rfl,rfl⟩|⟨rfl,rfl⟩<;>simp only[zR,mR,rqO]<;>simp only[go_sem,Qj,Ql,Qm,reduceIte,Q,hI]
  ·rcases O with⟨rfl,rfl,rfl⟩|⟨rfl,rfl⟩<;>simp only[zR,mR,rqO]<;>simp only[go_sem,Qj,Ql,Qm,reduceIte,Q]
 |succ n ih=>
  intro i es s t tk h0 h1 hl h2 O;have Q:i<N:=by omega
  have hI:(i:Int)<=16:=by omega
  have e1:=cr i (by omega);obtain⟨I,tk',q1,y⟩:=ih (i+1) (es++ [(jp B s).1]) (jp B s).2 (.id 161) [161] (by omega) (by omega) (by rw[ae,aG,hl]) (qV h2) (.inr ⟨rfl,rfl⟩);have hu:gG B (n+1) es s=gG B n (es++ [(jp B s).1]) (jp B s).2:=rfl;rw[hu];refine⟨I,tk',q1, ?_⟩;have hv:=dn es;have b1:(es.length+1)*56<=140737488355328:=by omega
  generalize gG B n (es++ [(jp B s).1]) (jp B s).2=Z at*;have k1:=eV (n:=1) h2;have E:=f94 B hB 1 (by omega) (by omega) s h2;unfold jp mR at y;rw[zN]at y;generalize uR B 1 s=p1 at*;obtain⟨x1,s1⟩:=p1;simp only at k1 E y;have k2:=rl (n:=12) k1;have L:=f95 B hB 12 (by omega) s1 k1;generalize bR B 12 s1=p2 at*;obtain⟨x2,s2⟩:=p2;simp only at k2 L y;have k3:=eV (n:=4) k2;have C:=f94 B hB 4 (by omega) (by omega) s2 k2;generalize uR B 4 s2=p3 at*;obtain⟨x3,s3⟩:=p3;simp only at k3 C y;have F:=f96 B hB 32 (by omega) s3 k3;generalize wR B 32 s3=p4 at*;obtain⟨x4,s4⟩:=p4;simp only at F y;rw[show((1:Nat):Int)=1 from rfl]at E;rw[show((12:Nat):Int)=12 from rfl]at L;rw[show((4:Nat):Int)=4 from rfl]at C;rw[show((32:Nat):Int)=32 from rfl]at F;simp only[zR,mR,rqO,Ent.sv]at E L C F y ⊢;rw[ai];rcases O with⟨rfl,rfl,rfl⟩|⟨rfl,rfl⟩
  ·have J:di []=[]:=rfl
   simp only[J,aF]at y ⊢;simp only[go_sem,Qg,Qi,Qj,Qk,Ql,Qm,reduceIte,Q,hI,e1,E,rz,L,GF,C,F,Jp,y]
  ·simp only[go_sem,Qg,Qi,Qj,Qk,Ql,Qm,reduceIte,Q,hI,e1,E,rz,L,GF,C,F,Jp,hv,b1,y]
theorem xwE(B:d9)(hB:B.length<=1000000000)(v:d9)(ve fl fr ti a1:Int)(N:Nat)(es:List Ent)(t2:Tok)(E:t8)(Q:t2= .clip/\E=[]/\es=[]\/t2= .id 161/\E=[161]):∀(n i:Nat)(rs:List Rul)(s:Rs)(t:Tok)(tk:t8),min N 9-i=n->i<=min N 9->rs.length=i->dU B s->
 (t= .clip/\tk=[]/\rs=[]\/t= .id 191/\tk=[191])->
 ∃(t':Tok)(tk':t8),(t'= .clip/\tk'=[]/\(gA B n rs s).1=[]\/t'= .id 191/\tk'=[191])/\
  run T (.loop Cf) ⟨[(2,.ptr 102 0),(4,.ptr 15100 0),(5,.ptr 105 0),(6,.int .i64 a1),(10,.int .i64 N),(11,.int .i64 i)],[(102,zR),(105,mR v ve fl fr ti es t2 rs t),(15100,rqO B s)],E++tk⟩=
   some (.x 2,⟨[(2,.ptr 102 0),(4,.ptr 15100 0),(5,.ptr 105 0),(6,.int .i64 a1)],[(102,zR),(105,mR v ve fl fr ti es t2 (gA B n rs s).1 t'),(15100,rqO B (gA B n rs s).2)],E++tk'⟩):=by
 intro n;induction n with
 |zero=>
  intro i rs s t tk h0 h1 hl h2 ht;refine⟨t,tk,ht, ?_⟩;unfold gA;rw[ai]
  by_cases O:i<N
  ·have W:¬(i:Int)<=8:=by omega
   rcases Q with⟨rfl,rfl,rfl⟩|⟨rfl,rfl⟩<;>rcases ht with⟨rfl,rfl,rfl⟩|⟨rfl,rfl⟩<;>simp only[zR,mR,rqO]<;>simp only[go_sem,Qj,Ql,Qm,reduceIte,O,W]
  ·rcases Q with⟨rfl,rfl,rfl⟩|⟨rfl,rfl⟩<;>rcases ht with⟨rfl,rfl,rfl⟩|⟨rfl,rfl⟩<;>simp only[zR,mR,rqO]<;>simp only[go_sem,Qj,Ql,Qm,reduceIte,O]
 |succ n ih=>
  intro i rs s t tk h0 h1 hl h2 ht;have O:i<N:=by omega
  have W:(i:Int)<=8:=by omega
  have e1:=cr i (by omega);obtain⟨t',tk',q1,y⟩:=ih (i+1) (rs++ [(jm B s).1]) (jm B s).2 (.id 191) [191] (by omega) (by omega) (by rw[ae,aG,hl]) (pZ h2) (.inr ⟨rfl,rfl⟩);have hu:gA B (n+1) rs s=gA B n (rs++ [(jm B s).1]) (jm B s).2:=rfl;rw[hu];refine⟨t',tk',q1, ?_⟩;have hv:=dM rs;have b1:(rs.length+1)*40<=140737488355328:=by omega
  generalize gA B n (rs++ [(jm B s).1]) (jm B s).2=Z at*;have k1:=eV (n:=1) h2;have I:=f94 B hB 1 (by omega) (by omega) s h2;unfold jm mR at y;rw[yL]at y;generalize uR B 1 s=p1 at*;obtain⟨x1,s1⟩:=p1;simp only at k1 I y;have k2:=rl (n:=32) k1;have L:=f95 B hB 32 (by omega) s1 k1;generalize bR B 32 s1=p2 at*;obtain⟨x2,s2⟩:=p2;simp only at k2 L y;have k3:=eV (n:=4) k2;have F:=f94 B hB 4 (by omega) (by omega) s2 k2;generalize uR B 4 s2=p3 at*;obtain⟨x3,s3⟩:=p3;simp only at k3 F y;have J:=f94 B hB 4 (by omega) (by omega) s3 k3;generalize uR B 4 s3=p4 at*;obtain⟨x4,s4⟩:=p4;simp only at J y;rw[show((1:Nat):Int)=1 from rfl]at I;rw[show((32:Nat):Int)=32 from rfl]at L;rw[show((4:Nat):Int)=4 from rfl]at F J;simp only[zR,mR,rqO,Rul.sv]at I L F J y ⊢;rw[ai];rcases Q with⟨rfl,rfl,rfl⟩|⟨rfl,rfl⟩<;>rcases ht with⟨rfl,rfl,rfl⟩|⟨rfl,rfl⟩
  ·have C:dS []=[]:=rfl
   simp only[C,aF]at y ⊢;simp only[go_sem,Qg,Qi,Qj,Qk,Ql,Qm,reduceIte,O,W,e1,I,rz,L,GF,F,J,y]
  ·simp only[aF]at y ⊢
   simp only[go_sem,Qg,Qi,Qj,Qk,Ql,Qm,reduceIte,O,W,e1,I,rz,L,GF,F,J,hv,b1,y]
  ·have C:dS []=[]:=rfl
   simp only[C,aF,bp]at y ⊢;simp only[go_sem,Qg,Qi,Qj,Qk,Ql,Qm,reduceIte,O,W,e1,I,rz,L,GF,F,J,y]
  ·simp only[bp,aF]at y ⊢
   simp only[go_sem,Qg,Qi,Qj,Qk,Ql,Qm,reduceIte,O,W,e1,I,rz,L,GF,F,J,hv,b1,y]
theorem xwm(B:d9)(L:B.length<=1000000000)(v:d9)(F fl C E y:Int)(es:List Ent)(s:Rs)(J:dU B s)(t:Tok)(tk:t8)(I:t= .clip/\tk=[]/\es=[]\/t= .id 161/\tk=[161]):
 run T (.ops sS) ⟨[(2,.ptr 102 0),(4,.ptr 15100 0),(5,.ptr 105 0),(6,.int .i64 y)],[(102,zR),(105,mR v F fl C E es t [] .clip),(15100,rqO B s)],tk⟩=
  some (.n,⟨[(2,.ptr 102 0),(4,.ptr 15100 0),(5,.ptr 105 0),(6,.int .i64 y),(10,.int .i64 (uR B 1 s).1)],[(102,zR),(105,mR v F fl C E es t [] .clip),(15100,rqO B (uR B 1 s).2)],tk⟩):=by
 have g:=f94 B L 1 (by omega) (by omega) s J;rw[show((1:Nat):Int)=1 from rfl]at g;simp only[zR,mR,rqO]at g ⊢;rcases I with⟨rfl,rfl,rfl⟩|⟨rfl,rfl⟩<;>simp only[go_sem,Qg,Qi,Qj,Qk,Ql,Qm,reduceIte,g,rz]
theorem xwl(B:d9)(Z:B.length<=1000000000)(v:d9)(C fl E F y:Int)(es:List Ent)(s:Rs)(W:dU B s)(t:Tok)(tk:t8)(rs:List Rul)(u:Tok)(J:t8)
 (Q:dC ⟨v,C,fl,E,F,es,rs⟩)
 (I:t= .clip/\tk=[]/\es=[]\/t= .id 161/\tk=[161]) (hu:u= .clip/\J=[]/\rs=[]\/u= .id 191/\J=[191]):
 run T (.ops sR) ⟨[(2,.ptr 102 0),(4,.ptr 15100 0),(5,.ptr 105 0),(6,.int .i64 y)],[(102,zR),(105,mR v C fl E F es t rs u),(15100,rqO B s)],tk++J⟩=
  some (.n,⟨[(2,.ptr 102 0),(5,.ptr 105 0),(104,.bool (!decide (y=21/\eR B s=0/\fj ⟨v,C,fl,E,F,es,rs⟩=0)))],[(102,zR),(105,mR v C fl E F es t rs u),(15100,rqO B s)],tk++J⟩):=by
 have g:=f97 B Z s W;have gm:=f62 ⟨v,C,fl,E,F,es,rs⟩ Q;generalize fj ⟨v,C,fl,E,F,es,rs⟩=q at*;generalize eR B s=p at*;simp only[zR,mR,rqO,Man.sv]at g gm ⊢
 by_cases hT:y=21
 ·subst hT
  by_cases L:p=0
  ·subst L
   by_cases O:q=0
   ·subst O
    rcases I with⟨rfl,rfl,rfl⟩|⟨rfl,rfl⟩<;>rcases hu with⟨rfl,rfl,rfl⟩|⟨rfl,rfl⟩<;>simp only[go_sem,Qg,Qi,Qj,Qk,Ql,Qm,reduceIte,g,GE,gm,xiB]
   ·rcases I with⟨rfl,rfl,rfl⟩|⟨rfl,rfl⟩<;>rcases hu with⟨rfl,rfl,rfl⟩|⟨rfl,rfl⟩<;>simp only[go_sem,Qg,Qi,Qj,Qk,Ql,Qm,reduceIte,g,GE,gm,xiB,O]
  ·rcases I with⟨rfl,rfl,rfl⟩|⟨rfl,rfl⟩<;>rcases hu with⟨rfl,rfl,rfl⟩|⟨rfl,rfl⟩<;>simp only[go_sem,Qg,Qi,Qj,Qk,Ql,Qm,reduceIte,g,GE,L]
 ·rcases I with⟨rfl,rfl,rfl⟩|⟨rfl,rfl⟩<;>rcases hu with⟨rfl,rfl,rfl⟩|⟨rfl,rfl⟩<;>simp only[go_sem,Qg,Qi,Qj,Qk,Ql,Qm,reduceIte,hT]
attribute [-go_sem] sS sR
theorem f52(B:d9)(y:B.length<=1000000000):call T 52 [.byt B .no] [] 0=some ⟨.tup [.agg (zU B).sv,.int .i64 (zV B)],[],[]⟩:=by
 have g0:=f93 B;have k0:dU B ⟨0,0⟩:=⟨aY _⟩;have g1:=f94 B y 1 (by omega) (by omega) ⟨0,0⟩ k0;have k1:=eV (n:=1) k0;have Q:=f95 B y 12 (by omega) _ k1;have k2:dU B (hV B).2:=rl (n:=12) k1;have J:=f94 B y 4 (by omega) (by omega) _ k2;have k3:dU B (hE B).2:=eV (n:=4) k2;have O:=f94 B y 4 (by omega) (by omega) _ k3;have k4:dU B (hF B).2:=eV (n:=4) k3;have W:=f94 B y 6 (by omega) (by omega) _ k4;have k5:dU B (hM B).2:=eV (n:=6) k4;have g6:=f94 B y 6 (by omega) (by omega) _ k5;have k6:dU B (hT B).2:=eV (n:=6) k5;have g7:=f94 B y 1 (by omega) (by omega) _ k6;have k7:dU B (hN B).2:=eV (n:=1) k6;have n1:=pC B (hT B).2;have n2:=pC B (qL B).2;change 0<=(hN B).1/\(hN B).1<256 at n1;change 0<=(qK B).1/\(qK B).1<256 at n2;have nn:(hN B).1=(((hN B).1.toNat:Nat):Int):=by omega
 have nk:(qK B).1=(((qK B).1.toNat:Nat):Int):=by omega
 obtain⟨F,tk',Z,L⟩:=xwF B y (hV B).1 (hE B).1 (hF B).1 (hM B).1 (hT B).1 (uR B 1 ⟨0,0⟩).1 (hN B).1.toNat (qN B) 0 [] (hN B).2 .clip [] rfl (aY _) rfl k7 (.inl ⟨rfl,rfl,rfl⟩);have k8:dU B (qL B).2:=zF k7;have k9:dU B (qK B).2:=eV (n:=1) k8;change (F= .clip/\tk'=[]/\(qL B).1=[]\/F= .id 161/\tk'=[161])at Z;obtain⟨u',a8,r1,r3⟩:=xwE B y (hV B).1 (hE B).1 (hF B).1 (hM B).1 (hT B).1 (uR B 1 ⟨0,0⟩).1 (qK B).1.toNat (qL B).1 F tk' Z (qM B) 0 [] (qK B).2 .clip [] rfl (aY _) rfl k9 (.inl ⟨rfl,rfl,rfl⟩);have a6:dU B (qR B).2:=yE k9;change _/\_/\(qR B).1=[]\/_ at r1;rw[<-nn]at L;rw[<-nk]at r3;have o1:=xwm B y (hV B).1 (hE B).1 (hF B).1 (hM B).1 (hT B).1 (uR B 1 ⟨0,0⟩).1 (qL B).1 (qL B).2 k8 F tk' Z;have I:=xwl B y (hV B).1 (hE B).1 (hF B).1 (hM B).1 (hT B).1 (uR B 1 ⟨0,0⟩).1 (qL B).1 (qR B).2 a6 F tk' (qR B).1 u' a8 (ZP B) Z r1;change run T _ _=some (Ex.x 0,⟨_,[_,(105,mR _ _ _ _ _ (qL B).1 F [] .clip),(15100,rqO B (qL B).2)],_⟩)at L;change run T _ _=some (Ex.x 2,⟨_,[_,(105,mR _ _ _ _ _ (qL B).1 F (qR B).1 u'),(15100,rqO B (qR B).2)],_⟩)at r3;change run T _ _=some (Ex.n,⟨[_,_,_,_,(10,SV.int .i64 (qK B).1)],[_,_,(15100,rqO B (qK B).2)],_⟩)at o1;change run T _ _=some (Ex.n,⟨[_,_,(104,SV.bool (!decide ((uR B 1 ⟨0,0⟩).1=21/\eR B (qR B).2=0/\fj (s9 B)=0)))],_,_⟩)at I;change call T 94 _ _ _=some ⟨.int .i64 (hE B).1,[(0,rqO B (hE B).2)],[]⟩at J;change call T 94 _ _ _=some ⟨.int .i64 (hF B).1,[(0,rqO B (hF B).2)],[]⟩at O;change call T 94 _ _ _=some ⟨.int .i64 (hM B).1,[(0,rqO B (hM B).2)],[]⟩at W
 change call T 94 _ _ _=some ⟨.int .i64 (hT B).1,[(0,rqO B (hT B).2)],[]⟩at g6;change call T 94 _ _ _=some ⟨.int .i64 (hN B).1,[(0,rqO B (hN B).2)],[]⟩at g7;change call T 95 _ _ _=some ⟨.byt (hV B).1 .no,[(0,rqO B (hV B).2)],[]⟩at Q
 have a1:jU B=if(uR B 1 ⟨0,0⟩).1=21/\eR B (qR B).2=0/\fj (s9 B)=0 then some (s9 B)else none:=by rw[<-xaJ];unfold okQ;rfl
 have a7:(s9 B).sv=[.str (hV B).1,.int .i64 (hE B).1,.int .i64 (hF B).1,.int .i64 (hM B).1,.int .i64 (hT B).1,.lst 4 (di (qL B).1) .no,.lst 4 (dS (qR B).1) .no]:=rfl;have E:di []=[]:=rfl;have C:dS []=[]:=rfl;rw[show((1:Nat):Int)=1 from rfl]at g1 g7;rw[show((12:Nat):Int)=12 from rfl]at Q;rw[show((4:Nat):Int)=4 from rfl]at J O;rw[show((6:Nat):Int)=6 from rfl]at W g6;unfold zU zV;rw[a1];rw[aj xyN];simp only[bA]at r3
 by_cases hb:(uR B 1 ⟨0,0⟩).1=21/\eR B (qR B).2=0/\fj (s9 B)=0
 ·rw[if_pos hb]
  rw[decide_eq_true hb]at I;simp only[a7];simp only[zR,mR,rqO,E,C,az]at g0 g1 Q J O W g6 g7 L r3 o1 I;simp only[go_sem,Qg,Qi,Qj,Qk,Ql,Qm,reduceCtorEq,reduceIte,g0,Jq,g1,rz,Q,GF,J,O,W,g6,g7,L,o1,r3,I]
  try (rcases Z with⟨rfl,rfl,hz⟩|⟨rfl,rfl⟩<;>rcases r1 with⟨rfl,rfl,a2⟩|⟨rfl,rfl⟩<;>simp only[go_sem,Q0,Q3,Q4,Q5,Q6,Q7,Q8,Q9,Qa,Qb,Qc,Qd,Qe,Qf,Qg,Qh,Qi,Qj,Qk,Ql,Qm,reduceCtorEq,reduceIte,E,C,mnz,Man.sv,hz,a2])
 ·rw[if_neg hb]
  rw[decide_eq_false hb]at I;simp only[zR,mR,rqO,E,C,az]at g0 g1 Q J O W g6 g7 L r3 o1 I;simp only[go_sem,Qg,Qi,Qj,Qk,Ql,Qm,reduceCtorEq,reduceIte,g0,Jq,g1,rz,Q,GF,J,O,W,g6,g7,L,o1,r3,I];rcases Z with⟨rfl,rfl,hz⟩|⟨rfl,rfl⟩<;>rcases r1 with⟨rfl,rfl,a2⟩|⟨rfl,rfl⟩<;>simp only[go_sem,E,C,mnz,Man.sv]
attribute [go_sem] sS sR
end Go.Proofs.YtbfnljmmepcbfaaGreatDoor
