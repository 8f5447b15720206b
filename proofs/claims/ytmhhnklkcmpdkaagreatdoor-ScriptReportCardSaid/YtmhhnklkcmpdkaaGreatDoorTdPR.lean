/- Contracts. No condition. -/
import Derived.Test.YtmhhnklkcmpdkaaGreatDoorTbPR
import Derived.Test.YtmhhnklkcmpdkaaGreatDoorTcPR
open Bool renaming and_eq_true -> aE, false_or -> gz, true_or -> qF
open Int renaming cast_ofNat_Int -> aN, natCast_zero -> ak
open Go.IntKind renaming i64 -> ah, u64 -> az, wrap_u64 -> dx
open List renaming append_assoc -> aI, append_nil -> bO, drop -> gT, drop_eq_getElem_cons -> bD, drop_length -> bx, drop_take -> Kd, drop_zero -> bw, flatMap_cons -> cA, getD_eq_getElem?_getD -> aa, getElem?_append_left -> cn, getElem?_append_right -> cO, getElem?_eq_getElem -> ac, getElem_mem -> aF, getElem_of_mem -> cr, length_append -> af, length_cons -> ai, length_map -> av, length_nil -> al, length_replicate -> cC, length_set -> bM, length_singleton -> aT, length_take -> aw, map_append -> b9, nil_append -> aA, replicate -> aB, take -> dq, take_length -> cG, take_zero -> eJ
open Nat renaming add_zero -> fJ, le_refl -> aM, lt_or_ge -> bq, mod_eq_of_lt -> ek, mul_comm -> dr, mul_le_mul_right -> cm, mul_one -> gI, zero_add -> de, zero_le -> aC
open UInt8 renaming ofInt -> aO
set_option maxRecDepth 100000
set_option maxHeartbeats 16000000
set_option linter.unusedSimpArgs false
set_option linter.unusedVariables false
noncomputable section
namespace Go.Proofs.YtmhhnklkcmpdkaaGreatDoor
open Go.Sy

structure Img where
 role:Int
 name:List UInt8
 ver:Int
 pay:List UInt8
def Img.sv(x:Img):LAa:=[iV x.role,.str x.name,iV x.ver,bN x.pay]
theorem xgX(s:t8)(hs:s.length<=1000000000000):∀(n i:Nat),s.length-i=n->i<=s.length->
 run T (.loop zx) ⟨[(0,.str s),(3,iV i)],[],[]⟩=if(s.drop i).all Pr.okc=true then some (.x 0,⟨[],[],[]⟩)else some (.r,⟨[(2,.bool false)],[],[]⟩):=by
 intro n;induction n with
 |zero=>
  intro i h0 h1;have hi:i=s.length:=by omega
  subst hi;rw[ab,bx];simp only[go_sem,simprocAttr]
 |succ n H=>
  intro i h0 h1;have hi:i<s.length:=by omega
  have C:=bJ i;have y:=H (i+1) (by omega) (by omega);rw[ab,eg s i hi,List.all_cons];unfold Pr.okc at y ⊢;generalize z:s.getD i 0=c at*;generalize List.all (gT (i+1) s) _=q at*
  by_cases F:c<97
  ·by_cases a3:c<48
   ·by_cases a5:c=45
    ·subst a5;simp only[go_sem,simprocAttr,hi,z,C,y]
    ·simp only[go_sem,simprocAttr,hi,z,F,a3,a5]
   ·by_cases a4:57<c
    ·by_cases a5:c=45
     ·subst a5;simp only[go_sem,simprocAttr,hi,z,C,y]
     ·simp only[go_sem,simprocAttr,hi,z,F,a3,a4,a5]
    ·simp only[go_sem,simprocAttr,hi,z,C,F,a3,a4,y]
  ·by_cases a2:122<c
   ·by_cases a3:c<48
    ·exact absurd a3 (by intro h;have:=UInt8.lt_trans a2 h;revert this;decide)
    ·by_cases a4:57<c
     ·by_cases a5:c=45
      ·subst a5;simp only[go_sem,simprocAttr,hi,z,C,y]
      ·simp only[go_sem,simprocAttr,hi,z,F,a2,a3,a4,a5]
     ·simp only[go_sem,simprocAttr,hi,z,C,F,a2,a3,a4,y]
   ·simp only[go_sem,simprocAttr,hi,z,C,F,a2,y]
theorem YX(s:t8)(hs:s.length<=1000000000000:=by omega):call T 179 [.str s] [] 0=okV (.bool (Pr.nameB s)):=by
 have h:=xgX s hs _ 0 rfl (by omega);simp only[ak,bw]at h;rw[ccT 179];unfold Pr.nameB
 by_cases h1:s.length<1
 ·have y:(s.length:Int)<1:=by omega
  simp only[go_sem,simprocAttr,h1,y]
 ·have y:¬(s.length:Int)<1:=by omega
  by_cases h2:12<s.length
  ·have z:(12:Int)<s.length:=by omega
   simp only[go_sem,simprocAttr,h1,y,h2,z]
  ·have z:¬(12:Int)<s.length:=by omega
   cases hq:s.all Pr.okc with
   |true=>rw[if_pos hq]at h;simp only[go_sem,simprocAttr,h1,y,h2,z,h]
   |false=>rw[if_neg (by rw[hq];simp)]at h;simp only[go_sem,simprocAttr,h1,y,h2,z,h]
def lnF:t8->List t8->t8->Option (List t8×t8)
 |[],o,l=>some (o,l)
 |c::r,o,l=>if c=10 then(if(l.length:Int)=0 then none else if(4:Int)<=o.length then none else lnF r (o++ [l]) [])else if c<32 then none else if 126<c then none else lnF r o (l++ [c])
def ic(p:t8):List t8:=match lnF p [] []with
 |some (o,l)=>if(0:Int)<l.length then []else o
 |none=> []
theorem tw(l:List t8):(bls l).length=l.length:=av ..
theorem TP(l:List t8)(d:t8):bls (l++ [d])=bls l++ [[bN d]]:=by simp[bls]
theorem xgM(H:Int)(F:t8)(I:Int)(p:t8)(Z:p.length<=1000000000000):∀(n i:Nat)(o:List t8)(l:t8),p.length-i=n->i<=p.length->l.length<=i->o.length<=4->
 run T (.loop rZ) ⟨[(1,.ptr 101 0),(3,.lst 1 (bls o) (.id 103)),(4,.byt l (.id 104)),(5,iV i)],[(101,.rc [iV H,.str F,iV I,bN p])],[103,104]⟩=
 match lnF (p.drop i) o l with
 |some (o',l')=>some (.x 0,⟨[(3,.lst 1 (bls o') (.id 103)),(4,.byt l' (.id 104))],[(101,.rc [iV H,.str F,iV I,bN p])],[103,104]⟩)
 |none=>some (.r,⟨[(2,.lst 1 [] .clip)],[(101,.rc [iV H,.str F,iV I,bN p])],[103,104]⟩):=by
 intro n;induction n with
 |zero=>
  intro i o l h0 h1 h2 h3;have hi:i=p.length:=by omega
  subst hi;rw[ab,bx];simp only[go_sem,simprocAttr,lnF]
 |succ n Q=>
  intro i o l h0 h1 h2 h3;have hi:i<p.length:=by omega
  have K:=bJ i;have J:=tw o;rw[ab,eg p i hi];unfold lnF;generalize z:p.getD i 0=c at*;have c1:l.length+1<=140737488355328:=by omega
  have c2:(o.length+1)*24<=140737488355328:=by omega
  by_cases C:c=10
  ·subst C
   by_cases a2:(l.length:Int)=0
   ·simp only[go_sem,simprocAttr,hi,z,a2]
   ·by_cases a3:(4:Int)<=o.length
    ·simp only[go_sem,simprocAttr,hi,z,a2,a3,J]
    ·have y:=Q (i+1) (o++ [l]) [] (by omega) (by omega) (by simp) (by rw[af,aT];omega)
     rw[TP]at y;simp only[go_sem,simprocAttr,hi,z,K,a2,a3,J,c2,y]
  ·have y:=Q (i+1) o (l++ [c]) (by omega) (by omega) (by rw[af,aT];omega) h3
   by_cases a2:c<32
   ·simp only[go_sem,simprocAttr,hi,z,C,a2]
   ·by_cases a3:126<c
    ·simp only[go_sem,simprocAttr,hi,z,C,a2,a3]
    ·simp only[go_sem,simprocAttr,hi,z,K,C,a2,a3,c1,y]
theorem xeU(x:Img)(C:x.pay.length<=1000000000000:=by omega):call T 203 [.agg x.sv] [] 0=okV (.lst 1 (bls (ic x.pay)) .no):=by
 obtain⟨H,z,F,p⟩:=x;have h:=xgM H z F p C _ 0 [] [] rfl (by omega) (by simp) (by simp);simp only[ak,bw]at h;have y:bls []=[]:=rfl;rw[y]at h;rw[ccT 203];unfold ic Img.sv;cases hq:lnF p [] []with
 |none=>rw[hq]at h;simp only[go_sem,simprocAttr,h,y]
 |some q=>
  obtain⟨o,l⟩:=q;rw[hq]at h
  by_cases h1:(0:Int)<l.length
  ·simp only[go_sem,simprocAttr,h,y,h1]
  ·simp only[go_sem,simprocAttr,h,h1]
def mu(x:Img):Int:=
 if x.role<1 then 1 else if 4<x.role then 1 else if x.ver<0 then 1 else if 1000000<x.ver then 1 else if Pr.nameB x.name=false then 43 else if(64:Int)<x.pay.length then 4 else if x.role=4 then(if((ic x.pay).length:Int)=0 then 40 else 0)else 0
theorem f166(x:Img)(hn:x.name.length<=1000000000000:=by omega)(Z:x.pay.length<=1000000000000:=by omega):call T 166 [.agg x.sv] [] 0=okV (iV (mu x)):=by
 have g1:=YX x.name hn;have C:=xeU x Z;obtain⟨F,Q,I,p⟩:=x;have K:=tw (ic p);simp only[Img.sv]at g1 C ⊢;rw[ccT 166];unfold mu
 by_cases y:F<1
 ·simp only[go_sem,simprocAttr,y]
 by_cases a2:4<F
 ·simp only[go_sem,simprocAttr,y,a2]
 by_cases a3:I<0
 ·simp only[go_sem,simprocAttr,y,a2,a3]
 by_cases a4:1000000<I
 ·simp only[go_sem,simprocAttr,y,a2,a3,a4]
 cases a5:Pr.nameB Q with
 |false=>rw[a5]at g1;simp only[go_sem,simprocAttr,y,a2,a3,a4,g1]
 |true=>
  rw[a5]at g1
  by_cases z:(64:Int)<p.length
  ·simp only[go_sem,simprocAttr,y,a2,a3,a4,g1,z]
  by_cases J:F=4
  ·subst J
   by_cases H:((ic p).length:Int)=0
   ·simp only[go_sem,simprocAttr,y,a2,a3,a4,g1,z,C,K,H]
   ·simp only[go_sem,simprocAttr,y,a2,a3,a4,g1,z,C,K,H]
  ·simp only[go_sem,simprocAttr,y,a2,a3,a4,g1,z,J]
def nF(v:Nat)(l:t8):Nat:=l.foldl (fun v b=>v*256+b.toNat) v
def nB(l:t8):Nat:=nF 0 l
theorem NP:∀(l:t8)(v k:Nat),v<256^k->nF v l<256^(k+l.length)
 |[],v,k,h=>h
 |b::r,v,k,h=>by
  have y:=b.toNat_lt
  have h2:v*256+b.toNat<256^(k+1):=by have:(v+1)*256<=256^k*256:=cm _ h;rw[Nat.pow_succ];omega
  have:=NP r (v*256+b.toNat) (k+1) h2;rw[ai,show k+(r.length+1)=k+1+r.length from by omega];exact this
theorem Uk(l:t8):nB l<256^l.length:=by have:=NP l 0 0 (by decide);rwa[de]at this
theorem Ly(l:t8)(h:l.length<=6):nB l<281474976710656:=by
 have h1:=Uk l;have h2:256^l.length<=256^6:=Nat.pow_le_pow_right (by decide) h;have h3:(256:Nat)^6=281474976710656:=by decide
 omega
theorem orW(v:Nat)(hv:v<1099511627776)(b:UInt8):cy .or .u64 (az.wrap ((v:Int)*2^min 8 64)) (b.toNat:Int)=((v*256+b.toNat:Nat):Int):=by
 have z:=b.toNat_lt;have p:((2:Int)^min 8 64)=256:=by decide
 have e:az.wrap ((v:Int)*2^min 8 64)=((v*256:Nat):Int):=by rw[p,dx];omega
 rw[e];unfold cy;simp only[BitVec.ofInt_natCast]
 have y:(BitVec.ofNat 64 (v*256)|||BitVec.ofNat 64 b.toNat).toNat=v*256+b.toNat:=by rw[BitVec.toNat_or,BitVec.toNat_ofNat,BitVec.toNat_ofNat,ek (by omega),ek (by omega)];have:=Nat.two_pow_add_eq_or_of_lt (i:=8) (b:=b.toNat) (by omega) v;rw[show(2:Nat)^8=256 from by decide]at this;rw[dr v 256,<-this]
 show az.wrap (((BitVec.ofNat 64 (v*256)|||BitVec.ofNat 64 b.toNat).toNat:Nat):Int)=_;rw[y,dx];omega
structure Rs where
 a:Nat
 e:Int
def uR(B:t8)(n:Nat)(s:Rs):Int×Rs:=if s.e=0 then(if s.a+n<=B.length then(((nB ((B.drop s.a).take n):Nat):Int),⟨s.a+n,0⟩)else(0,⟨s.a,2⟩))else(0,s)
def wR(B:t8)(n:Nat)(s:Rs):t8×Rs:=if s.e=0 then(if s.a+n<=B.length then((B.drop s.a).take n,⟨s.a+n,0⟩)else([],⟨s.a,2⟩))else([],s)
def bR(B:t8)(m:Nat)(s:Rs):t8×Rs:=
 if s.e=0 then(if s.a+2<=B.length then(if nB ((B.drop s.a).take 2)<=m then(if s.a+2+nB ((B.drop s.a).take 2)<=B.length then((B.drop (s.a+2)).take (nB ((B.drop s.a).take 2)),⟨s.a+(2+nB ((B.drop s.a).take 2)),0⟩)else([],⟨s.a,2⟩))else([],⟨s.a,4⟩))else([],⟨s.a,2⟩))else([],s)
def eR(B:t8)(s:Rs):Int:=if s.e=0 then(if s.a<B.length then 3 else 0)else s.e
structure jP(B:List UInt8)(s:Rs):Prop where
 a:s.a<=B.length
theorem jA{B:t8}{n:Nat}{s:Rs}(h:jP B s):jP B (uR B n s).2:=by
 unfold uR;split
 ·split
  ·rename_i h2;exact⟨h2⟩
  ·exact⟨h.a⟩
 ·exact h
theorem T2{B:t8}{n:Nat}{s:Rs}(h:jP B s):jP B (wR B n s).2:=by
 unfold wR;split
 ·split
  ·rename_i h2;exact⟨h2⟩
  ·exact⟨h.a⟩
 ·exact h
theorem tz{B:t8}{n:Nat}{s:Rs}(h:jP B s):jP B (bR B n s).2:=by
 unfold bR;split
 ·split
  ·split
   ·split
    ·rename_i h2;exact⟨by show s.a+(2+_)<=_;omega⟩
    ·exact⟨h.a⟩
   ·exact⟨h.a⟩
  ·exact⟨h.a⟩
 ·exact h
theorem xfR(x y:UInt8):cy .or .i64 (ah.wrap ((x.toNat:Int)*2^min 8 64)) (y.toNat:Int)=((nB [x,y]:Nat):Int):=by
 have H:=x.toNat_lt;have F:=y.toNat_lt;have p:((2:Int)^min 8 64)=256:=by decide
 have e:ah.wrap ((x.toNat:Int)*2^min 8 64)=((x.toNat*256:Nat):Int):=by rw[p,w64];omega
 rw[e];unfold cy;simp only[BitVec.ofInt_natCast]
 have C:(BitVec.ofNat 64 (x.toNat*256)|||BitVec.ofNat 64 y.toNat).toNat=x.toNat*256+y.toNat:=by rw[BitVec.toNat_or,BitVec.toNat_ofNat,BitVec.toNat_ofNat,ek (by omega),ek (by omega)];have:=Nat.two_pow_add_eq_or_of_lt (i:=8) (b:=y.toNat) (by omega) x.toNat;rw[show(2:Nat)^8=256 from by decide]at this;rw[dr x.toNat 256,<-this]
 show ah.wrap (((BitVec.ofNat 64 (x.toNat*256)|||BitVec.ofNat 64 y.toNat).toNat:Nat):Int)=_;have z:nB [x,y]=x.toNat*256+y.toNat:=by simp[nB,nF]
 rw[C,z,w64]
def tc(x:Img):t8:=if mu x=0 then fd (fd (be 1 (az.wrap x.role)++be 4 (az.wrap x.ver)) x.name) x.pay else []
theorem eW(B X:t8):(fd B X).length=B.length+2+min 65535 X.length:=by unfold fd;rw[af,af,jO,aw]
theorem A8(x:Img)(z:x.name.length<=1000000)(y:x.pay.length<=1000000):(tc x).length<=10000000:=by
 unfold tc;split
 ·rw[eW,eW,af,jO,jO];omega
 ·simp
theorem xfj(x:Img)(I:x.name.length<=1000000)(H:x.pay.length<=1000000):call T 101 [.agg x.sv] [] 0=okV (bN (tc x)):=by
 have g0:=f166 x;have g1:=f74 [] 1 x.role (by omega) (by omega) (by simp);have y:=f74 (be 1 (az.wrap x.role)) 4 x.ver (by omega) (by omega) (by rw[jO];omega);have g3:=og (be 1 (az.wrap x.role)++be 4 (az.wrap x.ver)) x.name (by rw[af,jO,jO];omega);have g4:=og (fd (be 1 (az.wrap x.role)++be 4 (az.wrap x.ver)) x.name) x.pay (by rw[eW,af,jO,jO];omega);simp only[aN,aA]at g1 y;obtain⟨F,z,C,p⟩:=x;simp only[Img.sv]at*;rw[ccT 101];unfold tc
 by_cases h:mu ⟨F,z,C,p⟩=0
 ·rw[h]at g0
  simp only[go_sem,simprocAttr,g0,g1,y,g3,g4,h]
 ·simp only[go_sem,simprocAttr,g0,h]
def rqO(B:t8)(s:Rs):aG:= .rc [bN B,iV s.a,iV s.e]
theorem UI(B:t8):call T 161 [bN B] [] 0=some ⟨.ptr 100 0,[(100,rqO B ⟨0,0⟩)],[]⟩:=by rw[ccT 161];unfold rqO;simp only[go_sem,simprocAttr,ak]
theorem MY(B:t8)(C:B.length<=1000000000)(s:Rs)(hs:jP B s)(n:Nat)(F:n<=1000000:=by omega):call T 234 [.ptr 0 0,iV n] [rqO B s] 0=
 if s.e=0 then(if s.a+n<=B.length then some ⟨.bool true,[(0,rqO B s)],[]⟩else some ⟨.bool false,[(0,rqO B ⟨s.a,2⟩)],[]⟩)else some ⟨.bool false,[(0,rqO B s)],[]⟩:=by
 have z:=hs.a;have y:ah.wrap ((B.length:Int)-(s.a:Int))=((B.length-s.a:Nat):Int):=by rw[w64];omega
 obtain⟨a,e⟩:=s;simp only[rqO]at y z ⊢;rw[ccT 234]
 by_cases h0:e=0
 ·subst h0
  rw[if_pos rfl]
  by_cases h:a+n<=B.length
  ·have h1:¬B.length-a<n:=by omega
   rw[if_pos h];simp only[go_sem,simprocAttr,y,h1]
  ·have h1:B.length-a<n:=by omega
   rw[if_neg h];simp only[go_sem,simprocAttr,y,h1]
 ·rw[if_neg h0]
  simp only[go_sem,simprocAttr,h0]
theorem xh7(B:t8)(z:B.length<=1000000000)(s:Rs)(hs:jP B s):call T 235 [.ptr 0 0] [rqO B s] 0=some ⟨iV ((B.length-s.a:Nat):Int),[(0,rqO B s)],[]⟩:=by
 have C:=hs.a;have y:ah.wrap ((B.length:Int)-(s.a:Int))=((B.length-s.a:Nat):Int):=by rw[w64];omega
 rw[ccT 235];simp only[rqO];simp only[go_sem,simprocAttr,y]
theorem f165(B:t8)(y:B.length<=1000000000)(s:Rs)(hs:jP B s):call T 165 [.ptr 0 0] [rqO B s] 0=some ⟨iV (eR B s),[(0,rqO B s)],[]⟩:=by
 have g:=xh7 B y s hs;rw[ccT 165];unfold eR;obtain⟨a,e⟩:=s;simp only[rqO]at g ⊢
 by_cases h0:e=0
 ·subst h0
  by_cases h:a<B.length
  ·have h1:(0:Int)<((B.length-a:Nat):Int):=by omega
   simp only[go_sem,simprocAttr,g,h,h1]
  ·have h1:¬(0:Int)<((B.length-a:Nat):Int):=by omega
   simp only[go_sem,simprocAttr,g,h,h1]
 ·simp only[go_sem,simprocAttr,h0]
theorem xg1(B:t8)(hB:B.length<=1000000000)(a n:Nat)(h6:n<=6)(Z:a+n<=B.length):∀(m i v:Nat),n-i=m->i<=n->v<256^i->
 run T (.loop pn) ⟨[(0,.ptr 0 0),(1,iV n),(5,.int .u64 v),(6,iV i)],[(0,rqO B ⟨a,0⟩)],[]⟩=
  some (.x 0,⟨[(0,.ptr 0 0),(1,iV n),(5,.int .u64 ((nF v ((B.drop (a+i)).take (n-i)):Nat):Int))],[(0,rqO B ⟨a,0⟩)],[]⟩):=by
 intro m;induction m with
 |zero=>
  intro i v h0 h1 h2;have:i=n:=by omega
  subst this;rw[Nat.sub_self,eJ,ab];simp only[rqO,go_sem,simprocAttr,nF,List.foldl_nil]
 |succ m J=>
  intro i v h0 h1 h2;have hi:i<n:=by omega
  have C:(i:Int)<(n:Int):=by omega
  have I:=bJ i;have Q:ah.wrap ((a:Int)+(i:Int))=((a+i:Nat):Int):=by rw[w64];omega
  have y:a+i<B.length:=by omega
  have hv:v<1099511627776:=by
   have:256^i<=256^5:=Nat.pow_le_pow_right (by decide) (by omega);have h3:(256:Nat)^5=1099511627776:=by decide
   omega
  have h3:=NP [B.getD (a+i) 0] v i h2;have z:=J (i+1) (v*256+(B.getD (a+i) 0).toNat) (by omega) (by omega) h3;have H:=orW v hv (B.getD (a+i) 0)
  have F:nF v ((B.drop (a+i)).take (n-i))=nF (v*256+(B.getD (a+i) 0).toNat) ((B.drop (a+(i+1))).take (n-(i+1))):=by rw[eg B (a+i) y,show n-i=n-(i+1)+1 from by omega,List.take_succ_cons];rfl
  rw[F];generalize K:B.getD (a+i) 0=c at*;rw[ab];simp only[rqO]at z ⊢;simp only[go_sem,simprocAttr,C,y,I,Q,K,H,z]
theorem qw(B:t8)(C:B.length<=1000000000)(n:Nat)(h1:1<=n)(J:n<=6)(s:Rs)(hs:jP B s):call T 162 [.ptr 0 0,iV n] [rqO B s] 0=some ⟨iV (uR B n s).1,[(0,rqO B (uR B n s).2)],[]⟩:=by
 have K:=hs.a;have g1:=MY B C s hs n;have I:((B.drop s.a).take n).length<=6:=by rw[aw];omega
 have z:=Ly _ I;have n1:¬(n:Int)<1:=by omega
 have n8:¬(8:Int)<n:=by omega
 have F:ah.wrap ((s.a:Int)+(n:Int))=((s.a+n:Nat):Int):=by rw[w64];omega
 rw[ccT 162];unfold uR
 by_cases h0:s.e=0
 ·rw[if_pos h0]at g1 ⊢
  obtain⟨a,e⟩:=s;simp only at h0 g1 F z;subst h0
  by_cases h:a+n<=B.length
  ·rw[if_pos h]at g1
   rw[if_pos h];have y:=xg1 B C a n J h _ 0 0 rfl (aC _) (by decide);rw[ak,fJ,Nat.sub_zero]at y;change run T _ _=some (Ex.x 0,⟨[(0,SV.ptr 0 0),(1,iV n),(5,SV.int .u64 ((nB ((B.drop a).take n):Nat):Int))],_,_⟩)at y;have m1:¬(9223372036854775808:Int)<=((nB ((B.drop a).take n):Nat):Int):=by omega
   have H:ah.wrap ((nB ((B.drop a).take n):Nat):Int)=((nB ((B.drop a).take n):Nat):Int):=w64;generalize nB ((B.drop a).take n)=V at*;simp only[rqO]at y g1 ⊢;simp only[go_sem,simprocAttr,n1,n8,g1,y,m1,H,F]
  ·rw[if_neg h]at g1
   rw[if_neg h];simp only[rqO]at g1 ⊢;simp only[go_sem,simprocAttr,n1,n8,g1]
 ·rw[if_neg h0]
  obtain⟨a,e⟩:=s;simp only at h0;simp only[rqO];simp only[go_sem,simprocAttr,h0]
theorem Ia(B:t8)(hB:B.length<=1000000000)(m:Nat)(hm:m<=65535)(s:Rs)(hs:jP B s):call T 164 [.ptr 0 0,iV m] [rqO B s] 0=some ⟨.byt (bR B m s).1 .no,[(0,rqO B (bR B m s).2)],[]⟩:=by
 have ha:=hs.a;have g1:=MY B hB s hs 2;rw[show((2:Nat):Int)=2 from rfl]at g1;rw[ccT 164];unfold bR
 by_cases h0:s.e=0
 ·rw[if_pos h0]at g1 ⊢
  obtain⟨a,e⟩:=s;simp only at h0 g1 ha;subst h0
  by_cases h:a+2<=B.length
  ·rw[if_pos h]at g1
   rw[if_pos h]
   have J:(B.drop a).take 2=[B.getD a 0,B.getD (a+1) 0]:=by rw[eg B a,eg B (a+1)];rfl
   simp only[J];have K:=xfR (B.getD a 0) (B.getD (a+1) 0)
   have hn:nB [B.getD a 0,B.getD (a+1) 0]<65536:=by
    have:=Uk [B.getD a 0,B.getD (a+1) 0];have p:(256:Nat)^ [B.getD a 0,B.getD (a+1) 0].length=65536:=by show(256:Nat)^2=65536;decide
    omega
   have H:=bJ a;have a0:a<B.length:=by omega
   have a1:a+1<B.length:=by omega
   generalize hx:B.getD a 0=x at*;generalize Q:B.getD (a+1) 0=y at*;have e2:ah.wrap (2+((nB [x,y]:Nat):Int))=((2+nB [x,y]:Nat):Int):=by rw[w64];omega
   have e3:ah.wrap ((a:Int)+((2+nB [x,y]:Nat):Int))=((a+(2+nB [x,y]):Nat):Int):=by rw[w64];omega
   have e4:ah.wrap (((a+(2+nB [x,y]):Nat):Int)-((nB [x,y]:Nat):Int))=((a+2:Nat):Int):=by rw[w64];omega
   have g3:=MY B hB ⟨a,0⟩ ⟨by show a<=_;omega⟩ (2+nB [x,y]);rw[if_pos rfl]at g3;simp only at g3;have h3:∀n,(B.take (a+(2+n))).drop (a+2)=(B.drop (a+2)).take n:=fun n=>by rw[Kd];congr 1;omega
   have Z:=h3 (nB [x,y]);generalize nB [x,y]=n at*;have hX:0+((B.drop (a+2)).take n).length<=140737488355328:=by rw[aw];omega
   have I:((B.drop (a+2)).take n).length<=140737488355328:=by rw[aw];omega
   have h4:a+2<=a+(2+n):=by omega
   by_cases hq:n<=m
   ·have C:¬(m:Int)<(n:Int):=by omega
    have F:¬m<n:=by omega
    rw[if_pos hq]
    by_cases hr:a+2+n<=B.length
    ·have z:a+(2+n)<=B.length:=by omega
     rw[if_pos z]at g3;rw[if_pos hr];simp only[rqO]at g1 g3 ⊢;simp only[go_sem,simprocAttr,g1,hx,Q,K,a0,a1,H,C,g3,e2,e3,e4,h4,z,Z,I]
    ·have z:¬a+(2+n)<=B.length:=by omega
     rw[if_neg z]at g3;rw[if_neg hr];simp only[rqO]at g1 g3 ⊢;simp only[go_sem,simprocAttr,g1,hx,Q,K,a0,a1,H,C,g3,e2]
   ·have C:(m:Int)<(n:Int):=by omega
    have F:m<n:=by omega
    rw[if_neg hq];simp only[rqO]at g1 ⊢;simp only[go_sem,simprocAttr,g1,hx,Q,K,a0,a1,H,C]
  ·rw[if_neg h]at g1
   rw[if_neg h];simp only[rqO]at g1 ⊢;simp only[go_sem,simprocAttr,g1]
 ·rw[if_neg h0]
  obtain⟨a,e⟩:=s;simp only at h0;simp only[rqO];simp only[go_sem,simprocAttr,h0]
def prn:t8->Bool
 |[]=>true
 |c::r=>if c<32 then false else if 126<c then false else prn r
def chk(k:Int)(t:t8)(lo hi:Int):Int:=
 if k<1 then 1 else if 4<k then 1 else if prn t then
  (if k=4 then(if lo<0 then 1 else if hi<lo then 1 else if 1000000000<hi then 1 else if 32<t.length then 4 else 0)
   else if lo=0 then(if hi=0 then(if k=1 then(if t=[]then 0 else 1)else if 32<t.length then 4 else 0)else 1)else 1)
 else 1
theorem xgW(k:Int)(t:t8)(lo hi:Int)(F:t.length<=1000000000000):∀(n i:Nat),t.length-i=n->i<=t.length->
 run T (.loop zw) ⟨[(1,.ptr 101 0),(3,iV i)],[(101,.rc [iV k,.str t,iV lo,iV hi])],[]⟩=
 if prn (t.drop i)then some (.x 0,⟨[(1,.ptr 101 0)],[(101,.rc [iV k,.str t,iV lo,iV hi])],[]⟩)
 else some (.r,⟨[(2,iV 1)],[(101,.rc [iV k,.str t,iV lo,iV hi])],[]⟩):=by
 intro n;induction n with
 |zero=>
  intro i h0 h1;have hi:i=t.length:=by omega
  subst hi;rw[ab];simp only[go_sem,simprocAttr,bx,prn]
 |succ n C=>
  intro i h0 h1;have hi:i<t.length:=by omega
  have z:=bJ i;have y:=C (i+1) (by omega) (by omega);rw[ab,eg t i hi]
  by_cases h2:t.getD i 0<32
  ·simp only[go_sem,simprocAttr,hi,prn,h2]
  ·by_cases h3:126<t.getD i 0
   ·simp only[go_sem,simprocAttr,hi,prn,h2,h3]
   ·simp only[go_sem,simprocAttr,hi,z,prn,h2,h3,y]
theorem vH{s:t8}(h:Pr.nameB s=true):1<=s.length/\s.length<=12:=by
 unfold Pr.nameB at h;split at h
 ·cases h
 ·omega
theorem H3{x:Img}(h:mu x=0):1<=x.role/\x.role<=4/\0<=x.ver/\x.ver<=1000000/\Pr.nameB x.name=true/\x.pay.length<=64:=by
 unfold mu at h
 repeat' split at h
 all_goals first|omega|skip
 all_goals (cases y:Pr.nameB x.name with
  |true=>exact⟨by omega,by omega,by omega,by omega,rfl,by omega⟩
  |false=>simp_all)
theorem zN{x:Img}(h:mu x=0):x.name.length<=1000000/\x.pay.length<=1000000:=by obtain⟨_,_,_,_,h1,h2⟩:=H3 h;have:=vH h1;omega
def gK(l:List Img):f9:=l.map Img.sv
def im0:Img:=⟨0,[],0,[]⟩
theorem gC(l:List Img):(gK l).length=l.length:=av ..
theorem jt(l:List Img)(i:Nat)(h:i<l.length):(gK l).getD i []=(l.getD i im0).sv:=by simp[gK,aa,h]
structure dZ(l:List Img):Prop where
 n1:1<=l.length
 n8:l.length<=8
 ok:∀i,i<l.length->mu (l.getD i im0)=0
 ord:∀i,i+1<l.length->(l.getD i im0).role<=(l.getD (i+1) im0).role
 dup:∀i,i<l.length->∀k,k<i->(l.getD k im0).role=(l.getD i im0).role->(l.getD k im0).name≠(l.getD i im0).name
 fw:∃i,i<l.length/\(l.getD i im0).role=1
 kn:∃i,i<l.length/\(l.getD i im0).role=3
def bu(k:Nat)(v:Int):t8:=be k (az.wrap v)
theorem ug(l:List t8):(bls l).length=l.length:=av ..
theorem kL(l:List t8)(i:Nat)(h:i<l.length:=by omega):(bls l).getD i []=[bN (l.getD i [])]:=by simp[bls,aa,h]
def wrE(e:Ev):Bool:=decide (0<=e.reg/\e.reg<=11/\1<=e.kind/\e.kind<=5/\e.data.length<=64/\e.dg.length=2/\(e.dg.getD 0 []).length<=32/\(e.dg.getD 1 []).length<=32)
theorem xeE(e:Ev):call T 310 [.agg e.sv] [] 0=okV (.bool (wrE e)):=by
 have hv:=ug e.dg;rw[ccT 310]
 by_cases h1:e.reg<0
 ·have y:wrE e=false:=by unfold wrE;rw[decide_eq_false_iff_not];omega
  rw[y];unfold Ev.sv;simp only[go_sem,simprocAttr,h1]
 by_cases h2:(11:Int)<e.reg
 ·have y:wrE e=false:=by unfold wrE;rw[decide_eq_false_iff_not];omega
  rw[y];unfold Ev.sv;simp only[go_sem,simprocAttr,h1,h2]
 by_cases h3:e.kind<1
 ·have y:wrE e=false:=by unfold wrE;rw[decide_eq_false_iff_not];omega
  rw[y];unfold Ev.sv;simp only[go_sem,simprocAttr,h1,h2,h3]
 by_cases h4:(5:Int)<e.kind
 ·have y:wrE e=false:=by unfold wrE;rw[decide_eq_false_iff_not];omega
  rw[y];unfold Ev.sv;simp only[go_sem,simprocAttr,h1,h2,h3,h4]
 by_cases z:(64:Int)<(e.data.length:Int)
 ·have y:wrE e=false:=by unfold wrE;rw[decide_eq_false_iff_not];omega
  rw[y];unfold Ev.sv;simp only[go_sem,simprocAttr,h1,h2,h3,h4,z]
 by_cases F:e.dg.length=2
 ·have g0:=kL e.dg 0
  have g1:=kL e.dg 1;have c0:0<e.dg.length:=by omega
  have c1:1<e.dg.length:=by omega
  by_cases H:((e.dg.getD 0 []).length:Int)<=32
  ·by_cases I:((e.dg.getD 1 []).length:Int)<=32
   ·have y:wrE e=true:=by unfold wrE;rw[decide_eq_true_iff];omega
    rw[y];unfold Ev.sv;simp only[go_sem,simprocAttr,hv,h1,h2,h3,h4,z,F,g0,g1,H,I]
   ·have y:wrE e=false:=by unfold wrE;rw[decide_eq_false_iff_not];omega
    rw[y];unfold Ev.sv;simp only[go_sem,simprocAttr,hv,h1,h2,h3,h4,z,F,g0,g1,H,I]
  ·have y:wrE e=false:=by unfold wrE;rw[decide_eq_false_iff_not];omega
   rw[y];unfold Ev.sv;simp only[go_sem,simprocAttr,hv,h1,h2,h3,h4,z,F,g0,H]
 ·have y:wrE e=false:=by unfold wrE;rw[decide_eq_false_iff_not];omega
  have C:¬(e.dg.length:Int)=2:=by omega
  rw[y];unfold Ev.sv;simp only[go_sem,simprocAttr,hv,h1,h2,h3,h4,z,C]
def bL(f s:Int)(l:List Ev):LAa:=[iV f,iV s,.lst 4 (fA l) .no]
theorem xe3(B:t8)(I:B.length<=1000000000)(n:Nat)(H:n<=1000000)(s:Rs)(hs:jP B s):call T 176 [.ptr 0 0,iV n] [rqO B s] 0=some ⟨.byt (wR B n s).1 .no,[(0,rqO B (wR B n s).2)],[]⟩:=by
 have J:=hs.a;have g1:=MY B I s hs n H;have n1:¬(n:Int)<0:=by omega
 have z:ah.wrap ((s.a:Int)+(n:Int))=((s.a+n:Nat):Int):=by rw[w64];omega
 have C:ah.wrap (((s.a+n:Nat):Int)-(n:Int))=(s.a:Int):=by rw[w64];omega
 have F:0+((B.drop s.a).take n).length<=140737488355328:=by rw[aw];omega
 have y:((B.drop s.a).take n).length<=140737488355328:=by rw[aw];omega
 have h3:(B.take (s.a+n)).drop s.a=(B.drop s.a).take n:=by rw[Kd];congr 1;omega
 have h4:s.a<=s.a+n:=by omega
 rw[ccT 176];unfold wR
 by_cases h0:s.e=0
 ·rw[if_pos h0]at g1 ⊢
  obtain⟨a,e⟩:=s;simp only at h0 g1 z C F y h3 h4;subst h0
  by_cases h:a+n<=B.length
  ·rw[if_pos h]at g1
   rw[if_pos h];simp only[rqO]at g1 ⊢;simp only[go_sem,simprocAttr,n1,g1,z,C,h4,h,h3,y]
  ·rw[if_neg h]at g1
   rw[if_neg h];simp only[rqO]at g1 ⊢;simp only[go_sem,simprocAttr,n1,g1]
 ·rw[if_neg h0]
  obtain⟨a,e⟩:=s;simp only at h0;simp only[rqO];simp only[go_sem,simprocAttr,h0]
theorem JY(t:t8):((32:Int)<(t.length:Int))↔32<t.length:=by omega
theorem xe2(k:Int)(t:t8)(lo hi:Int)(z:t.length<=1000000000000:=by omega):call T 180 [.agg [iV k,.str t,iV lo,iV hi]] [] 0=okV (iV (chk k t lo hi)):=by
 rw[ccT 180];have h:=xgW k t lo hi z _ 0 rfl (by omega);simp only[ak,bw]at h;unfold chk
 by_cases c1:k<1
 ·simp only[go_sem,simprocAttr,c1]
 by_cases c2:4<k
 ·simp only[go_sem,simprocAttr,c1,c2]
 cases c3:prn t with
 |false=>simp only[go_sem,simprocAttr,h,c1,c2,c3]
 |true=>
  by_cases c4:k=4
  ·subst c4
   by_cases c5:lo<0
   ·simp only[go_sem,simprocAttr,h,c3,c5]
   by_cases c6:hi<lo
   ·simp only[go_sem,simprocAttr,h,c3,c5,c6]
   by_cases y:1000000000<hi
   ·simp only[go_sem,simprocAttr,h,c3,c5,c6,y]
   by_cases c8:32<t.length
   ·simp only[go_sem,simprocAttr,h,c3,c5,c6,y,c8,JY]
   ·simp only[go_sem,simprocAttr,h,c3,c5,c6,y,c8,JY]
  ·by_cases c5:lo=0
   ·subst c5
    by_cases c6:hi=0
    ·subst c6
     by_cases y:k=1
     ·subst y
      by_cases c8:t=[]
      ·subst c8
       try simp only[al,ak]at h
       simp only[go_sem,simprocAttr,h,c3,al,ak]
      ·simp only[go_sem,simprocAttr,h,c3,c8]
     ·by_cases c8:32<t.length
      ·simp only[go_sem,simprocAttr,h,c1,c2,c3,c4,y,c8,JY]
      ·simp only[go_sem,simprocAttr,h,c1,c2,c3,c4,y,c8,JY]
    ·simp only[go_sem,simprocAttr,h,c1,c2,c3,c4,c6]
   ·simp only[go_sem,simprocAttr,h,c1,c2,c3,c4,c5]
def lR(y:LAb):t8:=y.flatMap fun t=>gq t++ [10]
theorem I0(y:LAb)(t:Nat):lR (y++ [t])=lR y++(gq t++ [10]):=by simp[lR]
theorem mL(t:Nat):(gq t).length<=8:=by unfold gq;split<;>simp
theorem AL(y:LAb):(lR y).length<=9*y.length:=by
 induction y with
 |nil=>simp[lR]
 |cons t r z=>rw[lR,cA,af,af,ai,ai,al];have:=mL t;unfold lR at z;omega
theorem LF(t:Nat)(r:t8)(o:List t8)(y:o.length<4:=by omega):lnF (gq t++10::r) o []=lnF r (o++ [gq t]) []:=by
 have h:¬(4:Int)<=o.length:=by omega
 unfold gq;split<;>simp[lnF,h]
theorem HY:∀(y:LAb)(o:List t8),o.length+y.length<=4->lnF (lR y) o []=some (o++y.map gq,[])
 |[],o,_=>by simp[lR,lnF]
 |t::r,o,h=>by
  rw[ai]at h;have e:lR (t::r)=gq t++10::lR r:=by simp[lR]
  rw[e,LF t _ o,HY r _ (by rw[af,aT];omega)];simp
theorem Cc(y:LAb)(h:y.length<=4):ic (lR y)=y.map gq:=by unfold ic;rw[HY y [] (by simpa using h)];simp
theorem xg3(B:t8)(Q:B.length<=1000):∀(k:Nat)(y:LAb)(j:Nat),k<=4->y.length+k<=100->∃us C,us.length=k/\
 run T (.loop zD) ⟨[(0,.ptr 0 0),(3,.byt (lR y) (.id 103)),(4,iV k)],[(0,bE B j)],[103]⟩=some (.x 0,⟨[(3,.byt (lR (y++us)) (.id 103))],[(0,bE B C)],[103]⟩):=by
 intro k;induction k with
 |zero=>intro y j h1 h2;refine⟨[],j,rfl, ?_⟩;rw[ab,bO];simp only[go_sem,simprocAttr]
 |succ k K=>
  intro y j h1 h2;obtain⟨us,C,H,z⟩:=K (y++ [cH B j 6]) (bF B j) (by omega) (by rw[af,aT];omega);refine⟨cH B j 6::us,C,by rw[ai,H], ?_⟩;have g:=xe9 B j Q;have Z:=AL y;have I:=mL (cH B j 6);have J:ah.wrap (((k+1:Nat):Int)-1)=(k:Int):=by rw[w64];omega
  have F:(0:Int)<((k+1:Nat):Int):=by omega
  have c1:(lR y).length+(gq (cH B j 6)).length<=140737488355328:=by omega
  have c2:(lR y).length+(gq (cH B j 6)).length+1<=140737488355328:=by omega
  rw[I0]at z;rw[show y++cH B j 6::us=y++ [cH B j 6]++us from by simp];rw[ab];simp only[bE]at g z ⊢;simp only[go_sem,simprocAttr,F,g,c1,c2,J,z]
theorem xir(B:t8)(i:Nat)(C:B.length<=1000):∃y j,1<=y.length/\y.length<=4/\call T 145 [.ptr 0 0] [bE B i] 0=some ⟨bN (lR y),[(0,bE B j)],[]⟩:=by
 have g:=f15 B i 4;have hv:=dS B i 4;obtain⟨us,j,F,h⟩:=xg3 B C (1+cH B i 4) [] (bF B i) (by omega) (by simp only[al];omega);have e:ah.wrap (1+((cH B i 4:Nat):Int))=((1+cH B i 4:Nat):Int):=by rw[w64];omega
 refine⟨us,j,by omega,by omega, ?_⟩;have z:lR []=[]:=rfl;rw[z,aA]at h;rw[cz4]at g;simp only[bE]at g h ⊢;rw[ccT 145];simp only[go_sem,simprocAttr,g,e,h]
def gW:Nat->t8
 |0=> [97]
 |1=> [103,114,117,98]
 |2=> [108,105,110,117,120]
 |3=> [110,101,116,45,48]
 |_=> [116,119,101,108,118,101,45,98,121,116,101,115]
theorem xis:call T 144 [] [] 0=okV (.agg [.str (gW 0),.str (gW 1),.str (gW 2),.str (gW 3),.str (gW 4)]):=by rw[ccT 144];simp only[go_sem,simprocAttr,gW]
theorem Lx:∀v,v<5->Pr.nameB (gW v)=true:=by decide
theorem l75(B:t8)(Q:B.length<=1000)(role H:Int)(F:t8):∀(n i:Nat)(l:t8)(j:Nat),l.length-i=n->i<=l.length->l.length<=6->∃y z,y.length=l.length/\
 run T (.loop uv) ⟨[(0,.ptr 0 0),(4,.ptr 104 0),(5,.ptr 105 0),(6,iV i)],[(0,bE B j),(104,.rc [iV 0,.str [],iV 0,.byt [] .clip]),(105,.rc [iV role,.str F,iV H,.psl 130 1 0 l.length (some l.length)]),(130,.bar l)],[]⟩=
  some (.x 0,⟨[(4,.ptr 104 0),(5,.ptr 105 0)],[(0,bE B z),(104,.rc [iV 0,.str [],iV 0,.byt [] .clip]),(105,.rc [iV role,.str F,iV H,.psl 130 1 0 l.length (some l.length)]),(130,.bar y)],[]⟩):=by
 intro n;induction n with
 |zero=>
  intro i l j h0 h1 h2;have:i=l.length:=by omega
  refine⟨l,j,rfl, ?_⟩;subst this;rw[ab];simp only[go_sem,simprocAttr]
 |succ n K=>
  intro i l j h0 h1 h2;have hi:i<l.length:=by omega
  have J:=bJ i;have g:=f15 B j 256;rw[xiO]at g;obtain⟨y,z,I,C⟩:=K (i+1) (l.set i (aO ((cH B j 256:Nat):Int))) (bF B j) (by rw[bM];omega) (by rw[bM];omega) (by rw[bM];omega);rw[bM]at I C;refine⟨y,z,I, ?_⟩;rw[ab];simp only[bE]at g C ⊢;simp only[go_sem,simprocAttr,hi,J,g,C]
theorem f75(B:t8)(j:Nat)(hB:B.length<=1000)(role:Int)(h1:1<=role)(h4:role<=4):∃(x:Img)(F:Nat),mu x=0/\x.role=role/\
 call T 75 [.ptr 0 0,iV role] [bE B j] 0=some ⟨.agg x.sv,[(0,bE B F)],[]⟩:=by
 have g1:=xis;have g2:=f15 B j 5;have v2:=dS B j 5;have g3:=f15 B (bF B j) 5;have v3:=dS B (bF B j) 5;have g4:=f15 B (bF B (bF B j)) 9;have g5:=f15 B (bF B (bF B (bF B j))) 3;have v5:=dS B (bF B (bF B (bF B j))) 3;rw[cz5]at g2 g3;rw[c9]at g4;rw[cz3]at g5;generalize cH B j 5=y at*;generalize cH B (bF B j) 5=w3 at*;generalize cH B (bF B (bF B j)) 9=w4 at*;generalize cH B (bF B (bF B (bF B j))) 3=w5 at*;simp only[bE]at g2 g3 g4 g5
 have hN:(gT y [SV.str (gW 0),.str (gW 1),.str (gW 2),.str (gW 3),.str (gW 4)]).getD 0 .undef= .str (gW y):=by
  have hn:y=0\/y=1\/y=2\/y=3\/y=4:=by omega
  rcases hn with rfl|rfl|rfl|rfl|rfl<;>rfl
 have J:(y:Int)<5:=by omega
 have em:y*1=y:=gI _;have a6:=Lx y v2;have ew:ah.wrap (1000000-(w5:Int))=1000000-(w5:Int):=w64
 have key:∀(I:Nat)(C:Int),0<=C->C<=1000000->∃(x:Img)(F:Nat),mu x=0/\x.role=role/\x.name=gW y/\x.ver=C/\
  (role=4->call T 145 [.ptr 0 0] [bE B I] 0=some ⟨bN x.pay,[(0,bE B F)],[]⟩)/\
  (¬role=4->∃(j1 n:Nat),n<7/\call T 15 [.ptr 0 0,iV 7] [bE B I] 0=some ⟨iV (n:Int),[(0,bE B j1)],[]⟩/\x.pay.length=n/\
   run T (.loop uv) ⟨[(0,.ptr 0 0),(4,.ptr 104 0),(5,.ptr 105 0),(6,iV 0)],[(0,bE B j1),(104,.rc [iV 0,.str [],iV 0,.byt [] .clip]),(105,.rc [iV role,.str (gW y),iV C,.psl 130 1 0 n (some n)]),(130,.bar (aB n 0))],[]⟩=
    some (.x 0,⟨[(4,.ptr 104 0),(5,.ptr 105 0)],[(0,bE B F),(104,.rc [iV 0,.str [],iV 0,.byt [] .clip]),(105,.rc [iV role,.str (gW y),iV C,.psl 130 1 0 n (some n)]),(130,.bar x.pay)],[]⟩)):=by
  intro I C hv0 a8
  by_cases z:role=4
  ·obtain⟨ts,F,t1,t2,t3⟩:=xir B I hB
   refine⟨⟨role,gW y,C,lR ts⟩,F, ?_,rfl,rfl,rfl,fun _=>t3,fun h=>absurd z h⟩;have hl:=AL ts;have hL:=Cc ts t2;unfold mu;rw[if_neg (by show ¬role<1;omega),if_neg (by show ¬4<role;omega),if_neg (by show ¬C<0;omega),if_neg (by show ¬1000000<C;omega),if_neg (by show ¬Pr.nameB (gW y)=false;rw[a6];simp),if_neg (by show ¬(64:Int)<(lR ts).length;omega)];show(if role=4 then(if((ic (lR ts)).length:Int)=0 then 40 else 0)else 0)=(0:Int);rw[if_pos z,hL,if_neg];rw[av];omega
  ·have g7:=f15 B I 7
   have v7:=dS B I 7;rw[show((7:Nat):Int)=7 from rfl]at g7;obtain⟨l',F,q1,q2⟩:=l75 B hB role C (gW y) (cH B I 7) 0 (aB (cH B I 7) 0) (bF B I) (by rw[cC];rfl) (aC _) (by rw[cC];omega);rw[cC]at q1 q2;refine⟨⟨role,gW y,C,l'⟩,F, ?_,rfl,rfl,rfl,fun h=>absurd h z,fun _=>⟨bF B I,cH B I 7,v7,g7,q1,q2⟩⟩;unfold mu;rw[if_neg (by show ¬role<1;omega),if_neg (by show ¬4<role;omega),if_neg (by show ¬C<0;omega),if_neg (by show ¬1000000<C;omega),if_neg (by show ¬Pr.nameB (gW y)=false;rw[a6];simp),if_neg (by show ¬(64:Int)<l'.length;omega)];show(if role=4 then(if((ic l').length:Int)=0 then 40 else 0)else 0)=(0:Int);rw[if_neg z]
 by_cases p4:w4=8
 ·have H:(w4:Int)=8:=by omega
  obtain⟨⟨xr,xn,xv,K⟩,F,e0,e1,e2,e3,e4,e5⟩:=key (bF B (bF B (bF B (bF B j)))) (1000000-(w5:Int)) (by omega) (by omega);simp only at e1 e2 e3 e4 e5;subst e1 e2 e3;refine⟨_,F,e0,rfl, ?_⟩;rw[ccT 75]
  by_cases z:xr=4
  ·have t:=e4 z
   simp only[bE,Img.sv]at t ⊢;simp only[go_sem,simprocAttr,g1,g2,g3,g4,g5,H,ew,z,hN,J,em,t]
  ·obtain⟨j1,n,hn,t1,t2,t3⟩:=e5 z
   have Q:K.length=n:=t2;have a1:n<=K.length:=by omega
   have hq:dq n K=K:=by rw[<-Q,cG]
   have a7:(n:Int)<7:=by omega
   have Z:(n:Int)<=140737488355328:=by omega
   simp only[bE,Img.sv]at t1 t3 ⊢;simp only[go_sem,simprocAttr,g1,g2,g3,g4,g5,H,ew,z,hN,J,em,t1,Z,t3,a1,hq]
 ·have H:¬(w4:Int)=8:=by omega
  obtain⟨⟨xr,xn,xv,K⟩,F,e0,e1,e2,e3,e4,e5⟩:=key (bF B (bF B (bF B j))) (w3:Int) (by omega) (by omega);simp only at e1 e2 e3 e4 e5;subst e1 e2 e3;refine⟨_,F,e0,rfl, ?_⟩;rw[ccT 75]
  by_cases z:xr=4
  ·have t:=e4 z
   simp only[bE,Img.sv]at t ⊢;simp only[go_sem,simprocAttr,g1,g2,g3,g4,H,z,hN,J,em,t]
  ·obtain⟨j1,n,hn,t1,t2,t3⟩:=e5 z
   have Q:K.length=n:=t2;have a1:n<=K.length:=by omega
   have hq:dq n K=K:=by rw[<-Q,cG]
   have a7:(n:Int)<7:=by omega
   have Z:(n:Int)<=140737488355328:=by omega
   simp only[bE,Img.sv]at t1 t3 ⊢;simp only[go_sem,simprocAttr,g1,g2,g3,g4,H,z,hN,J,em,t1,Z,t3,a1,hq]
theorem Jl(l:List Img)(i:Nat)(h:i<l.length):l.getD i im0∈l:=by rw[aa,ac h];exact aF _
theorem lq{α:Type}(l:List α)(x d:α)(i:Nat)(h:i<l.length:=by omega):(l++ [x]).getD i d=l.getD i d:=by rw[aa,aa,cn h]
theorem rG{α:Type}(l:List α)(x d:α):(l++ [x]).getD l.length d=x:=by rw[aa,cO (aM _),Nat.sub_self];rfl
structure ChP(l:List Img)(role:Int):Prop where
 ok:∀i,i<l.length->mu (l.getD i im0)=0
 le:∀i,i<l.length->(l.getD i im0).role<=role
 ord:∀i,i+1<l.length->(l.getD i im0).role<=(l.getD (i+1) im0).role
 dup:∀i,i<l.length->∀k,k<i->(l.getD k im0).role=(l.getD i im0).role->(l.getD k im0).name≠(l.getD i im0).name
def agn(x:Img)(l:List Img):Bool:=l.any fun y=>decide (y.role=x.role)&&decide (y.name=x.name)
theorem ChP.snoc{l:List Img}{role:Int}(h:ChP l role){x:Img}(J:mu x=0)(C:x.role=role)(z:agn x l=false):ChP (l++ [x]) role:=by
 have F:(l++ [x]).length=l.length+1:=by simp
 refine⟨fun i hi=> ?_,fun i hi=> ?_,fun i hi=> ?_,fun i hi k y=> ?_⟩
 ·rcases bq i l.length with h1|h1
  ·rw[lq l x im0 i h1];exact h.ok i h1
  ·rw[show i=l.length from by omega,rG];exact J
 ·rcases bq i l.length with h1|h1
  ·rw[lq l x im0 i h1];exact h.le i h1
  ·rw[show i=l.length from by omega,rG,C];exact Int.le_refl _
 ·rw[lq l x im0 i]
  rcases bq (i+1) l.length with h1|h1
  ·rw[lq l x im0 (i+1) h1];exact h.ord i h1
  ·rw[show i+1=l.length from by omega,rG,C];exact h.le i (by omega)
 ·rcases bq i l.length with h1|h1
  ·rw[lq l x im0 i h1,lq l x im0 k];exact h.dup i h1 k y
  ·rw[show i=l.length from by omega]at y ⊢
   rw[rG,lq l x im0 k y];intro H I;unfold agn at z;rw[List.any_eq_false]at z;have:=z (l.getD k im0) (Jl l k y);rw[decide_eq_true H,decide_eq_true I]at this;exact this rfl
theorem ChP.up{l:List Img}{r y:Int}(h:ChP l r)(z:r<=y):ChP l y:=⟨h.ok,fun i hi=>Int.le_trans (h.le i hi) z,h.ord,h.dup⟩
theorem xgo(B:t8)(j:Nat)(l:List Img)(x:Img)(role n:Int)(Z:l.length<=100):∀(k i:Nat)(C:Bool),l.length-i=k->i<=l.length->
 run T (.loop zd) ⟨[(3,.ptr 12100 0),(4,.lst 4 (gK l) (.id 104)),(5,iV role),(6,iV n),(7,.ptr 107 0),(8,.bool C),(9,iV i)],[(107,.rc x.sv),(12100,bE B j)],[104]⟩=
 some (.x 4,⟨[(3,.ptr 12100 0),(4,.lst 4 (gK l) (.id 104)),(5,iV role),(6,iV n),(7,.ptr 107 0),(8,.bool (C||agn x (l.drop i)))],[(107,.rc x.sv),(12100,bE B j)],[104]⟩):=by
 intro k;induction k with
 |zero=>
  intro i C h0 h1;have:i=l.length:=by omega
  subst this;have hv:=gC l;obtain⟨a,b,c,d⟩:=x;simp only[bE,Img.sv]at*;rw[ab,bx];simp only[go_sem,simprocAttr,hv,agn,List.any_nil,Bool.or_false]
 |succ k Q=>
  intro i C h0 h1;have hi:i<l.length:=by omega
  have F:=bJ i;have z:=Q (i+1) (C||(decide ((l.getD i im0).role=x.role)&&decide ((l.getD i im0).name=x.name))) (by omega) (by omega);have hv:=gC l;have H:=jt l i hi;have I:l.drop i=l.getD i im0::l.drop (i+1):=by rw[bD hi,aa,ac hi];rfl
  have K:agn x (l.drop i)=((decide ((l.getD i im0).role=x.role)&&decide ((l.getD i im0).name=x.name))||agn x (l.drop (i+1))):=by rw[I];rfl
  rw[K,<-Bool.or_assoc];rw[ab];generalize agn x (l.drop (i+1))=R at*;generalize l.getD i im0=y at*;obtain⟨a,b,c,d⟩:=x;obtain⟨a2,J,c2,d2⟩:=y;simp only[bE,Img.sv]at*;cases C with
  |true=>simp only[qF]at z ⊢;simp only[go_sem,simprocAttr,hi,F,hv,z]
  |false=>
   by_cases p1:a2=a
   ·by_cases p2:J=b
    ·rw[decide_eq_true p1,decide_eq_true p2]at z ⊢
     simp only[Bool.and_self,gz,qF]at z ⊢;simp only[go_sem,simprocAttr,hi,F,hv,H,p1,p2,z]
    ·rw[decide_eq_true p1,decide_eq_false p2]at z ⊢
     simp only[Bool.and_false,gz]at z ⊢;simp only[go_sem,simprocAttr,hi,F,hv,H,p1,p2,z]
   ·rw[decide_eq_false p1]at z ⊢
    simp only[Bool.false_and,gz]at z ⊢;simp only[go_sem,simprocAttr,hi,F,hv,H,p1,z]
theorem vO(l:List Img)(x:Img):gK l++ [x.sv]=gK (l++ [x]):=by rw[gK,gK,b9];rfl
theorem Mq{x:Img}{l:List Img}(h:agn x l=true):∃i,i<l.length/\(l.getD i im0).role=x.role:=by unfold agn at h;rw[List.any_eq_true]at h;obtain⟨y,z,h⟩:=h;obtain⟨i,hi,rfl⟩:=cr z;refine⟨i,hi, ?_⟩;rw[aE]at h;rw[aa,ac hi];exact of_decide_eq_true h.1
theorem zS{l r:List Img}{c:Int}(h:∃i,i<l.length/\(l.getD i im0).role=c):∃i,i<(l++r).length/\((l++r).getD i im0).role=c:=by obtain⟨i,hi,e⟩:=h;refine⟨i,by rw[af];omega, ?_⟩;rw[aa,cn hi,<-aa,e]
theorem Hl{l:List Img}{a b:Int}(h:ChP l a)(y:a<=b):ChP l b:=⟨h.ok,fun i hi=>Int.le_trans (h.le i hi) y,h.ord,h.dup⟩
theorem Uq(B:t8)(hB:B.length<=1000)(role:Int)(r1:1<=role)(r4:role<=4):∀(n:Nat)(l:List Img)(j:Nat),l.length+n<=8->ChP l role->
 ∃r C,ChP (l++r) role/\r.length<=n/\(1<=n->∃i,i<(l++r).length/\((l++r).getD i im0).role=role)/\
 run T (.loop zb) ⟨[(3,.ptr 12100 0),(4,.lst 4 (gK l) (.id 104)),(5,iV role),(6,iV (n:Int))],[(12100,bE B j)],[104]⟩=
  some (.x 2,⟨[(3,.ptr 12100 0),(4,.lst 4 (gK (l++r)) (.id 104)),(5,iV role)],[(12100,bE B C)],[104]⟩):=by
 intro n;induction n with
 |zero=>intro l j hl I;refine⟨[],j,by rw[bO];exact I,aC _,fun h=>absurd h (by omega), ?_⟩;rw[bO,ab];simp only[bE];simp only[go_sem,simprocAttr]
 |succ n ih=>
  intro l j hl I;obtain⟨x,J,hx,K,g⟩:=f75 B j hB role r1 r4;have z:=xgo B J l x role ((n+1:Nat):Int) (by omega) l.length 0 false (by omega) (aC _);have Q:(0:Int)<((n+1:Nat):Int):=by omega
  have Z:ah.wrap (((n+1:Nat):Int)-1)=(n:Int):=by rw[w64];omega
  have hv:=gC l;have hs:=vO l x;have c1:(l.length+1)*56<=140737488355328:=by omega
  rw[bw,gz,show((0:Nat):Int)=0 from rfl]at z;cases ha:agn x l with
  |true=>
   rw[ha]at z;obtain⟨r,C,H,q2,F,y⟩:=ih l J (by omega) I;refine⟨r,C,H,by omega,fun _=> ?_, ?_⟩
   ·obtain⟨i,hi,e⟩:=Mq ha
    refine⟨i,by rw[af];omega, ?_⟩;rw[aa,cn hi,<-aa,e,K]
   ·rw[ab]
    obtain⟨a,b,c,d⟩:=x;simp only[bE,Img.sv]at g z y hs ⊢;simp only[go_sem,simprocAttr,Q,g,Z,z,y]
  |false=>
   rw[ha]at z;obtain⟨r,C,H,q2,F,y⟩:=ih (l++ [x]) J (by rw[af,aT];omega) (I.snoc hx K ha);rw[aI]at H F y;refine⟨[x]++r,C,H,by rw[af,aT];omega,fun _=> ?_, ?_⟩
   ·refine⟨l.length,by rw[af,af,aT];omega, ?_⟩
    rw[aa,cO (aM _),Nat.sub_self];exact K
   ·rw[ab]
    obtain⟨a,b,c,d⟩:=x;rw[<-aI,<-vO]at*;simp only[bE,Img.sv]at g z y ⊢;simp only[go_sem,simprocAttr,Q,g,Z,z,hv,c1,y]
theorem Up(B:t8)(I:B.length<=1000)(role:Int)(r1:1<=role)(r4:role<=4)(l:List Img)(j:Nat)(Z:l.length+2<=8)(J:ChP l role):
 ∃r C,ChP (l++r) role/\r.length<=2/\(role=1\/role=3->∃i,i<(l++r).length/\((l++r).getD i im0).role=role)/\
 run T (.loop qZ) ⟨[(3,.ptr 12100 0),(4,.lst 4 (gK l) (.id 104)),(5,iV role)],[(12100,bE B j)],[104]⟩=
 run T (.loop qZ) ⟨[(3,.ptr 12100 0),(4,.lst 4 (gK (l++r)) (.id 104)),(5,iV (role+1))],[(12100,bE B C)],[104]⟩:=by
 have g1:=f15 B j 3;have F:=f15 B (bF B j) 2;have v1:=dS B j 3;have v2:=dS B (bF B j) 2;rw[cz3]at g1;rw[c2]at F;have e:ah.wrap (1+((cH B (bF B j) 2:Nat):Int))=((1+cH B (bF B j) 2:Nat):Int):=by rw[w64];omega
 have Q:role=1\/role=2\/role=3\/role=4:=by omega
 rcases Q with rfl|rfl|rfl|rfl
 ·obtain⟨r,C,H,K,z,y⟩:=Uq B I 1 (by decide) (by decide) (1+cH B (bF B j) 2) l (bF B (bF B j)) (by omega) J
  refine⟨r,C,H,by omega,fun _=>z (by omega), ?_⟩;rw[ab];simp only[bE]at g1 F y ⊢;simp only[go_sem,simprocAttr,g1,F,e,y];rfl
 ·obtain⟨r,C,H,K,z,y⟩:=Uq B I 2 (by decide) (by decide) (cH B j 3) l (bF B j) (by omega) J
  refine⟨r,C,H,by omega,fun h=>absurd h (by decide), ?_⟩;rw[ab];simp only[bE]at g1 F y ⊢;simp only[go_sem,simprocAttr,g1,y];rfl
 ·obtain⟨r,C,H,K,z,y⟩:=Uq B I 3 (by decide) (by decide) (1+cH B (bF B j) 2) l (bF B (bF B j)) (by omega) J
  refine⟨r,C,H,by omega,fun _=>z (by omega), ?_⟩;rw[ab];simp only[bE]at g1 F y ⊢;simp only[go_sem,simprocAttr,g1,F,e,y];rfl
 ·obtain⟨r,C,H,K,z,y⟩:=Uq B I 4 (by decide) (by decide) (cH B j 3) l (bF B j) (by omega) J
  refine⟨r,C,H,by omega,fun h=>absurd h (by decide), ?_⟩;rw[ab];simp only[bE]at g1 F y ⊢;simp only[go_sem,simprocAttr,g1,y];rfl
theorem f32(y:t8):∃l,dZ l/\call T 32 [bN y] [] 0=okV (.lst 4 (gK l) .no):=by
 have F:(y.take 200).length<=1000:=by rw[aw];omega
 have g:=f14 y 200;rw[xiQ]at g;generalize y.take 200=B at*;have h0:ChP [] 1:=⟨fun i hi=>absurd hi (by simp),fun i hi=>absurd hi (by simp),fun i hi=>absurd hi (by simp),fun i hi=>absurd hi (by simp)⟩;obtain⟨C,K,p1,n1,w1,z⟩:=Up B F 1 (by decide) (by decide) [] 0 (by decide) h0;rw[aA]at p1 w1 z;obtain⟨a2,j2,p2,n2,w2,t2⟩:=Up B F 2 (by decide) (by decide) C K (by omega) (Hl p1 (by decide));obtain⟨a3,Z,p3,n3,Q,t3⟩:=Up B F 3 (by decide) (by decide) (C++a2) j2 (by rw[af];omega) (Hl p2 (by decide));obtain⟨a4,I,H,n4,w4,t4⟩:=Up B F 4 (by decide) (by decide) (C++a2++a3) Z (by simp only[af];omega) (Hl p3 (by decide));refine⟨C++a2++a3++a4,⟨?_, ?_,H.ok,H.ord,H.dup,zS (zS (zS (w1 (Or.inl rfl)))),zS (Q (Or.inr rfl))⟩, ?_⟩
 ·obtain⟨i,hi,_⟩:=w1 (Or.inl rfl)
  simp only[af];omega
 ·simp only[af];omega
 ·rw[ccT 32]
  rw[show(1:Int)+1=2 from rfl]at z;rw[show(2:Int)+1=3 from rfl]at t2;rw[show(3:Int)+1=4 from rfl]at t3;rw[show(4:Int)+1=5 from rfl]at t4
  have t5:run T (.loop qZ) ⟨[(3,.ptr 12100 0),(4,.lst 4 (gK (C++a2++a3++a4)) (.id 104)),(5,iV 5)],[(12100,bE B I)],[104]⟩=some (.x 0,⟨[(4,.lst 4 (gK (C++a2++a3++a4)) (.id 104))],[(12100,bE B I)],[104]⟩):=by rw[ab];simp only[bE,go_sem,simprocAttr]
  rw[t5]at t4;rw[t4]at t3;rw[t3]at t2;rw[t2]at z;have J:gK []=[]:=rfl;rw[J]at z;simp only[bE,c0,aI]at g z;simp only[go_sem,simprocAttr,g,z,aI]
end Go.Proofs.YtmhhnklkcmpdkaaGreatDoor
