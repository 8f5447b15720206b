/- Contracts. No condition. -/
import Derived.Test.YtmhhnklkcmpdkaaGreatDoorTgPR
open Int renaming natCast_zero -> ak
open Go.IntKind renaming i64 -> ah, u64 -> az, wrap_u64 -> dx
open List renaming append_nil -> bO, cons_append -> aL, drop -> gT, drop_eq_getElem_cons -> bD, drop_length -> bx, drop_zero -> bw, foldl_cons -> kf, getD_cons_succ -> cZ, getD_cons_zero -> gD, getD_eq_getElem?_getD -> aa, getElem?_eq_getElem -> ac, getElem_mem -> aF, getElem_of_mem -> cr, length_append -> af, length_cons -> ai, length_drop -> aQ, length_map -> av, length_nil -> al, length_singleton -> aT, length_take -> aw, map_append -> b9, map_cons -> ax, map_drop -> nz, map_nil -> aK, map_take -> gw, mem_append -> am, mem_cons -> aq, mem_cons_of_mem -> an, mem_cons_self -> aD, mem_of_mem_drop -> ny, mem_of_mem_take -> cg, mem_singleton -> bC, nil_append -> aA, replicate -> aB, take -> dq, take_length -> cG
open Nat renaming add_mul -> bW, le_refl -> aM, lt_or_ge -> bq, zero_le -> aC
open Go.Op renaming bytesLess -> dw
open UInt8 renaming ofInt -> aO
set_option maxRecDepth 100000
set_option maxHeartbeats 16000000
set_option linter.unusedSimpArgs false
set_option linter.unusedVariables false
noncomputable section
namespace Go.Proofs.YtmhhnklkcmpdkaaGreatDoor
open Go.Sy

theorem nxq(B:t8)(C:B.length<=1000)(n:Nat)(k:Int)(y:k=n)(z:0<n)(j:Nat):call T 15 [.ptr 0 0,iV k] [.rc [bN B,iV j]] 0=some ⟨iV (cH B j n:Nat),[(0,.rc [bN B,iV (bF B j:Nat)])],[]⟩:=by subst y;exact f15 B j n z
theorem lnq(B:t8)(y:B.length<=1000)(j:Nat):call T 130 [.ptr 0 0] [.rc [bN B,iV j]] 0=some ⟨bN (gq (cH B j 6)),[(0,.rc [bN B,iV (bF B j:Nat)])],[]⟩:=xe9 B j y
theorem LG(v:Nat):1<=(gq v).length:=by unfold gq;split<;>decide
def dvV(a:Int)(y z:UInt8):List t8:=[if sW a 0 then [y,z,0,0,0,0,0,0,0,0,0,0,0,0,0,0,0,0,0,0]else [],if sW a 1 then [y,z,0,0,0,0,0,0,0,0,0,0,0,0,0,0,0,0,0,0,0,0,0,0,0,0,0,0,0,0,0,1]else []]
theorem xiy(a:Int)(ha:ir a)(b0 b1:UInt8):call T 132 [iV a,.byt [b0,b1] .no] [] 0=okV (.lst 1 (bls (dvV a b0 b1)) .no):=by
 have k1:ah.wrap 1=1:=rfl;have k2:ah.wrap 2=2:=rfl;have J:ah.wrap 12=12:=rfl;have a6:ah.wrap 20=20:=rfl;have Q:ah.wrap 32=32:=rfl;have Z:ah.wrap 31=31:=rfl;have z:ah.wrap 19=19:=rfl;have k0:ah.wrap 0=0:=rfl;have x0:(0:UInt8)^^^aO 0=0:=by decide
 have x1:(0:UInt8)^^^aO 1=1:=by decide
 have t0:az.wrap 0=0:=rfl;have t1:az.wrap 1=1:=rfl;have H:cy .and .i64 (Int.fdiv 1 (2^min 0 64)) 1=1:=rfl;have I:cy .and .i64 (Int.fdiv 2 (2^min 0 64)) 1=0:=rfl;have F:cy .and .i64 (Int.fdiv 3 (2^min 0 64)) 1=1:=rfl;have a1:cy .and .i64 (Int.fdiv 1 (2^min 1 64)) 1=0:=rfl;have K:cy .and .i64 (Int.fdiv 2 (2^min 1 64)) 1=1:=rfl;have C:cy .and .i64 (Int.fdiv 3 (2^min 1 64)) 1=1:=rfl;have y:=ha;unfold ir at y;rcases y with rfl|rfl|rfl
 all_goals
  rw[ccT 132];simp only[go_sem,simprocAttr,aB]
  iterate 3
   rw[ab];simp only[go_sem,simprocAttr,k0,k1,k2,x0,x1,J,z,Z,a6,Q,t0,t1,H,I,F,a1,K,C,iM,aB,bls]
  rfl
theorem xbl{r k a:Int}{z y:UInt8}{d:t8}(h0:0<=r)(h1:r<=11)(h2:1<=k)(h3:k<=5)(h4:d.length<=64):rl ⟨r,k,dvV a z y,d⟩:=by refine⟨h0,h1,h2,h3,h4,rfl, ?_, ?_⟩<;>simp only[dvV,gD,cZ]<;>split<;>first|exact aC _|(simp;done)
theorem xah{r k a:Int}{d:t8}(h0:0<=r)(h1:r<=11)(h2:1<=k)(h3:k<=5)(h4:d.length<=64):rl ⟨r,k,(mkV r k a d).dg,d⟩:=by
 have z:=Ay d;have C:=fC d
 by_cases y:k=5
 ·refine⟨h0,h1,h2,h3,h4, ?_, ?_, ?_⟩<;>simp only[mkV,y,if_true]<;>decide
 ·refine⟨h0,h1,h2,h3,h4, ?_, ?_, ?_⟩<;>simp only[mkV,y,if_false,gD,cZ]
  ·rfl
  ·split
   ·omega
   ·exact aC _
  ·split
   ·omega
   ·exact aC _
theorem P6(r k a:Int)(d:t8)(y:ir a)(z:d.length<=64:=by omega):call T 131 [iV r,iV k,iV a,bN d] [] 0=okV (.agg [iV r,iV k,.lst 1 (bls (mkV r k a d).dg) .no,bN d]):=Y0 r k a d y
def rgV(v:Nat):Int:=[0,0,4,8,9,9,1,11].getD v 0
theorem Vy:∀v,v<8->([[SV.int ah 0],[SV.int ah 0],[SV.int ah 4],[SV.int ah 8],[SV.int ah 9],[SV.int ah 9],[SV.int ah 1],[SV.int ah 11]]:f9).getD v []=[iV (rgV v)]
 |0,_=>rfl
 |1,_=>rfl
 |2,_=>rfl
 |3,_=>rfl
 |4,_=>rfl
 |5,_=>rfl
 |6,_=>rfl
 |7,_=>rfl
 |n+8,h=>absurd h (by omega)
theorem Zz:∀v,0<=rgV v/\rgV v<=11
 |0=>by decide
 |1=>by decide
 |2=>by decide
 |3=>by decide
 |4=>by decide
 |5=>by decide
 |6=>by decide
 |7=>by decide
 |n+8=>by unfold rgV;simp
theorem f60(B:t8)(H:B.length<=1000)(j:Nat)(a:Int)(J:ir a):∃(e:Ev)(j':Nat),rl e/\call T 60 [.ptr 0 0,iV a] [bE B j] 0=some ⟨.agg e.sv,[(0,bE B j')],[]⟩:=by
 have q2:=nxq B H 2 2 rfl (by decide);have q4:=nxq B H 4 4 rfl (by decide);have q5:=nxq B H 5 5 rfl (by decide);have q8:=nxq B H 8 8 rfl (by decide);have ql:=lnq B H;obtain⟨y,I⟩:∃y,y=(if((cH B (bF B j) 4:Nat):Int)=3 then bF B (bF B (bF B j))else bF B (bF B j)):=⟨_,rfl⟩;obtain⟨k,hk⟩:∃k:Int,k=1+(cH B y 5:Int):=⟨_,rfl⟩;have a6:=dS B y 5 (by decide);have e1:ah.wrap (1+(cH B y 5:Int))=k:=by rw[hk,w64]
 obtain⟨z,a1⟩:∃z,z=bF B (bF B y):=⟨_,rfl⟩;have Z:=dS B (bF B y) 8 (by decide);have hr:=Vy _ Z;have F:((cH B (bF B y) 8:Nat):Int)<8:=by omega
 have a8:=Zz (cH B (bF B y) 8);generalize rgV (cH B (bF B y) 8)=rg at*;obtain⟨Q,C⟩:∃Q,Q=(if k=2 then(if(0:Int)<(cH B z 4:Nat)then bF B (bF B z)else bF B z)else z):=⟨_,rfl⟩;have h9:(gq (cH B j 6)).length<=8:=mL _;have h1:=LG (cH B j 6);have a7:=dS B (bF B (bF B j)) 2 (by decide);have K:cH B (bF B (bF B j)) 2<=(gq (cH B j 6)).length:=by omega
 have ht:((gq (cH B j 6)).take (cH B (bF B (bF B j)) 2)).length<=8:=by rw[aw];omega
 have m0:=fun r k=>P6 r k a [0,0,0,0] J (by decide)
 have m1:=fun r k=>P6 r k a (gq (cH B j 6)) J
 have m2:=fun r k=>P6 r k a ((gq (cH B j 6)).take (cH B (bF B (bF B j)) 2)) J
 have hv:=dS B (bF B z) 8 (by decide);have d0:=xiy a J;rw[ccT 60]
 by_cases c1:((cH B (bF B j) 4:Nat):Int)=3<;>simp only[c1,reduceIte]at I<;>by_cases c2:k=2<;>by_cases c3:(0:Int)<(cH B z 4:Nat)<;>simp only[c2,c3,reduceIte]at C<;>by_cases c4:k=5<;>by_cases c5:((cH B Q 4:Nat):Int)=3<;>
  first
  |(exfalso;omega)
  |(
   refine⟨⟨_,_,_,_⟩,_, ?_,by simp only[bE,Ev.sv];simp only[go_sem,simprocAttr,q2,q4,q5,q8,ql,c1,<-I,K,e1,<-a1,F,hr,c2,c3,<-C,c4,c5,m0,m1,m2,d0];rfl⟩
   first|exact xah (by omega) (by omega) (by omega) (by omega) (by first|omega|(simp;done))|exact xbl (by omega) (by omega) (by omega) (by omega) (by first|omega|(simp;done)))
theorem xhJ(a:Int):call T 328 [iV a,.bool false] [] 0=okV (iV (if a=14 then 2 else if a=15 then 3 else 0)):=by
 rw[ccT 328]
 by_cases h0:a=14
 ·subst h0
  simp only[go_sem,simprocAttr]
 ·by_cases h1:a=15
  ·subst h1
   simp only[go_sem,simprocAttr,h0]
  ·simp only[go_sem,simprocAttr,h0,h1]
def hdM(m:Man):t8:=fd ([]++bu 1 21) m.vendor++bu 4 m.ver++bu 4 m.flr++bu 6 m.frm++bu 6 m.til++bu 1 (m.ents.length:Int)
theorem eZ(k:Nat)(v:Int):(bu k v).length=k:=jO ..
def rj(B:t8)(x:Ent):t8:=fd (B++bu 1 x.role) x.name++bu 4 x.ver++x.dig
def qh(B:t8)(r:Rul):t8:=fd (B++bu 1 r.kind) r.text++bu 4 r.lo++bu 4 r.hi
theorem Bb(B:t8)(x:Ent)(z:x.name.length<=1000000)(y:x.dig.length<=1000000):(rj B x).length<=B.length+2000007:=by unfold rj;rw[af,af,eW,af,eZ,eZ];omega
theorem AI(B:t8)(x:Rul)(y:x.text.length<=1000000):(qh B x).length<=B.length+2000007:=by unfold qh;rw[af,af,eW,af,eZ,eZ,eZ];omega
def nu(m:Man):t8:=if pD m=0 then m.ruls.foldl qh (m.ents.foldl rj (hdM m)++bu 1 (m.ruls.length:Int))else []
theorem pX:∀(l:List Ent)(B:t8),(∀x∈l,x.name.length<=1000000/\x.dig.length<=1000000)->(l.foldl rj B).length<=B.length+l.length*2000007
 |[],B,_=>by simp
 |x::r,B,h=>by rw[kf,ai];have h1:=pX r (rj B x) (fun y z=>h y (an _ z));obtain⟨a,c⟩:=h x aD;have h2:=Bb B x a c;rw[bW];omega
theorem vV:∀(l:List Rul)(B:t8),(∀x∈l,x.text.length<=1000000)->B.length<=(l.foldl qh B).length/\(l.foldl qh B).length<=B.length+l.length*2000007
 |[],B,_=>by simp
 |x::r,B,h=>by
  rw[kf,ai];have h1:=vV r (qh B x) (fun y z=>h y (an _ z));have h2:=AI B x (h x aD)
  have h3:B.length<=(qh B x).length:=by unfold qh;rw[af,af,eW,af];omega
  rw[bW];omega
theorem pU{m:Man}(h:pD m=0):m.ents.length<=16/\m.ruls.length<=8:=by
 unfold pD at h
 repeat' split at h
 all_goals first|(exfalso;omega)|skip
 exact⟨by omega,by omega⟩
theorem L3(m:Man)(y:gg m):(nu m).length<=100000000:=by
 unfold nu
 by_cases hv:pD m=0
 ·rw[if_pos hv]
  obtain⟨h16,z⟩:=pU hv;have h1:=pX m.ents (hdM m) y.e;have h2:=vV m.ruls (m.ents.foldl rj (hdM m)++bu 1 (m.ruls.length:Int)) y.r
  have h3:(hdM m).length<=10000000:=by have:=y.v;unfold hdM;simp only[af,eW,eZ,al];omega
  rw[af,eZ]at h2;omega
 ·rw[if_neg hv];exact aC _
theorem xiU(v:Int):aO (Int.fdiv (az.wrap v) (2^0))=aO v:=by
 rw[show(2:Int)^0=1 from rfl,Int.fdiv_one,dx];unfold aO
 congr 2
 omega
theorem uQ(v:Int):bu 1 v=[aO v]:=by rw[<-xiU v];rfl
theorem Ki(B:t8)(k:Nat)(v:Int)(h1:1<=k:=by omega)(z:k<=8:=by omega)(y:B.length<=10000000000000:=by omega):
 call T 74 [bN B,iV k,iV v] [] 0=some ⟨.byt (B++bu k v) (.id 60),[],[60]⟩:=f74 B k v h1 z y
def tkR:Bool->Bool->LAb
 |false,false=> [103,16060,20060,24060,28060]
 |true,false=> [103,16060,20060,24060,28060,61060]
 |false,true=> [103,16060,20060,24060,28060,97060]
 |true,true=> [103,16060,20060,24060,28060,61060,97060]
theorem xfK(m:Man)(z:gg m)(b:Bool)(i:Nat)(hi:i<m.ents.length)(B:t8)(hB:B.length<=1000000000:=by omega):
 run T (.loop qY) ⟨[(1,.ptr 101 0),(3,.byt B (.id 103)),(4,iV i)],[(101,.rc m.sv)],tkR b false⟩=
 run T (.loop qY) ⟨[(1,.ptr 101 0),(3,.byt (rj B (m.ents.getD i en0)) (.id 103)),(4,iV ((i+1:Nat):Int))],[(101,.rc m.sv)],tkR true false⟩:=by
 have k4:((4:Nat):Int)=4:=rfl;have a1:=z.en;have J:=bJ i;have I:=iH m.ents i hi;have y:=dU m.ents;obtain⟨K,Q⟩:=z.e _ (cM m.ents en0 i hi);clear z;generalize m.ents.getD i en0=x at*;unfold rj;have n1:(B++bu 1 x.role).length<=1000000001:=by rw[af,eZ];omega
 have n0:B.length+1<=140737488355328:=by omega
 have C:=og (B++bu 1 x.role) x.name;have n2:(fd (B++bu 1 x.role) x.name).length<=1010000000:=by rw[eW];omega
 generalize fd (B++bu 1 x.role) x.name=F at*;rw[uQ]at C;have H:=Ki F 4 x.ver;rw[k4]at H;have n3:(F++bu 4 x.ver).length<=1010000004:=by rw[af,eZ];omega
 generalize F++bu 4 x.ver=Z at*;have n4:Z.length+x.dig.length<=140737488355328:=by omega
 obtain⟨mv,m1,m2,m3,m4,es,rs⟩:=m;obtain⟨x1,x2,x3,x4⟩:=x;simp only[Man.sv,Ent.sv]at*;cases b with
 |false=>rw[ab];simp only[tkR];simp only[go_sem,simprocAttr,hi,J,I,y,n0,C,H,n4]
 |true=>rw[ab];simp only[tkR];simp only[go_sem,simprocAttr,hi,J,I,y,n0,C,H,n4]
theorem xgk(m:Man)(H:gg m)(h16:m.ents.length<=16):∀(n i:Nat)(b:Bool)(B:t8),m.ents.length-i=n->i<=m.ents.length->B.length<=20000000+i*2000007->
 ∃I,run T (.loop qY) ⟨[(1,.ptr 101 0),(3,.byt B (.id 103)),(4,iV i)],[(101,.rc m.sv)],tkR b false⟩=
 some (.x 0,⟨[(1,.ptr 101 0),(3,.byt ((m.ents.drop i).foldl rj B) (.id 103))],[(101,.rc m.sv)],tkR I false⟩):=by
 intro n;induction n with
 |zero=>
  intro i b B h0 h1 h2;have y:=dU m.ents;have:i=m.ents.length:=by omega
  subst this;refine⟨b, ?_⟩;rw[bx,List.foldl_nil,ab];obtain⟨mv,m1,K,m3,m4,es,rs⟩:=m;simp only[Man.sv]at*;cases b with
  |false=>simp only[tkR];simp only[go_sem,simprocAttr,y]
  |true=>simp only[tkR];simp only[go_sem,simprocAttr,y]
 |succ n J=>
  intro i b B h0 h1 h2;have hi:i<m.ents.length:=by omega
  have F:m.ents.drop i=m.ents.getD i en0::m.ents.drop (i+1):=by rw[bD hi,aa,ac hi];rfl
  obtain⟨z,C⟩:=H.e _ (cM m.ents en0 i hi);have Q:=Bb B (m.ents.getD i en0) z C;rw[xfK m H b i hi B,F,kf];exact J (i+1) true _ (by omega) (by omega) (by omega)
theorem xfJ(m:Man)(C:∀x∈m.ruls,x.text.length<=1000000)(hn:m.ruls.length<=1000000)(b c:Bool)(i:Nat)(hi:i<m.ruls.length)(B:t8)(hB:B.length<=1000000000:=by omega):
 run T (.loop qX) ⟨[(1,.ptr 101 0),(3,.byt B (.id 103)),(6,iV i)],[(101,.rc m.sv)],tkR b c⟩=
 run T (.loop qX) ⟨[(1,.ptr 101 0),(3,.byt (qh B (m.ruls.getD i rl0)) (.id 103)),(6,iV ((i+1:Nat):Int))],[(101,.rc m.sv)],tkR b true⟩:=by
 have I:((4:Nat):Int)=4:=rfl;have e1:=bJ i;have Z:=mb m.ruls i hi;have y:=eV m.ruls;have K:=C _ (cM m.ruls rl0 i hi);clear C;generalize m.ruls.getD i rl0=x at*;unfold qh;have n1:(B++bu 1 x.kind).length<=1000000001:=by rw[af,eZ];omega
 have n0:B.length+1<=140737488355328:=by omega
 have H:=og (B++bu 1 x.kind) x.text;have n2:(fd (B++bu 1 x.kind) x.text).length<=1010000000:=by rw[eW];omega
 generalize fd (B++bu 1 x.kind) x.text=z at*;rw[uQ]at H;have J:=Ki z 4 x.lo;rw[I]at J;have n3:(z++bu 4 x.lo).length<=1010000004:=by rw[af,eZ];omega
 generalize z++bu 4 x.lo=Q at*;have F:=Ki Q 4 x.hi;rw[I]at F;obtain⟨mv,m1,m2,m3,m4,es,rs⟩:=m;obtain⟨x1,x2,x3,x4⟩:=x;simp only[Rul.sv,Man.sv]at*
 cases b<;>cases c<;>
  (rw[ab]
   simp only[tkR];simp only[go_sem,simprocAttr,hi,e1,Z,y,n0,H,J,F])
theorem xgj(m:Man)(C:∀x∈m.ruls,x.text.length<=1000000)(K:m.ruls.length<=8)(b:Bool):∀(n i:Nat)(c:Bool)(B:t8),m.ruls.length-i=n->i<=m.ruls.length->B.length<=100000000+i*2000007->
 ∃F,run T (.loop qX) ⟨[(1,.ptr 101 0),(3,.byt B (.id 103)),(6,iV i)],[(101,.rc m.sv)],tkR b c⟩=
 some (.x 2,⟨[(3,.byt ((m.ruls.drop i).foldl qh B) (.id 103))],[(101,.rc m.sv)],tkR b F⟩):=by
 intro n;induction n with
 |zero=>
  intro i c B h0 h1 h2;have z:=eV m.ruls;have:i=m.ruls.length:=by omega
  subst this;refine⟨c, ?_⟩;rw[bx,List.foldl_nil,ab];obtain⟨mv,m1,I,m3,m4,es,rs⟩:=m;simp only[Man.sv]at*;cases b<;>cases c<;>(simp only[tkR];simp only[go_sem,simprocAttr,z])
 |succ n H=>
  intro i c B h0 h1 h2;have hi:i<m.ruls.length:=by omega
  have y:m.ruls.drop i=m.ruls.getD i rl0::m.ruls.drop (i+1):=by rw[bD hi,aa,ac hi];rfl
  have J:=AI B (m.ruls.getD i rl0) (C _ (cM m.ruls rl0 i hi));rw[xfJ m C (by omega) b c i hi B,y,kf];exact H (i+1) true _ (by omega) (by omega) (by omega)
theorem f48(m:Man)(y:gg m):call T 48 [.agg m.sv] [] 0=okV (bN (nu m)):=by
 have g1:=Y2 m y;have k4:((4:Nat):Int)=4:=rfl;have k6:((6:Nat):Int)=6:=rfl;have a8:=y.v;have a7:=y.rn;have I:=dU m.ents;have Z:=eV m.ruls;unfold nu
 by_cases hv:pD m=0
 ·obtain⟨h16,h8⟩:=pU hv
  rw[hv]at g1;rw[if_pos hv];unfold hdM;have H:bu 1 21=[21]:=by rw[uQ];rfl
  have u2:=og [21] m.vendor (by simp);rw[H,aA];generalize Q:fd [21] m.vendor=B2 at*;have n2:B2.length<=10000000:=by rw[<-Q,eW];simp;omega
  have u3:=Ki B2 4 m.ver;rw[k4]at u3;generalize a1:B2++bu 4 m.ver=B3 at*;have n3:B3.length<=10000004:=by rw[<-a1,af,eZ];omega
  have u4:=Ki B3 4 m.flr;rw[k4]at u4;generalize J:B3++bu 4 m.flr=B4 at*;have n4:B4.length<=10000008:=by rw[<-J,af,eZ];omega
  have u5:=Ki B4 6 m.frm;rw[k6]at u5;generalize K:B4++bu 6 m.frm=B5 at*;have n5:B5.length<=10000014:=by rw[<-K,af,eZ];omega
  have u6:=Ki B5 6 m.til;rw[k6]at u6;generalize a6:B5++bu 6 m.til=z at*;have n6:z.length<=10000020:=by rw[<-a6,af,eZ];omega
  have r6:z.length+1<=140737488355328:=by omega
  have n7:(z++bu 1 (m.ents.length:Int)).length<=10000021:=by rw[af,eZ];omega
  obtain⟨b,C⟩:=xgk m y h16 _ 0 false (z++bu 1 (m.ents.length:Int)) rfl (by omega) (by omega);have n8:=pX m.ents (z++bu 1 (m.ents.length:Int)) y.e;rw[bw,ak]at C;generalize m.ents.foldl rj (z++bu 1 (m.ents.length:Int))=F at*;rw[uQ]at C;have r8:F.length+1<=140737488355328:=by omega
  have n9:(F++bu 1 (m.ruls.length:Int)).length<=10000022+16*2000007:=by rw[af,eZ];omega
  obtain⟨c,lb⟩:=xgj m y.r h8 b _ 0 false (F++bu 1 (m.ruls.length:Int)) rfl (by omega) (by omega);rw[bw,ak]at lb;generalize m.ruls.foldl qh (F++bu 1 (m.ruls.length:Int))=b0 at*;rw[uQ]at lb;obtain⟨mv,m1,m2,m3,m4,es,rs⟩:=m;simp only[Man.sv]at*;rw[ccT 48]
  cases b<;>cases c<;>
   (simp only[tkR]at C lb
    simp only[go_sem,simprocAttr,g1,u2,u3,u4,u5,u6,I,r6,C,r8,Z,lb])
 ·rw[if_neg hv]
  obtain⟨mv,m1,m2,m3,m4,es,rs⟩:=m;simp only[Man.sv]at*;rw[ccT 48];simp only[go_sem,simprocAttr,g1,hv]
theorem two{α:Type}(l:List α)(d:α)(h:l.length=2):l=[l.getD 0 d,l.getD 1 d]:=by
 match l,h with
 |[a,b],_=>rfl
structure Io(e:Ev):Prop where
 d2:e.dg.length=2
 b:e.data.length<=1000000
 d0:(e.dg.getD 0 []).length<=1000000
 d1:(e.dg.getD 1 []).length<=1000000
theorem rl.bd{e:Ev}(h:rl e):Io e:=⟨h.n,by have:=h.d;omega,by have:=h.g0;omega,by have:=h.g1;omega⟩
structure UQ(evs:List Ev):Prop where
 n:evs.length<=1000000
 e:∀e∈evs,Io e
def mn0:Man:=⟨[],0,0,0,0,[],[]⟩
def fg(l:List Man):f9:=l.map Man.sv
theorem fG(l:List Man):(fg l).length=l.length:=av ..
theorem kD(l:List Man)(i:Nat)(h:i<l.length):(fg l).getD i []=(l.getD i mn0).sv:=by simp[fg,aa,h]
theorem I3(l:List Man)(x:Man):fg l++ [x.sv]=fg (l++ [x]):=by rw[fg,fg,b9];rfl
structure ww(ms:List Man):Prop where
 n:ms.length<=1000000
 m:∀m∈ms,gg m
theorem Ec:gg mn0:=⟨by decide,by decide,by decide,(fun x y=>by cases y),(fun x y=>by cases y)⟩
def rsv(l:List (Int×Int)):f9:=l.map fun p=> [iV p.1,iV p.2]
theorem rM(l:List (Int×Int)):(rsv l).length=l.length:=av ..
theorem Q0(l:List (Int×Int))(i:Nat)(h:i<l.length):(rsv l).getD i []=[iV (l.getD i (0,0)).1,iV (l.getD i (0,0)).2]:=by simp[rsv,aa,h]
theorem K7(l:List (Int×Int))(p q:Int):rsv l++ [[iV p,iV q]]=rsv (l++ [(p,q)]):=by rw[rsv,rsv,b9];rfl
structure Ct where
 au:List Au
 th:Int
 ms:List Man
 ws:List Wd
def wd0:Wd:=⟨[],0⟩
def jw(l:List Wd):f9:=l.map Wd.sv
theorem kx(l:List Wd):(jw l).length=l.length:=av ..
theorem tG(l:List Wd)(i:Nat)(h:i<l.length):(jw l).getD i []=(l.getD i wd0).sv:=by simp[jw,aa,h]
def Ct.sv(c:Ct):LAa:=[.lst 2 (nR c.au) .no,iV c.th,.lst 7 (fg c.ms) .no,.lst 2 (jw c.ws) .no]
structure tE(c:Ct):Prop where
 m:∀x∈c.ms,gg x/\pD x=0
 w:∀x∈c.ws,x.man.length<=32
 nm:c.ms.length<=1000
 nw:c.ws.length<=1000
theorem tE.ms{c:Ct}(h:tE c):ww c.ms:=⟨by have:=h.nm;omega,fun x y=>(h.m x y).1⟩
def isv(l:List Int):f9:=l.map fun x=> [iV x]
theorem yF(l:List Int):(isv l).length=l.length:=av ..
theorem H1(l:List Int)(i:Nat)(h:i<l.length):(isv l).getD i []=[iV (l.getD i 0)]:=by simp[isv,aa,h]
def mR(v:t8)(z fl C y:Int)(es:List Ent)(t:Tok)(rs:List Rul)(t2:Tok):aG:= .rc [.str v,iV z,iV fl,iV C,iV y,.lst 4 (gV es) t,.lst 4 (jS rs) t2]
def zR:aG:= .rc [.str [],iV 0,iV 0,iV 0,iV 0,.lst 4 [] .clip,.lst 4 [] .clip]
theorem L2(l:List Ent)(a:Int)(b:t8)(c:Int)(d:t8):gV l++ [[iV a,.str b,iV c,bN d]]=gV (l++ [⟨a,b,c,d⟩]):=by rw[gV,gV,b9];rfl
theorem AE(l:List Rul)(a:Int)(b:t8)(c d:Int):jS l++ [[iV a,.str b,iV c,iV d]]=jS (l++ [⟨a,b,c,d⟩]):=by rw[jS,jS,b9];rfl
theorem Hm(B:t8)(m:Nat)(s:Rs):(bR B m s).1.length<=B.length:=by
 unfold bR
 repeat' split
 all_goals first|(simp;done)|(rw[aw,aQ];omega)
theorem U9(B:t8)(m:Nat)(s:Rs):(wR B m s).1.length<=B.length:=by
 unfold wR
 repeat' split
 all_goals first|(simp;done)|(rw[aw,aQ];omega)
def tkQ(t:Nat)(e:Prop)(k:Tok)(l:LAb):Prop:=k= .clip/\l=[]/\e\/k= .id t/\l=[t]
theorem pC{α:Type}{l:List α}{k:Nat}{x y:α}(h:y∈l.take k++x::l.drop k):y=x\/y∈l:=by
 rcases am.1 h with h|h
 ·exact .inr (cg h)
 ·rcases aq.1 h with h|h
  ·exact .inl h
  ·exact .inr (ny h)
theorem lv{α:Type}(l:List α)(k:Nat)(x:α):(l.take k++x::l.drop k).length=l.length+1:=by rw[af,ai,aw,aQ];omega
def Dgs(O:List t8):Prop:=∀x∈O,x.length<=32
theorem Dgs.ins{O:List t8}(h:Dgs O){D:t8}(z:D.length<=32)(k:Nat):Dgs (O.take k++D::O.drop k):=by
 intro x y;rcases pC y with rfl|y
 ·exact z
 ·exact h x y
theorem xgn(b:t8)(H:b.length<=1000000):∀(n i:Nat),b.length-i=n->i<=b.length->
 run T (.loop ux) ⟨[(0,bN b),(3,iV i)],[],[]⟩=some (.x 0,⟨[(0,bN b)],[],[]⟩)\/run T (.loop ux) ⟨[(0,bN b),(3,iV i)],[],[]⟩=some (.r,⟨[(2,.bool false)],[],[]⟩):=by
 intro n;induction n with
 |zero=>
  intro i h0 h1;have hi:i=b.length:=by omega
  subst hi;left;rw[ab];simp only[go_sem,simprocAttr]
 |succ n F=>
  intro i h0 h1;have hi:i<b.length:=by omega
  have C:=bJ i;have z:=F (i+1) (by omega) (by omega);rw[ab]
  by_cases y:b.getD i 0<32
  ·right
   simp only[go_sem,simprocAttr,hi,y]
  ·by_cases a2:126<b.getD i 0
   ·right
    simp only[go_sem,simprocAttr,hi,y,a2]
   ·simp only[go_sem,simprocAttr,hi,C,y,a2]
    exact z
theorem xhI(b:t8)(y:b.length<=1000000):∃q,call T 331 [bN b] [] 0=okV (.bool q):=by
 have h:=xgn b y _ 0 rfl (aC _);rw[ak]at h;rw[ccT 331];rcases h with h|h
 ·exact⟨_,by simp only[go_sem,simprocAttr,h];rfl⟩
 ·exact⟨false,by simp only[go_sem,simprocAttr,h]⟩
theorem xgs(
 g k:Int)(d0 d1 b:t8)(Q:b.length<=1000000)(K:d0.length<=1000000)(J:d1.length<=1000000)(O:List (Nat×aG))(I:O=[(101,.rc [iV g,iV k,.lst 1 [[bN d0],[bN d1]] .no,bN b])]):
 run T (.loop oY) ⟨[(1,.ptr 101 0),(3,iV 0)],O,[]⟩=some (.x 0,⟨[],O,[]⟩)\/run T (.loop oY) ⟨[(1,.ptr 101 0),(3,iV 0)],O,[]⟩=some (.r,⟨[(2,.bool false)],O,[]⟩):=by
 subst I;have g0:=J9 b;have g1:=J8 b;have C:=f95 d0 (yh b);have g3:=f95 d1 (sha b);have k1:ah.wrap 1=1:=rfl;have k2:ah.wrap 2=2:=rfl;generalize decide (d0=yh b)=H at*;generalize decide (d1=sha b)=F at*
 by_cases z:k=5
 ·by_cases y:(0:Int)<d0.length
  ·right
   rw[ab];simp only[go_sem,simprocAttr,z,y]
  ·by_cases a2:(0:Int)<d1.length
   ·right
    iterate 2
     rw[ab];simp only[go_sem,simprocAttr,z,y,a2,k1]
   ·left
    iterate 3
     rw[ab];simp only[go_sem,simprocAttr,z,y,a2,k1,k2]
 ·by_cases y:(0:Int)<d0.length
  ·cases H with
   |false=>right;rw[ab];simp only[go_sem,simprocAttr,z,y,g0,C]
   |true=>
    by_cases a2:(0:Int)<d1.length
    ·cases F with
     |false=>
      right
      iterate 2
       rw[ab];simp only[go_sem,simprocAttr,z,y,a2,k1,g0,g1,C,g3]
     |true=>
      left
      iterate 3
       rw[ab];simp only[go_sem,simprocAttr,z,y,a2,k1,k2,g0,g1,C,g3]
    ·left
     iterate 3
      rw[ab];simp only[go_sem,simprocAttr,z,y,a2,k1,k2,g0,C]
  ·by_cases a2:(0:Int)<d1.length
   ·cases F with
    |false=>
     right
     iterate 2
      rw[ab];simp only[go_sem,simprocAttr,z,y,a2,k1,g1,g3]
    |true=>
     left
     iterate 3
      rw[ab];simp only[go_sem,simprocAttr,z,y,a2,k1,k2,g1,g3]
   ·left
    iterate 3
     rw[ab];simp only[go_sem,simprocAttr,y,a2,k1,k2]
theorem xeF(e:Ev)(h:Io e):∃q,call T 307 [.agg e.sv] [] 0=okV (.bool q):=by
 obtain⟨Z,J,H,F⟩:=h;obtain⟨g,k,K,b⟩:=e;simp only at Z J H F;rw[two K [] Z];generalize K.getD 0 []=d0 at*;generalize K.getD 1 []=d1 at*;have C:=xgs g k d0 d1 b J H F _ rfl;have p0:=xeV;have p4:=f95 b [0,0,0,0];obtain⟨z,p⟩:=xhI b J;have I:bls [d0,d1]=[[bN d0],[bN d1]]:=rfl;rw[ccT 307];unfold Ev.sv;simp only[I];generalize decide (b=[0,0,0,0])=y at*
 by_cases h1:k=1
 ·exact⟨true,by simp only[go_sem,simprocAttr,h1]⟩
 by_cases Q:k<1
 ·exact⟨false,by simp only[go_sem,simprocAttr,h1,Q]⟩
 by_cases h7:5<k
 ·exact⟨false,by simp only[go_sem,simprocAttr,h1,Q,h7]⟩
 by_cases h2:k=2
 ·subst h2
  cases y with
  |false=>exact⟨_,by simp only[go_sem,simprocAttr,p0,p4];rfl⟩
  |true=>rcases C with C|C<;>exact⟨_,by simp only[go_sem,simprocAttr,p0,p4,C];rfl⟩
 by_cases h3:k=3
 ·subst h3
  cases z with
  |false=>exact⟨_,by simp only[go_sem,simprocAttr,p];rfl⟩
  |true=>rcases C with C|C<;>exact⟨_,by simp only[go_sem,simprocAttr,p,C];rfl⟩
 rcases C with C|C<;>exact⟨_,by simp only[go_sem,simprocAttr,h1,h2,h3,Q,h7,C];rfl⟩
theorem xeN(e:Ev):∃p,(p=0\/p=1\/p=2\/p=3\/p=4\/p=5\/p= -1)/\call T 259 [.agg e.sv] [] 0=okV (iV p):=by
 obtain⟨g,k,d,b⟩:=e;rw[ccT 259];unfold Ev.sv
 by_cases h0:k=5
 ·subst h0;exact⟨0,by simp,by simp only[go_sem,simprocAttr]⟩
 by_cases h1:k=1
 ·subst h1
  by_cases h2:g=0
  ·subst h2;exact⟨1,by simp,by simp only[go_sem,simprocAttr]⟩
  ·by_cases h3:g=4
   ·subst h3;exact⟨2,by simp,by simp only[go_sem,simprocAttr]⟩
   ·by_cases h4:g=8
    ·subst h4;exact⟨4,by simp,by simp only[go_sem,simprocAttr]⟩
    ·exact⟨-1,by simp,by simp only[go_sem,simprocAttr,h2,h3,h4]⟩
 ·by_cases z:k=2
  ·subst z
   by_cases h3:g<=7
   ·exact⟨3,by simp,by simp only[go_sem,simprocAttr,h3]⟩
   ·exact⟨-1,by simp,by simp only[go_sem,simprocAttr,h3]⟩
  ·by_cases y:k=3
   ·subst y
    by_cases h4:g=9
    ·subst h4;exact⟨5,by simp,by simp only[go_sem,simprocAttr]⟩
    ·exact⟨-1,by simp,by simp only[go_sem,simprocAttr,h4]⟩
   ·exact⟨-1,by simp,by simp only[go_sem,simprocAttr,h0,h1,z,y]⟩
theorem xgD(a z:Int)(C:List Ev)(hl:C.length<=1000000)(O:List (Nat×aG))(hO:O=[(101,.rc (bL a z C))]):∀(n i:Nat)(H nx:Int),C.length-i=n->i<=C.length->
 (∃K,run T (.loop pd) ⟨[(1,.ptr 101 0),(5,iV H),(6,iV nx),(7,iV i)],O,[]⟩=some (.x 0,⟨[(1,.ptr 101 0),(5,iV K)],O,[]⟩))\/
 ∃K i' c,run T (.loop pd) ⟨[(1,.ptr 101 0),(5,iV H),(6,iV nx),(7,iV i)],O,[]⟩=some (.r,⟨[(2,iV K),(3,iV i'),(4,iV c)],O,[]⟩):=by
 subst hO;intro n;induction n with
 |zero=>
  intro i H nx h0 h1;have hi:i=C.length:=by omega
  subst hi;have hv:=cW C;refine .inl ⟨H, ?_⟩;unfold bL;rw[ab];simp only[go_sem,simprocAttr,hv]
 |succ n ih=>
  intro i H nx h0 h1;have hi:i<C.length:=by omega
  have y:(i:Int)<(C.length:Int):=by omega
  have Q:=bJ i;have I:=fun p q=>ih (i+1) p q (by omega) (by omega)
  obtain⟨p,Z,g⟩:=xeN (C.getD i ev0);have F:=jg C i hi;have hv:=cW C;generalize C.getD i ev0=e at*;unfold bL at*;obtain⟨r,k,d,b⟩:=e;simp only[Ev.sv]at F g ⊢;rw[ab];rcases Z with rfl|rfl|rfl|rfl|rfl|rfl|rfl
  ·simp only[go_sem,simprocAttr,y,Q,F,hv,g]
   exact I _ _
  ·by_cases k1:H<=1
   ·by_cases k2:0<H<;>simp only[go_sem,simprocAttr,y,Q,F,hv,g,k1,k2]<;>exact I _ _
   ·exact .inr ⟨_,_,_,by simp only[go_sem,simprocAttr,y,F,hv,g,k1];rfl⟩
  ·by_cases k1:H<=2
   ·by_cases k2:0<H
    ·simp only[go_sem,simprocAttr,y,Q,F,hv,g,k1,k2]
     exact I _ _
    ·exact .inr ⟨_,_,_,by simp only[go_sem,simprocAttr,y,F,hv,g,k1,k2];rfl⟩
   ·exact .inr ⟨_,_,_,by simp only[go_sem,simprocAttr,y,F,hv,g,k1];rfl⟩
  ·by_cases k1:H<=3
   ·by_cases k2:0<H
    ·by_cases J:r=nx
     ·subst J
      simp only[go_sem,simprocAttr,y,Q,F,hv,g,k1,k2];exact I _ _
     ·exact .inr ⟨_,_,_,by simp only[go_sem,simprocAttr,y,F,hv,g,k1,k2,J];rfl⟩
    ·exact .inr ⟨_,_,_,by simp only[go_sem,simprocAttr,y,F,hv,g,k1,k2];rfl⟩
   ·exact .inr ⟨_,_,_,by simp only[go_sem,simprocAttr,y,F,hv,g,k1];rfl⟩
  ·by_cases k1:H<=4
   ·by_cases k2:0<H
    ·by_cases J:nx=8
     ·subst J
      simp only[go_sem,simprocAttr,y,Q,F,hv,g,k1,k2];exact I _ _
     ·exact .inr ⟨_,_,_,by simp only[go_sem,simprocAttr,y,F,hv,g,k1,k2,J];rfl⟩
    ·exact .inr ⟨_,_,_,by simp only[go_sem,simprocAttr,y,F,hv,g,k1,k2];rfl⟩
   ·exact .inr ⟨_,_,_,by simp only[go_sem,simprocAttr,y,F,hv,g,k1];rfl⟩
  ·by_cases k1:H<=5
   ·by_cases k2:0<H
    ·by_cases J:nx=8
     ·subst J
      simp only[go_sem,simprocAttr,y,Q,F,hv,g,k1,k2];exact I _ _
     ·exact .inr ⟨_,_,_,by simp only[go_sem,simprocAttr,y,F,hv,g,k1,k2,J];rfl⟩
    ·exact .inr ⟨_,_,_,by simp only[go_sem,simprocAttr,y,F,hv,g,k1,k2];rfl⟩
   ·exact .inr ⟨_,_,_,by simp only[go_sem,simprocAttr,y,F,hv,g,k1];rfl⟩
  ·by_cases k1:H<= -1
   ·by_cases k2:0<H
    ·exact absurd k2 (by omega)
    ·exact .inr ⟨_,_,_,by simp only[go_sem,simprocAttr,y,F,hv,g,k1,k2];rfl⟩
   ·exact .inr ⟨_,_,_,by simp only[go_sem,simprocAttr,y,F,hv,g,k1];rfl⟩
theorem xhZ(a z:Int)(y:List Ev)(C:y.length<=1000000):∃F i c,call T 257 [.agg (bL a z y)] [] 0=okV (.tup [iV F,iV i,iV c]):=by
 have h:=xgD a z y C _ rfl _ 0 0 0 rfl (aC _);have hv:=cW y;unfold bL at*;rw[ak]at h;rw[ccT 257];rcases h with⟨p,h⟩|⟨p,i,c,h⟩
 ·exact⟨p,y.length,0,by simp only[go_sem,simprocAttr,hv,h]⟩
 ·exact⟨p,i,c,by simp only[go_sem,simprocAttr,h]⟩
theorem f61(m:Man)(y:gg m):∃D,D.length<=32/\call T 61 [.agg m.sv] [] 0=okV (bN D):=by
 have g1:=f48 m y;have F:=L3 m y;have C:=YZ 21 (nu m);generalize nu m=E at*;rw[ccT 61];unfold Man.sv at*
 by_cases z:(E.length:Int)=0
 ·exact⟨[],by decide,by simp only[go_sem,simprocAttr,g1,z]⟩
 ·exact⟨lJ 21 E,by unfold lJ;rw[fC];decide,by simp only[go_sem,simprocAttr,g1,z,C]⟩
theorem xgF(c:Ct)(hc:tE c)(v:t8)(C:Int):∀(n i:Nat)(a:Int),c.ms.length-i=n->i<=c.ms.length->
 ∃Z,run T (.loop zo) ⟨[(1,.str v),(2,iV C),(3,.ptr 103 0),(7,iV a),(8,iV i)],[(103,.rc c.sv)],[]⟩=some (.x 0,⟨[(7,iV Z)],[(103,.rc c.sv)],[]⟩):=by
 intro n;have hv:=fG c.ms;have hn:=hc.nm;induction n with
 |zero=>
  intro i a h0 h1;have hi:i=c.ms.length:=by omega
  subst hi;refine⟨a, ?_⟩;unfold Ct.sv;rw[ab];simp only[go_sem,simprocAttr,hv]
 |succ n Q=>
  intro i a h0 h1;have K:i<c.ms.length:=by omega
  have y:(i:Int)<(c.ms.length:Int):=by omega
  have H:=bJ i;have F:=kD c.ms i K;have z:=fun a=>Q (i+1) a (by omega) (by omega)
  generalize c.ms.getD i mn0=x at*;obtain⟨mv,m1,m2,m3,m4,me,mr⟩:=x;unfold Ct.sv at*;simp only[Man.sv]at*;rw[ab]
  by_cases I:mv=v
  ·by_cases J:m3<=C
   ·simp only[go_sem,simprocAttr,hv,y,F,I,J,H]
    exact z _
   ·simp only[go_sem,simprocAttr,hv,y,F,I,J,H]
    exact z _
  ·simp only[go_sem,simprocAttr,hv,y,F,I,H]
   exact z _
theorem xh3(c:Ct)(C:tE c)(v:t8)(y:Int):∃a,call T 251 [.agg c.sv,.str v,iV y] [] 0=okV (iV a):=by obtain⟨a,z⟩:=xgF c C v y _ 0 0 rfl (aC _);rw[ak]at z;refine⟨a, ?_⟩;unfold Ct.sv at*;rw[ccT 251];simp only[go_sem,simprocAttr,z]
theorem xgT(c:Ct)(Q:tE c)(m:Man)(z:Int)(D:t8)(hD:D.length<=32):∀(n i:Nat),c.ws.length-i=n->i<=c.ws.length->
 run T (.loop uD) ⟨[(2,iV z),(3,.ptr 103 0),(7,bN D),(8,iV i)],[(103,.rc c.sv),(104,.rc m.sv)],[]⟩=some (.r,⟨[(6,.bool false)],[(103,.rc c.sv),(104,.rc m.sv)],[]⟩)\/
 run T (.loop uD) ⟨[(2,iV z),(3,.ptr 103 0),(7,bN D),(8,iV i)],[(103,.rc c.sv),(104,.rc m.sv)],[]⟩=some (.x 0,⟨[],[(103,.rc c.sv),(104,.rc m.sv)],[]⟩):=by
 have Z:=Q.nw;have hv:=kx c.ws;intro n;induction n with
 |zero=>
  intro i h0 h1;have hi:i=c.ws.length:=by omega
  subst hi;right;unfold Ct.sv Man.sv;rw[ab];simp only[go_sem,simprocAttr,hv]
 |succ n ih=>
  intro i h0 h1;have J:i<c.ws.length:=by omega
  have C:(i:Int)<(c.ws.length:Int):=by omega
  have K:=bJ i;have H:=tG c.ws i J;have hx:=Q.w _ (cM c.ws wd0 i J);have F:=ih (i+1) (by omega) (by omega);generalize c.ws.getD i wd0=w at*;have g1:=f95 w.man D;obtain⟨wm,wf⟩:=w;unfold Ct.sv Man.sv at*;simp only[Wd.sv]at*;generalize decide (wm=D)=y at*;rw[ab]
  by_cases I:wf<=z
  ·cases y with
   |true=>exact .inl (by simp only[go_sem,simprocAttr,hv,C,H,I,g1])
   |false=>simp only[go_sem,simprocAttr,hv,C,H,I,g1,K];exact F
  ·simp only[go_sem,simprocAttr,hv,C,H,I,K]
   exact F
theorem xij(c:Ct)(Q:tE c)(m:Man)(J:gg m)(y:Int):∃b,call T 188 [.agg c.sv,.agg m.sv,iV y] [] 0=okV (.bool b):=by
 obtain⟨F,g1⟩:=xh3 c Q m.vendor y;obtain⟨D,Z,K⟩:=f61 m J;have z:=xgT c Q m y D Z _ 0 rfl (aC _);rw[ak]at z;clear J;obtain⟨mv,m1,m2,m3,m4,me,mr⟩:=m;unfold Ct.sv at*;simp only[Man.sv]at*;rw[ccT 188]
 by_cases C:y<m3
 ·exact⟨false,by simp only[go_sem,simprocAttr,C]⟩
 by_cases H:m4<=y
 ·exact⟨false,by simp only[go_sem,simprocAttr,C,H]⟩
 by_cases I:m1<F
 ·exact⟨false,by simp only[go_sem,simprocAttr,C,H,I,g1]⟩
 rcases z with z|z
 ·exact⟨false,by simp only[go_sem,simprocAttr,C,H,I,g1,K,z]⟩
 ·exact⟨true,by simp only[go_sem,simprocAttr,C,H,I,g1,K,z]⟩
theorem xg8(c:Ct)(K:tE c)(F:Int):∀(n i:Nat)(O:List Man),c.ms.length-i=n->i<=c.ms.length->O.length<=i->(∀x∈O,x∈c.ms)->
 ∃z:List Man,z.length<=c.ms.length/\(∀x∈z,x∈c.ms)/\run T (.loop zH) ⟨[(1,iV F),(2,.ptr 102 0),(5,.lst 7 (fg O) (.id 105)),(6,iV i)],[(102,.rc c.sv)],[105]⟩=
  some (.x 0,⟨[(5,.lst 7 (fg z) (.id 105))],[(102,.rc c.sv)],[105]⟩):=by
 have a1:=K.nm;have hv:=fG c.ms;intro n;induction n with
 |zero=>
  intro i O h0 h1 h2 h3;have hi:i=c.ms.length:=by omega
  subst hi;refine⟨O,h2,h3, ?_⟩;unfold Ct.sv;rw[ab];simp only[go_sem,simprocAttr,hv]
 |succ n ih=>
  intro i O h0 h1 h2 h3;have Z:i<c.ms.length:=by omega
  have H:(i:Int)<(c.ms.length:Int):=by omega
  have e1:=bJ i;have I:=kD c.ms i Z;have Q:=cM c.ms mn0 i Z;have J:=fG O;have r1:(O.length+1)*96<=140737488355328:=by omega
  obtain⟨b,g1⟩:=xij c K (c.ms.getD i mn0) (K.m _ Q).1 F;generalize c.ms.getD i mn0=x at*;have hs:=I3 O x;cases b with
  |true=>
   obtain⟨z,k1,k2,g⟩:=ih (i+1) (O++ [x]) (by omega) (by omega) (by rw[af,aT];omega) (by
    intro y C;rcases am.1 C with C|C
    ·exact h3 y C
    ·rw[bC.1 C];exact Q)
   refine⟨z,k1,k2, ?_⟩;unfold Ct.sv at*;unfold Man.sv at I g1 hs;rw[ab];simp only[go_sem,simprocAttr,hv,H,I,g1,J,r1,hs,e1,g]
  |false=>obtain⟨z,k1,k2,g⟩:=ih (i+1) O (by omega) (by omega) (by omega) h3;refine⟨z,k1,k2, ?_⟩;unfold Ct.sv at*;unfold Man.sv at I g1 hs;rw[ab];simp only[go_sem,simprocAttr,hv,H,I,g1,e1,g]
theorem xfd(c:Ct)(C:tE c)(y:Int):∃O:List Man,O.length<=c.ms.length/\(∀x∈O,x∈c.ms)/\call T 120 [.agg c.sv,iV y] [] 0=okV (.lst 7 (fg O) .no):=by obtain⟨O,k1,k2,z⟩:=xg8 c C y _ 0 [] rfl (aC _) (aM _) (by intro x F;cases F);rw[ak,show fg []=[]from rfl]at z;refine⟨O,k1,k2, ?_⟩;unfold Ct.sv at*;rw[ccT 120];simp only[go_sem,simprocAttr,z]
theorem xhb(L:List Wd)(w:Wd)(hw:w.man.length<=32)(hL:∀x∈L,x.man.length<=32)(hn:L.length<=1000):∀(n i:Nat),L.length-i=n->i<=L.length->
 ∃k,k<=L.length/\run T (.loop zI) ⟨[(0,.lst 2 (jw L) .no),(3,.ptr 103 0),(6,iV i)],[(103,.rc w.sv)],[]⟩=some (.x 0,⟨[(0,.lst 2 (jw L) .no),(3,.ptr 103 0),(6,iV (k:Nat))],[(103,.rc w.sv)],[]⟩):=by
 intro n;have hv:=kx L;induction n with
 |zero=>
  intro i h0 h1;have hi:i=L.length:=by omega
  subst hi;refine⟨_,aM _, ?_⟩;rw[ab];simp only[go_sem,simprocAttr,hv]
 |succ n ih=>
  intro i h0 h1;have K:i<L.length:=by omega
  have C:(i:Int)<(L.length:Int):=by omega
  have Q:=bJ i;have H:=tG L i K;have hx:=hL _ (cM L wd0 i K);obtain⟨k,J,F⟩:=ih (i+1) (by omega) (by omega);generalize L.getD i wd0=x at*;have g1:=f172 x.man w.man;have I:=f95 x.man w.man;obtain⟨wm,wf⟩:=w;obtain⟨Z,xf⟩:=x;simp only[Wd.sv]at*;generalize dw Z wm=y at*;generalize decide (Z=wm)=z at*;cases y with
  |true=>exact⟨k,J,by rw[ab];simp only[go_sem,simprocAttr,hv,C,H,g1,Q,F]⟩
  |false=>
   cases z with
   |false=>exact⟨i,by omega,by rw[ab];simp only[go_sem,simprocAttr,hv,C,H,g1,I]⟩
   |true=>
    by_cases q:xf<wf
    ·exact⟨k,J,by rw[ab];simp only[go_sem,simprocAttr,hv,C,H,g1,I,q,Q,F]⟩
    ·exact⟨i,by omega,by rw[ab];simp only[go_sem,simprocAttr,hv,C,H,g1,I,q]⟩
theorem xiH(L:List Wd)(w:Wd)(J:w.man.length<=32)(I:∀x∈L,x.man.length<=32)(Q:L.length<=1000:=by omega):
 ∃(k:Nat)(b:Bool),k<=L.length/\call T 110 [.lst 2 (jw L) .no,.agg w.sv] [] 0=okV (.tup [iV k,.bool b]):=by
 obtain⟨k,F,C⟩:=xhb L w J I Q _ 0 rfl (aC _);rw[ak]at C;have hv:=kx L;rw[ccT 110]
 by_cases H:k<L.length
 ·have z:(k:Int)<(L.length:Int):=by omega
  have K:=tG L _ H;have Z:=I _ (cM L wd0 _ H);generalize L.getD k wd0=x at*;have g:=xin x w;generalize decide (x=w)=y at*;unfold Wd.sv at*;exact⟨k,y,F,by simp only[go_sem,simprocAttr,hv,C,z,K,g]⟩
 ·have z:¬(k:Int)<(L.length:Int):=by omega
  unfold Wd.sv at*;exact⟨k,false,F,by simp only[go_sem,simprocAttr,hv,C,z]⟩
theorem xaM(B:t8)(hB:B.length<=1000000)(v:t8)(ve fl fr ti F N:Int):∀(n i:Nat)(es:List Ent)(s:Rs)(t:Tok)(tk:LAb),17-i=n->i<=17->es.length<=i->jP B s->(∀x∈es,x.name.length<=B.length/\x.dig.length<=B.length)->tkQ 161 (es=[]) t tk->
 ∃(z:List Ent)(Z:Rs)(t':Tok)(tk':LAb),z.length<=17/\jP B Z/\(∀x∈z,x.name.length<=B.length/\x.dig.length<=B.length)/\tkQ 161 (z=[]) t' tk'/\
  run T (.loop sA) ⟨[(2,.ptr 102 0),(4,.ptr 15100 0),(5,.ptr 105 0),(6,iV F),(7,iV N),(8,iV i)],[(102,zR),(105,mR v ve fl fr ti es t [] .clip),(15100,rqO B s)],tk⟩=
   some (.x 0,⟨[(2,.ptr 102 0),(4,.ptr 15100 0),(5,.ptr 105 0),(6,iV F)],[(102,zR),(105,mR v ve fl fr ti z t' [] .clip),(15100,rqO B Z)],tk'⟩):=by
 intro n;induction n with
 |zero=>
  intro i es s t tk h0 h1 hl h2 hx C;refine⟨es,s,t,tk,by omega,h2,hx,C, ?_⟩;have hI:¬(i:Int)<=16:=by omega
  rw[ab]
  by_cases I:(i:Int)<N<;>rcases C with⟨rfl,rfl,rfl⟩|⟨rfl,rfl⟩<;>simp only[zR,mR,rqO]<;>simp only[go_sem,simprocAttr,I,hI]
 |succ n ih=>
  intro i es s t tk h0 h1 hl h2 hx C
  by_cases I:(i:Int)<N
  ·have hI:(i:Int)<=16:=by omega
   have e1:=bJ i;have hv:=dU es;have b1:(es.length+1)*56<=140737488355328:=by omega
   have k1:=jA (n:=1) h2;have g1:=qw B (by omega) 1 (by omega) (by omega) s h2;generalize uR B 1 s=p1 at*;obtain⟨x1,s1⟩:=p1;simp only at k1 g1;have k2:=tz (n:=12) k1;have H:=Ia B (by omega) 12 (by omega) s1 k1;have c2:=Hm B 12 s1;generalize bR B 12 s1=p2 at*;obtain⟨x2,s2⟩:=p2;simp only at k2 H c2;have k3:=jA (n:=4) k2;have g3:=qw B (by omega) 4 (by omega) (by omega) s2 k2;generalize uR B 4 s2=p3 at*;obtain⟨x3,s3⟩:=p3;simp only at k3 g3;have k4:=T2 (n:=32) k3;have g4:=xe3 B (by omega) 32 (by omega) s3 k3;have c4:=U9 B 32 s3;generalize wR B 32 s3=p4 at*;obtain⟨x4,s4⟩:=p4;simp only at k4 g4 c4
   obtain⟨z,Z,t',tk',q1,q2,q3,q4,J⟩:=ih (i+1) (es++ [⟨x1,x2,x3,x4⟩]) s4 (.id 161) [161] (by omega) (by omega) (by rw[af,aT];omega) k4 (by
    intro y Q;rcases am.1 Q with Q|Q
    ·exact hx y Q
    ·rw[bC.1 Q];exact⟨c2,c4⟩) (.inr ⟨rfl,rfl⟩)
   have hs:=L2 es x1 x2 x3 x4;refine⟨z,Z,t',tk',q1,q2,q3,q4, ?_⟩;rw[show((1:Nat):Int)=1 from rfl]at g1;rw[show((12:Nat):Int)=12 from rfl]at H;rw[show((4:Nat):Int)=4 from rfl]at g3;rw[show((32:Nat):Int)=32 from rfl]at g4;clear ih q4;simp only[zR,mR,rqO]at g1 H g3 g4 J ⊢;rw[ab];rcases C with⟨rfl,rfl,rfl⟩|⟨rfl,rfl⟩
   ·have K:gV []=[]:=rfl
    simp only[K,aA]at hs J ⊢;rw[<-hs]at J;simp only[go_sem,simprocAttr,I,hI,e1,g1,H,g3,g4,J]
   ·simp only[go_sem,simprocAttr,I,hI,e1,g1,H,g3,g4,hv,b1,hs,J]
  ·refine⟨es,s,t,tk,by omega,h2,hx,C, ?_⟩
   rw[ab];rcases C with⟨rfl,rfl,rfl⟩|⟨rfl,rfl⟩<;>simp only[zR,mR,rqO]<;>simp only[go_sem,simprocAttr,I]
theorem xaL(B:t8)(hB:B.length<=1000000)(v:t8)(ve fl fr ti a1 N:Int)(es:List Ent)(t2:Tok)(I:LAb)(K:tkQ 161 (es=[]) t2 I):∀(n i:Nat)(rs:List Rul)(s:Rs)(t:Tok)(tk:LAb),9-i=n->i<=9->rs.length<=i->jP B s->(∀x∈rs,x.text.length<=B.length)->tkQ 191 (rs=[]) t tk->
 ∃(z:List Rul)(s':Rs)(t':Tok)(tk':LAb),z.length<=9/\jP B s'/\(∀x∈z,x.text.length<=B.length)/\tkQ 191 (z=[]) t' tk'/\
  run T (.loop sx) ⟨[(2,.ptr 102 0),(4,.ptr 15100 0),(5,.ptr 105 0),(6,iV a1),(10,iV N),(11,iV i)],[(102,zR),(105,mR v ve fl fr ti es t2 rs t),(15100,rqO B s)],I++tk⟩=
   some (.x 2,⟨[(2,.ptr 102 0),(4,.ptr 15100 0),(5,.ptr 105 0),(6,iV a1)],[(102,zR),(105,mR v ve fl fr ti es t2 z t'),(15100,rqO B s')],I++tk'⟩):=by
 intro n;induction n with
 |zero=>
  intro i rs s t tk h0 h1 hl h2 hx Q;refine⟨rs,s,t,tk,by omega,h2,hx,Q, ?_⟩;have Z:¬(i:Int)<=8:=by omega
  rw[ab]
  by_cases J:(i:Int)<N<;>rcases K with⟨rfl,rfl,rfl⟩|⟨rfl,rfl⟩<;>rcases Q with⟨rfl,rfl,rfl⟩|⟨rfl,rfl⟩<;>simp only[zR,mR,rqO]<;>simp only[go_sem,simprocAttr,J,Z]
 |succ n ih=>
  intro i rs s t tk h0 h1 hl h2 hx Q
  by_cases J:(i:Int)<N
  ·have Z:(i:Int)<=8:=by omega
   have e1:=bJ i;have hv:=eV rs;have b1:(rs.length+1)*40<=140737488355328:=by omega
   have k1:=jA (n:=1) h2;have g1:=qw B (by omega) 1 (by omega) (by omega) s h2;generalize uR B 1 s=p1 at*;obtain⟨x1,s1⟩:=p1;simp only at k1 g1;have k2:=tz (n:=32) k1;have H:=Ia B (by omega) 32 (by omega) s1 k1;have c2:=Hm B 32 s1;generalize bR B 32 s1=p2 at*;obtain⟨x2,s2⟩:=p2;simp only at k2 H c2;have k3:=jA (n:=4) k2;have g3:=qw B (by omega) 4 (by omega) (by omega) s2 k2;generalize uR B 4 s2=p3 at*;obtain⟨x3,s3⟩:=p3;simp only at k3 g3;have k4:=jA (n:=4) k3;have g4:=qw B (by omega) 4 (by omega) (by omega) s3 k3;generalize uR B 4 s3=p4 at*;obtain⟨x4,s4⟩:=p4;simp only at k4 g4
   obtain⟨z,s',t',tk',q1,q2,q3,q4,C⟩:=ih (i+1) (rs++ [⟨x1,x2,x3,x4⟩]) s4 (.id 191) [191] (by omega) (by omega) (by rw[af,aT];omega) k4 (by
    intro y hy;rcases am.1 hy with hy|hy
    ·exact hx y hy
    ·rw[bC.1 hy];exact c2) (.inr ⟨rfl,rfl⟩)
   have hs:=AE rs x1 x2 x3 x4;refine⟨z,s',t',tk',q1,q2,q3,q4, ?_⟩;rw[show((1:Nat):Int)=1 from rfl]at g1;rw[show((32:Nat):Int)=32 from rfl]at H;rw[show((4:Nat):Int)=4 from rfl]at g3 g4;clear ih q4;simp only[zR,mR,rqO]at g1 H g3 g4 C ⊢;rw[ab];rcases K with⟨rfl,rfl,rfl⟩|⟨rfl,rfl⟩<;>rcases Q with⟨rfl,rfl,rfl⟩|⟨rfl,rfl⟩
   ·have F:jS []=[]:=rfl
    simp only[F,aA]at hs C ⊢;rw[<-hs]at C;simp only[go_sem,simprocAttr,J,Z,e1,g1,H,g3,g4,C]
   ·simp only[aA]at C ⊢
    simp only[go_sem,simprocAttr,J,Z,e1,g1,H,g3,g4,hv,b1,hs,C]
   ·have F:jS []=[]:=rfl
    simp only[F,aA,aL]at hs C ⊢;rw[<-hs]at C;simp only[go_sem,simprocAttr,J,Z,e1,g1,H,g3,g4,C]
   ·simp only[aL,aA]at C ⊢
    simp only[go_sem,simprocAttr,J,Z,e1,g1,H,g3,g4,hv,b1,hs,C]
  ·refine⟨rs,s,t,tk,by omega,h2,hx,Q, ?_⟩
   rw[ab];rcases K with⟨rfl,rfl,rfl⟩|⟨rfl,rfl⟩<;>rcases Q with⟨rfl,rfl,rfl⟩|⟨rfl,rfl⟩<;>simp only[zR,mR,rqO]<;>simp only[go_sem,simprocAttr,J]
theorem xfg(B:t8)(hB:B.length<=1000000):∃m c,gg m/\(c=0->pD m=0)/\call T 107 [bN B] [] 0=okV (.tup [.agg m.sv,iV c]):=by
 have g0:=UI B;have k0:jP B ⟨0,0⟩:=⟨aC _⟩;have g1:=qw B (by omega) 1 (by omega) (by omega) ⟨0,0⟩ k0;have k1:=jA (n:=1) k0;generalize uR B 1 ⟨0,0⟩=p1 at*;obtain⟨x1,s1⟩:=p1;simp only at k1 g1;have Z:=Ia B (by omega) 12 (by omega) s1 k1;have k2:=tz (n:=12) k1;have c2:=Hm B 12 s1;generalize bR B 12 s1=p2 at*;obtain⟨x2,s2⟩:=p2;simp only at k2 Z c2;have g3:=qw B (by omega) 4 (by omega) (by omega) s2 k2;have k3:=jA (n:=4) k2;generalize uR B 4 s2=p3 at*;obtain⟨x3,s3⟩:=p3;simp only at k3 g3;have g4:=qw B (by omega) 4 (by omega) (by omega) s3 k3;have k4:=jA (n:=4) k3;generalize uR B 4 s3=p4 at*;obtain⟨x4,s4⟩:=p4;simp only at k4 g4;have Q:=qw B (by omega) 6 (by omega) (by omega) s4 k4;have k5:=jA (n:=6) k4;generalize uR B 6 s4=p5 at*;obtain⟨x5,s5⟩:=p5;simp only at k5 Q;have J:=qw B (by omega) 6 (by omega) (by omega) s5 k5;have k6:=jA (n:=6) k5;generalize uR B 6 s5=p6 at*;obtain⟨x6,s6⟩:=p6;simp only at k6 J;have H:=qw B (by omega) 1 (by omega) (by omega) s6 k6;have k7:=jA (n:=1) k6;generalize uR B 1 s6=p7 at*;obtain⟨N,s7⟩:=p7;simp only at k7 H;obtain⟨es,s8,t,tk,a1,a2,a3,a4,F⟩:=xaM B hB x2 x3 x4 x5 x6 x1 N _ 0 [] s7 .clip [] rfl (by decide) (by decide) k7 (fun x I=>by cases I) (.inl ⟨rfl,rfl,rfl⟩);have g8:=qw B (by omega) 1 (by omega) (by omega) s8 a2;have k9:=jA (n:=1) a2;generalize uR B 1 s8=p8 at*;obtain⟨K,s9⟩:=p8;simp only at k9 g8;obtain⟨rs,a6,u,uk,b1,b2,b3,b4,lb⟩:=xaL B hB x2 x3 x4 x5 x6 x1 K es t tk a4 _ 0 [] s9 .clip [] rfl (by decide) (by decide) k9 (fun x I=>by cases I) (.inl ⟨rfl,rfl,rfl⟩)
 have g9:=f165 B (by omega) a6 b2;have hm:gg ⟨x2,x3,x4,x5,x6,es,rs⟩:=⟨by show x2.length<=_;omega,by show es.length<=_;omega,by show rs.length<=_;omega,fun x I=>by have:=a3 x I;omega,fun x I=>by have:=b3 x I;omega⟩;have gm:=Y2 _ hm;generalize hz:pD ⟨x2,x3,x4,x5,x6,es,rs⟩=z at*;generalize eR B a6=e at*;rw[show((1:Nat):Int)=1 from rfl]at g1 H g8;rw[show((12:Nat):Int)=12 from rfl]at Z;rw[show((4:Nat):Int)=4 from rfl]at g3 g4;rw[show((6:Nat):Int)=6 from rfl]at Q J;have y:gV []=[]:=rfl;have C:jS []=[]:=rfl;simp only[zR,mR,rqO,Man.sv,y,C,ak,bO]at g0 g1 Z g3 g4 Q J H g8 g9 gm F lb
 by_cases q1:x1=21
 ·subst q1
  by_cases q2:e=0
  ·subst q2
   by_cases q3:z=0
   ·subst q3
    refine⟨⟨x2,x3,x4,x5,x6,es,rs⟩,0,hm,fun _=>hz, ?_⟩;rw[ccT 107];rcases a4 with⟨rfl,rfl,rfl⟩|⟨rfl,rfl⟩<;>rcases b4 with⟨rfl,rfl,rfl⟩|⟨rfl,rfl⟩<;>simp only[aA,aL,y,C]at lb F gm<;>simp only[go_sem,simprocAttr,g0,g1,Z,g3,g4,Q,J,H,F,g8,lb,g9,gm,Man.sv,y,C]
   ·refine⟨mn0,30,Ec,(by intro h;cases h), ?_⟩
    rw[ccT 107];rcases a4 with⟨rfl,rfl,rfl⟩|⟨rfl,rfl⟩<;>rcases b4 with⟨rfl,rfl,rfl⟩|⟨rfl,rfl⟩<;>simp only[aA,aL,y,C]at lb F gm<;>simp only[go_sem,simprocAttr,g0,g1,Z,g3,g4,Q,J,H,F,g8,lb,g9,gm,q3,mn0,Man.sv,y,C]
  ·refine⟨mn0,30,Ec,(by intro h;cases h), ?_⟩
   rw[ccT 107];rcases a4 with⟨rfl,rfl,rfl⟩|⟨rfl,rfl⟩<;>rcases b4 with⟨rfl,rfl,rfl⟩|⟨rfl,rfl⟩<;>simp only[aA,aL,y,C]at lb F gm<;>simp only[go_sem,simprocAttr,g0,g1,Z,g3,g4,Q,J,H,F,g8,lb,g9,q2,mn0,Man.sv,y,C]
 ·refine⟨mn0,30,Ec,(by intro h;cases h), ?_⟩
  rw[ccT 107];rcases a4 with⟨rfl,rfl,rfl⟩|⟨rfl,rfl⟩<;>rcases b4 with⟨rfl,rfl,rfl⟩|⟨rfl,rfl⟩<;>simp only[aA,aL,y,C]at lb F gm<;>simp only[go_sem,simprocAttr,g0,g1,Z,g3,g4,Q,J,H,F,g8,lb,q1,mn0,Man.sv,y,C]
def J6:Nat->t8
 |0=> []
 |1=> [42]
 |2=> [97,61,63]
 |3=> [42,61,42]
 |4=> [63,111,42,53]
 |5=> [99,111,117,110,116,61,63,63]
 |_=> [42,97,42,42,49,42]
def Uj:Nat->t8
 |0=> [99,111,117,110,116,61]
 |1=> [97,61]
 |_=> []
theorem Jk(v:Nat):(J6 v).length<=20:=by unfold J6;split<;>decide
theorem Lu(v:Nat):(Uj v).length<=20:=by unfold Uj;split<;>decide
theorem xiw(B:t8)(I:B.length<=1000)(i:Nat):∃(r:Rul)(j:Nat),r.text.length<=20/\call T 135 [.ptr 0 0] [bE B i] 0=some ⟨.agg r.sv,[(0,bE B j)],[]⟩:=by
 have z:=nxq B I 5 5 rfl (by decide) i;have J:=nxq B I 7 7 rfl (by decide);have H:=nxq B I 20 20 rfl (by decide);have K:=nxq B I 3 3 rfl (by decide);have F:=nxq B I 30 30 rfl (by decide);have Q:=lnq B I;have h5:=dS B i 5 (by decide);have h7:=dS B (bF B i) 7 (by decide);have Z:=dS B (bF B i) 20 (by decide);have h3:=dS B (bF B (bF B i)) 3 (by decide);have a1:=dS B (bF B (bF B (bF B i))) 30 (by decide);replace J:=J (bF B i);replace H:=H (bF B i);replace K:=K (bF B (bF B i));replace F:=F (bF B (bF B (bF B i)));replace Q:=Q (bF B i);generalize cH B i 5=v at*;generalize cH B (bF B i) 7=y at*;generalize cH B (bF B i) 20=v20 at*;generalize cH B (bF B (bF B i)) 3=v3 at*;generalize cH B (bF B (bF B (bF B i))) 30=C at*;have e:ah.wrap ((v20:Int)+(C:Int))=(v20:Int)+C:=w64;rcases (by omega:v=0\/v=1\/v=2\/(v=3\/v=4))with rfl|rfl|rfl|hv
 ·refine⟨⟨1,[],0,0⟩,bF B i,by decide, ?_⟩
  rw[ccT 135];simp only[cz0]at z;simp only[go_sem,simprocAttr,bE,Rul.sv,z]
 ·refine⟨⟨2,gq (cH B (bF B i) 6),0,0⟩,bF B (bF B i),by have:=mL (cH B (bF B i) 6);show(gq (cH B (bF B i) 6)).length<=20;omega, ?_⟩
  rw[ccT 135];simp only[cz1]at z;simp only[go_sem,simprocAttr,bE,Rul.sv,z,Q]
 ·refine⟨⟨3,J6 y,0,0⟩,bF B (bF B i),Jk _, ?_⟩
  rw[ccT 135];simp only[cz2]at z;rcases (by omega:y=0\/y=1\/y=2\/y=3\/y=4\/y=5\/y=6)with rfl|rfl|rfl|rfl|rfl|rfl|rfl<;>simp only[cz0,cz1,cz2,cz3,cz4,cz5,cz6]at J<;>simp only[go_sem,simprocAttr,bE,Rul.sv,z,J,J6]
 ·refine⟨⟨4,Uj v3,v20,(v20:Int)+C⟩,bF B (bF B (bF B (bF B i))),Lu _, ?_⟩
  rw[ccT 135];rcases hv with rfl|rfl<;>rcases (by omega:v3=0\/v3=1\/v3=2)with rfl|rfl|rfl<;>simp only[cz0,cz1,cz2,cz3,cz4]at z K<;>simp only[go_sem,simprocAttr,bE,Rul.sv,z,H,K,F,e,Uj]
def An:Nat->t8
 |0=> [97,99,109,101]
 |1=> [118,50]
 |_=> [120,45,121]
theorem xix:call T 134 [] [] 0=okV (.agg [.str (An 0),.str (An 1),.str (An 2)]):=by rw[ccT 134];simp only[go_sem,simprocAttr,An]
def ot(l:List Ent):Prop:=∀x∈l,x.name.length<=1000000/\x.dig.length<=1000000
def mT:Int:=1099511627776
theorem xgl(L:SV)(i:Int)(v:t8)(Q:Int)(es:List Ent)(tk:Tok)(J:tk= .no\/tk= .clip/\es=[])(Z:ot es)(hn:es.length<=1000000)(x:Ent):∀(n k:Nat),es.length-k=n->k<=es.length->
 ∃q,q<=es.length/\run T (.loop y9) ⟨[(2,L),(6,.ptr 106 0),(7,.ptr 107 0),(8,iV i),(10,.ptr 110 0),(11,iV k)],[(106,zR),(107,mR v Q 0 0 mT es tk [] .clip),(110,.rc x.sv)],[]⟩=
  some (.x 2,⟨[(2,L),(6,.ptr 106 0),(7,.ptr 107 0),(8,iV i),(10,.ptr 110 0),(11,iV (q:Nat))],[(106,zR),(107,mR v Q 0 0 mT es tk [] .clip),(110,.rc x.sv)],[]⟩):=by
 intro n;have hv:=dU es;induction n with
 |zero=>
  intro k h0 h1;have hk:k=es.length:=by omega
  subst hk;refine⟨_,aM _, ?_⟩;rw[ab];rcases J with rfl|⟨rfl,rfl⟩<;>simp only[zR,mR,Ent.sv]<;>simp only[go_sem,simprocAttr,hv]
 |succ n ih=>
  intro k h0 h1;have C:k<es.length:=by omega
  have z:(k:Int)<(es.length:Int):=by omega
  have K:=iH es k C;have e1:=bJ k;have hy:=Z _ (cM es en0 k C);obtain⟨q,h2,I⟩:=ih (k+1) (by omega) (by omega);have g:=Y3 (es.getD k en0) x;generalize es.getD k en0=y at*;generalize Nc y x=b at*;have H:¬es=[]:=by intro h;rw[h]at C;simp at C
  have F:tk= .no:=J.resolve_right (fun h=>H h.2);subst F;simp only[zR,mR,Ent.sv]at*;cases b with
  |true=>exact⟨q,h2,by rw[ab];simp only[go_sem,simprocAttr,hv,z,K,g,e1,I]⟩
  |false=>exact⟨k,by omega,by rw[ab];simp only[go_sem,simprocAttr,hv,z,K,g]⟩
theorem L4{x:Img}(h:mu x=0):¬((tc x).length:Int)=0:=by unfold tc;rw[if_pos h,eW];omega
theorem l44(l:List Img)(hl:∀x∈l,mu x=0)(hn:l.length<=1000)(v:t8)(ve:Int):∀(n i:Nat)(es:List Ent)(tk:Tok),l.length-i=n->i<=l.length->es.length<=i->ot es->(tk= .no\/tk= .clip/\es=[])->
 ∃(C:List Ent)(tk':Tok),C.length<=l.length/\ot C/\(tk'= .no\/tk'= .clip/\C=[])/\((es≠ []\/∃k,i<=k/\k<l.length/\(l.getD k im0).role≠4)->C≠ [])/\run T (.loop y8) ⟨[(2,.lst 4 (gK l) .no),(6,.ptr 106 0),(7,.ptr 107 0),(8,iV i)],[(106,zR),(107,mR v ve 0 0 mT es tk [] .clip)],[]⟩=
  some (.x 0,⟨[(6,.ptr 106 0),(7,.ptr 107 0)],[(106,zR),(107,mR v ve 0 0 mT C tk' [] .clip)],[]⟩):=by
 intro n;have hv:=gC l;induction n with
 |zero=>
  intro i es tk h0 h1 h2 h3 h4;have hi:i=l.length:=by omega
  subst hi;refine⟨es,tk,h2,h3,h4, ?_, ?_⟩
  ·rintro(h|⟨k,k1,k2,_⟩)
   ·exact h
   ·omega
  rw[ab];rcases h4 with rfl|⟨rfl,rfl⟩<;>simp only[zR,mR]<;>simp only[go_sem,simprocAttr,hv]
 |succ n ih=>
  intro i es tk h0 h1 h2 h3 h4;have hi:i<l.length:=by omega
  have H:(i:Int)<(l.length:Int):=by omega
  have hg:=jt l i hi;have e1:=bJ i;have hx:mu (l.getD i im0)=0:=hl _ (by rw[db hi];exact aF hi);have a8:=ih (i+1) es tk (by omega) (by omega) (by omega) h3 h4;obtain⟨b1,b2⟩:=zN hx;have g1:=xfj (l.getD i im0) b1 b2;have b3:=A8 (l.getD i im0) b1 b2;have c1:=L4 hx
  have hr:(l.getD i im0).role=4->(∃k,i<=k/\k<l.length/\(l.getD k im0).role≠4)->∃k,i+1<=k/\k<l.length/\(l.getD k im0).role≠4:=by
   rintro h ⟨k,k1,k2,I⟩;refine⟨k, ?_,k2,I⟩;rcases bq i k with h5|h5
   ·exact h5
   ·exact absurd (by rw[show k=i by omega];exact h) I
  generalize l.getD i im0=y at*;have g2:=yH (tc y);have b4:=fC (tc y);generalize hE:tc y=E at*;obtain⟨y1,y2,y3,y4⟩:=y;have ev:=dU es
  by_cases c2:y1=4
  ·subst c2
   obtain⟨C,tk',k1,k2,I,kn,F⟩:=a8;refine⟨C,tk',k1,k2,I,fun h=>kn (h.imp id (hr rfl)), ?_⟩;simp only[Img.sv]at*;rw[ab];rcases h4 with rfl|⟨rfl,rfl⟩<;>simp only[zR,mR]at F ⊢ <;>simp only[go_sem,simprocAttr,hv,H,hg,g1,c1,e1,F]
  have hD:(sha E).length<=1000000:=by omega
  generalize sha E=D at*;simp only at b1;obtain⟨k,hk,K⟩:=xgl (.lst 4 (gK l) .no) i v ve es tk h4 h3 (by omega) ⟨y1,y2,y3,D⟩ _ 0 rfl (aC _);rw[ak]at K;have tf:dq es.length (gV es)=gV es:=by rw[<-ev,cG]
  have vA:(dq k (gV es)).length=k:=by rw[aw,ev];omega
  have vD:(gT k (gV es)).length=es.length-k:=by rw[aQ,ev]
  have a1:k*56<=140737488355328:=by omega
  have a3:(k+1)*56<=140737488355328:=by omega
  have a2:(k+(1+(es.length-k)))*56<=140737488355328:=by omega
  have a4:(k+1+(es.length-k))*56<=140737488355328:=by omega
  have ei:(gV es).take k++([iV y1,.str y2,iV y3,bN D]::(gV es).drop k)=gV (es.take k++⟨y1,y2,y3,D⟩::es.drop k):=by simp[gV,gw,nz,Ent.sv]
  have a6:es.take k++(⟨y1,y2,y3,D⟩:Ent)::es.drop k≠ []:=by simp
  have a7:=ih (i+1) (es.take k++⟨y1,y2,y3,D⟩::es.drop k) .no (by omega) (by omega) (by rw[lv];omega) (by
   intro z hz;rcases pC hz with rfl|hz
   ·exact⟨b1,hD⟩
   ·exact h3 z hz) (.inl rfl)
  simp only[Img.sv]at*
  by_cases hq:k<es.length
  ·have Z:(k:Int)<(es.length:Int):=by omega
   have J:=iH es k hq;have g3:=Y3 ⟨y1,y2,y3,D⟩ (es.getD k en0) (by show D.length<=_;omega);generalize es.getD k en0=z at*;generalize Nc ⟨y1,y2,y3,D⟩ z=b at*;have Q:es≠ []:=by intro h;rw[h]at hq;simp at hq
   obtain rfl:tk= .no:=h4.resolve_right (fun h=>Q h.2);cases b with
   |true=>obtain⟨C,tk',k1,k2,I,kn,F⟩:=a7;refine⟨C,tk',k1,k2,I,fun _=>kn (.inl a6), ?_⟩;simp only[zR,mR,Ent.sv]at K g3 J F ⊢;rw[ab];simp only[go_sem,simprocAttr,hv,H,hg,g1,c1,c2,g2,K,ev,Z,hk,J,g3,tf,vA,vD,a1,a3,a4,ei,e1,F]
   |false=>obtain⟨C,tk',k1,k2,I,kn,F⟩:=a8;refine⟨C,tk',k1,k2,I,fun _=>kn (.inl Q), ?_⟩;simp only[zR,mR,Ent.sv]at K g3 J F ⊢;rw[ab];simp only[go_sem,simprocAttr,hv,H,hg,g1,c1,c2,g2,K,ev,Z,J,g3,e1,F]
  ·have Z:¬(k:Int)<(es.length:Int):=by omega
   obtain⟨C,tk',k1,k2,I,kn,F⟩:=a7;refine⟨C,tk',k1,k2,I,fun _=>kn (.inl a6), ?_⟩;simp only[zR,mR,Ent.sv]at K F ⊢;rw[ab];rcases h4 with rfl|⟨rfl,rfl⟩
   ·simp only[go_sem,simprocAttr,hv,H,hg,g1,c1,c2,g2,K,ev,Z,hk,tf,vA,vD,a1,a3,a4,ei,e1,F]
   ·have Q:k=0:=by simpa using hk
    subst Q;simp only[show gV []=[]from rfl,List.take_nil,List.drop_nil,aA,ak]at K ei F ⊢;rw[<-ei]at F;simp only[go_sem,simprocAttr,hv,H,hg,g1,c1,c2,g2,K,a1,a3,e1,F]
theorem f44(l:List Img)(H:∀x∈l,mu x=0)(J:l.length<=1000)(F:∃k,k<l.length/\(l.getD k im0).role=1)(v:t8)(z:Int):∃es:List Ent,es.length<=l.length/\ot es/\call T 44 [.str v,iV z,.lst 4 (gK l) .no] [] 0=okV (.agg [.str v,iV z,iV 0,iV 0,iV mT,.lst 4 (gV es) .no,.lst 4 [] .clip]):=by
 obtain⟨es,tk,k1,k2,K,kn,C⟩:=l44 l H J v z _ 0 [] .clip rfl (aC _) (aM _) (fun x I=>by cases I) (.inr ⟨rfl,rfl⟩)
 have y:es≠ []:=kn (.inr (by obtain⟨k,h1,h2⟩:=F;exact⟨k,aC _,h1,by rw[h2];decide⟩))
 obtain rfl:tk= .no:=K.resolve_right (fun h=>y h.2)
 have Q:(gV es).isEmpty=false:=by
  cases es with
  |nil=>exact absurd rfl y
  |cons a r=>rfl
 refine⟨es,k1,k2, ?_⟩;rw[ak,show mT=1099511627776 from rfl]at C;rw[ccT 44,show mT=1099511627776 from rfl];simp only[zR,mR,show gV []=[]from rfl,show jS []=[]from rfl]at C;simp only[go_sem,simprocAttr,C]
theorem f46:call T 46 [iV 0,iV 0] [] 0=okV (.agg (Tr.sv ⟨[⟨3,AJ (mW 3) 1⟩],1⟩)):=by have g1:=f16 0 3 (by decide) (by decide) (by decide);have y:=f16 0 1 (by decide) (by decide) (by decide);have g3:=f73 3;have g4:=xfh (mW 3) (by rw[oC];decide);rw[show Sz 0 3=0 from rfl]at g1;rw[show Sz 0 1=0 from rfl]at y;rw[show((3:Nat):Int)=3 from rfl]at g3;have k1:ah.wrap 1=1:=rfl;have z:ah.wrap 3=3:=rfl;have k0:ah.wrap 0=0:=rfl;generalize AJ (mW 3) 1=P at*;rw[ccT 46];simp only[go_sem,simprocAttr];rw[ab];simp only[go_sem,simprocAttr,g1,g3,g4,k0,k1,z];rw[ab];simp only[go_sem,simprocAttr,g1,y,k1,Tr.sv,nR,Au.sv,ax,aK]
theorem f49(c:Ct)(K:t8)(y:K.length=32):call T 49 [.agg c.sv,bN K] [] 0=okV (.tup [.agg (Sv.sv ⟨0,nR c.au,c.th,fg c.ms,jw c.ws,K,1,[],⟨[],[]⟩,[],[]⟩),iV 0]):=by have g:=xiG K y;unfold ey at g;unfold Ct.sv Sv.sv;simp only[aK,show lc []=[]from rfl,show jm []=[]from rfl]at*;rw[ccT 49];simp only[go_sem,simprocAttr,g]
def enN(m:Nat)(a:Int):En:=⟨m,a,[(qtg (2*m)).sv,(qtg (2*m+1)).sv],[],sha [112,ub m],[],1,3,0,[],aB 32 0⟩
theorem f51(m:Nat)(a:Int)(F:m<=100):call T 51 [iV m,iV a] [] 0=okV (.agg (enN m a).sv):=by
 have z:ah.wrap (2*(m:Int))=((2*m:Nat):Int):=by rw[w64];omega
 have C:=bJ (2*m);have g1:=Y1 (2*m);have y:=Y1 (2*m+1);have g3:=yH [112,ub m] (by simp);unfold ub at g3;unfold enN En.sv ub;generalize qtg (2*m)=A at*;generalize qtg (2*m+1)=B at*;generalize sha [112,aO m]=D at*;unfold Ar.sv at*;rw[ccT 51];simp only[go_sem,simprocAttr,z,C,g1,y,g3]
 try rfl
def zSv:aG:= .rc [iV 0,.lst 2 [] .clip,iV 0,.lst 7 [] .clip,.lst 2 [] .clip,.byt [] .clip,iV 0,.lst 3 [] .clip,.lst 3 [] .clip,.lst 3 [] .clip,.lst 11 [] .clip,.lst 4 [] .clip]
theorem l50(s:Sv)(e:En)(y:aG)(I:∃H:En,y= .rc H.sv)(he:∀x∈s.E,x.m<e.m)(hn:s.E.length<=100):∀(n k:Nat),s.E.length-k=n->k<=s.E.length->
 run T (.loop yZ) ⟨[(2,.ptr 102 0),(3,.ptr 103 0),(4,.ptr 104 0),(8,iV k)],[(102,.rc s.sv),(103,.rc e.sv),(104,zSv),(106,y)],[]⟩=
  some (.x 0,⟨[(2,.ptr 102 0),(3,.ptr 103 0),(4,.ptr 104 0),(8,iV s.E.length)],[(102,.rc s.sv),(103,.rc e.sv),(104,zSv),(106,y)],[]⟩):=by
 obtain⟨H,rfl⟩:=I;intro n;have hv:=fY s.E;induction n with
 |zero=>
  intro k h0 h1;have Q:k=s.E.length:=by omega
  subst Q;unfold zSv Sv.sv En.sv;rw[ab];simp only[go_sem,simprocAttr,hv]
 |succ n ih=>
  intro k h0 h1;have F:k<s.E.length:=by omega
  have z:(k:Int)<(s.E.length:Int):=by omega
  have J:=mM s.E k F;have Z:=bJ k;have K:=he _ (cM s.E lT k F);have C:=ih (k+1) (by omega) (by omega);generalize s.E.getD k lT=x at*;unfold zSv Sv.sv En.sv at*;rw[ab];simp only[go_sem,simprocAttr,hv,z,J,K,Z,C]
theorem Cq(l:List En)(e:En):lc l++ [e.sv]=lc (l++ [e]):=by simp[lc]
theorem f50(s:Sv)(e:En)(h1:1<=e.m)(h4:e.m<=4)(ha:e.a=2\/e.a=3)(F:e.q.length=2)(z:∀x∈s.E,x.m<e.m)(Z:s.E.length<=100):
 call T 50 [.agg s.sv,.agg e.sv] [] 0=okV (.tup [.agg {s with E:=s.E++ [e]}.sv,iV 0]):=by
 obtain⟨I,b,C,g⟩:=UK s e.m
 have y:b=false:=by
  cases b with
  |false=>rfl
  |true=>obtain⟨k1,k2⟩:=C rfl;have:=z _ k1;omega
 subst y;have L:=l50 s e _ ⟨I,rfl⟩ z Z _ 0 rfl (aC _);rw[ak]at L;have hv:=fY s.E;have Q:dq s.E.length (lc s.E)=lc s.E:=by rw[<-hv,cG]
 have K:gT s.E.length (lc s.E)=[]:=by rw[<-hv,bx]
 have a1:s.E.length*184<=140737488355328:=by omega
 have a2:(s.E.length+1)*184<=140737488355328:=by omega
 have a3:(s.E.length+1+0)*184<=140737488355328:=by omega
 have hs:=Cq s.E e;have H:¬e.m<1:=by omega
 have q2:¬4<e.m:=by omega
 have q3:(e.q.length:Int)=2:=by omega
 clear C z;unfold zSv at L;obtain⟨m,a,q,p1,p2,p3,k,J,h,po,un⟩:=e;unfold Sv.sv at*;simp only[En.sv]at*;rw[ccT 50,<-hs];rcases ha with rfl|rfl<;>simp only[go_sem,simprocAttr,H,q2,F,g,L,hv,Q,K,a1,a2,aM]
def kys(l:List t8):f9:=l.map fun u=>(qar u).sv
theorem SK(l:List t8):(kys l).length=l.length:=av ..
theorem SL(l:List t8)(i:Nat)(h:i<l.length):(kys l).getD i []=(qar (l.getD i [])).sv:=by simp[kys,aa,h]
def zQt:aG:= .rc [.byt [] .clip,.byt [] .clip,iV 0,iV 0,iV 0,.bool false,iV 0,iV 0,iV 0,.byt [] .clip]
theorem xgS(m:Int)(A S L N:t8)(us:List t8)(K:A.length<=1000000)(Q:L.length<=100000)(hN:N.length<=100000)(Z:∀u∈us,u.length<=1000)(hn:us.length<=1000):∀(n i:Nat),us.length-i=n->i<=us.length->∀c0:Int,
 (∃c,run T (.loop pk) ⟨[(1,.lst 5 (kys us) .no),(2,bN N),(3,.ptr 103 0),(6,.ptr 106 0),(8,iV c0),(9,iV i)],[(103,.rc [iV m,bN A,bN S,bN L]),(106,zQt)],[]⟩=
  some (.x 0,⟨[(6,.ptr 106 0),(8,iV c)],[(103,.rc [iV m,bN A,bN S,bN L]),(106,zQt)],[]⟩))\/
 ∃q c X ob,T0 q/\(X= .rc q.sv\/X=zQt/\q=qt0)/\run T (.loop pk) ⟨[(1,.lst 5 (kys us) .no),(2,bN N),(3,.ptr 103 0),(6,.ptr 106 0),(8,iV c0),(9,iV i)],[(103,.rc [iV m,bN A,bN S,bN L]),(106,zQt)],[]⟩=
  some (.r,⟨[(6,.ptr 106 0),(7,iV c)],(103,.rc [iV m,bN A,bN S,bN L])::(106,X)::ob,[]⟩):=by
 intro n;have hv:=SK us;induction n with
 |zero=>
  intro i h0 h1 c0;have hi:i=us.length:=by omega
  subst hi;refine .inl ⟨c0, ?_⟩;unfold zQt;rw[ab];simp only[go_sem,simprocAttr,hv]
 |succ n ih=>
  intro i h0 h1 c0;have hi:i<us.length:=by omega
  have y:(i:Int)<(us.length:Int):=by omega
  have z:=SL us i hi;have e1:=bJ i;have hx:(us.getD i []).length<=1000:=by rw[db hi];exact Z _ (aF hi)
  generalize us.getD i []=u at*;obtain⟨q,j,c,I,g1⟩:=xh2 u A S hx K;obtain⟨R,hR,H⟩:=xeW N L m hN Q;unfold qar Ar.sv at*
  by_cases J:c=0
  ·subst J
   have g3:=f95 q.no R (by have:=I.no;omega);right
   by_cases F:q.no=R
   ·rw[decide_eq_true F]at g3
    unfold Qt.sv zQt at*
    exact⟨q,0,_,_,I,.inl rfl,by rw[ab];simp only[go_sem,simprocAttr,hv,y,z,g1,H,g3];rfl⟩
   ·rw[decide_eq_false F]at g3
    unfold Qt.sv zQt at*
    exact⟨qt0,45,_,_,jf,.inr ⟨rfl,rfl⟩,by rw[ab];simp only[go_sem,simprocAttr,hv,y,z,g1,H,g3];rfl⟩
  ·have C:=ih (i+1) (by omega) (by omega) c
   unfold Qt.sv zQt at*;rw[ab];simp only[go_sem,simprocAttr,hv,y,z,g1,J,e1];exact C
theorem xii(m:Int)(A S L N:t8)(us:List t8)(F:A.length<=1000000)(y:L.length<=100000)(C:N.length<=100000)(z:∀u∈us,u.length<=1000)(H:us.length<=1000):
 ∃q c,T0 q/\call T 189 [.agg [iV m,bN A,bN S,bN L],.lst 5 (kys us) .no,bN N] [] 0=okV (.tup [.agg q.sv,iV c]):=by
 have L:=xgS m A S L N us F y C z H _ 0 rfl (aC _) 17;rw[ak]at L;unfold zQt at L;rw[ccT 189];rcases L with⟨c,k⟩|⟨q,c,X,ob,hq,rfl|⟨rfl,rfl⟩,k⟩
 ·refine⟨qt0,c,jf, ?_⟩
  unfold qt0 Qt.sv;simp only[go_sem,simprocAttr,k]
 ·refine⟨q,c,hq, ?_⟩
  unfold Qt.sv at*;simp only[go_sem,simprocAttr,k]
  try rfl
 ·refine⟨qt0,c,jf, ?_⟩
  unfold qt0 Qt.sv at*;simp only[go_sem,simprocAttr,k]
  try rfl
theorem TB(c:UInt8)(h1:¬c<48)(h2:¬57<c):(c-48).toNat=c.toNat-48/\c.toNat-48<=9:=by
 have y:48<=c.toNat:=by simpa[UInt8.lt_iff_toNat_lt]using h1
 have z:c.toNat<=57:=by simpa[UInt8.lt_iff_toNat_lt]using h2
 have e:(c-48).toNat=c.toNat-48:=UInt8.toNat_sub_of_le c 48 (by simpa[UInt8.le_iff_toNat_le]using y);exact⟨e,by omega⟩
theorem xgm(b:t8)(k:Int)(t:t8)(lo hi:Int)(nn:Int)(O:List (Nat×aG))(hO:O=[(102,.rc [iV k,.str t,iV lo,iV hi])]):∀(m i j v:Nat),b.length-i=m->i<=b.length->b.length<=1000000->v<10^j->j+m<=10->
 (∃y:Nat,y<10000000000/\run T (.loop oV) ⟨[(1,bN b),(2,.ptr 102 0),(5,iV nn),(6,iV v),(7,iV i)],O,[]⟩=some (.x 1,⟨[(1,bN b),(2,.ptr 102 0),(5,iV nn),(6,iV y)],O,[]⟩))\/
 run T (.loop oV) ⟨[(1,bN b),(2,.ptr 102 0),(5,iV nn),(6,iV v),(7,iV i)],O,[]⟩=some (.r,⟨[(4,.bool false)],O,[]⟩):=by
 subst hO;intro m;induction m with
 |zero=>
  intro i j v h0 h1 F hv K;have hi:i=b.length:=by omega
  subst hi;have H:10^j<=10^10:=Nat.pow_le_pow_right (by omega) (by omega);have:(10:Nat)^10=10000000000:=rfl;refine .inl ⟨v,by omega, ?_⟩;rw[ab];simp only[go_sem,simprocAttr]
 |succ m Q=>
  intro i j v h0 h1 F hv K;have hi:i<b.length:=by omega
  have I:=bJ i;rw[ab]
  by_cases h2:b.getD i 0<48
  ·right
   simp only[go_sem,simprocAttr,hi,h2]
  ·by_cases h3:57<b.getD i 0
   ·right
    simp only[go_sem,simprocAttr,hi,h2,h3]
   ·obtain⟨Z,q3⟩:=TB _ h2 h3
    have H:10^j<=10^9:=Nat.pow_le_pow_right (by omega) (by omega);have a1:v<1000000000:=by have:(10:Nat)^9=1000000000:=rfl;omega
    have z:v*10+((b.getD i 0).toNat-48)<10^(j+1):=by rw[Nat.pow_succ];omega
    have C:=Q (i+1) (j+1) (v*10+((b.getD i 0).toNat-48)) (by omega) (by omega) F z (by omega);have e2:ah.wrap (10*(v:Int))=((10*v:Nat):Int):=by rw[w64];omega
    have J:ah.wrap (((10*v:Nat):Int)+((b.getD i 0-48).toNat:Nat))=((v*10+((b.getD i 0).toNat-48):Nat):Int):=by rw[Z,w64];omega
    generalize v*10+((b.getD i 0).toNat-48)=y at*;simp only[go_sem,simprocAttr,hi,I,h2,h3,e2,J];exact C
theorem xbp{k lo hi:Int}{t:t8}(y:chk k t lo hi=0):1<=k/\k<=4:=by
 unfold chk at y
 by_cases z:k<1
 ·rw[if_pos z]at y;cases y
 by_cases C:4<k
 ·rw[if_neg z,if_pos C]at y;cases y
 omega
theorem xhH(k:Int)(t:t8)(lo hi:Int)(b:t8)(ht:t.length<=1000000)(hb:b.length<=1000000):
 ∃q,call T 332 [.agg [iV k,.str t,iV lo,iV hi],bN b] [] 0=okV (.bool q):=by
 rw[ccT 332];have h:=xe2 k t lo hi
 by_cases c0:chk k t lo hi=0
 ·rw[c0]at h
  by_cases c1:k=1
  ·subst c1
   exact⟨true,by simp only[go_sem,simprocAttr,h]⟩
  by_cases c2:k=2
  ·subst c2
   have g:=f95 t b;generalize decide (t=b)=y at*;exact⟨y,by simp only[go_sem,simprocAttr,h,g]⟩
  by_cases c3:k=3
  ·subst c3
   obtain⟨y,g⟩:=xhF t b ht hb;exact⟨y,by simp only[go_sem,simprocAttr,h,g]⟩
  have c4:k=4:=by have:=xbp c0;omega
  subst c4;have J:ah.wrap ((t.length:Int)+10)=((t.length+10:Nat):Int):=by rw[w64];omega
  by_cases d1:b.length<=t.length
  ·have C:(b.length:Int)<=(t.length:Int):=by omega
   exact⟨false,by simp only[go_sem,simprocAttr,h,C]⟩
  have C:¬(b.length:Int)<=(t.length:Int):=by omega
  by_cases d2:t.length+10<b.length
  ·have F:((t.length+10:Nat):Int)<(b.length:Int):=by omega
   exact⟨false,by simp only[go_sem,simprocAttr,h,C,F,J]⟩
  have F:¬((t.length+10:Nat):Int)<(b.length:Int):=by omega
  have d3:t.length<=b.length:=by omega
  have H:(t.length:Int)<=(b.length:Int):=by omega
  have g:=f95 t (b.take t.length);generalize decide (t=b.take t.length)=y at*;cases y with
  |false=>exact⟨false,by simp only[go_sem,simprocAttr,h,C,F,H,J,g]⟩
  |true=>
   have L:=xgm b 4 t lo hi t.length _ rfl _ t.length 0 0 rfl d3 (by omega) (by decide) (by omega);rw[ak]at L;rcases L with⟨v,v1,K⟩|K
   ·have Q:=YY v (by omega)
    have a6:=pH v;have I:gT t.length (dq b.length b)=b.drop t.length:=by rw[cG]
    generalize dec v=D at*;have g3:=f95 D (b.drop t.length);generalize decide (D=b.drop t.length)=z at*;cases z with
    |false=>exact⟨false,by simp only[go_sem,simprocAttr,h,C,F,H,J,g,K,Q,I,g3]⟩
    |true=>
     by_cases Z:lo<=(v:Int)
     ·by_cases a2:(v:Int)<=hi
      ·exact⟨true,by simp only[go_sem,simprocAttr,h,C,F,H,J,g,K,Q,I,g3,Z,a2]⟩
      ·exact⟨false,by simp only[go_sem,simprocAttr,h,C,F,H,J,g,K,Q,I,g3,Z,a2]⟩
     ·exact⟨false,by simp only[go_sem,simprocAttr,h,C,F,H,J,g,K,Q,I,g3,Z]⟩
   ·exact⟨false,by simp only[go_sem,simprocAttr,h,C,F,H,J,g,K]⟩
 ·exact⟨false,by simp only[go_sem,simprocAttr,h,c0]⟩
def Z3(x:Ent):Prop:=0<=x.ver/\x.ver<=1000000/\x.name.length<=1000000
theorem Ts{l:List Ent}{i:Nat}(h:uM l i=0):1<=(l.getD i en0).role/\(l.getD i en0).role<=3/\0<=(l.getD i en0).ver/\(l.getD i en0).ver<=1000000/\(l.getD i en0).dig.length=32/\Pr.nameB (l.getD i en0).name=true:=by
 unfold uM at h;generalize l.getD i en0=x at*
 repeat' split at h
 all_goals first|omega|skip
 all_goals (refine⟨by omega,by omega,by omega,by omega,by omega,by assumption⟩)
theorem A7(l:List Ent):∀(n i:Nat),lK l n i=0->∀k,i<=k->k<i+n->uM l k=0
 |0,i,_,k,h1,h2=>by omega
 |n+1,i,h,k,h1,h2=>by
  unfold lK at h
  by_cases h0:uM l i=0
  ·rw[if_pos h0]at h
   rcases bq i k with h3|h3
   ·exact A7 l n (i+1) h k (by omega) (by omega)
   ·have:k=i:=by omega
    rw[this];exact h0
  ·rw[if_neg h0]at h;exact absurd h h0
theorem SB{m:Man}(h:pD m=0):lK m.ents m.ents.length 0=0/\oD m.ruls=0/\m.ents.length<=16/\m.ruls.length<=8/\Pr.nameB m.vendor=true/\0<=m.flr/\m.flr<=m.ver/\m.ver<=1000000/\0<=m.frm/\m.frm<m.til/\m.til<=1099511627776:=by
 unfold pD at h
 by_cases h0:Pr.nameB m.vendor=true
 ·rw[if_pos h0]at h
  repeat' split at h
  all_goals first|(exfalso;omega)|skip
  refine⟨by assumption,h,by omega,by omega,h0,by omega,by omega,by omega,by omega,by omega,by omega⟩
 ·rw[if_neg h0]at h;omega
theorem SA{m:Man}(h:pD m=0):∀x∈m.ents,1<=x.role/\x.role<=3/\Z3 x/\x.dig.length=32/\Pr.nameB x.name=true:=by intro x y;obtain⟨i,hi,rfl⟩:=cr y;have h1:=Ts (A7 m.ents _ 0 (SB h).1 i (aC _) (by omega));rw[db hi]at h1;obtain⟨a,b,c,d,f,g⟩:=h1;have:=vH g;exact⟨a,b,⟨c,d,by omega⟩,f,g⟩
def itO(m:Man)(e:Ev):List (Nat×aG):=[(102,.rc m.sv),(103,.rc e.sv)]
theorem xgr(m:Man)(hm:gg m)(h0:pD m=0)(e:Ev)(he:Io e):∀(n i:Nat),m.ents.length-i=n->i<=m.ents.length->
 run T (.loop oX) ⟨[(2,.ptr 102 0),(3,.ptr 103 0),(5,iV i)],itO m e,[]⟩=some (.x 0,⟨[(2,.ptr 102 0),(3,.ptr 103 0)],itO m e,[]⟩)\/
 ∃v ob,run T (.loop oX) ⟨[(2,.ptr 102 0),(3,.ptr 103 0),(5,iV i)],itO m e,[]⟩=some (.r,⟨[(4,iV v)],ob,[]⟩):=by
 intro n;induction n with
 |zero=>
  intro i hz h1;have hi:i=m.ents.length:=by omega
  have hv:=dU m.ents;subst hi;left;unfold itO Man.sv;rw[ab];simp only[go_sem,simprocAttr,hv]
 |succ n ih=>
  intro i hz h1;have hi:i<m.ents.length:=by omega
  have C:(i:Int)<(m.ents.length:Int):=by omega
  have a6:=hm.en;have e1:=bJ i;have F:=ih (i+1) (by omega) (by omega);have hv:=dU m.ents;have I:=iH m.ents i hi;obtain⟨_,_,⟨c0,c1,c2⟩,a7,_⟩:=SA h0 _ (cM m.ents en0 i hi);have g1:=xeK (m.ents.getD i en0).role;have J:=f95 (m.ents.getD i en0).dig (e.dg.getD 1 []);have g3:=f267 (m.ents.getD i en0).name (m.ents.getD i en0).ver c2 c0 c1;have g4:=f95 e.data (SH (m.ents.getD i en0).name (m.ents.getD i en0).ver) (by have:=he.b;omega);have H:=he.d2;clear hm he h0 ih;generalize m.ents.getD i en0=x at*;unfold itO at*;obtain⟨mv,m1,m2,m3,m4,es,rs⟩:=m;obtain⟨ro,na,ve,di⟩:=x;obtain⟨g',k,Z,b⟩:=e;simp only at H J g4;rw[two Z [] H]at*;generalize Z.getD 0 []=d0 at*;generalize Z.getD 1 []=d1 at*;have Q:bls [d0,d1]=[[bN d0],[bN d1]]:=rfl;simp only[Man.sv,Ev.sv,Ent.sv,Q,gD,cZ]at*;generalize SH na ve=W at*;generalize decide (di=d1)=y at*;generalize decide (b=W)=z at*;rw[ab]
  by_cases K:Uf ro=g'
  ·cases y with
   |true=>
    cases z with
    |true=>exact .inr ⟨_,_,by simp only[go_sem,simprocAttr,C,hv,I,g1,K,J,g3,g4];rfl⟩
    |false=>simp only[go_sem,simprocAttr,C,e1,hv,I,g1,K,J,g3,g4];exact F
   |false=>simp only[go_sem,simprocAttr,C,e1,hv,I,g1,K,J];exact F
  ·simp only[go_sem,simprocAttr,C,e1,hv,I,g1,K]
   exact F
theorem xar(m:Man)(C:gg m)(e:Ev)(K:Io e):∀(n i:Nat),m.ruls.length-i=n->i<=m.ruls.length->
 run T (.loop oW) ⟨[(2,.ptr 102 0),(3,.ptr 103 0),(7,iV i)],itO m e,[]⟩=some (.x 2,⟨[],itO m e,[]⟩)\/
 ∃v ob,run T (.loop oW) ⟨[(2,.ptr 102 0),(3,.ptr 103 0),(7,iV i)],itO m e,[]⟩=some (.r,⟨[(4,iV v)],ob,[]⟩):=by
 intro n;induction n with
 |zero=>
  intro i hz h1;have hi:i=m.ruls.length:=by omega
  have hv:=eV m.ruls;subst hi;left;unfold itO Man.sv;rw[ab];simp only[go_sem,simprocAttr,hv]
 |succ n Q=>
  intro i hz h1;have hi:i<m.ruls.length:=by omega
  have z:(i:Int)<(m.ruls.length:Int):=by omega
  have Z:=C.rn;have a1:=C.en;have e1:=bJ i;have I:=Q (i+1) (by omega) (by omega);have hv:=eV m.ruls;have F:=dU m.ents;have J:=mb m.ruls i hi;have hx:=C.r _ (cM m.ruls rl0 i hi);have hb:=K.b;clear C K Q;generalize m.ruls.getD i rl0=x at*;unfold itO at*;obtain⟨mv,m1,m2,m3,m4,es,rs⟩:=m;obtain⟨q,t,lo,H⟩:=x;obtain⟨g',k,ds,b⟩:=e;obtain⟨y,g⟩:=xhH q t lo H b hx hb;simp only[Man.sv,Ev.sv,Rul.sv]at*;rw[ab];cases y with
  |true=>exact .inr ⟨_,_,by simp only[go_sem,simprocAttr,z,hv,F,J,g];rfl⟩
  |false=>simp only[go_sem,simprocAttr,z,e1,hv,J,g];exact I
theorem xhO(m:Man)(C:gg m)(e:Ev)(z:Io e):∃v,call T 308 [.agg m.sv,.agg e.sv] [] 0=okV (iV v):=by
 have g1:=Y2 m C;have F:=z.d2;obtain⟨c,g4⟩:=xeF e z;have r0:=xar m C e z _ 0 rfl (aC _);have J:=fun h=>xgr m C h e z _ 0 rfl (aC _)
 have y:(bls e.dg).length=2:=by rw[bls,av,F]
 clear C z;unfold itO at*;obtain⟨mv,m1,K,m3,m4,es,rs⟩:=m;obtain⟨Q,k,Z,b⟩:=e;rw[ccT 308];simp only[Man.sv,Ev.sv,ak]at*
 by_cases h0:pD ⟨mv,m1,K,m3,m4,es,rs⟩=0
 ·have H:=J h0
  rw[h0]at g1
  by_cases h1:k=1
  ·subst h1
   rcases H with l|⟨v,ob,l⟩
   ·exact⟨-1,by simp only[go_sem,simprocAttr,g1,y,l]⟩
   ·exact⟨v,by simp only[go_sem,simprocAttr,g1,y,l]⟩
  ·by_cases h3:k=3
   ·subst h3
    by_cases I:Q=9
    ·subst I
     cases c with
     |false=>exact⟨-1,by simp only[go_sem,simprocAttr,g1,y,g4]⟩
     |true=>
      rcases r0 with l|⟨v,ob,l⟩
      ·exact⟨-1,by simp only[go_sem,simprocAttr,g1,y,g4,l]⟩
      ·exact⟨v,by simp only[go_sem,simprocAttr,g1,y,g4,l]⟩
    ·exact⟨-1,by simp only[go_sem,simprocAttr,g1,y,I]⟩
   ·exact⟨-1,by simp only[go_sem,simprocAttr,g1,y,h1,h3]⟩
 ·exact⟨-1,by simp only[go_sem,simprocAttr,g1,h0]⟩
def mm(m n:Man):List (Nat×aG):=[(102,.rc m.sv),(103,.rc n.sv)]
theorem xaB(m p:Man)(hl:m.ents.length=p.ents.length)(hm:gg m):∀(k i:Nat),m.ents.length-i=k->i<=m.ents.length->
 run T (.loop uE) ⟨[(2,.ptr 102 0),(3,.ptr 103 0),(5,iV i)],mm m p,[]⟩=some (.x 0,⟨[(2,.ptr 102 0),(3,.ptr 103 0)],mm m p,[]⟩)\/
 ∃ob,run T (.loop uE) ⟨[(2,.ptr 102 0),(3,.ptr 103 0),(5,iV i)],mm m p,[]⟩=some (.r,⟨[(4,.bool false)],ob,[]⟩):=by
 have hn:=hm.en;have hd:=hm.e;clear hm;unfold mm Man.sv;intro k;induction k with
 |zero=>
  intro i h1 h2;have h3:¬i<m.ents.length:=by omega
  have C:¬(i:Int)<(m.ents.length:Int):=by omega
  have hv:=dU m.ents;left;rw[ab];simp only[go_sem,simprocAttr,hv,C]
 |succ k ih=>
  intro i h1 h2;have h3:i<m.ents.length:=by omega
  have a6:i<p.ents.length:=by omega
  have C:(i:Int)<(m.ents.length:Int):=by omega
  have F:(i:Int)<(p.ents.length:Int):=by omega
  have hv:=dU m.ents;have H:=dU p.ents;have I:=iH m.ents i h3;have K:=iH p.ents i a6;have a1:=ih (i+1) (by omega) (by omega);have e1:=bJ i;have Z:=(hd _ (cM m.ents en0 i h3)).2;clear ih hd;generalize m.ents.getD i en0=x at*;generalize p.ents.getD i en0=y at*;obtain⟨r1,n1,v1,d1⟩:=x;obtain⟨r2,n2,v2,d2⟩:=y;have g:=f95 d1 d2 (by simp only at Z;omega);simp only[Ent.sv]at*;generalize decide (d1=d2)=z at*;rw[ab]
  by_cases J:r1=r2
  ·by_cases Q:n1=n2
   ·by_cases q3:v1=v2
    ·cases z with
     |true=>simp only[go_sem,simprocAttr,C,F,hv,H,I,K,e1,g,J,Q,q3];exact a1
     |false=>exact .inr ⟨_,by simp only[go_sem,simprocAttr,C,F,hv,H,I,K,g,J,Q,q3];rfl⟩
    ·exact .inr ⟨_,by simp only[go_sem,simprocAttr,C,F,hv,H,I,K,J,Q,q3];rfl⟩
   ·exact .inr ⟨_,by simp only[go_sem,simprocAttr,C,F,hv,H,I,K,J,Q];rfl⟩
  ·exact .inr ⟨_,by simp only[go_sem,simprocAttr,C,F,hv,H,I,K,J];rfl⟩
theorem xaA(m p:Man)(hl:m.ruls.length=p.ruls.length)(hn:m.ruls.length<=1000000):∀(k i:Nat),m.ruls.length-i=k->i<=m.ruls.length->
 run T (.loop pm) ⟨[(2,.ptr 102 0),(3,.ptr 103 0),(8,iV i)],mm m p,[]⟩=some (.x 2,⟨[],mm m p,[]⟩)\/
 run T (.loop pm) ⟨[(2,.ptr 102 0),(3,.ptr 103 0),(8,iV i)],mm m p,[]⟩=some (.r,⟨[(4,.bool false)],mm m p,[]⟩):=by
 unfold mm Man.sv;intro k;induction k with
 |zero=>
  intro i h1 h2;have h3:¬i<m.ruls.length:=by omega
  have z:¬(i:Int)<(m.ruls.length:Int):=by omega
  have hv:=eV m.ruls;left;rw[ab];simp only[go_sem,simprocAttr,hv,z]
 |succ k ih=>
  intro i h1 h2;have h3:i<m.ruls.length:=by omega
  have Z:i<p.ruls.length:=by omega
  have z:(i:Int)<(m.ruls.length:Int):=by omega
  have C:(i:Int)<(p.ruls.length:Int):=by omega
  have hv:=eV m.ruls;have F:=eV p.ruls;have I:=mb m.ruls i h3;have H:=mb p.ruls i Z;have a1:=ih (i+1) (by omega) (by omega);have e1:=bJ i;clear ih;generalize m.ruls.getD i rl0=x at*;generalize p.ruls.getD i rl0=y at*;obtain⟨r1,n1,v1,d1⟩:=x;obtain⟨r2,n2,v2,d2⟩:=y;simp only[Rul.sv]at*;rw[ab]
  by_cases J:r1=r2
  ·by_cases K:n1=n2
   ·by_cases Q:v1=v2
    ·by_cases q4:d1=d2
     ·simp only[go_sem,simprocAttr,z,C,hv,F,I,H,e1,J,K,Q,q4]
      exact a1
     ·exact .inr (by simp only[go_sem,simprocAttr,z,C,hv,F,I,H,J,K,Q,q4])
    ·exact .inr (by simp only[go_sem,simprocAttr,z,C,hv,F,I,H,J,K,Q])
   ·exact .inr (by simp only[go_sem,simprocAttr,z,C,hv,F,I,H,J,K])
  ·exact .inr (by simp only[go_sem,simprocAttr,z,C,hv,F,I,H,J])
theorem xio(m p:Man)(hm:gg m):∃b,call T 177 [.agg m.sv,.agg p.sv] [] 0=okV (.bool b):=by
 have hv:=dU m.ents;have K:=dU p.ents;have F:=eV m.ruls;have C:=eV p.ruls;have h1:=fun h=>xaB m p h hm _ 0 rfl (aC _)
 have h2:=fun h=>xaA m p h hm.rn _ 0 rfl (aC _)
 clear hm;unfold mm at*;obtain⟨v,a1,a2,a3,a4,es,rs⟩:=m;obtain⟨w,b1,b2,b3,b4,fs,qs⟩:=p;simp only[Man.sv,ak]at*;rw[ccT 177]
 by_cases H:v=w
 ·by_cases I:a1=b1
  ·by_cases J:a2=b2
   ·by_cases Q:a3=b3
    ·by_cases q5:a4=b4
     ·by_cases Z:(es.length:Int)=fs.length
      ·by_cases q7:(rs.length:Int)=qs.length
       ·have y:=h1 (by omega)
        have z:=h2 (by omega);subst H I J Q q5;rcases y with y|⟨ob,y⟩
        ·rcases z with z|z
         ·exact⟨true,by simp only[go_sem,simprocAttr,hv,K,F,C,Z,q7]at y z ⊢;simp only[go_sem,simprocAttr,y,z]⟩
         ·exact⟨false,by simp only[go_sem,simprocAttr,hv,K,F,C,Z,q7]at y z ⊢;simp only[go_sem,simprocAttr,y,z]⟩
        ·exact⟨false,by simp only[go_sem,simprocAttr,y,hv,K,F,C,Z,q7]⟩
       ·exact⟨false,by simp only[go_sem,simprocAttr,hv,K,F,C,H,I,J,Q,q5,Z,q7]⟩
      ·exact⟨false,by simp only[go_sem,simprocAttr,hv,K,H,I,J,Q,q5,Z]⟩
     ·exact⟨false,by simp only[go_sem,simprocAttr,H,I,J,Q,q5]⟩
    ·exact⟨false,by simp only[go_sem,simprocAttr,H,I,J,Q]⟩
   ·exact⟨false,by simp only[go_sem,simprocAttr,H,I,J]⟩
  ·exact⟨false,by simp only[go_sem,simprocAttr,H,I]⟩
 ·exact⟨false,by simp only[go_sem,simprocAttr,H]⟩
theorem xhc(L:List Man)(m:Man)(Q:∀x∈L,gg x)(D:t8)(hD:D.length<=32)(hn:L.length<=1000):∀(n i:Nat),L.length-i=n->i<=L.length->
 ∃k,k<=L.length/\(run T (.loop uG) ⟨[(0,.lst 7 (fg L) .no),(3,.ptr 103 0),(6,bN D),(7,iV i)],[(103,.rc m.sv)],[]⟩=some (.x 0,⟨[(7,iV (k:Nat))],[(103,.rc m.sv)],[]⟩)\/
  run T (.loop uG) ⟨[(0,.lst 7 (fg L) .no),(3,.ptr 103 0),(6,bN D),(7,iV i)],[(103,.rc m.sv)],[]⟩=some (.r,⟨[(4,iV (k:Nat)),(5,.bool true)],[(103,.rc m.sv)],[]⟩)):=by
 intro n;have hv:=fG L;induction n with
 |zero=>
  intro i h0 h1;have hi:i=L.length:=by omega
  subst hi;refine⟨_,aM _,.inl ?_⟩;rw[ab];simp only[go_sem,simprocAttr,hv]
 |succ n ih=>
  intro i h0 h1;have K:i<L.length:=by omega
  have C:(i:Int)<(L.length:Int):=by omega
  have e1:=bJ i;have H:=kD L i K;have F:=Q _ (cM L mn0 i K);obtain⟨k,Z,I⟩:=ih (i+1) (by omega) (by omega);generalize L.getD i mn0=x at*;obtain⟨X,hX,g0⟩:=f61 x F;have g1:=f172 D X;obtain⟨z,J⟩:=xio x m F;generalize dw D X=y at*;unfold Man.sv at*;cases y with
  |true=>exact⟨i,by omega,.inl (by rw[ab];simp only[go_sem,simprocAttr,hv,C,H,g0,g1])⟩
  |false=>
   cases z with
   |true=>exact⟨i,by omega,.inr (by rw[ab];simp only[go_sem,simprocAttr,hv,C,H,g0,g1,J])⟩
   |false=>refine⟨k,Z, ?_⟩;rw[ab];simp only[go_sem,simprocAttr,hv,C,H,g0,g1,J,e1];exact I
theorem xiJ(L:List Man)(m:Man)(H:∀x∈L,gg x)(C:gg m)(I:L.length<=1000:=by omega):
 ∃(k:Nat)(b:Bool),k<=L.length/\call T 108 [.lst 7 (fg L) .no,.agg m.sv] [] 0=okV (.tup [iV k,.bool b]):=by
 obtain⟨D,F,g0⟩:=f61 m C;obtain⟨k,z,y⟩:=xhc L m H D F I _ 0 rfl (aC _);rw[ak]at y;unfold Man.sv at*;rw[ccT 108];rcases y with y|y
 ·exact⟨k,false,z,by simp only[go_sem,simprocAttr,g0,y]⟩
 ·exact⟨k,true,z,by simp only[go_sem,simprocAttr,g0,y]⟩
end Go.Proofs.YtmhhnklkcmpdkaaGreatDoor
