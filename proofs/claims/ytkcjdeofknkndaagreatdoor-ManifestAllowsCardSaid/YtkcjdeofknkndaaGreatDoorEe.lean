/- An engine that steps through Go code with symbolic values: sound by proof. No condition. -/
import Derived.Test.YtkcjdeofknkndaaGreatDoorEd
open Array renaming getD_eq_getD_getElem? -> bc, getElem?_eq_getElem -> cS
open List renaming getD_eq_getElem?_getD -> aa, getElem?_append_left -> bg, getElem?_append_right -> bA, getElem?_drop -> ba, getElem?_eq_getElem -> ab, getElem?_take -> bJ, getElem_of_mem -> bN, length_append -> af, length_cons -> ax, length_drop -> aF, length_nil -> aV, length_singleton -> aD, length_take -> av, mem_append -> ak, mem_cons -> am, mem_of_mem_drop -> kU, mem_of_mem_take -> bz, mem_singleton -> aN, range -> bU
open Nat renaming le_refl -> aL, lt_or_ge -> bH, zero_add -> bW
open Option renaming getD_some -> bf
set_option linter.unusedVariables false
set_option linter.unusedSimpArgs false
set_option linter.unnecessarySimpa false
set_option linter.unusedSectionVars false
namespace Go.Sy
variable [aZ]
variable {P : Program} {C : Ctx} {x : Sit} {w w' : World} {ob : List (Nat × aB)} {tk : List Nat}
open Go.RowKit Go.ChangeShapes Go.WideShapes
theorem eI(b:Nat):∀(vs:List Value)(o:Nat)(w:World),w.setCells b o vs=bP w b o vs
 |[],_,_=>rfl
 |v::r,o,w=>by rw[World.setCells,bP];exact eI b r (o+1) _
structure YD(P:Program)(g:Nat)(el:TypeId):Prop where
 cb:ec P g=true
 shift:∀(b n c i vb voff vc:Nat)(cs:List Value)(v:Value)(w:World),i<n->n+1<=c->n<=1000000000->vb≠b->cs.length=n->(∀j u,cs[j]? =some u->w.cell? ⟨b,j,none⟩=some u)->
  (∀j,j<n+1->(w.cell? ⟨b,j,none⟩).isSome=true)->(∀j,j<n+1->w.frozen? ⟨b,j,none⟩=false)->w.cell? ⟨vb,voff,none⟩=some v->(∀u∈cs,u.oneCell'=true)->v.oneCell'=true->
  (∃tB kB,w.shape? b=some (tB,kB)/\w.frozen? ⟨b,kB,none⟩=false)->
  Calls P g #[.slice (some ⟨b,0,none⟩) n c,.int .i64 i,.slice (some ⟨vb,voff,none⟩) 1 vc] w fun e w'=>e= .returned (.slice (some ⟨b,0,none⟩) (n+1) c)/\w'=(w.drew.setCells b (i+1) (cs.drop i)).setCells b i [v]
 room:∀(b n c vb voff vc:Nat)(v:Value)(w:World),n+1<=c->n<=1000000000->(w.cell? ⟨b,n,none⟩).isSome=true->w.frozen? ⟨b,n,none⟩=false->w.cell? ⟨vb,voff,none⟩=some v->v.oneCell'=true->
  Calls P g #[.slice (some ⟨b,0,none⟩) n c,.int .i64 n,.slice (some ⟨vb,voff,none⟩) 1 vc] w fun e w'=>e= .returned (.slice (some ⟨b,0,none⟩) (n+1) c)/\w'=w.setCells b n [v]
 grow:∀(b n c i vb voff vc:Nat)(cs:List Value)(v:Value)(w:World),i<n->n<=c->c<n+1->n<=1000000000->cs.length=n->(∀j u,cs[j]? =some u->w.cell? ⟨b,j,none⟩=some u)->
  w.cell? ⟨vb,voff,none⟩=some v->(∀u∈cs,u.oneCell'=true)->v.oneCell'=true->
  Calls P g #[.slice (some ⟨b,0,none⟩) n c,.int .i64 i,.slice (some ⟨vb,voff,none⟩) 1 vc] w fun e w'=>
   ∃(G:Nat)(R:Array Value),n+1<=G/\R.size=G/\e= .returned (.slice (some ⟨w.heap.size,0,none⟩) (n+1) G)/\
    w'=(((w.alloc (.cells R el (0,0))).drew.setCells w.heap.size i [v]).drew).setCells w.heap.size (i+1) (cs.drop i)/\∀k,k<i->R.getD k Go.undef=cs.getD k Go.undef
 endg:∀(base:Option Addr)(n c vb voff vc:Nat)(cs:List Value)(v:Value)(w:World),n<=c->c<n+1->n<=1000000000->cs.length=n->(base=none->n=0)->
  (∀a,base=some a->∀j u,cs[j]? =some u->w.cell? (a.add j)=some u)->w.cell? ⟨vb,voff,none⟩=some v->v.oneCell'=true->
  Calls P g #[.slice base n c,.int .i64 n,.slice (some ⟨vb,voff,none⟩) 1 vc] w fun e w'=>
   ∃(G:Nat)(R:Array Value),n+1<=G/\R.size=G/\e= .returned (.slice (some ⟨w.heap.size,0,none⟩) (n+1) G)/\
    w'=w.drew.alloc (.cells R el (0,0))/\∀k,k<n+1->R.getD k Go.undef=(cs++ [v]).getD k Go.undef
theorem cR.one(h:cR C x ob tk w)(hb:Below w.heap.size w w'){obj:aB}{K:Nat}(hr:dC (x.newO 100 w.heap.size K) w' 100 obj):cR C (x.newO 100 w.heap.size K) [(100,obj)] [] w':=by
 have h1:=(h.sub (ob':=[]) (tk':=[]) (List.nil_sublist _) (fun t ht=>by cases ht)).below hb;have hd2:(x.newO 100 w.heap.size K).bk 100=(w.heap.size,K):=iB _ _ _;refine⟨h1.per,h1.g0,h1.gm,h1.new, ?_,by simp, ?_,(fun t ht=>by cases ht),(fun t ht=>by cases ht),(fun t ht=>by cases ht),h1.os,h1.tape,h1.output,h1.size,h1.ext,fun i hi=>by rw[Sit.newO_ne _ _ _ _ (by omega)];exact h1.pin i hi,h1.lay⟩
 ·intro p hp
  rw[aN]at hp;subst hp;refine⟨hr,by rw[hd2];exact h.new _ h.size,fun off=> ?_⟩;rw[hd2];show x.G w.heap.size off=none;cases hg:x.G w.heap.size off with
  |none=>rfl
  |some v=>exact absurd (h.ltG hg) (by omega)
 ·intro p hp q hq _
  rw[aN]at hp hq;rw[hp,hq]
theorem yC{rows:List (List SV)}{k:Nat}{v:Value}:bY x (.arr 1 rows) k v=cI x.G ((rows.getD k []).getD 0 .undef) v:=by show cI x.G ((rows.getD (k/1) []).getD (k % 1) .undef) v=_;rw[Nat.div_one,Nat.mod_one]
def oE(rows:List (List SV))(i:Nat)(s:SV):List (List SV):=rows.take i++ [s]::rows.drop i
theorem FR(rows:List (List SV))(i:Nat)(s:SV)(hi:i<=rows.length)(k:Nat):(oE rows i s).getD k []=if k<i then rows.getD k []else if k=i then [s]else rows.getD (k-1) []:=by
 unfold oE;have hl:(rows.take i).length=i:=by rw[av];omega
 rw[aa]
 by_cases h:k<i
 ·rw[if_pos h,bg (by omega),bJ,if_pos h,<-aa]
 ·rw[if_neg h,bA (by omega),hl]
  by_cases h2:k=i
  ·subst h2;simp
  ·rw[if_neg h2]
   obtain⟨m,hm⟩:∃m,k-i=m+1:=⟨k-i-1,by omega⟩;rw[hm,List.getElem?_cons_succ,ba,<-aa]
   congr 1;omega
theorem uT(rows:List (List SV))(i:Nat)(s:SV)(hi:i<=rows.length):(oE rows i s).length=rows.length+1:=by unfold oE;rw[af,ax,av,aF];omega
theorem Ck(rows:List (List SV))(i:Nat)(s:SV)(h:∀y∈rows,y.length=1):∀y∈oE rows i s,y.length=1:=by
 intro y hy;unfold oE at hy;rcases ak.1 hy with h1|h1
 ·exact h y (bz h1)
 ·rcases am.1 h1 with rfl|h1
  ·rfl
  ·exact h y (kU h1)
theorem RX{a b c:SV}{vs:List Value}(h:cr x [a,b,c] vs):∃u v z,vs=[u,v,z]/\Rep x a u/\Rep x b v/\Rep x c z:=by
 match vs,h with
 |[u,v,z],h=>exact⟨u,v,z,rfl,h.2 0 (by simp),h.2 1 (by simp),h.2 2 (by simp)⟩
 |[],h=>simp[cr]at h
 |[_],h=>simp[cr]at h
 |[_,_],h=>simp[cr]at h
 |_::_::_::_::_,h=>simp[cr]at h
theorem Cd{s:SV}{t:Tok}{u:Value}(h:Rep x (.lst 1 [[s]] t) u):∃vb voff vc v,u= .slice (some ⟨vb,voff,none⟩) 1 vc/\x.G vb voff=some v/\cI x.G s v:=by
 cases h with
 |dat _ _ h _=>
  cases h with
  |lst _ _ _ b off cap n val hn hc hl hg h=>have h1:n=1:=hn;subst h1;exact⟨b,off,cap,val 0 0,rfl,by have:=hg 0 0 (by omega) (by omega);simpa using this,by have:=h 0 0 (by omega) (by omega);simpa using this⟩
theorem C0{w:World}{b:Nat}{c:Array Value}{e:TypeId}{fl fh:Nat}(h:dT w b c e fl fh):w.shape? b=some (e,c.size):=by simp only[World.shape?,h.1]
theorem FG{w:World}{b:Nat}{c:Array Value}{e:TypeId}{fl fh:Nat}(h:dT w b c e fl fh)(hm:¬(fl<=c.size/\c.size<fh)):w.frozen? ⟨b,c.size,none⟩=false:=by simp only[World.frozen?,h.1];simpa using hm
theorem qY{rows:List (List SV)}{i n:Nat}{s:SV}{v:Value}(hn:rows.length=n)(hi:i<=n)(hv:cI x.G s v){c0 c2:Array Value}(hc0:∀k,k<n->cI x.G ((rows.getD k []).getD 0 .undef) (c0.getD k Go.undef))
 (h:∀k,k<n+1->c2.getD k Go.undef=if k<i then c0.getD k Go.undef else if k=i then v else c0.getD (k-1) Go.undef) (k:Nat) (hk:k<(aB.arr 1 (oE rows i s)).size):bY x (.arr 1 (oE rows i s)) k (c2.getD k Go.undef):=by
 have hk':k<n+1:=by simp only[aB.size,uT rows i s (by omega)]at hk;omega
 rw[yC,FR rows i s (by omega),h k hk']
 by_cases h1:k<i
 ·rw[if_pos h1,if_pos h1];exact hc0 k (by omega)
 ·rw[if_neg h1,if_neg h1]
  by_cases h2:k=i
  ·rw[if_pos h2,if_pos h2];exact hv
  ·rw[if_neg h2,if_neg h2];exact hc0 (k-1) (by omega)
theorem xcZ{g:Nat}{el:TypeId}(hI:YD P g el){rows:List (List SV)}{i n:Nat}{s:SV}{t:Tok}(hn:rows.length=n)(hi:i<=n)(hbig:n<=1000000000):
 kA P g [.psl 0 1 0 n none,.int .i64 i,.lst 1 [[s]] t] [.arr 1 rows] 0 (· =⟨.psl 100 1 0 (n+1) none,[(100,.arr 1 (oE rows i s))],[]⟩):=by
 refine⟨hI.cb,fun C x w vs hw hG hm hl hwf hH hr=> ?_⟩;obtain⟨u0,u1,u2,rfl,r0,r1,r2⟩:=RX hr;obtain⟨c,hnc,off',rfl,hoff,hkk⟩:=r0.psl_invK;rw[r1.int_inv];obtain⟨vb,voff,vc,v,rfl,hgv,hDv⟩:=Cd r2;have hrows:∀y∈rows,y.length=1:=fS.1 (hwf _ (aN.2 rfl));have hmem:(0,aB.arr 1 rows)∈idx [.arr 1 rows]:=by simp[idx]
 obtain⟨⟨ca,e,fl,fh,hO,⟨hs1,hs2,hs3⟩,hcell⟩,hmine,hGn⟩:=hH.obs _ hmem;simp only at hO hs2 hmine hGn hcell;have hv:=hH.per _ _ _ hgv;have hvb:vb≠(x.bk 0).1:=by rintro rfl;rw[hGn]at hgv;cases hgv
 have hone:=hDv.oneCell;have hsz:n<=ca.size:=by simp only[aB.size,hn]at hs1;omega
 have hc0:∀k,k<n->cI x.G ((rows.getD k []).getD 0 .undef) (ca.getD k Go.undef):=fun k hk=>by have:=hcell k (by simp only[aB.size,hn];omega);rw[yC]at this;exact this
 obtain⟨cs,hcs⟩:∃cs:List Value,cs=(bU n).map fun k=>ca.getD k Go.undef:=⟨_,rfl⟩
 have hcl:cs.length=n:=by rw[hcs];simp
 have hcg:∀k,k<n->cs.getD k Go.undef=ca.getD k Go.undef:=fun k hk=>by rw[hcs,aa];simp[hk]
 have hcells:∀j u,cs[j]? =some u->w.cell? ⟨(x.bk 0).1,j,none⟩=some u:=fun j u hj=>by
  have hjn:j<n:=by rw[<-hcl];exact(List.getElem?_eq_some_iff.1 hj).1
  rw[hO.cell,cS (by omega)];have h1:=hcg j hjn;rw[aa,hj,bc,cS (by omega)]at h1;simp only[bf]at h1;rw[h1]
 have hcone:∀u∈cs,u.oneCell'=true:=fun u hu=>by obtain⟨j,hj,rfl⟩:=bN hu;have h1:=hcg j (by omega);rw[aa,ab hj,bf]at h1;rw[h1];exact(hc0 j (by omega)).oneCell
 have hsize:(aB.arr 1 (oE rows i s)).size=n+1:=by simp only[aB.size,uT rows i s (by omega),hn];omega
 have hbk:∀(K:Nat)(b:Nat) i,i<([aB.arr 1 rows]:List aB).length->(x.newO 100 b K).bk i=x.bk i:=fun K b i hi=>Sit.newO_ne _ _ _ _ (by simp at hi;omega)
 have place:∀(w1:World),n+1<=c->(∃c2,dT w1 (x.bk 0).1 c2 e fl fh/\c2.size=ca.size/\∀k,k<n+1->c2.getD k Go.undef=if k<i then ca.getD k Go.undef else if k=i then v else ca.getD (k-1) Go.undef)->
  w1.os=w.os->w1.tape=w.tape->w1.output=w.output->w1.heap.size=w.heap.size->(∀b,b≠(x.bk 0).1->w1.heap[b]? =w.heap[b]?)->
  ∃v' x' q,(Ending.returned (.slice (some ⟨(x.bk 0).1,off',none⟩) (n+1) c):Ending)= .returned v'/\q=(⟨.psl 100 1 0 (n+1) none,[(100,.arr 1 (oE rows i s))],[]⟩:ej)/\Rep x' q.r v'/\cR C x' q.os q.tk w1/\(∀p∈q.os,p.2.wf=true)/\∀i,i<([aB.arr 1 rows]:List aB).length->x'.bk i=x.bk i:=by
  intro w1 hroom ⟨c2,hO2,hcs2,hck⟩ e1 e2 e3 e4 e5
  have hkap:n+1<=ca.size:=by
   rcases hkk with h|h
   ·omega
   ·omega
  have hH2:=hH.block hmem e1 e2 e3 e4 e5 (obj':= .arr 1 (oE rows i s)) ⟨c2,e,fl,fh,hO2,⟨by rw[hsize,hcs2];omega,by rw[hcs2];exact hs2,fun h=>by rw[hcs2];exact hs3 rfl⟩,qY hn hi hDv hc0 hck⟩;have hH3:=hH2.move (o:=0) (d:=100) (obj:= .arr 1 (oE rows i s)) (by omega) (by simp[idx,setO]) (fun cs e=>by cases e);have hd2:(x.newO 100 (x.bk 0).1 (x.bk 0).2).bk 100=x.bk 0:=iB _ _ _;refine⟨_,x.newO 100 (x.bk 0).1 (x.bk 0).2,_,rfl,rfl, ?_, ?_, ?_,hbk _ _⟩
  ·have:=Rep.psl (x:=x.newO 100 (x.bk 0).1 (x.bk 0).2) 100 1 0 (n+1) none off' c hoff (by omega) (fun _ e=>by cases e) (fun _=>by rw[hd2];exact hkk)
   rw[hd2]at this;exact this
  ·simpa[idx,setO,bx,tks,jU,cw]using hH3
  ·intro p hp
   rw[aN.1 hp];exact fS.2 (Ck rows i s hrows)
 have anew:∀(w1:World)(G:Nat)(c2:Array Value),n+1<=G->c2.size=G->dT w1 w.heap.size c2 el 0 0->(∀k,k<n+1->c2.getD k Go.undef=if k<i then ca.getD k Go.undef else if k=i then v else ca.getD (k-1) Go.undef)->Below w.heap.size w w1->
  ∃v' x' q,(Ending.returned (.slice (some ⟨w.heap.size,0,none⟩) (n+1) G):Ending)= .returned v'/\q=(⟨.psl 100 1 0 (n+1) none,[(100,.arr 1 (oE rows i s))],[]⟩:ej)/\Rep x' q.r v'/\cR C x' q.os q.tk w1/\(∀p∈q.os,p.2.wf=true)/\∀i,i<([aB.arr 1 rows]:List aB).length->x'.bk i=x.bk i:=by
  intro w1 G c2 hG1 hG2 hO2 hck hb;have hd2:(x.newO 100 w.heap.size G).bk 100=(w.heap.size,G):=iB _ _ _;refine⟨_,x.newO 100 w.heap.size G,_,rfl,rfl, ?_, ?_, ?_,hbk _ _⟩
  ·have:=Rep.psl (x:=x.newO 100 w.heap.size G) 100 1 0 (n+1) none 0 G (.inr rfl) hG1 (fun _ e=>by cases e) (fun _=> .inr (by rw[hd2];simp))
   rw[hd2]at this;exact this
  ·exact hH.one hb ⟨c2,el,0,0,by rw[hd2];exact hO2,⟨by rw[hsize,hG2];omega,by rw[hd2,hG2];exact aL _,fun _ h=>by omega⟩,fun k hk=>qY (x:=x) hn hi hDv hc0 hck k hk⟩
  ·intro p hp
   rw[aN.1 hp];exact fS.2 (Ck rows i s hrows)
 by_cases hfit:n+1<=c
 ·have hkap:n+1<=ca.size:=by
   rcases hkk with h|h
   ·omega
   ·omega
  obtain rfl:off'=0:=by rcases hoff with h|h<;>omega
  have hsome:∀j,j<n+1->(w.cell? ⟨(x.bk 0).1,j,none⟩).isSome=true:=fun j hj=>by rw[hO.cell,cS (by omega)];rfl
  have hfree:∀j,j<n+1->w.frozen? ⟨(x.bk 0).1,j,none⟩=false:=fun j hj=>hO.free (by omega)
  rcases bH i n with hlt|hge
  ·refine(hI.shift (x.bk 0).1 n c i vb voff vc cs v w hlt hfit hbig hvb hcl hcells hsome hfree hv hcone hone ⟨e,ca.size,C0 hO,FG hO (hs3 rfl)⟩).mono ?_
   rintro en w1 ⟨rfl,rfl⟩;have hOd:dT w.drew (x.bk 0).1 ca e fl fh:=hO.of_heap rfl;have hdl:(cs.drop i).length=n-i:=by rw[aF,hcl]
   obtain⟨c1,hO1,hz1,hk1⟩:=cW (cs.drop i) w.drew (i+1) ca hOd (by omega);obtain⟨c2,hO2,hz2,hk2⟩:=cW [v] (bP w.drew (x.bk 0).1 (i+1) (cs.drop i)) i c1 hO1 (by simp;omega);obtain⟨p1,p2,p3,p4,p5⟩:=de (x.bk 0).1 (cs.drop i) w.drew (i+1);obtain⟨s1,s2,s3,s4,s5⟩:=de (x.bk 0).1 [v] (bP w.drew (x.bk 0).1 (i+1) (cs.drop i)) i;rw[eI,eI];refine place _ hfit ⟨c2,hO2,by omega,fun k hk=> ?_⟩ (s1.trans p1) (s2.trans p2) (s3.trans p3) (s4.trans p4) (fun b hb=>(s5 b hb).trans (p5 b hb));rw[hk2 k,hk1 k];simp only[aD]
   by_cases h1:k<i
   ·rw[if_neg (by omega),if_neg (by omega),if_pos h1]
   ·rw[if_neg h1]
    by_cases h2:k=i
    ·subst h2
     rw[if_pos (by omega),if_pos rfl];simp
    ·rw[if_neg (by omega),if_pos (by omega),if_neg h2,aa,ba,<-aa,show i+(k-(i+1))=k-1 by omega]
     exact hcg (k-1) (by omega)
  ·obtain rfl:i=n:=by omega
   refine(hI.room (x.bk 0).1 i c vb voff vc v w hfit hbig (hsome i (by omega)) (hfree i (by omega)) hv hone).mono ?_;rintro en w1 ⟨rfl,rfl⟩;obtain⟨c2,hO2,hz2,hk2⟩:=cW [v] w i ca hO (by simp;omega);obtain⟨s1,s2,s3,s4,s5⟩:=de (x.bk 0).1 [v] w i;rw[eI];refine place _ hfit ⟨c2,hO2,by omega,fun k hk=> ?_⟩ s1 s2 s3 s4 s5;rw[hk2 k];simp only[aD]
   by_cases h1:k<i
   ·rw[if_neg (by omega),if_pos h1]
   ·have h2:k=i:=by omega
    subst h2;rw[if_pos (by omega),if_neg (by omega),if_pos rfl];simp
 ·have hcn:c=n:=by omega
  rcases bH i n with hlt|hge
  ·obtain rfl:off'=0:=by rcases hoff with h|h<;>omega
   refine(hI.grow (x.bk 0).1 n c i vb voff vc cs v w hlt hnc (by omega) hbig hcl hcells hv hcone hone).mono ?_;rintro en w1 ⟨G,R,hG1,hG2,rfl,rfl,hR⟩;have hOa:dT (w.alloc (.cells R el (0,0))).drew w.heap.size R el 0 0:=⟨cK,fun i _ h=>by omega⟩;have hdl:(cs.drop i).length=n-i:=by rw[aF,hcl]
   obtain⟨c1,hO1,hz1,hk1⟩:=cW [v] (w.alloc (.cells R el (0,0))).drew i R hOa (by simp;omega);have hO1':dT (bP (w.alloc (.cells R el (0,0))).drew w.heap.size i [v]).drew w.heap.size c1 el 0 0:=hO1.of_heap rfl;obtain⟨c2,hO2,hz2,hk2⟩:=cW (cs.drop i) (bP (w.alloc (.cells R el (0,0))).drew w.heap.size i [v]).drew (i+1) c1 hO1' (by omega);obtain⟨p1,p2,p3,p4,p5⟩:=de w.heap.size [v] (w.alloc (.cells R el (0,0))).drew i;obtain⟨s1,s2,s3,s4,s5⟩:=de w.heap.size (cs.drop i) (bP (w.alloc (.cells R el (0,0))).drew w.heap.size i [v]).drew (i+1);rw[eI,eI];refine anew _ G c2 hG1 (by omega) hO2 (fun k hk=> ?_) ⟨s1.trans p1,s2.trans p2,s3.trans p3, ?_,fun b hb=> ?_⟩
   ·rw[hk2 k,hk1 k]
    simp only[aD]
    by_cases h1:k<i
    ·rw[if_neg (by omega),if_neg (by omega),if_pos h1,hR k h1,hcg k (by omega)]
    ·rw[if_neg h1]
     by_cases h2:k=i
     ·subst h2
      rw[if_neg (by omega),if_pos (by omega),if_pos rfl];simp
     ·rw[if_pos (by omega),if_neg h2,aa,ba,<-aa,show i+(k-(i+1))=k-1 by omega]
      exact hcg (k-1) (by omega)
   ·rw[s4]
    show w.heap.size<=(bP (w.alloc (.cells R el (0,0))).drew w.heap.size i [v]).heap.size;rw[p4];show w.heap.size<=(w.alloc (.cells R el (0,0))).heap.size;rw[World.size_alloc];omega
   ·rw[s5 b (by omega)]
    show(bP (w.alloc (.cells R el (0,0))).drew w.heap.size i [v]).heap[b]? =_;rw[p5 b (by omega)];exact dh hb
  ·obtain rfl:i=n:=by omega
   refine(hI.endg (some ⟨(x.bk 0).1,off',none⟩) i c vb voff vc cs v w hnc (by omega) hbig hcl (fun h=>by cases h) (fun a ha j u hj=> ?_) hv hone).mono ?_
   ·cases ha
    have hj':j<i:=by rw[<-hcl];exact(List.getElem?_eq_some_iff.1 hj).1
    have h0:off'=0:=by rcases hoff with h|h<;>omega
    rw[da,h0,bW];exact hcells j u hj
   rintro en w1 ⟨G,R,hG1,hG2,rfl,rfl,hR⟩;refine anew _ G R hG1 hG2 ⟨cK,fun i _ h=>by omega⟩ (fun k hk=> ?_) ((Below.refl _ w).drew.alloc (aL _) _);rw[hR k hk]
   by_cases h1:k<i
   ·rw[if_pos h1,aa,bg (by omega),<-aa,hcg k h1]
   ·have h2:k=i:=by omega
    subst h2;rw[if_neg h1,if_pos rfl,aa,bA (by omega),hcl];simp
theorem XL{g:Nat}{el:TypeId}(hI:YD P g el){s:SV}{t:Tok}:
 kA P g [.lst 1 [] .clip,.int .i64 0,.lst 1 [[s]] t] [] 0 (· =⟨.psl 100 1 0 1 none,[(100,.arr 1 [[s]])],[]⟩):=by
 refine⟨hI.cb,fun C x w vs hw hG hm hl hwf hH hr=> ?_⟩;obtain⟨u0,u1,u2,rfl,r0,r1,r2⟩:=RX hr;obtain⟨base,cap,rfl,hcap,hD,hsp⟩:=r0.lst_inv;obtain⟨a',n',he⟩:=hsp;simp only[aV,Value.slice.injEq]at he;obtain⟨_,rfl,rfl⟩:=he;rw[r1.int_inv];obtain⟨vb,voff,vc,v,rfl,hgv,hDv⟩:=Cd r2;have hv:=hH.per _ _ _ hgv;refine(hI.endg base 0 0 vb voff vc [] v w (aL _) (by omega) (by omega) rfl (fun _=>rfl) (fun a _ j u hj=>by simp at hj) hv hDv.oneCell).mono ?_;rintro en w1 ⟨G,R,hG1,hG2,rfl,rfl,hR⟩;have hd2:(x.newO 100 w.heap.size G).bk 100=(w.heap.size,G):=iB _ _ _;refine⟨_,x.newO 100 w.heap.size G,_,rfl,rfl, ?_, ?_, ?_,fun i hi=>by simp at hi⟩
 ·have:=Rep.psl (x:=x.newO 100 w.heap.size G) 100 1 0 1 none 0 G (.inr rfl) (by omega) (fun _ e=>by cases e) (fun _=> .inr (by rw[hd2];simp))
  rw[hd2]at this;exact this
 ·refine hH.one ((Below.refl _ w).drew.alloc (aL _) _) ⟨R,el,0,0,by rw[hd2];exact⟨cK,fun i _ h=>by omega⟩,⟨by simp only[aB.size,aD];omega,by rw[hd2,hG2];exact aL _,fun _ h=>by omega⟩,fun k hk=> ?_⟩
  simp only[aB.size,aD]at hk;have hk0:k=0:=by omega
  subst hk0;rw[yC,hR 0 (by omega)];exact hDv
 ·intro p hp
  rw[aN.1 hp];exact fS.2 (fun y hy=>by rw[aN.1 hy];rfl)
end Go.Sy
