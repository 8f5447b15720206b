/- An engine that steps through Go code with symbolic values: sound by proof. No condition. -/
import Derived.Test.YtbfnljmmepcbfaaGreatDoorEdPA
import Derived.Shelf.Spec.SlicesInsertGrow
open Array renaming getD_eq_getD_getElem? -> aQ, getElem?_eq_getElem -> cg
open List renaming flatten_append -> bL, flatten_cons -> cr, getD_eq_getElem?_getD -> aa, getElem?_append_left -> bq, getElem?_append_right -> bB, getElem?_drop -> bi, getElem?_eq_getElem -> ac, getElem?_eq_some_iff -> nK, getElem_of_mem -> bn, length_append -> af, length_cons -> am, length_drop -> aL, length_nil -> aB, length_singleton -> br, length_take -> ax, mem_append -> al, mem_cons -> aw, mem_cons_of_mem -> av, mem_cons_self -> aE, mem_of_mem_drop -> cI, mem_of_mem_take -> bQ, mem_singleton -> bw, nil_append -> aI, range -> bA, take_append_drop -> dk
open Nat renaming add_mul -> bv, div_eq_of_lt -> xZ, le_refl -> aK, lt_or_ge -> bO, min_eq_left -> fi, mod_eq_of_lt -> cx, mul_le_mul_right -> aX, one_mul -> nu, zero_add -> bS, zero_mul -> fo
open Option renaming getD_some -> aM
set_option linter.unusedVariables false
set_option linter.unusedSimpArgs false
set_option linter.unnecessarySimpa false
set_option linter.unusedSectionVars false
namespace Go.Sy
variable [bf]
variable {P : Program} {C : Ctx} {x : Sit} {w w' : World} {ob : List (Nat × aC)} {tk : List Nat}
open Go.RowKit Go.ChangeShapes Go.WideShapes
structure Y5(P:Program)(g:Nat)(el:TypeId)(sz:Nat):Prop where
 cb:dL P g=true
 shift:∀(b n c i vb voff vc:Nat)(cs vs:List Value)(w:World),i<n->n+1<=c->n<=1000000->vb≠b->cs.length=n*sz->vs.length=sz->(∀j u,cs[j]? =some u->w.cell? ⟨b,j,none⟩=some u)->
  (∀j,j<(n+1)*sz->(w.cell? ⟨b,j,none⟩).isSome=true)->(∀j,j<(n+1)*sz->w.frozen? ⟨b,j,none⟩=false)->(∀j u,vs[j]? =some u->w.cell? ⟨vb,voff+j,none⟩=some u)->(∀u∈cs,u.oneCell'=true)->(∀u∈vs,u.oneCell'=true)->
  (∃tB kB,w.shape? b=some (tB,kB)/\w.frozen? ⟨b,kB,none⟩=false)->
  Calls P g #[.slice (some ⟨b,0,none⟩) n c,.int .i64 i,.slice (some ⟨vb,voff,none⟩) 1 vc] w fun e w'=>e= .returned (.slice (some ⟨b,0,none⟩) (n+1) c)/\w'=(w.drew.setCells b ((i+1)*sz) (cs.drop (i*sz))).setCells b (i*sz) vs
 room:∀(b n c vb voff vc:Nat)(vs:List Value)(w:World),n+1<=c->n<=1000000->vs.length=sz->(∀j,j<sz->(w.cell? ⟨b,n*sz+j,none⟩).isSome=true)->(∀j,j<sz->w.frozen? ⟨b,n*sz+j,none⟩=false)->(∀j u,vs[j]? =some u->w.cell? ⟨vb,voff+j,none⟩=some u)->(∀u∈vs,u.oneCell'=true)->
  Calls P g #[.slice (some ⟨b,0,none⟩) n c,.int .i64 n,.slice (some ⟨vb,voff,none⟩) 1 vc] w fun e w'=>e= .returned (.slice (some ⟨b,0,none⟩) (n+1) c)/\w'=w.setCells b (n*sz) vs
 grow:∀(b n c i vb voff vc:Nat)(cs vs:List Value)(w:World),i<n->n<=c->c<n+1->n<=1000000->cs.length=n*sz->vs.length=sz->(∀j u,cs[j]? =some u->w.cell? ⟨b,j,none⟩=some u)->
  (∀j u,vs[j]? =some u->w.cell? ⟨vb,voff+j,none⟩=some u)->(∀u∈cs,u.oneCell'=true)->(∀u∈vs,u.oneCell'=true)->
  Calls P g #[.slice (some ⟨b,0,none⟩) n c,.int .i64 i,.slice (some ⟨vb,voff,none⟩) 1 vc] w fun e w'=>
   ∃(G:Nat)(R:Array Value),n+1<=G/\R.size=G*sz/\e= .returned (.slice (some ⟨w.heap.size,0,none⟩) (n+1) G)/\
    w'=(((w.alloc (.cells R el (0,0))).drew.setCells w.heap.size (i*sz) vs).drew).setCells w.heap.size ((i+1)*sz) (cs.drop (i*sz))/\∀k,k<i*sz->R.getD k Go.undef=cs.getD k Go.undef
 endg:∀(base:Option Addr)(n c vb voff vc:Nat)(cs vs:List Value)(w:World),n<=c->c<n+1->n<=1000000->cs.length=n*sz->vs.length=sz->(base=none->n=0)->
  (∀a,base=some a->∀j u,cs[j]? =some u->w.cell? (a.add j)=some u)->(∀j u,vs[j]? =some u->w.cell? ⟨vb,voff+j,none⟩=some u)->(∀u∈vs,u.oneCell'=true)->
  Calls P g #[.slice base n c,.int .i64 n,.slice (some ⟨vb,voff,none⟩) 1 vc] w fun e w'=>
   ∃(G:Nat)(R:Array Value),n+1<=G/\R.size=G*sz/\e= .returned (.slice (some ⟨w.heap.size,0,none⟩) (n+1) G)/\
    w'=w.drew.alloc (.cells R el (0,0))/\∀k,k<(n+1)*sz->R.getD k Go.undef=(cs++vs).getD k Go.undef
def jx(rows:List (List SV))(i:Nat)(s:List SV):List (List SV):=rows.take i++s::rows.drop i
theorem vG(rows:List (List SV))(i:Nat)(s:List SV)(hi:i<=rows.length):(jx rows i s).length=rows.length+1:=by unfold jx;rw[af,am,ax,aL];omega
theorem sG{sz:Nat}(rows:List (List SV))(i:Nat)(s:List SV)(hs:s.length=sz)(h:∀y∈rows,y.length=sz):∀y∈jx rows i s,y.length=sz:=by
 intro y hy;unfold jx at hy;rcases al.1 hy with h1|h1
 ·exact h y (bQ h1)
 ·rcases aw.1 h1 with rfl|h1
  ·exact hs
  ·exact h y (cI h1)
theorem vM{sz:Nat}:∀{rows:List (List SV)},(∀y∈rows,y.length=sz)->rows.flatten.length=rows.length*sz
 |[],_=>by simp
 |r::t,h=>by rw[cr,af,vM fun y hy=>h y (av _ hy),h r aE,am,bv,nu,Nat.add_comm]
theorem py{sz:Nat}(hz:0<sz):∀{rows:List (List SV)},(∀y∈rows,y.length=sz)->∀k,k<rows.length*sz->rows.flatten.getD k .undef=(rows.getD (k/sz) []).getD (k % sz) .undef
 |[],_,k,hk=>by simp at hk
 |r::t,h,k,hk=>by
  have hr:=h r aE;rw[cr]
  by_cases hlt:k<sz
  ·rw[xZ hlt,cx hlt,aa,bq (by omega),<-aa];rfl
  ·have h1:k/sz=(k-sz)/sz+1:=by
    rw[<-Nat.add_div_right _ hz];congr 1;omega
   have h2:k % sz=(k-sz) % sz:=by rw[Nat.mod_eq_sub_mod (by omega)]
   rw[h1,h2,aa,bB (by omega),hr,<-aa,py hz (fun y hy=>h y (av _ hy)) (k-sz) (by rw[am,bv,nu]at hk;omega)]
   rfl
theorem D1{sz:Nat}(hz:0<sz){rows:List (List SV)}(h:∀y∈rows,y.length=sz){k:Nat}(hk:k<rows.length*sz){v:Value}:cf x (.arr sz rows) k v=co x.G (rows.flatten.getD k .undef) v:=by rw[py hz h k hk];rfl
theorem F4{sz:Nat}(rows:List (List SV))(i:Nat)(s:List SV)(hi:i<=rows.length)(hs:s.length=sz)(h:∀y∈rows,y.length=sz)(k:Nat):
 (jx rows i s).flatten.getD k .undef=if k<i*sz then rows.flatten.getD k .undef else if k<(i+1)*sz then s.getD (k-i*sz) .undef else rows.flatten.getD (k-sz) .undef:=by
 have e:(jx rows i s).flatten=(rows.take i).flatten++(s++(rows.drop i).flatten):=by unfold jx;rw[bL,cr]
 have e2:rows.flatten=(rows.take i).flatten++(rows.drop i).flatten:=by rw[<-bL,dk]
 have l1:(rows.take i).flatten.length=i*sz:=by rw[vM fun y hy=>h y (bQ hy),ax,fi hi]
 have m1:(i+1)*sz=i*sz+sz:=by rw[bv,nu]
 rw[e,e2,aa]
 by_cases h1:k<i*sz
 ·rw[if_pos h1,bq (by omega),aa,bq (by omega)]
 ·rw[if_neg h1,bB (by omega),l1]
  by_cases h2:k<(i+1)*sz
  ·rw[if_pos h2,bq (by omega),<-aa]
  ·rw[if_neg h2,bB (by omega),aa,bB (by omega),l1,hs]
   congr 2;omega
theorem vn{sz:Nat}(hz:0<sz){s:List SV}{t:Tok}{u:Value}(h:Rep x (.lst sz [s] t) u):∃(vb voff vc:Nat)(vs:List Value),u= .slice (some ⟨vb,voff,none⟩) 1 vc/\s.length=sz/\vs.length=sz/\(∀j,j<sz->x.G vb (voff+j)=some (vs.getD j Go.undef))/\∀j,j<sz->co x.G (s.getD j .undef) (vs.getD j Go.undef):=by
 cases h with
 |dat _ _ h _=>
  cases h with
  |lst _ _ _ b off cap n val hn hc hl hg h=>
   have h1:n=1:=hn;subst h1;have hs:s.length=sz:=hl 0 (by omega);have e:∀j,j<sz->((bA sz).map (val 0)).getD j Go.undef=val 0 j:=fun j hj=>by simp[aa,hj]
   refine⟨b,off,cap,(bA sz).map (val 0),rfl,hs,by simp,fun j hj=> ?_,fun j hj=> ?_⟩
   ·have:=hg 0 j (by omega) hj
    rw[e j hj];simpa using this
   ·have:=h 0 j (by omega) hj
    rw[e j hj];simpa using this
theorem oF{sz:Nat}(hz:0<sz){rows:List (List SV)}{i n:Nat}{s:List SV}{vs:List Value}(hrows:∀y∈rows,y.length=sz)(hn:rows.length=n)(hi:i<=n)(hs:s.length=sz)(hv:∀j,j<sz->co x.G (s.getD j .undef) (vs.getD j Go.undef)){c0 c2:Array Value}(hc0:∀k,k<n*sz->co x.G (rows.flatten.getD k .undef) (c0.getD k Go.undef))
 (h:∀k,k<(n+1)*sz->c2.getD k Go.undef=if k<i*sz then c0.getD k Go.undef else if k<(i+1)*sz then vs.getD (k-i*sz) Go.undef else c0.getD (k-sz) Go.undef) (k:Nat) (hk:k<(aC.arr sz (jx rows i s)).size):cf x (.arr sz (jx rows i s)) k (c2.getD k Go.undef):=by
 have hl:=vG rows i s (by omega)
 have hk':k<(n+1)*sz:=by simp only[aC.size,hl,hn]at hk;exact hk
 have m1:(i+1)*sz=i*sz+sz:=by rw[bv,nu]
 have m2:(n+1)*sz=n*sz+sz:=by rw[bv,nu]
 have m3:i*sz<=n*sz:=aX _ hi;rw[D1 hz (sG rows i s hs hrows) (by rw[hl,hn];exact hk'),F4 rows i s (by omega) hs hrows,h k hk']
 by_cases h1:k<i*sz
 ·rw[if_pos h1,if_pos h1];exact hc0 k (by omega)
 ·rw[if_neg h1,if_neg h1]
  by_cases h2:k<(i+1)*sz
  ·rw[if_pos h2,if_pos h2];exact hv _ (by omega)
  ·rw[if_neg h2,if_neg h2];exact hc0 (k-sz) (by omega)
theorem rh{g:Nat}{el:TypeId}{sz:Nat}(hz:0<sz)(hz2:sz<=1000)(hI:Y5 P g el sz){rows:List (List SV)}{i n:Nat}{s:List SV}{t:Tok}(hn:rows.length=n)(hi:i<=n)(hbig:n<=1000000):
 fz P g [.psl 0 sz 0 n none,.int .i64 i,.lst sz [s] t] [.arr sz rows] 0 (· =⟨.psl 100 sz 0 (n+1) none,[(100,.arr sz (jx rows i s))],[]⟩):=by
 refine⟨hI.cb,fun C x w vs hw hG hm hl hwf hH hr=> ?_⟩;obtain⟨u0,u1,u2,rfl,r0,r1,r2⟩:=SA hr;obtain⟨c,hnc,off',rfl,hoff,hkk⟩:=r0.psl_invK;rw[r1.int_inv];obtain⟨vb,voff,vc,vs,rfl,hsl,hvl,hgv,hDv⟩:=vn hz r2;have hrows:∀y∈rows,y.length=sz:=fF.1 (hwf _ (bw.2 rfl));have hmem:(0,aC.arr sz rows)∈idx [.arr sz rows]:=by simp[idx]
 obtain⟨⟨ca,e,fl,fh,hO,⟨hs1,hs2,hs3⟩,hcell⟩,hmine,hGn⟩:=hH.obs _ hmem;simp only at hO hs2 hmine hGn hcell;have m1:(i+1)*sz=i*sz+sz:=by rw[bv,nu]
 have m2:(n+1)*sz=n*sz+sz:=by rw[bv,nu]
 have m3:i*sz<=n*sz:=aX _ hi
 have hv:∀j u,vs[j]? =some u->w.cell? ⟨vb,voff+j,none⟩=some u:=fun j u hj=>by
  have hjs:j<sz:=by rw[<-hvl];exact(nK.1 hj).1
  have h1:=hH.per _ _ _ (hgv j hjs);rw[aa,hj,aM]at h1;exact h1
 have hvb:vb≠(x.bk 0).1:=by rintro rfl;have:=hgv 0 hz;rw[hGn]at this;cases this
 have hone:∀u∈vs,u.oneCell'=true:=fun u hu=>by obtain⟨j,hj,rfl⟩:=bn hu;have h1:=(hDv j (by omega)).oneCell;rw[aa,ac hj,aM]at h1;exact h1
 have hsz:n*sz<=ca.size:=by simp only[aC.size,hn]at hs1;exact hs1
 have hc0:∀k,k<n*sz->co x.G (rows.flatten.getD k .undef) (ca.getD k Go.undef):=fun k hk=>by have:=hcell k (by simp only[aC.size,hn];exact hk);rw[D1 hz hrows (by rw[hn];exact hk)]at this;exact this
 obtain⟨cs,hcs⟩:∃cs:List Value,cs=(bA (n*sz)).map fun k=>ca.getD k Go.undef:=⟨_,rfl⟩
 have hcl:cs.length=n*sz:=by rw[hcs];simp
 have hcg:∀k,k<n*sz->cs.getD k Go.undef=ca.getD k Go.undef:=fun k hk=>by rw[hcs,aa];simp[hk]
 have hcells:∀j u,cs[j]? =some u->w.cell? ⟨(x.bk 0).1,j,none⟩=some u:=fun j u hj=>by
  have hjn:j<n*sz:=by rw[<-hcl];exact(nK.1 hj).1
  rw[hO.cell,cg (by omega)];have h1:=hcg j hjn;rw[aa,hj,aQ,cg (by omega)]at h1;simp only[aM]at h1;rw[h1]
 have hcone:∀u∈cs,u.oneCell'=true:=fun u hu=>by obtain⟨j,hj,rfl⟩:=bn hu;have h1:=hcg j (by omega);rw[aa,ac hj,aM]at h1;rw[h1];exact(hc0 j (by omega)).oneCell
 have hsize:(aC.arr sz (jx rows i s)).size=(n+1)*sz:=by simp only[aC.size,vG rows i s (by omega),hn]
 have hbk:∀(K:Nat)(b:Nat) i,i<([aC.arr sz rows]:List aC).length->(x.newO 100 b K).bk i=x.bk i:=fun K b i hi=>Sit.newO_ne _ _ _ _ (by simp at hi;omega)
 have fitc:n+1<=c->(n+1)*sz<=ca.size:=fun hfit=>by
  have h3:(n+1)*sz<=c*sz:=aX _ hfit;rcases hkk with h|h
  ·omega
  ·omega
 have place:∀(w1:World),n+1<=c->(∃c2,eh w1 (x.bk 0).1 c2 e fl fh/\c2.size=ca.size/\∀k,k<(n+1)*sz->c2.getD k Go.undef=if k<i*sz then ca.getD k Go.undef else if k<(i+1)*sz then vs.getD (k-i*sz) Go.undef else ca.getD (k-sz) Go.undef)->
  w1.os=w.os->w1.tape=w.tape->w1.output=w.output->w1.heap.size=w.heap.size->(∀b,b≠(x.bk 0).1->w1.heap[b]? =w.heap[b]?)->
  ∃v' x' q,(Ending.returned (.slice (some ⟨(x.bk 0).1,off',none⟩) (n+1) c):Ending)= .returned v'/\q=(⟨.psl 100 sz 0 (n+1) none,[(100,.arr sz (jx rows i s))],[]⟩:dv)/\Rep x' q.r v'/\cX C x' q.os q.tk w1/\(∀p∈q.os,p.2.wf=true)/\∀i,i<([aC.arr sz rows]:List aC).length->x'.bk i=x.bk i:=by
  intro w1 hroom ⟨c2,hO2,hcs2,hck⟩ e1 e2 e3 e4 e5;have hkap:=fitc hroom;have hH2:=hH.block hmem e1 e2 e3 e4 e5 (obj':= .arr sz (jx rows i s)) ⟨c2,e,fl,fh,hO2,⟨by rw[hsize,hcs2];exact hkap,by rw[hcs2];exact hs2,fun h=>by rw[hcs2];exact hs3 rfl⟩,oF hz hrows hn hi hsl hDv hc0 hck⟩;have hH3:=hH2.move (o:=0) (d:=100) (obj:= .arr sz (jx rows i s)) (by omega) (by simp[idx,setO]) (fun cs e=>by cases e);have hd2:(x.newO 100 (x.bk 0).1 (x.bk 0).2).bk 100=x.bk 0:=gX _ _ _;refine⟨_,x.newO 100 (x.bk 0).1 (x.bk 0).2,_,rfl,rfl, ?_, ?_, ?_,hbk _ _⟩
  ·have:=Rep.psl (x:=x.newO 100 (x.bk 0).1 (x.bk 0).2) 100 sz 0 (n+1) none off' c hoff (by omega) (fun _ e=>by cases e) (fun _=>by rw[hd2];exact hkk)
   rw[hd2]at this;exact this
  ·simpa[idx,setO,bF,tks,jU,cz]using hH3
  ·intro p hp
   rw[bw.1 hp];exact fF.2 (sG rows i s hsl hrows)
 have anew:∀(w1:World)(G:Nat)(c2:Array Value),n+1<=G->c2.size=G*sz->eh w1 w.heap.size c2 el 0 0->(∀k,k<(n+1)*sz->c2.getD k Go.undef=if k<i*sz then ca.getD k Go.undef else if k<(i+1)*sz then vs.getD (k-i*sz) Go.undef else ca.getD (k-sz) Go.undef)->Below w.heap.size w w1->
  ∃v' x' q,(Ending.returned (.slice (some ⟨w.heap.size,0,none⟩) (n+1) G):Ending)= .returned v'/\q=(⟨.psl 100 sz 0 (n+1) none,[(100,.arr sz (jx rows i s))],[]⟩:dv)/\Rep x' q.r v'/\cX C x' q.os q.tk w1/\(∀p∈q.os,p.2.wf=true)/\∀i,i<([aC.arr sz rows]:List aC).length->x'.bk i=x.bk i:=by
  intro w1 G c2 hG1 hG2 hO2 hck hb;have hGs:(n+1)*sz<=G*sz:=aX _ hG1;have hd2:(x.newO 100 w.heap.size (G*sz)).bk 100=(w.heap.size,G*sz):=gX _ _ _;refine⟨_,x.newO 100 w.heap.size (G*sz),_,rfl,rfl, ?_, ?_, ?_,hbk _ _⟩
  ·have:=Rep.psl (x:=x.newO 100 w.heap.size (G*sz)) 100 sz 0 (n+1) none 0 G (.inr (by omega)) hG1 (fun _ e=>by cases e) (fun _=> .inr (by rw[hd2];simp))
   rw[hd2]at this;exact this
  ·exact hH.one hb ⟨c2,el,0,0,by rw[hd2];exact hO2,⟨by rw[hsize,hG2];exact hGs,by rw[hd2,hG2];exact aK _,fun _ h=>by omega⟩,fun k hk=>oF (x:=x) hz hrows hn hi hsl hDv hc0 hck k hk⟩
  ·intro p hp
   rw[bw.1 hp];exact fF.2 (sG rows i s hsl hrows)
 have hdl:(cs.drop (i*sz)).length=n*sz-i*sz:=by rw[aL,hcl]
 by_cases hfit:n+1<=c
 ·have hkap:=fitc hfit
  obtain rfl:off'=0:=by rcases hoff with h|h<;>omega
  have hsome:∀j,j<(n+1)*sz->(w.cell? ⟨(x.bk 0).1,j,none⟩).isSome=true:=fun j hj=>by rw[hO.cell,cg (by omega)];rfl
  have hfree:∀j,j<(n+1)*sz->w.frozen? ⟨(x.bk 0).1,j,none⟩=false:=fun j hj=>hO.free (by omega)
  rcases bO i n with hlt|hge
  ·refine(hI.shift (x.bk 0).1 n c i vb voff vc cs vs w hlt hfit hbig hvb hcl hvl hcells hsome hfree hv hcone hone ⟨e,ca.size,CJ hO,FS hO (hs3 rfl)⟩).mono ?_
   rintro en w1 ⟨rfl,rfl⟩;have hOd:eh w.drew (x.bk 0).1 ca e fl fh:=hO.of_heap rfl;obtain⟨c1,hO1,hz1,hk1⟩:=dd (cs.drop (i*sz)) w.drew ((i+1)*sz) ca hOd (by omega);obtain⟨c2,hO2,hz2,hk2⟩:=dd vs (bU w.drew (x.bk 0).1 ((i+1)*sz) (cs.drop (i*sz))) (i*sz) c1 hO1 (by omega);obtain⟨p1,p2,p3,p4,p5⟩:=dn (x.bk 0).1 (cs.drop (i*sz)) w.drew ((i+1)*sz);obtain⟨s1,s2,s3,s4,s5⟩:=dn (x.bk 0).1 vs (bU w.drew (x.bk 0).1 ((i+1)*sz) (cs.drop (i*sz))) (i*sz);rw[eO,eO];refine place _ hfit ⟨c2,hO2,by omega,fun k hk=> ?_⟩ (s1.trans p1) (s2.trans p2) (s3.trans p3) (s4.trans p4) (fun b hb=>(s5 b hb).trans (p5 b hb));rw[hk2 k,hk1 k]
   by_cases h1:k<i*sz
   ·rw[if_neg (by omega),if_neg (by omega),if_pos h1]
   ·rw[if_neg h1]
    by_cases h2:k<(i+1)*sz
    ·rw[if_pos (by omega),if_pos h2]
    ·rw[if_neg (by omega),if_pos (by omega),if_neg h2,aa,bi,<-aa,show i*sz+(k-(i+1)*sz)=k-sz by omega]
     exact hcg (k-sz) (by omega)
  ·obtain rfl:i=n:=by omega
   refine(hI.room (x.bk 0).1 i c vb voff vc vs w hfit hbig hvl (fun j hj=>hsome _ (by omega)) (fun j hj=>hfree _ (by omega)) hv hone).mono ?_;rintro en w1 ⟨rfl,rfl⟩;obtain⟨c2,hO2,hz2,hk2⟩:=dd vs w (i*sz) ca hO (by omega);obtain⟨s1,s2,s3,s4,s5⟩:=dn (x.bk 0).1 vs w (i*sz);rw[eO];refine place _ hfit ⟨c2,hO2,by omega,fun k hk=> ?_⟩ s1 s2 s3 s4 s5;rw[hk2 k]
   by_cases h1:k<i*sz
   ·rw[if_neg (by omega),if_pos h1]
   ·rw[if_pos (by omega),if_neg h1,if_pos (by omega)]
 ·have hcn:c=n:=by omega
  rcases bO i n with hlt|hge
  ·obtain rfl:off'=0:=by rcases hoff with h|h<;>omega
   refine(hI.grow (x.bk 0).1 n c i vb voff vc cs vs w hlt hnc (by omega) hbig hcl hvl hcells hv hcone hone).mono ?_;rintro en w1 ⟨G,R,hG1,hG2,rfl,rfl,hR⟩;have hGs:(n+1)*sz<=G*sz:=aX _ hG1;have hOa:eh (w.alloc (.cells R el (0,0))).drew w.heap.size R el 0 0:=⟨heap_alloc_new,fun i _ h=>by omega⟩;obtain⟨c1,hO1,hz1,hk1⟩:=dd vs (w.alloc (.cells R el (0,0))).drew (i*sz) R hOa (by omega);have hO1':eh (bU (w.alloc (.cells R el (0,0))).drew w.heap.size (i*sz) vs).drew w.heap.size c1 el 0 0:=hO1.of_heap rfl;obtain⟨c2,hO2,hz2,hk2⟩:=dd (cs.drop (i*sz)) (bU (w.alloc (.cells R el (0,0))).drew w.heap.size (i*sz) vs).drew ((i+1)*sz) c1 hO1' (by omega);obtain⟨p1,p2,p3,p4,p5⟩:=dn w.heap.size vs (w.alloc (.cells R el (0,0))).drew (i*sz);obtain⟨s1,s2,s3,s4,s5⟩:=dn w.heap.size (cs.drop (i*sz)) (bU (w.alloc (.cells R el (0,0))).drew w.heap.size (i*sz) vs).drew ((i+1)*sz);rw[eO,eO];refine anew _ G c2 hG1 (by omega) hO2 (fun k hk=> ?_) ⟨s1.trans p1,s2.trans p2,s3.trans p3, ?_,fun b hb=> ?_⟩
   ·rw[hk2 k,hk1 k]
    by_cases h1:k<i*sz
    ·rw[if_neg (by omega),if_neg (by omega),if_pos h1,hR k h1,hcg k (by omega)]
    ·rw[if_neg h1]
     by_cases h2:k<(i+1)*sz
     ·rw[if_neg (by omega),if_pos (by omega),if_pos h2]
     ·rw[if_pos (by omega),if_neg h2,aa,bi,<-aa,show i*sz+(k-(i+1)*sz)=k-sz by omega]
      exact hcg (k-sz) (by omega)
   ·rw[s4]
    show w.heap.size<=(bU (w.alloc (.cells R el (0,0))).drew w.heap.size (i*sz) vs).heap.size;rw[p4];show w.heap.size<=(w.alloc (.cells R el (0,0))).heap.size;rw[World.size_alloc];omega
   ·rw[s5 b (by omega)]
    show(bU (w.alloc (.cells R el (0,0))).drew w.heap.size (i*sz) vs).heap[b]? =_;rw[p5 b (by omega)];exact dq hb
  ·obtain rfl:i=n:=by omega
   refine(hI.endg (some ⟨(x.bk 0).1,off',none⟩) i c vb voff vc cs vs w hnc (by omega) hbig hcl hvl (fun h=>by cases h) (fun a ha j u hj=> ?_) hv hone).mono ?_
   ·cases ha
    have hj':j<i*sz:=by rw[<-hcl];exact(nK.1 hj).1
    have h0:off'=0:=by
     rcases hoff with h|h
     ·have:i=0:=by omega
      rw[this,fo]at hj';omega
     ·omega
    rw[di,h0,bS];exact hcells j u hj
   rintro en w1 ⟨G,R,hG1,hG2,rfl,rfl,hR⟩;refine anew _ G R hG1 hG2 ⟨heap_alloc_new,fun i _ h=>by omega⟩ (fun k hk=> ?_) ((Below.refl _ w).drew.alloc (aK _) _);rw[hR k hk]
   by_cases h1:k<i*sz
   ·rw[if_pos h1,aa,bq (by omega),<-aa,hcg k h1]
   ·rw[if_neg h1,if_pos (by omega),aa,bB (by omega),hcl,<-aa]
theorem oD{g:Nat}{el:TypeId}{sz:Nat}(hz:0<sz)(hI:Y5 P g el sz){s:List SV}{t:Tok}:
 fz P g [.lst sz [] .clip,.int .i64 0,.lst sz [s] t] [] 0 (· =⟨.psl 100 sz 0 1 none,[(100,.arr sz [s])],[]⟩):=by
 refine⟨hI.cb,fun C x w vs hw hG hm hl hwf hH hr=> ?_⟩;obtain⟨u0,u1,u2,rfl,r0,r1,r2⟩:=SA hr;obtain⟨base,cap,rfl,hcap,hD,hsp⟩:=r0.lst_inv;obtain⟨a',n',he⟩:=hsp;simp only[aB,Value.slice.injEq]at he;obtain⟨_,rfl,rfl⟩:=he;rw[r1.int_inv];obtain⟨vb,voff,vc,vs,rfl,hsl,hvl,hgv,hDv⟩:=vn hz r2
 have hv:∀j u,vs[j]? =some u->w.cell? ⟨vb,voff+j,none⟩=some u:=fun j u hj=>by
  have hjs:j<sz:=by rw[<-hvl];exact(nK.1 hj).1
  have h1:=hH.per _ _ _ (hgv j hjs);rw[aa,hj,aM]at h1;exact h1
 have hone:∀u∈vs,u.oneCell'=true:=fun u hu=>by obtain⟨j,hj,rfl⟩:=bn hu;have h1:=(hDv j (by omega)).oneCell;rw[aa,ac hj,aM]at h1;exact h1
 refine(hI.endg base 0 0 vb voff vc [] vs w (aK _) (by omega) (by omega) (by simp) hvl (fun _=>rfl) (fun a _ j u hj=>by simp at hj) hv hone).mono ?_;rintro en w1 ⟨G,R,hG1,hG2,rfl,rfl,hR⟩;have hd2:(x.newO 100 w.heap.size (G*sz)).bk 100=(w.heap.size,G*sz):=gX _ _ _;have hGs:1*sz<=G*sz:=aX _ (by omega);have hw1:∀y∈ [s],y.length=sz:=fun y hy=>by rw[bw.1 hy];exact hsl
 refine⟨_,x.newO 100 w.heap.size (G*sz),_,rfl,rfl, ?_, ?_, ?_,fun i hi=>by simp at hi⟩
 ·have:=Rep.psl (x:=x.newO 100 w.heap.size (G*sz)) 100 sz 0 1 none 0 G (.inr (by omega)) (by omega) (fun _ e=>by cases e) (fun _=> .inr (by rw[hd2];simp))
  rw[hd2]at this;exact this
 ·refine hH.one ((Below.refl _ w).drew.alloc (aK _) _) ⟨R,el,0,0,by rw[hd2];exact⟨heap_alloc_new,fun i _ h=>by omega⟩,⟨by simp only[aC.size,br];omega,by rw[hd2,hG2];exact aK _,fun _ h=>by omega⟩,fun k hk=> ?_⟩
  simp only[aC.size,br,nu]at hk;rw[D1 hz hw1 (by rw[br];omega),hR k (by omega)];have e:([s]:List (List SV)).flatten=s:=by simp
  rw[e,aI];exact hDv k hk
 ·intro p hp
  rw[bw.1 hp];exact fF.2 hw1
end Go.Sy
namespace Go.Sy
open Go.RowKit Go.ChangeShapes Go.WideShapes Go.Shelf Go.Lib Go.Proofs
variable {P : Program}
theorem dA(w:World)(dT sT ty elem:TypeId)(b o dLen dCap:Nat)(a:Addr)(sLen sCap:Nat)(cs:List Value)(k q:Nat)
 (hu:P.underlying dT=some (.slice elem)) (hs:(P.info? elem).map (·.size)=some k) (hm:Nat.min sLen dLen=q) (hn:cs.length=q*k)
 (hsrc:∀j v,cs[j]? =some v->w.cell? (a.add j)=some v) (hc:∀j,j<cs.length->(w.cell? ⟨b,o+j,none⟩).isSome=true) (hf:∀j,j<cs.length->w.frozen? ⟨b,o+j,none⟩=false) (h1:∀v∈cs,v.oneCell'=true):
 (Builtin.copy_ #[dT,sT] ty #[.slice (some ⟨b,o,none⟩) dLen dCap,.slice (some a) sLen sCap]).run P w= .ok (goInt q) (w.setCells b o cs):=by
 have hl:=run_loadCells_list (P:=P) w a cs hsrc;have hst:=run_storeCells_cells (P:=P) b o cs 0 w (by simpa using hc) (by simpa using hf) h1;cases hq:P.info? elem with
 |none=>simp[hq]at hs
 |some i=>
  have hi:i.size=k:=by simpa[hq]using hs
  simp[Builtin.copy_,run_underlying hu,Builtin.lenOf,Builtin.firstCells,sizeOf,typeInfo,hq,hi,hm,<-hn,hl,hst]
end Go.Sy
