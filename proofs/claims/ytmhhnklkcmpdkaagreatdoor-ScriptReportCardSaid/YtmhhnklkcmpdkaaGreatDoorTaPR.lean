/- Contracts. No condition. -/
import Derived.Test.YtmhhnklkcmpdkaaGreatDoorCoPR
import Derived.Deep.AppendLies
import Derived.Deep.DeepMust
import Derived.Deep.Heap
import Derived.Deep.RegionHeld3
import Derived.Laws.ResultCell
import Derived.Laws.Rows
import Derived.Maps.AppendAt
open Array renaming getElem?_eq_some_iff -> cz, getElem?_modify -> dz
open Int renaming cast_ofNat_Int -> aN, natCast_zero -> ak, reduceLE -> cE, reduceToNat -> ci, tmod_eq_emod_of_nonneg -> fN, toNat_natCast -> eS
open Go.IntKind renaming i64 -> ah, u64 -> az, wrap_u64 -> dx
open List renaming append_assoc -> aI, append_nil -> bO, cons_append -> aL, drop -> gT, drop_eq_getElem_cons -> bD, drop_length -> bx, drop_zero -> bw, flatMap_cons -> cA, flatMap_nil -> ji, getD_cons_succ -> cZ, getD_cons_zero -> gD, getD_eq_getElem?_getD -> aa, getElem?_append_left -> cn, getElem?_append_right -> cO, getElem?_eq_getElem -> ac, getElem?_map -> aR, getElem_mem -> aF, length_append -> af, length_cons -> ai, length_eq_zero_iff -> cD, length_map -> av, length_nil -> al, length_replicate -> cC, length_set -> bM, length_singleton -> aT, mem_map -> aS, nil_append -> aA, pairwise_iff_getElem -> rx, replicate -> aB, singleton_append -> CD, take_of_length_le -> bp
open Nat renaming add_zero -> fJ, le_refl -> aM, lt_or_ge -> bq, mul_one -> gI, not_lt_zero -> ec, reduceAdd -> bt, reduceBEq -> aW, reduceDiv -> fM, reduceEqDiff -> aJ, reduceLT -> aX, reduceLeDiff -> bK, reduceMod -> fL, reducePow -> fK, zero_add -> de, zero_le -> aC
open Option renaming getD_some -> bn, map_eq_some_iff -> aj, map_some -> bz, some -> ay
open Prod renaming mk -> bA
open UInt8 renaming ofInt -> aO
set_option maxRecDepth 100000
set_option maxHeartbeats 16000000
set_option linter.unusedSimpArgs false
set_option linter.unusedVariables false
noncomputable section
namespace Go.Proofs.YtmhhnklkcmpdkaaGreatDoor
open Go.Sy

theorem c0:((0:Nat):Int)=0:=rfl
theorem c1:((1:Nat):Int)=1:=rfl
theorem c15:((15:Nat):Int)=15:=rfl
theorem c16:((16:Nat):Int)=16:=rfl
theorem c2:((2:Nat):Int)=2:=rfl
theorem xiQ:((200:Nat):Int)=200:=rfl
theorem xiO:((256:Nat):Int)=256:=rfl
theorem c3:((3:Nat):Int)=3:=rfl
theorem c32:((32:Nat):Int)=32:=rfl
theorem c35:((35:Nat):Int)=35:=rfl
theorem c4:((4:Nat):Int)=4:=rfl
theorem c5:((5:Nat):Int)=5:=rfl
theorem c6:((6:Nat):Int)=6:=rfl
theorem c64:((64:Nat):Int)=64:=rfl
theorem c8:((8:Nat):Int)=8:=rfl
theorem c80:((80:Nat):Int)=80:=rfl
theorem c9:((9:Nat):Int)=9:=rfl
abbrev okV(r:SV):Option eI:=some ⟨r,[],[]⟩
abbrev bN(l:t8):SV:= .byt l .no
attribute [go_sem] iV okV bN
theorem ccT(g:Nat){F:FnC}(h:T.fn g=some (.code F):=by rfl)(a:LAa)(os:List aG)(k:Nat):call T g a os k=my F os.length (Cf (run T) F a os k):=wi h a os k
attribute [go_sem] vv yQ yR
theorem w64{n:Int}(h1: -9223372036854775808<=n:=by omega)(h2:n<=9223372036854775807:=by omega):ah.wrap n=n:=by rw[IntKind.wrap_i64];omega
theorem wZ{a b:Int}(h:-9223372036854775808<=a/\a<=9223372036854775807/\a=b):ah.wrap a=b:=by rw[w64 h.1 h.2.1];exact h.2.2
theorem bJ(i:Nat)(h:i<9223372036854775807:=by omega):ah.wrap ((i:Int)+1)=((i+1:Nat):Int):=by rw[w64];omega
theorem qa{α:Type}[Inhabited α](l:List α)(i:Nat)(h:i<l.length):l.drop i=l.getD i default::l.drop (i+1):=by rw[bD h,aa,ac h];rfl
theorem eg(l:t8)(i:Nat)(h:i<l.length:=by omega):l.drop i=l.getD i 0::l.drop (i+1):=qa l i h
theorem l95(a b:t8)(I:a.length<=140737488355328)(z:a.length=b.length):∀(n i:Nat),a.length-i=n->i<=a.length->
 run T (.loop JM) ⟨[(0,bN a),(1,bN b),(5,iV i)],[],[]⟩=if a.drop i=b.drop i then some (.x 0,⟨[],[],[]⟩)else some (.r,⟨[(4,.bool false)],[],[]⟩):=by
 intro n;induction n with
 |zero=>
  intro i h0 h1;have hi:i=a.length:=by omega
  subst hi;rw[ab];have e:gT a.length b=[]:=by rw[z,bx]
  simp only[go_sem,simprocAttr,bx,e]
 |succ n F=>
  intro i h0 h1;have hi:i<a.length:=by omega
  have y:i<b.length:=by omega
  rw[ab,eg a i hi,eg b i y];have C:ah.wrap ((i:Int)+1)=((i+1:Nat):Int):=by rw[w64];omega
  simp only[go_sem,simprocAttr,hi,y,C,F (i+1) (by omega) (by omega),List.cons.injEq]
  by_cases H:a.getD i 0=b.getD i 0<;>simp only[H,go_sem,simprocAttr]
theorem f95(a b:t8)(C:a.length<=140737488355328:=by omega):call T 95 [bN a,bN b] [] 0=okV (.bool (decide (a=b))):=by
 rw[ccT 95]
 by_cases y:a.length=b.length
 ·have h:=l95 a b C y _ 0 rfl (by omega)
  simp only[ak,bw]at h;simp only[go_sem,simprocAttr,y,h]
  by_cases z:a=b<;>simp only[z,go_sem,simprocAttr]
 ·have z:a≠b:=fun e=>y (by rw[e])
  simp only[go_sem,simprocAttr,y,z]
def Sz(n m:Int):Int:=if m<1 then 0 else if n.tmod m<0 then n.tmod m+m else n.tmod m
theorem f16(a b:Int)(z: -9223372036854775808<=a)(y:a<=9223372036854775807)(C:b<=9223372036854775807):call T 16 [iV a,iV b] [] 0=okV (iV (Sz a b)):=by
 rw[ccT 16]
 by_cases h:b<1
 ·simp only[go_sem,simprocAttr,h,Sz]
 ·have h0:¬b=0:=by omega
  simp only[go_sem,simprocAttr,h,h0,Sz]
  by_cases h2:a.tmod b<0
  ·have h3: -b<a.tmod b:=by
    have:=Int.lt_tmod_of_pos a (b:=b) (by omega);omega
   have h4:ah.wrap (a.tmod b+b)=a.tmod b+b:=w64;simp only[h2,go_sem,simprocAttr,h4]
  ·simp only[h2,go_sem,simprocAttr]
def bE(B:t8)(y:Nat):aG:= .rc [bN B,iV y]
theorem f14(a:t8)(n:Nat):call T 14 [bN a,iV n] [] 0=some ⟨.ptr 100 0,[(100,bE (a.take n) 0)],[]⟩:=by
 rw[ccT 14]
 by_cases h:n<a.length
 ·have h2:n<=a.length:=by omega
  simp only[go_sem,simprocAttr,h,h2,bE]
 ·simp only[go_sem,simprocAttr,h,bE,bp (Nat.le_of_not_lt h)]
def cH(a:t8)(b n:Nat):Nat:=if b<a.length then(a.getD b 0).toNat % n else 0
def bF(a:t8)(b:Nat):Nat:=if b<a.length then b+1 else b
theorem f15(a:t8)(b n:Nat)(H:0<n:=by omega)(F:a.length<=1000000000000:=by omega):call T 15 [.ptr 0 0,iV n] [bE a b] 0=some ⟨iV (cH a b n),[(0,bE a (bF a b))],[]⟩:=by
 rw[ccT 15]
 by_cases h:b<a.length
 ·have h1:¬a.length<=b:=by omega
  have y:ah.wrap ((b:Int)+1)=((b+1:Nat):Int):=by rw[w64];omega
  have C:ah.wrap (((b+1:Nat):Int)-1)=(b:Int):=by rw[w64];omega
  have z:¬(n:Int)=0:=by omega
  simp only[go_sem,simprocAttr,bE,h,h1,y,C,z,cH,bF,<-Int.ofNat_tmod]
 ·have h1:a.length<=b:=by omega
  simp only[go_sem,simprocAttr,bE,h,h1,cH,bF,ak]
section
theorem Tj(B:t8)(h:B.length<=1000000000:=by omega):call T 238 [bN B] [] 0=okV (bN B):=by
 have c1:0+B.length<=140737488355328:=by omega
 have c2:B.length<=140737488355328:=by omega
 rw[ccT 238];simp only[go_sem,simprocAttr,c2,aA]
def bys(y:List t8):f9:=y.map fun X=> [bN X]
theorem eD(y:List t8):(bys y).length=y.length:=by simp[bys]
theorem jr(y:List t8)(i:Nat)(h:i<y.length):(bys y).getD i []=[bN (y.getD i [])]:=by simp[bys,aa,h]
def qB(bs:List (List t8)):f9:=bs.map fun L=> [.lst 1 (bys L) .no]
def gG(bs:List (List t8))(n:Int):LAa:=[.lst 1 (qB bs) .no,iV n]
theorem kM(bs:List (List t8)):(qB bs).length=bs.length:=av ..
theorem mA(bs:List (List t8))(i:Nat)(h:i<bs.length):(qB bs).getD i []=[.lst 1 (bys (bs.getD i [])) .no]:=by simp[qB,aa,h]
def rm(bs:List (List t8)):Prop:=bs.length<=2/\∀L∈bs,(L.length=0\/L.length=16)/\∀x∈L,x.length<=32
section
open Go.RowKit Go.ChangeShapes Go.WideShapes
variable {x : Sit} {w w' : World}
theorem iC{G y:GM}(z:∀b o v,G b o=some v->y b o=some v)(h:Lay G):Lay y:=fun g cs F j C=>by obtain⟨v,h1,h2⟩:=h g cs F j C;exact⟨v,z _ _ _ h1,h2.mono z⟩
theorem mU(y:∀b o v,x.G b o=some v->w.cell? ⟨b,o,none⟩=some v)(z:Below w.heap.size w w'):∀b o v,x.G b o=some v->(rJ w').G b o=some v:=fun b o v h=>by have h1:=y b o v h;show w'.cell? ⟨b,o,none⟩=some v;rw[z.cell (p:=⟨b,o,none⟩) (cx h1)];exact h1
theorem sU{G:GM}{k:IntKind}{n:Int}{v:Value}(h:bU G (.int k n) v):v= .int k n:=by cases h;rfl
theorem xbr{G:GM}{b:Bool}{v:Value}(h:bU G (.bool b) v):v= .bool b:=by cases h;rfl
def slA:Value->Option Addr
 | .slice a _ _=>a
 |_=>none
def slN:Value->Nat
 | .slice _ n _=>n
 |_=>0
def slC:Value->Nat
 | .slice _ _ c=>c
 |_=>0
theorem gN{G:GM}{l:t8}{t:Tok}{v:Value}(h:bU G (.byt l t) v):v= .slice (slA v) (slN v) (slC v):=by
 cases h<;>rfl
theorem fj{G:GM}{sz:Nat}{l:f9}{t:Tok}{v:Value}(h:bU G (.lst sz l t) v):v= .slice (slA v) (slN v) (slC v):=by
 cases h<;>rfl
theorem MS{G:GM}{sz:Nat}{l:f9}{t:Tok}{v:Value}(h:bU G (.lst sz l t) v):∃a c,v= .slice a l.length c:=by
 cases h with
 |lstN=>exact⟨_,_,rfl⟩
 |lstE=>exact⟨_,_,rfl⟩
 |lst _ _ _ b off cap n val y F z C h=>subst y;exact⟨_,_,rfl⟩
theorem M9{G:GM}{l:t8}{t:Tok}{v:Value}(h:bU G (.byt l t) v):∃a c,v= .slice a l.length c:=by
 cases h with
 |bytN=>exact⟨_,_,rfl⟩
 |bytE=>exact⟨_,_,rfl⟩
 |byt _ _ b off cap n y z h=>subst y;exact⟨_,_,rfl⟩
theorem HX{G:GM}{l:f9}{t:Tok}{v:Value}(h:bU G (.lst 1 l t) v){i:Nat}(hi:i<l.length):
 ∃b off cap u,v= .slice (some ⟨b,off,none⟩) l.length cap/\G b (off+i)=some u/\bU G ((l.getD i []).getD 0 .undef) u:=by
 rcases Pr.lst_inv h with y|⟨b,off,cap,val,rfl,hc,hg,hd⟩
 ·rw[y]at hi;exact absurd hi (ec _)
 ·exact⟨b,off,cap,_,rfl,by have:=hg i 0 hi (by decide);rwa[gI,fJ]at this,hd i 0 hi (by decide)⟩
theorem UN{G:GM}{bs:List (List t8)}{t:Tok}{v:Value}(h:bU G (.lst 1 (qB bs) t) v){i:Nat}(hi:i<bs.length):
 ∃b off cap a c,v= .slice (some ⟨b,off,none⟩) bs.length cap/\G b (off+i)=some (.slice a (bs.getD i []).length c)/\bU G (.lst 1 (bys (bs.getD i [])) .no) (.slice a (bs.getD i []).length c):=by
 obtain⟨b,off,cap,u,h1,h2,h3⟩:=HX h (i:=i) (by rw[kM];exact hi);rw[mA bs i hi]at h3;obtain⟨a,c,rfl⟩:=MS h3;rw[eD]at h2 h3;rw[kM]at h1;exact⟨b,off,cap,a,c,h1,h2,h3⟩
theorem Ka{G:GM}{L:List t8}{t:Tok}{v:Value}(h:bU G (.lst 1 (bys L) t) v){i:Nat}(hi:i<L.length):
 ∃b off cap a n c,v= .slice (some ⟨b,off,none⟩) L.length cap/\G b (off+i)=some (.slice a n c)/\bU G (bN (L.getD i [])) (.slice a n c):=by
 obtain⟨b,off,cap,u,h1,h2,h3⟩:=HX h (i:=i) (by rw[eD];exact hi);rw[jr L i hi]at h3;obtain⟨a,c,rfl⟩:=M9 h3;rw[eD]at h1;exact⟨b,off,cap,a,_,c,h1,h2,h3⟩
theorem aln(w:World)(o:Obj):(w.alloc o).heap[w.heap.size]? =some o:=by show(w.heap.push o)[w.heap.size]? =some o;simp
theorem alo(w:World)(o:Obj){i:Nat}(h:i<w.heap.size:=by omega):(w.alloc o).heap[i]? =w.heap[i]? :=by show(w.heap.push o)[i]? =w.heap[i]?;rw[Array.getElem?_push,if_neg (Nat.ne_of_lt h)]
theorem xfo(w:World)(A B:Obj):((w.alloc A).alloc B).heap[w.heap.size+1]? =some B:=by have h:=aln (w.alloc A) B;simpa using h
theorem lG{base:Nat}{e:TypeId}{size:Nat}{v:Value}{n:Nat}{z:LAd}(h:w.ownsRow base e size v n z){y:Nat}(C:∀k,v.ownBlock=some k->base<=k->k<w.heap.size->y<=k/\w'.heap[k]? =w.heap[k]?):w'.ownsRow y e size v n z:=by
 refine⟨h.1, ?_⟩;rcases h.2 with F|⟨g,cap,cur,rfl,hbg,hg,rest⟩
 ·exact .inl F
 ·obtain⟨h1,h2⟩:=C g rfl hbg (cz.1 hg).1
  exact .inr ⟨g,cap,cur,rfl,h1,by rw[h2];exact hg,rest⟩
theorem vB{base:Nat}{e:TypeId}{size:Nat}{v:Value}{n:Nat}{y:LAd}(h:w.ownsRow base e size v n y)(z:Below w.heap.size w w'):w'.ownsRow base e size v n y:=lG h fun k _ h1 h2=>⟨h1,z.block k h2⟩
structure BkW(w:World)(base:Nat)(G:GM)(v:Value)(vs:List Value)(X:List (List Value))(j:Nat)(N:Nat->Nat)(L:Nat->Nat->List UInt8):Prop where
 row:w.ownsRow base 81 1 v j vs
 xl:X.length=j
 rows:∀k,k<j->w.ownsRow base 23 1 (vs.getD k Go.undef) (N k) (X.getD k [])
 dat:∀k i,k<j->i<N k->bU G (bN (L k i)) ((X.getD k []).getD i Go.undef)
 per:∀b o z,G b o=some z->w.cell? ⟨b,o,none⟩=some z
 nov:∀k,v.ownBlock=some k->∀o,G k o=none
 nor:∀i k,i<j->(vs.getD i Go.undef).ownBlock=some k->∀o,G k o=none
 nev:∀i k,i<j->(vs.getD i Go.undef).ownBlock=some k->v.ownBlock≠some k
 inj:∀i i' k,i<j->i'<j->(vs.getD i Go.undef).ownBlock=some k->(vs.getD i' Go.undef).ownBlock=some k->i'=i
theorem BkW.mv{base:Nat}{G:GM}{v:Value}{vs:LAd}{X:List LAd}{j:Nat}{N:Nat->Nat}{L:Nat->Nat->t8}(h:BkW w base G v vs X j N L)
 (y:∀b,b<w.heap.size->base<=b->w'.heap[b]? =w.heap[b]?) (C:∀b,b<w.heap.size->(∃o z,G b o=some z)->w'.heap[b]? =w.heap[b]?):BkW w' base G v vs X j N L where
 row:=lG h.row fun k _ h1 h2=>⟨h1,y k h2 h1⟩
 xl:=h.xl
 rows k hk:=lG (h.rows k hk) fun k _ h1 h2=>⟨h1,y k h2 h1⟩
 dat:=h.dat
 per b o z hz:=by have h1:=h.per b o z hz;rw[World.cell?_of_block (w:=w) (C b (cx h1) ⟨o,z,hz⟩)];exact h1
 nov:=h.nov
 nor:=h.nor
 nev:=h.nev
 inj:=h.inj
theorem pW{α:Type}(l:List α)(x d:α)(k:Nat)(h:k<l.length:=by omega):(l++ [x]).getD k d=l.getD k d:=by rw[aa,cn h,<-aa]
theorem nN{α:Type}(l:List α)(x d:α):(l++ [x]).getD l.length d=x:=by rw[aa,cO (aM _),Nat.sub_self];rfl
theorem BkW.snoc{base:Nat}{GA:GM}{vo:Value}{vs:LAd}{X:List LAd}{j:Nat}{N:Nat->Nat}{L:Nat->Nat->t8}(h:BkW w base GA vo vs X j N L)
 {wr:World} (hb:Below w.heap.size w wr) (b4:base<=w.heap.size) {bv:Value} {xs:LAd} (Z:wr.ownsRow w.heap.size 23 1 bv (N j) xs) {G:GM}
 (b7:∀b o u,GA b o=some u->G b o=some u) (b5:∀b o u,G b o=some u->GA b o=some u\/w.heap.size<=b) (a1:∀b o u,G b o=some u->wr.cell? ⟨b,o,none⟩=some u)
 (b2:∀k,bv.ownBlock=some k->∀o,G k o=none) (b1:∀k,k<N j->bU G (bN (L j k)) (xs.getD k Go.undef))
 {ob:Obj} {v2:Value} {W3:World} (a6:W3.ownsRow base 81 1 v2 (j+1) (vs++ [bv])) (b6:(wr.alloc ob).grownBy W3 vo.ownBlock)
 (a7:v2.ownBlock=vo.ownBlock\/v2.ownBlock=some (wr.alloc ob).heap.size):BkW W3 base G v2 (vs++ [bv]) (X++ [xs]) (j+1) N L:=by
 have hs:=hb.size;have c7:(wr.alloc ob).heap.size=wr.heap.size+1:=by simp
 have b3:vs.length=j:=by have:=h.row.1;omega
 have J:∀b,b<wr.heap.size->some b≠vo.ownBlock->W3.heap[b]? =wr.heap[b]? :=fun b h1 h2=>by rw[b6.block b (by omega) h2,alo _ _ h1]
 have K:∀k,vo.ownBlock=some k->base<=k/\k<w.heap.size:=h.row.lt;have a8:∀k,bv.ownBlock=some k->w.heap.size<=k/\k<wr.heap.size:=Z.lt;have Q:∀i k,i<j->(vs.getD i Go.undef).ownBlock=some k->base<=k/\k<w.heap.size:=fun i k hi C=>(h.rows i hi).lt k C
 have e1:∀i,i<j->(vs++ [bv]).getD i Go.undef=vs.getD i Go.undef:=fun i hi=>pW _ _ _ _
 have e2:(vs++ [bv]).getD j Go.undef=bv:=by rw[<-b3];exact nN _ _ _
 have e3:∀i,i<j->(X++ [xs]).getD i []=X.getD i []:=fun i hi=>pW _ _ _ _ (by have:=h.xl;omega)
 have e4:(X++ [xs]).getD j []=xs:=by rw[<-h.xl];exact nN _ _ _
 have b0:∀k,k<w.heap.size->(∀o,GA k o=none)->∀o,G k o=none:=fun k h1 h2 o=>by
  cases hx:G k o with
  |none=>rfl
  |some z=>
   rcases b5 k o z hx with h3|h3
   ·rw[h2 o]at h3;cases h3
   ·omega
 refine⟨a6,by simp[h.xl],fun k C=> ?_,fun k i C hi=> ?_,fun b o z hz=> ?_,fun k C o=> ?_,fun i k hi C=> ?_,fun i k hi C=> ?_,fun i i' k hi b8 C I=> ?_⟩
 ·rcases bq k j with F|F
  ·rw[e1 k F,e3 k F]
   refine lG (h.rows k F) fun g hg h1 h2=>⟨h1, ?_⟩
   rw[J g (by omega) (fun e=>h.nev k g F hg e.symm),hb.block g h2]
  ·obtain rfl:k=j:=by omega
   rw[e2,e4];refine lG Z fun g hg h1 h2=>⟨by omega, ?_⟩
   exact J g h2 fun e=>by have:=(K g e.symm).2;omega
 ·rcases bq k j with F|F
  ·rw[e3 k F];exact(h.dat k i F hi).mono b7
  ·obtain rfl:k=j:=by omega
   rw[e4];exact b1 i hi
 ·have h1:=a1 b o z hz
  rw[World.cell?_of_block (w:=wr) (J b (cx h1) fun e=>by have h2:=b0 b (K b e.symm).2 (h.nov b e.symm) o;rw[hz]at h2;cases h2)]
  exact h1
 ·rcases a7 with h1|h1
  ·rw[h1]at C
   exact b0 k (K k C).2 (h.nov k C) o
  ·rw[h1]at C
   cases hx:G k o with
   |none=>rfl
   |some z=>have:=cx (a1 k o z hx);simp only[ay.injEq]at C;omega
 ·rcases bq i j with y|y
  ·rw[e1 i y]at C
   exact b0 k (Q i k y C).2 (h.nor i k y C)
  ·obtain rfl:i=j:=by omega
   rw[e2]at C;exact b2 k C
 ·rcases bq i j with y|y
  ·rw[e1 i y]at C
   rcases a7 with h1|h1
   ·rw[h1];exact h.nev i k y C
   ·rw[h1];intro e;have:=(Q i k y C).2;simp only[ay.injEq]at e;omega
  ·obtain rfl:i=j:=by omega
   rw[e2]at C;have h3:=a8 k C;rcases a7 with h1|h1
   ·rw[h1];intro e;have:=(K k e).2;omega
   ·rw[h1];intro e;simp only[ay.injEq]at e;omega
 ·rcases bq i j with y|y<;>rcases bq i' j with H|H
  ·rw[e1 i y]at C;rw[e1 i' H]at I
   exact h.inj i i' k y H C I
  ·obtain rfl:i'=j:=by omega
   rw[e1 i y]at C;rw[e2]at I;have:=(Q i k y C).2;have:=(a8 k I).1;omega
  ·obtain rfl:i=j:=by omega
   rw[e1 i' H]at I;rw[e2]at C;have:=(Q i' k H I).2;have:=(a8 k C).1;omega
  ·omega
end
end
def rr(x:Int)(n:Nat):Int:=cy .or .u32 (x.fdiv (2^n)) (IntKind.u32.wrap (x*2^(32-n)))
theorem uI(k:IntKind)(x y:Int):cy .or k x y=cy .or k y x:=by simp only[cy,BitVec.or_comm]
theorem xe4(x k:Int)(h:0<=k)(h2:k<=32):call T 170 [.int .u32 x,.int .u64 k] [] 0=okV (.int .u32 (rr x k.toNat)):=by
 obtain⟨n,rfl⟩:=Int.eq_ofNat_of_zero_le h;rw[ccT 170];have e:az.wrap (32-(n:Int))=((32-n:Nat):Int):=by rw[dx];omega
 have C:min n 32=n:=by omega
 have y:min (32-n) 32=32-n:=by omega
 have z:(0:Int)<=((32-n:Nat):Int):=by omega
 simp only[go_sem,simprocAttr,e,C,y,z,rr,eS]
theorem xeD(x k:Int)(h:0<=k)(h2:k<=32):call T 311 [.int .u32 x,.int .u64 k] [] 0=okV (.int .u32 (rr x (32-k.toNat))):=by
 obtain⟨n,rfl⟩:=Int.eq_ofNat_of_zero_le h;rw[ccT 311];have e:az.wrap (32-(n:Int))=((32-n:Nat):Int):=by rw[dx];omega
 have C:min n 32=n:=by omega
 have y:min (32-n) 32=32-n:=by omega
 have z:32-(32-n)=n:=by omega
 simp only[go_sem,simprocAttr,e,C,y,z,rr,uI,eS]
theorem dS(B:t8)(i n:Nat)(h:0<n:=by omega):cH B i n<n:=by
 unfold cH;split
 ·exact Nat.mod_lt _ h
 ·exact h
def gq:Nat->t8
 |0=> [97,61,49]
 |1=> [99,111,117,110,116,61,53]
 |2=> [99,111,117,110,116,61,49,55]
 |3=> [104,111,115,116,61,120]
 |4=> [109,111,100,101,32,98]
 |_=> [126]
theorem cz0:((0:Nat):Int)=0:=rfl
theorem cz1:((1:Nat):Int)=1:=rfl
theorem cz2:((2:Nat):Int)=2:=rfl
theorem cz3:((3:Nat):Int)=3:=rfl
theorem cz4:((4:Nat):Int)=4:=rfl
theorem cz5:((5:Nat):Int)=5:=rfl
theorem cz6:((6:Nat):Int)=6:=rfl
theorem xe9(B:t8)(i:Nat)(z:B.length<=1000):call T 130 [.ptr 0 0] [bE B i] 0=some ⟨bN (gq (cH B i 6)),[(0,bE B (bF B i))],[]⟩:=by
 rw[ccT 130];have g:=f15 B i 6;have y:=dS B i 6;rw[cz6]at g;generalize cH B i 6=v at g y;simp only[bE]at g;have:v=0\/v=1\/v=2\/v=3\/v=4\/v=5:=by omega
 rcases this with rfl|rfl|rfl|rfl|rfl|rfl<;>simp only[cz0,cz1,cz2,cz3,cz4,cz5]at g<;>simp only[go_sem,simprocAttr,cz6,bE,g,gq]
structure bj where
 m:Int
 u:Int
 g:List (List UInt8)
 deriving DecidableEq,Inhabited
structure bS where
 m:Int
 r:Int
 s:Int
 deriving DecidableEq,Inhabited
def pJ(b:t8):LAa:=[bN b]
def gZ(g:List t8):SV:= .lst 1 (g.map pJ) .no
def bj.sv(l:bj):LAa:=[iV l.m,iV l.u,gZ l.g]
def bS.sv(h:bS):LAa:=[iV h.m,iV h.r,iV h.s]
def iB(l:List bj):SV:= .lst 3 (l.map bj.sv) .no
def iE(l:List bS):SV:= .lst 3 (l.map bS.sv) .no
structure Ls where
 ls:List bj
 hs:List bS
 deriving DecidableEq
def Ls.sv(l:Ls):SV:= .agg [iB l.ls,iE l.hs]
theorem eG{α:Type}[Inhabited α](f:α->LAa)(l:List α)(i:Nat)(h:i<l.length):(l.map f).getD i []=f (l.getD i default):=by simp only[aa,aR,ac h,bz,bn]
theorem xh8(m:Int):call T 210 [iV m] [] 0=okV (.bool false):=by rw[ccT 210];simp only[go_sem,simprocAttr]
def Bf(a b:Int):Int:=if a<b then-1 else if b<a then 1 else 0
theorem xe7(a b:Int):call T 142 [iV a,iV b] [] 0=okV (iV (Bf a b)):=by
 rw[ccT 142];simp only[go_sem,simprocAttr,xh8,Bf]
 by_cases h:a<b
 ·simp only[h,go_sem,simprocAttr]
 ·by_cases h2:b<a<;>simp only[h,h2,go_sem,simprocAttr]
theorem xeS(l:bj)(b:Int):call T 209 [.agg [iV l.m,iV l.u,.lst 1 (l.g.map pJ) .no],iV b] [] 0=okV (iV (Bf l.m b)):=by rw[ccT 209];simp only[go_sem,simprocAttr,xe7]
theorem xe8(l:bS)(b:Int):call T 141 [.agg [iV l.m,iV l.r,iV l.s],iV b] [] 0=okV (iV (Bf l.m b)):=by rw[ccT 141];simp only[go_sem,simprocAttr,xe7]
theorem xev(i j:Nat)(h:i+j<=4000000000:=by omega):ah.wrap ((az.wrap (ah.wrap ((i:Int)+j))).fdiv (2^min 1 az.bits))=(((i+j)/2:Nat):Int):=by have e:(2:Int)^min 1 az.bits=2:=rfl;have y:ah.wrap ((i:Int)+j)=(i:Int)+j:=w64;rw[e,y,dx,Int.fdiv_eq_ediv_of_nonneg _ (by omega),w64];omega
def lb(ms:List Int)(m:Int):Nat:=(ms.takeWhile fun r=>decide (r<m)).length
def dh(ms:List Int):Prop:=ms.Pairwise (· < ·)
def has(ms:List Int)(m:Int):Bool:=decide (lb ms m<ms.length/\ms.getD (lb ms m) 0=m)
theorem JZ{ms:List Int}{m:Int}{k:Nat}(y:k<=ms.length)(h1:∀i,i<k->ms.getD i 0<m)(h2:∀i,i<ms.length->k<=i->¬ms.getD i 0<m):lb ms m=k:=by
 unfold lb;induction ms generalizing k with
 |nil=>simp at y;simp[y]
 |cons r ms z=>
  cases k with
  |zero=>have:=h2 0 (by simp) (by omega);rw[gD]at this;rw[List.takeWhile_cons,if_neg (by simpa using this)];rfl
  |succ k=>
   have:=h1 0 (by omega);rw[gD]at this;rw[List.takeWhile_cons,if_pos (by simpa using this),ai,z (k:=k) (by simpa using y)]
   ·intro i hi;have:=h1 (i+1) (by omega);rwa[cZ]at this
   ·intro i h hi;have:=h2 (i+1) (by simpa using h) (by omega);rwa[cZ]at this
theorem zQ(a b:Int):Bf a b<0↔a<b:=by
 unfold Bf;split
 ·omega
 ·split<;>omega
theorem M7(a b:Int):Bf a b=0↔a=b:=by
 unfold Bf;split
 ·omega
 ·split<;>omega
theorem mF{ms:List Int}(h:dh ms){i j:Nat}(y:i<j)(z:j<ms.length):ms.getD i 0<ms.getD j 0:=by rw[aa,aa,ac z,ac (by omega)];exact rx.1 h i j (by omega) z y
theorem pB(ls:List bj){i:Nat}(h:i<ls.length):(ls.map bj.m).getD i 0=(ls.getD i default).m:=by simp only[aa,aR,ac h,bz,bn]
theorem lw(ls:List bS){i:Nat}(h:i<ls.length):(ls.map bS.m).getD i 0=(ls.getD i default).m:=by simp only[aa,aR,ac h,bz,bn]
theorem xgK(ls:List bj)(m:Int)(hs:dh (ls.map bj.m))(hl:ls.length<=1000000000):∀(n i j:Nat),j-i<=n->i<=j->j<=ls.length->(∀k,k<i->(ls.map bj.m).getD k 0<m)->(∀k,k<ls.length->j<=k->¬(ls.map bj.m).getD k 0<m)->
 run T (.loop zp) ⟨[(0,.lst 3 (ls.map bj.sv) .no),(1,iV m),(2,.fn 209 [] []),(8,iV ls.length),(9,iV i),(10,iV j)],[],[]⟩=
  some (.x 0,⟨[(0,.lst 3 (ls.map bj.sv) .no),(1,iV m),(2,.fn 209 [] []),(8,iV ls.length),(9,iV (lb (ls.map bj.m) m))],[],[]⟩):=by
 intro n;induction n with
 |zero=>
  intro i j h0 h1 h2 h3 h4;have y:i=j:=by omega
  subst y;rw[ab];simp only[go_sem,simprocAttr];rw[JZ (by simpa using h2) h3 (by simpa using h4)]
 |succ n J=>
  intro i j h0 h1 h2 h3 h4
  by_cases h:i<j
  ·have z:(i+j)/2<ls.length:=by omega
   have K:ah.wrap ((az.wrap (ah.wrap ((i:Int)+j))).fdiv (2^min 1 64))=(((i+j)/2:Nat):Int):=xev i j;have Z:=eG bj.sv ls ((i+j)/2) z;have Q:ah.wrap ((((i+j)/2:Nat):Int)+1)=(((i+j)/2+1:Nat):Int):=by rw[w64];omega
   rw[ab];simp only[go_sem,simprocAttr,h,K,z,av,Z,bj.sv,gZ,xeS,Q]
   by_cases H:Bf (ls.getD ((i+j)/2) default).m m<0
   ·simp only[H,go_sem,simprocAttr]
    have I:(ls.getD ((i+j)/2) default).m<m:=(zQ _ _).1 H;refine J _ _ (by omega) (by omega) h2 (fun k C=> ?_) h4;rcases bq k ((i+j)/2)with F|F
    ·have:=mF hs (i:=k) (j:=(i+j)/2) F (by simpa using z)
     rw[pB ls z]at this;omega
    ·have:k=(i+j)/2:=by omega
     subst this;rw[pB ls z];exact I
   ·simp only[H,go_sem,simprocAttr]
    have I:¬(ls.getD ((i+j)/2) default).m<m:=fun h=>H ((zQ _ _).2 h)
    refine J _ _ (by omega) (by omega) (by omega) h3 (fun k C h6=> ?_);rcases bq ((i+j)/2) k with F|F
    ·have:=mF hs (i:=(i+j)/2) (j:=k) F (by simpa using C)
     rw[pB ls z]at this;omega
    ·have:k=(i+j)/2:=by omega
     subst this;rw[pB ls z];exact I
  ·have y:i=j:=by omega
   subst y;rw[ab];simp only[go_sem,simprocAttr];rw[JZ (by simpa using h2) h3 (by simpa using h4)]
theorem xh9(ls:List bj)(m:Int)(hs:dh (ls.map bj.m))(y:ls.length<=1000000000):
 call T 208 [.lst 3 (ls.map bj.sv) .no,iV m,.fn 209 [] []] [] 0=okV (.tup [iV (lb (ls.map bj.m) m),.bool (has (ls.map bj.m) m)]):=by
 have h0:=xgK ls m hs y ls.length 0 ls.length (by omega) (by omega) (by omega) (fun k C=>by omega) (fun k h1 h2=>by omega);simp only[ak]at h0;rw[ccT 208];simp only[go_sem,simprocAttr,av,h0]
 by_cases h:lb (ls.map bj.m) m<ls.length
 ·have z:=eG bj.sv ls _ h
  simp only[h,go_sem,simprocAttr,z,bj.sv,gZ,xeS];simp only[has,h,av,pB ls h,M7,true_and]
 ·simp only[h,go_sem,simprocAttr,has,av,false_and,decide_false]
theorem xg4(ls:List bS)(m:Int)(hs:dh (ls.map bS.m))(hl:ls.length<=1000000000):∀(n i j:Nat),j-i<=n->i<=j->j<=ls.length->(∀k,k<i->(ls.map bS.m).getD k 0<m)->(∀k,k<ls.length->j<=k->¬(ls.map bS.m).getD k 0<m)->
 run T (.loop zE) ⟨[(0,.lst 3 (ls.map bS.sv) .no),(1,iV m),(2,.fn 141 [] []),(8,iV ls.length),(9,iV i),(10,iV j)],[],[]⟩=
  some (.x 0,⟨[(0,.lst 3 (ls.map bS.sv) .no),(1,iV m),(2,.fn 141 [] []),(8,iV ls.length),(9,iV (lb (ls.map bS.m) m))],[],[]⟩):=by
 intro n;induction n with
 |zero=>
  intro i j h0 h1 h2 h3 h4;have y:i=j:=by omega
  subst y;rw[ab];simp only[go_sem,simprocAttr];rw[JZ (by simpa using h2) h3 (by simpa using h4)]
 |succ n J=>
  intro i j h0 h1 h2 h3 h4
  by_cases h:i<j
  ·have z:(i+j)/2<ls.length:=by omega
   have K:ah.wrap ((az.wrap (ah.wrap ((i:Int)+j))).fdiv (2^min 1 64))=(((i+j)/2:Nat):Int):=xev i j;have Z:=eG bS.sv ls ((i+j)/2) z;have Q:ah.wrap ((((i+j)/2:Nat):Int)+1)=(((i+j)/2+1:Nat):Int):=by rw[w64];omega
   rw[ab];simp only[go_sem,simprocAttr,h,K,z,av,Z,bS.sv,xe8,Q]
   by_cases H:Bf (ls.getD ((i+j)/2) default).m m<0
   ·simp only[H,go_sem,simprocAttr]
    have I:(ls.getD ((i+j)/2) default).m<m:=(zQ _ _).1 H;refine J _ _ (by omega) (by omega) h2 (fun k C=> ?_) h4;rcases bq k ((i+j)/2)with F|F
    ·have:=mF hs (i:=k) (j:=(i+j)/2) F (by simpa using z)
     rw[lw ls z]at this;omega
    ·have:k=(i+j)/2:=by omega
     subst this;rw[lw ls z];exact I
   ·simp only[H,go_sem,simprocAttr]
    have I:¬(ls.getD ((i+j)/2) default).m<m:=fun h=>H ((zQ _ _).2 h)
    refine J _ _ (by omega) (by omega) (by omega) h3 (fun k C h6=> ?_);rcases bq ((i+j)/2) k with F|F
    ·have:=mF hs (i:=(i+j)/2) (j:=k) F (by simpa using C)
     rw[lw ls z]at this;omega
    ·have:k=(i+j)/2:=by omega
     subst this;rw[lw ls z];exact I
  ·have y:i=j:=by omega
   subst y;rw[ab];simp only[go_sem,simprocAttr];rw[JZ (by simpa using h2) h3 (by simpa using h4)]
theorem xit(ls:List bS)(m:Int)(hs:dh (ls.map bS.m))(y:ls.length<=1000000000):
 call T 140 [.lst 3 (ls.map bS.sv) .no,iV m,.fn 141 [] []] [] 0=okV (.tup [iV (lb (ls.map bS.m) m),.bool (has (ls.map bS.m) m)]):=by
 have h0:=xg4 ls m hs y ls.length 0 ls.length (by omega) (by omega) (by omega) (fun k C=>by omega) (fun k h1 h2=>by omega);simp only[ak]at h0;rw[ccT 140];simp only[go_sem,simprocAttr,av,h0]
 by_cases h:lb (ls.map bS.m) m<ls.length
 ·have z:=eG bS.sv ls _ h
  simp only[h,go_sem,simprocAttr,z,bS.sv,xe8];simp only[has,h,av,lw ls h,M7,true_and]
 ·simp only[h,go_sem,simprocAttr,has,av,false_and,decide_false]
theorem xiu(l:Ls)(m:Int)(hs:dh (l.ls.map bj.m))(y:l.ls.length<=1000000000):call T 139 [l.sv,iV m] [] 0=okV (.tup [iV (lb (l.ls.map bj.m) m),.bool (has (l.ls.map bj.m) m)]):=by rw[ccT 139];simp only[go_sem,simprocAttr,Ls.sv,iB,iE,xh9 _ m hs y]
theorem f71(l:Ls)(m:Int)(hs:dh (l.hs.map bS.m))(y:l.hs.length<=1000000000):call T 71 [l.sv,iV m] [] 0=okV (.tup [iV (lb (l.hs.map bS.m) m),.bool (has (l.hs.map bS.m) m)]):=by rw[ccT 71];simp only[go_sem,simprocAttr,Ls.sv,iB,iE,xit _ m hs y]
theorem f27(l:Ls)(m:Int)(hs:dh (l.hs.map bS.m))(y:l.hs.length<=1000000000):call T 27 [l.sv,iV m] [] 0=okV (.bool (has (l.hs.map bS.m) m)):=by have h:=f71 l m hs y;rw[ccT 27];simp only[Ls.sv,iB,iE]at h ⊢;simp only[go_sem,simprocAttr,h]
theorem xiq(a:t8)(c:UInt8):call T 155 [.str a,.str [c]] [] 0=okV (iV (Lib.indexByte a c)):=by rw[fH xbC];rfl
theorem H0:∀ws:List t8,Pr.joinB ws [32]=vk ws
 |[]=>rfl
 |[w]=>Lib.join_one w [32]
 |w::v::r=>by have h:=H0 (v::r);unfold Pr.joinB at h ⊢;rw[Lib.join_cons]at h ⊢;rw[vk,<-h];simp[Lib.joinTail]
theorem f84(ws:List t8)(h0:ws≠ [])(h1:ws.length<=1000000000)(h2:(vk ws).length<=140737488355328):call T 84 [.lst 1 (Pr.wsv ws) .no,.str [32]] [] 0=okV (.str (vk ws)):=by rw[fH xiZ];unfold Pr.p84;simp only[Pr.strsOf_wsv];rw[H0,if_pos ⟨h0,h1,h2⟩]
theorem UJ(s:t8)(h:s.length<=1000000000):call T 157 [.str s] [] 0=okV (Pr.atoR s):=by rw[fH xbA];exact if_pos h
theorem xia(n:Int)(h0:0<=n)(h1:n<9223372036854775808):call T 207 [iV n,iV 10] [] 0=okV (.str (dec n.toNat)):=by rw[fH xbz];exact if_pos ⟨h0,h1,rfl⟩
theorem xiv(n:Int)(h0:0<=n)(h1:n<9223372036854775808):call T 136 [iV n] [] 0=okV (.str (dec n.toNat)):=by
 have g:=xia n h0 h1;have y:ah.wrap n=n:=by rw[w64]
 rw[ccT 136];simp only[go_sem,simprocAttr,g]
theorem f64(n:Int)(h0:0<=n)(h1:n<9223372036854775808:=by omega):call T 64 [iV n] [] 0=okV (.str (dec n.toNat)):=by have g:=xiv n h0 h1;rw[ccT 64];simp only[go_sem,simprocAttr,g]
section
open Go.RowKit Go.ChangeShapes Go.WideShapes
def T8(G:GM):Sit:=⟨G,fun _=>(0,0),fun _=>(0,0,0)⟩
theorem xaR(w:World)(G:GM)(y:∀b o v,G b o=some v->w.cell? ⟨b,o,none⟩=some v)(z:Lay G):dA ⟨w,G,fun b=>w.heap.size<=b,fun _=>(0,0)⟩ (T8 G) [] [] w where
 per:=y
 g0:=fun _ _ _ h=>h
 gm:=fun _ _ _ h=> .inl h
 new:=fun _ h=>h
 obs:=by simp
 nd:=by simp
 inj:=by simp
 tks:=by simp
 tko:=by simp
 tkd:=by simp
 os:=rfl
 tape:=rfl
 output:=rfl
 size:=aM _
 ext:=fun _ _=>rfl
 pin:=fun _ _=>rfl
 lay:=z
theorem Ig{P:Program}{T:iT}(I:oS P T){w:World}{G:GM}(z:∀b o v,G b o=some v->w.cell? ⟨b,o,none⟩=some v)(J:Lay G){g:Nat}{C:LAa}{r:SV}(h:call T g C [] 0=some ⟨r,[],[]⟩){vs:LAd}(hv:cB (T8 G) C vs):
 Calls P g ⟨vs⟩ w fun e w'=>∃(v:Value)(x':Sit),e= .returned v/\Rep x' r v/\Below w.heap.size w w'/\(∀b o u,x'.G b o=some u->w'.cell? ⟨b,o,none⟩=some u)/\
  (∀b o u,G b o=some u->x'.G b o=some u)/\∀b o u,x'.G b o=some u->G b o=some u\/w.heap.size<=b:=by
 obtain⟨h1,h2⟩:=lh I _ _ _ _ _ h;refine(h2 ⟨w,G,fun b=>w.heap.size<=b,fun _=>(0,0)⟩ (T8 G) w vs rfl rfl (fun b H=> .inl H) (by simp) (by simp) (xaR w G z J) hv).mono ?_;rintro e w' ⟨v,x',q,rfl,rfl,F,y,_⟩;exact⟨v,x',rfl,F,⟨y.os,y.tape,y.output,y.size,fun k K=>y.ext k (by simp;omega)⟩,y.per,y.g0,y.gm⟩
end
theorem m24:min 24 32=24:=rfl
theorem m16:min 16 32=16:=rfl
theorem m8:min 8 32=8:=rfl
theorem m3:min 3 32=3:=rfl
theorem m10:min 10 32=10:=rfl
theorem f169(B:t8)(t:Nat)(h:4*t+3<B.length)(I:B.length<=1000000000000):∃z,call T 169 [bN B,iV t] [] 0=okV (.int .u32 z):=by
 rw[ccT 169];have y:ah.wrap (4*(t:Int))=((4*t:Nat):Int):=by rw[w64];omega
 have C:ah.wrap (((4*t:Nat):Int)+1)=((4*t+1:Nat):Int):=by rw[w64];omega
 have H:ah.wrap (((4*t:Nat):Int)+2)=((4*t+2:Nat):Int):=by rw[w64];omega
 have F:ah.wrap (((4*t:Nat):Int)+3)=((4*t+3:Nat):Int):=by rw[w64];omega
 have h0:4*t<B.length:=by omega
 have h1:4*t+1<B.length:=by omega
 have h2:4*t+2<B.length:=by omega
 simp only[go_sem,simprocAttr,y,C,H,F,h,h0,h1,h2,m24,m16,m8];exact⟨_,rfl⟩
def ws(L:List Int):f9:=L.map fun x=> [.int .u32 x]
theorem kv(L:List Int):(ws L).length=L.length:=by simp[ws]
theorem jc(L:List Int)(i:Nat)(h:i<L.length:=by omega):(ws L).getD i []=[.int .u32 (L.getD i 0)]:=by simp[ws,aa,aR,ac h]
theorem yP(L:List Int)(i:Nat)(x:Int):(ws L).set i [.int .u32 x]=ws (L.set i x):=by unfold ws;rw[List.map_set]
theorem Ms(n:Nat):aB n [SV.int .u32 0]=ws (aB n 0):=by unfold ws;rw[List.map_replicate]
def xA:LAa:=[iV 2,iV 1,iV 3,iV 0,bN [],.lst 2 [] .no,.lst 4 [] .no]
def xB:LAa:=[iV 7,iV 0,iV 5,iV 0,bN [],.lst 2 [] .no,.lst 4 [] .no]
theorem wr1:ah.wrap 1=1:=rfl
theorem wr2:ah.wrap 2=2:=rfl
theorem wr3:ah.wrap 3=3:=rfl
theorem g42:call T 42 [.lst 4 [] .no,.lst 4 [] .no] [] 0=okV (.bool true):=by rw[ccT 42];simp only[go_sem,simprocAttr,aN];rw[ab];simp only[go_sem,simprocAttr,aN]
theorem g41:call T 41 [.agg [bN [],.lst 2 [] .no],.agg [bN [],.lst 2 [] .no]] [] 0=okV (.bool true):=by have h:=f95 [] [] (by decide);rw[decide_eq_true rfl]at h;rw[ccT 41];simp only[go_sem,simprocAttr,aN,h];rw[ab];simp only[go_sem,simprocAttr,aN]
theorem g13:call T 13 [.lst 7 [xA,xB] .no,.lst 7 [xA,xB] .no] [] 0=okV (.bool true):=by have h1:=g41;have h2:=g42;unfold xA xB;rw[ccT 13];simp only[go_sem,simprocAttr,aN];rw[ab];simp only[go_sem,simprocAttr,aN,h1,h2,wr1];rw[ab];simp only[go_sem,simprocAttr,aN,h1,h2,wr2];rw[ab];simp only[go_sem,simprocAttr,aN]
theorem xhu:call T 76 [.agg xA] [] 0=okV (.tup [.agg xA,.bool true]):=by unfold xA;rw[ccT 76];simp only[go_sem,simprocAttr]
theorem xht:call T 76 [.agg xB] [] 0=okV (.tup [.agg xB,.bool true]):=by unfold xB;rw[ccT 76];simp only[go_sem,simprocAttr]
theorem YL(n:Int)(h0:0<=n)(h1:n<=1000):call T 147 [iV n] [] 0=okV (.bool false):=by
 have z:¬n<0:=by omega
 have y:¬1099511627776<n:=by omega
 rw[ccT 147];simp only[go_sem,simprocAttr,z,y]
theorem xhx(a b c:Int)(y:0<=a/\a<=1000)(z:0<=b/\b<=1000)(C:0<=c/\c<=1000):call T 214 [.lst 1 [[iV a],[iV b],[iV c]] .no,.fn 147 [] []] [] 0=okV (iV (-1)):=by have h1:=YL a y.1 y.2;have h2:=YL b z.1 z.2;have h3:=YL c C.1 C.2;rw[ccT 214];simp only[go_sem,simprocAttr,aN];rw[ab];simp only[go_sem,simprocAttr,aN,h1,wr1];rw[ab];simp only[go_sem,simprocAttr,aN,h2,wr2];rw[ab];simp only[go_sem,simprocAttr,aN,h3,wr3];rw[ab];simp only[go_sem,simprocAttr]
theorem g77(a b c:Int)(C:0<=a/\a<=1000)(y:0<=b/\b<=1000)(z:0<=c/\c<=1000):call T 77 [.lst 1 [[iV a],[iV b],[iV c]] .no] [] 0=okV (.bool true):=by
 have h1:=xhx a b c C y z
 have h2:call T 146 [.lst 1 [[iV a],[iV b],[iV c]] .no,.fn 147 [] []] [] 0=okV (.bool false):=by rw[ccT 146];simp only[go_sem,simprocAttr,h1]
 rw[ccT 77];simp only[go_sem,simprocAttr,h2]
theorem xeB:call T 33 [.agg xA] [] 0=okV (.bool true):=by have h1:=xhu;have h2:=g77 1 3 0 (by decide) (by decide) (by decide);unfold xA at*;rw[ccT 33];simp only[go_sem,simprocAttr,aN,h1,h2];rw[ab];simp only[go_sem,simprocAttr]
theorem xeA:call T 33 [.agg xB] [] 0=okV (.bool true):=by have h1:=xht;have h2:=g77 0 5 0 (by decide) (by decide) (by decide);unfold xB at*;rw[ccT 33];simp only[go_sem,simprocAttr,aN,h1,h2];rw[ab];simp only[go_sem,simprocAttr]
theorem YK:call T 80 [iV 2] [] 0=okV (.str [99,117,116]):=by rw[ccT 80];simp only[go_sem,simprocAttr]
theorem xex:call T 80 [iV 7] [] 0=okV (.str [116,105,99,107]):=by rw[ccT 80];simp only[go_sem,simprocAttr]
theorem g81(n:Int)(h0:0<=n)(h1:n<=1000)(ws:f9)(y:ws.length<=1000):call T 81 [iV n,.ptr 0 0] [.rc [.lst 1 ws (.id 50)]] 1=some ⟨.tup [],[(0,.rc [.lst 1 (ws++ [[.str (dec n.toNat)]]) (.id 60)])],[60]⟩:=by
 have h:=f64 n h0;have h2:(ws.length+1)*16<=140737488355328:=by omega
 rw[ccT 81];simp only[go_sem,simprocAttr,h,h2]
theorem dd(n:Nat)(h:n<10)(d:UInt8)(y:dgC n=d):dec n=[d]:=by rw[oq h,y]
theorem xez:call T 35 [.agg xA] [] 0=okV (.str [99,117,116,32,49,32,51,32,48]):=by have h1:=YK;have h2:=g81 1 (by decide) (by decide) [[.str [99,117,116]]] (by decide);have h3:=g81 3 (by decide) (by decide) [[.str [99,117,116]],[.str [49]]] (by decide);have h4:=g81 0 (by decide) (by decide) [[.str [99,117,116]],[.str [49]],[.str [51]]] (by decide);have y:=f84 [[99,117,116],[49],[51],[48]] (by simp) (by decide) (by decide);rw[show(1:Int).toNat=1 from rfl,dd 1 (by decide) 49 rfl]at h2;rw[show(3:Int).toNat=3 from rfl,dd 3 (by decide) 51 rfl]at h3;rw[show(0:Int).toNat=0 from rfl,dd 0 (by decide) 48 rfl]at h4;rw[show vk [[99,117,116],[49],[51],[48]]=[99,117,116,32,49,32,51,32,48]from rfl,show Pr.wsv [[99,117,116],[49],[51],[48]]=[[.str [99,117,116]],[.str [49]],[.str [51]],[.str [48]]]from rfl]at y;simp only[aL,aA]at h2 h3 h4;unfold xA at*;rw[ccT 35];simp only[go_sem,simprocAttr,h1,h2,h3,h4,y]
theorem xey:call T 35 [.agg xB] [] 0=okV (.str [116,105,99,107,32,53]):=by have h1:=xex;have h2:=g81 5 (by decide) (by decide) [[.str [116,105,99,107]]] (by decide);have y:=f84 [[116,105,99,107],[53]] (by simp) (by decide) (by decide);rw[show(5:Int).toNat=5 from rfl,dd 5 (by decide) 53 rfl]at h2;rw[show vk [[116,105,99,107],[53]]=[116,105,99,107,32,53]from rfl,show Pr.wsv [[116,105,99,107],[53]]=[[.str [116,105,99,107]],[.str [53]]]from rfl]at y;simp only[aL,aA]at h2;unfold xB at*;rw[ccT 35];simp only[go_sem,simprocAttr,h1,h2,y]
def shK:LAa:=[.int .u32 1116352408,.int .u32 1899447441,.int .u32 3049323471,.int .u32 3921009573,.int .u32 961987163,.int .u32 1508970993,.int .u32 2453635748,.int .u32 2870763221,.int .u32 3624381080,.int .u32 310598401,.int .u32 607225278,.int .u32 1426881987,.int .u32 1925078388,.int .u32 2162078206,.int .u32 2614888103,.int .u32 3248222580,.int .u32 3835390401,.int .u32 4022224774,.int .u32 264347078,.int .u32 604807628,.int .u32 770255983,.int .u32 1249150122,.int .u32 1555081692,.int .u32 1996064986,.int .u32 2554220882,.int .u32 2821834349,.int .u32 2952996808,.int .u32 3210313671,.int .u32 3336571891,.int .u32 3584528711,.int .u32 113926993,.int .u32 338241895,.int .u32 666307205,.int .u32 773529912,.int .u32 1294757372,.int .u32 1396182291,.int .u32 1695183700,.int .u32 1986661051,.int .u32 2177026350,.int .u32 2456956037,.int .u32 2730485921,.int .u32 2820302411,.int .u32 3259730800,.int .u32 3345764771,.int .u32 3516065817,.int .u32 3600352804,.int .u32 4094571909,.int .u32 275423344,.int .u32 430227734,.int .u32 506948616,.int .u32 659060556,.int .u32 883997877,.int .u32 958139571,.int .u32 1322822218,.int .u32 1537002063,.int .u32 1747873779,.int .u32 1955562222,.int .u32 2024104815,.int .u32 2227730452,.int .u32 2361852424,.int .u32 2428436474,.int .u32 2756734187,.int .u32 3204031479,.int .u32 3329325298]
def Kl:List Int:=shK.map fun| .int _ x=>x|_=>0
theorem Nd:Kl.length=64:=rfl
theorem QR:shK.length=64:=rfl
theorem ws8(a b c d e f g h:Int):ws [a,b,c,d,e,f,g,h]=[[.int .u32 a],[.int .u32 b],[.int .u32 c],[.int .u32 d],[.int .u32 e],[.int .u32 f],[.int .u32 g],[.int .u32 h]]:=rfl
def tA:t8:=[99,117,116,32,49,32,51,32,48]
def tB:t8:=[116,105,99,107,32,53]
theorem g39(a b:t8)(J:a.length<=100)(K:b.length<=100)(I:Lib.indexByte (a++10::b) 10=(a.length:Nat)):call T 39 [.str (a++10::b),.str [10]] [] 0=okV (.tup [.str a,.str b,.bool true]):=by
 have h1:=xiq (a++10::b) 10;rw[I]at h1;have y:ah.wrap ((a.length:Int)+1)=((a.length+1:Nat):Int):=by rw[w64];push_cast;rfl
 have C:(0:Int)<=(a.length:Int):=by omega
 have H:a.length<=a.length+(b.length+1):=by omega
 have F:a.length+1<=a.length+(b.length+1):=by omega
 have z:(a++10::b).take a.length=a:=List.take_left
 have t2:(a++10::b).drop (a.length+1)=b:=by rw[<-List.drop_drop,List.drop_left];rfl
 have t3:(a++10::b).take (a.length+(b.length+1))=a++10::b:=bp (by rw[af,ai];exact aM _)
 have h2:call T 90 [.str (a++10::b),.str [10]] [] 0=okV (.tup [.str a,.str b,.bool true]):=by rw[ccT 90];simp only[go_sem,simprocAttr,h1,y,C,H,F,z,t2,t3,Int.natCast_one]
 rw[ccT 39];simp only[go_sem,simprocAttr,h2]
theorem f156(s:t8)(h:s.length<=1000000000):call T 156 [.str s,.str [32],iV 0,iV (-1)] [] 0=okV (.lst 1 (Pr.wsv (jx s)) .no):=by rw[fH xbB];exact if_pos h
theorem xhs:call T 91 [.str tA,.str [32]] [] 0=okV (.lst 1 [[.str [99,117,116]],[.str [49]],[.str [51]],[.str [48]]] .no):=by
 have h:call T 156 [.str tA,.str [32],iV 0,iV (-1)] [] 0=okV (.lst 1 [[.str [99,117,116]],[.str [49]],[.str [51]],[.str [48]]] .no):=by exact f156 tA (by decide)
 unfold tA at*;rw[ccT 91];simp only[go_sem,simprocAttr,h]
theorem xhr:call T 91 [.str tB,.str [32]] [] 0=okV (.lst 1 [[.str [116,105,99,107]],[.str [53]]] .no):=by
 have h:call T 156 [.str tB,.str [32],iV 0,iV (-1)] [] 0=okV (.lst 1 [[.str [116,105,99,107]],[.str [53]]] .no):=by exact f156 tB (by decide)
 unfold tB at*;rw[ccT 91];simp only[go_sem,simprocAttr,h]
theorem at1:call T 157 [.str [49]] [] 0=okV (.tup [iV 1,.nili]):=UJ [49] (by decide)
theorem at3:call T 157 [.str [51]] [] 0=okV (.tup [iV 3,.nili]):=UJ [51] (by decide)
theorem at0:call T 157 [.str [48]] [] 0=okV (.tup [iV 0,.nili]):=UJ [48] (by decide)
theorem at5:call T 157 [.str [53]] [] 0=okV (.tup [iV 5,.nili]):=UJ [53] (by decide)
def s7(k a b c:Int)(t:Nat):LAa:=[iV k,iV a,iV b,iV c,.byt [] (.id t),.lst 2 [] (.id (t+1)),.lst 4 [] (.id (t+2))]
theorem xhq:call T 92 [.lst 1 [[.str [49]],[.str [51]],[.str [48]]] .no,.psl 0 1 0 3 (some 3)] [.rc [.ptr 1 1,.ptr 1 2,.ptr 1 3],.rc (s7 2 0 0 0 50)] 3=some ⟨.bool true,[(0,.rc [.ptr 1 1,.ptr 1 2,.ptr 1 3]),(1,.rc (s7 2 1 3 0 60))],[60,61,62]⟩:=by have h1:=at1;have h3:=at3;have h0:=at0;unfold s7;rw[ccT 92];simp only[go_sem,simprocAttr,aN];rw[ab];simp only[go_sem,simprocAttr,h1,wr1,aN];rw[ab];simp only[go_sem,simprocAttr,h3,wr2,aN];rw[ab];simp only[go_sem,simprocAttr,h0,wr3,aN];rw[ab];simp only[go_sem,simprocAttr]
theorem xhp:call T 92 [.lst 1 [[.str [53]]] .no,.psl 0 1 0 1 (some 1)] [.rc [.ptr 1 2],.rc (s7 7 0 0 0 50)] 3=some ⟨.bool true,[(0,.rc [.ptr 1 2]),(1,.rc (s7 7 0 5 0 60))],[60,61,62]⟩:=by have h1:=at5;unfold s7;rw[ccT 92];simp only[go_sem,simprocAttr,aN];rw[ab];simp only[go_sem,simprocAttr,h1,wr1,aN];rw[ab];simp only[go_sem,simprocAttr]
section
open Go.RowKit Go.ChangeShapes Go.WideShapes
theorem xiR{x:Sit}{l:t8}{v:Value}(h:bU x.G (bN l) v):cB x [bN l] [v]:=⟨rfl,fun i hi=>by match i,hi with|0,_=>exact .dat _ _ h trivial⟩
theorem py{w:World}{base:Nat}{e:TypeId}{size:Nat}{v:Value}{n:Nat}{y:LAd}(h:w.ownsRow base e size v n y):∃a c,v= .slice a n c:=by
 rcases h.2 with⟨h1,h2⟩|⟨g,cap,cur,h1,_⟩
 ·subst h2;exact⟨_,_,h1⟩
 ·exact⟨_,_,h1⟩
theorem xfs(
 w:World)(bs:List (List t8))(g8:rm bs)(a0:Option Addr)(cap:Nat)(u:Int)(G0:GM)(J:∀b o v,G0 b o=some v->w.cell? ⟨b,o,none⟩=some v)(hL:Lay G0)(hv:bU G0 (.lst 1 (qB bs) .no) (.slice a0 bs.length cap)):
 Calls Tryz.prog 330 #[.agg #[.slice a0 bs.length cap,.int .i64 u]] w fun e w'=>∃v vs X G,e= .returned (.agg #[v,.int .i64 u])/\Below w.heap.size w w'/\(∀b o z,G0 b o=some z->G b o=some z)/\(∀b o z,G b o=some z->G0 b o=some z\/w.heap.size<=b)/\BkW w' (w.heap.size+3) G v vs X bs.length (fun k=>(bs.getD k []).length) fun k i=>(bs.getD k []).getD i []:=by
 have hE:(Tryz.prog.info? 23).map (fun i=>(i.zero,i.size,i.bytes))=some (some (.slice none 0 0),1,24):=by kernel_rfl
 obtain⟨ti,l7,d5⟩:=aj.1 hE;simp only[bA.injEq]at d5;obtain⟨l4,l1,j9⟩:=d5;have k7:(Tryz.prog.info? 81).map (fun i=>(i.zero,i.size,i.bytes))=some (some (.slice none 0 0),1,24):=by kernel_rfl
 obtain⟨tj,l2,d9⟩:=aj.1 k7;simp only[bA.injEq]at d9;obtain⟨j7,k6,l3⟩:=d9;have g7:Tryz.prog.underlying 84=some (.slice 81):=by kernel_rfl
 have h7:Tryz.prog.underlying 81=some (.slice 23):=by kernel_rfl
 go_enter Tryz.func330,Tryz.ntmps330
 go_wp2
 go_loopw [4] (fun i wr=>∃j:Nat,j<=bs.length/\i= .int .i64 j/\Below w.heap.size w wr/\w.heap.size+2<wr.heap.size/\
  wr.heap[w.heap.size]? =some (.cells #[.slice a0 bs.length cap,.int .i64 u] 86 (0,0))/\wr.heap[w.heap.size+1]? =some (.cells #[.slice none 0 0,.int .i64 0] 86 (0,0))/\
  ∃(v:Value)(vs:LAd)(X:List LAd)(G:GM),wr.heap[w.heap.size+2]? =some (.cells #[v,.int .i64 u] 86 (0,0))/\BkW wr (w.heap.size+3) G v vs X j (fun k=>(bs.getD k []).length) (fun k i=>(bs.getD k []).getD i [])/\
   (∀b o z,G0 b o=some z->G b o=some z)/\(∀b o z,G b o=some z->G0 b o=some z\/w.heap.size<=b)/\(∀o,G w.heap.size o=none/\G (w.heap.size+1) o=none/\G (w.heap.size+2) o=none)) (fun i _=>bs.length-(intOf i).toNat)
 case atStart=>
  refine⟨0,aC _,rfl, ?_, ?_, ?_, ?_,.slice none 0 0,[],[],G0, ?_,⟨World.ownsRow_nil _ _ _ _,rfl,(fun k I=>absurd I (ec _)),(fun k i I=>absurd I (ec _)), ?_,(fun k I=>by simp[Value.ownBlock]at I),(fun i k hi=>absurd hi (ec _)),(fun i k hi=>absurd hi (ec _)),(fun i k _ hi=>absurd hi (ec _))⟩,(fun _ _ _ h=>h),(fun _ _ _ h=> .inl h), ?_⟩
  ·exact((Below.refl _ w).alloc (aM _) _).alloc (by simp) _|>.alloc (by simp;omega) _
  ·simp
  ·rw[alo _ _ (by simp;omega),alo _ _ (by simp)];exact aln _ _
  ·rw[alo _ _ (by simp)];exact xfo _ _ _
  ·have h:=aln ((w.alloc (.cells #[.slice a0 bs.length cap,.int .i64 u] 86)).alloc (.cells #[.slice none 0 0,.int .i64 0] 86)) (.cells #[.slice none 0 0,.int .i64 u] 86)
   simpa using h
  ·intro b o z h
   have h1:=J b o z h;have h2:=cx h1;rw[World.cell?_of_block (w:=w) (by rw[alo _ _ (by simp;omega),alo _ _ (by simp;omega),alo _ _ h2])];exact h1
  ·have hn:∀b,w.heap.size<=b->∀o,G0 b o=none:=fun b hb o=>by
    cases hx:G0 b o with
    |none=>rfl
    |some z=>have:=cx (J b o z hx);omega
   exact fun o=>⟨hn _ (aM _) o,hn _ (by omega) o,hn _ (by omega) o⟩
 case round=>
  obtain⟨j,hj,rfl,a6,j8,g5,Z,vo,vs,X,GA,e6,hB,d3,d6,Q⟩:=hrel
  rename World=>V1
  have c0:V1.cell? ⟨w.heap.size,0,none⟩=some (.slice a0 bs.length cap):=by rw[World.cell?];simp[g5]
  have c1:V1.cell? ⟨w.heap.size,1,none⟩=some (.int .i64 u):=by rw[World.cell?];simp[g5]
  by_cases e3:j<bs.length
  ·obtain⟨
    b,off,cap',a1,n1,he1,hg1,e8⟩:=UN hv e3
   obtain⟨rfl,_,rfl⟩:a0=some ⟨b,off,none⟩/\True/\cap=cap':=by cases he1;exact⟨rfl,trivial,rfl⟩
   have k8:b<w.heap.size:=cx (J _ _ _ hg1);have g0:V1.cell? ⟨b,off+j,none⟩=some (.slice a1 (bs.getD j []).length n1):=by rw[a6.cell (p:=⟨b,off+j,none⟩) k8];exact J _ _ _ hg1
   have d4:=g8.2 (bs.getD j []) (by rw[aa,ac e3];exact aF e3);have m5:=g8.1;have m0:(bs.getD j []).length<=16:=by rcases d4.1 with h|h<;>omega
   generalize i1:bs.getD j []=Lj at*
   go_wp2
   go_loopw [5,6] (fun v i wq=>∃q:Nat,q<=Lj.length/\i= .int .i64 q/\Below V1.heap.size V1 wq/\∃(xs:LAd)(G:GM),wq.ownsRow V1.heap.size 23 1 v q xs/\(∀b o u,GA b o=some u->G b o=some u)/\(∀b o u,G b o=some u->GA b o=some u\/V1.heap.size<=b)/\
    (∀b o u,G b o=some u->wq.cell? ⟨b,o,none⟩=some u)/\(∀k,v.ownBlock=some k->∀o,G k o=none)/\∀k,k<q->bU G (bN (Lj.getD k [])) (xs.getD k Go.undef)) (fun _ i _=>Lj.length-(intOf i).toNat)
   case atStart=>exact⟨0,aC _,rfl,Below.refl _ _,[],GA,World.ownsRow_nil _ _ _ _,(fun _ _ _ h=>h),(fun _ _ _ h=> .inl h),hB.per,(fun k I=>by simp[Value.ownBlock]at I),fun k I=>absurd I (ec _)⟩
   case round=>
    obtain⟨q,hq,rfl,C,xs,G,F,e9,b7,a8,h5,d7⟩:=hrel;have c7:∀b o z,G0 b o=some z->G b o=some z:=fun b o z h=>e9 _ _ _ (d3 _ _ _ h)
    have d0:wr.cell? ⟨w.heap.size,0,none⟩=some (.slice (some ⟨b,off,none⟩) bs.length cap):=by rw[C.cell (p:=⟨w.heap.size,0,none⟩) (by show w.heap.size<_;omega)];exact c0
    have r0:wr.cell? ⟨b,off+j,none⟩=some (.slice a1 Lj.length n1):=by rw[C.cell (p:=⟨b,off+j,none⟩) (by show b<_;have:=a6.size;omega)];exact g0
    by_cases f8:q<Lj.length
    ·obtain⟨b2,h8,j4,va,vl,vc,l8,l5,v2⟩:=Ka e8 f8
     obtain⟨rfl,_,rfl⟩:a1=some ⟨b2,h8,none⟩/\True/\n1=j4:=by cases l8;exact⟨rfl,trivial,rfl⟩
     have v1:=a8 _ _ _ (c7 _ _ _ l5);have v3:(Lj.getD q []).length<=32:=d4.2 _ (by rw[aa,ac f8];exact aF f8);have l9:=Ig (P:=Tryz.prog) jF a8 (iC c7 hL) (Tj (Lj.getD q [])) (xiR (x:=T8 G) (v2.mono c7));clear c0 c1 g0
     go_wp2_with (first
      |(go_at_call 238;refine l9.mono ?_;rintro e W2 ⟨v',x',rfl,j6,K,a7,j3,h9⟩;have g9:=j6.data rfl;obtain⟨na,nl,nc,rfl⟩:∃a l c,v'= .slice a l c:=⟨_,_,_,gN g9⟩)
      |(at_builtin;go_must (refine wpList_append_own_at _ rfl _ _ 81 rfl V1.heap.size 23 ti (.slice none 0 0) 1 24 h7 l7 l4 l1 j9 rfl (by decide) _ q xs rfl ?c0 ⟨W2.heap.size,0,none⟩ 1 1 [.slice na nl nc] rfl rfl ?c1 ?c2 ?c3 ?c4 ?c5 ?_)))
     case c0=>exact(vB F K).alloc _
     case c1=>exact cell_one_new _ _ _
     case c2=>intro u hu;simp at hu;subst hu;rfl
     case c3=>unfold maxLen;omega
     case c4=>omega
     case c5=>have:=C.size;have:=K.size;simp;omega
     intro v2 W3 H y e7 b6
     go_wp2
     have e1:∀k,u5.ownBlock=some k->∀o,x'.G k o=none:=fun k I o=>by
      cases hx:x'.G k o with
      |none=>rfl
      |some z=>
       rcases h9 k o z hx with h|h
       ·rw[h5 k I o]at h;cases h
       ·have:=(F.lt k I).2;omega
     have h6:∀b o z,x'.G b o=some z->b<W2.heap.size:=fun b o z h=>cx (a7 b o z h)
     have k4:xs.length=q:=by have:=F.1;omega
     refine⟨⟨q+1,by omega, ?_, ?_,xs++ [.slice na nl nc],x'.G,H,(fun b o z h=>j3 _ _ _ (e9 b o z h)),(fun b o z h=>by
      rcases h9 b o z h with h|h
      ·exact b7 b o z h
      ·have:=C.size;exact .inr (by omega)), ?_, ?_, ?_⟩, ?_⟩
     ·first|rfl|(push_cast;rfl)
     ·refine⟨?_, ?_, ?_, ?_,fun b hb=> ?_⟩
      ·rw[y.os];exact K.os.trans C.os
      ·rw[y.tape];exact K.tape.trans C.tape
      ·rw[y.output];exact K.output.trans C.output
      ·have:=y.size;have:=K.size;have:=C.size;simp at*;omega
      ·have h1:=K.size
       have h2:=C.size;rw[y.block b (by simp;omega) (fun e=>by have:=(F.lt b e.symm).1;omega),alo _ _,K.block b (by omega),C.block b hb]
     ·intro b o z h
      have h1:=a7 b o z h;have h2:=h6 b o z h
      rw[World.cell?_of_block (w:=W2) (by rw[y.block b (by simp;omega) (fun e=>by have:=e1 b e.symm o;rw[h]at this;cases this),alo _ _ h2])]
      exact h1
     ·intro k I o
      rcases b6 with h|h
      ·exact e1 k (by rw[<-h];exact I) o
      ·rw[h]at I
       cases hx:x'.G k o with
       |none=>rfl
       |some z=>have:=h6 k o z hx;simp at I;omega
     ·intro k I
      by_cases e:k=q
      ·subst e
       have e2:(xs++ [Value.slice na nl nc]).getD k Go.undef=Value.slice na nl nc:=by rw[<-k4];exact nN _ _ _
       rw[e2];simpa only[aa]using g9
      ·have:=(d7 k (by omega)).mono j3
       rw[pW _ _ _ _];simpa only[aa]using this
     ·simp[intOf];omega
    ·have k9:q=Lj.length:=by omega
     subst k9;have j0:wr.heap[w.heap.size+2]? =some (.cells #[vo,.int .i64 u] 86 (0,0)):=by rw[C.block _ j8];exact e6
     have e0:wr.cell? ⟨w.heap.size+1+1,0,none⟩=some vo:=by rw[World.cell?];simp[j0]
     have d8:=vB hB.row C;obtain⟨ba,bc,rfl⟩:=py F;obtain⟨oa,oc,rfl⟩:=py d8;clear c0 c1 g0
     go_wp2_with (at_builtin;go_must (refine wpList_append_own_at _ rfl _ _ 84 rfl (w.heap.size+3) 81 tj (.slice none 0 0) 1 24 g7 l2 j7 k6 l3 rfl (by decide) _ j vs rfl ?b0 ⟨wr.heap.size,0,none⟩ 1 1 [.slice ba Lj.length bc] rfl rfl ?b1 ?b2 ?b3 ?b4 ?b5 ?_))
     case b0=>exact d8.alloc _
     case b1=>exact cell_one_new _ _ _
     case b2=>intro u hu;simp at hu;subst hu;rfl
     case b3=>unfold maxLen;omega
     case b4=>omega
     case b5=>have:=C.size;simp;omega
     intro v2 W3 H y e7 b6;have k5:=hB.snoc C (by omega) (by rw[i1];exact F) e9 b7 a8 h5 (by rw[i1];exact d7) H y (by simpa using b6)
     have g2:W3.heap[w.heap.size+2]? =some (.cells #[.slice oa j oc,.int .i64 u] 86 (0,0)):=by have:=C.size;rw[y.block _ (by simp;omega) (fun e=>by have:=(hB.row.lt _ e.symm).1;omega),alo _ _];exact j0
     have e4:W3.cell? ⟨w.heap.size+1+1,0,none⟩=some (.slice oa j oc):=by rw[World.cell?];simp[g2]
     have e5:W3.frozen? ⟨w.heap.size+1+1,0,none⟩=false:=by rw[World.frozen?];simp[g2]
     have m2:=C.size;have k3:Below w.heap.size w W3:=((a6.trans (C.mono (by omega))).alloc (by have:=a6.size;omega) (.cells #[.slice ba Lj.length bc] 81)).grown y (by simp;omega) (fun k I=>by have:=(hB.row.lt k I).1;omega)
     have j2:∀b,b<V1.heap.size->b<=w.heap.size+2->W3.heap[b]? =V1.heap[b]? :=fun b h1 h2=>by rw[y.block _ (by simp;omega) (fun e=>by have:=(hB.row.lt _ e.symm).1;omega),alo _ _,C.block _ h1]
     have b8:∀b,b<=w.heap.size+2->w.heap.size<=b->∀o,G b o=none:=fun b h1 h2 o=>by
      cases hx:G b o with
      |none=>rfl
      |some z=>
       have h3:GA b o=none:=by
        rcases (by omega:b=w.heap.size\/b=w.heap.size+1\/b=w.heap.size+2)with h|h|h<;>subst h
        ·exact(Q o).1
        ·exact(Q o).2.1
        ·exact(Q o).2.2
       rcases b7 b o z hx with h|h
       ·rw[h3]at h;cases h
       ·omega
     obtain⟨pa,pc,rfl⟩:=py H
     go_wp2
     have hs3:=y.size
     refine⟨⟨j+1,by omega,by push_cast;rfl,k3.setCell (by show _<=w.heap.size+1+1;omega) _, ?_, ?_, ?_,.slice pa (j+1) pc,_,_,G, ?_,k5.mv (fun b h1 h2=>Go.Deep.blk_setCell_other _ _ _ _ (by show b≠w.heap.size+1+1;omega)) (fun b h1 h2=>Go.Deep.blk_setCell_other _ _ _ _ (by rintro rfl;obtain⟨o,z,hz⟩:=h2;rw[b8 _ (by show w.heap.size+1+1<=_;omega) (by show _<=w.heap.size+1+1;omega) o]at hz;cases hz)),c7,(fun b o z h=>(b7 b o z h).elim (d6 b o z) fun h=> .inr (by have:=a6.size;omega)),fun o=>⟨b8 _ (by omega) (by omega) o,b8 _ (by omega) (by omega) o,b8 _ (by omega) (by omega) o⟩⟩,by simp[intOf];omega⟩
     ·rw[Go.Deep.nblk_setCell];simp at hs3;omega
     ·rw[Go.Deep.blk_setCell_other _ _ _ _ (by show w.heap.size≠w.heap.size+1+1;omega),j2 _ (by omega) (by omega)];exact g5
     ·rw[Go.Deep.blk_setCell_other _ _ _ _ (by show w.heap.size+1≠w.heap.size+1+1;omega),j2 _ (by omega) (by omega)];exact Z
     ·simp[World.setCell,dz,g2]
  ·have f0:V1.cell? ⟨w.heap.size+1,0,none⟩=some (.slice none 0 0):=by rw[World.cell?];simp[Z]
   have f1:V1.cell? ⟨w.heap.size+1,1,none⟩=some (.int .i64 0):=by rw[World.cell?];simp[Z]
   have f2:V1.cell? ⟨w.heap.size+1+1,0,none⟩=some vo:=by rw[World.cell?];simp[e6]
   have f3:V1.cell? ⟨w.heap.size+1+1,1,none⟩=some (.int .i64 u):=by rw[World.cell?];simp[e6]
   have f4:V1.frozen? ⟨w.heap.size+1,0,none⟩=false:=by rw[World.frozen?];simp[Z]
   have f5:V1.frozen? ⟨w.heap.size+1,1,none⟩=false:=by rw[World.frozen?];simp[Z]
   obtain⟨oa,oc,rfl⟩:=py hB.row;obtain rfl:j=bs.length:=by omega
   go_wp2
   try simp only[Exit.inBlock,Exit.then]
   have j1:((V1.setCell ⟨w.heap.size+1,0,none⟩ (.slice oa bs.length oc)).setCell ⟨w.heap.size+1,1,none⟩ (.int .i64 u)).heap[w.heap.size+1]? =some (.cells #[.slice oa bs.length oc,.int .i64 u] 86 (0,0)):=by simp[World.setCell,dz,Z]
   obtain⟨j5,e8,l0⟩:=aj.1 (show(Tryz.prog.underlying 86).map (fun d=>match d with| .struct _| .array _ _=>true|_=>false)=some true by kernel_rfl);refine bodyPost_ret (results_cell_row rfl _ _ (w.heap.size+1) 86 _ (0,0) j5 rfl j1 e8 (by cases j5<;>first|rfl|cases l0) (by kernel_rfl)) rfl ?_
   have g6:∀b,b≠w.heap.size+1->((V1.setCell ⟨w.heap.size+1,0,none⟩ (.slice oa bs.length oc)).setCell ⟨w.heap.size+1,1,none⟩ (.int .i64 u)).heap[b]? =V1.heap[b]? :=fun b h=>by rw[Go.Deep.blk_setCell_other _ _ _ _ h,Go.Deep.blk_setCell_other _ _ _ _ h]
   refine⟨.slice oa bs.length oc,vs,X,GA,rfl,(a6.setCell (by show _<=w.heap.size+1;omega) _).setCell (by show _<=w.heap.size+1;omega) _,d3,d6,hB.mv (fun b h1 h2=>g6 b (by omega)) fun b h1 h2=>g6 b ?_⟩;rintro rfl;obtain⟨o,z,hz⟩:=h2;rw[(Q o).2.1]at hz;cases hz
end
def zn(n:Nat):Nat:=(120-n % 64) % 64
def qA(v:Int)(s:Nat):UInt8:=aO (v.fdiv (2^s))
def be:Nat->Int->t8
 |0,_=> []
 |k+1,v=>qA v (8*k)::be k v
theorem jO(n:Nat)(v:Int):(be n v).length=n:=by induction n with
 |zero=>rfl
 |succ n y=>simp[be,y]
def BW(B:t8):t8:=B++128::(aB (zn (B.length+1)) 0++be 8 (az.wrap (az.wrap B.length*8)))
theorem tM(B:t8):(BW B).length=B.length+1+zn (B.length+1)+8:=by simp only[BW,af,ai,cC,jO];omega
theorem AM(B:t8):(BW B).length % 64=0:=by rw[tM];unfold zn;omega
theorem xaE(B:t8):∀(n:Nat)(y:t8),zn y.length=n->y.length+n<=100000000000000->
 run T (.loop zC) ⟨[(0,bN B),(3,.byt y (.id 103))],[],[103]⟩=
 some (.x 0,⟨[(0,bN B),(3,.byt (y++aB n 0) (.id 103))],[],[103]⟩):=by
 intro n;induction n with
 |zero=>
  intro y h0 h1;have C:y.length % 64=56:=by unfold zn at h0;omega
  have hi:(y.length:Int).tmod 64=56:=by rw[fN (by omega)];omega
  rw[ab];simp only[go_sem,simprocAttr,hi,List.replicate_zero,bO]
 |succ n F=>
  intro y h0 h1;have C:y.length % 64≠56:=by unfold zn at h0;omega
  have hi:¬(y.length:Int).tmod 64=56:=by rw[fN (by omega)];omega
  have z:=F (y++ [0]) (by unfold zn at*;rw[af,aT];omega) (by rw[af,aT];omega);have H:y.length+1<=140737488355328:=by omega
  rw[aI,CD,<-List.replicate_succ]at z;rw[ab];simp only[go_sem,simprocAttr,hi,H,z]
theorem xaD(v:Int):∀(k:Nat)(y:t8),k<=8->y.length+k<=100000000000000->
 run T (.loop si) ⟨[(3,.byt y (.id 103)),(4,.int .u64 v),(5,iV ((k:Int)-1))],[],[103]⟩=
 some (.x 2,⟨[(3,.byt (y++be k v) (.id 103))],[],[103]⟩):=by
 intro k;induction k with
 |zero=>
  intro y I h;rw[ab];have F:¬(0:Int)<=((0:Nat):Int)-1:=by omega
  simp only[go_sem,simprocAttr,be,bO]
 |succ k K=>
  intro y I h;have z:=K (y++ [qA v (8*k)]) (by omega) (by rw[af,aT];omega);have c1:y.length+1<=140737488355328:=by omega
  have F:(0:Int)<=((k+1:Nat):Int)-1:=by omega
  have J:az.wrap (((k+1:Nat):Int)-1)=(k:Int):=by rw[dx];omega
  have C:az.wrap (8*(k:Int))=((8*k:Nat):Int):=by rw[dx];omega
  have hs:ah.wrap (((k+1:Nat):Int)-1-1)=(k:Int)-1:=by rw[w64];omega
  have H:min (8*k) 64=8*k:=by omega
  rw[aI,CD]at z;rw[ab];unfold qA at z;simp only[go_sem,simprocAttr,c1,F,J,C,hs,H,be,qA,z]
theorem xe5(B:t8)(h:B.length<=10000000000000:=by omega):call T 168 [bN B] [] 0=okV (bN (BW B)):=by
 have C:zn (B.length+1)<64:=by unfold zn;omega
 have g1:=xaE B _ (B++ [128]) rfl (by simp;omega);have y:=xaD (az.wrap (az.wrap B.length*8)) 8 (B++128::aB (zn (B.length+1)) 0) (by omega) (by simp;omega);have z:((8:Nat):Int)-1=7:=rfl;rw[z]at y;rw[ccT 168];have c3:B.length<=140737488355328:=by omega
 have c4:B.length+1<=140737488355328:=by omega
 simp only[go_sem,simprocAttr,g1,y,c3,c4,BW]
theorem w80(n:Nat)(w:t8)(h:(n=1/\w=[98,111,111,116])\/(n=3/\w=[104,101,108,108,111])\/(n=4/\w=[100,101,108,105,118,101,114])\/(n=5/\w=[108,111,115,101])\/(n=6/\w=[114,101,112,101,97,116])):call T 80 [iV n] [] 0=okV (.str w):=by rw[ccT 80];rcases h with⟨rfl,rfl⟩|⟨rfl,rfl⟩|⟨rfl,rfl⟩|⟨rfl,rfl⟩|⟨rfl,rfl⟩<;>simp only[go_sem,simprocAttr,aN]
theorem nsA:¬([98,111,111,116]:t8)=[99,117,116]:=by decide
theorem xhw:call T 40 [.str tA] [] 0=okV (.tup [.agg xA,.bool true]):=by have h1:=xhs;have h2:=w80 1 _ (.inl ⟨rfl,rfl⟩);have h3:=YK;have h4:=xhq;have y:=xeB;have z:=xez;rw[Int.natCast_one]at h2;have q:=nsA;unfold xA tA s7 at*;rw[ccT 40];simp only[go_sem,simprocAttr,h1];rw[ab];simp only[go_sem,simprocAttr,h2,q,wr2,aN];rw[ab];simp only[go_sem,simprocAttr,h3,h4,y,z,aN]
theorem xf6:¬([98,111,111,116]:t8)=[116,105,99,107]:=by decide
theorem xf5:¬([99,117,116]:t8)=[116,105,99,107]:=by decide
theorem xf4:¬([104,101,108,108,111]:t8)=[116,105,99,107]:=by decide
theorem xf3:¬([100,101,108,105,118,101,114]:t8)=[116,105,99,107]:=by decide
theorem xf2:¬([108,111,115,101]:t8)=[116,105,99,107]:=by decide
theorem xf1:¬([114,101,112,101,97,116]:t8)=[116,105,99,107]:=by decide
theorem xhv:call T 40 [.str tB] [] 0=okV (.tup [.agg xB,.bool true]):=by have h1:=xhr;have k1:=w80 1 _ (.inl ⟨rfl,rfl⟩);have k2:=YK;have z:=w80 3 _ (.inr (.inl ⟨rfl,rfl⟩));have C:=w80 4 _ (.inr (.inr (.inl ⟨rfl,rfl⟩)));have F:=w80 5 _ (.inr (.inr (.inr (.inl ⟨rfl,rfl⟩))));have y:=w80 6 _ (.inr (.inr (.inr (.inr ⟨rfl,rfl⟩))));have K:=xex;have h4:=xhp;have Z:=xeA;have Q:=xey;rw[Int.natCast_one]at k1;rw[show((3:Nat):Int)=3 from rfl]at z;rw[show((4:Nat):Int)=4 from rfl]at C;rw[show((5:Nat):Int)=5 from rfl]at F;rw[show((6:Nat):Int)=6 from rfl]at y;have v4:ah.wrap 4=4:=rfl;have v5:ah.wrap 5=5:=rfl;have J:ah.wrap 6=6:=rfl;have v7:ah.wrap 7=7:=rfl;have n1:=xf6;have n2:=xf5;have n3:=xf4;have n4:=xf3;have I:=xf2;have H:=xf1;unfold xB tB s7 at*;rw[ccT 40];simp only[go_sem,simprocAttr,h1];rw[ab];simp only[go_sem,simprocAttr,k1,n1,wr2,aN];rw[ab];simp only[go_sem,simprocAttr,k2,n2,wr3,aN];rw[ab];simp only[go_sem,simprocAttr,z,n3,v4,aN];rw[ab];simp only[go_sem,simprocAttr,C,n4,v5,aN];rw[ab];simp only[go_sem,simprocAttr,F,I,J,aN];rw[ab];simp only[go_sem,simprocAttr,y,H,v7,aN];rw[ab];simp only[go_sem,simprocAttr,K,h4,Z,Q,aN]
def txA:t8:=[99,117,116,32,49,32,51,32,48,10,116,105,99,107,32,53,10]
theorem ne1:¬([99,117,116,32,49,32,51,32,48,10,116,105,99,107,32,53,10]:t8)=[]:=by decide
theorem ne2:¬([116,105,99,107,32,53,10]:t8)=[]:=by decide
theorem g12:call T 12 [.str txA] [] 0=okV (.tup [.lst 7 [xA,xB] .no,iV 2,iV 0]):=by have h1:=g39 tA [116,105,99,107,32,53,10] (by decide) (by decide) (by decide);have h2:=g39 tB [] (by decide) (by decide) (by decide);have h3:=xhw;have h4:=xhv;have z:=ne1;have y:=ne2;unfold tA at h1 h3;unfold tB at h2 h4;simp only[aL,aA]at h1 h2;unfold xA xB txA at*;rw[ccT 12];simp only[go_sem,simprocAttr];rw[ab];simp only[go_sem,simprocAttr,z,h1,h3];rw[ab];simp only[go_sem,simprocAttr,y,h2,h4];rw[ab];simp only[go_sem,simprocAttr,aN]
section
open Go.RowKit Go.ChangeShapes Go.WideShapes
theorem xfv(w:World)(a:Option Addr)(n c:Nat)(C:LAd)(h0:a=none->n=0)(h1:C.length=n)(h2:∀b,a=some b->∀j u,C[j]? =some u->w.cell? (b.add j)=some u)(h3:∀u∈C,u.oneCell'=true)(hn:n<=1000:=by omega):
 Calls Tryz.prog 238 #[.slice a n c] w fun e w'=>∃v,e= .returned v/\Below w.heap.size w w'/\w'.ownsRow w.heap.size 5 1 v n C:=by
 have hE:(Tryz.prog.info? 5).map (fun i=>(i.zero,i.size,i.bytes))=some (some (.int .u8 0),1,1):=by kernel_rfl
 obtain⟨ti,I,y⟩:=aj.1 hE;simp only[bA.injEq]at y;obtain⟨K,H,J⟩:=y;have hu:Tryz.prog.underlying 23=some (.slice 5):=by kernel_rfl
 have Q:Below w.heap.size w (w.alloc (.cells #[] 5)):=(Below.refl _ w).alloc (aM _) _;have hM:=World.ownsRow_made (e:=5) (size:=1) (base:=w.heap.size) w #[] 0 (aM _) (by decide) rfl;cases a with
 |none=>
  obtain rfl:n=0:=h0 rfl;obtain rfl:C=[]:=cD.1 h1
  go_enter Tryz.func238,Tryz.ntmps238
  go_wp2
  go_ret
  exact⟨_,rfl,Q,hM⟩
 |some ad=>
  have h2:=h2 ad rfl;clear h0
  go_enter Tryz.func238,Tryz.ntmps238
  go_wp2_with (at_builtin;go_must (refine wpList_append_own_at _ rfl _ _ 23 rfl w.heap.size 5 ti (.int .u8 0) 1 1 hu I K H J rfl (by decide) (.slice (some ⟨w.heap.size,0,none⟩) 0 0) 0 [] rfl ?c0 ad n c C rfl ?c1 ?c2 h3 ?c3 ?c4 ?c5 ?_))
  case c0=>exact hM
  case c1=>omega
  case c2=>intro j u hj;rw[World.cell?_of_block (w:=w) (Q.block _ (World.block_lt_of_cell? w _ (h2 j u hj)))];exact h2 j u hj
  case c3=>unfold maxLen;omega
  case c4=>omega
  case c5=>simp
  intro v2 W3 z F Z a1
  go_wp2
  go_ret
  exact⟨_,rfl,Q.grown F (by simp) (fun k hk=>by simp[Value.ownBlock]at hk;omega),z⟩
end
def w4(x:Int):t8:=[qA x 24,qA x 16,qA x 8,aO x]
def sp(h:List Int):t8:=h.flatMap w4
theorem My(h:List Int):(sp h).length=4*h.length:=by
 induction h with
 |nil=>rfl
 |cons x l y=>simp only[sp,cA,af,w4,ai,al]at*;omega
theorem d0(h:List Int)(i:Nat)(hi:i<h.length):h.drop i=h.getD i 0::h.drop (i+1):=qa h i hi
theorem xg0(h:List Int)(K:h.length<=1000000000000):∀(n i:Nat)(y:t8),h.length-i=n->i<=h.length->y.length=4*i->
 run T (.loop zB) ⟨[(0,.lst 1 (ws h) .no),(3,.byt y (.id 103)),(4,iV i)],[],[103]⟩=
 some (.x 0,⟨[(3,.byt (y++sp (h.drop i)) (.id 103))],[],[103]⟩):=by
 intro n;induction n with
 |zero=>
  intro i y h0 h1 H;have hi:i=h.length:=by omega
  have C:=kv h;subst hi;rw[ab];simp only[go_sem,aX,aJ,aW,reduceCtorEq,reduceIte,C,bx,sp,ji,bO]
 |succ n I=>
  intro i y h0 h1 H;have hi:i<h.length:=by omega
  have F:=bJ i;have z:=I (i+1) (y++w4 (h.getD i 0)) (by omega) (by omega) (by simp[w4];omega);have J:=jc h i hi;have C:=kv h;have c1:y.length+4<=140737488355328:=by omega
  rw[ab];rw[aI]at z;simp only[w4,qA]at z;simp only[go_sem,ci,cE,fK,fM,fL,bt,aX,bK,aJ,aW,reduceCtorEq,reduceIte,hi,J,C,F,c1,m24,m16,m8,z,d0 h i hi,sp,cA,w4,qA]
theorem f171(h:List Int)(y:h.length<=1000000000000:=by omega):call T 171 [.lst 1 (ws h) .no] [] 0=okV (bN (sp h)):=by have g:=xg0 h y _ 0 [] rfl (by omega) rfl;have z:=kv h;rw[ccT 171];simp only[ak,bw,aA]at g;simp only[go_sem,simprocAttr,g]
section
open Go.RowKit Go.ChangeShapes Go.WideShapes
theorem gE{α:Type}(l:List α)(d:α)(q:Nat)(h:q<l.length):l[q]? =some (l.getD q d):=by rw[aa,ac h];rfl
theorem gM{α:Type}(l:List α)(d:α)(q:Nat)(h:q<l.length:=by omega):l.getD q d∈l:=by rw[aa,ac h];exact aF h
def byv(B:t8):LAd:=B.map fun x=> .int .u8 x.toNat
theorem TZ(b off j:Nat):(⟨b,off,none⟩:Addr).add j=⟨b,off+j,none⟩:=by unfold Addr.add;split<;>simp_all
theorem qc{G:GM}{B:t8}{t:Tok}{a:Option Addr}{n c:Nat}(h:bU G (.byt B t) (.slice a n c)){w:World}(z:∀b o v,G b o=some v->w.cell? ⟨b,o,none⟩=some v):
 n=B.length/\(a=none->n=0)/\(∀b,a=some b->∀j u,(byv B)[j]? =some u->w.cell? (b.add j)=some u)/\(0<n->∃b o,a=some ⟨b,o,none⟩):=by
 cases h with
 |bytN=>exact⟨rfl,fun _=>rfl,(fun b h=>by cases h),fun h=>absurd h (Nat.lt_irrefl 0)⟩
 |bytE=>exact⟨rfl,fun _=>rfl,(fun b h j u C=>by simp[byv]at C),fun h=>absurd h (Nat.lt_irrefl 0)⟩
 |byt _ _ b off cap n J Z h=>refine⟨J,(fun h=>by cases h),fun Q H j u C=> ?_,fun _=>⟨_,_,rfl⟩⟩;cases H;unfold byv at C;rw[aR]at C;obtain⟨y,F,rfl⟩:=aj.1 C;obtain⟨K,I⟩:=List.getElem?_eq_some_iff.1 F;rw[TZ];have h2:=z _ _ _ (h j (by omega));rw[h2,aa,F];rfl
theorem Ih(B:t8):∀u∈byv B,u.oneCell'=true:=fun u z=>by obtain⟨y,_,rfl⟩:=aS.1 z;rfl
theorem yM(B:t8):(byv B).length=B.length:=av ..
theorem TN(B D:t8):byv B++byv D=byv (B++D):=by simp[byv]
theorem xiP{j:Int}{S R:t8}(H:call T 205 [.int .i64 j,bN S] [] 0=okV (bN R)){W:World}{G:GM}(I:∀b o z,G b o=some z->W.cell? ⟨b,o,none⟩=some z)(hL:Lay G){base g n cap:Nat}
 (y:W.ownsRow base 5 1 (.slice (some ⟨g,0,none⟩) n cap) n (byv S)) (hf:∀o,G g o=none):
 Calls Tryz.prog 205 #[.int .i64 j,.slice (some ⟨g,0,none⟩) n cap] W fun e w'=>∃(v:Value)(J:GM),e= .returned v/\bU J (bN R) v/\Below W.heap.size W w'/\(∀b o u,J b o=some u->w'.cell? ⟨b,o,none⟩=some u)/\
  (∀b o u,G b o=some u->J b o=some u)/\∀b o u,J b o=some u->G b o=some u\/b=g\/W.heap.size<=b:=by
 have hn:n=S.length:=by have:=y.1;rw[yM]at this;omega
 have F:n<=cap:=by
  rcases y.2 with⟨h,h2⟩|⟨g',cap',cur,h,_,_,h2,_⟩
  ·cases h
  ·cases h;exact h2
 have hc:=y.cells (g:=g) rfl;refine(Ig (P:=Tryz.prog) (G:=fun b o=>if b=g then(if o<n then W.cell? ⟨g,o,none⟩else none)else G b o) jF (fun b o z h=> ?_) (iC (G:=G) (fun b o z h=> ?_) hL) H (vs:=[.int .i64 j,.slice (some ⟨g,0,none⟩) n cap]) ⟨rfl,fun i hi=> ?_⟩).mono ?_
 ·split at h
  ·rename_i e;subst e
   split at h
   ·exact h
   ·cases h
  ·exact I _ _ _ h
 ·by_cases e:b=g
  ·subst e;rw[hf o]at h;cases h
  ·show(if b=g then _ else _)=_
   rw[if_neg e];exact h
 ·match i,hi with
  |0,_=>exact .dat _ _ (.int _ _) trivial
  |1,_=>
   refine .dat _ _ (.byt S .no g 0 cap n hn F fun i hi=> ?_) trivial;show(if g=g then _ else _)=_;rw[if_pos rfl,if_pos (by omega),de]
   have K:(byv S)[i]? =some (.int .u8 (S.getD i 0).toNat):=by unfold byv;rw[aR,ac (by omega:i<S.length),aa,ac (by omega:i<S.length)];rfl
   have:=hc i _ K;rwa[TZ,de]at this
 ·rintro e w' ⟨v,x',rfl,hr,K,C,Z,Q⟩
  refine⟨v,x'.G,rfl,hr.data rfl,K,C,fun b o u h=>Z _ _ _ ?_,fun b o u h=> ?_⟩
  ·by_cases e:b=g
   ·subst e;rw[hf o]at h;cases h
   ·show(if b=g then _ else _)=_
    rw[if_neg e];exact h
  ·rcases Q b o u h with h|h
   ·by_cases e:b=g
    ·exact .inr (.inl e)
    ·rw[if_neg e]at h;exact .inl h
   ·exact .inr (.inr h)
theorem BkW.mv2{w w':World}{base:Nat}{G:GM}{v:Value}{vs:LAd}{X:List LAd}{j:Nat}{N:Nat->Nat}{L:Nat->Nat->t8}(h:BkW w base G v vs X j N L)
 (hv:∀b,v.ownBlock=some b->w'.heap[b]? =w.heap[b]?) (C:∀i b,i<j->(vs.getD i Go.undef).ownBlock=some b->w'.heap[b]? =w.heap[b]?) (H:∀b,b<w.heap.size->(∃o z,G b o=some z)->w'.heap[b]? =w.heap[b]?):BkW w' base G v vs X j N L where
 row:=lG h.row fun k y h1 _=>⟨h1,hv k y⟩
 xl:=h.xl
 rows k y:=lG (h.rows k y) fun b F h1 _=>⟨h1,C k b y F⟩
 dat:=h.dat
 per b o z hz:=by have h1:=h.per b o z hz;rw[World.cell?_of_block (w:=w) (H b (cx h1) ⟨o,z,hz⟩)];exact h1
 nov:=h.nov
 nor:=h.nor
 nev:=h.nev
 inj:=h.inj
theorem BkW.set{w:World}{base:Nat}{G:GM}{v:Value}{vs:LAd}{X:List LAd}{n:Nat}{N:Nat->Nat}{L:Nat->Nat->t8}(h:BkW w base G v vs X n N L)
 {w1:World} (hb:Below w.heap.size w w1) {K:GM} (hG:∀b o z,G b o=some z->K b o=some z) (a6:∀b o z,K b o=some z->G b o=some z\/w.heap.size<=b) (Q:∀b o z,K b o=some z->w1.cell? ⟨b,o,none⟩=some z)
 {k0 i0 g:Nat} (hk:k0<n) (hi:i0<N k0) (F:(vs.getD k0 Go.undef).ownBlock=some g) {S:t8} {u:Value} (hu:bU K (bN S) u):
 BkW (w1.setCell ⟨g,i0,none⟩ u) base K v vs (X.set k0 ((X.getD k0 []).set i0 u)) n N (fun k i=>if k=k0/\i=i0 then S else L k i):=by
 have a1:base<=g/\g<w.heap.size:=(h.rows k0 hk).lt g F
 have J:∀b,b<w.heap.size->(∀o,G b o=none)->∀o,K b o=none:=fun b h1 h2 o=>by
  cases hx:K b o with
  |none=>rfl
  |some z=>
   rcases a6 b o z hx with h3|h3
   ·rw[h2 o]at h3;cases h3
   ·omega
 have H:∀b,b<w.heap.size->b≠g->(w1.setCell ⟨g,i0,none⟩ u).heap[b]? =w.heap[b]? :=fun b h1 h2=>by rw[Go.Deep.blk_setCell_other _ _ _ _ h2,hb.block b h1]
 have a8:=h.xl;refine⟨lG h.row fun k y h1 h2=>⟨h1,H k h2 fun e=> ?_⟩,by rw[bM];exact h.xl,fun k y=> ?_,fun k i y C=> ?_,fun b o z hz=> ?_,fun k y=> ?_,fun i k C y=> ?_,h.nev,h.inj⟩
 ·subst e;exact h.nev k0 k hk F y
 ·by_cases e:k=k0
  ·subst e
   have hr:=h.rows k y;rcases hr.2 with⟨h1,h2⟩|⟨g',cap,cur,h1,h2,h3,h4,h5,h6,h7⟩
   ·rw[h1]at F;simp[Value.ownBlock]at F
   ·rw[h1]at F
    simp only[Value.ownBlock,ay.injEq]at F;subst F
    have I:(X.set k ((X.getD k []).set i0 u)).getD k []=(X.getD k []).set i0 u:=by rw[aa,List.getElem?_set_self (by omega)];rfl
    rw[I];refine⟨by rw[bM];exact hr.1,.inr ⟨g',cap,cur.setIfInBounds i0 u,h1,h2, ?_,h4,h5,by simpa using h6, ?_⟩⟩
    ·have h8:w1.heap[g']? =some (.cells cur 23 (0,0)):=by rw[hb.block g' a1.2];exact h3
     simp[World.setCell,dz,h8]
    ·rw[<-h7]
     simp[List.take_set]
  ·have I:(X.set k0 ((X.getD k0 []).set i0 u)).getD k []=X.getD k []:=by
    rw[aa,List.getElem?_set_ne (Ne.symm e),<-aa]
   rw[I];refine lG (h.rows k y) fun b a7 h1 h2=>⟨h1,H b h2 fun Z=> ?_⟩
   subst Z;exact e (h.inj k0 k b hk y F a7)
 ·by_cases e:k=k0
  ·subst e
   have I:(X.set k ((X.getD k []).set i0 u)).getD k []=(X.getD k []).set i0 u:=by rw[aa,List.getElem?_set_self (by omega)];rfl
   have b0:=(h.rows k y).1;rw[I]
   by_cases Z:i=i0
   ·subst Z
    rw[if_pos ⟨rfl,rfl⟩,aa,List.getElem?_set_self (by omega)];exact hu
   ·rw[if_neg (fun h=>Z h.2),aa,List.getElem?_set_ne (Ne.symm Z),<-aa]
    exact(h.dat k i y C).mono hG
  ·have I:(X.set k0 ((X.getD k0 []).set i0 u)).getD k []=X.getD k []:=by
    rw[aa,List.getElem?_set_ne (Ne.symm e),<-aa]
   rw[I,if_neg (fun h=>e h.1)];exact(h.dat k i y C).mono hG
 ·have h1:=Q b o z hz
  have h2:b≠g:=fun e=>by subst e;have:=J b a1.2 (h.nor k0 b hk F) o;rw[hz]at this;cases this
  rw[World.cell?_of_block (w:=w1) (Go.Deep.blk_setCell_other _ _ _ _ h2)];exact h1
 ·exact J k (h.row.lt k y).2 (h.nov k y)
 ·exact J k ((h.rows i C).lt k y).2 (h.nor i k C y)
theorem BkW.rep{w:World}{base:Nat}{G:GM}{v:Value}{vs:LAd}{X:List LAd}{N:Nat->Nat}{L:Nat->Nat->t8}{bs:List (List t8)}(h:BkW w base G v vs X bs.length N L)
 (hN:∀k,k<bs.length->N k=(bs.getD k []).length) (a1:∀k i,k<bs.length->i<N k->L k i=(bs.getD k []).getD i []) {H:GM} (hG:∀b o z,G b o=some z->H b o=some z) (J:∀b o z,base<=b->w.cell? ⟨b,o,none⟩=some z->H b o=some z):
 bU H (.lst 1 (qB bs) .no) v:=by
 rcases h.row.2 with⟨rfl,h0⟩|⟨g,cap,cur,rfl,hg,_,hcap,_⟩
 ·have:bs=[]:=cD.1 h0
  subst this;exact .lstN _ _
 ·have hc:=h.row.cells (g:=g) rfl
  have a6:vs.length=bs.length:=by have:=h.row.1;omega
  refine .lst 1 _ _ g 0 cap _ (fun k _=>vs.getD k Go.undef) (kM bs).symm hcap (fun r y=> ?_) (fun k j F hj=> ?_) (fun k j F hj=> ?_)
  ·rw[mA bs r y];rfl
  ·obtain rfl:j=0:=by omega
   have h1:=hc k (vs.getD k Go.undef) (by rw[aa,ac (by omega)];rfl);rw[TZ]at h1;exact J _ _ _ hg (by simpa using h1)
  ·obtain rfl:j=0:=by omega
   rw[mA bs k F];show bU H (.lst 1 (bys (bs.getD k [])) .no) (vs.getD k Go.undef);have y:=h.rows k F;have C:=hN k F;rcases y.2 with⟨h1,h2⟩|⟨g2,cap2,cur2,h1,hg2,_,hcap2,_⟩
   ·have:bs.getD k []=[]:=cD.1 (by omega)
    rw[h1,this];exact .lstN _ _
   ·have Q:=y.cells (g:=g2) (by rw[h1];rfl)
    have K:(X.getD k []).length=N k:=by have:=y.1;omega
    rw[h1];refine .lst 1 _ _ g2 0 cap2 _ (fun q _=>(X.getD k []).getD q Go.undef) (by rw[eD];exact C) hcap2 (fun r y=> ?_) (fun q j I hj=> ?_) (fun q j I hj=> ?_)
    ·rw[jr _ r (by rw[<-C];exact y)];rfl
    ·obtain rfl:j=0:=by omega
     have Z:q<(X.getD k []).length:=by rw[K];exact I
     have h3:=Q q _ (gE _ Go.undef q Z);rw[TZ]at h3;exact J _ _ _ hg2 (by simpa using h3)
    ·obtain rfl:j=0:=by omega
     rw[jr _ q (by rw[<-C];exact I)];show bU H (bN ((bs.getD k []).getD q [])) _;rw[<-a1 k q F I];exact(h.dat k q F I).mono hG
end
end Go.Proofs.YtmhhnklkcmpdkaaGreatDoor
