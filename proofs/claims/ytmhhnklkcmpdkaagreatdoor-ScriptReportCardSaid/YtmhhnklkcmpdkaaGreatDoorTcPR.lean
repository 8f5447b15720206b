/- Contracts. No condition. -/
import Derived.Test.YtmhhnklkcmpdkaaGreatDoorTaPR
open Array renaming getElem?_modify -> dz
open Bool renaming false_or -> gz
open Int renaming natCast_zero -> ak, reduceAdd -> lm, reduceLE -> cE, reduceLT -> cJ, reduceToNat -> ci
open Go.IntKind renaming i64 -> ah, u64 -> az, wrap_u64 -> dx
open List renaming append_assoc -> aI, append_nil -> bO, cons_append -> aL, drop -> gT, drop_eq_getElem_cons -> bD, drop_eq_nil_of_le -> ez, drop_length -> bx, drop_zero -> bw, filter_cons -> fb, find?_cons -> Bl, flatMap_cons -> cA, flatMap_nil -> ji, foldl_cons -> kf, getD_eq_getElem?_getD -> aa, getElem?_eq_getElem -> ac, getElem?_eq_none -> fI, getElem?_map -> aR, getElem?_range -> cN, getElem_cons_succ -> cT, getElem_cons_zero -> cu, getElem_mem -> aF, getElem_toArray -> cR, length_append -> af, length_cons -> ai, length_drop -> aQ, length_map -> av, length_nil -> al, length_range -> uj, length_replicate -> cC, length_set -> bM, length_singleton -> aT, length_take -> aw, map_append -> b9, map_cons -> ax, map_nil -> aK, mem_append -> am, mem_cons -> aq, nil_append -> aA, not_mem_nil -> cY, range -> bQ, replicate -> aB, setIfInBounds_toArray -> ca, set_cons_succ -> bX, set_cons_zero -> bB, singleton_append -> CD, take -> dq, take_of_length_le -> bp
open Nat renaming eq_zero_or_pos -> ip, le_refl -> aM, lt_or_ge -> bq, lt_succ_self -> jR, mod_eq_of_lt -> ek, mul_one -> gI, not_lt_zero -> ec, reduceAdd -> bt, reduceBEq -> aW, reduceDiv -> fM, reduceEqDiff -> aJ, reduceLT -> aX, reduceLeDiff -> bK, reduceMod -> fL, reduceMul -> eU, reducePow -> fK, zero_add -> de, zero_le -> aC
open Option renaming getD_some -> bn, map_eq_some_iff -> aj
open Prod renaming mk -> bA
open UInt8 renaming ofInt -> aO, ofNat -> eL
set_option maxRecDepth 100000
set_option maxHeartbeats 16000000
set_option linter.unusedSimpArgs false
set_option linter.unusedVariables false
noncomputable section
namespace Go.Proofs.YtmhhnklkcmpdkaaGreatDoor
open Go.Sy

theorem f167:call T 167 [] [] 0=okV (.agg shK):=by rw[ccT 167];simp only[go_sem,simprocAttr];rfl
def bk(X:t8)(a:Nat):t8:=gT a (dq (a+64) X)
theorem zX(X:t8)(a:Nat)(h:a+64<=X.length):(bk X a).length=64:=by unfold bk;rw[aQ,aw];omega
theorem xaP(X:t8)(a:Nat)(h:List Int)(K:a+64<=X.length)(hX:X.length<=1000000000000):∀(n t:Nat)(L:List Int),64-t=n->t<=64->L.length=64->∃M:List Int,M.length=64/\
 run T (.loop sE) ⟨[(3,.ptr 103 0),(4,.psl 119 1 0 8 (some 8)),(5,bN X),(6,iV a),(7,.ptr 107 0),(8,iV t)],[(103,.arr 1 (ws Kl)),(107,.arr 1 (ws L)),(119,.arr 1 (ws h))],[]⟩=
 some (.x 2,⟨[(3,.ptr 103 0),(4,.psl 119 1 0 8 (some 8)),(5,bN X),(6,iV a),(7,.ptr 107 0)],[(103,.arr 1 (ws Kl)),(107,.arr 1 (ws M)),(119,.arr 1 (ws h))],[]⟩):=by
 intro n;induction n with
 |zero=>
  intro t L h0 h1 C;have hi:t=64:=by omega
  subst hi;refine⟨L,C, ?_⟩;rw[ab];simp only[c64,go_sem,cJ,aX,aJ,aW,reduceIte]
 |succ n ih=>
  intro t L h0 h1 C;have e1:=bJ t;have F:(t:Int)<64:=by omega
  have hw:=kv L;have hn:t<64:=by omega
  have a1:ah.wrap ((a:Int)+64)=((a+64:Nat):Int):=by rw[w64];omega
  have a3:a<=a+64:=by omega
  rw[ab]
  by_cases h16:t<16
  ·obtain⟨z,g⟩:=f169 (bk X a) t (by rw[zX X a K];omega) (by rw[zX X a K];omega)
   have y:(t:Int)<16:=by omega
   unfold bk at g;simp only[go_sem,aX,aJ,aW,reduceIte,F,y,e1,a1,K,a3,g,C,hw,hn,yP];exact ih (t+1) _ (by omega) (by omega) (by rw[bM,C])
  ·have y:¬(t:Int)<16:=by omega
   have I:ah.wrap ((t:Int)-15)=((t-15:Nat):Int):=by rw[w64];omega
   have a2:ah.wrap ((t:Int)-2)=((t-2:Nat):Int):=by rw[w64];omega
   have a7:ah.wrap ((t:Int)-7)=((t-7:Nat):Int):=by rw[w64];omega
   have Q:ah.wrap ((t:Int)-16)=((t-16:Nat):Int):=by rw[w64];omega
   have Z:t-15<64:=by omega
   have b2:t-2<64:=by omega
   have b7:t-7<64:=by omega
   have H:t-16<64:=by omega
   have a6:=jc L (t-15);have d2:=jc L (t-2);have d7:=jc L (t-7);have J:=jc L (t-16);simp only[go_sem,ci,cE,fK,fM,fL,aX,aJ,aW,reduceCtorEq,reduceIte,F,y,e1,C,hw,hn,I,a2,a7,Q,Z,b2,b7,H,a6,d2,d7,J,xe4,yP,m3,m10];exact ih (t+1) _ (by omega) (by omega) (by rw[bM,C])
theorem NR(l:List Int)(h:l.length=8):∃a b c d e f g i,l=[a,b,c,d,e,f,g,i]:=by
 match l,h with
 |[a,b,c,d,e,f,g,i],_=>exact⟨a,b,c,d,e,f,g,i,rfl⟩
theorem xaO(X:t8)(a:Nat)(W:List Int)(O:aG)(K:W.length=64):∀(n t:Nat)(q:Tok)(s:List Int),64-t=n->t<=64->(t=64->q= .clip)->s.length=8->∃u:List Int,u.length=8/\
 run T (.loop sD) ⟨[(3,.ptr 103 0),(4,.psl 119 1 0 8 (some 8)),(5,bN X),(6,iV a),(7,.ptr 107 0),(11,.lst 1 (ws s) q),(12,iV t)],[(103,.arr 1 (ws Kl)),(107,.arr 1 (ws W)),(119,O)],[194]⟩=
 some (.x 4,⟨[(3,.ptr 103 0),(4,.psl 119 1 0 8 (some 8)),(5,bN X),(6,iV a),(11,.lst 1 (ws u) .clip)],[(103,.arr 1 (ws Kl)),(107,.arr 1 (ws W)),(119,O)],[194]⟩):=by
 intro n;induction n with
 |zero=>
  intro t q s h0 h1 H hs;have hi:t=64:=by omega
  subst hi;rw[H rfl];refine⟨s,hs, ?_⟩;rw[ab];simp only[c64,go_sem,simprocAttr]
 |succ n ih=>
  intro t q s h0 h1 H hs;have Z:=bJ t;have y:(t:Int)<64:=by omega
  have F:t<64:=by omega
  have C:=kv W;have z:=kv Kl;have Q:=Nd;obtain⟨a0,a1,a2,a3,a4,a5,a6,a7,rfl⟩:=NR s hs;have I:=jc W t;have J:=jc Kl t (by rw[Nd];exact F);rw[ab,ws8];simp only[go_sem,simprocAttr,y,Z,C,z,Q,K,F,I,J,xe4,c8,c64,ai,al];rw[<-ws8];exact ih (t+1) .clip _ (by omega) (by omega) (fun _=>rfl) rfl
theorem xaN(X:t8)(a:Nat)(h s:List Int)(P Q:aG)(H:h.length=8)(hs:s.length=8):∃u:List Int,u.length=8/\
 run T (.loop sC) ⟨[(3,.ptr 103 0),(4,.psl 119 1 0 8 (some 8)),(5,bN X),(6,iV a),(11,.lst 1 (ws s) .clip),(17,iV 0)],[(103,P),(107,Q),(119,.arr 1 (ws h))],[194]⟩=
 some (.x 6,⟨[(3,.ptr 103 0),(4,.psl 119 1 0 8 (some 8)),(5,bN X),(6,iV a)],[(103,P),(107,Q),(119,.arr 1 (ws u))],[194]⟩):=by
 obtain⟨a0,a1,a2,a3,a4,a5,a6,I,rfl⟩:=NR h H;obtain⟨b0,C,b2,b3,Z,F,K,z,rfl⟩:=NR s hs;refine⟨List.zipWith (fun x y=>IntKind.u32.wrap (x+y)) [a0,a1,a2,a3,a4,a5,a6,I] [b0,C,b2,b3,Z,F,K,z],rfl, ?_⟩;have k1:ah.wrap 1=1:=rfl;have k2:ah.wrap 2=2:=rfl;have k3:ah.wrap 3=3:=rfl;have k4:ah.wrap 4=4:=rfl;have k5:ah.wrap 5=5:=rfl;have J:ah.wrap 6=6:=rfl;have k7:ah.wrap 7=7:=rfl;have k8:ah.wrap 8=8:=rfl;simp only[ws8,List.zipWith]
 iterate 9
  rw[ab];simp only[go_sem,simprocAttr,ai,al,c8,k1,k2,k3,k4,k5,J,k7,k8]
theorem xhd(X:t8)(I:X.length<=1000000000000):∀(n a:Nat)(h:List Int),h.length=8->X.length=a+64*n->∃u:List Int,u.length=8/\
 run T (.loop sB) ⟨[(3,.ptr 103 0),(4,.psl 119 1 0 8 (some 8)),(5,bN X),(6,iV a)],[(103,.arr 1 (ws Kl)),(119,.arr 1 (ws h))],[]⟩=
 some (.x 0,⟨[(4,.psl 119 1 0 8 (some 8))],[(103,.arr 1 (ws Kl)),(119,.arr 1 (ws u))],[]⟩):=by
 intro n;induction n with
 |zero=>
  intro a h y F;refine⟨h,y, ?_⟩;rw[ab];have h0:¬(a:Int)<X.length:=by omega
  simp only[go_sem,aX,aJ,aW,reduceIte,h0]
 |succ n Z=>
  intro a h y F;have h0:(a:Int)<X.length:=by omega
  have Q:ah.wrap ((a:Int)+64)=((a+64:Nat):Int):=by rw[w64];omega
  obtain⟨W,K,g1⟩:=xaP X a h (by omega) I _ 0 (aB 64 0) rfl (by omega) (by rw[cC]);obtain⟨s,hs,C⟩:=xaO X a W (.arr 1 (ws h)) K _ 0 (.id 194) h rfl (by omega) (by omega) y;obtain⟨u,H,g3⟩:=xaN X a h s (.arr 1 (ws Kl)) (.arr 1 (ws W)) y hs;have z:=kv h;rw[<-Ms]at g1;simp only[ak]at g1 C;rw[ab];have J:dq 8 (ws h)=ws h:=bp (by rw[z,y];exact aM 8);simp only[go_sem,bt,eU,aX,bK,aJ,aW,reduceCtorEq,reduceIte,h0,Q,g1,C,g3,z,y,J];exact Z (a+64) u H (by omega)
attribute [-go_sem] ld
theorem P7(B:t8)(Z:B.length<=100000000000):∃R:t8,R.length=32/\call T 102 [bN B] [] 0=okV (bN R):=by
 have g1:=f167;have g0:=xe5 B;have J:ld 1 64 (List.map SV.data shK)=ws Kl:=rfl;have i3:shK.all SV.isData=true:=rfl;have i4:=QR;have C:SV.purgeL 103 104 shK=shK:=rfl;have H:SV.idsL shK=[]:=rfl;have i2:SV.toksL shK=[]:=rfl;have K:=tM B;have hz:zn (B.length+1)<64:=by unfold zn;omega
 have Q:=AM B;obtain⟨b,y,g3⟩:=xhd (BW B) (by omega) ((BW B).length/64) 0 [1779033703,3144134277,1013904242,2773480762,1359893119,2600822924,528734635,1541459225] rfl (by omega);have I:=f171 b;refine⟨sp b,by rw[My,y], ?_⟩;have z:=kv b;simp only[ws8,ak]at g3;have F:dq 8 (ws b)=ws b:=bp (by rw[z,y];exact aM 8);rw[ccT 102];simp only[go_sem,simprocAttr,g1,g0,H,i2,List.isEmpty,J,i3,i4,C,I,g3,z,y,F]
def sha(B:t8):t8:=if h:B.length<=100000000000 then(P7 B h).choose else aB 32 0
theorem fC(B:t8):(sha B).length=32:=by
 unfold sha;split
 ·exact(P7 B (by assumption)).choose_spec.1
 ·rfl
theorem yH(B:t8)(y:B.length<=100000000000:=by omega):call T 102 [bN B] [] 0=okV (bN (sha B)):=by unfold sha;rw[dif_pos y];exact(P7 B y).choose_spec.2
attribute [irreducible] sha
attribute [go_sem] ld
section
open Go.RowKit Go.ChangeShapes Go.WideShapes
structure iU(w:World)(a0:Option Addr)(n cap:Nat)(u:Int)(wr:World):Prop where
 bel:Below w.heap.size w wr
 sz:w.heap.size+1<wr.heap.size
 k1:wr.heap[w.heap.size]? =some (.cells #[.slice a0 n cap,.int .i64 u] 86 (0,0))
 k2:wr.heap[w.heap.size+1]? =some (.cells #[.slice none 0 0,.int .i64 0] 86 (0,0))
theorem iU.mv{w:World}{a0:Option Addr}{n cap:Nat}{u:Int}{w1 z:World}(h:iU w a0 n cap u w1)(y:Below w1.heap.size w1 z):iU w a0 n cap u z where
 bel:=h.bel.trans (y.mono h.bel.size)
 sz:=Nat.lt_of_lt_of_le h.sz y.size
 k1:=by rw[y.block _ (by have:=h.sz;omega)];exact h.k1
 k2:=by rw[y.block _ h.sz];exact h.k2
theorem iU.get{w:World}{a0:Option Addr}{n cap:Nat}{u:Int}{w1:World}(h:iU w a0 n cap u w1):Below w.heap.size w w1/\w1.cell? ⟨w.heap.size,0,none⟩=some (.slice a0 n cap)/\w1.cell? ⟨w.heap.size,1,none⟩=some (.int .i64 u)/\
 w1.cell? ⟨w.heap.size+1,0,none⟩=some (.slice none 0 0)/\w1.cell? ⟨w.heap.size+1,1,none⟩=some (.int .i64 0)/\w1.frozen? ⟨w.heap.size+1,0,none⟩=false/\w1.frozen? ⟨w.heap.size+1,1,none⟩=false:=
 ⟨h.bel,by rw[World.cell?];simp[h.k1],by rw[World.cell?];simp[h.k1],by rw[World.cell?];simp[h.k2],by rw[World.cell?];simp[h.k2],by rw[World.frozen?];simp[h.k2],by rw[World.frozen?];simp[h.k2]⟩
theorem xfI{W:World}{g:Nat}{a b x y:Value}{t:TypeId}{z:Nat×Nat}(h:W.heap[g]? =some (.cells #[a,b] t z)):((W.setCell ⟨g,0,none⟩ x).setCell ⟨g,1,none⟩ y).heap[g]? =some (.cells #[x,y] t z):=by simp[World.setCell,dz,h]
theorem DT{y:Ending->World->Prop}{tmps:LAe}{W:World}{g:Nat}{cs:LAe}{e:Int}(I:tmps.getD 8 Go.undef= .pointer (some ⟨g,0,none⟩))(H:tmps.getD 9 Go.undef= .int .i64 e)
 (J:W.heap[g]? =some (.cells cs 86 (0,0))) (hs:cs.size=2) (h:y (.returned (.tuple #[.agg cs,.int .i64 e])) W):bodyPost Tryz.prog Tryz.f305 y Exit.ret ⟨tmps,[]⟩ W:=by
 obtain⟨z,F,C⟩:=aj.1 (show(Tryz.prog.underlying 86).map (fun d=>match d with| .struct _| .array _ _=>true|_=>false)=some true by kernel_rfl);have hi:(Tryz.prog.info? 86).map (·.size)=some cs.size:=by rw[hs];kernel_rfl
 refine bodyPost_ret (v:= .tuple #[.agg cs,.int .i64 e]) ?_ rfl h;show(results Tryz.f305 tmps).run Tryz.prog W=_;rw[results_cell_tmp rfl,I,H];simp[asAddr,run_loadVar_row W g 86 86 cs (0,0) z J F (by cases z<;>first|rfl|cases C) hi]
def lE(bs:List (List t8))(z:List t8)(y:Nat->Bool)(i:Nat)(sm:Nat->t8->t8)(j k q:Nat):t8:=if k<j/\y k=true/\q=i then sm k ((bs.getD k []).getD i []++z.getD k [])else(bs.getD k []).getD q []
theorem xft(
 w:World)(bs:List (List t8))(k6:rm bs)(a0:Option Addr)(cap:Nat)(u:Int)(i:Nat)(hi:i<=11)(Z:List t8)(u0:Z.length=2)(o2:∀x∈Z,x.length<=32)(bd od cd:Nat)
 (G0:GM) (a6:∀b o v,G0 b o=some v->w.cell? ⟨b,o,none⟩=some v) (hL:Lay G0) (hv:bU G0 (.lst 1 (qB bs) .no) (.slice a0 bs.length cap)) (J:Nat->Bool)
 (h9:∀k,k<2->∃a n c,G0 bd (od+k)=some (.slice a n c)/\n=(Z.getD k []).length/\bU G0 (bN (Z.getD k [])) (.slice a n c))
 (e9:∀(k:Nat) C,k<2->Below w.heap.size w C->Calls Tryz.prog 306 #[.agg #[.slice a0 bs.length cap,.int .i64 u],.int .i64 k] C fun e w'=>e= .returned (.bool (J k))/\Below C.heap.size C w')
 (p5:∀C,Below w.heap.size w C->Calls Tryz.prog 328 #[.int .i64 i,.bool false] C fun e w'=>e= .returned (.int .i64 0)/\Below C.heap.size C w')
 (o7:∀(k:Nat) C,k<2->Below w.heap.size w C->Calls Tryz.prog 329 #[.int .i64 k] C fun e w'=>e= .returned (.int .i64 (if k=0 then 20 else 32))/\Below C.heap.size C w')
 (n6:∀k,J k=true->k<bs.length/\i<(bs.getD k []).length) (sm:Nat->t8->t8) (p9:∀(k:Nat) S,k<2->S.length<=1000->call T 205 [.int .i64 k,bN S] [] 0=okV (bN (sm k S)))
 (C1 C2:Prop) (j2:C1↔∃k,k<2/\J k=false/\0<(Z.getD k []).length) (d5:C2↔∃k:Nat,k<2/\J k=true/\((Z.getD k []).length:Int)≠(if k=0 then 20 else 32)):
 Calls Tryz.prog 305 #[.agg #[.slice a0 bs.length cap,.int .i64 u],.int .i64 0,.int .i64 i,.slice (some ⟨bd,od,none⟩) 2 cd] w fun e w'=>Below w.heap.size w w'/\((C1/\e= .returned (.tuple #[.agg #[.slice none 0 0,.int .i64 0],.int .i64 27]))\/(¬C1/\C2/\e= .returned (.tuple #[.agg #[.slice none 0 0,.int .i64 0],.int .i64 24]))\/(¬C1/\¬C2/\∃v vs X G bb,e= .returned (.tuple #[.agg #[v,.int .i64 (wrap64 (u+1))],.int .i64 0])/\w.heap.size<=bb/\(∀b o z,G b o=some z->G0 b o=some z\/w.heap.size<=b)/\BkW w' bb G v vs X bs.length (fun k=>(bs.getD k []).length) (lE bs Z J i sm 2))):=by
 have x4:(i:Int)<16:=by omega
 have y7:(0:Int)<=(i:Int):=by omega
 go_enter Tryz.func305,Tryz.ntmps305
 go_wp2_with (go_at_call 328;refine(p5 _ (((Below.refl _ w).alloc (aM _) _).alloc (by simp) _)).mono ?_;rintro e W0 ⟨rfl,s5⟩)
 go_loopw [10] (fun v wr=>∃j:Nat,j<=2/\v= .int .i64 j/\iU w a0 bs.length cap u wr/\∀k,k<j->¬(J k=false/\0<(Z.getD k []).length)) (fun v _=>2-(intOf v).toNat)
 case atStart=>refine⟨0,by decide,rfl, ?_,fun k hk=>absurd hk (ec _)⟩;refine iU.mv (w1:=(w.alloc (.cells #[.slice a0 bs.length cap,.int .i64 u] 86)).alloc (.cells #[.slice none 0 0,.int .i64 0] 86)) ?_ s5;refine⟨((Below.refl _ w).alloc (aM _) _).alloc (by simp) _,by simp, ?_,xfo _ _ _⟩;rw[alo _ _ (by simp)];exact aln _ _
 case round=>
  obtain⟨j,hj,rfl,hF,b3⟩:=hrel;obtain⟨d4,c0,c1,f0,f1,z0,z1⟩:=hF.get
  by_cases b0:j<2
  ·obtain⟨ka,kn,kc,hg,rfl,k3⟩:=h9 j b0
   have k7:bd<w.heap.size:=cx (a6 _ _ _ hg)
   have g0:∀C,iU w a0 bs.length cap u C->C.cell? ⟨bd,od+j,none⟩=some (.slice ka (Z.getD j []).length kc):=fun C hx=>by rw[hx.1.cell (p:=⟨bd,od+j,none⟩) k7];exact a6 _ _ _ hg
   have F:=e9 j wr b0 d4
   by_cases I:J j=false/\0<(Z.getD j []).length
   ·rw[I.1]at F
    have e6:=I;have o9:=I.2;have x0:(0:Int)<((Z.getD j []).length:Int):=by omega
    have hC:C1:=j2.2 ⟨j,b0,e6⟩;clear j2 d5 b3 I e6;generalize (Z.getD j []).length=dj at*
    go_wp2_with (go_at_call 306;refine F.mono ?_;rintro e W1 ⟨rfl,h7⟩;have b6:=hF.mv h7;have g1:=g0 _ b6;obtain⟨_,d0,d1,e0,e1,y0,y1⟩:=b6.get)
    try simp only[Exit.inBlock,Exit.then]
    refine DT rfl rfl (g:=w.heap.size+1) (cs:= #[.slice none 0 0,.int .i64 0]) (by simp[World.setCell,dz,b6.k2]) rfl ⟨?_,.inl ⟨hC,rfl⟩⟩;exact(b6.bel.setCell (p:=⟨w.heap.size+1,0,none⟩) (by show _<=w.heap.size+1;omega) _).setCell (p:=⟨w.heap.size+1,1,none⟩) (by show _<=w.heap.size+1;omega) _
   ·have b1:∀k,k<j+1->¬(J k=false/\0<(Z.getD k []).length):=fun k hk=>by
     rcases bq k j with h|h
     ·exact b3 k h
     ·obtain rfl:k=j:=by omega
      exact I
    cases haj:J j with
    |true=>
     rw[haj]at F
     go_wp2_with (go_at_call 306;refine F.mono ?_;rintro e W1 ⟨rfl,h7⟩;have b6:=hF.mv h7)
     exact⟨⟨j+1,by omega,by push_cast;rfl,b6,b1⟩,by simp[intOf];omega⟩
    |false=>
     rw[haj]at F
     have o9:(Z.getD j []).length=0:=by
      rcases ip (Z.getD j []).length with h|h
      ·exact h
      ·exact absurd ⟨haj,h⟩ I
     rw[o9]at g0
     go_wp2_with (go_at_call 306;refine F.mono ?_;rintro e W1 ⟨rfl,h7⟩;have b6:=hF.mv h7;have g1:=g0 _ b6)
     exact⟨⟨j+1,by omega,by push_cast;rfl,b6,b1⟩,by simp[intOf];omega⟩
  ·have j9:¬C1:=fun h=>by
    obtain⟨k,hk,h⟩:=j2.1 h;exact b3 k (by omega) h
   have ej:(j:Int)=2:=by omega
   rw[ej];clear j2 b3;generalize wr=V1 at*
   go_wp2
   go_loopw [11] (fun v wr=>∃j:Nat,j<=2/\v= .int .i64 j/\iU w a0 bs.length cap u wr/\∀k:Nat,k<j->¬(J k=true/\((Z.getD k []).length:Int)≠(if k=0 then 20 else 32))) (fun v _=>2-(intOf v).toNat)
   case atStart=>exact⟨0,by decide,rfl,hF,fun k hk=>absurd hk (ec _)⟩
   case round=>
    clear d4 c0 c1 f0 f1 z0 z1 hF;obtain⟨j,hj,rfl,hF,b3⟩:=hrel;obtain⟨d4,c0,c1,f0,f1,z0,z1⟩:=hF.get
    by_cases b0:j<2
    ·obtain⟨ka,kn,kc,hg,rfl,k3⟩:=h9 j b0
     have k7:bd<w.heap.size:=cx (a6 _ _ _ hg)
     have g0:∀C,iU w a0 bs.length cap u C->C.cell? ⟨bd,od+j,none⟩=some (.slice ka (Z.getD j []).length kc):=fun C hx=>by rw[hx.1.cell (p:=⟨bd,od+j,none⟩) k7];exact a6 _ _ _ hg
     have a7:iU w a0 bs.length cap u wr.drew:=⟨hF.bel.drew,hF.sz,hF.k1,hF.k2⟩;have cX:∀C,iU w a0 bs.length cap u C->iU w a0 bs.length cap u C/\C.cell? ⟨w.heap.size,0,none⟩=some (.slice a0 bs.length cap)/\C.cell? ⟨w.heap.size,1,none⟩=some (.int .i64 u)/\C.cell? ⟨bd,od+j,none⟩=some (.slice ka (Z.getD j []).length kc):=fun C hx=>⟨hx,hx.get.2.1,hx.get.2.2.1,g0 C hx⟩
     have F:=e9 j wr.drew b0 a7.bel;have b7:=fun C=>o7 j C b0
     have b1:¬(J j=true/\((Z.getD j []).length:Int)≠(if j=0 then 20 else 32))->∀k:Nat,k<j+1->¬(J k=true/\((Z.getD k []).length:Int)≠(if k=0 then 20 else 32)):=fun I k hk=>by
      rcases bq k j with h|h
      ·exact b3 k h
      ·obtain rfl:k=j:=by omega
       exact I
     cases haj:J j with
     |true=>
      rw[haj]at F
      by_cases I:((Z.getD j []).length:Int)=(if j=0 then 20 else 32)
      ·have h5:=b1 fun h=>h.2 I
       clear d5 b3 b1 g0;rw[<-I]at b7;clear I;generalize (Z.getD j []).length=dj at b7 cX
       go_wp2
       go_region_held3 (fun C=>iU w a0 bs.length cap u C/\C.cell? ⟨w.heap.size,0,none⟩=some (.slice a0 bs.length cap)/\C.cell? ⟨w.heap.size,1,none⟩=some (.int .i64 u)/\C.cell? ⟨bd,od+j,none⟩=some (.slice ka dj kc)) (first|exact cX _ a7|exact cX _ (a7.mv H)|exact cX _ ((a7.mv H).mv f3)) (first|(go_at_call 306;refine F.mono ?_;rintro e Q ⟨rfl,H⟩)|(go_at_call 329;refine(b7 _ (a7.mv H).bel).mono ?_;rintro e W9 ⟨rfl,f3⟩))
       go_wp2
       go_roundw
       case rel=>exact⟨j+1,by omega,by push_cast;rfl,(a7.mv H).mv f3,h5⟩
       case measure=>simp[intOf];omega
      ·have hC:C2:=d5.2 ⟨j,b0,haj,I⟩
       clear d5 b3 b1 g0;generalize (Z.getD j []).length=dj at I cX;generalize (if j=0 then(20:Int)else 32)=sj at*
       go_wp2
       go_region_held3 (fun C=>iU w a0 bs.length cap u C/\C.cell? ⟨w.heap.size,0,none⟩=some (.slice a0 bs.length cap)/\C.cell? ⟨w.heap.size,1,none⟩=some (.int .i64 u)/\C.cell? ⟨bd,od+j,none⟩=some (.slice ka dj kc)) (first|exact cX _ a7|exact cX _ (a7.mv H)|exact cX _ ((a7.mv H).mv f3)) (first|(go_at_call 306;refine F.mono ?_;rintro e Q ⟨rfl,H⟩)|(go_at_call 329;refine(b7 _ (a7.mv H).bel).mono ?_;rintro e W9 ⟨rfl,f3⟩))
       have l2:=(a7.mv H).mv f3;obtain⟨_,_,_,e0,e1,y0,y1⟩:=l2.get
       go_wp2
       try simp only[Exit.inBlock,Exit.then]
       refine DT rfl rfl (g:=w.heap.size+1) (cs:= #[.slice none 0 0,.int .i64 0]) (by simp[World.setCell,dz,l2.k2]) rfl ⟨?_,.inr (.inl ⟨j9,hC,rfl⟩)⟩;exact(l2.bel.setCell (p:=⟨w.heap.size+1,0,none⟩) (by show _<=w.heap.size+1;omega) _).setCell (p:=⟨w.heap.size+1,1,none⟩) (by show _<=w.heap.size+1;omega) _
     |false=>
      rw[haj]at F;have h5:=b1 fun h=>by rw[haj]at h;cases h.1
      clear d5 b3 b1 g0;generalize (Z.getD j []).length=dj at cX
      go_wp2
      refine wp_region_held_drew (S:=fun C=>iU w a0 bs.length cap u C/\C.cell? ⟨w.heap.size,0,none⟩=some (.slice a0 bs.length cap)/\C.cell? ⟨w.heap.size,1,none⟩=some (.int .i64 u)/\C.cell? ⟨bd,od+j,none⟩=some (.slice ka dj kc)) (by kernel_rfl) (cX _ a7) (fun l3=> ?_);refine wpAnyH_take (i:=0) (v:= .agg #[.slice a0 bs.length cap,.int .i64 u]) rfl (by kernel_rfl) (by kernel_rfl) (by kernel_rfl) (fun _ _ _ h=>h) (Or.inl ⟨rfl, ?_⟩) (by assumption) ?_
      ·intro C k8;go_simp
      simp only[cR,cu,Act.put,ca,bB,bX];refine wpAnyH_take (i:=1) (v:= .int .i64 j) rfl (by kernel_rfl) (by kernel_rfl) (by kernel_rfl) (fun _ _ _ h=>h) (Or.inl ⟨rfl, ?_⟩) (by assumption) ?_
      ·intro C k8;go_simp
      simp only[cR,cT,cu,Act.put,ca,bB,bX];refine wpAnyH_ready (rs:=[2]) (by kernel_rfl) (by simp) ?_;refine AllReadyH.cons rfl (fun K hK=> ?_) AllReadyH.nil
      go_simp
      go_at_call 306
      refine F.mono ?_;rintro e Q ⟨rfl,H⟩;refine hK.out _ _ (cX _ (a7.mv H)) (fun l3=> ?_);clear hK K
      try simp only[cR,cT,cu,Act.put,ca,bB,bX]
      refine wpAnyH_take (i:=3) (v:= .bool false) rfl (by kernel_rfl) (by kernel_rfl) (by kernel_rfl) (fun _ _ _ h=>h) (Or.inl ⟨rfl, ?_⟩) (by assumption) ?_
      ·intro C k8;go_simp
      simp only[cR,cT,cu,Act.put,ca,bB,bX];refine wpAnyH_take (i:=4) (v:=Go.undef) rfl (by kernel_rfl) (by kernel_rfl) (by kernel_rfl) (fun _ _ _ h=>h) (Or.inr ⟨by kernel_rfl,rfl⟩) (by assumption) ?_;simp only[cR,cT,cu,Act.put,ca,bB,bX];refine wpAnyH_take (i:=5) (v:=Go.undef) rfl (by kernel_rfl) (by kernel_rfl) (by kernel_rfl) (fun _ _ _ h=>h) (Or.inr ⟨by kernel_rfl,rfl⟩) (by assumption) ?_;simp only[cR,cT,cu,Act.put,ca,bB,bX];refine wpAnyH_take (i:=6) (v:=Go.undef) rfl (by kernel_rfl) (by kernel_rfl) (by kernel_rfl) (fun _ _ _ h=>h) (Or.inr ⟨by kernel_rfl,rfl⟩) (by assumption) ?_;simp only[cR,cT,cu,Act.put,ca,bB,bX];refine wpAnyH_take (i:=7) (v:=Go.undef) rfl (by kernel_rfl) (by kernel_rfl) (by kernel_rfl) (fun _ _ _ h=>h) (Or.inr ⟨by kernel_rfl,rfl⟩) (by assumption) ?_;simp only[cR,cT,cu,Act.put,ca,bB,bX];refine wpAnyH_take (i:=8) (v:=Go.undef) rfl (by kernel_rfl) (by kernel_rfl) (by kernel_rfl) (fun _ _ _ h=>h) (Or.inr ⟨by kernel_rfl,rfl⟩) (by assumption) ?_
      simp only[cR,cT,cu,Act.put,ca,bB,bX];refine wpAnyH_take (i:=9) (v:=Go.undef) rfl (by kernel_rfl) (by kernel_rfl) (by kernel_rfl) (fun _ _ _ h=>h) (Or.inr ⟨by kernel_rfl,rfl⟩) (by assumption) ?_;simp only[cR,cT,cu,Act.put,ca,bB,bX];refine wpAnyH_take (i:=10) (v:=Go.undef) rfl (by kernel_rfl) (by kernel_rfl) (by kernel_rfl) (fun _ _ _ h=>h) (Or.inr ⟨by kernel_rfl,rfl⟩) (by assumption) ?_;simp only[cR,cT,cu,Act.put,ca,bB,bX];refine wpAnyH_take (i:=11) (v:=Go.undef) rfl (by kernel_rfl) (by kernel_rfl) (by kernel_rfl) (fun _ _ _ h=>h) (Or.inr ⟨by kernel_rfl,rfl⟩) (by assumption) ?_;simp only[cR,cT,cu,Act.put,ca,bB,bX];refine wpAnyH_take (i:=12) (v:= .bool false) rfl (by kernel_rfl) (by kernel_rfl) (by kernel_rfl) (fun _ _ _ h=>h) (Or.inl ⟨rfl, ?_⟩) (by assumption) ?_
      ·intro C k8;go_simp
      simp only[cR,cT,cu,Act.put,ca,bB,bX];refine wpAnyH_done (by kernel_rfl) ?_ _
      go_wp2
      go_roundw
      case rel=>exact⟨j+1,by omega,by push_cast;rfl,a7.mv H,h5⟩
      case measure=>simp[intOf];omega
    ·have m0:¬C2:=fun h=>by
      obtain⟨k,hk,h⟩:=d5.1 h;exact b3 k (by omega) h
     have l9:∀k,k<2->J k=true->0<(Z.getD k []).length:=fun k hk ha=>by
      rcases ip (Z.getD k []).length with h|h
      ·exact absurd ⟨ha,by rw[h];split<;>decide⟩ (b3 k (by omega))
      ·exact h
     have t7:(j:Int)=2:=by omega
     rw[t7]
     have g7:∀b o v,G0 b o=some v->wr.cell? ⟨b,o,none⟩=some v:=fun b o v h=>by rw[d4.cell (p:=⟨b,o,none⟩) (cx (a6 _ _ _ h))];exact a6 _ _ _ h
     have j6:=xfs wr bs k6 a0 cap u G0 g7 hL hv;clear d5 b3;generalize wr=V2 at*
     go_wp2_with (go_at_call 330;refine j6.mono ?_;rintro e W3 ⟨vo,vs,X0,h8,rfl,o5,g6,d8,e5⟩;obtain⟨oa,oc,rfl⟩:=py e5.row)
     have hs3:=o5.size;have x3:=hF.sz;have k9:=e5.row.lt;have e2:∀k b,k<bs.length->(vs.getD k Go.undef).ownBlock=some b->V2.heap.size+3<=b/\b<W3.heap.size:=fun k b hk hb=>(e5.rows k hk).lt b hb
     go_loopw [13] (fun v wr=>∃j:Nat,j<=2/\v= .int .i64 j/\iU w a0 bs.length cap u wr/\W3.heap.size<wr.heap.size/\wr.heap[W3.heap.size]? =some (.cells #[.slice oa bs.length oc,.int .i64 u] 86 (0,0))/\
      ∃X G,BkW wr (V2.heap.size+3) G (.slice oa bs.length oc) vs X bs.length (fun k=>(bs.getD k []).length) (lE bs Z J i sm j)/\(∀b o z,G0 b o=some z->G b o=some z)/\(∀b o z,G b o=some z->G0 b o=some z\/w.heap.size<=b)/\
       ∀o,G w.heap.size o=none/\G (w.heap.size+1) o=none/\G W3.heap.size o=none) (fun v _=>2-(intOf v).toNat)
     case atStart=>
      have u1:iU w a0 bs.length cap u W3:=hF.mv o5;have q7:=u1.mv ((Below.refl _ W3).alloc (aM _) (.cells #[.slice oa bs.length oc,.int .i64 u] 86));refine⟨0,by decide,rfl,q7,by simp,aln _ _,X0,h8, ?_,g6,(fun b o z h=>(d8 b o z h).elim .inl fun h=> .inr (by omega)),fun o=> ?_⟩
      ·have hm:=e5.mv2 (w':=W3.alloc (.cells #[.slice oa bs.length oc,.int .i64 u] 86)) (fun b hb=>alo _ _ (k9 b hb).2) (fun k b hk hb=>alo _ _ (e2 k b hk hb).2) (fun b hb _=>alo _ _ hb)
       have e:lE bs Z J i sm 0=fun k q=>(bs.getD k []).getD q []:=by
        funext k q
        unfold lE;rw[if_neg (fun h=>absurd h.1 (ec _))]
       rw[e];exact hm
      ·have hn:∀b,w.heap.size<=b->b<V2.heap.size->h8 b o=none:=fun b h1 h2=>by
        cases hx:h8 b o with
        |none=>rfl
        |some z=>
         rcases d8 b o z hx with h|h
         ·have:=cx (a6 _ _ _ h);omega
         ·omega
       refine⟨hn _ (aM _) (by omega),hn _ (by omega) (by omega), ?_⟩;cases hx:h8 W3.heap.size o with
       |none=>rfl
       |some z=>exact absurd (cx (e5.per _ _ _ hx)) (Nat.lt_irrefl _)
     case round=>
      clear d4 c0 c1 f0 f1 z0 z1 hF j6 g7 e5 g6 d8;obtain⟨j,hj,rfl,hF,l7,hO,X,GA,hB,c7,f5,b5⟩:=hrel;obtain⟨d4,c0,c1,f0,f1,z0,z1⟩:=hF.get;have o0:wr.cell? ⟨W3.heap.size,0,none⟩=some (.slice oa bs.length oc):=by rw[World.cell?];simp[hO]
      have o1:wr.cell? ⟨W3.heap.size,1,none⟩=some (.int .i64 u):=by rw[World.cell?];simp[hO]
      by_cases b0:j<2
      ·have F:=e9 j wr b0 d4
       cases haj:J j with
       |false=>
        rw[haj]at F
        go_wp2_with (go_at_call 306;refine F.mono ?_;rintro e Q ⟨rfl,H⟩)
        have e:lE bs Z J i sm (j+1)=lE bs Z J i sm j:=by
         funext k q
         unfold lE
         by_cases h:k=j
         ·subst h
          rw[if_neg (fun h=>by rw[haj]at h;cases h.2.1),if_neg (fun h=>by rw[haj]at h;cases h.2.1)]
         ·have:(k<j+1)=(k<j):=by apply propext;omega
          simp only[this]
        have m2:=H.size;refine⟨⟨j+1,by omega,by push_cast;rfl,hF.mv H,by omega,by rw[H.block _ l7];exact hO,X,GA, ?_,c7,f5,b5⟩,by simp[intOf];omega⟩;rw[e];exact hB.mv2 (fun b hb=>H.block b (hB.row.lt b hb).2) (fun k b hk hb=>H.block b ((hB.rows k hk).lt b hb).2) fun b hb _=>H.block b hb
       |true=>
        rw[haj]at F
        go_wp2_with (go_at_call 306;refine F.mono ?_;rintro e Q ⟨rfl,H⟩)
        have m2:=H.size;have e4:=hF.mv H;have p7:Q.heap[W3.heap.size]? =some (.cells #[.slice oa bs.length oc,.int .i64 u] 86 (0,0)):=by rw[H.block _ l7];exact hO
        have b4:=hB.mv2 (w':=Q) (fun b hb=>H.block b (hB.row.lt b hb).2) (fun k b hk hb=>H.block b ((hB.rows k hk).lt b hb).2) fun b hb _=>H.block b hb
        clear hB hO F d4 c0 c1 f0 f1 z0 z1 o0 o1 hF;have j7:W3.heap.size<Q.heap.size:=by omega
        clear H m2 l7;obtain⟨d7,l5⟩:=n6 j haj;obtain⟨b,off,j4,a1,n1,q8,n5,u3⟩:=UN hv d7;obtain⟨rfl,_,rfl⟩:a0=some ⟨b,off,none⟩/\True/\cap=j4:=by cases q8;exact⟨rfl,trivial,rfl⟩
        obtain⟨b2,d3,q1,va,vl,vc,w3,q0,t1⟩:=Ka u3 l5;obtain⟨rfl,_,rfl⟩:a1=some ⟨b2,d3,none⟩/\True/\n1=q1:=by cases w3;exact⟨rfl,trivial,rfl⟩
        obtain⟨ka,m,kc,p8,hm,k3⟩:=h9 j b0;have m9:0<m:=by rw[hm];exact l9 j b0 haj
        have a8:∀b o v,G0 b o=some v->Q.cell? ⟨b,o,none⟩=some v:=fun b o v h=>b4.per _ _ _ (c7 _ _ _ h)
        obtain⟨j0,o4,o8,_⟩:=qc t1 a8;obtain⟨v6,_,e7,q9⟩:=qc k3 a8;obtain⟨kb,ko,rfl⟩:=q9 m9;have e7:=e7 _ rfl;have j3:=k6.2 _ (gM bs [] j d7)
        have q6:vl<=32:=by rw[j0];exact j3.2 _ (gM _ [] i l5)
        have w6:m<=32:=by rw[hm];exact o2 _ (gM Z [] j)
        have r4:((bs.getD j []).getD i []++Z.getD j []).length<=1000:=by rw[af,<-j0,<-hm];omega
        have l0:=p9 j _ b0 r4;have p6:=b4.rows j d7;obtain⟨gj,cj,i1,x5,p0⟩:=p6.form (by omega);obtain⟨g0,cv,hv0,x7,x8⟩:=b4.row.form (by omega);obtain⟨rfl,rfl⟩:oa=some ⟨g0,0,none⟩/\oc=cv:=by cases hv0;exact⟨rfl,rfl⟩
        have j1:(vs.getD j Go.undef).ownBlock=some gj:=by rw[i1];rfl
        have n7:g0≠gj:=fun e=>b4.nev j gj d7 j1 (by rw[<-e];rfl)
        have w9:=(e2 j gj d7 j1).2
        obtain⟨b8,q2,y6⟩:∃b8,Q.heap[gj]? =some (.cells b8 23 (0,0))/\(bs.getD j []).length<=b8.size:=by
         rcases p6.2 with⟨h1,_⟩|⟨g',j4,b8,h1,_,h3,h4,_,h6,_⟩
         ·rw[i1]at h1;cases h1
         ·rw[i1]at h1;cases h1;exact⟨b8,h3,by omega⟩
        have s8:Q.cell? ⟨g0,j,none⟩=some (.slice (some ⟨gj,0,none⟩) (bs.getD j []).length cj):=by have h:=b4.row.cells (g:=g0) rfl j _ (gE vs Go.undef j (by have:=b4.row.1;omega));rw[TZ,de,i1]at h;exact h
        have f2:∀b o z,G0 b o=some z->b≠gj:=fun b o z h e=>by have:=b4.nor j gj d7 j1 o;rw[<-e,c7 _ _ _ h]at this;cases this
        have x6:∀b o z,G0 b o=some z->b<Q.heap.size:=fun b o z h=>cx (a8 _ _ _ h)
        have cX:∀C:World,(∀q,q≠gj->q<Q.heap.size->C.heap[q]? =Q.heap[q]?)->C.cell? ⟨W3.heap.size,0,none⟩=some (.slice (some ⟨g0,0,none⟩) bs.length oc)/\C.cell? ⟨g0,j,none⟩=some (.slice (some ⟨gj,0,none⟩) (bs.getD j []).length cj)/\C.cell? ⟨w.heap.size,0,none⟩=some (.slice (some ⟨b,off,none⟩) bs.length cap)/\C.cell? ⟨b,off+j,none⟩=some (.slice (some ⟨b2,d3,none⟩) (bs.getD j []).length n1)/\C.cell? ⟨b2,d3+i,none⟩=some (.slice va vl vc)/\C.cell? ⟨bd,od+j,none⟩=some (.slice (some ⟨kb,ko,none⟩) m kc):=fun C hx=>by
         have hc:∀q o z,q≠gj->Q.cell? ⟨q,o,none⟩=some z->C.cell? ⟨q,o,none⟩=some z:=fun q o z h1 h2=>by rw[World.cell?_of_block (w:=Q) (hx q h1 (cx h2))];exact h2
         exact⟨hc _ _ _ (by omega) (by rw[World.cell?];simp[p7]),hc _ _ _ n7 s8,hc _ _ _ (by omega) e4.get.2.1,hc _ _ _ (f2 _ _ _ n5) (a8 _ _ _ n5),hc _ _ _ (f2 _ _ _ q0) (a8 _ _ _ q0),hc _ _ _ (f2 _ _ _ p8) (a8 _ _ _ p8)⟩
        have l8:=xfv Q.drew va vl vc (byv ((bs.getD j []).getD i [])) o4 (by rw[yM,j0]) o8 (Ih _);have r6:Lay GA:=iC c7 hL
        have r8:∀C,Below Q.heap.size Q C->∀q z,(byv (Z.getD j []))[q]? =some z->C.cell? ((⟨kb,ko,none⟩:Addr).add q)=some z:=fun C hx q z hq=>by have h:=e7 q z hq;rw[hx.cell (World.block_lt_of_cell? Q _ h)];exact h
        have q5:(byv (Z.getD j [])).length=m*1:=by rw[yM,hm,gI]
        have u6:∀g,Q.heap.size<=g->∀o,GA g o=none:=fun g hg o=>by
         cases hx:GA g o with
         |none=>rfl
         |some z=>have:=cx (b4.per _ _ _ hx);omega
        have u5:∀C,Below Q.heap.size Q C->∀b o z,GA b o=some z->C.cell? ⟨b,o,none⟩=some z:=fun C hx b o z h=>by have h:=b4.per _ _ _ h;rw[hx.cell (p:=⟨b,o,none⟩) (cx h)];exact h
        have s3:∀C,Below Q.heap.size Q C->C.cell? ⟨gj,i,none⟩=some (b8.getD i Go.undef)/\C.frozen? ⟨gj,i,none⟩=false:=fun C hx=>by
         have h:C.heap[gj]? =some (.cells b8 23 (0,0)):=by rw[hx.block gj p0];exact q2
         have s4:i<b8.size:=by omega
         refine⟨?_,by rw[World.frozen?];simp[h]⟩;rw[World.cell?];simp[h,s4]
        have hE:(Tryz.prog.info? 5).map (fun i=>(i.zero,i.size,i.bytes))=some (some (.int .u8 0),1,1):=by kernel_rfl
        obtain⟨ti,w2,j5⟩:=aj.1 hE;simp only[bA.injEq]at j5;obtain⟨q4,r9,v7⟩:=j5;have q3:Tryz.prog.underlying 23=some (.slice 5):=by kernel_rfl
        have o3:=l5;have u2:Below Q.heap.size Q Q.drew:=(Below.refl _ Q).drew;have x9:(j:Int)<(bs.length:Int):=by omega
        have w8:(i:Int)<((bs.getD j []).length:Int):=by omega
        have y4:(0:Int)<=(j:Int):=by omega
        generalize s9:(bs.getD j []).getD i []=Bj at*;generalize u4:Z.getD j []=Dj at*;generalize r7:(bs.getD j []).length=Nj at*;clear h9 o2 u0 k6 j3 j0 hm v6
        go_region_held3 (fun C=>C.cell? ⟨W3.heap.size,0,none⟩=some (.slice (some ⟨g0,0,none⟩) bs.length oc)/\C.cell? ⟨g0,j,none⟩=some (.slice (some ⟨gj,0,none⟩) Nj cj)/\C.cell? ⟨w.heap.size,0,none⟩=some (.slice (some ⟨b,off,none⟩) bs.length cap)/\C.cell? ⟨b,off+j,none⟩=some (.slice (some ⟨b2,d3,none⟩) Nj n1)/\C.cell? ⟨b2,d3+i,none⟩=some (.slice va vl vc)/\C.cell? ⟨bd,od+j,none⟩=some (.slice (some ⟨kb,ko,none⟩) m kc)) (first|exact cX _ (fun q _ h=>u2.block q h)|exact cX _ (fun q _ h=>g2.block q h)|exact cX _ (fun q _ h=>g9.block q h)|exact cX _ (fun q _ h=>d9.block q h)|exact cX _ (fun q h1 h2=>(Go.Deep.blk_setCell_other _ _ _ _ h1).trans (d9.block q h2))) (first
         |(go_at_call 238;refine l8.mono ?_;rintro e W5 ⟨v1,rfl,g8,g5⟩;have g2:Below Q.heap.size Q W5:=⟨g8.os,g8.tape,g8.output,g8.size,g8.block⟩)
         |(refine step_append_lies _ rfl _ _ 23 rfl Q.heap.size 5 ti (.int .u8 0) 1 1 q3 w2 q4 r9 v7 rfl (by decide) v1 vl (byv Bj) rfl g5 ⟨kb,ko,none⟩ m kc (byv Dj) rfl q5 (r8 W5 g2) (Ih _) m9 (by unfold maxLen;omega) (by omega) g2.size _ rfl ?_;intro g y2 W7 d6 m5 y3 w7;have g9:Below Q.heap.size Q W7:=g2.grown m5 g2.size (fun k hk=>(g5.lt k hk).1);have o6:=(d6.lt g rfl).1;rw[TN]at d6)
         |(go_at_call 205;refine(xiP l0 (u5 W7 g9) r6 d6 (u6 g o6)).mono ?_;rintro e W8 ⟨v8,G8,rfl,m7,r3,l4,j8,m6⟩;obtain⟨na,nc,rfl⟩:=M9 m7;have d9:Below Q.heap.size Q W8:=g9.trans (r3.mono g9.size);obtain⟨e8,f8⟩:=s3 W8 d9))
        have l1:∀q,q≠gj->q<Q.heap.size->(W8.setCell ⟨gj,i,none⟩ (.slice na (sm j (Bj++Dj)).length nc)).heap[q]? =Q.heap[q]? :=fun q h1 h2=>(Go.Deep.blk_setCell_other _ _ _ _ h1).trans (d9.block q h2)
        have f4:∀b o z,G8 b o=some z->GA b o=some z\/Q.heap.size<=b:=fun b o z h=>by
         rcases m6 b o z h with h|h|h
         ·exact .inl h
         ·subst h;exact .inr o6
         ·have:=g9.size;exact .inr (by omega)
        have n9:=b4.set d9 j8 f4 l4 d7 (by rw[r7];exact o3) j1 m7;have s6:=e4.k1;have p4:=e4.k2;have y5:=d9.size;have w5:=e4.sz;have r5:=e4.bel.size
        have k5:∀q,q<Q.heap.size->(∀o,GA q o=none)->∀o,G8 q o=none:=fun q h1 h2 o=>by
         cases hx:G8 q o with
         |none=>rfl
         |some z=>
          rcases f4 q o z hx with h|h
          ·rw[h2 o]at h;cases h
          ·omega
        go_wp2
        go_roundw
        case rel=>
         refine⟨j+1,by omega,by push_cast;rfl,⟨(e4.bel.trans (d9.mono r5)).setCell (p:=⟨gj,i,none⟩) (by show _<=gj;omega) _,by rw[Go.Deep.nblk_setCell];omega,by rw[l1 _ (by omega) (by omega)];exact s6,by rw[l1 _ (by omega) (by omega)];exact p4⟩,by rw[Go.Deep.nblk_setCell];omega,by rw[l1 _ (by omega) j7];exact p7,X.set j ((X.getD j []).set i (.slice na (sm j (Bj++Dj)).length nc)),G8, ?_,(fun b o z h=>j8 _ _ _ (c7 _ _ _ h)),(fun b o z h=>(f4 b o z h).elim (f5 b o z) fun h=> .inr (by omega)),fun o=>⟨k5 _ (by omega) (fun o=>(b5 o).1) o,k5 _ (by omega) (fun o=>(b5 o).2.1) o,k5 _ j7 (fun o=>(b5 o).2.2) o⟩⟩
         have e:lE bs Z J i sm (j+1)=fun k q=>if k=j/\q=i then sm j (Bj++Dj)else lE bs Z J i sm j k q:=by
          funext k q
          unfold lE
          by_cases h:k=j
          ·subst h
           by_cases h2:q=i
           ·subst h2
            rw[if_pos ⟨jR _,haj,rfl⟩,if_pos ⟨rfl,rfl⟩,s9,u4]
           ·rw[if_neg (fun h=>h2 h.2.2),if_neg (fun h=>h2 h.2),if_neg (fun h=>h2 h.2.2)]
          ·have:(k<j+1)=(k<j):=by apply propext;omega
           simp only[this,h,false_and,if_false]
         rw[e];exact n9
        case measure=>simp[intOf];omega
      ·have e3:(j:Int)=2:=by omega
       have ej:j=2:=by omega
       rw[e3];have y0:wr.frozen? ⟨W3.heap.size,1,none⟩=false:=by rw[World.frozen?];simp[hO]
       have k4:∀x y z q,q≠W3.heap.size->q≠w.heap.size+1->(((wr.setCell ⟨W3.heap.size,1,none⟩ x).setCell ⟨w.heap.size+1,0,none⟩ y).setCell ⟨w.heap.size+1,1,none⟩ z).heap[q]? =wr.heap[q]? :=fun x y z q h1 h2=>by rw[Go.Deep.blk_setCell_other _ _ _ _ h2,Go.Deep.blk_setCell_other _ _ _ _ h2,Go.Deep.blk_setCell_other _ _ _ _ h1]
       have hh:∀x,(wr.setCell ⟨W3.heap.size,1,none⟩ x).heap[w.heap.size+1]? =some (.cells #[.slice none 0 0,.int .i64 0] 86 (0,0)):=fun x=>by rw[Go.Deep.blk_setCell_other _ _ _ _ (by show w.heap.size+1≠W3.heap.size;omega)];exact hF.k2
       rw[ej]at hB;have t6:=hF.bel
       go_wp2
       try simp only[Exit.inBlock,Exit.then]
       refine DT rfl rfl (g:=w.heap.size+1) (cs:= #[.slice oa bs.length oc,.int .i64 (wrap64 (u+1))]) (xfI (hh _)) rfl ⟨((t6.setCell (p:=⟨W3.heap.size,1,none⟩) (by show _<=W3.heap.size;omega) _).setCell (p:=⟨w.heap.size+1,0,none⟩) (by show _<=w.heap.size+1;omega) _).setCell (p:=⟨w.heap.size+1,1,none⟩) (by show _<=w.heap.size+1;omega) _,.inr (.inr ⟨j9,m0,.slice oa bs.length oc,vs,X,GA,V2.heap.size+3,rfl,by omega,f5,hB.mv2 (fun b hb=>k4 _ _ _ b (by have:=k9 b hb;omega) (by have:=k9 b hb;omega)) (fun k b hk hb=>k4 _ _ _ b (by have:=e2 k b hk hb;omega) (by have:=e2 k b hk hb;omega)) fun b _ h2=>k4 _ _ _ b ?_ ?_⟩)⟩
       ·rintro rfl
        obtain⟨o,z,hz⟩:=h2;rw[(b5 o).2.2]at hz;cases hz
       ·rintro rfl
        obtain⟨o,z,hz⟩:=h2;rw[(b5 o).2.1]at hz;cases hz
end
theorem l74(v:Int):∀(k:Nat)(y:t8),k<=8->y.length+k<=100000000000000->
 run T (.loop JN) ⟨[(2,iV v),(7,.byt y (.id 107)),(8,iV ((k:Int)-1))],[],[107]⟩=
 some (.x 0,⟨[(7,.byt (y++be k (az.wrap v)) (.id 107))],[],[107]⟩):=by
 intro k;induction k with
 |zero=>
  intro y I h;rw[ab];have F:¬(0:Int)<=((0:Nat):Int)-1:=by omega
  simp only[go_sem,simprocAttr,be,bO]
 |succ k K=>
  intro y I h;have z:=K (y++ [qA (az.wrap v) (8*k)]) (by omega) (by rw[af,aT];omega);have c1:y.length+1<=140737488355328:=by omega
  have F:(0:Int)<=((k+1:Nat):Int)-1:=by omega
  have J:az.wrap (((k+1:Nat):Int)-1)=(k:Int):=by rw[dx];omega
  have C:az.wrap (8*(k:Int))=((8*k:Nat):Int):=by rw[dx];omega
  have hs:ah.wrap (((k+1:Nat):Int)-1-1)=(k:Int)-1:=by rw[w64];omega
  have H:min (8*k) 64=8*k:=by omega
  rw[aI,CD]at z;rw[ab];unfold qA at z;simp only[go_sem,simprocAttr,c1,F,J,C,hs,H,be,qA,z]
theorem f74(B:t8)(k:Nat)(v:Int)(h1:1<=k:=by omega)(y:k<=8:=by omega)(z:B.length<=10000000000000:=by omega):
 call T 74 [bN B,iV k,iV v] [] 0=some ⟨.byt (B++be k (az.wrap v)) (.id 60),[],[60]⟩:=by
 have g:=l74 v k B y (by omega);have c1:¬(k:Int)<1:=by omega
 have c2:¬(8:Int)<k:=by omega
 have c3:ah.wrap ((k:Int)-1)=(k:Int)-1:=w64;have c4:B.length<=140737488355328:=by omega
 rw[ccT 74];simp only[go_sem,simprocAttr,c1,c2,c3,c4,g]
def fd(B X:t8):t8:=B++be 2 (az.wrap (X.take 65535).length)++X.take 65535
theorem og(B X:t8)(C:B.length<=1000000000000:=by omega)(F:X.length<=1000000000000:=by omega):call T 112 [bN B,bN X] [] 0=some ⟨.byt (fd B X) (.id 60),[],[60]⟩:=by
 have g:=f74 B 2 (X.take 65535).length;rw[c2]at g;rw[ccT 112];have z:(X.take 65535).length<=65535:=by rw[aw];omega
 have c4:(B++be 2 (az.wrap (X.take 65535).length)).length+(X.take 65535).length<=140737488355328:=by rw[af,jO];omega
 by_cases h:(65535:Int)<X.length
 ·have h3:(65535:Int)<=X.length:=by omega
  have h4:65535<=X.length:=by omega
  simp only[af]at c4;simp only[go_sem,simprocAttr,h,h3,g,fd,c4,aI]
 ·have y:X.take 65535=X:=bp (by omega)
  rw[y]at g c4;simp only[af]at c4;simp only[go_sem,simprocAttr,h,g,fd,y,c4,aI]
def frame(t:Int)(X:t8):t8:=aO t::(w4 (X.length:Int)++X)
theorem xib(t:Int)(X:t8)(F:X.length<=1000000000):call T 206 [iV t,.lst 1 [[bN X]] .no] [] 0=okV (bN (frame t X)):=by
 have k1:ah.wrap 1=1:=rfl;have c4:1+4+X.length<=140737488355328:=by omega
 have c5:5+X.length<=140737488355328:=by omega
 have y:min 24 64=24:=rfl;have z:min 16 64=16:=rfl;have C:min 8 64=8:=rfl;rw[ccT 206];simp only[go_sem,simprocAttr,ai,al];rw[ab];simp only[go_sem,simprocAttr,ai,al,c1,k1,y,z,C,c4];rw[ab];simp only[go_sem,simprocAttr,ai,al,c1,frame,w4,qA]
theorem Jn(t:Int)(X:t8):(frame t X).length=X.length+5:=by simp[frame,w4]
def lJ(t:Int)(X:t8):t8:=sha (frame t X)
theorem YZ(t:Int)(X:t8)(z:X.length<=1000000000:=by omega):call T 133 [iV t,.lst 1 [[bN X]] .no] [] 0=okV (bN (lJ t X)):=by have g1:=xib t X z;have y:=yH (frame t X) (by rw[Jn];omega);rw[ccT 133];simp only[go_sem,simprocAttr,g1,y,lJ]
theorem ws5(a b c d e:Int):ws [a,b,c,d,e]=[[.int .u32 a],[.int .u32 b],[.int .u32 c],[.int .u32 d],[.int .u32 e]]:=rfl
theorem xan(l:List Int)(h:l.length=5):∃a b c d e,l=[a,b,c,d,e]:=by
 match l,h with
 |[a,b,c,d,e],_=>exact⟨a,b,c,d,e,rfl⟩
theorem xau(X:t8)(a:Nat)(h:f9)(Z:a+64<=X.length)(hX:X.length<=1000000000000):∀(n t:Nat)(L:List Int),80-t=n->t<=80->L.length=80->∃M:List Int,M.length=80/\
 run T (.loop rU) ⟨[(3,.lst 1 h .clip),(4,bN X),(5,iV a),(6,.ptr 106 0),(7,iV t)],[(106,.arr 1 (ws L))],[]⟩=
 some (.x 2,⟨[(3,.lst 1 h .clip),(4,bN X),(5,iV a),(6,.ptr 106 0)],[(106,.arr 1 (ws M))],[]⟩):=by
 intro n;induction n with
 |zero=>
  intro t L h0 h1 C;have hi:t=80:=by omega
  subst hi;refine⟨L,C, ?_⟩;rw[ab];simp only[c80,go_sem,cJ,aX,aJ,aW,reduceIte]
 |succ n ih=>
  intro t L h0 h1 C;have e1:=bJ t;have F:(t:Int)<80:=by omega
  have hw:=kv L;have hn:t<80:=by omega
  have a1:ah.wrap ((a:Int)+64)=((a+64:Nat):Int):=by rw[w64];omega
  have a3:a<=a+64:=by omega
  rw[ab]
  by_cases h16:t<16
  ·obtain⟨z,g⟩:=f169 (bk X a) t (by rw[zX X a Z];omega) (by rw[zX X a Z];omega)
   have y:(t:Int)<16:=by omega
   unfold bk at g;simp only[go_sem,aX,aJ,aW,reduceIte,F,y,e1,a1,Z,a3,g,C,hw,hn,yP];exact ih (t+1) _ (by omega) (by omega) (by rw[bM,C])
  ·have y:¬(t:Int)<16:=by omega
   have a3:ah.wrap ((t:Int)-3)=((t-3:Nat):Int):=by rw[w64];omega
   have a8:ah.wrap ((t:Int)-8)=((t-8:Nat):Int):=by rw[w64];omega
   have Q:ah.wrap ((t:Int)-14)=((t-14:Nat):Int):=by rw[w64];omega
   have a6:ah.wrap ((t:Int)-16)=((t-16:Nat):Int):=by rw[w64];omega
   have b3:t-3<80:=by omega
   have b8:t-8<80:=by omega
   have H:t-14<80:=by omega
   have I:t-16<80:=by omega
   have d3:=jc L (t-3);have d8:=jc L (t-8);have J:=jc L (t-14);have K:=jc L (t-16);simp only[go_sem,fK,fM,fL,aX,aJ,aW,reduceCtorEq,reduceIte,F,y,e1,C,hw,hn,a3,a8,Q,a6,b3,b8,H,I,d3,d8,J,K,cE,xeD,yP];exact ih (t+1) _ (by omega) (by omega) (by rw[bM,C])
theorem xat(W:List Int)(X Y:SV)(h:f9)(H:W.length=80):∀(n t:Nat)(a b c d e:Int),80-t=n->t<=80->∃p q r s u,
 run T (.loop rT) ⟨[(3,.lst 1 h .clip),(4,X),(5,Y),(6,.ptr 106 0),(8,.int .u32 a),(9,.int .u32 b),(10,.int .u32 c),(11,.int .u32 d),(12,.int .u32 e),(13,iV t)],[(106,.arr 1 (ws W))],[]⟩=some (.x 4,⟨[(3,.lst 1 h .clip),(4,X),(5,Y),(8,.int .u32 p),(9,.int .u32 q),(10,.int .u32 r),(11,.int .u32 s),(12,.int .u32 u)],[(106,.arr 1 (ws W))],[]⟩):=by
 intro n;induction n with
 |zero=>
  intro t a b c d e h0 h1;have hi:t=80:=by omega
  subst hi;refine⟨a,b,c,d,e, ?_⟩;rw[ab];simp only[c80,go_sem,simprocAttr]
 |succ n K=>
  intro t a b c d e h0 h1;have I:=bJ t;have y:(t:Int)<80:=by omega
  have z:=kv W;have F:t<80:=by omega
  have C:=jc W t;rw[ab]
  by_cases J:(t:Int)<20<;>by_cases p1:(t:Int)<40<;>by_cases p2:(t:Int)<60<;>first
   |omega
   |
    simp only[go_sem,Int.reduceNeg,fK,fM,fL,aX,aJ,aW,reduceCtorEq,reduceIte,y,I,z,H,F,J,p1,p2,C,cE,xeD];exact K (t+1) _ _ _ _ _ (by omega) (by omega)
theorem xgx(X:t8)(H:X.length<=1000000000000):∀(n a:Nat)(h:List Int),h.length=5->X.length=a+64*n->∃k:List Int,k.length=5/\
 run T (.loop rS) ⟨[(3,.lst 1 (ws h) .clip),(4,bN X),(5,iV a)],[],[]⟩=
 some (.x 0,⟨[(3,.lst 1 (ws k) .clip)],[],[]⟩):=by
 intro n;induction n with
 |zero=>
  intro a h y F;refine⟨h,y, ?_⟩;rw[ab];have h0:¬(a:Int)<X.length:=by omega
  simp only[go_sem,aX,aJ,aW,reduceIte,h0]
 |succ n K=>
  intro a h y F;have h0:(a:Int)<X.length:=by omega
  have J:ah.wrap ((a:Int)+64)=((a+64:Nat):Int):=by rw[w64];omega
  obtain⟨a0,C,a2,a3,a4,rfl⟩:=xan h y;obtain⟨W,I,g1⟩:=xau X a (ws [a0,C,a2,a3,a4]) (by omega) H _ 0 (aB 80 0) rfl (by omega) (by rw[cC]);obtain⟨s0,s1,s2,Z,Q,z⟩:=xat W (bN X) (iV a) (ws [a0,C,a2,a3,a4]) I _ 0 a0 C a2 a3 a4 rfl (by omega);rw[<-Ms]at g1;simp only[ak]at g1 z;rw[ab];simp only[ws5]at g1 z ⊢;simp only[go_sem,ci,cE,cJ,fK,fM,fL,bt,aX,aJ,aW,reduceCtorEq,reduceIte,h0,J,g1,z,ai,al,c5];rw[<-ws5];exact K (a+64) _ rfl (by omega)
theorem f268(B:t8)(H:B.length<=100000000000):∃R:t8,R.length=20/\call T 268 [bN B] [] 0=okV (bN R):=by
 have g0:=xe5 B;have F:=tM B;have I:zn (B.length+1)<64:=by unfold zn;omega
 have C:=AM B;obtain⟨b,z,g3⟩:=xgx (BW B) (by omega) ((BW B).length/64) 0 [1732584193,4023233417,2562383102,271733878,3285377520] rfl (by omega);have y:=f171 b;refine⟨sp b,by rw[My,z], ?_⟩;rw[ws5]at g3;simp only[ak]at g3;rw[ccT 268];simp only[go_sem,simprocAttr,g0,y,g3]
def yh(B:t8):t8:=if h:B.length<=100000000000 then(f268 B h).choose else aB 20 0
theorem Ay(B:t8):(yh B).length=20:=by
 unfold yh;split
 ·exact(f268 B (by assumption)).choose_spec.1
 ·rfl
theorem J9(B:t8)(y:B.length<=100000000000:=by omega):call T 205 [iV 0,bN B] [] 0=okV (bN (yh B)):=by
 have g:=(f268 B y).choose_spec.2;have e:(f268 B y).choose=yh B:=by unfold yh;rw[dif_pos y]
 rw[e]at g;rw[ccT 205];simp only[go_sem,simprocAttr,g]
attribute [irreducible] yh
theorem J8(B:t8)(y:B.length<=100000000000:=by omega):call T 205 [iV 1,bN B] [] 0=okV (bN (sha B)):=by have g:=yH B y;rw[ccT 205];simp only[go_sem,simprocAttr,g]
def frF(y:List t8):t8:=y.flatMap fun X=>w4 (X.length:Int)++X
def frL(t:Int)(y:List t8):t8:=aO t::frF y
def hsh(t:Int)(y:List t8):t8:=sha (frL t y)
theorem S7(t:Int)(X:t8):frL t [X]=frame t X:=by simp[frL,frF,frame]
theorem S2(t:Int)(X:t8):hsh t [X]=lJ t X:=by rw[hsh,S7];rfl
theorem jn(t:Int)(y:List t8):(hsh t y).length=32:=fC _
def h16(t:Int)(y:List t8):t8:=(hsh t y).take 16
theorem gk(t:Int)(y:List t8):(h16 t y).length=16:=by rw[h16,aw,jn];rfl
def px(c:UInt8)(key:t8):t8:=(bQ 64).map fun i=>key.getD i 0^^^c
def Kh(key b:t8):t8:=sha (px 92 key++sha (px 54 key++b))
def yI(key y z:t8)(n:Nat):t8:=(Kh key (w4 1++(y++0::(z++w4 (8*(n:Int)))))).take n
theorem oL(key b:t8):(Kh key b).length=32:=fC _
theorem kK(key y z:t8)(n:Nat)(h:n<=32):(yI key y z n).length=n:=by rw[yI,aw,oL];omega
def hi4(b:UInt8):Nat:=b.toNat/16
def lo4(b:UInt8):Nat:=b.toNat % 16
def dg(l:t8):LAb:=l.flatMap fun b=> [hi4 b,lo4 b]
def sm(l:t8):Nat:=l.foldl (fun s b=>s+((15-hi4 b)+(15-lo4 b))) 0
def uO(y:t8):LAb:=dg (h16 4 [y])++ [sm (h16 4 [y])/256,sm (h16 4 [y])/16 % 16,sm (h16 4 [y]) % 16]
theorem M5(l:t8):(dg l).length=2*l.length:=by
 induction l with
 |nil=>rfl
 |cons b r y=>simp only[dg,cA,af,ai,al]at*;omega
theorem xbm(l:t8):∀d∈dg l,d<=15:=by intro d y;simp only[dg,List.mem_flatMap]at y;obtain⟨b,_,z⟩:=y;have:=b.toNat_lt;simp only[aq,cY,or_false]at z;rcases z with rfl|rfl<;>simp only[hi4,lo4]<;>omega
theorem T7(l:t8)(s:Nat):l.foldl (fun s b=>s+((15-hi4 b)+(15-lo4 b))) s<=s+30*l.length:=by
 induction l generalizing s with
 |nil=>simp
 |cons b r y=>rw[kf,ai];have:=y (s+((15-hi4 b)+(15-lo4 b)));omega
theorem ud(y:t8):(uO y).length=35:=by rw[uO,af,M5,gk];rfl
theorem TC(y:t8):∀d∈uO y,d<=15:=by
 intro d z;rcases am.1 z with h|h
 ·exact xbm _ d h
 ·have h1:=T7 (h16 4 [y]) 0
  rw[gk]at h1;have h2:sm (h16 4 [y])<=480:=by unfold sm;omega
  simp only[aq,cY,or_false]at h;rcases h with rfl|rfl|rfl<;>omega
theorem Bc(y:t8)(c:Nat)(z:c<35):(uO y).getD c 0<=15:=by refine TC y _ ?_;rw[aa,ac (by rw[ud];exact z),bn];exact aF _
def ub(n:Nat):UInt8:=aO (n:Int)
def Qw(y c p:Nat)(x:t8):t8:=h16 1 [[ub y,ub c,ub p],x]
def rf(y c:Nat):Nat->Nat->t8->t8
 |_,0,x=>x
 |p,n+1,x=>rf y c (p+1) n (Qw y c p x)
theorem ky(y c:Nat):∀(n p:Nat)(x:t8),x.length=16->(rf y c p n x).length=16
 |0,_,_,h=>h
 |n+1,p,x,_=>ky y c n (p+1) _ (gk _ _)
def zT:t8:=[99,104,97,105,110]
def rh(y:t8)(z c:Nat):t8:=yI y zT [ub z,ub c] 16
theorem kz(y:t8)(z c:Nat):(rh y z c).length=16:=kK _ _ _ _ (by decide)
def cat(n:Nat)(f:Nat->t8):t8:=(bQ n).flatMap f
theorem Mg(n:Nat)(f:Nat->t8):cat (n+1) f=cat n f++f n:=by simp[cat,List.range_succ]
theorem yK(f:Nat->t8):∀n,(∀c,c<n->(f c).length=16)->(cat n f).length=16*n
 |0,_=>rfl
 |n+1,h=>by rw[Mg,af,yK f n (fun c y=>h c (by omega)),h n (by omega)];omega
def Ke(z:Nat)(y:t8):t8:=h16 2 [[ub z],y]
def pubL(z:t8)(y:Nat):t8:=Ke y (cat 35 fun c=>rf y c 0 15 (rh z y c))
def BL(z:t8)(y:Nat)(C:t8):t8:=cat 35 fun c=>rf y c 0 ((uO C).getD c 0) (rh z y c)
theorem fp(y:t8)(z:Nat):(pubL y z).length=16:=gk _ _
theorem oz(y:t8)(z:Nat)(C:t8):(BL y z C).length=560:=yK _ 35 fun c _=>ky _ _ _ _ _ (kz _ _ _)
def yE(h i:Nat)(a b:t8):t8:=h16 3 [[ub h,ub i],a,b]
def T9:t8:=[115,105,103,110,101,114]
def lsV(z:t8)(y:Nat):t8:=yI z T9 [ub y] 32
theorem np(z:t8)(y:Nat):(lsV z y).length=32:=kK _ _ _ _ (by decide)
def lvs(z:t8)(y n:Nat):List t8:=(bQ n).map fun i=>pubL (lsV z y) i
def Q2:List t8->t8
 |[a,b]=>yE 0 0 a b
 |[a]=>a
 |_=> []
def AJ(z:t8)(y:Nat):t8:=ub y::Q2 (lvs z y (2^y))
def Yd(i:Nat):List t8->t8
 |[a,b]=>if i=0 then b else a
 |_=> []
def yg(C:t8)(y z:Nat)(F:t8):t8:=ub z::(BL (lsV C y) z F++Yd z (lvs C y (2^y)))
theorem ii{α:Type}[Inhabited α](l:List α)(i:Nat)(h:i<l.length):l.drop i=l.getD i default::l.drop (i+1):=by rw[bD h,aa,ac h];rfl
theorem l69(L:List bj)(l:List bS)(m:Int)(I:l.length<=1000000000):∀(n i:Nat),l.length-i=n->i<=l.length->
 run T (.loop JP) ⟨[(1,iV m),(2,.ptr 102 0),(5,iV i)],[(102,.rc [.lst 3 (L.map bj.sv) .no,.lst 3 (l.map bS.sv) .no])],[]⟩=
  if((l.drop i).map bS.m).contains m=true then some (.r,⟨[(4,.bool true)],[(102,.rc [.lst 3 (L.map bj.sv) .no,.lst 3 (l.map bS.sv) .no])],[]⟩)
  else some (.x 0,⟨[],[(102,.rc [.lst 3 (L.map bj.sv) .no,.lst 3 (l.map bS.sv) .no])],[]⟩):=by
 intro n;induction n with
 |zero=>
  intro i h0 h1;have hi:i=l.length:=by omega
  subst hi;rw[ab];simp only[go_sem,simprocAttr,bx]
 |succ n F=>
  intro i h0 h1;have hi:i<l.length:=by omega
  rw[ab,ii l i hi];have H:=eG bS.sv l i hi;have C:=bJ i;simp only[go_sem,simprocAttr,hi,H,bS.sv,C,F (i+1) (by omega) (by omega)]
  by_cases z:(l.getD i default).m=m
  ·simp only[z,go_sem,simprocAttr]
  ·have y:(m==(l.getD i default).m)=false:=by simpa using Ne.symm z
   simp only[z,y,go_sem,simprocAttr]
theorem f69(l:Ls)(m:Int)(C:l.hs.length<=1000000000:=by omega):call T 69 [l.sv,iV m] [] 0=okV (.bool ((l.hs.map bS.m).contains m)):=by
 have h:=l69 l.ls l.hs m C _ 0 rfl (by omega);rw[ccT 69];simp only[go_sem,simprocAttr,Ls.sv,iB,iE];simp only[ak,bw]at h;rw[h]
 by_cases z:(l.hs.map bS.m).contains m=true
 ·simp only[z,go_sem,simprocAttr]
 ·have y:(l.hs.map bS.m).contains m=false:=by simpa using z
  simp only[y,go_sem,simprocAttr]
def dv(l:List bj)(m:Int):Option bj:=l.find? fun x=>decide (x.m=m)
theorem l67(l:List bj)(H:List bS)(m:Int)(I:l.length<=1000000000):∀(n i:Nat),l.length-i=n->i<=l.length->
 run T (.loop JQ) ⟨[(1,iV m),(2,.ptr 102 0),(4,.ptr 104 0),(6,iV i)],[(102,.rc [.lst 3 (l.map bj.sv) .no,.lst 3 (H.map bS.sv) .no]),(104,.rc [iV 0,iV 0,.lst 1 [] .clip])],[]⟩=
  match dv (l.drop i) m with
  |some x=>some (.r,⟨[(4,.ptr 104 0),(5,.bool true)],[(102,.rc [.lst 3 (l.map bj.sv) .no,.lst 3 (H.map bS.sv) .no]),(104,.rc [iV x.m,iV x.u,.lst 1 (x.g.map pJ) .no])],[]⟩)
  |none=>some (.x 0,⟨[(4,.ptr 104 0)],[(102,.rc [.lst 3 (l.map bj.sv) .no,.lst 3 (H.map bS.sv) .no]),(104,.rc [iV 0,iV 0,.lst 1 [] .clip])],[]⟩):=by
 intro n;induction n with
 |zero=>
  intro i h0 h1;have hi:i=l.length:=by omega
  subst hi;rw[ab];simp only[go_sem,simprocAttr,bx,dv,List.find?_nil]
 |succ n C=>
  intro i h0 h1;have hi:i<l.length:=by omega
  rw[ab,ii l i hi];have F:=eG bj.sv l i hi;have z:=bJ i;simp only[go_sem,simprocAttr,hi,F,bj.sv,gZ,z,C (i+1) (by omega) (by omega),dv,Bl]
  by_cases y:(l.getD i default).m=m
  ·simp only[y,go_sem,simprocAttr]
  ·simp only[y,go_sem,simprocAttr]
theorem f67(l:Ls)(m:Int)(y:l.ls.length<=1000000000:=by omega):call T 67 [l.sv,iV m] [] 0=okV (.tup [.agg ((dv l.ls m).getD default).sv,.bool (dv l.ls m).isSome]):=by
 have h:=l67 l.ls l.hs m y _ 0 rfl (by omega);rw[ccT 67];simp only[go_sem,simprocAttr,Ls.sv,iB,iE];simp only[ak,bw]at h;rw[h];cases dv l.ls m with
 |none=>simp only[go_sem,simprocAttr,bj.sv,gZ];rfl
 |some x=>simp only[go_sem,simprocAttr,bj.sv,gZ]
theorem xgP(l:List bj)(m:Int)(K:l.length<=1000000000):∀(n i:Nat)(y:List bj),l.length-i=n->i<=l.length->y.length<=i->
 run T (.loop zu) ⟨[(0,.lst 3 (l.map bj.sv) .no),(1,iV m),(5,.lst 3 (y.map bj.sv) (.id 105)),(6,iV i)],[],[105]⟩=
  some (.x 0,⟨[(5,.lst 3 ((y++(l.drop i).filter fun x=>decide (x.m≠m)).map bj.sv) (.id 105))],[],[105]⟩):=by
 intro n;induction n with
 |zero=>
  intro i y h0 h1 H;have hi:i=l.length:=by omega
  subst hi;rw[ab];simp only[go_sem,simprocAttr,bx,List.filter_nil]
 |succ n z=>
  intro i y h0 h1 H;have hi:i<l.length:=by omega
  rw[ab,ii l i hi];have J:=eG bj.sv l i hi;have F:=bJ i;have I:(y.length+1)*40<=140737488355328:=by omega
  simp only[go_sem,simprocAttr,hi,J,bj.sv,gZ,F,I,fb]
  by_cases C:(l.getD i default).m=m
  ·have h:=z (i+1) y (by omega) (by omega) (by omega)
   simp only[b9]at h;simp only[C,go_sem,simprocAttr,h,ne_eq]
  ·have h:=z (i+1) (y++ [l.getD i default]) (by omega) (by omega) (by simp;omega)
   simp only[b9,ax,aK,bj.sv,gZ,aI,aL,aA]at h;simp only[C,go_sem,simprocAttr,h,ne_eq,ax,bj.sv,gZ]
theorem xif(l:List bj)(m:Int)(y:l.length<=1000000000):call T 194 [.lst 3 (l.map bj.sv) .no,iV m] [] 0=okV (.lst 3 ((l.filter fun x=>decide (x.m≠m)).map bj.sv) .no):=by have h:=xgP l m y _ 0 [] rfl (by omega) (by simp);rw[ccT 194];simp only[ak,bw,aK,aA]at h;simp only[go_sem,simprocAttr,h]
theorem vT(l:List t8)(i:Nat)(h:i<l.length):(l.map pJ).getD i []=[bN (l.getD i [])]:=eG pJ l i h
theorem tp(l:List t8)(i:Nat)(h:i<l.length):l.drop i=l.getD i []::l.drop (i+1):=ii l i h
def okG(g:List t8):Prop:=g.length<=1000000000/\∀b∈g,b.length<=140737488355328
theorem okG.get{g:List t8}(h:okG g)(i:Nat):(g.getD i []).length<=140737488355328:=by
 rw[aa];cases hi:g[i]? with
 |none=>simp
 |some b=>exact h.2 b (List.mem_of_getElem? hi)
def okL(l:List bj):Prop:=l.length<=1000000/\∀x∈l,okG x.g
theorem okL.get{l:List bj}(h:okL l){i:Nat}(hi:i<l.length):okG (l.getD i default).g:=by rw[aa,ac hi];exact h.2 _ (aF hi)
def iw(a b:List t8):Bool:=a.all fun x=>b.any fun y=>decide (x=y)
theorem xav(a b:List t8)(i:Nat)(hi:i<a.length)(H:okG a)(J:okG b):∀(n k:Nat)(t:Bool),b.length-k=n->k<=b.length->
 run T (.loop zi) ⟨[(0,.lst 1 (a.map pJ) .no),(1,.lst 1 (b.map pJ) .no),(5,iV i),(6,.bool t),(7,iV k)],[],[]⟩=
  some (.x 2,⟨[(0,.lst 1 (a.map pJ) .no),(1,.lst 1 (b.map pJ) .no),(5,iV i),(6,.bool (t||(b.drop k).any fun y=>decide (a.getD i []=y)))],[],[]⟩):=by
 intro n;induction n with
 |zero=>
  intro k t h0 h1;have z:k=b.length:=by omega
  subst z;rw[ab];simp only[go_sem,simprocAttr,bx,List.any_nil,Bool.or_false]
 |succ n F=>
  intro k t h0 h1;have z:k<b.length:=by omega
  have I:=J.1;rw[ab,tp b k z];have C:=bJ k;have hs:=f95 (a.getD i []) (b.getD k []) (H.get i);cases t with
  |true=>simp only[go_sem,simprocAttr,z,C,F (k+1) _ (by omega) (by omega),List.any_cons]
  |false=>simp only[go_sem,simprocAttr,hi,z,C,vT a i hi,vT b k z,hs,F (k+1) _ (by omega) (by omega),List.any_cons]
theorem xgy(a b:List t8)(F:okG a)(Q:okG b):∀(n i:Nat),a.length-i=n->i<=a.length->
 run T (.loop rV) ⟨[(0,.lst 1 (a.map pJ) .no),(1,.lst 1 (b.map pJ) .no),(5,iV i)],[],[]⟩=
  if iw (a.drop i) b=true then some (.x 0,⟨[],[],[]⟩)else some (.r,⟨[(4,.bool false)],[],[]⟩):=by
 intro n;induction n with
 |zero=>
  intro i h0 h1;have hi:i=a.length:=by omega
  subst hi;rw[ab];simp only[go_sem,simprocAttr,bx,iw]
 |succ n K=>
  intro i h0 h1;have hi:i<a.length:=by omega
  have I:=F.1;rw[ab,tp a i hi];have J:=bJ i;have h:=xav a b i hi F Q _ 0 false rfl (by omega);simp only[ak,bw,gz]at h;have z:iw (a.getD i []::a.drop (i+1)) b=((b.any fun y=>decide (a.getD i []=y))&&iw (a.drop (i+1)) b):=rfl;rw[z];simp only[go_sem,simprocAttr,hi,J,h,K (i+1) (by omega) (by omega)]
  by_cases H:(b.any fun y=>decide (a.getD i []=y))=true
  ·simp only[H,go_sem,simprocAttr]
  ·have C:(b.any fun y=>decide (a.getD i []=y))=false:=(Bool.not_eq_true _).mp H
   simp only[C,go_sem,simprocAttr]
theorem f260(a b:List t8)(F:okG a)(C:okG b):call T 260 [.lst 1 (a.map pJ) .no,.lst 1 (b.map pJ) .no] [] 0=okV (.bool (iw a b)):=by
 have h:=xgy a b F C _ 0 rfl (by omega);rw[ccT 260];simp only[ak,bw]at h;simp only[go_sem,simprocAttr,h]
 by_cases z:iw a b=true
 ·simp only[z,go_sem,simprocAttr]
 ·have y:iw a b=false:=(Bool.not_eq_true _).mp z
  simp only[y,go_sem,simprocAttr]
def nM(y:Int)(z:List t8)(x:bj):Bool:=decide (y<x.u)&&iw x.g z
theorem xgO(l:List bj)(H:List bS)(z:Int)(C:List t8)(hl:okL l)(hf:okG C):∀(n i:Nat)(y:List bj),l.length-i=n->i<=l.length->y.length<=i->
 run T (.loop zt) ⟨[(1,iV z),(2,.lst 1 (C.map pJ) .no),(3,.ptr 103 0),(6,.ptr 106 0),(7,.lst 3 (y.map bj.sv) (.id 107)),(8,iV i)],
  [(103,.rc [.lst 3 (l.map bj.sv) .no,.lst 3 (H.map bS.sv) .no]),(106,.rc [.lst 3 [] .clip,.lst 3 [] .clip])],[107]⟩=
  some (.x 0,⟨[(3,.ptr 103 0),(6,.ptr 106 0),(7,.lst 3 ((y++(l.drop i).filter (nM z C)).map bj.sv) (.id 107))],
   [(103,.rc [.lst 3 (l.map bj.sv) .no,.lst 3 (H.map bS.sv) .no]),(106,.rc [.lst 3 [] .clip,.lst 3 [] .clip])],[107]⟩):=by
 intro n;induction n with
 |zero=>
  intro i y h0 h1 ha;have hi:i=l.length:=by omega
  subst hi;rw[ab];simp only[go_sem,simprocAttr,bx,List.filter_nil]
 |succ n ih=>
  intro i y h0 h1 ha;have hi:i<l.length:=by omega
  have a1:=hl.1;rw[ab,ii l i hi];have e2:=eG bj.sv l i hi;have e3:=bJ i;have e4:(y.length+1)*40<=140737488355328:=by omega
  have hg:=hl.get hi;have hq:=f260 (l.getD i default).g C hg hf;simp only[go_sem,simprocAttr,hi,e2,bj.sv,gZ,e3,hq,fb];have F:=ih (i+1) y (by omega) (by omega) (by omega);have J:=ih (i+1) (y++ [l.getD i default]) (by omega) (by omega) (by simp;omega);simp only[b9,ax,aK,bj.sv,gZ,aI,aL,aA]at F J
  by_cases I:z<(l.getD i default).u
  ·by_cases Z:iw (l.getD i default).g C=true
   ·have K:nM z C (l.getD i default)=true:=by simp only[nM,I,Z,decide_true,Bool.and_true]
    simp only[I,Z,K,e4,go_sem,simprocAttr,J,bj.sv,gZ]
   ·have Q:iw (l.getD i default).g C=false:=(Bool.not_eq_true _).mp Z
    have K:nM z C (l.getD i default)=false:=by simp only[nM,I,Q,decide_true,Bool.and_false]
    simp only[I,Q,K,go_sem,simprocAttr,F]
  ·have K:nM z C (l.getD i default)=false:=by simp only[nM,I,decide_false,Bool.false_and]
   simp only[I,K,go_sem,simprocAttr,F]
theorem f195(l:Ls)(y:Int)(z:List t8)(F:okL l.ls)(C:okG z):call T 195 [l.sv,iV y,.lst 1 (z.map pJ) .no] [] 0=okV (Ls.mk (l.ls.filter (nM y z)) l.hs).sv:=by have h:=xgO l.ls l.hs y z F C _ 0 [] rfl (by omega) (by simp);rw[ccT 195];simp only[ak,bw,aK,aA]at h;simp only[go_sem,simprocAttr,Ls.sv,iB,iE,h]
def uU(l:List bj)(m y:Int):Bool:=has (l.map bj.m) m&&decide (y<(l.getD (lb (l.map bj.m) m) default).u)
theorem f70(l:Ls)(m C:Int)(hs:dh (l.ls.map bj.m))(H:l.ls.length<=1000000000):call T 70 [l.sv,iV m,iV C] [] 0=okV (.bool (uU l.ls m C)):=by
 have h:=xiu l m hs H;rw[ccT 70];simp only[Ls.sv,iB,iE]at h ⊢
 by_cases y:has (l.ls.map bj.m) m=true
 ·have F:lb (l.ls.map bj.m) m<l.ls.length:=by
   unfold has at y;rw[decide_eq_true_eq,av]at y;exact y.1
  simp only[y]at h;simp only[go_sem,simprocAttr,h,F,eG bj.sv _ _ F,bj.sv,gZ,uU,y]
 ·have z:has (l.ls.map bj.m) m=false:=(Bool.not_eq_true _).mp y
  simp only[z]at h;simp only[go_sem,simprocAttr,h,uU,z]
def Kn(l:List bj)(m y:Int):Bool:=(dv l m).isSome&&decide (y<((dv l m).getD default).u)
theorem f138(l:Ls)(m y:Int)(z:l.ls.length<=1000000000):call T 138 [l.sv,iV m,iV y] [] 0=okV (.bool (Kn l.ls m y)):=by
 have h:=f67 l m z;rw[ccT 138];simp only[Ls.sv,iB,iE,bj.sv,gZ]at h ⊢;cases hc:(dv l.ls m).isSome with
 |true=>simp only[hc]at h;simp only[go_sem,simprocAttr,h,Kn,hc]
 |false=>simp only[hc]at h;simp only[go_sem,simprocAttr,h,Kn,hc]
theorem UD(v:Int)(h0:0<=v:=by omega)(h1:v<4294967296:=by omega):call T 295 [iV v] [] 0=some ⟨.byt (w4 v) (.id 60),[],[60]⟩:=by have z:min 24 64=24:=rfl;have y:min 16 64=16:=rfl;have C:min 8 64=8:=rfl;rw[ccT 295];simp only[go_sem,simprocAttr,w4,qA,z,y,C]
def xr(c:UInt8)(L:t8)(i:Nat):t8:=(L.take i).map (· ^^^c)++L.drop i
theorem md(c:UInt8)(K:t8):(px c K).length=64:=by unfold px;rw[av,uj]
def mk(c:UInt8)(K:t8)(i:Nat):t8:=(px c K).take i++aB (64-i) 0
theorem HU(c:UInt8)(K:t8):mk c K 0=aB 64 0:=by simp[mk]
theorem HV(c:UInt8)(K:t8):mk c K 64=px c K:=by have:=md c K;simp[mk,bp,this]
theorem MQ(c:UInt8)(K:t8)(i:Nat)(h:i<=64):(mk c K i).length=64:=by rw[mk,af,aw,md,cC];omega
theorem Lo(c:UInt8)(K:t8)(i:Nat)(h:i<64):(px c K)[i]? =some (K.getD i 0^^^c):=by unfold px;rw[aR,cN h];rfl
theorem MP(c:UInt8)(K:t8)(i:Nat)(h:i<64):(mk c K i).set i (K.getD i 0^^^c)=mk c K (i+1):=by
 have y:((px c K).take i).length=i:=by rw[aw,md];omega
 unfold mk;rw[List.set_append_right _ _ (by rw[y];exact aM _),y,Nat.sub_self,show 64-i=(64-(i+1))+1 from by omega,List.replicate_succ,bB,List.take_add_one,Lo c K i h,aI];rfl
theorem xgt(K M:t8)(hK:K.length<=64):∀(n i:Nat),64-i=n->i<=64->
 run T (.loop rQ) ⟨[(0,bN K),(1,bN M),(5,.psl 114 1 0 64 (some 64)),(6,.psl 115 1 0 64 (some 64)),(7,iV i)],[(114,.bar (mk 54 K i)),(115,.bar (mk 92 K i))],[]⟩=
 some (.x 0,⟨[(1,bN M),(5,.psl 114 1 0 64 (some 64)),(6,.psl 115 1 0 64 (some 64))],[(114,.bar (mk 54 K 64)),(115,.bar (mk 92 K 64))],[]⟩):=by
 intro n;induction n with
 |zero=>
  intro i h0 h1;have hi:i=64:=by omega
  subst hi;rw[ab];simp only[c64,go_sem,simprocAttr]
 |succ n Q=>
  intro i h0 h1;have y:=Q (i+1) (by omega) (by omega);have H:=bJ i;have C:(i:Int)<64:=by omega
  have F:i<64:=by omega
  have I:=MQ 54 K i h1;have J:=MQ 92 K i h1;rw[<-MP 54 K i F,<-MP 92 K i F]at y;rw[ab]
  by_cases hk:i<K.length
  ·have z:(i:Int)<(K.length:Int):=by omega
   simp only[go_sem,simprocAttr,C,H,F,z,I,J,y]
  ·have z:¬(i:Int)<(K.length:Int):=by omega
   have Z:K.getD i 0=0:=by rw[aa,fI (by omega)];rfl
   rw[Z]at y;simp only[go_sem,simprocAttr,C,H,F,z,I,J,y]
theorem YN(K B:t8)(h:K.length<=64)(F:B.length<=1000000000):call T 296 [bN K,bN B] [] 0=okV (bN (Kh K B)):=by
 have g:=xgt K B h 64 0 rfl (by omega);rw[HU,HU,HV,HV]at g;simp only[ak]at g;have p1:=md 54 K;have p2:=md 92 K;have g3:=yH (px 54 K++B) (by rw[af];omega);have C:(sha (px 54 K++B)).length=32:=fC _;have g4:=yH (px 92 K++sha (px 54 K++B)) (by rw[af];omega);have y:¬(64:Int)<K.length:=by omega
 have c1:64+B.length<=140737488355328:=by omega
 have z:(px 54 K).take 64=px 54 K:=bp (by rw[p1];exact aM _);have t2:(px 92 K).take 64=px 92 K:=bp (by rw[p2];exact aM _);rw[ccT 296];simp only[go_sem,ci,cE,fK,fM,fL,bt,aX,bK,aJ,aW,reduceCtorEq,reduceIte,y,g,p1,z,c1];simp only[go_sem,bt,aX,bK,aJ,aW,reduceIte,C,g3,g4,Kh,p2,t2]
theorem f244(K y z:t8)(n:Nat)(h1:1<=n)(h2:n<=32)(hK:K.length<=64)(hl:y.length<=1000)(hc:z.length<=1000):
 call T 244 [bN K,.str y,bN z,iV n] [] 0=okV (bN (yI K y z n)):=by
 have a1:¬(n:Int)<1:=by omega
 have a2:¬(1024:Int)<n:=by omega
 have a3:0<n:=by omega
 have a4:¬32<n:=by omega
 have I:ah.wrap (8*(n:Int))=8*(n:Int):=w64;have k2:ah.wrap 2=2:=rfl;have g1:=UD (8*(n:Int));have g2:=UD 1;have g3:=YN K (w4 1++(y++0::(z++w4 (8*(n:Int))))) hK (by simp[w4];omega);have F:=oL K (w4 1++(y++0::(z++w4 (8*(n:Int)))));have C:∀x,(w4 x).length=4:=fun _=>rfl
 have c1:y.length<=140737488355327:=by omega
 have c2:y.length+1+z.length<=140737488355328:=by omega
 have c3:y.length+(z.length+1)+4<=140737488355328:=by omega
 have H:4+y.length<=140737488355328:=by omega
 have J:4+y.length<=140737488355327:=by omega
 have Z:4+(y.length+1)+z.length<=140737488355328:=by omega
 have Q:4+(y.length+(z.length+1))<=140737488355324:=by omega
 rw[ccT 244];simp only[go_sem,bt,aX,bK,aJ,aW,reduceCtorEq,reduceIte,a1,a2];rw[ab];simp only[go_sem,lm,bt,eU,aX,bK,aJ,aW,reduceCtorEq,reduceIte,a3,I,g1,g2,g3,C,H,J,Z,Q,k2];unfold yI;generalize Kh K (w4 1++(y++0::(z++w4 (8*(n:Int)))))=X at*;have c6:X.length<=140737488355328:=by omega
 simp only[F];rw[ab];simp only[go_sem,ci,cE,aX,bK,aJ,aW,reduceCtorEq,reduceIte,F,a4,h2]
theorem LX(y:List t8)(i:Nat)(h:i<y.length):frF (y.drop i)=w4 ((y.getD i []).length:Int)++(y.getD i []++frF (y.drop (i+1))):=by
 have:y.drop i=y.getD i []::y.drop (i+1):=by rw[bD h,aa,ac h,bn]
 rw[this];simp[frF]
theorem xgL(z:List t8)(hl:z.length<=100)(hb:∀i,i<z.length->(z.getD i []).length<=1000000000):∀(n i:Nat)(y:t8),z.length-i=n->i<=z.length->y.length+(frF (z.drop i)).length<=1000000000000->
 run T (.loop zq) ⟨[(1,.lst 1 (bys z) .no),(5,.byt y (.id 105)),(6,iV i)],[],[105]⟩=
 some (.x 0,⟨[(5,.byt (y++frF (z.drop i)) (.id 105))],[],[105]⟩):=by
 intro n;induction n with
 |zero=>
  intro i y h0 h1 K;have hi:i=z.length:=by omega
  have C:=eD z;subst hi;rw[ab];simp only[go_sem,aX,aJ,aW,reduceIte,C,bx,frF,ji,bO]
 |succ n ih=>
  intro i y h0 h1 K;have hi:i<z.length:=by omega
  have Q:(i:Int)<(z.length:Int):=by omega
  have e1:=bJ i;have hX:=hb i hi;have J:=ih (i+1) (y++(w4 ((z.getD i []).length:Int)++z.getD i []));rw[LX z i hi]at K ⊢;have hg:=jr z i hi;have C:=eD z;generalize hc:z.getD i []=X at*;simp only[af,w4,ai,al]at K J;have H:=J (by omega) (by omega) (by omega);have c1:y.length+4<=140737488355328:=by omega
  have c2:y.length+4+X.length<=140737488355328:=by omega
  have c3:y.length+(4+X.length)<=140737488355328:=by omega
  have I:min 24 64=24:=rfl;have F:min 16 64=16:=rfl;have Z:min 8 64=8:=rfl;simp only[aI,aL,aA,qA]at H;rw[ab];simp only[go_sem,ci,cE,bt,aX,bK,aJ,aW,reduceCtorEq,reduceIte,Q,hg,C,e1,c1,c2,I,F,Z,w4,qA,aI,H]
theorem P1(t:Int)(y:List t8)(C:y.length<=100)(z:∀i,i<y.length->(y.getD i []).length<=1000000000)(hs:(frF y).length<=100000000000:=by omega):
 call T 206 [iV t,.lst 1 (bys y) .no] [] 0=okV (bN (frL t y)):=by
 have g:=xgL y C z _ 0 [aO t] rfl (aC _) (by rw[bw,aT];omega);simp only[ak,bw,CD]at g;rw[ccT 206];simp only[go_sem,simprocAttr,g,frL]
theorem P0(t:Int)(y:List t8)(F:y.length<=100)(C:∀i,i<y.length->(y.getD i []).length<=1000000000)(hs:(frF y).length<=10000000000:=by omega):
 call T 133 [iV t,.lst 1 (bys y) .no] [] 0=okV (bN (hsh t y)):=by
 have g1:=P1 t y F C;have z:=yH (frL t y) (by unfold frL;rw[ai];omega);rw[ccT 133];simp only[go_sem,simprocAttr,g1,z,hsh]
theorem xiT(A B:t8)(z:A.length<=1000000000)(y:B.length<=1000000000):∀i,i< [A,B].length->([A,B].getD i []).length<=1000000000:=fun i hi=>by
 match i,hi with
 |0,_=>exact z
 |1,_=>exact y
theorem xfn(A B C:t8)(F:A.length<=1000000000:=by omega)(z:B.length<=1000000000:=by omega)(y:C.length<=1000000000:=by omega):∀i,i< [A,B,C].length->([A,B,C].getD i []).length<=1000000000:=fun i hi=>by
 match i,hi with
 |0,_=>exact F
 |1,_=>exact z
 |2,_=>exact y
theorem qT(x:Int):(w4 x).length=4:=rfl
theorem Za(t:Int)(A B:t8)(z:A.length<=1000000000:=by omega)(y:B.length<=1000000000:=by omega):call T 133 [iV t,.lst 1 [[bN A],[bN B]] .no] [] 0=okV (bN (hsh t [A,B])):=
 P0 t [A,B] (by simp) (xiT A B z y) (by simp only[frF,cA,ji,af,qT,al];omega)
theorem xfB(t:Int)(A B C:t8)(F:A.length<=1000000000)(y:B.length<=1000000000:=by omega)(z:C.length<=1000000000:=by omega):call T 133 [iV t,.lst 1 [[bN A],[bN B],[bN C]] .no] [] 0=okV (bN (hsh t [A,B,C])):=
 P0 t [A,B,C] (by simp) (xfn A B C F y z) (by simp only[frF,cA,ji,af,qT,al];omega)
theorem xeH(y:Nat)(x:t8)(C:x.length<=1000000):call T 293 [iV y,bN x] [] 0=okV (bN (Ke y x)):=by have g:=Za 2 [ub y] x (by simp);have z:=jn 2 [[ub y],x];unfold ub at g z;rw[ccT 293];simp only[go_sem,simprocAttr,g,z,c32,Ke,h16,ub]
theorem xeI(y:t8)(z c:Nat)(hs:y.length<=64):call T 275 [bN y,iV z,iV c] [] 0=okV (bN (rh y z c)):=by have g:=f244 y zT [ub z,ub c] 16 (by decide) (by decide) hs (by decide) (by simp);unfold zT ub at g;rw[c16]at g;rw[ccT 275];simp only[go_sem,simprocAttr,g,rh,zT,ub]
theorem xgv(y c C:Nat)(Z:C<=15):∀(n p:Nat)(x:t8),p+n=C->x.length<=1000000->
 run T (.loop zg) ⟨[(0,iV y),(1,iV c),(3,iV C),(4,bN x),(11,iV p)],[],[]⟩=
 some (.x 0,⟨[(4,bN (rf y c p n x))],[],[]⟩):=by
 intro n;induction n with
 |zero=>
  intro p x h0 Q;have I:p=C:=by omega
  subst I;rw[ab];simp only[go_sem,simprocAttr,rf]
 |succ n K=>
  intro p x h0 Q;have z:=K (p+1) (Qw y c p x) (by omega) (by rw[Qw,gk];omega);have F:(p:Int)<(C:Int):=by omega
  have J:=bJ p;have g:=Za 1 [ub y,ub c,ub p] x (by simp);have H:=jn 1 [[ub y,ub c,ub p],x];unfold Qw h16 at z;unfold ub at g H z;rw[ab];simp only[go_sem,simprocAttr,F,J,g,H,c32,z,rf,Qw,h16,ub]
theorem YP(y c p n z:Nat)(x:t8)(h:p+n=z)(C:z<=15)(F:x.length<=1000000):
 call T 274 [iV y,iV c,iV p,iV z,bN x] [] 0=okV (bN (rf y c p n x)):=by
 have g:=xgv y c z C n p x h F;rw[ccT 274];simp only[go_sem,simprocAttr,g]
def dgs(l:LAb):f9:=l.map fun(d:Nat)=> [iV (d:Int)]
theorem tt(l:LAb):(dgs l).length=l.length:=by simp[dgs]
theorem Ie(l:LAb)(i:Nat)(h:i<l.length:=by omega):(dgs l).getD i []=[iV ((l.getD i 0:Nat):Int)]:=by simp[dgs,aa,h]
theorem TD(a b:LAb):dgs (a++b)=dgs a++dgs b:=by simp[dgs]
theorem XC(b:UInt8):(eL (b.toNat/2^min 4 8)).toNat=hi4 b:=by
 have e:(2:Nat)^min 4 8=16:=by decide
 have:=b.toNat_lt;unfold hi4;rw[e,UInt8.toNat_ofNat',ek (by omega)]
theorem Xu(b:UInt8):(b&&&15).toNat=lo4 b:=by unfold lo4;rw[UInt8.toNat_and];exact Nat.and_two_pow_sub_one_eq_mod b.toNat 4
theorem TE(M:t8)(i:Nat)(h:i<M.length:=by omega):dg (M.drop i)=hi4 (M.getD i 0)::lo4 (M.getD i 0)::dg (M.drop (i+1)):=by rw[eg M i h];rfl
def smF(s:Nat)(l:t8):Nat:=l.foldl (fun s b=>s+((15-hi4 b)+(15-lo4 b))) s
theorem KH(s:Nat)(M:t8)(i:Nat)(h:i<M.length:=by omega):smF s (M.drop i)=smF (s+((15-hi4 (M.getD i 0))+(15-lo4 (M.getD i 0)))) (M.drop (i+1)):=by rw[eg M i h];rfl
theorem XB(b:UInt8):hi4 b<=15:=by have:=b.toNat_lt;unfold hi4;omega
theorem Xt(b:UInt8):lo4 b<=15:=by unfold lo4;omega
def Cu(c:Nat)(f:Nat->t8):t8:=((bQ 35).drop c).flatMap f
theorem wg(f:Nat->t8):Cu 0 f=cat 35 f:=by unfold Cu cat;rw[bw]
theorem Bh(f:Nat->t8):Cu 35 f=[]:=by unfold Cu;rw[ez (by rw[uj];exact aM _)];rfl
theorem wh(c:Nat)(h:c<35)(f:Nat->t8):Cu c f=f c++Cu (c+1) f:=by unfold Cu;rw[bD (by rw[uj];exact h),List.getElem_range,cA]
end Go.Proofs.YtmhhnklkcmpdkaaGreatDoor
