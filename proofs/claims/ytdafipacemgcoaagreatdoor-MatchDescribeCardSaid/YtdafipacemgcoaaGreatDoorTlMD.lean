/- Contracts. No condition. -/
import Derived.Test.YtdafipacemgcoaaGreatDoorTiMD
import Derived.Test.YtdafipacemgcoaaGreatDoorTjMD
open Bool renaming and_eq_true -> aA
open Go.IntKind renaming i64 -> aj
open List renaming Pairwise -> iI, all_eq_true -> aT, append_assoc -> aZ, append_nil -> bK, cons -> io, cons_append -> bU, drop_zero -> bi, flatMap_cons -> dZ, getD_cons_succ -> bF, getD_cons_zero -> bp, getD_eq_getElem?_getD -> aa, getElem?_eq_getElem -> af, getElem?_set -> eW, getElem_of_mem -> bl, length_append -> ah, length_cons -> av, length_drop -> aE, length_eq_zero_iff -> bP, length_nil -> bg, length_pos_iff -> ig, length_set -> cw, length_take -> aD, mem_append -> ak, mem_append_left -> dR, mem_append_right -> cZ, mem_cons -> an, mem_cons_of_mem -> aq, mem_cons_self -> ax, mem_map -> aS, mem_of_mem_drop -> dQ, mem_of_mem_take -> bL, mem_singleton -> aN, nil_append -> bw, take_append_drop -> fZ
open Nat renaming zero_add -> bC
open Option renaming getD_some -> ba
set_option maxRecDepth 100000
set_option maxHeartbeats 16000000
set_option linter.unusedSimpArgs false
set_option linter.unusedVariables false
namespace Go.Proofs.YtdafipacemgcoaaGreatDoor
open Go.Sy
open UInt8 renaming reduceLT -> Q0, reduceLE -> Q1
open Int renaming reduceToNat -> Q2, reduceLE -> Q3, reduceLT -> Q4, reduceEq -> Q5, reduceNe -> Q6, reduceNeg -> Q7, reduceAdd -> Q8, reduceSub -> Q9, reduceMul -> Qa
open Nat renaming reducePow -> Qb, reduceDiv -> Qc, reduceMod -> Qd, reduceAdd -> Qe, reduceSub -> Qf, reduceMul -> Qg, reduceLT -> Qh, reduceLeDiff -> Qi, reduceEqDiff -> Qj, reduceBEq -> Qk
def inO:List Ev->Wk->Prop
 |[],_=>True
 |e::r,w=>okW w e=true/\inO r (stW w e)
def il(l:List Ev)(w:Wk):Wk:=l.foldl stW w
theorem mh:∀(a b:List Ev)(w:Wk),inO (a++b) w↔(inO a w/\inO b (il a w))
 |[],b,w=>by simp[inO,il]
 |e::r,b,w=>by show(okW w e=true/\inO (r++b) (stW w e))↔((okW w e=true/\inO r (stW w e))/\inO b (il r (stW w e)));rw[mh r b];exact and_assoc.symm
theorem lX(a b:List Ev)(w:Wk):il (a++b) w=il b (il a w):=List.foldl_append
theorem Ya{w:Wk}{e:Ev}{p:Int}(z:¬e.kind=5)(h:phP e=p)(H:1<=p)(F:w.ph<=p)(C:1<p->w.s1=true)(E:p=3->e.reg=w.nx)(B:3<p->w.nx=8):okW w e=true:=by unfold okW;rw[if_neg z,h,if_neg (by omega),if_neg (by omega),if_neg (by rintro⟨a,b⟩;rw[C a]at b;cases b),if_neg (by rintro⟨a,b⟩;exact b (E a)),if_neg (by rintro⟨a,b⟩;exact b (B a))]
theorem Ro{w:Wk}{e:Ev}{p:Int}(B:¬e.kind=5)(C:phP e=p)(z:okW w e=true):(stW w e).ph=p/\(stW w e).nx=(if p=3 then aj.wrap (w.nx+1)else w.nx)/\(stW w e).s1=(w.s1||decide (p=1))/\(stW w e).s4=(w.s4||decide (p=4)):=by unfold stW;rw[if_neg (by rintro(h|h);rw[z]at h;cases h;exact B h),C];exact⟨rfl,rfl,rfl,rfl⟩
structure Aft(p:Int)(L:List Ev)(w f:Wk):Prop where
 lo:w.ph<=f.ph
 hi:f.ph<=p
 nx:f.nx=w.nx
 s1:w.s1=true->f.s1=true
 s1':p=1->¬L=[]->f.s1=true
 s4:w.s4=true->f.s4=true
 s4':p=4->¬L=[]->f.s4=true
theorem vH{p:Int}(F:1<=p)(E:¬p=3):∀(L:List Ev)(w:Wk),(∀e∈L,phP e=p/\¬e.kind=5)->w.ph<=p->(1<p->w.s1=true)->(3<p->w.nx=8)->inO L w/\Aft p L w (il L w)
 |[],w,_,h1,_,_=>⟨trivial,Int.le_refl _,h1,rfl,id,fun _ h=>absurd rfl h,id,fun _ h=>absurd rfl h⟩
 |e::r,w,hL,h1,h2,h4=>by obtain⟨O,H⟩:=hL e ax;have J:=Ya H O F h1 h2 (fun h=>absurd h E) h4;obtain⟨U,B,C,I⟩:=Ro H O J;rw[if_neg E]at B;have S:=vH F E r (stW w e) (fun x Q=>hL x (aq _ Q)) (by omega) (fun h=>by rw[C,h2 h];rfl) (fun h=>by rw[B];exact h4 h);obtain⟨T,z⟩:=S;refine⟨⟨J,T⟩, ?_,z.hi,z.nx.trans B,fun h=>z.s1 (by rw[C,h];rfl),fun h _=>z.s1 (by rw[C,h];simp),fun h=>z.s4 (by rw[I,h];rfl),fun h _=>z.s4 (by rw[I,h];simp)⟩;have:=z.lo;show w.ph<=(il r (stW w e)).ph;omega
theorem Rp(a:Int):∀(n i:Nat)(w:Wk),i+n<=8->w.nx=(i:Int)->w.ph<=3->w.s1=true->inO (iS a i n) w/\(il (iS a i n) w).ph<=3/\(il (iS a i n) w).nx=((i+n:Nat):Int)/\(il (iS a i n) w).s1=true
 |0,i,w,_,hx,h1,h2=>⟨trivial,h1,hx,h2⟩
 |n+1,i,w,hn,hx,h1,h2=>by
  have F:(mkV i 2 a [0,0,0,0]).reg=(i:Int):=rfl;have H:(mkV i 2 a [0,0,0,0]).kind=2:=rfl
  have C:phP (mkV i 2 a [0,0,0,0])=3:=by unfold phP;rw[H,F,if_neg (by rintro⟨h,_⟩;exact absurd h (by decide)),if_neg (by rintro⟨h,_⟩;exact absurd h (by decide)),if_pos ⟨rfl,by omega,by omega⟩]
  have z:¬(mkV i 2 a [0,0,0,0]).kind=5:=by rw[H];decide
  have B:=Ya z C (by decide) h1 (fun _=>h2) (fun _=>by rw[F,hx]) (fun h=>absurd h (by decide));obtain⟨S,E,J, -⟩:=Ro z C B;rw[if_pos rfl,hx,w64 (by omega) (by omega)]at E;obtain⟨O,L,Q,I⟩:=Rp a n (i+1) (stW w (mkV i 2 a [0,0,0,0])) (by omega) (by rw[E];omega) (by omega) (by rw[J,h2];rfl);refine⟨⟨B,O⟩,L, ?_,I⟩;show(il (iS a (i+1) n) _).nx=_;rw[Q];congr 1;omega
theorem O8(a:Int){z B C F:List Ev}(h1:∀e∈z,phP e=1/\¬e.kind=5)(T:∀e∈B,phP e=2/\¬e.kind=5)(h3:∀e∈C,phP e=4/\¬e.kind=5)(S:∀e∈F,phP e=5/\¬e.kind=5)(n1:¬z=[])(U:¬C=[]):
 inO (z++(B++(iS a 0 8++(C++F)))) w0/\(il (z++(B++(iS a 0 8++(C++F)))) w0).s4=true:=by
 obtain⟨O,I⟩:=vH (p:=1) (by decide) (by decide) z w0 h1 (by decide) (fun h=>absurd h (by decide)) (fun h=>absurd h (by decide));have s1:=I.s1' rfl n1;have x1:(il z w0).nx=0:=I.nx;have p1:=I.hi;obtain⟨o2,H⟩:=vH (p:=2) (by decide) (by decide) B (il z w0) T (by omega) (fun _=>s1) (fun h=>absurd h (by decide));have s2:=H.s1 s1;have x2:(il B (il z w0)).nx=((0:Nat):Int):=H.nx.trans x1;have p2:=H.hi;obtain⟨Q,p3,J,s3⟩:=Rp a 8 0 (il B (il z w0)) (by decide) x2 (by omega) s2;obtain⟨L,E⟩:=vH (p:=4) (by decide) (by decide) C (il (iS a 0 8) (il B (il z w0))) h3 (by omega) (fun _=>s3) (fun _=>J);have s4:=E.s4' rfl U;have p4:=E.hi;obtain⟨Z,W⟩:=vH (p:=5) (by decide) (by decide) F (il C (il (iS a 0 8) (il B (il z w0)))) S (by omega) (fun _=>E.s1 s3) (fun _=>E.nx.trans J);rw[mh,mh,mh,mh,lX,lX,lX,lX];exact⟨⟨O,o2,Q,L,Z⟩,W.s4 s4⟩
theorem Ch(h:List Man):∀(l:List Ev)(w:Wk)(i:Nat)(rs:List (Int×Int)),inO l w->(∀e∈l,∃p,hC h e=some p)->(exW h l w i rs).err=0/\(exW h l w i rs).w=il l w/\(exW h l w i rs).at'=i+l.length
 |[],w,i,rs,_,_=>⟨rfl,rfl,rfl⟩
 |e::r,w,i,rs,ho,hr=>by
  obtain⟨p,z⟩:=hr e ax
  have u:exW h (e::r) w i rs=exW h r (stW w e) (i+1) (rs++ [p]):=by show(if okW w e=true then(match hC h e with|some p=>exW h r (stW w e) (i+1) (rs++ [p])|none=>⟨w,i,rs,47⟩)else⟨w,i,rs,41⟩)=_;rw[if_pos ho.1,z]
  rw[u];obtain⟨a,b,c⟩:=Ch h r (stW w e) (i+1) (rs++ [p]) ho.2 (fun x B=>hr x (aq _ B));exact⟨a,b,by rw[c,av];omega⟩
theorem qU(h:List Man):∀(l:List Ev)(x:Ev)(r:List Ev)(w:Wk)(i:Nat)(rs:List (Int×Int)),inO (l++x::r) w->(∀e∈l,∃p,hC h e=some p)->hC h x=none->(exW h (l++x::r) w i rs).err=47/\(exW h (l++x::r) w i rs).at'=i+l.length
 |[],x,r,w,i,rs,ho,_,hx=>by
  have u:exW h (x::r) w i rs=⟨w,i,rs,47⟩:=by show(if okW w x=true then(match hC h x with|some p=>exW h r (stW w x) (i+1) (rs++ [p])|none=>⟨w,i,rs,47⟩)else⟨w,i,rs,41⟩)=_;rw[if_pos ho.1,hx]
  rw[bw,u];exact⟨rfl,rfl⟩
 |e::l,x,r,w,i,rs,ho,hr,hx=>by
  obtain⟨p,B⟩:=hr e ax
  have u:exW h (e::l++x::r) w i rs=exW h (l++x::r) (stW w e) (i+1) (rs++ [p]):=by show(if okW w e=true then(match hC h e with|some p=>exW h (l++x::r) (stW w e) (i+1) (rs++ [p])|none=>⟨w,i,rs,47⟩)else⟨w,i,rs,41⟩)=_;rw[if_pos ho.1,B]
  rw[u];obtain⟨a,c⟩:=qU h l x r (stW w e) (i+1) (rs++ [p]) ho.2 (fun y z=>hr y (aq _ z)) hx;exact⟨a,by rw[c,av];omega⟩
theorem xX{x:Img}{a:Int}(h:x.role=1\/x.role=2\/x.role=3):phP (ofI x a)=(if x.role=3 then 4 else x.role)/\¬(ofI x a).kind=5:=by have z:(ofI x a).kind=1:=rfl;have B:(ofI x a).reg=oa x.role:=rfl;refine⟨?_,by rw[z];decide⟩;unfold phP;rw[z,B];rcases h with h|h|h<;>rw[h]<;>decide
theorem xcz{a:Int}{d:t6}:phP (mkV 9 3 a d)=5/\¬(mkV 9 3 a d).kind=5:=by have h:(mkV 9 3 a d).kind=3:=rfl;have z:(mkV 9 3 a d).reg=9:=rfl;refine⟨?_,by rw[h];decide⟩;unfold phP;rw[h,z];decide
theorem lT{l:List Img}{a r:Int}(C:¬r=4){e:Ev}(h:e∈l.flatMap (dn a r)):∃x∈l,x.role=r/\e=ofI x a:=by
 obtain⟨x,B,h⟩:=List.mem_flatMap.1 h;unfold dn at h;split at h
 ·rename_i z
  try rw[if_neg C]at h
  exact⟨x,B,z,aN.1 h⟩
 ·cases h
theorem BU{l:List Img}{a:Int}{e:Ev}(h:e∈l.flatMap (dn a 4)):∃x∈l,x.role=4/\∃d∈dN x.pay,e=mkV 9 3 a d:=by
 obtain⟨x,B,h⟩:=List.mem_flatMap.1 h;unfold dn at h;split at h
 ·rename_i z
  try rw[if_pos rfl]at h
  obtain⟨d,hd,rfl⟩:=aS.1 h;exact⟨x,B,z,d,hd,rfl⟩
 ·cases h
theorem oG{l:List Img}{a r:Int}(B:¬r=4){x:Img}(z:x∈l)(h:x.role=r):¬l.flatMap (dn a r)=[]:=by intro e;have:ofI x a∈l.flatMap (dn a r):=List.mem_flatMap.2 ⟨x,z,by unfold dn;rw[if_pos h,if_neg B];exact aN.2 rfl⟩;rw[e]at this;cases this
theorem Yx{l:List Img}(B:cd l)(a:Int):inO (evF l a) w0/\(il (evF l a) w0).s4=true:=by
 obtain⟨i,hi,C⟩:=B.fw;obtain⟨k,E,hn⟩:=B.kn;unfold evF;refine O8 a (fun e h=> ?_) (fun e h=> ?_) (fun e h=> ?_) (fun e h=> ?_) (oG (by decide) (cJ l im0 i hi) C) (oG (by decide) (cJ l im0 k E) hn)
 ·obtain⟨x,_,z,rfl⟩:=lT (by decide) h
  have:=xX (x:=x) (a:=a) (.inl z);rw[z]at this;exact this
 ·obtain⟨x,_,z,rfl⟩:=lT (by decide) h
  have:=xX (x:=x) (a:=a) (.inr (.inl z));rw[z]at this;exact this
 ·obtain⟨x,_,z,rfl⟩:=lT (by decide) h
  have:=xX (x:=x) (a:=a) (.inr (.inr z));rw[z]at this;exact this
 ·obtain⟨x,_,_,d,_,rfl⟩:=BU h
  exact xcz
theorem xY:∀(p:t6)(o:List t6)(l:t6)(B:List t6)(E:t6),lnF p o l=some (B,E)->(∀d∈o,¬d=[]/\nG d=true)->nG l=true->∀d∈B,¬d=[]/\nG d=true
 |[],o,l,B,E,h,ho,hl=>by unfold lnF at h;cases h;exact ho
 |c::r,o,l,B,E,h,ho,hl=>by
  unfold lnF at h
  by_cases F:c=10
  ·rw[if_pos F]at h
   by_cases z:(l.length:Int)=0
   ·rw[if_pos z]at h;cases h
   ·rw[if_neg z]at h
    by_cases C:(4:Int)<=o.length
    ·rw[if_pos C]at h;cases h
    ·rw[if_neg C]at h
     refine xY r _ _ B E h (fun d hd=> ?_) rfl;rcases ak.1 hd with hd|hd
     ·exact ho d hd
     ·rw[aN.1 hd]
      exact⟨fun e=>z (by rw[e];rfl),hl⟩
  ·rw[if_neg F]at h
   by_cases z:c<32
   ·rw[if_pos z]at h;cases h
   ·rw[if_neg z]at h
    by_cases C:126<c
    ·rw[if_pos C]at h;cases h
    ·rw[if_neg C]at h
     refine xY r _ _ B E h ho ?_;unfold nG at hl ⊢;rw[List.all_append,hl];simp[z,C]
theorem Df{p d:t6}(h:d∈dN p):¬d=[]/\nG d=true:=by
 unfold dN at h;cases hq:lnF p [] []with
 |none=>rw[hq]at h;cases h
 |some q=>
  obtain⟨o,l⟩:=q;rw[hq]at h;simp only at h;split at h
  ·cases h
  ·exact xY p [] [] o l hq (fun d hd=>by cases hd) rfl d h
theorem l5(b:Bool)(s:t6):kS true (if b=true then s else []) s=true:=by
 unfold kS;cases b with
 |true=>simp
 |false=>simp
theorem QG(i a:Int):q9 (mkV i 2 a [0,0,0,0])=true:=by
 have B:(mkV i 2 a [0,0,0,0]).kind=2:=rfl;have hd:(mkV i 2 a [0,0,0,0]).data=[0,0,0,0]:=rfl;have z:(mkV i 2 a [0,0,0,0]).dg.getD 0 []=if ly a 0=true then jx [0,0,0,0]else []:=rfl
 have h:(mkV i 2 a [0,0,0,0]).dg.getD 1 []=if ly a 1=true then sha [0,0,0,0]else []:=rfl
 unfold q9;rw[B,hd,z,h,if_neg (by decide),if_pos rfl,if_pos rfl,l5,l5];rfl
theorem QF(a:Int){d:t6}(z:¬d=[])(C:nG d=true):q9 (mkV 9 3 a d)=true:=by
 have H:(mkV 9 3 a d).kind=3:=rfl;have hd:(mkV 9 3 a d).data=d:=rfl;have F:(mkV 9 3 a d).dg.getD 0 []=if ly a 0=true then jx d else []:=rfl
 have E:(mkV 9 3 a d).dg.getD 1 []=if ly a 1=true then sha d else []:=rfl
 have B:¬(d.length:Int)=0:=fun h=>z (bP.1 (by omega))
 unfold q9;rw[H,hd,F,E,if_neg (by decide),if_neg (by decide),if_pos rfl,if_neg B,if_pos C,l5,l5];rfl
theorem xW{l:List Img}(z:cd l):∀(n i:Nat),i+n<l.length->(l.getD i im0).role<=(l.getD (i+n) im0).role
 |0,i,_=>Int.le_refl _
 |n+1,i,h=>Int.le_trans (xW z n i (by omega)) (z.ord (i+n) (by omega))
theorem eJ{a r:Int}{x:Img}(h:¬x.role=r):dn a r x=[]:=if_neg h
theorem lZ{a r:Int}{x:Img}(h:x.role=r)(z:¬r=4):dn a r x=[ofI x a]:=by unfold dn;rw[if_pos h,if_neg z]
theorem mJ{a r:Int}:∀{l:List Img},(∀x∈l,¬x.role=r)->l.flatMap (dn a r)=[]
 |[],_=>rfl
 |x::l,h=>by rw[dZ,eJ (h x ax),bw];exact mJ fun y z=>h y (aq _ z)
theorem CZ{l:List Img}{i:Nat}(hi:i<l.length)(y:Img):l.set i y=l.take i++y::l.drop (i+1):=by rw[List.set_eq_take_append_cons_drop,if_pos hi]
theorem DG{l:List Img}(h:cd l){i:Nat}{x:Img}(z:x∈l.drop (i+1))(hi:i<l.length):(l.getD i im0).role<=x.role:=by
 obtain⟨k,B,rfl⟩:=bl z;rw[aE]at B;have:=xW h (k+1) i (by omega);rw[List.getElem_drop];rw[aa (i:=i+(k+1)),af (by omega),ba]at this;have e:i+1+k=i+(k+1):=by omega
 simp only[e];exact this
theorem CG{l:List Img}(B:cd l){i:Nat}{x:Img}(C:x∈l.take i)(hi:i<l.length):1<=x.role/\x.role<=(l.getD i im0).role:=by obtain⟨k,E,rfl⟩:=bl C;rw[aD]at E;have h:=xW B (i-k) k (by omega);rw[show k+(i-k)=i by omega]at h;have z:=(eA (B.ok k (by omega))).1;rw[aa (i:=k),af (by omega),ba]at h z;rw[List.getElem_take];exact⟨z,h⟩
theorem xiw(a:Int):∀(L:List Img),(∀x∈L,1<=x.role/\x.role<=3)->(L.flatMap (dn a 1)).length+(L.flatMap (dn a 2)).length+(L.flatMap (dn a 3)).length=L.length
 |[],_=>rfl
 |x::L,h=>by
  have E:=xiw a L fun y B=>h y (aq _ B)
  obtain⟨C,F⟩:=h x ax;simp only[dZ,ah,av];have z:x.role=1\/x.role=2\/x.role=3:=by omega
  rcases z with z|z|z
  ·rw[lZ z (by decide),eJ (r:=2) (by omega),eJ (r:=3) (by omega)]
   simp only[av,bg];omega
  ·rw[lZ z (by decide),eJ (r:=1) (by omega),eJ (r:=3) (by omega)]
   simp only[av,bg];omega
  ·rw[lZ z (by decide),eJ (r:=1) (by omega),eJ (r:=2) (by omega)]
   simp only[av,bg];omega
theorem P2{l:List Img}(J:cd l)(a:Int){i:Nat}(hi:i<l.length)(y:Img)(L:y.role=(l.getD i im0).role)(O:¬y.role=4):
 ∃P Q,evF (l.set i y) a=P++ofI y a::Q/\P.length=(if y.role=3 then i+8 else i)/\∀e∈P,e∈evF l a:=by
 have C:1<=(l.getD i im0).role/\(l.getD i im0).role<=4:=⟨(eA (J.ok i hi)).1,(eA (J.ok i hi)).2.1⟩;rw[<-L]at C;have S:∀x∈l.take i,1<=x.role/\x.role<=y.role:=fun x C=>by rw[L];exact CG J C hi
 have hd:∀x∈l.drop (i+1),y.role<=x.role:=fun x C=>by rw[L];exact DG J C hi
 have I:(l.take i).length=i:=by rw[aD];omega
 have B:=xiw a (l.take i) fun x C=>by have:=S x C;omega
 rw[I]at B
 have sub:∀r e,e∈(l.take i).flatMap (dn a r)->e∈l.flatMap (dn a r):=fun r e h=>by obtain⟨x,C,h⟩:=List.mem_flatMap.1 h;exact List.mem_flatMap.2 ⟨x,bL C,h⟩
 have ex:∀r,(l.set i y).flatMap (dn a r)=(l.take i).flatMap (dn a r)++(dn a r y++(l.drop (i+1)).flatMap (dn a r)):=fun r=>by rw[CZ hi,List.flatMap_append,dZ]
 have lo:∀r,r<y.role->(l.set i y).flatMap (dn a r)=(l.take i).flatMap (dn a r):=fun r h=>by rw[ex r,eJ (by omega),mJ (l:=l.drop (i+1)) (fun x C=>by have:=hd x C;omega),bw,bK]
 have H:∀r,y.role=r->¬r=4->(l.set i y).flatMap (dn a r)=(l.take i).flatMap (dn a r)++ofI y a::(l.drop (i+1)).flatMap (dn a r):=fun r h O=>by rw[ex r,lZ h O];rfl
 have F:∀r,y.role<r->(l.take i).flatMap (dn a r)=[]:=fun r h=>mJ fun x C=>by have:=S x C;omega
 have E:y.role=1\/y.role=2\/y.role=3:=by omega
 rcases E with E|E|E
 ·refine⟨(l.take i).flatMap (dn a 1),(l.drop (i+1)).flatMap (dn a 1)++((l.set i y).flatMap (dn a 2)++(iS a 0 8++((l.set i y).flatMap (dn a 3)++(l.set i y).flatMap (dn a 4)))), ?_, ?_,fun e z=> ?_⟩
  ·unfold evF
   rw[H 1 E (by decide),aZ];rfl
  ·rw[F 2 (by omega),F 3 (by omega)]at B
   rw[if_neg (by omega)];simpa using B
  ·exact dR _ (sub 1 e z)
 ·refine⟨(l.take i).flatMap (dn a 1)++(l.take i).flatMap (dn a 2),(l.drop (i+1)).flatMap (dn a 2)++(iS a 0 8++((l.set i y).flatMap (dn a 3)++(l.set i y).flatMap (dn a 4))), ?_, ?_,fun e z=> ?_⟩
  ·unfold evF
   rw[lo 1 (by omega),H 2 E (by decide)];simp only[aZ,bU]
  ·rw[F 3 (by omega)]at B
   rw[if_neg (by omega),ah];simpa using B
  ·rcases ak.1 z with z|z
   ·exact dR _ (sub 1 e z)
   ·exact cZ _ (dR _ (sub 2 e z))
 ·refine⟨(l.take i).flatMap (dn a 1)++((l.take i).flatMap (dn a 2)++(iS a 0 8++(l.take i).flatMap (dn a 3))),(l.drop (i+1)).flatMap (dn a 3)++(l.set i y).flatMap (dn a 4), ?_, ?_,fun e z=> ?_⟩
  ·unfold evF
   rw[lo 1 (by omega),lo 2 (by omega),H 3 E (by decide)];simp only[aZ,bU]
  ·rw[if_pos E,ah,ah,ah,j7]
   omega
  ·rcases ak.1 z with z|z
   ·exact dR _ (sub 1 e z)
   rcases ak.1 z with z|z
   ·exact cZ _ (dR _ (sub 2 e z))
   rcases ak.1 z with z|z
   ·exact cZ _ (cZ _ (dR _ z))
   ·exact cZ _ (cZ _ (cZ _ (dR _ (sub 3 e z))))
theorem BJ(x:Ent):∀l,fg x l<l.length->eo (l.getD (fg x l) en0) x=false
 |[],h=>by simp at h
 |y::r,h=>by
  rw[fg]at h ⊢
  by_cases z:eo y x=true
  ·rw[if_pos z]at h ⊢
   rw[bF];exact BJ x r (by rw[av]at h;omega)
  ·rw[if_neg z,bp]
   exact eq_false_of_ne_true z
theorem Dr(x:Ent)(l:List Ent):x∈lx x l:=by
 unfold lx;split
 ·rename_i h
  have z:=BJ x l h.1;have:=nE.tri _ _ h.2 z;rw[this];exact cJ l en0 _ h.1
 ·exact cZ _ ax
theorem Ds{x z:Ent}{l:List Ent}(h:z∈l):z∈lx x l:=by
 unfold lx;split
 ·exact h
 ·rw[<-fZ (fg x l) l,ak]at h
  rcases h with h|h
  ·exact dR _ h
  ·exact cZ _ (aq _ h)
theorem DP{y:Img}{z:Ent}{l:List Ent}(h:z∈l):z∈iX y l:=by
 unfold iX;split
 ·exact h
 ·exact Ds h
theorem qZ:∀(l:List Img){B:List Ent}{z:Ent},z∈B->z∈gO l B
 |[],_,_,h=>h
 |y::r,B,z,h=>qZ r (DP h)
theorem uR:∀(l:List Img)(z:List Ent){y:Img},y∈l->¬y.role=4->dU y∈gO l z
 |[],_,_,h,_=>by cases h
 |x::r,z,y,h,h4=>by
  show dU y∈gO r (iX x z);rcases an.1 h with rfl|h
  ·refine qZ r ?_
   unfold iX;rw[if_neg h4];exact Dr _ _
  ·exact uR r _ h h4
theorem FZ{x z:Ent}{l:List Ent}(h:z∈lx x l):z=x\/z∈l:=by
 unfold lx at h;split at h
 ·exact .inr h
 ·rcases ak.1 h with h|h
  ·exact .inr (bL h)
  ·rcases an.1 h with h|h
   ·exact .inl h
   ·exact .inr (dQ h)
theorem qC{s:t6}(h:Pr.nameB s=true):∀c∈s,c≠32:=by
 unfold Pr.nameB at h;split at h
 ·cases h
 ·intro c z e
  have:=aT.1 h c z;rw[e]at this;exact absurd this (by decide)
theorem qM{x:Img}(h:dD x=0):Pr.nameB x.name=true:=(eA h).2.2.2.2.1
theorem Yz:∀(n z:t6){d E:t6},(∀c∈n,c≠32)->(∀c∈z,c≠32)->n++32::d=z++32::E->n=z
 |[],[],_,_,_,_,_=>rfl
 |[],c::r,_,_,_,h',h=>absurd (io.inj h).1.symm (h' c ax)
 |c::r,[],_,_,h1,_,h=>absurd (io.inj h).1 (h1 c ax)
 |c::r,c'::r',_,_,h1,h',h=>by obtain⟨F,C⟩:=io.inj h;rw[F,Yz r r' (fun x B=>h1 x (aq _ B)) (fun x B=>h' x (aq _ B)) C]
theorem Fo{a b:Int}(C:1<=a)(F:a<=3)(H:1<=b)(E:b<=3)(h:oa a=oa b):a=b:=by
 have z:a=1\/a=2\/a=3:=by omega
 have B:b=1\/b=2\/b=3:=by omega
 rcases z with rfl|rfl|rfl<;>rcases B with rfl|rfl|rfl<;>first|rfl|(revert h;decide)
theorem uQ:∀(l:List Img)(B:List Ent){z:Ent},z∈gO l B->z∈B\/∃y∈l,¬y.role=4/\z=dU y
 |[],B,z,h=> .inl h
 |y::r,B,z,h=>by
  rcases uQ r (iX y B) h with h|⟨x,hx,C,rfl⟩
  ·unfold iX at h
   by_cases C:y.role=4
   ·rw[if_pos C]at h;exact .inl h
   ·rw[if_neg C]at h
    rcases FZ h with rfl|h
    ·exact .inr ⟨y,ax,C,rfl⟩
    ·exact .inl h
  ·exact .inr ⟨x,aq _ hx,C,rfl⟩
theorem pd{α:Type}(p:α->Bool):∀(l:List α)(i:Nat){x:α},x∈l->p x=true->0<=hZ p l i
 |y::r,i,x,h,hp=>by
  unfold hZ
  by_cases z:p y=true
  ·rw[if_pos z];omega
  ·rw[if_neg z]
   rcases an.1 h with rfl|h
   ·exact absurd hp z
   ·exact pd p r (i+1) h hp
theorem B0{α:Type}(p:α->Bool):∀(l:List α)(i:Nat),(∀x∈l,¬p x=true)->hZ p l i= -1
 |[],_,_=>rfl
 |y::r,i,h=>by unfold hZ;rw[if_neg (h y ax)];exact B0 p r (i+1) fun x z=>h x (aq _ z)
theorem xfX{a:Int}(h:a=2\/a=3):ly a 1=true:=by rcases h with rfl|rfl<;>rfl
theorem xiv{x:Img}{a:Int}(z:a=2\/a=3)(h:dD x=0):(ofI x a).dg.getD 1 []=sha (dl x):=by show(q8 (dl x) a).getD 1 []=_;unfold q8;rw[if_neg (fun e=>oH h (by rw[e];rfl)),xfX z];rfl
theorem PK{x:Img}{a:Int}(z:a=2\/a=3)(h:dD x=0):itE (ofI x a) (dU x)=true:=by unfold itE;rw[xiv z h];show(decide (oa x.role=oa x.role)&&(decide (sha (dl x)=sha (dl x))&&decide (uD x.name x.ver=uD x.name x.ver)))=true;simp
theorem Cf{m:Man}{e:Ev}(h:0<=fq m e):∃p,frM e [m] 0=some p:=by unfold frM;rw[if_pos h];exact⟨_,rfl⟩
theorem PP{m:Man}{e:Ev}(h:fq m e= -1):frM e [m] 0=none:=by unfold frM;rw[if_neg (by omega)];rfl
theorem lQ(x:Img)(a:Int):(ofI x a).kind=1:=rfl
theorem xaH{m:Man}{l:List Img}{a:Int}(z:a=2\/a=3)(E:js m=0)(B:m.ents=gO l []){x:Img}(C:x∈l)(h:dD x=0)(F:¬x.role=4):∃p,hC [m] (ofI x a)=some p:=by
 have hi:0<=fq m (ofI x a):=by unfold fq;rw[if_pos E,if_pos (lQ _ a),B];exact pd _ _ 0 (uR l [] C F) (PK z h)
 unfold hC;rw[lQ,if_neg (by decide),if_neg (by decide)];exact Cf hi
theorem OP(h:List Man)(i a:Int):∃p,hC h (mkV i 2 a [0,0,0,0])=some p:=by unfold hC;rw[if_neg (show ¬(mkV i 2 a [0,0,0,0]).kind=5 from(by decide:¬(2:Int)=5)),if_pos (show(mkV i 2 a [0,0,0,0]).kind=2 from rfl),if_pos (QG i a)];exact⟨_,rfl⟩
theorem OQ{m:Man}{a:Int}(C:js m=0){r:Rul}(E:r∈m.ruls){d:t6}(hd:¬d=[])(z:nG d=true)(h:alR d r=true):∃p,hC [m] (mkV 9 3 a d)=some p:=by
 have hi:0<=fq m (mkV 9 3 a d):=by have B:=pd (alR d) m.ruls 0 E h;unfold fq;rw[if_pos C,if_neg (show ¬(mkV 9 3 a d).kind=1 from(by decide:¬(3:Int)=1)),if_pos (show(mkV 9 3 a d).kind=3 from rfl),if_pos (show(mkV 9 3 a d).reg=9 from rfl),if_pos (QF a hd z),show(mkV 9 3 a d).data=d from rfl,if_pos B];omega
 unfold hC;rw[if_neg (show ¬(mkV 9 3 a d).kind=5 from(by decide:¬(3:Int)=5)),if_neg (show ¬(mkV 9 3 a d).kind=2 from(by decide:¬(3:Int)=2))];exact Cf hi
theorem BT{a:Int}:∀(n i:Nat){e:Ev},e∈iS a i n->∃k:Int,e=mkV k 2 a [0,0,0,0]
 |n+1,i,e,h=>by
  rw[iS]at h;rcases an.1 h with rfl|h
  ·exact⟨i,rfl⟩
  ·exact BT n (i+1) h
theorem uW{l:List Img}(z:cd l){x:Img}(h:x∈l):dD x=0:=by obtain⟨i,hi,rfl⟩:=bl h;have:=z.ok i hi;rw[aa,af hi]at this;exact this
theorem zp{m:Man}{l:List Img}{a:Int}(L:a=2\/a=3)(Q:cd l)(H:js m=0)(S:m.ents=gO l []){r:Rul}(O:r∈m.ruls)(C:∀d,nG d=true->¬d=[]->alR d r=true):∀e∈evF l a,∃p,hC [m] e=some p:=by
 have B:∀{c:Int},¬c=4->∀e∈l.flatMap (dn a c),∃p,hC [m] e=some p:=fun z e h=>by obtain⟨x,F,E,rfl⟩:=lT z h;exact xaH L H S F (uW Q F) (by rw[E];exact z)
 intro e h;unfold evF at h;rcases ak.1 h with h|h
 ·exact B (by decide) e h
 rcases ak.1 h with h|h
 ·exact B (by decide) e h
 rcases ak.1 h with h|h
 ·obtain⟨k,rfl⟩:=BT 8 0 h
  exact OP _ k a
 rcases ak.1 h with h|h
 ·exact B (by decide) e h
 ·obtain⟨x,_,_,d,hd,rfl⟩:=BU h
  obtain⟨I,J⟩:=Df hd;exact OQ H O I J (C d J I)
theorem Qv{l:List Img}(C:cd l){i:Nat}(hi:i<l.length){z:Img}(hz:z∈l)(B:z.role=(l.getD i im0).role)(hn:z.name=(l.getD i im0).name):z=l.getD i im0:=by
 obtain⟨k,E,rfl⟩:=bl hz;have e:l[k]=l.getD k im0:=by rw[aa,af E,ba]
 rw[e]at B hn ⊢;rcases Nat.lt_trichotomy k i with h|h|h
 ·exact absurd hn (C.dup i hi k h B)
 ·rw[h]
 ·exact absurd hn.symm (C.dup k E i h B.symm)
theorem tQ{m:Man}{l:List Img}{a:Int}(L:a=2\/a=3)(I:cd l)(U:js m=0)(he:m.ents=gO l []){i:Nat}(hi:i<l.length){y:Img}(E:dD y=0)(W:y.role=(l.getD i im0).role)(hn:y.name=(l.getD i im0).name)(h4:¬y.role=4)
 (hd:¬sha (dl y)=sha (dl (l.getD i im0))):hC [m] (ofI y a)=none:=by
 have C:fq m (ofI y a)= -1:=by
  unfold fq;rw[if_pos U,if_pos (lQ _ a),he];refine B0 _ _ 0 fun x S F=> ?_
  rcases uQ l [] S with h|⟨z,hz,hz4,rfl⟩
  ·cases h
  ·unfold itE at F
   rw[xiv L E,aA,aA]at F;obtain⟨p1,Z,Q⟩:=F;have H:=eA E;have B:=uW I hz;have J:=eA B;have T:y.role=z.role:=Fo H.1 (by have:=H.2.1;omega) J.1 (by have:=J.2.1;omega) (of_decide_eq_true p1);have O:y.name=z.name:=Yz _ _ (qC (qM E)) (qC (qM B)) (of_decide_eq_true Q);have ez:=Qv I hi hz (T.symm.trans W) (O.symm.trans hn);refine hd ?_;have:=of_decide_eq_true Z;rw[ez]at this;exact this
 unfold hC;rw[lQ,if_neg (by decide),if_neg (by decide)];exact PP C
def chg(x:Img)(b:UInt8):Img:=⟨x.role,x.name,x.ver,x.pay++ [b]⟩
theorem eD(l:List Img)(i:Nat)(y:Img){j:Nat}(z:j<l.length):(l.set i y).getD j im0=if i=j then y else l.getD j im0:=by
 rw[aa,eW,aa]
 by_cases h:i=j
 ·rw[if_pos h,if_pos h,if_pos (by omega)]
  rfl
 ·rw[if_neg h,if_neg h]
theorem zl{α:Type}(f:Img->α)(l:List Img){i:Nat}(y:Img){j:Nat}(z:j<l.length)(h:f y=f (l.getD i im0)):f ((l.set i y).getD j im0)=f (l.getD j im0):=by
 rw[eD l i y z]
 by_cases e:i=j
 ·rw[if_pos e,h,e]
 ·rw[if_neg e]
theorem re{l:List Img}(C:cd l){i:Nat}{y:Img}(H:dD y=0)(E:y.role=(l.getD i im0).role)(hn:y.name=(l.getD i im0).name):cd (l.set i y):=by
 have B:(l.set i y).length=l.length:=cw;have fr:∀j,j<l.length->((l.set i y).getD j im0).role=(l.getD j im0).role:=fun j z=>zl Img.role l y z E
 have fn:∀j,j<l.length->((l.set i y).getD j im0).name=(l.getD j im0).name:=fun j z=>zl Img.name l y z hn
 refine⟨by rw[B];exact C.n1,by rw[B];exact C.n8,fun j z=> ?_,fun j z=> ?_,fun j z k F=> ?_, ?_, ?_⟩
 ·rw[B]at z
  rw[eD l i y z]
  by_cases e:i=j
  ·rw[if_pos e];exact H
  ·rw[if_neg e];exact C.ok j z
 ·rw[B]at z
  rw[fr j (by omega),fr (j+1) z];exact C.ord j z
 ·rw[B]at z
  rw[fr j z,fr k (by omega),fn j z,fn k (by omega)];exact C.dup j z k F
 ·obtain⟨j,z,h⟩:=C.fw
  exact⟨j,by rw[B];exact z,by rw[fr j z];exact h⟩
 ·obtain⟨j,z,h⟩:=C.kn
  exact⟨j,by rw[B];exact z,by rw[fr j z];exact h⟩
theorem yb{x:Img}(h:dD x=0)(B:¬x.role=4)(C:x.pay.length<=6)(b:UInt8):dD (chg x b)=0:=by
 obtain⟨F,E,J,I,z,_⟩:=eA h;obtain⟨L,O,Q,p⟩:=x;simp only at B C F E J I z;have H:(p++ [b]).length=p.length+1:=by rw[ah];rfl
 unfold dD chg;simp only;rw[if_neg (by omega),if_neg (by omega),if_neg (by omega),if_neg (by omega),if_neg (by rw[z];decide),if_neg (by rw[H];omega),if_neg B]
theorem QH{x:Img}(h:dD x=0)(E:¬x.role=4)(z:x.pay.length<=6)(b:UInt8):¬dl (chg x b)=dl x:=by
 intro e;have e:=congrArg List.length e;have C:=yb h E z b;have B:(chg x b).pay.length=x.pay.length+1:=by show(x.pay++ [b]).length=_;rw[ah];rfl
 have hn:(chg x b).name=x.name:=rfl;unfold dl at e;rw[if_pos h,if_pos C,dy _ (chg x b).pay,dy _ x.pay,dy,dy,ah,ah,eg,eg,eg,eg,B,hn]at e;omega
theorem P1{l:List Img}(h:cd l)(a:Int):10<=(evF l a).length:=by obtain⟨i,hi,C⟩:=h.fw;obtain⟨k,E,z⟩:=h.kn;have n1:=oG (a:=a) (r:=1) (by decide) (cJ l im0 i hi) C;have B:=oG (a:=a) (r:=3) (by decide) (cJ l im0 k E) z;have F:=ig.2 n1;have H:=ig.2 B;unfold evF;simp only[ah,j7];omega
theorem C8{m:Man}{l:List Img}{a:Int}(E:a=2\/a=3)(h:cd l)(I:js m=0)(H:m.ents=gO l []){r:Rul}(C:r∈m.ruls)(z:∀d,nG d=true->¬d=[]->alR d r=true):
 exE (evF l a) [m]=0/\10<=(exV (evF l a) [m]).at':=by
 have B:=Yx h a;obtain⟨F,J,L⟩:=Ch [m] (evF l a) w0 0 [] B.1 (zp E h I H C z);have O:=P1 h a;unfold exE exV;refine⟨by rw[if_pos F,J,if_pos B.2],by rw[L];omega⟩
theorem pM{m:Man}{l:List Img}{a:Int}(I:a=2\/a=3)(z:cd l)(S:w9 l)(J:js m=0)(E:m.ents=gO l []){r:Rul}(U:r∈m.ruls)(F:∀d,nG d=true->¬d=[]->alR d r=true)
 {i:Nat} (hi:i<l.length) (C:¬(l.getD i im0).role=4) (b:UInt8) (hd:¬sha (dl (chg (l.getD i im0) b))=sha (dl (l.getD i im0))):
 exE (evF (l.set i (chg (l.getD i im0) b)) a) [m]=47/\(exV (evF (l.set i (chg (l.getD i im0) b)) a) [m]).at'=(if(l.getD i im0).role=3 then i+8 else i):=by
 have O:=yb (z.ok i hi) C (S i hi C) b;have H:=re z (i:=i) (y:=chg (l.getD i im0) b) O rfl rfl;have L:=(Yx H a).1;obtain⟨P,Q,e,T,h⟩:=P2 z a hi (chg (l.getD i im0) b) rfl C;rw[e]at L ⊢;have B:=zp I z J E U F;obtain⟨Z,W⟩:=qU [m] P (ofI (chg (l.getD i im0) b) a) Q w0 0 [] L (fun e E=>B e (h e E)) (tQ I z J E hi O rfl rfl C hd);unfold exE exV;refine⟨by rw[Z,if_neg (by decide)], ?_⟩;rw[W,T,bC];rfl
section
open SortT
theorem r8(x:Ent):∀l:List Ent,lx x l=oB eo x l
 |[]=>by simp[lx,oB,fg]
 |y::r=>by
  have E:=r8 x r;unfold oB;rw[<-E];unfold lx
  by_cases h:eo y x=true
  ·have C:fg x (y::r)=fg x r+1:=by rw[fg,if_pos h]
   rw[C,if_pos h,bF,List.take_succ_cons,List.drop_succ_cons,av]
   by_cases z:fg x r<r.length/\eo x (r.getD (fg x r) en0)=false
   ·rw[if_pos z,if_pos ⟨by omega,z.2⟩]
   ·rw[if_neg z,if_neg (fun k=>z ⟨by omega,k.2⟩),bU]
  ·have C:fg x (y::r)=0:=by rw[fg,if_neg h]
   rw[C,if_neg h,bp,List.take_zero,bi,bw]
   by_cases B:eo x y=true
   ·rw[if_pos B,if_neg (fun k=>by rw[B]at k;exact absurd k.2 (by simp))]
   ·rw[if_neg B,if_pos ⟨by simp,by simpa using B⟩]
theorem P9{y:Img}(h:dD y=0)(I:¬y.role=4):oT (dU y):=by obtain⟨B,H,C,E,z,F⟩:=eA h;exact⟨B,by show y.role<=3;omega,C,E,eZ _,z⟩
theorem Cm:∀(l:List Img)(h:List Ent),(∀y∈l,dD y=0)->(∀x∈h,oT x)->Str eo h->(∀x∈gO l h,oT x)/\Str eo (gO l h)
 |[],h,_,h1,h2=>⟨h1,h2⟩
 |y::r,h,h0,h1,h2=>by
  have F:=h0 y ax
  have B:(∀x∈iX y h,oT x)/\Str eo (iX y h):=by
   unfold iX
   by_cases E:y.role=4
   ·rw[if_pos E];exact⟨h1,h2⟩
   ·rw[if_neg E,r8]
    refine⟨fun x C=> ?_,pb nE _ _ h2⟩;rcases (lV nE _ _ _).1 C with rfl|C
    ·exact P9 F E
    ·exact h1 x C
  exact Cm r (iX y h) (fun z hz=>h0 z (aq _ hz)) B.1 B.2
theorem rf{h:List Img}(z:cd h):∀y∈h,dD y=0:=by intro y B;obtain⟨i,hi,rfl⟩:=bl B;have:=z.ok i hi;rwa[aa,af hi]at this
theorem xdc{h:List Img}(B:cd h):(∀x∈gO h [],oT x)/\Str eo (gO h []):=Cm h [] (rf B) (fun x z=>by cases z) iI.nil
def GL:Rul:=⟨1,[],0,0⟩
theorem OR:zo GL=0:=rfl
theorem zq(d:t6):alR d GL=true:=rfl
def pX(l:List Img):Man:=⟨[97,99,109,101],1,0,0,1099511627776,gO l [],[GL]⟩
theorem Cj{l:List Img}(z:cd l):js (pX l)=0:=by have h:=xdc z;have hn:=(Cl z).len;exact FP (m:=pX l) (show Pr.nameB [97,99,109,101]=true by decide) (show(0:Int)<=0 by decide) (show(0:Int)<=1 by decide) (show(1:Int)<=1000000 by decide) (show(0:Int)<=0 by decide) (show(0:Int)<1099511627776 by decide) (show(1099511627776:Int)<=1099511627776 by decide) (by show(gO l []).length<=16;omega) (show [GL].length<=8 by decide) h.1 h.2 (fun r B=>by rw[aN.1 B];exact OR)
theorem O7{l:List Img}{a:Int}(z:a=2\/a=3)(h:cd l)(B:w9 l):
 (exE (evF l a) [pX l]=0/\10<=(exV (evF l a) [pX l]).at')/\
 ∀(i:Nat)(b:UInt8),i<l.length->¬(l.getD i im0).role=4->¬sha (dl (chg (l.getD i im0) b))=sha (dl (l.getD i im0))->
  exE (evF (l.set i (chg (l.getD i im0) b)) a) [pX l]=47/\(exV (evF (l.set i (chg (l.getD i im0) b)) a) [pX l]).at'=(if(l.getD i im0).role=3 then i+8 else i):=
 ⟨C8 z h (Cj h) rfl (r:=GL) ax (fun d _ _=>zq d),
  fun i b hi C hd=>pM z h B (Cj h) rfl (r:=GL) ax (fun d _ _=>zq d) hi C b hd⟩
end
end Go.Proofs.YtdafipacemgcoaaGreatDoor
