/- An engine that steps through Go code with symbolic values: sound by proof. No condition. -/
import Derived.Test.YtbfnljmmepcbfaaGreatDoorEaPA
import Derived.Orders
open Array renaming ext' -> dY, getD -> jK, getD_eq_getD_getElem? -> aQ, getElem?_append_left -> b8, getElem?_eq_getElem -> cg, getElem?_toList -> cP, length_toList -> aS, size_append -> cG
open Bool renaming and_eq_true -> aA, eq_iff_iff -> eW, false_eq_true -> aO, not_eq_true' -> cV
open Go.IntKind renaming i64 -> ah, wrap_i64 -> dh
open List renaming Nodup -> we, Pairwise -> qH, Sublist -> mZ, all_eq_true -> aV, append_nil -> bG, drop_eq_nil_of_le -> bD, drop_zero -> bh, flatten_append -> bL, flatten_cons -> cr, getD_cons_succ -> lT, getD_eq_getElem?_getD -> aa, getElem?_append_left -> bq, getElem?_append_right -> bB, getElem?_drop -> bi, getElem?_eq_getElem -> ac, getElem?_eq_none -> gj, getElem?_map -> aR, getElem?_range -> ch, getElem?_set -> gr, getElem?_take -> bC, getElem?_toArray -> cU, getElem_mem -> bo, getElem_of_mem -> bn, length_append -> af, length_cons -> am, length_drop -> aL, length_eq_zero_iff -> cd, length_map -> aY, length_nil -> aB, length_replicate -> jS, length_singleton -> br, length_take -> ax, map_append -> du, map_cons -> aF, mem_append -> al, mem_cons -> aw, mem_cons_of_mem -> av, mem_map -> aT, mem_map_of_mem -> ik, mem_of_mem_drop -> cI, mem_of_mem_take -> bQ, mem_range -> dJ, mem_singleton -> bw, nil_append -> aI, nodup_cons -> dN, pairwise_iff_getElem -> nJ, pairwise_map -> gq, range -> bA, replicate -> aH, size_toArray -> bT, take_append_drop -> dk, take_length -> kp, take_of_length_le -> bj
open Nat renaming add_assoc -> ep, add_mul -> bv, add_zero -> gx, div_eq_of_lt -> xZ, eq_zero_or_pos -> gk, le_refl -> aK, le_trans -> kL, lt_or_ge -> bO, min_eq_left -> fi, mod_eq_of_lt -> cx, mul_comm -> cB, mul_le_mul_right -> aX, mul_one -> iJ, one_mul -> nu, succ_mul -> dy, zero_add -> bS, zero_le -> bH, zero_mul -> fo
open Go.Op renaming bytesLess -> cM
open Option renaming bind_some -> cY, getD_some -> aM, ite_none_right_eq_some -> aG, map_eq_some_iff -> ae, map_some -> bp, some -> aq
open Prod renaming fst -> cH, mk -> bt
open Go.Result renaming andThen_ok -> aj
open Go.Sem renaming run_bind -> az, run_pure -> aJ
open UInt8 renaming ofNat -> gw
set_option linter.unusedVariables false
set_option linter.unusedSimpArgs false
set_option linter.unnecessarySimpa false
set_option linter.unusedSectionVars false
namespace Go.Sy
variable [bf]
variable {P : Program} {C : Ctx} {x : Sit} {s : St} {a : Act} {w : World} {o : Oper} {so : SOp} {p : Prop} {c : SV}
theorem F1{t:TypeId}{n:Nat}(h:wz P t=some n):qc P t=some false:=by unfold wz at h;unfold qc;split at h<;>first|(cases h;done)|(rename_i h1;rw[h1];rfl)
theorem xF{t:TypeId}{n:Nat}(ht:wz P t=some n){c1 d1:SV}{u v:Value}(hu:Rep x c1 u)(hv:Rep x d1 v){b:Bool}(h:uh n c1 d1=some b)(d:Nat):(Op.equalIn (d+1) t u v).run P w= .ok b w:=by
 unfold wz at ht;split at ht<;>try (cases ht;done)
 all_goals
  rename_i hd;cases ht;cases c1<;>cases d1<;>simp only[uh,reduceCtorEq,aq.injEq,aG]at h
 ·rw[hu.bool_inv,hv.bool_inv]
  subst h;rename_i m n;simp only[Op.equalIn,az,run_underlying hd,aj,aJ];cases m<;>cases n<;>rfl
 ·rw[hu.int_inv,hv.int_inv]
  obtain⟨rfl,h⟩:=h;subst h;simp only[Op.equalIn,az,run_underlying hd,aj,if_true,aJ];rfl
 ·rw[hu.u8_inv,hv.u8_inv]
  subst h;rename_i m n;simp only[Op.equalIn,az,run_underlying hd,aj,if_true,aJ]
  congr 1
  rw[eW];simp only[beq_iff_eq,decide_eq_true_eq,Int.natCast_inj];exact UInt8.toNat_inj
 ·rw[hu.str_inv,hv.str_inv]
  subst h;rename_i m n;simp only[Op.equalIn,az,run_underlying hd,aj,aJ]
  congr 1
  rw[beq_toListBytes,ByteArray.toList_eq,ByteArray.toList_eq,eW];simp
theorem jJ:∀(fs:List Field)(ts:List Nat)(k:Nat)(cs ds:List SV)(xs ys:List Value)(d:Nat),xB P k fs=some ts->
 cj x cs (xs.drop k)->cj x ds (ys.drop k)->∀{b:Bool},gD ts cs ds=some b->(Op.eqFields (d+1) ⟨xs⟩ ⟨ys⟩ fs).run P w= .ok b w
 |[],ts,k,cs,ds,xs,ys,d,hf,hx,hy,b,h=>by simp only[xB,aq.injEq]at hf;subst hf;cases cs<;>cases ds<;>simp[gD]at h;subst h;simp[Op.eqFields]
 |f::fs,ts,k,cs,ds,xs,ys,d,hf,hx,hy,b,h=>by
  simp only[xB,aG]at hf;obtain⟨⟨hname,hoff⟩,hf⟩:=hf;split at hf<;>try (cases hf;done)
  rename_i t ts' htag hts;cases hf;cases cs with
  |nil=>simp[gD]at h
  |cons c1 cs=>
   cases ds with
   |nil=>simp[gD]at h
   |cons d1 ds=>
    simp only[gD]at h;split at h<;>try (cases h;done)
    rename_i r q hr hq;cases h;have hlx:=hx.1;have hly:=hy.1;simp only[am,aL]at hlx hly
    have hgx:(⟨xs⟩:Array Value)[k]? =some (xs.getD k Go.undef):=by rw[cU,ac (by omega),aa,ac (by omega)];rfl
    have hgy:(⟨ys⟩:Array Value)[k]? =some (ys.getD k Go.undef):=by rw[cU,ac (by omega),aa,ac (by omega)];rfl
    have hx0:Rep x c1 (xs.getD k Go.undef):=by have:=hx.2 0 (by simp);simpa[aa,bi]using this
    have hy0:Rep x d1 (ys.getD k Go.undef):=by have:=hy.2 0 (by simp);simpa[aa,bi]using this
    have tl:∀{cs:List SV}{c1:SV}{xs:List Value},cj x (c1::cs) (xs.drop k)->cj x cs (xs.drop (k+1)):=by intro cs c1 xs hx;have hlx:=hx.1;simp only[am,aL]at hlx;refine⟨by simp only[aL];omega,fun i hi=> ?_⟩;have:=hx.2 (i+1) (by simpa using hi);simp only[aa,List.getElem?_cons_succ,bi]at this ⊢;rw[show k+1+i=k+(i+1)by omega];exact this
    have ih:=jJ fs ts' (k+1) cs ds xs ys d hts (tl hx) (tl hy) hq;have hrun:=xF (w:=w) htag hx0 hy0 hr d;simp only[Op.eqFields,if_pos hname,part,az,eE (F1 htag),aj,aO,if_false];rw[hoff,hgx,hgy];simp only[aJ,aj,hrun];cases r
    ·simp
    ·simp only[Bool.not_true,aO,if_false]
     rw[ih,Bool.true_and]
theorem O2(hM:aN C x s a w){op:BinOp}{t u:TypeId}{X Y:Operand}(ho:o.op= .binOp op t X Y u){ne:Bool}{ts:List Nat}{x' y':Arg}(hr:bz P o=some (.eqS ne ts x' y'))(hv:val s (.eqS ne ts x' y')=some (p,c)):cn P C o a w (s.put o.dst c):=by
 have hex:execOp a.eval o=(do pure (.value (<-(do eqGuard op t X Y (a.eval X) (a.eval Y);binOp op t (a.eval X) (a.eval Y):Sem Value)))):=by simp only[execOp,ho]
 simp only[bz,ho]at hr;split at hr<;>try (cases hr;done)
 ·split at hr<;>cases hr
 ·rename_i fs _ _ hd hx hy
  split at hr<;>try (cases hr;done)
  rename_i ts' hts;rw[aG]at hr;obtain⟨hcond,hr⟩:=hr;simp only[aA,cV]at hcond
  have hop:op=(if ne then .neq else .eql)/\ts'=ts/\bx P t X=some x'/\bx P u Y=some y':=by split at hr<;>first|(cases hr;done)|(cases hr;exact⟨rfl,rfl,hx,hy⟩)
  obtain⟨hop,rfl,hx,hy⟩:=hop;have h1:=aP hM hx;have h2:=aP hM hy;simp only[val]at hv;cases hu:s.ev x' with
  |agg cs=>
   cases hw:s.ev y' with
   |agg ds=>
    rw[hu,hw]at hv;rw[hu]at h1;rw[hw]at h2;simp only[ae,bt.injEq]at hv;obtain⟨b,hb,_,rfl⟩:=hv;obtain⟨vs,e1,g1⟩:=h1.agg_inv;obtain⟨us,e2,g2⟩:=h2.agg_inv;have hfo:P.fieldsOf t=fs:=by simp[Program.fieldsOf,hd]
    have heq:(Op.equalIn 10000 t (.agg ⟨vs⟩) (.agg ⟨us⟩)).run P w= .ok b w:=by rw[show(10000:Nat)=9998+1+1 from rfl,run_equalIn_struct w (9998+1) t ⟨vs⟩ ⟨us⟩ (by rw[hfo];exact hd) hcond.1,hfo];exact jJ fs.toList ts' 0 cs ds vs us 9998 hts (by simpa using g1) (by simpa using g2) hb
    refine cn.val hM hex (u:= .bool (if ne then !b else b)) ?_ (dG _);rw[e1,e2];simp only[az,run_eqGuard_agg w op t X Y ⟨vs⟩ ⟨us⟩ hcond.2,aj];subst hop;cases ne
    ·simp only[aO,if_false];rw[run_eql_struct,heq];rfl
    ·simp only[if_true];rw[run_neq_struct,heq];rfl
   |_=>rw[hu,hw]at hv;simp at hv
  |_=>rw[hu]at hv;simp at hv
 ·split at hr<;>cases hr
 ·split at hr<;>cases hr
theorem xH(hM:aN C x s a w){ne:Bool}{q:Arg}(hr:bz P o=some (.isnil ne q)){K:Bool->Prop}
 (h:match s.ev q with
  | .byt l _=>∀b:Bool,(b=true->l=[])->K (b !=ne)
  | .lst _ xs _=>∀b:Bool,(b=true->xs=[])->K (b !=ne)
  | .psl _ _ _ _ _=>K ne
  |_=>False):∃b,K b/\cn P C o a w (s.put o.dst (.bool b)):=by
 have hop:∃op t X Y u,o.op= .binOp op t X Y u/\(op=if ne then .neq else .eql)/\(∃e,P.underlying t=some (.slice e))/\bx P t X=some q/\Y= .const (.slice none 0 0):=by
  cases ho:o.op with
  |binOp op t X Y u=>
   simp only[bz,ho]at hr;split at hr<;>try (cases hr;done)
   ·split at hr<;>cases hr
   ·split at hr<;>try (cases hr;done)
    split at hr<;>try (cases hr;done)
    split at hr<;>cases hr
   ·rename_i e x' _ hd hx hy
    split at hr<;>first|(cases hr;done)|(cases hr;exact⟨_,_,_,_,_,rfl,rfl,⟨_,hd⟩,hx,rfl⟩)
   ·split at hr<;>first|(cases hr;done)|contradiction
  |_=>exfalso;exact absurd hr (by
   intro hr;simp only[bz,ho]at hr
   first
    |(cases hr;done)
    |(obtain⟨_,_,h⟩:=ae.1 hr;cases h;done)
    |(repeat' split at hr)<;>first|(cases hr;done)|contradiction|(obtain⟨_,_,h⟩:=ae.1 hr;first|(cases h;done)|(split at h<;>cases h;done)))
 obtain⟨op,t,X,Y,u,ho,hop,⟨e,hd⟩,hX,hY⟩:=hop;have hex:execOp a.eval o=(do pure (.value (<-(do eqGuard op t X Y (a.eval X) (a.eval Y);binOp op t (a.eval X) (a.eval Y):Sem Value)))):=by simp only[execOp,ho]
 have hrep:=aP hM hX;have hYv:a.eval Y= .slice none 0 0:=by rw[hY];rfl
 have run:∀ad n cp,a.eval X= .slice ad n cp->cn P C o a w (s.put o.dst (.bool (ad.isNone !=ne))):=by
  intro ad n cp hXv
  have hg:∀v1 v2 v3 v4 v5,(eqGuard op t X Y (.slice v1 v2 v3) (.slice none v4 v5))=pure ():=by intros;subst hop;cases ne<;>rfl
  refine cn.val hM hex (u:= .bool (ad.isNone !=ne)) ?_ (dG _);rw[hXv,hYv,hg];simp only[az,aJ,aj]
  have heq:(Op.equal t (.slice ad n cp) (.slice none 0 0)).run P w= .ok ad.isNone w:=by rw[show Op.equal t (.slice ad n cp) (.slice none 0 0)=Op.equalIn (9999+1) t (.slice ad n cp) (.slice none 0 0)from rfl,Op.equalIn];simp only[az,run_underlying hd,aj];cases ad<;>rfl
  subst hop;cases ne
  ·simp only[aO,if_false,binOp,az,heq,aj,aJ];cases ad<;>rfl
  ·simp only[if_true,binOp,az,heq,aj,aJ];cases ad<;>rfl
 cases hu:s.ev q with
 |byt l tk=>
  rw[hu]at h hrep;have hdat:=hrep.data rfl;cases hv:a.eval X with
  |slice ad n cp=>
   refine⟨_,h ad.isNone (fun hn=> ?_),run ad n cp hv⟩;rw[hv]at hdat;cases hdat with
   |bytN=>rfl
   |bytE=>simp at hn
   |byt _ _ b off _ _ _ _ _=>simp at hn
  |_=>rw[hv]at hdat;cases hdat
 |lst sz xs tk=>
  rw[hu]at h hrep;have hdat:=hrep.data rfl;cases hv:a.eval X with
  |slice ad n cp=>
   refine⟨_,h ad.isNone (fun hn=> ?_),run ad n cp hv⟩;rw[hv]at hdat;cases hdat with
   |lstN=>rfl
   |lstE=>simp at hn
   |lst _ _ _ b off _ _ _ _ _ _ _ _=>simp at hn
  |_=>rw[hv]at hdat;cases hdat
 |psl o' sz off n cp=>rw[hu]at h hrep;obtain⟨cp,_,_,off',he,_⟩:=hrep.psl_inv;refine⟨_,h, ?_⟩;have:=run _ _ _ he;simpa using this
 |_=>rw[hu]at h;exact h.elim
end Go.Sy
namespace Go.Sy
variable [bf]
variable {P : Program} {C : Ctx} {x : Sit} {s : St} {a : Act} {w : World} {o : Oper} {so : SOp} {e : Eff}
theorem aN.newObj(hM:aN C x s a w){d:Nat}(sl:Option Nat)(hd100:100<=d){cv:Array Value}{t:TypeId}(obj:aC){val:SV}{u:Value}(hs:obj.size<=cv.size)(hr:∀k,k<obj.size->cf x obj k (cv.getD k Go.undef))
 (hv:Rep (x.newO d w.heap.size) val u):
 aN C (x.newO d w.heap.size) (((s.purge d (d+1)).addO d (obj.purge d (d+1))).put sl val) (a.put sl u) (w.alloc (.cells cv t (0,0))):=by
 refine aN.put ⟨?_,hM.defers, ?_⟩ sl hv
 ·exact cj.mono (x:=x) (x':=x.newO d w.heap.size) (lo:=d) (hi:=d+1) (fun _ _ _ h=>h) (Sit.newO_ne x d _) (fun _ _=>rfl) hM.tm
 ·exact hM.heap.allocO d hd100 obj (fun i _ h=>by omega) hs hr (bH _) (fun _ h=>by omega)
theorem cn.newObj(hM:aN C x s a w){d:Nat}(hd100:100<=d){m:Sem Value}{cv:Array Value}{t:TypeId}(obj:aC){val:SV}{u:Value}(he:execOp a.eval o=(do pure (.value (<-m))))
 (hm:m.run P w= .ok u (w.alloc (.cells cv t (0,0)))) (hs:obj.size<=cv.size) (hr:∀k,k<obj.size->cf x obj k (cv.getD k Go.undef)) (hv:Rep (x.newO d w.heap.size) val u):
 cn P C o a w (((s.purge d (d+1)).addO d (obj.purge d (d+1))).put o.dst val):=
 ⟨u,w.alloc (.cells cv t (0,0)),_,.value u,by rw[he];simp[hm],.inl rfl,hM.newObj o.dst hd100 obj hs hr hv⟩
theorem gX(x:Sit)(d b:Nat){k:Nat}:(x.newO d b k).bk d=(b,k):=if_pos rfl
theorem iZ(x:Sit)(d b:Nat){k:Nat}:((x.newO d b k).bk d).1=b:=by rw[gX]
theorem Dp(hM:aN C x s a w){t:TypeId}(ho:o.op= .alloc t)(hr:bz P o=some so)(he:eff s o.dst so=some e):cn P C o a w (s.app o.dst e):=by
 simp only[bz,ho]at hr;split at hr<;>try (cases hr;done)
 rename_i obj z hobj hz;split at hr<;>try (cases hr;done)
 rename_i his;cases hr;simp only[eff]at he;split at he<;>try (cases he;done)
 rename_i d hd;cases he;obtain⟨zv,hzc,hzr⟩:=cS hz;simp only[XY,aA,decide_eq_true_eq,aV,dJ]at his;simp only[St.app];have hd':o.dst.getD 0=d:=by rw[hd];rfl
 rw[hd'];refine cn.newObj hM (d:=d+100) (by omega) obj (m:=Instr.alloc t true (.tuple #[])) (cv:=zv.cells) (t:=t) (u:= .pointer (some ⟨w.heap.size,0,none⟩)) (by simp only[execOp,ho]) ?_ (by rw[<-aS,hzc];exact his.1) (fun k hk=> ?_) ?_
 ·simp only[Instr.alloc,az,hzr,aj,newVar,newRow,run_newObj_alloc,aJ]
 ·have h1:=his.2 k hk
  have h2:zv.cells.getD k Go.undef=z.getD k Go.undef:=by rw[<-hzc];simp[aQ]
  rw[h2];cases obj with
  |rc cs=>exact o8 h1
  |arr sz xs=>exact lC h1
  |bar l=>exact lC h1
 ·have:=Rep.ptr (x:=x.newO (d+100) w.heap.size) (d+100) 0
  rw[iZ]at this;exact this
theorem Rx(hM:aN C x s a w){t:TypeId}{X:Operand}(ho:o.op= .box t X)(hr:bz P o=some so)(he:eff s o.dst so=some e):cn P C o a w (s.app o.dst e):=by
 simp only[bz,ho]at hr;obtain⟨r,hra,rfl⟩:=ae.1 hr;have hrep:=aP hM hra;simp only[eff]at he;split at he<;>try (cases he;done)
 rename_i d hd;cases he;simp only[St.app];have hc:(s.ev r).isDef=true->cj x (s.ev r).cells (a.eval X).cells.toList:=hrep.cells;have hu:(s.ev r).isDef=true\/(s.ev r).cells=[]:=by cases s.ev r<;>simp[SV.isDef,SV.cells]
 have hd':o.dst.getD 0=d:=by rw[hd];rfl
 rw[hd'];refine cn.newObj hM (d:=d+100) (by omega) (.rc (s.ev r).cells) (m:=Instr.box t (a.eval X)) (cv:=(a.eval X).cells) (t:=t) (u:= .pointer (some ⟨w.heap.size,0,none⟩)) (by simp only[execOp,ho]) ?_ ?_ (fun k hk=> ?_) ?_
 ·simp only[Instr.box,az,aj,newVar,newRow,run_newObj_alloc,aJ]
 ·rcases hu with hu|hu
  ·have:=(hc hu).1;simp only[aC.size];rw[<-aS];omega
  ·simp[aC.size,hu]
 ·rcases hu with hu|hu
  ·have:=(hc hu).2 k hk
   simp only[cf];have e1:(a.eval X).cells.getD k Go.undef=(a.eval X).cells.toList.getD k Go.undef:=by simp[aQ]
   rw[e1];exact this
  ·simp[aC.size,hu]at hk
 ·have:=Rep.ptr (x:=x.newO (d+100) w.heap.size) (d+100) 0
  rw[iZ]at this;exact this
theorem kt{t el:TypeId}{by_ n:Nat}{zs:List Value}{l c:Int}{k1 k2:IntKind}(hd:P.underlying t=some (.slice el))(hn:fd P el=some n)(hb:sO P el=some by_)(hz:fU P el=some zs)
 (h0:0<=l) (h1:l<=c) (h2:(by_:Int)*c<=140737488355328) (h3:c<=9223372036854775807):
 ∃cv:Array Value,(Instr.makeSlice t (.int k1 l) (.int k2 c)).run P w= .ok (.slice (some ⟨w.heap.size,0,none⟩) l.toNat c.toNat) (w.alloc (.cells cv el (0,0)))/\cv.size=c.toNat*n/\
  ∀k,k<c.toNat*n->cv.getD k Go.undef=zs.getD (k % zs.length) default:=by
 obtain⟨z,hzc,hzr⟩:=cS hz;have wl:ah.wrap l=l:=by rw[dh];omega
 have wc:ah.wrap c=c:=by rw[dh];omega
 have hby:∃i,P.info? el=some i/\i.bytes=by_:=by
  unfold sO at hb;cases hi:P.info? el with
  |none=>simp[hi]at hb
  |some i=>simp[hi]at hb;exact⟨i,rfl,hb⟩
 obtain⟨i,hi,hib⟩:=hby
 have hc1:¬((decide (c<0)||decide ((i.bytes:Int)*c>2^48)||decide (l<0)||decide (l>c))=true):=by rw[hib];simp;omega
 have key:∀(zz:Array Value),(c.toNat*n=0\/zz=z.cells)->∃cv:Array Value,cv=(Array.range (c.toNat*n)).map (fun j=>zz[j % zz.size]!)/\cv.size=c.toNat*n/\∀k,k<c.toNat*n->cv.getD k Go.undef=zs.getD (k % zs.length) default:=by
  intro zz hzz;refine⟨_,rfl,by simp,fun k hk=> ?_⟩;rcases hzz with h|rfl
  ·omega
  ·rw[<-hzc]
   simp[aQ,hk];rw[getElem!_def];cases z.cells[k % z.cells.size]? <;>rfl
 by_cases hz0:c.toNat*n=0
 ·obtain⟨cv,hcv,r1,r2⟩:=key #[] (.inl hz0)
  refine⟨cv, ?_,r1,r2⟩;simp only[Instr.makeSlice,az,run_underlying hd,aj,asInt,asIntOf,aJ,run_typeInfo w hi,wl,wc];rw[if_neg (by simpa using hc1)];simp only[az,run_askRoom,aj,b9 hn];rw[if_pos hz0];simp only[az,aJ,aj,newRow,run_newObj_alloc,hcv]
 ·obtain⟨cv,hcv,r1,r2⟩:=key z.cells (.inr rfl)
  refine⟨cv, ?_,r1,r2⟩;simp only[Instr.makeSlice,az,run_underlying hd,aj,asInt,asIntOf,aJ,run_typeInfo w hi,wl,wc];rw[if_neg (by simpa using hc1)];simp only[az,run_askRoom,aj,b9 hn];rw[if_neg hz0];simp only[az,aJ,aj,hzr,newRow,run_newObj_alloc,hcv]
end Go.Sy
namespace Go.Sy
variable [bf]
variable {P : Program} {C : Ctx} {x : Sit} {s : St} {a : Act} {w : World} {o : Oper} {so : SOp} {e : Eff}
theorem fx{α:Type}(n:Nat)(z d:α)(i:Nat)(h:i<n):(aH n z).getD i d=z:=by rw[aa,List.getElem?_replicate,if_pos h];rfl
theorem mH{t:TypeId}{cs:List SV}(h:x0 P t=some cs):∃vs,fU P t=some vs/\cs.length=vs.length/\∀(G:GM) i,i<cs.length->co G (cs.getD i .undef) (vs.getD i Go.undef):=by obtain⟨z,hz,rfl⟩:=ae.1 h;obtain⟨vs,h1,h2,h3⟩:=jc hz;refine⟨vs,h1,by simpa using h2,fun G i hi=> ?_⟩;rw[aW _ (by rfl)];exact(h3 G i (by simpa using hi)).toData
theorem qk(hM:aN C x s a w){t:TypeId}{X Y:Operand}(ho:o.op= .makeSlice t X Y)(hr:bz P o=some so)(he:eff s o.dst so=some e)(hp:e.pre):cn P C o a w (s.app o.dst e):=by
 have hex:execOp a.eval o=(do pure (.value (<-Instr.makeSlice t (a.eval X) (a.eval Y)))):=by simp only[execOp,ho]
 simp only[bz,ho]at hr;split at hr<;>try (cases hr;done)
 rename_i el hd;split at hr<;>try (cases hr;done)
 rename_i n by_ z l c hn hb hz hl hc;obtain⟨zs,hzc,hzl0,hzr⟩:=mH hz;have h1:=aP hM hl;have h2:=aP hM hc;cases h8:lj P el with
 |true=>
  have hu8:=i6 h8;simp only[h8,if_true]at hr
  by_cases hnb:n=1/\by_=1/\z0 z=true
  ·rw[if_pos hnb]at hr
   obtain⟨rfl,rfl,hz0⟩:=hnb;simp only[aq.injEq]at hr;subst hr;simp only[eff]at he;split at he<;>try (cases he;done)
   rename_i d k1 L k2 K hd1 hL hK;cases he;obtain⟨q0,q1,q2⟩:=hp;rw[hL]at h1;rw[hK]at h2;obtain⟨cv,hrun,hsz,hget⟩:=kt (P:=P) (w:=w) (k1:=k1) (k2:=k2) hd hn hb hzc q0 q1 (by omega) (by omega);simp only[St.app];have hd':o.dst.getD 0=d:=by rw[hd1];rfl
   rw[hd']
   have hz1:z=[.u8 0]:=by
    unfold z0 at hz0;split at hz0
    ·rename_i b;simp at hz0;rw[hz0]
    ·cases hz0
   refine cn.newObj hM (d:=d+100) (by omega) (.bar (aH K.toNat 0)) hex (by rw[h1.int_inv,h2.int_inv];exact hrun) (by simp[aC.size,hsz]) (fun k hk=> ?_) ?_
   ·simp only[aC.size,jS]at hk
    simp only[cf,aC.cell];rw[hget k (by omega),fx _ _ _ _ hk];rw[hz1]at hzl0 hzr;have h0:=hzr x.G 0 (by simp);have:zs.length=1:=by simpa using hzl0.symm
    rw[this,Nat.mod_one]
    match zs,this with
    |[v],_=>exact h0
   ·have:=Rep.psl (x:=x.newO (d+100) w.heap.size) (d+100) 1 0 L.toNat (some K.toNat) 0 K.toNat (.inr (by omega)) (by omega) (fun _ e=>by cases e;rfl) (fun e=>by cases e)
    rw[iZ]at this;exact this
  ·rw[if_neg hnb]at hr;cases hr
 |false=>
  simp only[h8,aO,if_false]at hr
  by_cases hzl:z.length=n/\n≠0
  ·rw[if_pos hzl]at hr
   simp only[aq.injEq]at hr;subst hr;obtain⟨hzl,hn0⟩:=hzl;simp only[eff]at he;split at he<;>try (cases he;done)
   rename_i d k1 L k2 K hd1 hL hK;cases he;obtain⟨q0,q1,q2,q3⟩:=hp;rw[hL]at h1;rw[hK]at h2;obtain⟨cv,hrun,hsz,hget⟩:=kt (P:=P) (w:=w) (k1:=k1) (k2:=k2) hd hn hb hzc q0 q1 q2 q3;simp only[St.app];have hd':o.dst.getD 0=d:=by rw[hd1];rfl
   rw[hd'];refine cn.newObj hM (d:=d+100) (by omega) (.arr z.length (aH K.toNat z)) hex (by rw[h1.int_inv,h2.int_inv];exact hrun) (by simp[aC.size,hsz,hzl]) (fun k hk=> ?_) ?_
   ·simp only[aC.size,jS]at hk
    simp only[cf,aC.cell];rw[hget k (by rw[<-hzl];exact hk),fx _ _ _ _ (Nat.div_lt_of_lt_mul (by rw[cB];exact hk)),<-hzl0];have hlt:k % z.length<z.length:=Nat.mod_lt _ (by omega);have:=hzr x.G _ hlt
    have e1:zs.getD (k % z.length) default=zs.getD (k % z.length) Go.undef:=by rw[aa,aa,ac (by omega)];rfl
    rw[e1];exact this
   ·have:=Rep.psl (x:=x.newO (d+100) w.heap.size) (d+100) z.length 0 L.toNat (some K.toNat) 0 K.toNat (.inr (by omega)) (by omega) (fun _ e=>by cases e;rfl) (fun e=>by cases e)
    rw[iZ]at this;exact this
  ·rw[if_neg hzl]at hr;cases hr
theorem co.oneCell{G:GM}{c:SV}{v:Value}(h:co G c v):v.oneCell'=true:=by cases h<;>rfl
theorem Rep.oneCell{c:SV}{v:Value}(h:Rep x c v)(h1:c.one=true):v.oneCell'=true:=by
 cases h with
 |undef=>simp[SV.one]at h1
 |dat _ _ h _=>exact h.oneCell
 |ptr=>rfl
 |ap=>rfl
 |psl=>rfl
 |agg=>simp[SV.one]at h1
 |tup=>simp[SV.one]at h1
 |fn=>rfl
theorem rO(cs:List SV)(off:Nat)(v:List SV)(h:off+v.length<=cs.length)(i:Nat):(setCells cs off v).getD i .undef=if off<=i/\i<off+v.length then v.getD (i-off) .undef else cs.getD i .undef:=by
 have gen:∀i:Nat,(cs.take off++v++cs.drop (off+v.length)).getD i .undef=if off<=i/\i<off+v.length then v.getD (i-off) .undef else cs.getD i .undef:=by intro i;simp only[aa];rw[fV _ _ _ _ h];split<;>rfl
 unfold setCells;split
 ·rename_i u
  simp only[br]at*;simp only[aa,gr]
  by_cases hi:off=i
  ·subst hi;rw[if_pos rfl,if_pos (by omega),if_pos (by omega)];simp
  ·rw[if_neg hi,if_neg (by omega)]
 ·exact gen i
theorem nb(cs:List SV)(off:Nat)(v:List SV)(h:off+v.length<=cs.length):(setCells cs off v).length=cs.length:=by
 unfold setCells;split
 ·simp
 ·simp;omega
theorem cn.store(hM:aN C x s a w){t:TypeId}{X Y:Operand}(ho:o.op= .store t X Y){n:Nat}(hn:fd P t=some n){d off:Nat}(hX:a.eval X= .pointer (some ⟨(x.bk d).1,off,none⟩)){obj obj':aC}(hl:s.look d=some obj)
 {vs:List Value} (hY:(a.eval Y).cells.toList=vs) (hvn:vs.length=n) (hone:∀v∈vs,v.oneCell'=true) (hb:off+n<=obj.size)
 (hsz:obj'.size=obj.size) (hnew:∀c:Array Value,(∀k,k<obj.size->cf x obj k (c.getD k Go.undef))->∀k,k<obj.size->cf x obj' k (if off<=k/\k<off+n then vs.getD (k-off) Go.undef else c.getD k Go.undef)) (harr:obj'.arrB=obj.arrB:=by rfl):
 cn P C o a w ((s.setO d obj').put o.dst .undef):=by
 obtain⟨c,e,fl,fh,hO,⟨hs,hs2,hs3⟩,hr⟩:=eT hM hl;obtain⟨g1,g2,g3,g4,g5⟩:=dn ((x.bk d).1) vs w off;obtain⟨c',hO',hcs,hck⟩:=dd vs w off c hO (by omega);refine⟨Go.undef,bU w ((x.bk d).1) off vs,x,.skip, ?_,.inr ⟨rfl,rfl⟩,aN.put (s:=s.setO d obj') ⟨hM.tm,hM.defers, ?_⟩ o.dst (.undef _)⟩
 ·simp only[execOp,ho,Instr.storeAt,hX,Instr.sureAddr,az,aJ,aj,storeVar,b9 hn]
  have hsz':(a.eval Y).cells.size=n:=by rw[<-aS,hY];exact hvn
  rw[if_neg (by simp[hsz']),hY,fv off vs w c 0 hO (by omega) hone];rfl
 ·refine hM.heap.block (db hl) g1 g2 g3 g4 g5 ⟨c',e,fl,fh,hO',⟨by omega,by omega,fun h=>by rw[hcs];exact hs3 (harr ▸ h)⟩,fun k hk=> ?_⟩
  rw[hck k,hvn];exact hnew c hr k (by omega)
theorem mf{cs:List SV}{vs:List Value}(h:cj x cs vs)(h1:cs.all SV.one=true):∀v∈vs,v.oneCell'=true:=by
 intro v hv;obtain⟨i,hi,rfl⟩:=bn hv;have hi':i<cs.length:=by rw[h.1];exact hi
 have:=h.2 i hi';have e1:cs.getD i .undef=cs[i]:=by rw[aa,ac hi'];rfl
 have e2:vs.getD i Go.undef=vs[i]:=by rw[aa,ac hi];rfl
 rw[e1,e2]at this;exact this.oneCell (aV.1 h1 _ (bo _))
theorem oC{c:SV}(h:c.isData=true):c.one=true:=by cases c<;>simp[SV.isData,SV.one]at*
theorem PK{sz:Nat}{xs:List (List SV)}(h:∀y∈xs,y.length=sz){i j n:Nat}{v:List SV}(hi:i<xs.length)(hj:j+n<=sz)(hv:v.length=n):
 (iX sz xs i j n v).length=xs.length/\∀k,k<xs.length*sz->((iX sz xs i j n v).getD (k/sz) []).getD (k % sz) .undef=if i*sz+j<=k/\k<i*sz+j+n then v.getD (k-(i*sz+j)) .undef else(xs.getD (k/sz) []).getD (k % sz) .undef:=by
 have hrow:(xs.getD i []).length=sz:=by rw[aa,ac hi];exact h _ (bo _)
 obtain⟨nr,hnr,hset⟩:∃nr:List SV,(∀m,m<sz->nr.getD m .undef=if j<=m/\m<j+n then v.getD (m-j) .undef else(xs.getD i []).getD m .undef)/\iX sz xs i j n v=xs.set i nr:=by
  unfold iX;split
  ·rename_i hc
   obtain⟨rfl,rfl⟩:=hc;exact⟨v,fun m hm=>by rw[if_pos ⟨by omega,by omega⟩,Nat.sub_zero],rfl⟩
  ·refine⟨_,fun m hm=> ?_,rfl⟩
   have:=fV (xs.getD i []) v j m (by omega);rw[hv]at this;simp only[aa]at this ⊢;rw[this];split<;>rfl
 rw[hset];refine⟨by simp,fun k hk=> ?_⟩
 have hsz:0<sz:=by
  rcases gk sz with h0|h0
  ·subst h0;omega
  ·exact h0
 have hkd:=Nat.div_add_mod k sz;have hkm:=Nat.mod_lt k hsz;rw[cB]at hkd;simp only[aa,gr]at hnr ⊢
 by_cases hik:i=k/sz
 ·rw[if_pos hik,if_pos hi]
  simp only[aM];rw[hnr _ hkm,<-hik];rw[<-hik]at hkd
  by_cases hc:j<=k % sz/\k % sz<j+n
  ·rw[if_pos hc,if_pos (by omega),show k-(i*sz+j)=k % sz-j from by omega]
  ·rw[if_neg hc,if_neg (by omega)]
 ·rw[if_neg hik,if_neg ?_]
  rintro⟨h1,h2⟩;apply hik;have:i*sz<=k/\k<(i+1)*sz:=by rw[dy];omega
  rw[eq_comm,Nat.div_eq_iff hsz];rw[dy]at this;omega
theorem lk(sz:Nat):∀(m:Nat)(v:List SV),(jq sz m v).length=m
 |0,_=>rfl
 |m+1,v=>by simp[jq,lk sz m]
theorem rD(sz:Nat)(h0:0<sz):∀(m:Nat)(v:List SV)(k:Nat),k<m*sz->((jq sz m v).getD (k/sz) []).getD (k % sz) .undef=v.getD k .undef
 |0,_,k,hk=>by omega
 |m+1,v,k,hk=>by
  rw[dy]at hk;simp only[jq]
  by_cases h:k<sz
  ·rw[xZ h,cx h,List.getD_cons_zero]
   simp only[aa,bC,if_pos h]
  ·obtain⟨j,rfl⟩:∃j,k=j+sz:=⟨k-sz,by omega⟩
   rw[Nat.add_div_right _ h0,Nat.add_mod_right,lT,rD sz h0 m (v.drop sz) j (by omega)];simp only[aa,bi,Nat.add_comm]
theorem Dm(hM:aN C x s a w){t:TypeId}{X Y:Operand}(ho:o.op= .store t X Y)(hr:bz P o=some so)(he:eff s o.dst so=some e)(hp:e.pre):cn P C o a w (s.app o.dst e):=by
 simp only[bz,ho]at hr;split at hr<;>try (cases hr;done)
 rename_i n r q hn hra hrb;cases hr;have h1:=aP hM hra;have h2:=aP hM hrb;simp only[eff]at he;split at he<;>try (cases he;done)
 rename_i hn0;have hL:=h2.cells hn0;cases hu:s.ev r with
 |ptr d off=>
  rw[hu]at he h1;simp only[pP]at he;split at he<;>try (cases he;done)
  ·rename_i cs hl
   cases he;obtain⟨q0,q1,q2⟩:=hp;refine cn.store hM ho hn h1.ptr_inv hl rfl (by rw[<-hL.1];exact q1) (mf hL q2) q0 (by simp only[aC.size];exact nb _ _ _ (by omega)) (fun c hc k hk=> ?_);have:=hc k hk;simp only[cf]at this ⊢;rw[rO _ _ _ (by omega),q1];split
   ·exact hL.get _
   ·exact this
  ·rename_i sz xs hl
   cases he;obtain⟨rfl,q0,q1,q2⟩:=hp
   refine cn.store hM ho hn h1.ptr_inv hl rfl (by rw[<-hL.1];exact q1) (mf hL (by rw[aV]at q2 ⊢;exact fun z hz=>oC (q2 z hz))) (by simp only[aC.size];omega) (by simp only[aC.size,lk]) (fun c hc k hk=> ?_)
   simp only[aC.size]at hk;have hlt:k<(s.ev q).cells.length:=by omega
   have hsz:0<sz:=by
    rcases gk sz with h0|h0
    ·subst h0;omega
    ·exact h0
   simp only[cf,aC.cell];rw[if_pos ⟨by omega,by omega⟩,Nat.sub_zero,rD sz hsz _ _ _ hk,gg];refine((hL.2 _ hlt).data (aV.1 q2 _ ?_)).toData;generalize (s.ev q).cells=qq at*;rw[aa,ac hlt];exact bo _
  ·rename_i l hl
   split at he<;>try (cases he;done)
   rename_i l' hv;cases he;obtain⟨rfl,q0,q1⟩:=hp;have hv':=rT hv;rw[hv']at hL
   refine cn.store hM ho hn h1.ptr_inv hl rfl (by rw[<-hL.1,aY];exact q1) (mf hL (by rw[aV];intro z hz;obtain⟨b,_,rfl⟩:=aT.1 hz;rfl)) (by simp only[aC.size];omega) (by simp only[aC.size];omega) (fun c hc k hk=> ?_)
   simp only[aC.size]at hk;simp only[cf,aC.cell];rw[if_pos ⟨by omega,by omega⟩,Nat.sub_zero];have hlt:k<(l'.map SV.u8).length:=by rw[aY];omega
   have hlt':k<l'.length:=by omega
   have e1:(l'.map SV.u8).getD k .undef= .u8 (l'.getD k 0):=by simp[aa,aR,ac hlt']
   have:=hL.2 k hlt;rw[e1]at this;exact this.data rfl
 |ap d sz i j=>
  rw[hu]at he h1;simp only[pP]at he;split at he<;>try (cases he;done)
  ·rename_i sz' xs hl
   cases he;obtain⟨rfl,q0,q1,q2,q3,q4⟩:=hp;have hvm:((s.ev q).cells.map SV.data).length=n:=by rw[aY];exact q2
   obtain⟨g1,g2⟩:=PK q3 q0 q1 hvm
   have hb:i*sz+j+n<=xs.length*sz:=by have:=aX sz (Nat.succ_le_of_lt q0);rw[dy]at this;omega
   refine cn.store hM ho hn h1.ap_inv hl rfl (by rw[<-hL.1];exact q2) (mf hL (by rw[aV]at q4 ⊢;exact fun z hz=>oC (q4 z hz))) (by simp only[aC.size];exact hb) (by simp only[aC.size];rw[g1]) (fun c hc k hk=> ?_)
   have:=hc k hk;simp only[cf,aC.cell,aC.size]at this hk ⊢;rw[g2 k hk];split
   ·rename_i hin
    rw[gg];have hlt:k-(i*sz+j)<(s.ev q).cells.length:=by omega
    refine((hL.2 _ hlt).data (aV.1 q4 _ ?_)).toData;generalize (s.ev q).cells=qq at*;rw[aa,ac hlt];exact bo _
   ·exact this
  ·rename_i l hl
   split at he<;>try (cases he;done)
   rename_i b hb;cases he;obtain⟨rfl,rfl,rfl,q0⟩:=hp;rw[hb]at hL;refine cn.store hM ho hn h1.ap_inv hl rfl (by rw[<-hL.1];rfl) (mf hL rfl) (by simp only[aC.size];omega) (by simp[aC.size]) (fun c hc k hk=> ?_);have:=hc k hk;simp only[cf,aC.cell,aC.size]at this hk ⊢;simp only[iJ,gx]
   by_cases hki:k=i
   ·subst hki
    rw[if_pos (by omega),Nat.sub_self];have e1:(l.set k b).getD k 0=b:=by rw[aa,gr,if_pos rfl,if_pos hk];rfl
    rw[e1];exact(hL.2 0 (by simp)).data rfl
   ·rw[if_neg (by omega)]
    have e1:(l.set i b).getD k 0=l.getD k 0:=by rw[aa,gr,if_neg (fun e=>hki e.symm),<-aa]
    rw[e1];exact this
 |_=>rw[hu]at he;simp[pP]at he
end Go.Sy
namespace Go.Sy
variable [bf]
variable {P : Program} {C : Ctx} {x : Sit} {s : St} {a : Act} {w : World} {o : Oper} {so : SOp} {e : Eff}
def Y4(G:GM)(b off:Nat)(fl:List SV):Prop:=∀k,k<fl.length->∃v,G b (off+k)=some v/\co G (fl.getD k .undef) v
def Cb(G:GM)(sz:Nat)(fl:List SV)(v:Value)(n cap:Nat):Prop:=
 n*sz=fl.length/\n<=cap/\((∃b off,v= .slice (some ⟨b,off,none⟩) n cap/\Y4 G b off fl)\/((∃a,v= .slice a 0 0)/\n=0/\cap=0))
theorem iw(l:List UInt8)(k:Nat)(h:k<l.length):(l.map SV.u8).getD k .undef= .u8 (l.getD k 0):=by simp only[aa,aR];rw[ac h];rfl
theorem vN{G:GM}{l:List UInt8}{t:Tok}{v:Value}(h:co G (.byt l t) v):∃cap,Cb G 1 (l.map .u8) v l.length cap/\∃bs,v= .slice bs l.length cap:=by
 cases h with
 |bytN=>exact⟨0,⟨by simp,by simp,.inr ⟨⟨none,rfl⟩,rfl,rfl⟩⟩,none,rfl⟩
 |bytE _ a=>exact⟨0,⟨by simp,by simp,.inr ⟨⟨some a,rfl⟩,rfl,rfl⟩⟩,some a,rfl⟩
 |byt _ _ b off cap n hn hc h=>subst hn;refine⟨cap,⟨by simp,hc,.inl ⟨b,off,rfl,fun k hk=> ?_⟩⟩,_,rfl⟩;rw[aY]at hk;exact⟨_,h k hk,by rw[iw _ _ hk];exact .u8 _⟩
theorem Gx{G:GM}{l:List UInt8}{t:Tok}{v:Value}{cap:Nat}(h:Cb G 1 (l.map .u8) v l.length cap):co G (.byt l t) v:=by
 obtain⟨_,hc,⟨b,off,rfl,hr⟩|⟨⟨a,rfl⟩,h0,_⟩⟩:=h
 ·refine .byt l t b off cap l.length rfl hc fun i hi=> ?_
  obtain⟨v,hv,hrep⟩:=hr i (by simpa using hi);rw[iw _ _ hi]at hrep;cases hrep;exact hv
 ·have:l=[]:=cd.1 h0
  subst this;cases a with
  |none=>exact .bytN t
  |some a=>exact .bytE t a
theorem bJ{sz:Nat}{xs:List (List SV)}(h:∀y∈xs,y.length=sz):xs.flatten.length=xs.length*sz:=by
 induction xs with
 |nil=>simp
 |cons y r ih=>simp only[cr,af,am,dy];rw[ih (fun z hz=>h z (av _ hz)),h y (by simp)];omega
theorem uA{sz:Nat}{xs:List (List SV)}(h:∀i,i<xs.length->(xs.getD i []).length=sz):∀y∈xs,y.length=sz:=by intro y hy;obtain⟨i,hi,rfl⟩:=bn hy;have:=h i hi;rwa[aa,ac hi]at this
theorem px{G:GM}{sz:Nat}{xs:List (List SV)}{t:Tok}{v:Value}(h:co G (.lst sz xs t) v):∃cap,Cb G sz xs.flatten v xs.length cap/\(∃bs,v= .slice bs xs.length cap)/\∀y∈xs,y.length=sz:=by
 cases h with
 |lstN=>exact⟨0,⟨by simp,by simp,.inr ⟨⟨none,rfl⟩,rfl,rfl⟩⟩,⟨none,rfl⟩,by simp⟩
 |lstE _ _ a=>exact⟨0,⟨by simp,by simp,.inr ⟨⟨some a,rfl⟩,rfl,rfl⟩⟩,⟨some a,rfl⟩,by simp⟩
 |lst _ _ _ b off cap n vl hn hc hl hg h=>
  subst hn;have hrows:=uA hl;refine⟨cap,⟨(bJ hrows).symm,hc,.inl ⟨b,off,rfl,fun k hk=> ?_⟩⟩,⟨_,rfl⟩,hrows⟩;rw[bJ hrows]at hk
  have hsz:0<sz:=by
   rcases gk sz with h0|h0
   ·subst h0;omega
   ·exact h0
  have hd:k/sz<xs.length:=Nat.div_lt_of_lt_mul (by rw[cB];exact hk);have hm:=Nat.mod_lt k hsz;have hkd:=Nat.div_add_mod k sz;rw[cB]at hkd;refine⟨vl (k/sz) (k % sz), ?_, ?_⟩
  ·have:=hg _ _ hd hm
   rwa[ep,hkd]at this
  ·rw[cJ xs hrows k hk];exact h _ _ hd hm
theorem FW{G:GM}{sz:Nat}{xs:List (List SV)}{t:Tok}{v:Value}{cap:Nat}(h:Cb G sz xs.flatten v xs.length cap)(hrows:∀y∈xs,y.length=sz):co G (.lst sz xs t) v:=by
 obtain⟨_,hc,⟨b,off,rfl,hr⟩|⟨⟨a,rfl⟩,h0,_⟩⟩:=h
 ·refine .lst sz xs t b off cap xs.length (fun i j=>(G b (off+i*sz+j)).getD Go.undef) rfl hc (fun i hi=> ?_) (fun i j hi hj=> ?_) (fun i j hi hj=> ?_)
  ·rw[aa,ac hi];exact hrows _ (bo _)
  all_goals
   have hk:i*sz+j<xs.length*sz:=by have:=aX sz (Nat.succ_le_of_lt hi);rw[dy]at this;omega
   obtain⟨v,hv,hrep⟩:=hr (i*sz+j) (by rw[bJ hrows];exact hk);rw[<-ep]at hv
  ·rw[hv];rfl
  ·rw[hv]
   rw[cJ xs hrows _ hk,show(i*sz+j)/sz=i from by rw[cB,Nat.mul_add_div (by omega),xZ (by omega)];rfl,
    show(i*sz+j) % sz=j from by rw[cB,Nat.mul_add_mod,cx (by omega)]]at hrep
   exact hrep
 ·have:xs=[]:=cd.1 h0
  subst this;cases a with
  |none=>exact .lstN sz t
  |some a=>exact .lstE sz t a
theorem Y4.mono{G G':GM}(hG:∀b o v,G b o=some v->G' b o=some v){b off:Nat}{fl:List SV}(h:Y4 G b off fl):Y4 G' b off fl:=fun k hk=>by obtain⟨v,hv,hr⟩:=h k hk;exact⟨v,hG _ _ _ hv,hr.mono hG⟩
structure New(x:Sit)(ns:List Value)(fl:List SV):Prop where
 len:fl.length=ns.length
 rep:∀k,k<fl.length->co x.G (fl.getD k .undef) (ns.getD k Go.undef)
 one:∀v∈ns,v.oneCell'=true
theorem bV(z:Array Value)(n:Nat):(Builtin.zeroCells z n).size=n*z.size:=by simp[Builtin.zeroCells]
theorem aN.retok(hM:aN C x s a w){t:Tok}(ht:t.ready s=true)(d:Nat){sz n cap:Nat}{bs:Option Addr}(hsp:dt x sz t (.slice bs n cap)):
 ∃b lo hi,aN C (x.newT d b lo hi) (s.grew t d) a w/\dt (x.newT d b lo hi) sz (.id d) (.slice bs n cap):=by
 have empty:cap=n->∃b lo hi,aN C (x.newT d b lo hi) (s.grew t d) a w/\dt (x.newT d b lo hi) sz (.id d) (.slice bs n cap):=by
  intro hc;refine⟨0,0,0,⟨?_,hM.defers, ?_⟩,bs,n,cap,rfl,.inl hc⟩
  ·exact cj.mono (x:=x) (x':=x.newT d 0 0 0) (lo:=d) (hi:=d+1) (fun _ _ _ h=>h) (fun _ _=>rfl) (Sit.newT_ne x d 0 0 0) hM.tm
  ·refine(hM.heap.sub (tk':=t.eat s.tk) (mZ.refl _) ?_).addT d 0 0 0 (.inl rfl) (.inl rfl) (.inl rfl)
   intro u hu;cases t with
   |id t=>exact fY hu
   |_=>exact hu
 cases t with
 |no=>simp[Tok.ready]at ht
 |clip=>obtain⟨b',n',he⟩:=hsp;simp only[Value.slice.injEq]at he;exact empty (by omega)
 |id t=>
  obtain⟨b',n',cap',he,hh⟩:=hsp;simp only[Value.slice.injEq]at he;obtain⟨rfl,rfl,rfl⟩:=he;rcases hh with hc|⟨b,off,rfl,hτ⟩
  ·exact empty hc
  ·have htm:t∈s.tk:=by simpa[Tok.ready]using ht
   refine⟨b,off+n*sz,off+cap*sz,⟨?_,hM.defers, ?_⟩,_,n,cap,rfl,.inr ⟨b,off,rfl,Sit.newT_eq x d _ _ _⟩⟩
   ·exact cj.mono (x:=x) (x':=x.newT d b (off+n*sz) (off+cap*sz)) (lo:=d) (hi:=d+1) (fun _ _ _ h=>h) (fun _ _=>rfl) (Sit.newT_ne x d _ _ _) hM.tm
   ·have h1:=hM.heap.tks t htm
    unfold gS at h1;rw[hτ]at h1;refine(hM.heap.sub (tk':=cz t (t+1) s.tk) (mZ.refl _) (fun u hu=>fY hu)).addT d b (off+n*sz) (off+cap*sz) h1 ?_ ?_
    ·by_cases hc:off+n*sz=off+cap*sz
     ·exact .inl hc
     ·refine .inr fun p hp _=> ?_
      have:=hM.heap.tko t htm p hp;rw[hτ]at this;exact this.resolve_right hc
    ·by_cases hc:off+n*sz=off+cap*sz
     ·exact .inl hc
     ·refine .inr fun u hu _=> ?_
      obtain⟨hu,hne⟩:=bK.1 hu;have:=hM.heap.tkd t htm u hu (by omega);rw[hτ]at this;rcases this with h|h|h
      ·exact .inl h
      ·exact absurd h hc
      ·exact .inr h
theorem ew{t u el:TypeId}{d2:TypeDesc}{n m len cap:Nat}(hd:P.underlying t=some (.slice el))(hu:P.underlying u=some d2)(hu2:(∃e',d2= .slice e')\/d2= .string)(hn:fd P el=some n){ty:TypeId}{bs:Option Addr}{Y:Value}{ns:List Value}{w1:World}
 (hlen:(Builtin.lenOf Y).run P w= .ok m w) (hcells:(Builtin.firstCells n m Y).run P w= .ok ns.toArray w) (hc:len+m<=cap)
 (hst:(match bs with|some ad=>storeCells (ad.add (len*n)) ns|none=>pure ():Sem Unit).run P w= .ok () w1):
 (Builtin.append_ #[t,u] ty #[.slice bs len cap,Y]).run P w= .ok (.slice bs (len+m) cap) w1:=by
 have e:(#[t,u]:Array TypeId)[0]? =some t:=rfl;have e':(#[t,u]:Array TypeId)[1]? =some u:=rfl;have e2:(#[Value.slice bs len cap,Y]:Array Value)[0]? =some (.slice bs len cap):=rfl;have e3:(#[Value.slice bs len cap,Y]:Array Value)[1]? =some Y:=rfl;rcases hu2 with⟨e4,rfl⟩|rfl
 all_goals
  simp only[Builtin.append_,e,e',e2,e3,az,run_underlying hd,aj,b9 hn,run_underlying hu,aJ,aO,if_false,hlen,hc,if_true,Bool.not_false,hcells];cases bs with
  |none=>simp only[aJ]at hst;cases hst;rfl
  |some ad=>simp only[az];rw[hst];rfl
theorem eK{t u el:TypeId}{d2:TypeDesc}{n m len cap by_:Nat}{i:TypeInfo}{z:Value}(hd:P.underlying t=some (.slice el))(hu:P.underlying u=some d2)(hu2:(∃e',d2= .slice e')\/d2= .string)(hn:fd P el=some n){ty:TypeId}{bs:Option Addr}{Y:Value}{os ns:List Value}
 (hi:P.info? el=some i) (hib:i.bytes=by_) (hb0:by_≠0) (hzr:∀w,(zeroValue el).run P w= .ok z w)
 (hlen:∀w',w'.heap=w.heap->(Builtin.lenOf Y).run P w'= .ok m w') (hcells:∀w',w'.heap=w.heap->(Builtin.firstCells n m Y).run P w'= .ok ns.toArray w') (hold:∀w',w'.heap=w.heap->(Builtin.firstCells n len (.slice bs len cap)).run P w'= .ok os.toArray w')
 (hc:¬len+m<=cap) (hroom:(len+m)*by_<=140737488355328):
 ∃nc,len+m<=nc/\(Builtin.append_ #[t,u] ty #[.slice bs len cap,Y]).run P w= .ok (.slice (some ⟨w.heap.size,0,none⟩) (len+m) nc) (w.drew.alloc (.cells (os.toArray++ns.toArray++Builtin.zeroCells z.cells (nc-(len+m))) el (0,0))):=by
 have e:(#[t,u]:Array TypeId)[0]? =some t:=rfl;have e':(#[t,u]:Array TypeId)[1]? =some u:=rfl;have e2:(#[Value.slice bs len cap,Y]:Array Value)[0]? =some (.slice bs len cap):=rfl;have e3:(#[Value.slice bs len cap,Y]:Array Value)[1]? =some Y:=rfl;have hf:(Question.appendCap (len+m) cap el).forced=false:=rfl
 have hfit:¬Builtin.nextslicecap (len+m) cap*i.bytes>2^48:=by have:=growslice_fits (need:=len+m) (old:=cap) (bytes:=by_) (by omega) hroom;rw[hib];omega
 refine⟨(Question.appendCap (len+m) cap el).cut (w.tape w.drawn (Question.appendCap (len+m) cap el)),by simp only[Question.cut];omega, ?_⟩;rcases hu2 with⟨e4,rfl⟩|rfl
 all_goals
  simp only[Builtin.append_,e,e',e2,e3,az,run_underlying hd,aj,b9 hn,run_underlying hu,aJ,aO,if_false,hlen w rfl,hc,run_typeInfo w hi,hib,hb0,false_or,and_false];rw[if_neg (by rw[<-hib];exact hfit)];simp only[az,run_choose_drew,hf,aO,if_false,aj,run_typeInfo w.drew hi,run_askRoom,hold w.drew rfl,Bool.not_false,if_true,hcells w.drew rfl,hzr,newRow,run_newObj_alloc,aJ];rfl
theorem jR(os ns:List Value)(r:Array Value)(k:Nat)(h:k<os.length+ns.length):(os.toArray++ns.toArray++r)[k]? =(os++ns)[k]? :=by rw[b8 (by simp;omega)];rw[<-cP];simp
theorem nW(hM:aN C x s a w){t u el:TypeId}{d2:TypeDesc}{n by_:Nat}{zs:List Value}(hd:P.underlying t=some (.slice el))(hu:P.underlying u=some d2)(hu2:(∃e',d2= .slice e')\/d2= .string)(hn:fd P el=some n)(hb:sO P el=some by_)
 (hz:fU P el=some zs) (hb0:by_≠0) (hn0':n≠0) (hzl:zs.length=n) {ty:TypeId} {X Y:Value} {tok:Tok} {fl fl':List SV} {ns:List Value} {len m cap:Nat} (hX:Cb x.G n fl X len cap) (htok:tok.ready s=true) (hsp:dt x n tok X)
 (hlen:∀w',w'.heap=w.heap->(Builtin.lenOf Y).run P w'= .ok m w') (hcells:∀w',w'.heap=w.heap->(Builtin.firstCells n m Y).run P w'= .ok ns.toArray w') (hnl:ns.length=m*n) (hnew:New x ns fl') (hroom:(len+m)*by_<=140737488355328) (d:Nat):
 ∃v w' x' cap',(Builtin.append_ #[t,u] ty #[X,Y]).run P w= .ok v w'/\aN C x' (s.grew tok d) a w'/\Cb x'.G n (fl++fl') v (len+m) cap'/\dt x' n (.id d) v:=by
 obtain⟨hfl,hlc,hX'⟩:=hX;obtain⟨z,hzc,hzr⟩:=cS hz
 have hby:∃i,P.info? el=some i/\i.bytes=by_:=by
  unfold sO at hb;cases hi:P.info? el with
  |none=>simp[hi]at hb
  |some i=>simp[hi]at hb;exact⟨i,rfl,hb⟩
 obtain⟨i,hi,hib⟩:=hby
 obtain⟨bs,hXe⟩:∃bs,X= .slice bs len cap:=by
  rcases hX' with⟨b,off,rfl,_⟩|⟨⟨a,rfl⟩,rfl,rfl⟩
  ·exact⟨_,rfl⟩
  ·exact⟨_,rfl⟩
 subst hXe;have hfl':fl'.length=m*n:=by rw[hnew.len,hnl]
 have hsum:(len+m)*n=(fl++fl').length:=by rw[af,hfl',<-hfl,bv]
 by_cases hc:len+m<=cap
 ·by_cases hm:ns=[]
  ·
   subst hm;have hfl0:fl'=[]:=cd.1 (by rw[hnew.len];rfl);subst hfl0;obtain⟨b,lo,hi',hM',hsp'⟩:=hM.retok htok d hsp
   by_cases hm0:m=0
   ·subst hm0
    refine⟨_,w,_,cap,ew hd hu hu2 hn (hlen w rfl) (hcells w rfl) hc (by cases bs<;>rfl),hM', ?_,hsp'⟩;refine⟨by simpa using hfl,hc, ?_⟩;rcases hX' with⟨b,off,he,hr⟩|⟨he,h1,h2⟩
    ·exact .inl ⟨b,off,he,by rw[bG];exact hr⟩
    ·exact .inr ⟨he,h1,h2⟩
   ·
    have hn0:n=0:=by
     simp only[aB]at hnl;rcases Nat.mul_eq_zero.1 hnl.symm with h|h
     ·exact absurd h hm0
     ·exact h
    exact absurd hn0 hn0'
  ·have hpos:0<ns.length:=List.length_pos_iff.2 hm
   have hmn:0<m*n:=by omega
   cases tok with
   |no=>simp[Tok.ready]at htok
   |clip=>
    obtain⟨b',n',he⟩:=hsp;simp only[Value.slice.injEq]at he;have:m=0:=by omega
    subst this;omega
   |id tk=>
    have htm:tk∈s.tk:=by simpa[Tok.ready]using htok
    obtain⟨b',n',cap',he,hh⟩:=hsp;simp only[Value.slice.injEq]at he;obtain⟨rfl,rfl,rfl⟩:=he;rcases hh with hcl|⟨b,off,rfl,hτ⟩
    ·have:m=0:=by omega
     subst this;omega
    ·have hle1:off+len*n+ns.length<=off+cap*n:=by
      rw[hnl,ep,<-bv];exact Nat.add_le_add_left (aX _ hc) _
     obtain⟨f1,f2,f3,f4,f5,f6,f7,⟨c0,e0,fl0,fh0,hO,hcs⟩⟩:=hM.heap.fill htm hτ ns hle1 hpos
     have hrun:=ew (t:=t) (u:=u) (ty:=ty) (Y:=Y) (bs:=some ⟨b,off,none⟩) (w1:=bU w b (off+len*n) ns) hd hu hu2 hn (hlen w rfl) (hcells w rfl) hc (by simp only[di];exact fv (off+len*n) ns w c0 0 hO (by omega) hnew.one)
     refine⟨_,_,(x.fill b (off+len*n) ns).newT d b (off+len*n+ns.length) (off+cap*n),cap,hrun,⟨?_,hM.defers, ?_⟩,⟨hsum,hc,.inl ⟨b,off,rfl, ?_⟩⟩, ?_⟩
     ·exact cj.mono (x:=x) (x':=(x.fill b (off+len*n) ns).newT d b (off+len*n+ns.length) (off+cap*n)) (lo:=d) (hi:=d+1) f1 (fun _ _=>rfl) (Sit.newT_ne (x.fill b (off+len*n) ns) d _ _ _) hM.tm
     ·exact f2.addT d b _ _ (.inr ⟨f3,f4,f5⟩) (.inr fun p hp _=>f6 p hp) (.inr fun u hu _=>f7 u hu)
     ·rcases hX' with⟨b2,off2,he2,hr⟩|⟨he2,_,_⟩
      ·simp only[Value.slice.injEq,aq.injEq,Addr.mk.injEq]at he2
       obtain⟨⟨rfl,rfl,_⟩,_⟩:=he2;intro k hk
       by_cases hk1:k<fl.length
       ·obtain⟨v,hv,hrv⟩:=hr k hk1
        refine⟨v,f1 _ _ _ hv, ?_⟩;have:(fl++fl').getD k .undef=fl.getD k .undef:=by simp only[aa,bq hk1]
        rw[this];exact hrv.mono f1
       ·rw[af]at hk
        refine⟨ns.getD (k-fl.length) Go.undef, ?_, ?_⟩
        ·show(x.fill b (off+len*n) ns).G b (off+k)=_
         simp only[Sit.fill];rw[if_pos ⟨trivial,by omega,by omega⟩,show off+k-(off+len*n)=k-fl.length from by omega]
        ·have:(fl++fl').getD k .undef=fl'.getD (k-fl.length) .undef:=by simp only[aa,bB (Nat.le_of_not_lt hk1)]
         rw[this];exact(hnew.rep _ (by omega)).mono f1
      ·have hm0:m=0:=by omega
       rw[hm0,fo]at hmn;exact absurd hmn (Nat.lt_irrefl _)
     ·refine⟨_,_,cap,rfl,.inr ⟨b,off,rfl, ?_⟩⟩
      rw[Sit.newT_eq,hnl,ep,<-bv]
 ·
  obtain⟨os,hos,hosl,hosv⟩:∃os:List Value,(∀w',w'.heap=w.heap->(Builtin.firstCells n len (.slice bs len cap)).run P w'= .ok os.toArray w')/\os.length=fl.length/\∀k,k<fl.length->co x.G (fl.getD k .undef) (os.getD k Go.undef):=by
   rcases hX' with⟨b,off,he,hr⟩|⟨he,h1,h2⟩
   ·simp only[Value.slice.injEq]at he
    obtain⟨rfl,_⟩:=he;refine⟨(bA (len*n)).map fun k=>(w.cell? ⟨b,off+k,none⟩).getD Go.undef,fun w' hw'=> ?_,by simp[hfl],fun k hk=> ?_⟩
    ·simp only[Builtin.firstCells]
     refine run_loadCells w' _ _ _ fun j hj=> ?_
     rw[di,dr (w:=w) (by rw[hw'])];obtain⟨v,hv,_⟩:=hr j (by omega);rw[hM.heap.per _ _ _ hv];rfl
    ·obtain⟨v,hv,hrv⟩:=hr k hk
     have:((bA (len*n)).map fun k=>(w.cell? ⟨b,off+k,none⟩).getD Go.undef).getD k Go.undef=v:=by rw[aa];simp[show k<len*n from by omega,hM.heap.per _ _ _ hv]
     rw[this];exact hrv
   ·obtain⟨a,he⟩:=he
    simp only[Value.slice.injEq]at he;obtain⟨rfl,rfl,_⟩:=he;have:fl=[]:=cd.1 (by rw[<-hfl,h1,fo]);subst this;exact⟨[],fun w' _=>by cases bs<;>simp only[Builtin.firstCells,fo]<;>rfl,rfl,fun k hk=>by simp at hk⟩
  obtain⟨nc,hnc,hrun⟩:=eK (t:=t) (u:=u) (ty:=ty) (Y:=Y) hd hu hu2 hn hi hib hb0 hzr hlen hcells hos hc hroom
  let cv:Array Value:=os.toArray++ns.toArray++Builtin.zeroCells z.cells (nc-(len+m))
  have hcvs:cv.size=nc*n:=by
   have hzs:z.cells.size=n:=by rw[<-aS,hzc];exact hzl
   simp only[cv,cG,bT,bV,hzs,hosl,hnl,<-hfl];rw[<-bv,<-bv];congr 1;omega
  have hGnew:∀o,x.G w.heap.size o=none:=by
   intro o;cases hg:x.G w.heap.size o with
   |none=>rfl
   |some v=>exact absurd (hM.heap.ltG hg) (by omega)
  have hle:=hM.heap.newD_le cv ((len+m)*n);have hH:cX C (x.newD w.heap.size cv ((len+m)*n)) s.ob s.tk (w.drew.alloc (.cells cv el (0,0))):=hM.heap.drew.allocD ((len+m)*n);have hown:eh (w.drew.alloc (.cells cv el (0,0))) w.heap.size cv el 0 0:=⟨heap_alloc_new (w:=w.drew),fun i _ h=>by omega⟩;refine⟨_,_,(x.newD w.heap.size cv ((len+m)*n)).newT d w.heap.size ((len+m)*n) (nc*n),nc,hrun,⟨?_,hM.defers, ?_⟩,⟨hsum,hnc,.inl ⟨_,0,rfl, ?_⟩⟩, ?_⟩
  ·exact cj.mono (x:=x) (x':=(x.newD w.heap.size cv ((len+m)*n)).newT d w.heap.size ((len+m)*n) (nc*n)) (lo:=d) (hi:=d+1) hle (fun _ _=>rfl) (Sit.newT_ne (x.newD w.heap.size cv ((len+m)*n)) d _ _ _) hM.tm
  ·refine(hH.sub (tk':=tok.eat s.tk) (mZ.refl _) ?_).addT d w.heap.size _ _ (.inr ⟨⟨cv,el,0,0,hown,by omega⟩,hM.heap.new _ hM.heap.size,fun o h1 h2=> ?_⟩) (.inr fun p hp _=> ?_) (.inr fun u hu _=> ?_)
   ·intro u hu
    cases tok with
    |id t=>exact fY hu
    |_=>exact hu
   ·simp only[Sit.newD];rw[if_neg (by omega)];exact hGnew o
   ·obtain⟨⟨c2,e2,fl2,fh2,hO2,_⟩,_⟩:=hM.heap.obs p hp
    have:=hO2.lt;show w.heap.size≠(x.bk p.1).1;omega
   ·have hu':u∈s.tk:=by
     cases tok with
     |id t=>exact fY hu
     |_=>exact hu
    rcases hM.heap.tks u hu' with h|⟨⟨c2,e2,fl2,fh2,hO2,_⟩,_⟩
    ·exact .inr h
    ·have:=hO2.lt
     exact .inl (by show w.heap.size≠(x.τ u).1;omega)
  ·intro k hk
   have hkl:k<os.length+ns.length:=by rw[hosl,<-hnew.len,<-af];exact hk
   have hcvk:cv[k]? =(os++ns)[k]? :=jR os ns _ k hkl;have hk2:k<(len+m)*n:=by rw[hsum];exact hk
   refine⟨(os++ns).getD k Go.undef, ?_, ?_⟩
   ·show(x.newD w.heap.size cv ((len+m)*n)).G w.heap.size (0+k)=_
    simp only[Sit.newD];rw[if_pos ⟨trivial,by omega⟩,bS,hcvk];have:k<(os++ns).length:=by rw[af];exact hkl
    rw[ac this,aa,ac this];rfl
   ·refine co.mono (G:=x.G) hle ?_
    by_cases hk1:k<fl.length
    ·have e1:(fl++fl').getD k .undef=fl.getD k .undef:=by simp only[aa,bq hk1]
     have e2:(os++ns).getD k Go.undef=os.getD k Go.undef:=by simp only[aa,bq (show k<os.length by omega)]
     rw[e1,e2];exact hosv k hk1
    ·have e1:(fl++fl').getD k .undef=fl'.getD (k-fl.length) .undef:=by simp only[aa,bB (Nat.le_of_not_lt hk1)]
     have e2:(os++ns).getD k Go.undef=ns.getD (k-fl.length) Go.undef:=by simp only[aa,bB (show os.length<=k by omega),hosl]
     rw[e1,e2];exact hnew.rep _ (by rw[af]at hk;omega)
  ·exact⟨_,_,nc,rfl,.inr ⟨w.heap.size,0,rfl,by rw[Sit.newT_eq];simp⟩⟩
theorem iI(hM:aN C x s a w){u:SV}{Y:Value}{p:Prop}{l:List UInt8}(h:Rep x u Y)(hb:bytesOf s u=some (p,l))(hp:p):
 (∀w',w'.heap=w.heap->(Builtin.lenOf Y).run P w'= .ok l.length w')/\(∀m,m<=l.length->∀w',w'.heap=w.heap->(Builtin.firstCells 1 m Y).run P w'= .ok ((l.take m).map fun b=>Value.int .u8 b.toNat).toArray w'):=by
 have load:∀(b off m:Nat),m<=l.length->(∀i,i<l.length->w.cell? ⟨b,off+i,none⟩=some (.int .u8 (l.getD i 0).toNat))->∀w':World,w'.heap=w.heap->
  (loadCells ⟨b,off,none⟩ (m*1)).run P w'= .ok ((l.take m).map fun b=>Value.int .u8 b.toNat).toArray w':=by
  intro b off m hm hc w' hw';rw[run_loadCells w' _ _ (fun i=> .int .u8 (l.getD i 0).toNat) (fun j hj=>by rw[di,dr (w:=w) (by rw[hw'])];exact hc j (by omega))]
  congr 2
  apply List.ext_getElem?;intro i
  by_cases hi:i<m
  ·simp[hi,aa,show i<l.length from by omega]
  ·simp[hi];omega
 cases u with
 |byt l' t=>
  simp only[bytesOf,aq.injEq,bt.injEq]at hb;obtain⟨rfl,rfl⟩:=hb;have hD:=h.data rfl;cases hY:Y with
  |slice ad n cp=>
   rw[hY]at hD;cases hD with
   |bytN=>exact⟨fun w' _=>rfl,fun m hm w' _=>by simp at hm;subst hm;rfl⟩
   |bytE=>exact⟨fun w' _=>rfl,fun m hm w' _=>by simp at hm;subst hm;rfl⟩
   |byt _ _ b off _ _ hn hc hg=>subst hn;exact⟨fun w' _=>rfl,fun m hm w' hw'=>by simp only[Builtin.firstCells];exact load b off m hm (fun i hi=>hM.heap.per _ _ _ (hg i hi)) w' hw'⟩
  |_=>rw[hY]at hD;cases hD
 |str l'=>simp only[bytesOf,aq.injEq,bt.injEq]at hb;obtain⟨rfl,rfl⟩:=hb;rw[h.str_inv];refine⟨fun w' _=>by simp[Builtin.lenOf,ByteArray.size],fun m hm w' _=> ?_⟩;simp only[Builtin.firstCells,zU,bh,aJ];simp
 |psl o' sz off n cp=>
  simp only[bytesOf]at hb;split at hb<;>try (cases hb;done)
  rename_i l' hl;simp only[aq.injEq,bt.injEq]at hb;obtain⟨rfl,rfl⟩:=hb;obtain⟨hp0,hp1⟩:=hp;obtain⟨cp,hnc,_,off',he',hoff⟩:=h.psl_inv;have hlen:((l'.drop off).take n).length=n:=by simp;omega
  rw[he'];refine⟨fun w' _=>by simp only[Builtin.lenOf,hlen];rfl,fun m hm w' hw'=> ?_⟩;simp only[Builtin.firstCells]
  by_cases hn:cp=0
  ·have:m=0:=by omega
   subst this;rfl
  ·have hoff':off'=off:=by
    rcases hoff with h|h
    ·omega
    ·rw[hp0,iJ]at h;exact h
   subst hoff';refine load ((x.bk o').1) off' m hm (fun i hi=> ?_) w' hw';obtain⟨v,h2,h3⟩:=(eT hM hl).cell (k:=off'+i) (by simp only[aC.size];omega);rw[h2];have h4:co x.G (.u8 (l'.getD (off'+i) 0)) v:=h3;cases h4;simp only[aa,bC,if_pos (show i<n by omega),bi]
 |_=>simp[bytesOf]at hb
theorem qZ(l:List UInt8):New x (l.map fun b=>Value.int .u8 b.toNat) (l.map .u8):=by
 refine⟨by simp,fun k hk=> ?_,fun v hv=> ?_⟩
 ·rw[aY]at hk
  rw[iw _ _ hk]
  have:(l.map fun b=>Value.int .u8 b.toNat).getD k Go.undef= .int .u8 (l.getD k 0).toNat:=by simp only[aa,aR];rw[ac hk];rfl
  rw[this];exact .u8 _
 ·obtain⟨b,_,rfl⟩:=aT.1 hv;rfl
theorem gL(hM:aN C x s a w){sz:Nat}{u:SV}{Y:Value}{p:Prop}{xs:List (List SV)}(h:Rep x u Y)(hb:gR s sz u=some (p,xs))(hp:p):
 (∀y∈xs,y.length=sz)/\(∀w',w'.heap=w.heap->(Builtin.lenOf Y).run P w'= .ok xs.length w')/\
 ∃ns:List Value,New x ns xs.flatten/\∀m,m<=xs.length->∀w',w'.heap=w.heap->(Builtin.firstCells sz m Y).run P w'= .ok (ns.take (m*sz)).toArray w':=by
 have gen:∀(b off:Nat),(∀y∈xs,y.length=sz)->(∀k,k<xs.flatten.length->∃v,w.cell? ⟨b,off+k,none⟩=some v/\co x.G (xs.flatten.getD k .undef) v)->
  ∃ns:List Value,New x ns xs.flatten/\∀m,m<=xs.length->∀w',w'.heap=w.heap->(loadCells ⟨b,off,none⟩ (m*sz)).run P w'= .ok (ns.take (m*sz)).toArray w':=by
  intro b off hrows hc;refine⟨(bA xs.flatten.length).map fun k=>(w.cell? ⟨b,off+k,none⟩).getD Go.undef,⟨by simp,fun k hk=> ?_,fun v hv=> ?_⟩,fun m hm w' hw'=> ?_⟩
  ·obtain⟨v,hv,hr⟩:=hc k hk
   have:((bA xs.flatten.length).map fun k=>(w.cell? ⟨b,off+k,none⟩).getD Go.undef).getD k Go.undef=v:=by rw[aa,aR,ch hk];simp[hv]
   rw[this];exact hr
  ·obtain⟨k,hk,rfl⟩:=aT.1 hv
   obtain⟨v,hv,hr⟩:=hc k (dJ.1 hk);rw[hv];exact hr.oneCell
  ·have hle:m*sz<=xs.flatten.length:=by rw[bJ hrows];exact aX _ hm
   rw[run_loadCells w' _ _ (fun k=>(w.cell? ⟨b,off+k,none⟩).getD Go.undef) (fun j hj=> ?_)]
   ·congr 2
    rw[<-List.map_take,List.take_range,fi hle]
   ·rw[di,dr (w:=w) (by rw[hw'])]
    obtain⟨v,hv,_⟩:=hc j (by omega);rw[hv];rfl
 cases u with
 |lst sz' xs' t=>
  simp only[gR,aq.injEq,bt.injEq]at hb;obtain⟨rfl,rfl⟩:=hb;subst hp;obtain⟨cap,⟨h1,h2,h3⟩,_,hrows⟩:=px (h.data rfl);refine⟨hrows, ?_⟩;rcases h3 with⟨b,off,rfl,hr⟩|⟨⟨ad,rfl⟩,h0,_⟩
  ·refine⟨fun w' _=>rfl, ?_⟩
   obtain⟨ns,g1,g2⟩:=gen b off hrows (fun k hk=>by obtain⟨v,hv,hrv⟩:=hr k hk;exact⟨v,hM.heap.per _ _ _ hv,hrv⟩)
   exact⟨ns,g1,fun m hm w' hw'=>by simp only[Builtin.firstCells];exact g2 m hm w' hw'⟩
  ·have:xs'=[]:=cd.1 h0
   subst this
   exact⟨fun w' _=>rfl,[],⟨rfl,fun k hk=>by simp at hk,fun v hv=>by simp at hv⟩,fun m hm w' _=>by
    have hm0:m=0:=by simpa using hm
    subst hm0;cases ad<;>simp only[Builtin.firstCells,fo]<;>rfl⟩
 |psl o' sz' off n cp=>
  simp only[gR]at hb;split at hb<;>try (cases hb;done)
  rename_i sz'' xs' hl;simp only[aq.injEq,bt.injEq]at hb;obtain⟨rfl,rfl⟩:=hb;obtain⟨rfl,rfl,hp1,hp2⟩:=hp;have hrows:∀y∈(xs'.drop off).take n,y.length=sz:=fun y hy=>hp2 y (cI (bQ hy))
  obtain⟨cp,hnc,_,off',he',hoff⟩:=h.psl_inv;have hlen:((xs'.drop off).take n).length=n:=by simp;omega
  rw[he'];refine⟨hrows,fun w' _=>by simp only[Builtin.lenOf,hlen];rfl, ?_⟩
  by_cases hn:cp=0
  ·have hn0:n=0:=by omega
   subst hn0
   exact⟨[],⟨by simp,fun k hk=>by simp at hk,fun v hv=>by simp at hv⟩,fun m hm w' _=>by simp at hm;subst hm;simp[Builtin.firstCells,loadCells,loadCellsFrom]⟩
  ·have hoff':off'=off*sz:=hoff.resolve_left hn
   obtain⟨ns,g1,g2⟩:=gen ((x.bk o').1) off' hrows (fun k hk=>by
    rw[bJ hrows,hlen]at hk
    have hk2:off*sz+k<xs'.length*sz:=by have:=aX sz hp1;rw[bv]at this;omega
    obtain⟨v,h2,h3⟩:=(eT hM hl).cell (k:=off*sz+k) (by simp only[aC.size];exact hk2);refine⟨v,by rw[hoff'];exact h2, ?_⟩;have h4:co x.G ((xs'.getD ((off*sz+k)/sz) []).getD ((off*sz+k) % sz) .undef) v:=h3
    have hsz:0<sz:=by
     rcases gk sz with h0|h0
     ·subst h0;omega
     ·exact h0
    rw[cJ _ hrows k (by rw[hlen];exact hk)];rw[cB off sz,Nat.mul_add_div hsz,Nat.mul_add_mod]at h4;have hd:k/sz<n:=Nat.div_lt_of_lt_mul (by rw[cB];exact hk)
    have e1:((xs'.drop off).take n).getD (k/sz) []=xs'.getD (off+k/sz) []:=by simp only[aa,bC,if_pos hd,bi]
    rw[e1];exact h4)
   exact⟨ns,g1,fun m hm w' hw'=>by simp only[Builtin.firstCells];exact g2 m hm w' hw'⟩
 |_=>simp[gR]at hb
theorem xG(hM:aN C x s a w){cl:Call}(ho:o.op= .call cl)(hb:cl.callee= .builtin .append)(hr:bz P o=some so)(he:eff s o.dst so=some e)(hp:e.pre):cn P C o a w (s.app o.dst e):=by
 simp only[bz,ho,hb]at hr;split at hr<;>try (cases hr;done)
 rename_i X Y t u hX ht;split at hr<;>try (cases hr;done)
 rename_i el d2 r q hd hu hra hrb;split at hr<;>try (cases hr;done)
 rename_i n by_ z hn hby hz;rw[aG]at hr;obtain⟨hcond,hr⟩:=hr;simp only[aA,decide_eq_true_eq]at hcond;obtain⟨⟨hb0,hn0⟩,hzl'⟩:=hcond;obtain⟨zs,hzc,hzl0,_⟩:=jc hz;have hzl:zs.length=n:=by omega
 have hu2:((∃e',d2= .slice e')\/d2= .string)/\so= .app z by_ r q:=by
  split at hr<;>try (cases hr;done)
  ·cases hr;exact⟨.inl ⟨_,rfl⟩,rfl⟩
  ·rw[aG]at hr
   obtain⟨_,hr⟩:=hr;cases hr;exact⟨.inr rfl,rfl⟩
  ·cases hr;cases he
 obtain⟨hu2,rfl⟩:=hu2;have h1:=aP hM hra;have h2:=aP hM hrb;have ea:cl.args= #[X,Y]:=by apply dY;simpa using hX
 have et:cl.argTypes= #[t,u]:=by apply dY;simpa using ht
 have hex:=fH (a:=a) ho hb _ rfl;rw[ea,et]at hex;have em: #[X,Y].map a.eval= #[a.eval X,a.eval Y]:=by simp
 rw[em]at hex;simp only[eff]at he;split at he<;>try (cases he;done)
 rename_i d hdst
 have fin:∀{v w' x'}{c:SV},(Builtin.append_ #[t,u] o.type #[a.eval X,a.eval Y]).run P w= .ok v w'->∀{tk:Tok},aN C x' (s.grew tk (d+100)) a w'->Rep x' c v->cn P C o a w ((s.grew tk (d+100)).put o.dst c):=by intro v w' x' c hrun tk hM' hc;exact⟨v,w',x',.value v,by rw[hex];simp[hrun],.inl rfl,hM'.put o.dst hc⟩
 cases hu':s.ev r with
 |byt l tk=>
  rw[hu']at he h1
  try simp only at he
  split at he<;>try (cases he;done)
  rename_i p l' hl';cases he;obtain⟨hp0,hz1,rfl,htk,hroom⟩:=hp;obtain rfl:n=1:=by omega
  obtain⟨g1,g2⟩:=iI (P:=P) hM h2 hl' hp0;obtain⟨_,_,_,_,_,hsp⟩:=h1.byt_inv;obtain⟨cap,hF,_⟩:=vN (h1.data rfl)
  obtain⟨v,w',x',cap',hrun,hM',hF',hsp'⟩:=nW (ty:=o.type) hM hd hu hu2 hn hby hzc hb0 hn0 hzl hF htk hsp g1 (fun w' hw'=>by have:=g2 l'.length (aK _) w' hw';rwa[kp]at this) (by simp) (qZ l') (by omega) (d+100)
  simp only[St.app];have hd':o.dst.getD 0=d:=by rw[hdst];rfl
  rw[hd'];refine fin hrun hM' (.dat _ _ (Gx (cap:=cap') ?_) hsp');rw[af,du];exact hF'
 |lst sz' l tk=>
  rw[hu']at he h1
  try simp only at he
  split at he<;>try (cases he;done)
  rename_i p l' hl';cases he;obtain⟨hp0,rfl,htk,hroom⟩:=hp;obtain rfl:n=z.length:=by omega
  obtain⟨hrows',g1,ns,hnew,g2⟩:=gL (P:=P) hM h2 hl' hp0;obtain⟨_,_,_,_,_,hsp⟩:=h1.lst_inv;obtain⟨cap,hF,_,hrows⟩:=px (h1.data rfl);have hnl:ns.length=l'.length*z.length:=by rw[<-hnew.len,bJ hrows']
  obtain⟨v,w',x',cap',hrun,hM',hF',hsp'⟩:=nW (ty:=o.type) hM hd hu hu2 hn hby hzc hb0 hn0 hzl hF htk hsp g1 (fun w' hw'=>by have:=g2 l'.length (aK _) w' hw';rwa[<-hnl,kp]at this) hnl hnew hroom (d+100)
  simp only[St.app];have hd':o.dst.getD 0=d:=by rw[hdst];rfl
  rw[hd'];refine fin hrun hM' (.dat _ _ (FW (cap:=cap') ?_ ?_) hsp')
  ·rw[af,bL];exact hF'
  ·intro y hy
   rcases al.1 hy with hy|hy
   ·exact hrows y hy
   ·exact hrows' y hy
 |_=>rw[hu']at he;simp at he
end Go.Sy
namespace Go.Sy
variable [bf]
variable {P : Program} {C : Ctx} {x : Sit} {s : St} {a : Act} {w : World} {o : Oper} {so : SOp} {e : Eff}
theorem aN.write(hM:aN C x s a w){d off:Nat}{obj obj':aC}(hl:s.look d=some obj){vs:List Value}(hb:off+vs.length<=obj.size)(hsz:obj'.size=obj.size)
 (hnew:∀c:Array Value,(∀k,k<obj.size->cf x obj k (c.getD k Go.undef))->∀k,k<obj.size->cf x obj' k (if off<=k/\k<off+vs.length then vs.getD (k-off) Go.undef else c.getD k Go.undef)) (harr:obj'.arrB=obj.arrB:=by rfl):
 aN C x (s.setO d obj') a (bU w ((x.bk d).1) off vs)/\((∀v∈vs,v.oneCell'=true)->∀w':World,w'=w->(storeCells ⟨(x.bk d).1,off,none⟩ vs).run P w'= .ok () (bU w ((x.bk d).1) off vs)):=by
 obtain⟨c,e,fl,fh,hO,⟨hs,hs2,hs3⟩,hr⟩:=eT hM hl;obtain⟨g1,g2,g3,g4,g5⟩:=dn ((x.bk d).1) vs w off;obtain⟨c',hO',hcs,hck⟩:=dd vs w off c hO (by omega);refine⟨⟨hM.tm,hM.defers,hM.heap.block (db hl) g1 g2 g3 g4 g5 ⟨c',e,fl,fh,hO',⟨by omega,by omega,fun h=>by rw[hcs];exact hs3 (harr ▸ h)⟩,fun k hk=> ?_⟩⟩, ?_⟩
 ·rw[hck k]
  exact hnew c hr k (by omega)
 ·rintro hone w' rfl
  exact fv off vs w' c 0 hO (by omega) hone
theorem uQ{t u el:TypeId}{n m k:Nat}{ty:TypeId}{bs:Addr}{cap:Nat}{Y:Value}{vs:List Value}{w1:World}(hd:P.underlying t=some (.slice el))(hn:fd P el=some n)
 (hlen:(Builtin.lenOf Y).run P w= .ok m w) (hcells:(Builtin.firstCells n (min m k) Y).run P w= .ok vs.toArray w) (hst:(storeCells bs vs).run P w= .ok () w1):
 (Builtin.copy_ #[t,u] ty #[.slice (some bs) k cap,Y]).run P w= .ok (.int .i64 (min m k:Nat)) w1:=by
 have e:(#[t,u]:Array TypeId)[0]? =some t:=rfl;have e2:(#[Value.slice (some bs) k cap,Y]:Array Value)[0]? =some (.slice (some bs) k cap):=rfl;have e3:(#[Value.slice (some bs) k cap,Y]:Array Value)[1]? =some Y:=rfl;have hc':(Builtin.firstCells n (Nat.min m k) Y).run P w= .ok vs.toArray w:=hcells;simp only[Builtin.copy_,e,e2,e3,az,run_underlying hd,aj,b9 hn,hlen,hc',hst,aJ,goInt]
theorem Gj(hM:aN C x s a w){cl:Call}(ho:o.op= .call cl)(hb:cl.callee= .builtin .copy)(hr:bz P o=some so)(he:eff s o.dst so=some e)(hp:e.pre):cn P C o a w (s.app o.dst e):=by
 simp only[bz,ho,hb]at hr;split at hr<;>try (cases hr;done)
 rename_i X Y t u hX ht;split at hr<;>try (cases hr;done)
 rename_i el r q hd hra hrb;split at hr<;>try (cases hr;done)
 rename_i n hn;cases hr;have h1:=aP hM hra;have h2:=aP hM hrb;have ea:cl.args= #[X,Y]:=by apply dY;simpa using hX
 have et:cl.argTypes= #[t,u]:=by apply dY;simpa using ht
 have hex:=fH (a:=a) ho hb _ rfl;rw[ea,et]at hex;have em: #[X,Y].map a.eval= #[a.eval X,a.eval Y]:=by simp
 rw[em]at hex;simp only[eff]at he;cases hu:s.ev r with
 |psl d sz' off k cap=>
  rw[hu]at he h1;obtain⟨cap,hkc,_,off',hXe,hoff⟩:=h1.psl_inv
  try simp only at he
  split at he<;>try (cases he;done)
  ·rename_i l hl
   split at he<;>try (cases he;done)
   rename_i p l' hl';cases he;obtain⟨hp0,rfl,rfl,hbd⟩:=hp;obtain⟨g1,g2⟩:=iI (P:=P) hM h2 hl' hp0;have hvl:((l'.take (min l'.length k)).map fun b=>Value.int .u8 b.toNat).length=min l'.length k:=by simp
   have etk:l'.take (min l'.length k)=l'.take k:=by rw[Nat.min_comm,<-List.take_take];simp
   have hoff':min l'.length k=0\/off'=off:=by
    rcases hoff with h|h
    ·left;omega
    ·right;rw[iJ]at h;exact h
   have hlk:(l'.take k).length=min l'.length k:=by simp;omega
   simp only[St.app]
   obtain⟨
    hM',hst⟩:=hM.write (P:=P) (off:=off) (vs:=(l'.take (min l'.length k)).map fun b=>Value.int .u8 b.toNat) (obj':= .bar (l.take off++l'.take k++l.drop (off+(l'.take k).length))) hl (by simp only[aC.size,hvl];omega)
    (by simp only[aC.size,af,ax,aL];omega) (by
     intro c hc i hi;have:=hc i hi;simp only[cf,aC.cell,aC.size]at this hi ⊢;have hsp:=fV l (l'.take k) off i (by rw[hlk];omega);rw[hvl]
     have e1:(l.take off++l'.take k++l.drop (off+(l'.take k).length)).getD i 0=if off<=i/\i<off+min l'.length k then(l'.take k).getD (i-off) 0 else l.getD i 0:=by simp only[aa];rw[hsp,hlk];split<;>rfl
     rw[e1];split
     ·rename_i hin
      rw[etk]
      have e2:((l'.take k).map fun b=>Value.int .u8 b.toNat).getD (i-off) Go.undef= .int .u8 ((l'.take k).getD (i-off) 0).toNat:=by simp only[aa,aR];rw[ac (by rw[hlk];omega)];rfl
      rw[e2];exact .u8 _
     ·exact this)
   refine⟨.int .i64 (min l'.length k:Nat),_,x,.value _, ?_,.inl rfl,aN.put hM' o.dst (cO _ _)⟩;rw[hex,hXe]
   have hcp:=uQ (P:=P) (w:=w) (t:=t) (u:=u) (ty:=o.type) (bs:=⟨(x.bk d).1,off',none⟩) (cap:=cap) (w1:=bU w ((x.bk d).1) off ((l'.take (min l'.length k)).map fun b=>Value.int .u8 b.toNat)) hd hn (g1 w rfl) (g2 _ (Nat.min_le_left _ _) w rfl) (by
    rcases hoff' with h|h
    ·rw[h];rfl
    ·rw[h];exact hst (fun v hv=>by obtain⟨_,_,rfl⟩:=aT.1 hv;rfl) w rfl)
   simp[hcp]
  ·rename_i sz'' xs hl
   split at he<;>try (cases he;done)
   rename_i p l' hl';cases he;obtain⟨hp0,rfl,rfl,hbd,hrows⟩:=hp;obtain⟨hrows',g1,ns,hnew,g2⟩:=gL (P:=P) hM h2 hl' hp0;have hnl:ns.length=l'.length*n:=by rw[<-hnew.len,bJ hrows']
   have hmk:(min l'.length k)*n<=ns.length:=by rw[hnl];exact aX _ (Nat.min_le_left _ _)
   have hvl:(ns.take (min l'.length k*n)).length=min l'.length k*n:=by rw[ax,fi hmk]
   have hlk:(l'.take k).length=min l'.length k:=by simp;omega
   have hrowsk:∀y∈l'.take k,y.length=n:=fun y hy=>hrows' y (bQ hy)
   have hflk:(l'.take k).flatten.length=min l'.length k*n:=by rw[bJ hrowsk,hlk]
   have hoff':min l'.length k=0\/off'=off*n:=by
    rcases hoff with h|h
    ·left;omega
    ·right;exact h
   have hbnd:off*n+min l'.length k*n<=xs.length*n:=by rw[<-bv];exact aX _ (by omega)
   have hrowsnew:∀y∈xs.take off++l'.take k++xs.drop (off+(l'.take k).length),y.length=n:=by
    intro y hy;rcases al.1 hy with hy|hy
    ·rcases al.1 hy with hy|hy
     ·exact hrows y (bQ hy)
     ·exact hrowsk y hy
    ·exact hrows y (cI hy)
   have hlnew:(xs.take off++l'.take k++xs.drop (off+(l'.take k).length)).length=xs.length:=by simp only[af,ax,aL];omega
   simp only[St.app]
   obtain⟨
    hM',hst⟩:=hM.write (P:=P) (off:=off*n) (vs:=ns.take (min l'.length k*n)) (obj':= .arr n (xs.take off++l'.take k++xs.drop (off+(l'.take k).length))) hl (by simp only[aC.size,hvl];exact hbnd)
    (by simp only[aC.size];rw[hlnew]) (by
     intro c hc i hi;have:=hc i hi;simp only[cf,aC.cell,aC.size]at this hi ⊢;rw[<-cJ _ hrowsnew i (by rw[hlnew];exact hi)];rw[<-cJ _ hrows i hi]at this;rw[bL,bL,hvl];have ef:xs.flatten=(xs.take off).flatten++(xs.drop off).flatten:=by rw[<-bL,dk]
     have l1:(xs.take off).flatten.length=off*n:=by rw[bJ (fun y hy=>hrows y (bQ hy)),ax,fi (by omega)]
     have e1:xs.flatten.take (off*n)=(xs.take off).flatten:=by rw[ef,List.take_append_of_le_length (by rw[l1];exact aK _),bj (by rw[l1];exact aK _)]
     have e2:xs.flatten.drop (off*n+min l'.length k*n)=(xs.drop (off+(l'.take k).length)).flatten:=by
      have ef2:xs.flatten=(xs.take (off+(l'.take k).length)).flatten++(xs.drop (off+(l'.take k).length)).flatten:=by rw[<-bL,dk]
      have l2:(xs.take (off+(l'.take k).length)).flatten.length=off*n+min l'.length k*n:=by rw[bJ (fun y hy=>hrows y (bQ hy)),ax,hlk,fi (by omega),bv]
      rw[ef2,List.drop_append,l2,Nat.sub_self,bh,bD (by rw[l2];exact aK _),aI]
     rw[<-e1,<-e2,<-hflk];have hsp:=fV xs.flatten (l'.take k).flatten (off*n) i (by rw[hflk,bJ hrows];exact hbnd);rw[aa,hsp];split
     ·rename_i hin
      rw[<-aa];have hlt:i-off*n<(l'.take k).flatten.length:=by omega
      have hfl:(l'.take k).flatten.getD (i-off*n) .undef=l'.flatten.getD (i-off*n) .undef:=by
       have ef3:l'.flatten=(l'.take k).flatten++(l'.drop k).flatten:=by rw[<-bL,dk]
       rw[ef3];simp only[aa];rw[bq hlt]
      rw[hfl]
      have e3:(ns.take (min l'.length k*n)).getD (i-off*n) Go.undef=ns.getD (i-off*n) Go.undef:=by simp only[aa,bC];rw[if_pos (by omega)]
      rw[<-hflk]at e3;rw[e3];exact hnew.rep _ (by rw[hnew.len];omega)
     ·rw[<-aa];exact this)
   refine⟨.int .i64 (min l'.length k:Nat),_,x,.value _, ?_,.inl rfl,aN.put hM' o.dst (cO _ _)⟩;rw[hex,hXe]
   have hcp:=uQ (P:=P) (w:=w) (t:=t) (u:=u) (ty:=o.type) (bs:=⟨(x.bk d).1,off',none⟩) (cap:=cap) (w1:=bU w ((x.bk d).1) (off*n) (ns.take (min l'.length k*n))) hd hn (g1 w rfl) (g2 _ (Nat.min_le_left _ _) w rfl) (by
    rcases hoff' with h|h
    ·rw[h];simp[storeCells,bU]
    ·rw[h];exact hst (fun v hv=>hnew.one v (bQ hv)) w rfl)
   simp[hcp]
 |_=>rw[hu]at he;simp at he
theorem aN.writeRows(hM:aN C x s a w){d n off:Nat}{xs l':List (List SV)}{ns:List Value}(hl:s.look d=some (.arr n xs))(hrows:∀y∈xs,y.length=n)(hrows':∀y∈l',y.length=n)
 (hbd:off+l'.length<=xs.length) (hnew:New x ns l'.flatten):
 aN C x (s.setO d (.arr n (xs.take off++l'++xs.drop (off+l'.length)))) a (bU w ((x.bk d).1) (off*n) ns)/\(storeCells ⟨(x.bk d).1,off*n,none⟩ ns).run P w= .ok () (bU w ((x.bk d).1) (off*n) ns):=by
 have hnl:ns.length=l'.length*n:=by rw[<-hnew.len,bJ hrows']
 have hbnd:off*n+l'.length*n<=xs.length*n:=by rw[<-bv];exact aX _ hbd
 have hrowsnew:∀y∈xs.take off++l'++xs.drop (off+l'.length),y.length=n:=by
  intro y hy;rcases al.1 hy with hy|hy
  ·rcases al.1 hy with hy|hy
   ·exact hrows y (bQ hy)
   ·exact hrows' y hy
  ·exact hrows y (cI hy)
 have hlnew:(xs.take off++l'++xs.drop (off+l'.length)).length=xs.length:=by simp only[af,ax,aL];omega
 obtain⟨
  hM',hst⟩:=hM.write (P:=P) (off:=off*n) (vs:=ns) (obj':= .arr n (xs.take off++l'++xs.drop (off+l'.length))) hl (by simp only[aC.size,hnl];exact hbnd)
  (by simp only[aC.size];rw[hlnew]) (by
   intro c hc i hi;have:=hc i hi;simp only[cf,aC.cell,aC.size]at this hi ⊢;rw[<-cJ _ hrowsnew i (by rw[hlnew];exact hi)];rw[<-cJ _ hrows i hi]at this;rw[bL,bL,hnl];have ef:xs.flatten=(xs.take off).flatten++(xs.drop off).flatten:=by rw[<-bL,dk]
   have l1:(xs.take off).flatten.length=off*n:=by rw[bJ (fun y hy=>hrows y (bQ hy)),ax,fi (by omega)]
   have e1:xs.flatten.take (off*n)=(xs.take off).flatten:=by rw[ef,List.take_append_of_le_length (by rw[l1];exact aK _),bj (by rw[l1];exact aK _)]
   have hflk:l'.flatten.length=l'.length*n:=bJ hrows'
   have e2:xs.flatten.drop (off*n+l'.length*n)=(xs.drop (off+l'.length)).flatten:=by
    have ef2:xs.flatten=(xs.take (off+l'.length)).flatten++(xs.drop (off+l'.length)).flatten:=by rw[<-bL,dk]
    have l2:(xs.take (off+l'.length)).flatten.length=off*n+l'.length*n:=by rw[bJ (fun y hy=>hrows y (bQ hy)),ax,fi (by omega),bv]
    rw[ef2,List.drop_append,l2,Nat.sub_self,bh,bD (by rw[l2];exact aK _),aI]
   rw[<-e1,<-e2,<-hflk];have hsp:=fV xs.flatten l'.flatten (off*n) i (by rw[hflk,bJ hrows];exact hbnd);rw[aa,hsp];split
   ·rename_i hin
    rw[<-aa];exact hnew.rep _ (by omega)
   ·rw[<-aa];exact this)
 exact⟨hM',hst hnew.one w rfl⟩
theorem CX{zs:List Value}{z:List SV}{zc:Array Value}(hzc:zc.toList=zs)(hl:z.length=zs.length)(hz:∀(G:GM) i,i<z.length->co G (z.getD i .undef) (zs.getD i Go.undef))(n:Nat):
 New x (Builtin.zeroCells zc n).toList (aH n z).flatten:=by
 have hzs:zc.size=z.length:=by rw[<-aS,hzc,hl]
 have hrows:∀y∈aH n z,y.length=z.length:=fun y hy=>by rw[(List.mem_replicate.1 hy).2]
 have hfl:(aH n z).flatten.length=n*z.length:=by rw[bJ hrows,jS]
 have hget:∀i,i<n*z.length->(Builtin.zeroCells zc n).toList.getD i Go.undef=zs.getD (i % z.length) Go.undef:=by
  intro i hi
  have hpos:0<z.length:=by
   rcases gk z.length with h|h
   ·rw[h]at hi;omega
   ·exact h
  have hlt:i % zc.size<zc.size:=Nat.mod_lt _ (by omega);rw[aa,Builtin.zeroCells];simp only[Array.toList_map,Array.toList_range,aR];rw[ch (by rw[hzs];exact hi)];simp only[bp,aM];rw[getElem!_pos zc _ hlt,<-hzc,aa,<-hzs,ac (by simpa using hlt)];simp
 refine⟨by rw[hfl];simp[bV,hzs],fun i hi=> ?_,fun v hv=> ?_⟩
 ·rw[hfl]at hi
  have hpos:0<z.length:=by
   rcases gk z.length with h|h
   ·rw[h]at hi;omega
   ·exact h
  rw[hget i hi,cJ _ hrows i (by simpa using hi),fx _ _ _ _ (Nat.div_lt_of_lt_mul (by rw[cB];exact hi))];exact hz _ _ (Nat.mod_lt _ hpos)
 ·obtain⟨i,hi,rfl⟩:=List.mem_iff_getElem.1 hv
  have hi':i<n*z.length:=by simpa[bV,hzs]using hi
  have hpos:0<z.length:=by
   rcases gk z.length with h|h
   ·rw[h]at hi';omega
   ·exact h
  have h1:=hget i hi';rw[aa,ac hi,aM]at h1;rw[h1];exact(hz (fun _ _=>none) _ (Nat.mod_lt _ hpos)).oneCell
theorem Do(hM:aN C x s a w){cl:Call}(ho:o.op= .call cl)(hb:cl.callee= .builtin .clear)(hr:bz P o=some so)(he:eff s o.dst so=some e)(hp:e.pre):cn P C o a w (s.app o.dst e):=by
 simp only[bz,ho,hb]at hr;split at hr<;>try (cases hr;done)
 rename_i X t hX ht;split at hr<;>try (cases hr;done)
 rename_i el r hd hra;split at hr<;>try (cases hr;done)
 rename_i z hz;cases hr;have h1:=aP hM hra;have ea:cl.args= #[X]:=by apply dY;simpa using hX
 have et:cl.argTypes= #[t]:=by apply dY;simpa using ht
 have hex:=fH (a:=a) ho hb _ rfl;rw[ea,et]at hex;have em: #[X].map a.eval= #[a.eval X]:=by simp
 rw[em]at hex;simp only[eff]at he;cases hu:s.ev r with
 |psl d sz' off k cap=>
  rw[hu]at he h1;obtain⟨cap,hkc,_,off',hXe,hoff⟩:=h1.psl_inv
  try simp only at he
  split at he<;>try (cases he;done)
  rename_i sz'' xs hl;cases he;obtain⟨hk0,rfl,rfl,hbd,hrows⟩:=hp
  have hoff':off'=off*z.length:=by
   rcases hoff with h|h
   ·omega
   ·exact h
  subst hoff';obtain⟨zs,hzc0,hzl,hzr⟩:=mH hz;obtain⟨zv,hzc,hzrun⟩:=cS hzc0;have hnew:=CX (x:=x) hzc hzl hzr k;have hrep:∀y∈aH k z,y.length=z.length:=fun y hy=>by rw[(List.mem_replicate.1 hy).2]
  obtain⟨hM',hst⟩:=hM.writeRows (P:=P) (off:=off) hl hrows hrep (by simpa using hbd) hnew;rw[jS]at hM';simp only[St.app];refine⟨.tuple #[],_,x,.value _, ?_,.inl rfl,aN.put hM' o.dst (.tup [] [] rfl fun i hi=>by simp at hi)⟩;rw[hex,hXe]
  have hcl:(Builtin.clear_ #[t] o.type #[.slice (some ⟨(x.bk d).1,off*z.length,none⟩) k cap]).run P w= .ok (.tuple #[]) (bU w ((x.bk d).1) (off*z.length) (Builtin.zeroCells zv.cells k).toList):=by have e1:(#[t]:Array TypeId)[0]? =some t:=rfl;have e2:(#[Value.slice (some ⟨(x.bk d).1,off*z.length,none⟩) k cap]:Array Value)[0]? =some (.slice (some ⟨(x.bk d).1,off*z.length,none⟩) k cap):=rfl;obtain⟨k',rfl⟩:∃k',k=k'+1:=⟨k-1,by omega⟩;simp only[Builtin.clear_,e1,e2,az,run_underlying hd,aj,hzrun,hst,aJ]
  simp[hcl]
 |_=>rw[hu]at he;simp at he
theorem Dn(hM:aN C x s a w)(hr:bz P o=some so)(hno:∀q r,so≠ .ovl q r)(he:eff s o.dst so=some e)(hp:e.pre):cn P C o a w (s.app o.dst e):=by
 have viaVal:(∀{p c},val s so=some (p,c)->p->cn P C o a w (s.put o.dst c))->(∀d,eff s d so=match val s so with|some (p,v)=>some {pre:=p,val:=v}|none=>none)->cn P C o a w (s.app o.dst e):=by
  intro h1 h2;rw[h2]at he;cases hv:val s so with
  |none=>simp[hv]at he
  |some pc=>obtain⟨p,c⟩:=pc;simp only[hv,aq.injEq]at he;subst he;exact h1 hv hp
 cases ho:o.op with
 |move X=>exact viaVal (fun hv _=>uE hM (.inl ho) hr hv) (by simp only[bz,ho]at hr;obtain⟨_,_,rfl⟩:=ae.1 hr;intro d;rfl)
 |assign X=>exact viaVal (fun hv _=>uE hM (.inr ho) hr hv) (by simp only[bz,ho]at hr;obtain⟨_,_,rfl⟩:=ae.1 hr;intro d;rfl)
 |pick c X Y=>
  exfalso;simp only[bz,ho]at hr;split at hr<;>try (cases hr;done)
  cases hr;simp[eff]at he
 |alloc t=>exact Dp hM ho hr he
 |box t X=>exact Rx hM ho hr he
 |build t ps=>exact viaVal (fun hv _=>Ck hM ho hr hv) (by
  simp only[bz,ho]at hr;split at hr<;>try (cases hr;done)
  ·split at hr<;>try (cases hr;done)
   obtain⟨_,_,rfl⟩:=ae.1 hr;intro d;rfl
  ·split at hr<;>try (cases hr;done)
   obtain⟨_,_,rfl⟩:=ae.1 hr;intro d;rfl)
 |buildSlice t n ps=>exact viaVal (fun hv _=>nI hM ho hr hv) (by
  simp only[bz,ho]at hr;split at hr<;>try (cases hr;done)
  split at hr<;>try (cases hr;done)
  split at hr<;>try (cases hr;done)
  obtain⟨_,_,rfl⟩:=ae.1 hr;intro d;split<;>rfl)
 |load t X=>exact viaVal (fun hv hp=>EN hM ho hr hv hp) (by
  simp only[bz,ho]at hr;split at hr<;>try (cases hr;done)
  split at hr<;>try (cases hr;done)
  cases hr;intro d;rfl)
 |store t X Y=>exact Dm hM ho hr he hp
 |nilCheck X=>exact viaVal (fun hv _=>rL hM ho hr hv) (by simp only[bz,ho]at hr;obtain⟨_,_,rfl⟩:=ae.1 hr;intro d;rfl)
 |binOp op t X Y u=>
  by_cases hns:∃ne ts q r,so= .eqS ne ts q r
  ·obtain⟨ne,ts,q,r,rfl⟩:=hns
   exact viaVal (fun hv _=>O2 hM ho hr hv) (fun _=>rfl)
  ·exact viaVal (fun hv hp=>Cl hM ho hr (fun ne ts q r e=>hns ⟨ne,ts,q,r,e⟩) hv hp) (by
    simp only[bz,ho]at hr;split at hr<;>try (cases hr;done)
    ·split at hr<;>try (cases hr;done)
     all_goals (cases hr;intro d;rfl)
    ·cases hr;intro d;rfl
    ·cases hr;intro d;rfl
    ·split at hr<;>try (cases hr;done)
     split at hr<;>try (cases hr;done)
     split at hr<;>first|(cases hr;done)|(cases hr;intro d;rfl)
    ·split at hr<;>first|(cases hr;done)|(cases hr;simp[eff]at he)
    ·split at hr<;>first|(cases hr;done)|(cases hr;intro d;rfl))
 |unOp op t X=>exact viaVal (fun hv _=>EM hM ho hr hv) (by simp only[bz,ho]at hr;obtain⟨_,_,rfl⟩:=ae.1 hr;intro d;rfl)
 |convert t u X=>exact viaVal (fun hv hp=>uv hM ho hr hv hp) (by
  simp only[bz,ho]at hr;split at hr<;>try (cases hr;done)
  ·cases hr;intro d;rfl
  ·cases hr;intro d;rfl
  ·split at hr<;>try (cases hr;done)
   cases hr;intro d;rfl
  ·split at hr<;>try (cases hr;done)
   cases hr;intro d;rfl
  ·split at hr<;>try (cases hr;done)
   cases hr;intro d;rfl)
 |makeFunc f X Y=>exact viaVal (fun hv _=>rM hM ho hr hv) (by
  cases f<;>simp only[bz,ho,reduceCtorEq]at hr;split at hr<;>try (cases hr;done)
  cases hr;intro d;rfl)
 |makeSlice t X Y=>exact qk hM ho hr he hp
 |slice t X lo hi mx=>exact viaVal (fun hv hp=>Ch hM ho hr hv hp) (by
  simp only[bz,ho]at hr;split at hr<;>try (cases hr;done)
  split at hr
  ·cases hr
  split at hr<;>try (cases hr;done)
  ·split at hr<;>try (cases hr;done)
   cases hr;intro d;rfl
  ·split at hr<;>try (cases hr;done)
   cases hr;intro d;rfl
  ·split at hr<;>try (cases hr;done)
   cases hr;intro d;rfl)
 |fieldAddr t X i=>exact viaVal (fun hv _=>pO hM ho hr hv) (by
  simp only[bz,ho]at hr;split at hr<;>try (cases hr;done)
  split at hr<;>try (cases hr;done)
  split at hr<;>try (cases hr;done)
  split at hr
  ·cases hr
  cases hr;intro d;rfl)
 |field t X i=>exact viaVal (fun hv hp=>Cj hM ho hr hv hp) (by
  simp only[bz,ho]at hr;split at hr<;>try (cases hr;done)
  split at hr<;>try (cases hr;done)
  split at hr<;>try (cases hr;done)
  split at hr<;>try (cases hr;done)
  cases hr;intro d;rfl)
 |indexAddr t X Y=>exact viaVal (fun hv hp=>pN hM ho hr hv hp) (by
  simp only[bz,ho]at hr;split at hr<;>try (cases hr;done)
  ·split at hr<;>try (cases hr;done)
   cases hr;intro d;rfl
  ·split at hr<;>try (cases hr;done)
   cases hr;intro d;rfl)
 |index t X Y=>exact viaVal (fun hv hp=>Ci hM ho hr hv hp) (by
  simp only[bz,ho]at hr;split at hr<;>try (cases hr;done)
  ·split at hr<;>try (cases hr;done)
   split at hr<;>try (cases hr;done)
   cases hr;intro d;rfl
  ·cases hr;intro d;rfl)
 |extract X i=>exact viaVal (fun hv hp=>uu hM ho hr hv hp) (by simp only[bz,ho]at hr;obtain⟨_,_,rfl⟩:=ae.1 hr;intro d;rfl)
 |call cl=>
  cases hb:cl.callee with
  |invoke r m=>simp[bz,ho,hb]at hr
  |value f=>
   exfalso;simp only[bz,ho,hb]at hr;split at hr<;>try (cases hr;done)
   split at hr<;>try (cases hr;done)
   split at hr
   ·split at hr
    ·cases hr;exact hno _ _ rfl
    ·cases hr;simp[eff]at he
   ·cases hr;simp[eff]at he
  |builtin b=>
   cases b with
   |append=>exact xG hM ho hb hr he hp
   |copy=>exact Gj hM ho hb hr he hp
   |clear=>exact Do hM ho hb hr he hp
   |cap=>exact viaVal (fun hv _=>O3 hM ho hb hr hv) (by
    simp only[bz,ho,hb]at hr;split at hr<;>try (cases hr;done)
    split at hr<;>try (cases hr;done)
    cases hr;intro d;rfl)
   |len=>exact viaVal (fun hv _=>O1 hM ho hb hr hv) (by
    simp only[bz,ho,hb]at hr;split at hr<;>try (cases hr;done)
    split at hr<;>try (cases hr;done)
    ·cases hr;intro d;rfl
    ·cases hr;intro d;rfl
    ·cases hr;intro d;rfl
    ·split at hr<;>try (cases hr;done)
     cases hr;intro d;rfl)
   |min=>exact viaVal (fun hv _=>nM hM ho (.inl hb) hr hv) (by
    simp only[bz,ho,hb]at hr;split at hr<;>try (cases hr;done)
    split at hr<;>try (cases hr;done)
    cases hr;intro d;rfl)
   |max=>exact viaVal (fun hv _=>nM hM ho (.inr hb) hr hv) (by
    simp only[bz,ho,hb]at hr;split at hr<;>try (cases hr;done)
    split at hr<;>try (cases hr;done)
    cases hr;intro d;rfl)
   |_=>simp[bz,ho,hb]at hr
 |_=>simp[bz,ho]at hr
end Go.Sy
namespace Go.Sy
variable [bf]
variable {P : Program} {C : Ctx} {x : Sit} {s : St} {a : Act} {w : World}
theorem kE{cs:List SV}{i:Nat}(hi:i<cs.length):∀k∈(cs.getD i .undef).ids,k∈SV.idsL cs:=by
 induction cs generalizing i with
 |nil=>simp at hi
 |cons c r ih=>
  intro k hk;simp only[SV.idsL,al];cases i with
  |zero=>exact .inl (by simpa using hk)
  |succ i=>exact .inr (ih (i:=i) (by simpa using hi) k (by simpa using hk))
theorem jV{cs:List SV}{i:Nat}(hi:i<cs.length):∀k∈(cs.getD i .undef).toks,k∈SV.toksL cs:=by
 induction cs generalizing i with
 |nil=>simp at hi
 |cons c r ih=>
  intro k hk;simp only[SV.toksL,al];cases i with
  |zero=>exact .inl (by simpa using hk)
  |succ i=>exact .inr (ih (i:=i) (by simpa using hi) k (by simpa using hk))
theorem Rep.renF{x x2:Sit}{mo mt:Nat->Nat}(hG:∀b o v,x.G b o=some v->x2.G b o=some v){sv:SV}{v:Value}(h:Rep x sv v):(∀k∈sv.ids,x2.bk (mo k)=x.bk k)->(∀t∈sv.toks,x2.τ (mt t)=x.τ t)->Rep x2 (sv.ren mo mt) v:=by
 induction h with
 |undef v=>intro _ _;exact .undef v
 |dat s v h ht=>
  intro hβ hτ;have h':=h.mono hG
  have sp:∀(sz:Nat)(t:Tok),(∀u,t= .id u->x2.τ (mt u)=x.τ u)->dt x sz t v->dt x2 sz (t.ren mt) v:=by
   intro sz t ht hs;cases t with
   |no=>trivial
   |clip=>exact hs
   |id u=>obtain⟨ad,n,cap,hv,hc⟩:=hs;refine⟨ad,n,cap,hv,hc.imp id ?_⟩;rintro⟨b,off,he,hh⟩;exact⟨b,off,he,by rw[ht u rfl];exact hh⟩
  cases s with
  |byt l t=>simp only[SV.ren];exact .dat _ _ (h'.tok _ (.inl ⟨l,t,_,rfl,rfl⟩)) (sp 1 t (fun u hu=>hτ u (by subst hu;simp[SV.toks])) ht)
  |lst sz xs t=>simp only[SV.ren];exact .dat _ _ (h'.tok _ (.inr ⟨sz,xs,t,_,rfl,rfl⟩)) (sp sz t (fun u hu=>hτ u (by subst hu;simp[SV.toks])) ht)
  |undef=>exact .undef v
  |bool b=>simp only[SV.ren];exact .dat _ _ h' trivial
  |int k n=>simp only[SV.ren];exact .dat _ _ h' trivial
  |u8 b=>simp only[SV.ren];exact .dat _ _ h' trivial
  |str l=>simp only[SV.ren];exact .dat _ _ h' trivial
  |nilp=>simp only[SV.ren];exact .dat _ _ h' trivial
  |nili=>simp only[SV.ren];exact .dat _ _ h' trivial
  |pp cs=>simp only[SV.ren];exact .dat _ _ h' trivial
  |ptr o off=>cases h
  |ap o sz i j=>cases h
  |psl o sz off n cap=>cases h
  |agg cs=>cases h
  |tup cs=>cases h
  |fn f a b=>cases h
 |ptr o off=>intro hβ _;simp only[SV.ren];rw[<-hβ o (by simp[SV.ids])];exact .ptr _ off
 |ap o sz i j=>intro hβ _;simp only[SV.ren];rw[<-hβ o (by simp[SV.ids])];exact .ap _ sz i j
 |psl o sz off n cap off' cap' h hn hc hk=>intro hβ _;simp only[SV.ren];rw[<-hβ o (by simp[SV.ids])]at hk ⊢;exact .psl _ sz off n cap off' cap' h hn hc hk
 |agg cs vs hl _ ih=>
  intro hβ hτ;simp only[SV.ren,eL]
  exact .agg _ _ (by simpa using hl) fun i hi=>by
   rw[aW _ (by simp)];have hi':i<cs.length:=by simpa using hi
   exact ih i hi' (fun k hk=>hβ k (by simp only[SV.ids];exact kE hi' k hk)) (fun k hk=>hτ k (by simp only[SV.toks];exact jV hi' k hk))
 |tup cs vs hl _ ih=>
  intro hβ hτ;simp only[SV.ren,eL]
  exact .tup _ _ (by simpa using hl) fun i hi=>by
   rw[aW _ (by simp)];have hi':i<cs.length:=by simpa using hi
   exact ih i hi' (fun k hk=>hβ k (by simp only[SV.ids];exact kE hi' k hk)) (fun k hk=>hτ k (by simp only[SV.toks];exact jV hi' k hk))
 |fn f c1 c2 v1 v2 hl1 _ hl2 _ ih1 ih2=>
  intro hβ hτ;simp only[SV.ren,eL]
  exact .fn _ _ _ _ _ (by simpa using hl1) (fun i hi=>by
   rw[aW _ (by simp)];have hi':i<c1.length:=by simpa using hi
   exact ih1 i hi' (fun k hk=>hβ k (by simp only[SV.ids,al];exact .inl (kE hi' k hk))) (fun k hk=>hτ k (by simp only[SV.toks,al];exact .inl (jV hi' k hk))))
   (by simpa using hl2) fun i hi=>by
    rw[aW _ (by simp)];have hi':i<c2.length:=by simpa using hi
    exact ih2 i hi' (fun k hk=>hβ k (by simp only[SV.ids,al];exact .inr (kE hi' k hk))) (fun k hk=>hτ k (by simp only[SV.toks,al];exact .inr (jV hi' k hk)))
def Sit.back(x:Sit)(mo mt:Nat->Nat):Sit:=⟨x.G,fun k=>x.bk (mo k),fun t=>x.τ (mt t)⟩
theorem nT{x:Sit}{mo mt:Nat->Nat}{sz:Nat}{t:Tok}{v:Value}(h:dt x sz (t.ren mt) v):dt (x.back mo mt) sz t v:=by
 cases t with
 |no=>trivial
 |clip=>exact h
 |id u=>exact h
theorem Rep.renB{x:Sit}{mo mt:Nat->Nat}(sv:SV):∀v,Rep x (sv.ren mo mt) v->Rep (x.back mo mt) sv v:=by
 refine SV.rec (motive_1:=fun sv=>∀v,Rep x (sv.ren mo mt) v->Rep (x.back mo mt) sv v) (motive_2:=fun _=>True) (motive_3:=fun l=>∀i,i<l.length->∀v,Rep x ((l.getD i .undef).ren mo mt) v->Rep (x.back mo mt) (l.getD i .undef) v)
  ?_ ?_ ?_ ?_ ?_ ?_ ?_ ?_ ?_ ?_ ?_ ?_ ?_ ?_ ?_ ?_ ?_ ?_ ?_ ?_ sv
 ·intro v _;exact .undef v
 ·intro b v h;rw[Rep.bool_inv h];exact dG b
 ·intro k n v h;rw[Rep.int_inv h];exact cO k n
 ·intro b v h;rw[Rep.u8_inv h];exact nv b
 ·intro l v h;rw[Rep.str_inv h];exact ku l
 ·intro l t v h
  simp only[SV.ren]at h;cases h with
  |dat _ _ h ht=>exact .dat _ _ (h.tok _ (.inl ⟨l,_,t,rfl,rfl⟩)) (nT ht)
 ·intro sz xs t _ v h
  simp only[SV.ren]at h;cases h with
  |dat _ _ h ht=>exact .dat _ _ (h.tok _ (.inr ⟨sz,xs,_,t,rfl,rfl⟩)) (nT ht)
 ·intro v h;rw[Rep.nilp_inv h];exact .dat _ _ .nilp trivial
 ·intro v h;rw[Rep.nili_inv h];exact .dat _ _ .nili trivial
 ·intro cs _ v h
  simp only[SV.ren]at h;exact .dat _ _ (Rep.data (x:=x) h rfl) trivial
 ·intro o off v h;simp only[SV.ren]at h;rw[h.ptr_inv];exact .ptr o off
 ·intro o sz i j v h;simp only[SV.ren]at h;rw[h.ap_inv];exact .ap o sz i j
 ·intro o sz off n cap v h
  simp only[SV.ren]at h;obtain⟨cap',hn,hc,off',rfl,ho,hk⟩:=h.psl_invA;exact .psl (x:=x.back mo mt) o sz off n cap off' cap' ho hn hc hk
 ·intro cs ih v h
  simp only[SV.ren,eL]at h;obtain⟨vs,rfl,hl⟩:=h.agg_inv;refine .agg _ _ (by simpa using hl.1) fun i hi=>ih i hi _ ?_
  have:=hl.2 i (by simpa using hi);rwa[aW _ (by simp)]at this
 ·intro cs ih v h
  simp only[SV.ren,eL]at h;obtain⟨vs,rfl,hl⟩:=h.tup_inv;refine .tup _ _ (by simpa using hl.1) fun i hi=>ih i hi _ ?_
  have:=hl.2 i (by simpa using hi);rwa[aW _ (by simp)]at this
 ·intro f c1 c2 ih1 ih2 v h
  simp only[SV.ren,eL]at h;obtain⟨v1,v2,rfl,h1,h2⟩:=h.fn_inv;refine .fn _ _ _ _ _ (by simpa using h1.1) (fun i hi=>ih1 i hi _ ?_) (by simpa using h2.1) (fun i hi=>ih2 i hi _ ?_)
  ·have:=h1.2 i (by simpa using hi);rwa[aW _ (by simp)]at this
  ·have:=h2.2 i (by simpa using hi);rwa[aW _ (by simp)]at this
 ·trivial
 ·intros;trivial
 ·intro i hi;simp at hi
 ·intro c r ihc ihr i hi v h
  cases i with
  |zero=>exact ihc v (by simpa using h)
  |succ i=>simpa using ihr i (by simpa using hi) v (by simpa using h)
theorem cj.renB{x:Sit}{mo mt:Nat->Nat}{cs:List SV}{vs:List Value}(h:cj x (SV.renL mo mt cs) vs):cj (x.back mo mt) cs vs:=by rw[eL]at h;refine⟨by simpa using h.1,fun i hi=>Rep.renB _ _ ?_⟩;have:=h.2 i (by simpa using hi);rwa[aW _ (by simp)]at this
theorem dM.renB{mo mt:Nat->Nat}{o:Nat}{obj:aC}(h:dM x w (mo o) (obj.ren mo mt)):dM (x.back mo mt) w o obj:=by
 obtain⟨c,e,fl,fh,hO,⟨hs,hs2,hs3⟩,hr⟩:=h;refine⟨c,e,fl,fh,hO,⟨?_,hs2,by cases obj<;>exact hs3⟩,fun k hk=> ?_⟩
 ·cases obj<;>simpa[aC.ren,aC.size,eL]using hs
 ·cases obj with
  |rc cs=>have:=hr k (by simpa[aC.ren,aC.size,eL]using hk);simp only[aC.ren,cf,eL]at this ⊢;rw[aW _ (by simp)]at this;exact Rep.renB _ _ this
  |arr sz xs=>exact hr k hk
  |bar l=>exact hr k hk
theorem dM.renF{x2:Sit}{w':World}{mo mt:Nat->Nat}{o:Nat}{obj:aC}(h:dM x w' o obj)(hG:∀b o v,x.G b o=some v->x2.G b o=some v)(ho:x2.bk (mo o)=x.bk o)
 (hβ:∀k∈obj.ids,x2.bk (mo k)=x.bk k) (hτ:∀t∈obj.toks,x2.τ (mt t)=x.τ t):dM x2 w' (mo o) (obj.ren mo mt):=by
 obtain⟨c,e,fl,fh,hO,⟨hs,hs2,hs3⟩,hr⟩:=h;refine⟨c,e,fl,fh,by rw[ho];exact hO,⟨?_,by rw[ho];exact hs2,by cases obj<;>exact hs3⟩,fun k hk=> ?_⟩
 ·cases obj<;>simpa[aC.ren,aC.size,eL]using hs
 ·cases obj with
  |rc cs=>
   have hk':k<cs.length:=by simpa[aC.ren,aC.size,eL]using hk
   have:=hr k hk';simp only[aC.ren,cf,eL]at this ⊢;rw[aW _ (by simp)];exact Rep.renF hG this (fun j hj=>hβ j (kE hk' j hj)) (fun j hj=>hτ j (jV hk' j hj))
  |arr sz xs=>exact(hr k hk).mono hG
  |bar l=>exact(hr k hk).mono hG
theorem iM{os:List aC}{p:Nat×aC}:p∈idx os↔p.1<os.length/\p.2=os.getD p.1 (.rc []):=by
 unfold idx;rw[aT];constructor
 ·rintro⟨⟨ob,i⟩,h,rfl⟩
  have:=List.mem_zipIdx' h;exact⟨this.1,by rw[aa,ac this.1];exact this.2⟩
 ·rintro⟨h1,h2⟩
  refine⟨(p.2,p.1), ?_,rfl⟩;rw[List.mk_mem_zipIdx_iff_getElem?,h2,aa,ac h1];rfl
theorem mp(os:List aC):((idx os).map cH).Nodup:=by
 unfold idx;rw[List.map_map];have:(cH∘fun p:aC×Nat=>(p.2,p.1))=Prod.snd:=rfl;rw[this];have:os.zipIdx.map Prod.snd=List.range' 0 os.length:=by simp[List.zipIdx_map_snd]
 rw[this];exact List.nodup_range'
theorem qY{m:List Nat}(h:m.Nodup){i j:Nat}(hi:i<m.length)(hj:j<m.length)(e:m[i]=m[j]):i=j:=by
 have hp:=nJ.1 h;rcases Nat.lt_trichotomy i j with hlt|heq|hgt
 ·exact absurd e (hp i j hi hj hlt)
 ·exact heq
 ·exact absurd e.symm (hp j i hj hi hgt)
def Ctx.callee(x:Sit)(w:World)(m:List Nat)(β0:Nat->Nat×Nat):Ctx:=⟨w,x.G,fun b=>w.heap.size<=b\/∃i,i<m.length/\(x.bk (m.getD i 0)).1=b,β0⟩
theorem uC(hM:aN C x s a w){m:List Nat}{os:List aC}{mo mt:Nat->Nat}(hmo:∀i,i<m.length->mo i=m.getD i 0)(hl:m.length=os.length)(hnd:m.Nodup)
 (hlk:∀i,i<os.length->s.look (m.getD i 0)=some ((os.getD i (.rc [])).ren mo mt)):cX (Ctx.callee x w m (x.back mo mt).bk) (x.back mo mt) (idx os) [] w:=by
 have hb:∀i,i<os.length->(x.back mo mt).bk i=x.bk (m.getD i 0):=fun i hi=>by show x.bk (mo i)=_;rw[hmo i (by omega)]
 refine⟨hM.heap.per,fun _ _ _ h=>h,fun _ _ _ h=> .inl h,fun b h=> .inl h, ?_,mp os, ?_,fun t h=>by simp at h,fun t h=>by simp at h,fun t h=>by simp at h,rfl,rfl,rfl,aK _,fun _ _=>rfl,fun _ _=>rfl,hM.heap.lay.mono hM.heap.g0⟩
 ·intro p hp
  obtain⟨h1,h2⟩:=iM.1 hp;obtain⟨h3,h4,h5⟩:=hM.heap.obs _ (db (hlk p.1 h1));refine⟨?_,.inr ⟨p.1,by omega,by rw[hb p.1 h1]⟩,fun off=>by rw[hb p.1 h1];exact h5 off⟩;rw[h2];refine dM.renB ?_;rw[hmo p.1 (by omega)];exact h3
 ·intro p hp q hq hpq
  obtain⟨h1,_⟩:=iM.1 hp;obtain⟨h2,_⟩:=iM.1 hq;rw[hb _ h1,hb _ h2]at hpq;have:=hM.heap.inj _ (db (hlk p.1 h1)) _ (db (hlk q.1 h2)) hpq;simp only at this;have e1:m.getD p.1 0=m[p.1]'(by omega):=by rw[aa,ac (by omega)];rfl
  have e2:m.getD q.1 0=m[q.1]'(by omega):=by rw[aa,ac (by omega)];rfl
  rw[e1,e2]at this;exact qY hnd _ _ this
end Go.Sy
namespace Go.Sy
variable [bf]
variable {P : Program} {C : Ctx} {x : Sit} {s : St} {a : Act} {w : World}
theorem jl{m:List Nat}{l:List (Nat×aC)}{p:Nat×aC}:p∈fe m l↔p∈l/\p.1∉m:=by
 induction l with
 |nil=>simp[fe]
 |cons q r ih=>
  simp only[fe];split<;>rename_i hq
  ·rw[ih,aw];constructor
   ·rintro⟨h1,h2⟩;exact⟨.inr h1,h2⟩
   ·rintro⟨rfl|h1,h2⟩
    ·exact absurd hq h2
    ·exact⟨h1,h2⟩
  ·rw[aw,ih,aw];constructor
   ·rintro(rfl|⟨h1,h2⟩)
    ·exact⟨.inl rfl,hq⟩
    ·exact⟨.inr h1,h2⟩
   ·rintro⟨rfl|h1,h2⟩
    ·exact .inl rfl
    ·exact .inr ⟨h1,h2⟩
theorem gP(m:List Nat)(l:List (Nat×aC)):(fe m l).Sublist l:=by
 induction l with
 |nil=>exact mZ.refl _
 |cons q r ih=>
  simp only[fe];split
  ·exact ih.cons q
  ·exact ih.cons_cons q
theorem xy(hM:aN C x s a w){m:List Nat}{os:List aC}{mo mt:Nat->Nat}{lo hi:Nat}(hl:m.length=os.length)(hlk:∀i,i<os.length->s.look (m.getD i 0)=some ((os.getD i (.rc [])).ren mo mt))
 {x':Sit} {w':World} {os':List (Nat×aC)} {tks:List Nat} {β0:Nat->Nat×Nat} (hH:cX (Ctx.callee x w m β0) x' os' tks w')
 (hmo:∀i,i<m.length->mo i=m.getD i 0) {β2:Nat->Nat×Nat} {τ2:Nat->Nat×Nat×Nat} (hlo100:∀i,i<100->¬(lo<=i/\i<hi)) (hβ2:∀o,¬(lo<=o/\o<hi)->β2 o=x.bk o) (hτ2:∀o,¬(lo<=o/\o<hi)->τ2 o=x.τ o)
 (hids:∀p∈os',β2 (mo p.1)=x'.bk p.1) (hcont:∀p∈os',∀k∈p.2.ids,β2 (mo k)=x'.bk k) (htoks:∀p∈os',∀t∈p.2.toks,τ2 (mt t)=x'.τ t)
 (hrange:∀p∈os',p.1<m.length\/(lo<=mo p.1/\mo p.1<hi)) (htk:∀t∈tks,(lo<=mt t/\mt t<hi)/\τ2 (mt t)=x'.τ t):
 (∀b o v,x.G b o=some v->x'.G b o=some v)/\cX C ⟨x'.G,β2,τ2⟩ (os'.map (fun p=>(mo p.1,p.2.ren mo mt))++fe m (bF lo hi s.ob)) (tks.map mt++cz lo hi s.tk) w':=by
 have hG:∀b o v,x.G b o=some v->x'.G b o=some v:=hH.g0;have hold:=hM.heap;have hmblock:∀i,i<m.length->(∃ob,(m.getD i 0,ob)∈s.ob):=fun i hi=>⟨_,db (hlk i (by omega))⟩
 have hmine:∀b,(Ctx.callee x w m β0).mine b->C.mine b:=by
  rintro b (h|⟨i,hi,rfl⟩)
  ·exact hold.new b (kL hold.size h)
  ·obtain⟨ob,hob⟩:=hmblock i hi
   exact(hold.obs _ hob).2.1
 have hmem:∀o∈m,∃i,i<m.length/\m.getD i 0=o:=by intro o ho;obtain⟨i,hi,rfl⟩:=bn ho;exact⟨i,hi,by rw[aa,ac hi];rfl⟩
 have hkeep:∀b,b<w.heap.size->(∀i,i<m.length->(x.bk (m.getD i 0)).1≠b)->w'.heap[b]? =w.heap[b]? /\((∀off,x.G b off=none)->∀off,x'.G b off=none):=by
  intro b hb hne
  have hnm:¬(Ctx.callee x w m β0).mine b:=by
   rintro(h|⟨i,hi,h⟩)
   ·omega
   ·exact hne i hi h
  refine⟨hH.ext b hnm,fun h off=> ?_⟩;cases hg:x'.G b off with
  |none=>rfl
  |some v=>
   rcases hH.gm b off v hg with h1|h1
   ·change x.G b off=some v at h1;rw[h off]at h1;cases h1
   ·exact absurd h1 hnm
 have hlo:∀p∈fe m (bF lo hi s.ob),∃ob,(p.1,ob)∈s.ob/\p.2=ob.purge lo hi/\¬(lo<=p.1/\p.1<hi)/\p.1∉m/\(∀i,i<m.length->(x.bk (m.getD i 0)).1≠(x.bk p.1).1)/\(x.bk p.1).1<w.heap.size:=by
  intro p hp;obtain⟨h1,h2⟩:=jl.1 hp;obtain⟨h3,ob,h4,h5⟩:=ct h1;refine⟨ob,h4,h5,h3,h2,fun i hi e=> ?_, ?_⟩
  ·obtain⟨ob',hob'⟩:=hmblock i hi
   have:=hold.inj _ hob' _ h4 e;simp only at this;apply h2;rw[<-this,aa,ac hi];exact bo _
  ·obtain⟨⟨c,e,fl,fh,hO,_⟩,_⟩:=hold.obs _ h4
   exact hO.lt
 have hnew:∀p∈os'.map (fun p=>(mo p.1,p.2.ren mo mt)),∃q∈os',p=(mo q.1,q.2.ren mo mt)/\β2 p.1=x'.bk q.1:=by intro p hp;obtain⟨q,hq,rfl⟩:=aT.1 hp;exact⟨q,hq,rfl,hids q hq⟩
 have hnewmine:∀q∈os',w.heap.size<=(x'.bk q.1).1\/∃i,i<m.length/\(x.bk (m.getD i 0)).1=(x'.bk q.1).1:=fun q hq=>(hH.obs q hq).2.1
 have htold:∀t∈cz lo hi s.tk,t∈s.tk/\¬(lo<=t/\t<hi):=fun t ht=>bK.1 ht
 have htblock:∀t∈s.tk,(x.τ t).2.1=(x.τ t).2.2\/((x.τ t).1<w.heap.size/\∀i,i<m.length->(x.bk (m.getD i 0)).1≠(x.τ t).1):=by
  intro t ht;rcases hold.tks t ht with h|⟨⟨c,e,fl,fh,hO,_⟩,_⟩
  ·exact .inl h
  ·by_cases he:(x.τ t).2.1=(x.τ t).2.2
   ·exact .inl he
   ·refine .inr ⟨hO.lt,fun i hi e'=> ?_⟩
    obtain⟨ob,hob⟩:=hmblock i hi;rcases hold.tko t ht _ hob with h|h
    ·exact h e'.symm
    ·exact he h
 refine⟨hG,⟨hH.per,fun b o v h=>hG _ _ _ (hold.g0 b o v h), ?_,hold.new, ?_, ?_, ?_, ?_, ?_, ?_,hH.os.trans hold.os,hH.tape.trans hold.tape,hH.output.trans hold.output,kL hold.size hH.size, ?_,fun i hi=>(hβ2 i (hlo100 i hi)).trans (hold.pin i hi),hold.lay⟩⟩
 ·intro b o v h
  rcases hH.gm b o v h with h1|h1
  ·exact hold.gm b o v h1
  ·exact .inr (hmine b h1)
 ·intro p hp
  rcases al.1 hp with hp|hp
  ·obtain⟨q,hq,rfl,hb⟩:=hnew p hp
   obtain⟨h1,h2,h3⟩:=hH.obs q hq;refine⟨h1.renF (x2:=⟨x'.G,β2,τ2⟩) (fun _ _ _ h=>h) (hids q hq) (hcont q hq) (htoks q hq), ?_,fun off=> ?_⟩
   ·show C.mine (β2 (mo q.1)).1;rw[hids q hq];exact hmine _ h2
   ·show x'.G (β2 (mo q.1)).1 off=none;rw[hids q hq];exact h3 off
  ·obtain⟨ob,h1,h2,h3,h4,h5,h6⟩:=hlo p hp
   obtain⟨g1,g2,g3⟩:=hold.obs _ h1;obtain⟨k1,k2⟩:=hkeep _ h6 h5;have hb:β2 p.1=x.bk p.1:=hβ2 _ h3;refine⟨?_,by show C.mine (β2 p.1).1;rw[hb];exact g2,fun off=>by show x'.G (β2 p.1).1 off=none;rw[hb];exact k2 g3 off⟩;rw[h2];exact dM.of_heap (x':=⟨x'.G,β2,τ2⟩) g1 k1 hG hβ2 hτ2 h3
 ·rw[du,List.nodup_append]
  refine⟨?_, ?_, ?_⟩
  ·rw[List.map_map]
   have hnd':=gq.1 hH.nd;refine gq.2 (qH.imp_of_mem (fun{p q} hp hq hne=> ?_) hnd');intro e;simp only[Function.comp]at e;have:(x'.bk p.1).1=(x'.bk q.1).1:=by rw[<-hids p hp,<-hids q hq,e]
   exact hne (hH.inj p hp q hq this)
  ·have h1:(fe m (bF lo hi s.ob)).Sublist (bF lo hi s.ob):=gP _ _
   refine we.sublist (h1.map cH) ?_;rw[eM];exact hold.nd.filter _
  ·intro o1 h1 o2 h2 e
   subst e;obtain⟨p,hp,rfl⟩:=aT.1 h1;obtain⟨q,hq,hqe⟩:=aT.1 h2;obtain⟨r,hr,rfl⟩:=aT.1 hp;obtain⟨ob,k1,k2,k3,k4,k5,k6⟩:=hlo q hq;simp only at hqe;rcases hrange r hr with h|h
   ·apply k4;rw[hqe,hmo _ h,aa,ac h];exact bo _
   ·apply k3;rw[hqe];exact h
 ·intro p hp q hq hpq
  change (β2 p.1).1=(β2 q.1).1 at hpq;rcases al.1 hp with hp|hp<;>rcases al.1 hq with hq|hq
  ·obtain⟨p',hp',rfl,hb⟩:=hnew p hp
   obtain⟨q',hq',rfl,hb'⟩:=hnew q hq;rw[hb,hb']at hpq;have:=hH.inj p' hp' q' hq' hpq;simp only;rw[this]
  ·obtain⟨p',hp',rfl,hb⟩:=hnew p hp
   obtain⟨ob,k1,k2,k3,k4,k5,k6⟩:=hlo q hq;rw[hb,hβ2 _ k3]at hpq;rcases hnewmine p' hp' with h|⟨i,hi,h⟩
   ·omega
   ·exact absurd (h.trans hpq) (k5 i hi)
  ·obtain⟨q',hq',rfl,hb⟩:=hnew q hq
   obtain⟨ob,k1,k2,k3,k4,k5,k6⟩:=hlo p hp;rw[hb,hβ2 _ k3]at hpq;rcases hnewmine q' hq' with h|⟨i,hi,h⟩
   ·omega
   ·exact absurd (h.trans hpq.symm) (k5 i hi)
  ·obtain⟨ob,k1,k2,k3,k4,k5,k6⟩:=hlo p hp
   obtain⟨ob',k1',k2',k3',k4',k5',k6'⟩:=hlo q hq;rw[hβ2 _ k3,hβ2 _ k3']at hpq;exact hold.inj (p.1,ob) k1 (q.1,ob') k1' hpq
 ·intro t ht
  rcases al.1 ht with ht|ht
  ·obtain⟨u,hu,rfl⟩:=aT.1 ht
   obtain⟨_,hτu⟩:=htk u hu;have:=hH.tks u hu;unfold gS at this ⊢;simp only[hτu];exact this.imp id fun⟨h1,h2,h3⟩=>⟨h1,hmine _ h2,h3⟩
  ·obtain⟨
    h1,h2⟩:=htold t ht
   have:=hold.tks t h1;unfold gS at this ⊢;simp only[hτ2 t h2];rcases this with h|⟨⟨c,e,fl,fh,hO,hc⟩,h4,h5⟩
   ·exact .inl h
   ·rcases htblock t h1 with h|⟨k1,k2⟩
    ·exact .inl h
    ·obtain⟨g1,_⟩:=hkeep _ k1 k2
     refine .inr ⟨⟨c,e,fl,fh,hO.of_heap g1,hc⟩,h4,fun o ho1 ho2=> ?_⟩;cases hg:x'.G (x.τ t).1 o with
     |none=>rfl
     |some v=>
      rcases hH.gm _ _ _ hg with q1|q1
      ·change x.G _ _=some v at q1;rw[h5 o ho1 ho2]at q1;cases q1
      ·rcases q1 with q1|⟨i,hi,q1⟩
       ·change w.heap.size<=_ at q1;omega
       ·exact absurd q1 (k2 i hi)
 ·intro t ht p hp
  rcases al.1 ht with ht|ht<;>rcases al.1 hp with hp|hp
  ·obtain⟨u,hu,rfl⟩:=aT.1 ht
   obtain⟨q,hq,rfl,hb⟩:=hnew p hp;show(τ2 (mt u)).1≠(β2 (mo q.1)).1\/(τ2 (mt u)).2.1=(τ2 (mt u)).2.2;rw[(htk u hu).2,hids q hq];exact hH.tko u hu q hq
  ·obtain⟨u,hu,rfl⟩:=aT.1 ht
   obtain⟨ob,k1,k2,k3,k4,k5,k6⟩:=hlo p hp;show(τ2 (mt u)).1≠(β2 p.1).1\/(τ2 (mt u)).2.1=(τ2 (mt u)).2.2;rw[(htk u hu).2,hβ2 _ k3];rcases hH.tks u hu with h|⟨_,h,_⟩
   ·exact .inr h
   ·left;intro e
    rcases h with h|⟨i,hi,h⟩
    ·change w.heap.size<=_ at h;omega
    ·exact k5 i hi (h.trans e)
  ·obtain⟨h1,h2⟩:=htold t ht
   obtain⟨q,hq,rfl,hb⟩:=hnew p hp;show(τ2 t).1≠(β2 (mo q.1)).1\/(τ2 t).2.1=(τ2 t).2.2;rw[hτ2 t h2,hids q hq];rcases htblock t h1 with h|⟨k1,k2⟩
   ·exact .inr h
   ·left;intro e
    rcases hnewmine q hq with h|⟨i,hi,h⟩
    ·omega
    ·exact k2 i hi (h.trans e.symm)
  ·obtain⟨h1,h2⟩:=htold t ht
   obtain⟨ob,k1,k2,k3,k4,k5,k6⟩:=hlo p hp;show(τ2 t).1≠(β2 p.1).1\/(τ2 t).2.1=(τ2 t).2.2;rw[hτ2 t h2,hβ2 _ k3];exact hold.tko t h1 (p.1,ob) k1
 ·intro t ht u hu htu
  show kK (τ2 t) (τ2 u)\/(τ2 t).2.1=(τ2 t).2.2\/(τ2 u).2.1=(τ2 u).2.2;rcases al.1 ht with ht|ht<;>rcases al.1 hu with hu|hu
  ·obtain⟨t',ht',rfl⟩:=aT.1 ht
   obtain⟨u',hu',rfl⟩:=aT.1 hu;rw[(htk t' ht').2,(htk u' hu').2];exact hH.tkd t' ht' u' hu' (fun e=>htu (by rw[e]))
  ·obtain⟨t',ht',rfl⟩:=aT.1 ht
   obtain⟨h1,h2⟩:=htold u hu;rw[(htk t' ht').2,hτ2 u h2];rcases hH.tks t' ht' with h|⟨_,h,_⟩
   ·exact .inr (.inl h)
   ·rcases htblock u h1 with k|⟨k1,k2⟩
    ·exact .inr (.inr k)
    ·refine .inl (fun e=> ?_)
     rcases h with h|⟨i,hi,h⟩
     ·change w.heap.size<=_ at h;omega
     ·exact k2 i hi (h.trans e)
  ·obtain⟨u',hu',rfl⟩:=aT.1 hu
   obtain⟨h1,h2⟩:=htold t ht;rw[(htk u' hu').2,hτ2 t h2];rcases hH.tks u' hu' with h|⟨_,h,_⟩
   ·exact .inr (.inr h)
   ·rcases htblock t h1 with k|⟨k1,k2⟩
    ·exact .inr (.inl k)
    ·refine .inl (fun e=> ?_)
     rcases h with h|⟨i,hi,h⟩
     ·change w.heap.size<=_ at h;omega
     ·exact k2 i hi (h.trans e.symm)
  ·obtain⟨h1,h2⟩:=htold t ht
   obtain⟨h3,h4⟩:=htold u hu;rw[hτ2 t h2,hτ2 u h4];exact hold.tkd t h1 u h3 htu
 ·intro b hb
  have hnm:¬(Ctx.callee x w m β0).mine b:=fun h=>hb (hmine b h)
  exact(hH.ext b hnm).trans (hold.ext b hb)
theorem cX.only{ob ob':List (Nat×aC)}{tk tk':List Nat}(h:cX C x ob tk w)(ho:∀p∈ob',p∈ob)(hn:(ob'.map cH).Nodup)(ht:∀t∈tk',t∈tk):cX C x ob' tk' w:=
 ⟨h.per,h.g0,h.gm,h.new,fun p hp=>h.obs p (ho p hp),hn,fun p hp q hq=>h.inj p (ho p hp) q (ho q hq),fun t hu=>h.tks t (ht t hu),fun t hu p hp=>h.tko t (ht t hu) p (ho p hp),
  fun t hu u hv=>h.tkd t (ht t hu) u (ht u hv),h.os,h.tape,h.output,h.size,h.ext,h.pin,h.lay⟩
theorem vf(d:Nat)(m:List Nat)(os:List (Nat×aC)):nX d m os=os.map fun p=>(im d m p.1,p.2.ren (im d m) (js d)):=by
 induction os with
 |nil=>rfl
 |cons p r ih=>simp[nX,ih]
end Go.Sy
namespace Go.Sy
variable [bf]
variable {P : Program} {C : Ctx} {x : Sit} {s : St} {a : Act} {w : World} {o : Oper} {so : SOp}
def D6(C:Ctx)(k:St->Prop):Act->World->Prop:=fun a w=>∃x s,aN C x s a w/\k s
theorem dl{K:Act->World->Prop}{Q:Exit->Act->World->Prop}{k:St->Prop}{s':St}(h:cn P C o a w s')(hk:k s')(hK:∀a w,D6 C k a w->K a w):o.wp P a w K Q:=by
 obtain⟨u,w',x',n,hrun,hn,hM⟩:=h;unfold Oper.wp;rw[hrun];rcases hn with rfl|⟨rfl,rfl⟩
 ·exact hK _ _ ⟨x',s',hM,hk⟩
 ·exact hK _ _ ⟨x',s',hM,hk⟩
theorem rR{f:Nat}(h:dL P f=true)(args:Array Value)(w:World):(callFunc f args).run P w= .ok (.enter f args) w:=by
 unfold dL at h;split at h
 ·rename_i fn hf
  simp only[aA,cV]at h;obtain⟨h1,h2⟩:=h;have h3:fn.body.isNone=false:=by cases hb:fn.body<;>simp[hb]at h1 ⊢
  simp only[callFunc,az,run_program,aj,hf,h2,aO,if_false,h3,aJ]
 ·cases h
theorem Dl(hM:aN C x s a w){cl:Call}{F:Operand}(ho:o.op= .call cl)(hb:cl.callee= .value F){f:Arg}{as:List Arg}(hf:bx P 0 F=some f)
 (has:jm (fun p=>bx P p.2 p.1) (cl.args.toList.zip cl.argTypes.toList)=some as) (hsz:cl.args.size=cl.argTypes.size) {g:Nat} {c1 c2:List SV} (hg:s.ev f= .fn g c1 c2) (hc:dL P g=true):
 ∃vs:List Value,(execOp a.eval o).run P w= .ok (.enter g ⟨vs⟩) w/\cj x (c1++as.map s.ev++c2) vs:=by
 have hF:=aP hM hf;rw[hg]at hF;obtain⟨v1,v2,hFe,h1,h2⟩:=hF.fn_inv;obtain⟨hl,hget⟩:=eS has;have hzl:(cl.args.toList.zip cl.argTypes.toList).length=cl.args.toList.length:=by simp[hsz]
 have hargs:cj x (as.map s.ev) (cl.args.toList.map a.eval):=by
  refine⟨by simp only[aY];rw[hl,hzl],fun i hi=> ?_⟩;have hi':i<as.length:=by simpa using hi
  have hiz:i<(cl.args.toList.zip cl.argTypes.toList).length:=by omega
  have:=aP hM (hget i hiz hi');have e1:(as.map s.ev).getD i .undef=s.ev as[i]:=by rw[aa,aR,ac hi'];rfl
  have e2:(cl.args.toList.map a.eval).getD i Go.undef=a.eval (cl.args.toList.zip cl.argTypes.toList)[i].1:=by
   have hia:i<cl.args.toList.length:=by omega
   rw[aa,aR,ac hia,List.getElem_zip];rfl
  rw[e1,e2];exact this
 refine⟨v1++cl.args.toList.map a.eval++v2, ?_,(h1.append hargs).append h2⟩
 have:(execOp a.eval o).run P w=(callFunc g ((⟨v1⟩:Array Value)++cl.args.map a.eval++⟨v2⟩)).run P w:=by simp only[execOp,ho,resolve,hb,hFe,Deferred.ofValue,az,aJ,aj,invoke]
 rw[this,rR hc]
 congr 2
 apply dY;simp
end Go.Sy
namespace Go.Sy
variable [bf]
variable {P : Program} {C : Ctx} {x : Sit} {s : St} {a : Act} {w : World} {o : Oper} {so : SOp} {p : Prop} {c : SV}
theorem Gm(hM:aN C x s a w){q r:Arg}(hr:bz P o=some (.ovl q r)){e:Eff}(he:eff s o.dst (.ovl q r)=some e)(hp:e.pre):cn P C o a w (s.app o.dst e):=by simp only[eff,val]at he;cases he
end Go.Sy
namespace Go.Sy
variable [bf]
variable {P : Program} {C : Ctx} {x : Sit} {s : St} {a : Act} {w : World} {o : Oper} {so : SOp} {p : Prop} {c : SV}
theorem New.append{as bs:List Value}{A B:List SV}(h:New x as A)(k:New x bs B):New x (as++bs) (A++B):=by
 refine⟨by simp[h.len,k.len],fun i hi=> ?_,fun v hv=>(al.1 hv).elim (h.one v) (k.one v)⟩;simp only[aa]
 by_cases h1:i<A.length
 ·rw[bq h1,bq (by rw[<-h.len];exact h1)]
  have:=h.rep i h1;simpa only[aa]using this
 ·rw[bB (by omega),bB (by rw[<-h.len];omega),h.len]
  have:=k.rep (i-A.length) (by simp only[af]at hi;omega);rw[h.len]at this;simpa only[aa]using this
theorem rF{sz:Nat}{rs:List (List SV)}(hrows:∀y∈rs,y.length=sz){cs:List Value}(h:New x cs rs.flatten)(k:Nat)(hk:k<rs.length*sz):cf x (.arr sz rs) k ((⟨cs⟩:Array Value).getD k Go.undef):=by
 simp only[cf,aC.cell];rw[<-cJ rs hrows k hk];have:=h.rep k (by rw[bJ hrows];exact hk);have e:(⟨cs⟩:Array Value).getD k Go.undef=cs.getD k Go.undef:=by simp[aQ,aa]
 rw[e];exact this
theorem grown(hM:aN C x s a w){d:Nat}{el:TypeId}{z:List SV}{R0 R1:List (List SV)}{os ns zr:List Value}{nc:Nat}(h0:New x os R0.flatten)(h1:New x ns R1.flatten)(hz:New x zr (aH (nc-(R0.length+R1.length)) z).flatten)
 (g0:∀y∈R0,y.length=z.length) (g1:∀y∈R1,y.length=z.length) (hnc:R0.length+R1.length<=nc) (sl:Option Nat) (hsl:sl.getD 0=d):
 ∃x',aN C x' (s.app sl (DZ d z R0 R1 nc)) (a.put sl (.slice (some ⟨w.heap.size,0,none⟩) (R0.length+R1.length) nc)) (w.drew.alloc (.cells (⟨os++ns++zr⟩:Array Value) el (0,0))):=by
 have hM2:aN C x s a w.drew:=⟨hM.tm,hM.defers,hM.heap.drew⟩
 have hrows:∀y∈R0++R1++aH (nc-(R0.length+R1.length)) z,y.length=z.length:=by
  intro y hy;rcases al.1 hy with hy|hy
  ·exact(al.1 hy).elim (g0 y) (g1 y)
  ·rw[(List.mem_replicate.1 hy).2]
 have hN:=(h0.append h1).append hz;rw[<-bL,<-bL]at hN
 have hsize:(⟨os++ns++zr⟩:Array Value).size=(R0++R1++aH (nc-(R0.length+R1.length)) z).length*z.length:=by show(os++ns++zr).length=_;rw[<-hN.len,bJ hrows]
 have hv:Rep (x.newO (d+100) w.drew.heap.size) (.psl (d+100) z.length 0 (R0.length+R1.length) (some nc)) (.slice (some ⟨w.heap.size,0,none⟩) (R0.length+R1.length) nc):=by have:=Rep.psl (x:=x.newO (d+100) w.drew.heap.size) (d+100) z.length 0 (R0.length+R1.length) (some nc) 0 nc (.inr (by omega)) hnc (fun _ e=>by cases e;rfl) (fun e=>by cases e);rw[iZ]at this;exact this
 refine⟨x.newO (d+100) w.drew.heap.size, ?_⟩;have:=hM2.newObj (d:=d+100) sl (by omega) (t:=el) (cv:=⟨os++ns++zr⟩) (.arr z.length (R0++R1++aH (nc-(R0.length+R1.length)) z)) (by simp only[aC.size];omega) (fun k hk=>rF hrows hN k hk) hv;simp only[St.app,DZ,hsl];exact this
structure Src(P:Program)(n m:Nat)(w:World)(Y:Value)(ns:List Value):Prop where
 len:∀w':World,w'.heap=w.heap->(Builtin.lenOf Y).run P w'= .ok m w'
 cells:∀w':World,w'.heap=w.heap->(Builtin.firstCells n m Y).run P w'= .ok ns.toArray w'
theorem o9(hM:aN C x s a w){n:Nat}{u:SV}{Y:Value}{p:Prop}{R:List (List SV)}(h:Rep x u Y)(hb:gR s n u=some (p,R))(hp:p):∃ns,(∀y∈R,y.length=n)/\New x ns R.flatten/\Src P n R.length w Y ns:=by
 obtain⟨hrows',g1,ns,hnew,g2⟩:=gL (P:=P) hM h hb hp;refine⟨ns,hrows',hnew,g1,fun w' hw'=> ?_⟩;have:=g2 R.length (aK _) w' hw';have hnl:ns.length=R.length*n:=by rw[<-hnew.len,bJ hrows']
 rwa[<-hnl,kp]at this
theorem CW{so:SOp}(hr:bz P o=some so)(h1:(∃z b q r,so= .app z b q r)\/∃z b q r,so= .appM z b q r):∃cl,o.op= .call cl/\cl.callee= .builtin .append:=by
 cases ho:o.op with
 |call cl=>
  cases hb:cl.callee with
  |invoke r m=>simp[bz,ho,hb]at hr
  |value F=>
   exfalso;simp only[bz,ho,hb]at hr
   (repeat' split at hr)<;>first|(cases hr;done)|(cases hr;rcases h1 with⟨_,_,_,_,h⟩|⟨_,_,_,_,h⟩<;>cases h)
  |builtin b=>
   cases b<;>first|exact⟨cl,rfl,hb⟩|(exfalso;simp only[bz,ho,hb,reduceCtorEq]at hr<;>((repeat' split at hr)<;>first|(cases hr;done)|(cases hr;rcases h1 with⟨_,_,_,_,h⟩|⟨_,_,_,_,h⟩<;>cases h)))
 |_=>
  exfalso
  have:¬((∃z b q r,so= .app z b q r)\/∃z b q r,so= .appM z b q r):=by
   simp only[bz,ho]at hr
   first
    |(cases hr;done)
    |(obtain⟨_,_,rfl⟩:=ae.1 hr;rintro(⟨_,_,_,_,h⟩|⟨_,_,_,_,h⟩)<;>cases h;done)
    |(repeat' split at hr)<;>first|(cases hr;done)|contradiction|(cases hr;rintro(⟨_,_,_,_,h⟩|⟨_,_,_,_,h⟩)<;>cases h;done)|(obtain⟨_,_,rfl⟩:=ae.1 hr;rintro(⟨_,_,_,_,h⟩|⟨_,_,_,_,h⟩)<;>first|(cases h;done)|(split at h<;>cases h;done))
  exact this h1
structure xm8(P:Program)(o:Oper)(z:List SV)(by_:Nat)(q r:Arg)(a:Act)(X Y:Operand)(t u el:TypeId)(d2:TypeDesc)(zs:List Value):Prop where
 ex:execOp a.eval o=(do pure (.value (<-Builtin.append_ #[t,u] o.type #[a.eval X,a.eval Y])))
 hd:P.underlying t=some (.slice el)
 hu:P.underlying u=some d2
 hX:bx P t X=some q
 hY:bx P u Y=some r
 hn:fd P el=some z.length
 hby:sO P el=some by_
 hz:fU P el=some zs
 hzl:z.length=zs.length
 hzd:∀(G:GM) i,i<z.length->co G (z.getD i .undef) (zs.getD i Go.undef)
 hb0:by_≠0
 hn0:z.length≠0
theorem R2{so:SOp}(hr:bz P o=some so){z:List SV}{by_:Nat}{q r:Arg}(h1:so= .app z by_ q r\/so= .appM z by_ q r)(a:Act):∃X Y t u el d2 zs,xm8 P o z by_ q r a X Y t u el d2 zs/\
 (so= .app z by_ q r->(∃e',d2= .slice e')\/d2= .string)/\(so= .appM z by_ q r->∃k,d2= .int k):=by
 obtain⟨cl,ho,hb⟩:=CW hr (h1.imp (fun h=>⟨_,_,_,_,h⟩) (fun h=>⟨_,_,_,_,h⟩));simp only[bz,ho,hb]at hr;split at hr<;>try (cases hr;done)
 rename_i X Y t u hX ht;split at hr<;>try (cases hr;done)
 rename_i el d2 r' q' hd hu hra hrb;split at hr<;>try (cases hr;done)
 rename_i n b' z' hn hby hz;rw[aG]at hr;obtain⟨hcond,hr⟩:=hr;simp only[aA,decide_eq_true_eq]at hcond;obtain⟨⟨hb0,hn0⟩,hzl'⟩:=hcond;obtain⟨zs,hzc,hzl0,hzd⟩:=jc hz;have ea:cl.args= #[X,Y]:=by apply dY;simpa using hX
 have et:cl.argTypes= #[t,u]:=by apply dY;simpa using ht
 have hex:=fH (a:=a) ho hb _ rfl;rw[ea,et]at hex;have em: #[X,Y].map a.eval= #[a.eval X,a.eval Y]:=by simp
 rw[em]at hex
 have key:z'=z/\b'=by_/\r'=q/\q'=r/\(so= .app z by_ q r->(∃e',d2= .slice e')\/d2= .string)/\(so= .appM z by_ q r->∃k,d2= .int k):=by
  split at hr<;>try (cases hr;done)
  ·cases hr;rcases h1 with h|h<;>cases h;exact⟨rfl,rfl,rfl,rfl,fun _=> .inl ⟨_,rfl⟩,fun h=>by cases h⟩
  ·rw[aG]at hr
   obtain⟨_,hr⟩:=hr;cases hr;rcases h1 with h|h<;>cases h;exact⟨rfl,rfl,rfl,rfl,fun _=> .inr rfl,fun h=>by cases h⟩
  ·cases hr;rcases h1 with h|h<;>cases h;exact⟨rfl,rfl,rfl,rfl,fun h=>(by cases h),fun _=>⟨_,rfl⟩⟩
 obtain⟨rfl,rfl,rfl,rfl,k1,k2⟩:=key;subst hzl';exact⟨X,Y,t,u,el,d2,zs,⟨hex,hd,hu,hra,hrb,hn,hby,hzc,hzl0,hzd,hb0,hn0⟩,k1,k2⟩
theorem Dz{t:TypeId}{b:Nat}(h:sO P t=some b):∃i,P.info? t=some i/\i.bytes=b:=by
 unfold sO at h;cases hi:P.info? t with
 |none=>simp[hi]at h
 |some i=>simp[hi]at h;exact⟨i,rfl,h⟩
end Go.Sy
namespace Go.Sy
variable [bf]
variable {P : Program} {C : Ctx} {x : Sit} {s : St} {a : Act} {w : World} {o : Oper} {so : SOp}
def xhZ(C:Ctx)(P:Program)(g:Nat)(vs:List Value)(w:World)(d:Option Nat)(a:Act)(k:St->Prop):Prop:=
 Calls P g ⟨vs⟩ w fun en w'=>∃v,en= .returned v/\D6 C k (a.put d v) w'
theorem uq{K:Act->World->Prop}{Q:Exit->Act->World->Prop}{k:St->Prop}{g:Nat}{vs:List Value}(hrun:(execOp a.eval o).run P w= .ok (.enter g ⟨vs⟩) w)(h:xhZ C P g vs w o.dst a k)
 (hK:∀a w,D6 C k a w->K a w):o.wp P a w K Q:=by
 unfold Oper.wp;rw[hrun];refine Calls.mono h ?_;rintro en w' ⟨v,rfl,hp⟩;exact hK _ _ hp
theorem Gv{f:Arg}{as:List Arg}(hr:bz P o=some (.call f as)):∃cl F,o.op= .call cl/\cl.callee= .value F/\bx P 0 F=some f/\jm (fun p=>bx P p.2 p.1) (cl.args.toList.zip cl.argTypes.toList)=some as/\cl.args.size=cl.argTypes.size:=by
 cases ho:o.op with
 |call cl=>
  cases hb:cl.callee with
  |invoke r m=>simp[bz,ho,hb]at hr
  |value F=>
   simp only[bz,ho,hb]at hr;split at hr<;>try (cases hr;done)
   rename_i f' as' h1 h2;split at hr<;>try (cases hr;done)
   rename_i h3;split at hr
   ·split at hr
    ·cases hr
    ·cases hr;exact⟨cl,F,rfl,hb,h1,h2,h3⟩
   ·cases hr;exact⟨cl,F,rfl,hb,h1,h2,h3⟩
  |builtin b=>
   exfalso;cases b<;>simp only[bz,ho,hb,reduceCtorEq]at hr
   all_goals
    (first|(cases hr;done)|(split at hr<;>(first|(cases hr;done)|(split at hr<;>(first|(cases hr;done)|(split at hr<;>(first|(cases hr;done)|(split at hr<;>(first|(cases hr;done)|(split at hr<;>(first|(cases hr;done)|(split at hr<;>((cases hr;done))))))))))))))
 |pick c X Y=>exfalso;simp only[bz,ho]at hr;split at hr<;>cases hr
 |move X=>exfalso;simp only[bz,ho]at hr;obtain⟨_,_,h⟩:=ae.1 hr;cases h
 |assign X=>exfalso;simp only[bz,ho]at hr;obtain⟨_,_,h⟩:=ae.1 hr;cases h
 |box t X=>exfalso;simp only[bz,ho]at hr;obtain⟨_,_,h⟩:=ae.1 hr;cases h
 |nilCheck X=>exfalso;simp only[bz,ho]at hr;obtain⟨_,_,h⟩:=ae.1 hr;cases h
 |unOp op t X=>exfalso;simp only[bz,ho]at hr;obtain⟨_,_,h⟩:=ae.1 hr;cases h
 |extract X i=>exfalso;simp only[bz,ho]at hr;obtain⟨_,_,h⟩:=ae.1 hr;cases h
 |build t ps=>
  exfalso;simp only[bz,ho]at hr;split at hr<;>try (cases hr;done)
  ·split at hr<;>try (cases hr;done)
   obtain⟨_,_,h⟩:=ae.1 hr;cases h
  ·split at hr<;>try (cases hr;done)
   obtain⟨_,_,h⟩:=ae.1 hr;cases h
 |buildSlice t n ps=>
  exfalso;simp only[bz,ho]at hr;split at hr<;>try (cases hr;done)
  split at hr<;>try (cases hr;done)
  split at hr<;>try (cases hr;done)
  obtain⟨_,_,h⟩:=ae.1 hr;split at h<;>cases h
 |makeFunc f X Y=>exfalso;cases f<;>simp only[bz,ho,reduceCtorEq]at hr;split at hr<;>cases hr
 |alloc t=>exfalso;simp only[bz,ho]at hr;first|(cases hr;done)|(split at hr<;>(first|(cases hr;done)|(split at hr<;>(first|(cases hr;done)|(split at hr<;>(first|(cases hr;done)|(split at hr<;>(first|(cases hr;done)|(split at hr<;>(first|(cases hr;done)|(split at hr<;>((cases hr;done)))))))))))))
 |load t X=>exfalso;simp only[bz,ho]at hr;first|(cases hr;done)|(split at hr<;>(first|(cases hr;done)|(split at hr<;>(first|(cases hr;done)|(split at hr<;>(first|(cases hr;done)|(split at hr<;>(first|(cases hr;done)|(split at hr<;>(first|(cases hr;done)|(split at hr<;>((cases hr;done)))))))))))))
 |store t X Y=>exfalso;simp only[bz,ho]at hr;first|(cases hr;done)|(split at hr<;>(first|(cases hr;done)|(split at hr<;>(first|(cases hr;done)|(split at hr<;>(first|(cases hr;done)|(split at hr<;>(first|(cases hr;done)|(split at hr<;>(first|(cases hr;done)|(split at hr<;>((cases hr;done)))))))))))))
 |binOp op t X Y u=>exfalso;simp only[bz,ho]at hr;first|(cases hr;done)|(split at hr<;>(first|(cases hr;done)|(split at hr<;>(first|(cases hr;done)|(split at hr<;>(first|(cases hr;done)|(split at hr<;>(first|(cases hr;done)|(split at hr<;>(first|(cases hr;done)|(split at hr<;>((cases hr;done)))))))))))))
 |convert t u X=>exfalso;simp only[bz,ho]at hr;first|(cases hr;done)|(split at hr<;>(first|(cases hr;done)|(split at hr<;>(first|(cases hr;done)|(split at hr<;>(first|(cases hr;done)|(split at hr<;>(first|(cases hr;done)|(split at hr<;>(first|(cases hr;done)|(split at hr<;>((cases hr;done)))))))))))))
 |makeSlice t X Y=>exfalso;simp only[bz,ho]at hr;first|(cases hr;done)|(split at hr<;>(first|(cases hr;done)|(split at hr<;>(first|(cases hr;done)|(split at hr<;>(first|(cases hr;done)|(split at hr<;>(first|(cases hr;done)|(split at hr<;>(first|(cases hr;done)|(split at hr<;>((cases hr;done)))))))))))))
 |slice t X lo hi mx=>exfalso;simp only[bz,ho]at hr;first|(cases hr;done)|(split at hr<;>(first|(cases hr;done)|(split at hr<;>(first|(cases hr;done)|(split at hr<;>(first|(cases hr;done)|(split at hr<;>(first|(cases hr;done)|(split at hr<;>(first|(cases hr;done)|(split at hr<;>((cases hr;done)))))))))))))
 |fieldAddr t X i=>exfalso;simp only[bz,ho]at hr;first|(cases hr;done)|(split at hr<;>(first|(cases hr;done)|(split at hr<;>(first|(cases hr;done)|(split at hr<;>(first|(cases hr;done)|(split at hr<;>(first|(cases hr;done)|(split at hr<;>(first|(cases hr;done)|(split at hr<;>((cases hr;done)))))))))))))
 |field t X i=>exfalso;simp only[bz,ho]at hr;first|(cases hr;done)|(split at hr<;>(first|(cases hr;done)|(split at hr<;>(first|(cases hr;done)|(split at hr<;>(first|(cases hr;done)|(split at hr<;>(first|(cases hr;done)|(split at hr<;>(first|(cases hr;done)|(split at hr<;>((cases hr;done)))))))))))))
 |indexAddr t X i=>exfalso;simp only[bz,ho]at hr;first|(cases hr;done)|(split at hr<;>(first|(cases hr;done)|(split at hr<;>(first|(cases hr;done)|(split at hr<;>(first|(cases hr;done)|(split at hr<;>(first|(cases hr;done)|(split at hr<;>(first|(cases hr;done)|(split at hr<;>((cases hr;done)))))))))))))
 |index t X i=>exfalso;simp only[bz,ho]at hr;first|(cases hr;done)|(split at hr<;>(first|(cases hr;done)|(split at hr<;>(first|(cases hr;done)|(split at hr<;>(first|(cases hr;done)|(split at hr<;>(first|(cases hr;done)|(split at hr<;>(first|(cases hr;done)|(split at hr<;>((cases hr;done)))))))))))))
 |_=>simp[bz,ho]at hr
theorem FF{c q r:Arg}(hr:bz P o=some (.pick c q r)):∃X Y Z,o.op= .pick X Y Z/\bx P 0 X=some c/\bx P o.type Y=some q/\bx P o.type Z=some r:=by
 cases ho:o.op with
 |pick X Y Z=>
  simp only[bz,ho]at hr;split at hr<;>try (cases hr;done)
  rename_i a1 a2 a3 h1 h2 h3;simp only[aq.injEq,SOp.pick.injEq]at hr;obtain⟨rfl,rfl,rfl⟩:=hr;exact⟨X,Y,Z,rfl,h1,h2,h3⟩
 |call cl=>
  exfalso;cases hb:cl.callee with
  |invoke r m=>simp[bz,ho,hb]at hr
  |value F=>simp only[bz,ho,hb]at hr;first|(cases hr;done)|(split at hr<;>(first|(cases hr;done)|(split at hr<;>(first|(cases hr;done)|(split at hr<;>(first|(cases hr;done)|(split at hr<;>(first|(cases hr;done)|(split at hr<;>(first|(cases hr;done)|(split at hr<;>((cases hr;done)))))))))))))
  |builtin b=>
   cases b<;>simp only[bz,ho,hb,reduceCtorEq]at hr
   all_goals
    (first|(cases hr;done)|(split at hr<;>(first|(cases hr;done)|(split at hr<;>(first|(cases hr;done)|(split at hr<;>(first|(cases hr;done)|(split at hr<;>(first|(cases hr;done)|(split at hr<;>(first|(cases hr;done)|(split at hr<;>((cases hr;done))))))))))))))
 |move X=>exfalso;simp only[bz,ho]at hr;obtain⟨_,_,h⟩:=ae.1 hr;cases h
 |assign X=>exfalso;simp only[bz,ho]at hr;obtain⟨_,_,h⟩:=ae.1 hr;cases h
 |box t X=>exfalso;simp only[bz,ho]at hr;obtain⟨_,_,h⟩:=ae.1 hr;cases h
 |nilCheck X=>exfalso;simp only[bz,ho]at hr;obtain⟨_,_,h⟩:=ae.1 hr;cases h
 |unOp op t X=>exfalso;simp only[bz,ho]at hr;obtain⟨_,_,h⟩:=ae.1 hr;cases h
 |extract X i=>exfalso;simp only[bz,ho]at hr;obtain⟨_,_,h⟩:=ae.1 hr;cases h
 |build t ps=>
  exfalso;simp only[bz,ho]at hr;split at hr<;>try (cases hr;done)
  ·split at hr<;>try (cases hr;done)
   obtain⟨_,_,h⟩:=ae.1 hr;cases h
  ·split at hr<;>try (cases hr;done)
   obtain⟨_,_,h⟩:=ae.1 hr;cases h
 |buildSlice t n ps=>
  exfalso;simp only[bz,ho]at hr;split at hr<;>try (cases hr;done)
  split at hr<;>try (cases hr;done)
  split at hr<;>try (cases hr;done)
  obtain⟨_,_,h⟩:=ae.1 hr;split at h<;>cases h
 |makeFunc f X Y=>exfalso;cases f<;>simp only[bz,ho,reduceCtorEq]at hr;split at hr<;>cases hr
 |alloc t=>exfalso;simp only[bz,ho]at hr;first|(cases hr;done)|(split at hr<;>(first|(cases hr;done)|(split at hr<;>(first|(cases hr;done)|(split at hr<;>(first|(cases hr;done)|(split at hr<;>(first|(cases hr;done)|(split at hr<;>(first|(cases hr;done)|(split at hr<;>((cases hr;done)))))))))))))
 |load t X=>exfalso;simp only[bz,ho]at hr;first|(cases hr;done)|(split at hr<;>(first|(cases hr;done)|(split at hr<;>(first|(cases hr;done)|(split at hr<;>(first|(cases hr;done)|(split at hr<;>(first|(cases hr;done)|(split at hr<;>(first|(cases hr;done)|(split at hr<;>((cases hr;done)))))))))))))
 |store t X Y=>exfalso;simp only[bz,ho]at hr;first|(cases hr;done)|(split at hr<;>(first|(cases hr;done)|(split at hr<;>(first|(cases hr;done)|(split at hr<;>(first|(cases hr;done)|(split at hr<;>(first|(cases hr;done)|(split at hr<;>(first|(cases hr;done)|(split at hr<;>((cases hr;done)))))))))))))
 |binOp op t X Y u=>exfalso;simp only[bz,ho]at hr;first|(cases hr;done)|(split at hr<;>(first|(cases hr;done)|(split at hr<;>(first|(cases hr;done)|(split at hr<;>(first|(cases hr;done)|(split at hr<;>(first|(cases hr;done)|(split at hr<;>(first|(cases hr;done)|(split at hr<;>((cases hr;done)))))))))))))
 |convert t u X=>exfalso;simp only[bz,ho]at hr;first|(cases hr;done)|(split at hr<;>(first|(cases hr;done)|(split at hr<;>(first|(cases hr;done)|(split at hr<;>(first|(cases hr;done)|(split at hr<;>(first|(cases hr;done)|(split at hr<;>(first|(cases hr;done)|(split at hr<;>((cases hr;done)))))))))))))
 |makeSlice t X Y=>exfalso;simp only[bz,ho]at hr;first|(cases hr;done)|(split at hr<;>(first|(cases hr;done)|(split at hr<;>(first|(cases hr;done)|(split at hr<;>(first|(cases hr;done)|(split at hr<;>(first|(cases hr;done)|(split at hr<;>(first|(cases hr;done)|(split at hr<;>((cases hr;done)))))))))))))
 |slice t X lo hi mx=>exfalso;simp only[bz,ho]at hr;first|(cases hr;done)|(split at hr<;>(first|(cases hr;done)|(split at hr<;>(first|(cases hr;done)|(split at hr<;>(first|(cases hr;done)|(split at hr<;>(first|(cases hr;done)|(split at hr<;>(first|(cases hr;done)|(split at hr<;>((cases hr;done)))))))))))))
 |fieldAddr t X i=>exfalso;simp only[bz,ho]at hr;first|(cases hr;done)|(split at hr<;>(first|(cases hr;done)|(split at hr<;>(first|(cases hr;done)|(split at hr<;>(first|(cases hr;done)|(split at hr<;>(first|(cases hr;done)|(split at hr<;>(first|(cases hr;done)|(split at hr<;>((cases hr;done)))))))))))))
 |field t X i=>exfalso;simp only[bz,ho]at hr;first|(cases hr;done)|(split at hr<;>(first|(cases hr;done)|(split at hr<;>(first|(cases hr;done)|(split at hr<;>(first|(cases hr;done)|(split at hr<;>(first|(cases hr;done)|(split at hr<;>(first|(cases hr;done)|(split at hr<;>((cases hr;done)))))))))))))
 |indexAddr t X i=>exfalso;simp only[bz,ho]at hr;first|(cases hr;done)|(split at hr<;>(first|(cases hr;done)|(split at hr<;>(first|(cases hr;done)|(split at hr<;>(first|(cases hr;done)|(split at hr<;>(first|(cases hr;done)|(split at hr<;>(first|(cases hr;done)|(split at hr<;>((cases hr;done)))))))))))))
 |index t X i=>exfalso;simp only[bz,ho]at hr;first|(cases hr;done)|(split at hr<;>(first|(cases hr;done)|(split at hr<;>(first|(cases hr;done)|(split at hr<;>(first|(cases hr;done)|(split at hr<;>(first|(cases hr;done)|(split at hr<;>(first|(cases hr;done)|(split at hr<;>((cases hr;done)))))))))))))
 |_=>simp[bz,ho]at hr
theorem Dq(hM:aN C x s a w){c q r:Arg}(hr:bz P o=some (.pick c q r)){t:Bool}(ht:s.ev c= .bool t):cn P C o a w (s.put o.dst (if t then s.ev q else s.ev r)):=by
 obtain⟨X,Y,Z,ho,h1,h2,h3⟩:=FF hr;have e1:=aP hM h1;rw[ht]at e1;refine cn.val hM (m:=do pure (if<-asBool (a.eval X)then a.eval Y else a.eval Z)) (u:=if t then a.eval Y else a.eval Z) (by simp only[execOp,ho];simp) ?_ ?_
 ·rw[e1.bool_inv];rfl
 ·cases t
  ·exact aP hM h3
  ·exact aP hM h2
theorem Ry(hM:aN C x s a w)(hr:bz P o=some so){e:Eff}(he:eff s o.dst so=some e)(hp:e.pre):cn P C o a w (s.app o.dst e):=by
 by_cases ho:∃q r,so= .ovl q r
 ·obtain⟨q,r,rfl⟩:=ho
  exact Gm hM hr he hp
 ·exact Dn hM hr (fun q r h=>ho ⟨q,r,h⟩) he hp
end Go.Sy
namespace Go.Sy
variable [bf]
variable {P : Program} {C : Ctx} {x : Sit} {s : St} {a : Act} {w : World}
theorem Ge(hM:aN C x s a w){g:Nat}{t:Bool}(h:s.get g= .bool t):g<s.tm.length/\a.tmps[g]? =some (.bool t)/\s.tm[g]? =some (.bool t):=by
 have hlt:g<s.tm.length:=by
  rcases bO g s.tm.length with h'|h'
  ·exact h'
  ·unfold St.get at h;rw[aa,gj h']at h;cases h
 have h1:s.tm[g]? =some (.bool t):=by unfold St.get at h;rw[aa,ac hlt]at h;rw[ac hlt];exact congrArg some h
 have hr:=hM.slot g;rw[h]at hr;have hv:=hr.bool_inv;have hs:g<a.tmps.size:=by rw[<-aS,<-hM.tm.1];exact hlt
 refine⟨hlt, ?_,h1⟩;rw[cg hs];have:a.tmps.getD g Go.undef=a.tmps[g]:=by simp[jK,hs]
 rw[<-this,hv]
def qG(P:Program)(o:Oper)(so:SOp):Prop:=bz P o=some so\/∃xs,so= .newB xs/\bz P o=some (.litB xs)
theorem qG.fresh{ops:Array Oper}{o:Oper}{so:SOp}(d:Option Nat)(h:bz P o=some so):qG P o (ny ops d so):=by
 rcases Df ops d so with e|⟨xs,e1,e2⟩
 ·rw[e];exact .inl h
 ·rw[e2];exact .inr ⟨xs,rfl,e1 ▸ h⟩
theorem qG.old{o:Oper}{so:SOp}(h:qG P o so)(hn:∀xs,so≠ .newB xs):bz P o=some so:=by
 rcases h with h|⟨xs,e,_⟩
 ·exact h
 ·exact absurd e (hn xs)
theorem kf{ops:Array Oper}{o:Oper}{i:SI}(h:fW P ops o=some i):qG P o i.op/\i.dst=o.dst/\(i.g=none/\o.guard=none\/∃j b g,i.g=some (g,b)/\o.guard=some (j,b)/\(ops[j]?).bind (·.dst)=some g):=by
 unfold fW at h;split at h<;>try (cases h;done)
 ·rename_i so h1 h2;cases h;exact⟨.fresh _ h1,rfl,.inl ⟨rfl,h2⟩⟩
 ·rename_i so j b h1 h2
  split at h<;>try (cases h;done)
  rename_i g hg;cases h;exact⟨.fresh _ h1,rfl,.inr ⟨j,b,g,rfl,h2,hg⟩⟩
theorem jL{ops:Array Oper}{o:Oper}(h:o.guard=none):Region.wanted o (yielded ops a.tmps)=true:=by simp[Region.wanted,h]
theorem ur{ops:Array Oper}{o:Oper}{j g:Nat}{b t:Bool}(h:o.guard=some (j,b))(hg:(ops[j]?).bind (·.dst)=some g)(ht:a.tmps[g]? =some (.bool t)):Region.wanted o (yielded ops a.tmps)=(t==b):=by simp only[Region.wanted,h,yielded,hg,cY,ht];cases t<;>cases b<;>rfl
end Go.Sy
namespace Go.Sy
variable [bf]
variable {P : Program} {C : Ctx} {x : Sit} {s : St} {a : Act} {w : World}
mutual
theorem og{n:Nat}:∀v:SV,n∉v.ids->n∉v.toks->v.purge n (n+1)=v
 | .byt l t,_,h=>by
  cases t with
  |id t=>simp only[SV.toks,bw]at h;simp only[SV.purge,Tok.purge];rw[if_neg (by omega)]
  |_=>rfl
 | .lst sz xs t,_,h=>by
  cases t with
  |id t=>simp only[SV.toks,bw]at h;simp only[SV.purge,Tok.purge];rw[if_neg (by omega)]
  |_=>rfl
 | .ptr o off,h,_=>by simp only[SV.ids,bw]at h;simp only[SV.purge];rw[if_neg (by omega)]
 | .ap o sz i j,h,_=>by simp only[SV.ids,bw]at h;simp only[SV.purge];rw[if_neg (by omega)]
 | .psl o sz off k cap,h,_=>by simp only[SV.ids,bw]at h;simp only[SV.purge];rw[if_neg (by omega)]
 | .agg cs,h,k=>by simp only[SV.ids,SV.toks]at h k;simp only[SV.purge];rw[gn cs h k]
 | .tup cs,h,k=>by simp only[SV.ids,SV.toks]at h k;simp only[SV.purge];rw[gn cs h k]
 | .fn f p q,h,k=>by simp only[SV.ids,SV.toks,al,not_or]at h k;simp only[SV.purge];rw[gn p h.1 k.1,gn q h.2 k.2]
 | .undef,_,_=>rfl
 | .bool _,_,_=>rfl
 | .int _ _,_,_=>rfl
 | .u8 _,_,_=>rfl
 | .str _,_,_=>rfl
 | .nilp,_,_=>rfl
 | .nili,_,_=>rfl
 | .pp _,_,_=>rfl
theorem gn{n:Nat}:∀l:List SV,n∉SV.idsL l->n∉SV.toksL l->SV.purgeL n (n+1) l=l
 |[],_,_=>rfl
 |v::r,h,k=>by simp only[SV.idsL,SV.toksL,al,not_or]at h k;simp only[SV.purgeL];rw[og v h.1 k.1,gn r h.2 k.2]
end
def xcQ(l:List SV):List Nat:=SV.idsL l++SV.toksL l
structure St.Fresh(s:St)(n:Nat):Prop where
 tm:n∉xcQ s.tm
 ob:∀o ob,s.look o=some ob->o≠n/\n∉ob.names
 tk:n∉s.tk
structure Eqv(s t:St):Prop where
 tm:s.tm=t.tm
 ob:∀o,s.look o=t.look o
 tk:∀n,n∈s.tk↔n∈t.tk
theorem Eqv.refl(s:St):Eqv s s:=⟨rfl,fun _=>rfl,fun _=>Iff.rfl⟩
theorem Eqv.symm{s t:St}(h:Eqv s t):Eqv t s:=⟨h.tm.symm,fun o=>(h.ob o).symm,fun n=>(h.tk n).symm⟩
theorem Eqv.trans{s t u:St}(h:Eqv s t)(k:Eqv t u):Eqv s u:=⟨h.tm.trans k.tm,fun o=>(h.ob o).trans (k.ob o),fun n=>(h.tk n).trans (k.tk n)⟩
theorem Eqv.fresh{s t:St}(h:Eqv s t){n:Nat}(hf:s.Fresh n):t.Fresh n:=
 ⟨h.tm ▸ hf.tm,fun o ob ho=>hf.ob o ob (by rw[h.ob];exact ho),fun hn=>hf.tk ((h.tk n).2 hn)⟩
def Eff.num(e:Eff)(d:Option Nat):List Nat:=match e.new,e.tok with|none,false=> []|_,_=> [d.getD 0+100]
def xh1(o:Nat):List (Nat×aC)->Option aC->Option aC
 |[],c=>c
 |p::r,c=>xh1 o r (if o=p.1 then c.map (fun _=>p.2)else c)
def Eff.look(e:Eff)(d:Option Nat)(o:Nat)(c:Option aC):Option aC:=
 match e.new,e.tok with
 |some v,_=>if o=d.getD 0+100 then some (v.purge (d.getD 0+100) (d.getD 0+100+1))else c
 |none,true=>c
 |none,false=>xh1 o e.wr c
def Eff.tks(e:Eff)(d:Option Nat)(t:Nat)(c:Prop):Prop:=
 match e.new,e.tok with
 |some _,_=>c
 |none,true=>t=d.getD 0+100\/(c/\t∉e.eat.ids)
 |none,false=>c
end Go.Sy
namespace Go.Sy
variable [bf]
variable {P : Program} {C : Ctx} {x : Sit} {s s' : St} {a : Act} {w : World}
def St.appO(s:St)(d:Option Nat):Option Eff->St
 |some e=>s.app d e
 |none=>s.put d .undef
end Go.Sy
namespace Go.Sy
variable [bf]
variable {P : Program} {C : Ctx} {x : Sit} {s s' : St} {a : Act} {w : World}
structure Itm where
 n:Nat
 i:SI
 o:Option Eff
 f:o6
end Go.Sy
namespace Go.Sy
variable [bf]
variable {P : Program} {C : Ctx} {x : Sit} {s : St} {a : Act} {w : World}
theorem aN.purge(hM:aN C x s a w)(lo hi:Nat):aN C x (s.purge lo hi) a w:=by
 have hH:=hM.heap;refine⟨hM.tm.mono (fun _ _ _ h=>h) (fun _ _=>rfl) (fun _ _=>rfl),hM.defers,⟨hH.per,hH.g0,hH.gm,hH.new, ?_, ?_, ?_, ?_, ?_, ?_,hH.os,hH.tape,hH.output,hH.size,hH.ext,hH.pin,hH.lay⟩⟩
 ·intro p hp
  obtain⟨h1,o,h2,h3⟩:=ct hp;obtain⟨h4,h5⟩:=hH.obs _ h2;refine⟨?_,h5⟩;rw[h3];exact h4.of_heap rfl (fun _ _ _ h=>h) (fun _ _=>rfl) (fun _ _=>rfl) h1
 ·show((bF lo hi s.ob).map cH).Nodup
  rw[eM];exact hH.nd.filter _
 ·intro p hp q hq
  obtain⟨_,o,h2,_⟩:=ct hp;obtain⟨_,o',h3,_⟩:=ct hq;exact hH.inj (p.1,o) h2 (q.1,o') h3
 ·intro t ht;exact hH.tks t (bK.1 ht).1
 ·intro t ht p hp
  obtain⟨_,o,h2,_⟩:=ct hp;exact hH.tko t (bK.1 ht).1 (p.1,o) h2
 ·intro t ht u hu;exact hH.tkd t (bK.1 ht).1 u (bK.1 hu).1
theorem aN.forget:∀{ds:List Nat}{s:St},aN C x s a w->aN C x (s.forget ds) a w
 |[],_,h=>h
 |d::r,s,h=>by simp only[St.forget];exact aN.forget (h.purge d (d+1))
theorem xo{ob:List (Nat×aC)}(h:(ob.map cH).Nodup){p:Nat×aC}(hp:p∈ob):ob.lookup p.1=some p.2:=by
 induction ob with
 |nil=>cases hp
 |cons q r ih=>
  simp only[aF,dN]at h;rcases aw.1 hp with rfl|hp
  ·simp[List.lookup]
  ·have:(p.1==q.1)=false:=by
    rw[beq_eq_false_iff_ne];intro e;apply h.1;rw[<-e];exact ik hp
   simp only[List.lookup,this];exact ih h.2 hp
section
variable {ops : Array Oper} {l : List SI} {its : List Itm} {b : List Nat}
def left(its:List Itm)(listed:Array Bool):List Itm:=its.filter fun it=> !listed.getD it.n true
theorem qf{listed:Array Bool}{i:Nat}(hi:i<listed.size):(listed.setIfInBounds i true).getD i true=true:=by simp[jK,hi]
theorem gC{listed:Array Bool}{i j:Nat}(hi:i<listed.size):(listed.setIfInBounds i true).getD j true=if j=i then true else listed.getD j true:=by
 by_cases h:j=i
 ·subst h;rw[if_pos rfl];exact qf hi
 ·rw[if_neg h,getD_set_ne true (fun e=>h e.symm)]
end
end Go.Sy
namespace Go.Sy
variable [bf]
variable {P : Program} {C : Ctx} {x : Sit} {s : St} {a : Act} {w : World}
theorem X4(p:Nat->Prop)(h:∃n,p n):∃n,p n/\∀m,p m->n<=m:=by
 obtain⟨n,hn⟩:=h;induction n using Nat.strongRecOn with
 |_ n ih=>
  by_cases hex:∃m,m<n/\p m
  ·obtain⟨m,hm,hpm⟩:=hex;exact ih m hm hpm
  ·exact⟨n,hn,fun m hpm=>Nat.le_of_not_lt fun hlt=>hex ⟨m,hlt,hpm⟩⟩
def w7(P:Program)(s:St):List ResultVar->Option (Prop×List SV)
 |[]=>some (True,[])
 | .tmp t::r=>match w7 P s r with
  |some (p,vs)=>some (p,s.get t::vs)
  |none=>none
 | .cell t ty::r=>match fd P ty,qc P ty,w7 P s r with
  |some n,some ag,some (p,vs)=>match (if ag||n==1 then iE s n ag (s.get t)else none)with
   |some (q,v)=>some (q/\p,v::vs)
   |none=>none
  |_,_,_=>none
def jh:List SV->SV
 |[v]=>v
 |vs=> .tup vs
theorem p9(hM:aN C x s a w){t:TypeId}{n:Nat}{ag:Bool}{u c:SV}{v:Value}{p:Prop}(hn:fd P t=some n)(hag:qc P t=some ag)(hu:Rep x u v)(h:(if ag||n==1 then iE s n ag u else none)=some (p,c))(hp:p):
 ∃ad r,v= .pointer (some ad)/\(loadVar t ad).run P w= .ok r w/\Rep x c r:=by
 split at h<;>try (cases h;done)
 rename_i h1;obtain⟨b,off,cs,rfl,rfl,hc⟩:=lg hM hu h hp;obtain⟨r,hr,hrep⟩:=ox (P:=P) hc hn hag h1;exact⟨_,r,rfl,hr,hrep⟩
def Sz(tmps:Array Value):ResultVar->Sem Value
 | .tmp t=>pure (tmps.getD t Go.undef)
 | .cell a t=>do loadVar t (<-asAddr (tmps.getD a Go.undef))
theorem w6(fn:Func)(tmps:Array Value):results fn tmps=(do let vs<-fn.results.mapM (Sz tmps);pure (if h:vs.size=1 then vs[0]else .tuple vs)):=by
 unfold results
 congr 1
theorem pS(hM:aN C x s a w):∀{rs:List ResultVar}{p:Prop}{vs:List SV},w7 P s rs=some (p,vs)->p->
 ∃us,(rs.mapM (Sz a.tmps)).run P w= .ok us w/\cj x vs us:=by
 intro rs;induction rs with
 |nil=>intro p vs h _;simp only[w7,aq.injEq,bt.injEq]at h;obtain⟨_,rfl⟩:=h;exact⟨[],rfl,rfl,fun i hi=>by simp at hi⟩
 |cons r rs ih=>
  intro p vs h hp
  have cons:∀{c:SV}{u:Value}{cs:List SV}{us:List Value},Rep x c u->cj x cs us->cj x (c::cs) (u::us):=by
   intro c u cs us h1 h2
   exact⟨by simp[h2.1],fun i hi=>by
    cases i with
    |zero=>exact h1
    |succ i=>simpa using h2.2 i (by simpa using hi)⟩
  cases r with
  |tmp t=>
   simp only[w7]at h;split at h<;>try (cases h;done)
   rename_i q vs' hq;simp only[aq.injEq,bt.injEq]at h;obtain⟨rfl,rfl⟩:=h;obtain⟨us,hrun,hl⟩:=ih hq hp;refine⟨_, ?_,cons (hM.slot t) hl⟩;simp only[List.mapM_cons,Sz,az,aJ,aj,hrun]
  |cell t ty=>
   simp only[w7]at h;split at h<;>try (cases h;done)
   rename_i n ag q vs' hn hag hq;split at h<;>try (cases h;done)
   rename_i q' v' hv;simp only[aq.injEq,bt.injEq]at h;obtain⟨rfl,rfl⟩:=h;obtain⟨us,hrun,hl⟩:=ih hq hp.2;obtain⟨ad,r,hadr,hlr,hrep⟩:=p9 hM hn hag (hM.slot t) hv hp.1;refine⟨_, ?_,cons hrep hl⟩;have hA:(asAddr (a.tmps.getD t Go.undef)).run P w= .ok ad w:=by rw[hadr];rfl
   simp only[List.mapM_cons,Sz,az,hA,aJ,aj,hlr,hrun]
end Go.Sy
namespace Go.Sy
variable [bf]
variable {P : Program}
end Go.Sy
namespace Go.Sy
variable [bf]
variable {P : Program} {C : Ctx} {x : Sit} {s : St} {a : Act} {w : World}
def leT(t:Nat)(a b:SV):Prop:=∀(x:Sit)(v:Value),Rep x a v->Rep (x.newT t 0 0 0) b v
theorem leT.keep(t:Nat)(a:SV):leT t a (a.purge t (t+1)):=fun x v h=>h.mono (x:=x) (x':=x.newT t 0 0 0) (lo:=t) (hi:=t+1) (fun _ _ _ h=>h) (fun _ _=>rfl) (Sit.newT_ne x t 0 0 0)
theorem leT.le{t:Nat}{a b:SV}(h:qx a b)(hi:t∉b.ids)(ht:t∉b.toks):leT t a b:=fun x v hv=>by have:=leT.keep t b x v (h x v hv);rwa[og b hi ht]at this
theorem leT.undef(t:Nat)(a:SV):leT t a .undef:=fun _ v _=> .undef v
theorem leT.lst(t sz:Nat)(xs:List (List SV)):leT t (.lst sz xs .clip) (.lst sz xs (.id t)):=fun x v hv=>by obtain⟨b,cap,he,_,hD,hsp⟩:=hv.lst_inv;obtain⟨a',n',he'⟩:=hsp;exact .dat _ _ (hD.tok (.lst sz xs (.id t)) (.inr ⟨sz,xs,_,_,rfl,rfl⟩)) ⟨a',n',n',he',.inl rfl⟩
theorem leT.byt(t:Nat)(l:List UInt8):leT t (.byt l .clip) (.byt l (.id t)):=fun x v hv=>by obtain⟨b,cap,he,_,hD,hsp⟩:=hv.byt_inv;obtain⟨a',n',he'⟩:=hsp;exact .dat _ _ (hD.tok (.byt l (.id t)) (.inl ⟨l,_,_,rfl,rfl⟩)) ⟨a',n',n',he',.inl rfl⟩
def leP(o sz:Nat)(xs:List (List SV))(a b:SV):Prop:=∀(x x':Sit)(v:Value),x'.bk=x.bk->x'.τ=x.τ->(∀b i u,x.G b i=some u->x'.G b i=some u)->
 (∀k,k<xs.length*sz->∃u,x'.G ((x.bk o).1) k=some u/\co x'.G ((xs.getD (k/sz) []).getD (k % sz) .undef) u)->Rep x a v->Rep x' b v
theorem leP.le{o sz:Nat}{xs:List (List SV)}{a b:SV}(h:qx a b):leP o sz xs a b:=fun x x' v hβ hτ hG _ hv=>(h x v hv).grow hG hβ hτ
theorem leP.undef(o sz:Nat)(xs:List (List SV))(a:SV):leP o sz xs a .undef:=fun _ _ v _ _ _ _ _=> .undef v
theorem leP.psl{o sz off n:Nat}{cap:Option Nat}{xs:List (List SV)}(hb:off+n<=xs.length)(hrows:∀y∈xs,y.length=sz):leP o sz xs (.psl o sz off n cap) (.lst sz ((xs.drop off).take n) .no):=by
 intro x x' v hβ hτ hG hc hv;obtain⟨cap,hnc,_,off',he,hoff⟩:=hv.psl_inv;rw[he];have hlen:((xs.drop off).take n).length=n:=by simp;omega
 refine .dat _ _ ?_ trivial
 by_cases hn:n=0
 ·subst hn
  refine .lst _ _ _ _ _ _ _ (fun _ _=>Go.undef) hlen.symm hnc (fun i hi=>by omega) (fun i j hi=>by omega) (fun i j hi=>by omega)
 ·have hoff':off'=off*sz:=by omega
  have hrow:∀i,i<n->(((xs.drop off).take n).getD i [])=xs.getD (off+i) []:=fun i hi=>by simp only[aa,bC,if_pos hi,bi]
  have hl:∀i,i<n->(xs.getD (off+i) []).length=sz:=fun i hi=>by rw[aa,ac (by omega)];exact hrows _ (bo _)
  have hk:∀i j,i<n->j<sz->off*sz+i*sz+j<xs.length*sz:=fun i j hi hj=>by have:=aX sz (show off+i+1<=xs.length by omega);simp only[bv,nu]at this;omega
  have hdm:∀i j,j<sz->(off*sz+i*sz+j)/sz=off+i/\(off*sz+i*sz+j) % sz=j:=fun i j hj=>by rw[<-bv,cB,Nat.mul_add_div (by omega),xZ hj,gx];exact⟨rfl,by rw[Nat.mul_add_mod,cx hj]⟩
  refine .lst _ _ _ _ _ _ _ (fun i j=>(x'.G ((x.bk o).1) (off*sz+i*sz+j)).getD Go.undef) hlen.symm hnc (fun i hi=>by rw[hrow i hi];exact hl i hi) (fun i j hi hj=> ?_) (fun i j hi hj=> ?_)
  ·obtain⟨u,hu,_⟩:=hc _ (hk i j hi hj)
   rw[hoff',hu];rfl
  ·obtain⟨u,hu,hr⟩:=hc _ (hk i j hi hj)
   rw[hu,hrow i hi];rw[(hdm i j hj).1,(hdm i j hj).2]at hr;exact hr
end Go.Sy
namespace Go.Sy
variable [bf]
structure CSt where
 tm:List (Nat×SV)
 ob:List (Nat×aC)
 tk:List Nat
def eB:List (Nat×SV)->Nat->SV
 |[],_=> .undef
 |p::r,n=>if p.1=n then p.2 else eB r n
def jg:List (Nat×SV)->Nat->SV->List (Nat×SV)
 |[],n,v=> [(n,v)]
 |p::r,n,v=>if n<p.1 then(n,v)::p::r else if n=p.1 then(n,v)::r else p::jg r n v
def vX:List (Nat×SV)->List Nat->List (Nat×SV)
 |[],_=> []
 |p::r,l=>if l.contains p.1 then vX r l else p::vX r l
def iF:List (Nat×aC)->Nat->Option aC
 |[],_=>none
 |p::r,n=>if p.1=n then some p.2 else iF r n
def iK:List (Nat×aC)->Nat->aC->List (Nat×aC)
 |[],n,v=> [(n,v)]
 |p::r,n,v=>if n<p.1 then(n,v)::p::r else if n=p.1 then(n,v)::r else p::iK r n v
def xdJ:List (Nat×aC)->Nat->List (Nat×aC)
 |[],_=> []
 |p::r,n=>if p.1=n then xdJ r n else p::xdJ r n
def lX:List Nat->Nat->List Nat
 |[],n=> [n]
 |p::r,n=>if n<p then n::p::r else if n=p then p::r else p::lX r n
def dp(lo hi:Nat):List (Nat×SV)->List (Nat×SV)
 |[]=> []
 |p::r=>(p.1,p.2.purge lo hi)::dp lo hi r
def CSt.get(c:CSt)(n:Nat):SV:=eB c.tm n
def CSt.ev(c:CSt):Arg->SV
 | .t n=>c.get n
 | .c v=>v
 | .f g=> .fn g [] []
def evL(c:CSt):List Arg->List SV
 |[]=> []
 |a::r=>c.ev a::evL c r
def CSt.put(c:CSt)(d:Option Nat)(v:SV):CSt:=
 match d with
 |some d=>⟨jg c.tm d v,c.ob,c.tk⟩
 |none=>c
def CSt.look(c:CSt)(o:Nat):Option aC:=iF c.ob o
def CSt.purge(c:CSt)(lo hi:Nat):CSt:=⟨dp lo hi c.tm,bF lo hi c.ob,cz lo hi c.tk⟩
def CSt.kill(c:CSt)(l:List Nat):CSt:=
 match l with
 |[]=>c
 |l=>⟨vX c.tm l,c.ob,c.tk⟩
def gd{α:Type}(p:Prop)[Decidable p](v:α):Option α:=if p then some v else none
def xx(op:BinOp)(k:IntKind)(a b:Int):Option SV:=
 match op with
 | .add=>some (.int k (k.wrap (a+b)))
 | .sub=>some (.int k (k.wrap (a-b)))
 | .mul=>some (.int k (k.wrap (a*b)))
 | .quo=>gd (b≠0) (.int k (k.wrap (a.tdiv b)))
 | .rem=>gd (b≠0) (.int k (a.tmod b))
 | .and=>some (.int k (bZ .and k a b))
 | .or=>some (.int k (bZ .or k a b))
 | .xor=>some (.int k (bZ .xor k a b))
 | .andNot=>some (.int k (bZ .andNot k a b))
 | .shl=>gd (0<=b) (.int k (k.wrap (a*2^(min b.toNat k.bits))))
 | .shr=>gd (0<=b) (.int k (a.fdiv (2^(min b.toNat k.bits))))
 | .eql=>some (.bool (decide (a=b)))
 | .neq=>some (.bool (decide (a≠b)))
 | .lss=>some (.bool (decide (a<b)))
 | .leq=>some (.bool (decide (a<=b)))
 | .gtr=>some (.bool (decide (b<a)))
 | .geq=>some (.bool (decide (b<=a)))
def x7(op:BinOp)(a b:UInt8):Option SV:=
 match op with
 | .add=>some (.u8 (a+b))
 | .sub=>some (.u8 (a-b))
 | .mul=>some (.u8 (a*b))
 | .quo=>gd (b≠0) (.u8 (a/b))
 | .rem=>gd (b≠0) (.u8 (a % b))
 | .and=>some (.u8 (a&&&b))
 | .or=>some (.u8 (a|||b))
 | .xor=>some (.u8 (a^^^b))
 | .andNot=>some (.u8 (a&&& ~~~b))
 | .eql=>some (.bool (decide (a=b)))
 | .neq=>some (.bool (decide (a≠b)))
 | .lss=>some (.bool (decide (a<b)))
 | .leq=>some (.bool (decide (a<=b)))
 | .gtr=>some (.bool (decide (b<a)))
 | .geq=>some (.bool (decide (b<=a)))
 |_=>none
def NF(op:BinOp)(a:UInt8)(b:Int):Option SV:=
 match op with
 | .shl=>gd (0<=b) (.u8 (gw (a.toNat*2^(min b.toNat 8))))
 | .shr=>gd (0<=b) (.u8 (gw (a.toNat/2^(min b.toNat 8))))
 |_=>none
def NK(op:BinOp)(a b:List UInt8):Option SV:=
 match op with
 | .add=>gd (a.length+b.length<=9223372036854775807) (.str (a++b))
 | .eql=>some (.bool (decide (a=b)))
 | .neq=>some (.bool (decide (a≠b)))
 | .lss=>some (.bool (cM a b))
 | .leq=>some (.bool (cM a b||decide (a=b)))
 | .gtr=>some (.bool (!(cM a b||decide (a=b))))
 | .geq=>some (.bool (!cM a b))
 |_=>none
def l7:BinOp->Bool
 | .shl| .shr=>true
 |_=>false
def Ei(op:BinOp):SV->SV->Option SV
 | .int k a,.int k' b=>if l7 op=true\/k=k' then xx op k a b else none
 | .u8 a,.int _ b=>NF op a b
 | .u8 a,.u8 b=>x7 op a b
 | .str a,.str b=>NK op a b
 |_,_=>none
def lM(c:CSt)(n:Nat)(ag:Bool):SV->Option SV
 | .pp cs=>gd (n<=cs.length) (dC ag n (cs.map SV.data))
 | .ptr o off=>match c.look o with
  |some (.rc cs)=>gd (off+n<=cs.length) (dC ag n (cs.drop off))
  |some (.arr _ xs)=>gd (off=0/\n<=xs.flatten.length) (dC ag n (xs.flatten.map SV.data))
  |some (.bar l)=>gd (off=0/\n<=l.length) (dC ag n (l.map .u8))
  |none=>none
 | .ap o sz i j=>match c.look o with
  |some (.arr sz' xs)=>gd (sz=sz'/\i<xs.length/\j+n<=sz) (dC ag n (((xs.getD i []).drop j).map SV.data))
  |some (.bar l)=>gd (sz=1/\j=0/\n=1/\i<l.length) (dC ag n [.u8 (l.getD i 0)])
  |_=>none
 |_=>none
def jZ(c:CSt)(x:Option Arg)(dflt:Int):Option Int:=
 match x with
 |none=>some dflt
 |some a=>(c.ev a).num
def nA(c:CSt)(sz:Nat)(x:SV)(lo hi mx:Option Arg):Option SV:=
 match x with
 | .byt l t=>
  match jZ c lo 0,jZ c hi l.length,jZ c mx l.length with
  |some a,some b,some m=>gd (0<=a/\a<=b/\b<=m/\m<=l.length/\sz=1/\(mx.isSome=true->b=m)) (.byt ((l.take b.toNat).drop a.toNat) (lm t hi.isNone mx.isSome))
  |_,_,_=>none
 | .lst sz' l t=>
  match jZ c lo 0,jZ c hi l.length,jZ c mx l.length with
  |some a,some b,some m=>gd (0<=a/\a<=b/\b<=m/\m<=l.length/\sz=sz'/\(mx.isSome=true->b=m)) (.lst sz ((l.take b.toNat).drop a.toNat) (lm t hi.isNone mx.isSome))
  |_,_,_=>none
 | .psl o sz' off n none=>
  match jZ c lo 0,jZ c hi n,mx with
  |some a,some b,none=>gd (0<=a/\a<=b/\b<=n/\sz=sz') (.psl o sz (off+a.toNat) (b.toNat-a.toNat) none)
  |_,_,_=>none
 | .psl o sz' off n (some cap)=>
  match jZ c lo 0,jZ c hi n,jZ c mx cap with
  |some a,some b,some m=>gd (0<=a/\a<=b/\b<=m/\m<=cap/\sz=sz') (.psl o sz (off+a.toNat) (b.toNat-a.toNat) (some (m.toNat-a.toNat)))
  |_,_,_=>none
 |_=>none
def eJ(c:CSt):SV->Option (List UInt8)
 | .byt l _=>some l
 | .str l=>some l
 | .psl o sz off n _=>match c.look o with
  |some (.bar l)=>gd (sz=1/\off+n<=l.length) ((l.drop off).take n)
  |_=>none
 |_=>none
def fM(c:CSt)(sz:Nat):SV->Option (List (List SV))
 | .lst sz' xs _=>gd (sz=sz') xs
 | .psl o sz' off n _=>match c.look o with
  |some (.arr sz'' xs)=>gd (sz=sz'/\sz=sz''/\off+n<=xs.length) ((xs.drop off).take n)
  |_=>none
 |_=>none
def psC(c:CSt):List (Nat×Nat×Arg)->List (Nat×Nat×SV)
 |[]=> []
 |(o,n,x)::r=>(o,n,c.ev x)::psC c r
def io(t:Bool)(a b:SV):SV:=if t=true then a else b
def cL(c:CSt):SOp->Option SV
 | .mov x=>some (c.ev x)
 | .build z ps=>(iH z (psC c ps)).map .agg
 | .lit sz xs=>(rows sz (evL c xs)).map fun r=> .lst sz r .clip
 | .litB xs=>(toB (evL c xs)).map fun r=> .byt r .clip
 | .load n ag a=>lM c n ag (c.ev a)
 | .nchk x=>match c.ev x with
  | .ptr o off=>some (.ptr o off)
  | .ap o sz i j=>some (.ap o sz i j)
  | .pp cs=>some (.pp cs)
  | .fn f a b=>some (.fn f a b)
  |_=>none
 | .bin op x y=>Ei op (c.ev x) (c.ev y)
 | .beq ne x y=>match c.ev x,c.ev y with
  | .bool a,.bool b=>some (.bool (if ne then decide (a≠b)else decide (a=b)))
  |_,_=>none
 | .eqS ne ts x y=>match c.ev x,c.ev y with
  | .agg cs,.agg ds=>(gD ts cs ds).map fun b=> .bool (if ne then !b else b)
  |_,_=>none
 | .un op x=>wk op (c.ev x)
 | .toInt k x=>gT k (c.ev x)
 | .toStr x=>match c.ev x with| .str l=>some (.str l)|_=>none
 | .slid _=>none
 | .newB _=>none
 | .isni ne x=>match c.ev x with| .nili=>some (.bool (!ne))|_=>none
 | .s2b x=>match c.ev x with| .str l=>some (.byt l .no)|_=>none
 | .b2s x=>match c.ev x with
  | .str _=>none
  |v=>(eJ c v).map .str
 | .mkfn f a b=>some (.fn f (evL c a) (evL c b))
 | .slcS x lo hi=>match c.ev x with
  | .str l=>match jZ c lo 0,jZ c hi l.length with
   |some a,some b=>gd (0<=a/\a<=b/\b<=l.length) (.str ((l.take b.toNat).drop a.toNat))
   |_,_=>none
  |_=>none
 | .slcL sz x lo hi mx=>nA c sz (c.ev x) lo hi mx
 | .slcA len sz x lo hi mx=>match c.ev x with
  | .ptr o off=>if off=0 then nA c sz (.psl o sz 0 len (some len)) lo hi mx else none
  |_=>none
 | .faddr off x=>match c.ev x with
  | .ptr o k=>some (.ptr o (k+off))
  | .ap o sz i j=>some (.ap o sz i (j+off))
  | .pp cs=>some (.pp (cs.drop off))
  |_=>none
 | .fld off n ag x=>match c.ev x with
  | .agg cs=>gd (off+n<=cs.length) (dC ag n (cs.drop off))
  |_=>none
 | .iaddrL sz x i=>match c.ev x,(c.ev i).num with
  | .byt l _,some n=>gd (0<=n/\n<l.length/\sz=1) (.pp [.u8 (l.getD n.toNat 0)])
  | .lst sz' xs _,some n=>gd (0<=n/\n<xs.length/\sz=sz') (.pp (xs.getD n.toNat []))
  | .psl o sz' off k _,some n=>gd (0<=n/\n<k/\sz=sz') (.ap o sz (off+n.toNat) 0)
  |_,_=>none
 | .iaddrA len sz x i=>match c.ev x,(c.ev i).num with
  | .ptr o off,some n=>match c.look o with
   |some (.rc _)=>gd (0<=n/\n<len) (.ptr o (off+n.toNat*sz))
   |some _=>gd (off=0/\0<=n/\n<len) (.ap o sz n.toNat 0)
   |none=>none
  | .pp cs,some n=>gd (0<=n/\n<len/\cs.length=len*sz) (.pp (cs.drop (n.toNat*sz)))
  |_,_=>none
 | .idxA len sz ag x i=>match c.ev x,(c.ev i).num with
  | .agg cs,some n=>gd (0<=n/\n<len/\cs.length=len*sz) (dC ag sz (cs.drop (n.toNat*sz)))
  |_,_=>none
 | .idxS x i=>match c.ev x,(c.ev i).num with
  | .str l,some n=>gd (0<=n/\n<l.length) (.u8 (l.getD n.toNat 0))
  |_,_=>none
 | .ext x i=>match c.ev x with
  | .tup vs=>gd (i<vs.length) (vs.getD i .undef)
  |_=>none
 | .len b x=>(jE b (c.ev x)).map fun n=> .int .i64 (n:Nat)
 | .lenC n=>some (.int .i64 n)
 | .cap x=>match c.ev x with
  | .psl _ _ _ _ (some m)=>some (.int .i64 m)
  | .byt l t=>if t= .clip then some (.int .i64 l.length)else none
  | .lst _ xs t=>if t= .clip then some (.int .i64 xs.length)else none
  |_=>none
 | .mini x y=>match c.ev x,c.ev y with
  | .int k a,.int k' b=>if k=k' then some (.int k (if b<a then b else a))else none
  |_,_=>none
 | .maxi x y=>match c.ev x,c.ev y with
  | .int k a,.int k' b=>if k=k' then some (.int k (if a<b then b else a))else none
  |_,_=>none
 |_=>none
structure nG where
 val:SV
 wr:List (Nat×aC):=[]
 new:Option aC:=none
 eat:Tok:= .no
 tok:Bool:=false
def Arg.isT:Arg->Bool
 | .t _=>true
 |_=>false
def aC.wf:aC->Bool
 | .arr sz xs=>xs.all fun x=>decide (x.length=sz)
 |_=>true
def kr(c:CSt)(n:Nat)(v:List SV):SV->Option nG
 | .ptr o off=>match c.look o with
  |some (.rc cs)=>gd (off+n<=cs.length/\v.length=n/\v.all SV.one=true) {val:= .undef,wr:=[(o,.rc (setCells cs off v))]}
  |some (.arr sz xs)=>gd (off=0/\n=xs.length*sz/\v.length=n/\v.all SV.isData=true) {val:= .undef,wr:=[(o,.arr sz (jq sz xs.length (v.map SV.data)))]}
  |some (.bar l)=>match toB v with
   |some l'=>gd (off=0/\n=l.length/\l'.length=n) {val:= .undef,wr:=[(o,.bar l')]}
   |none=>none
  |_=>none
 | .ap o sz i j=>match c.look o with
  |some (.arr sz' xs)=>gd (sz=sz'/\i<xs.length/\j+n<=sz/\v.length=n/\v.all SV.isData=true) {val:= .undef,wr:=[(o,.arr sz' (iX sz xs i j n (v.map SV.data)))]}
  |some (.bar l)=>match v with
   |[.u8 b]=>gd (sz=1/\j=0/\n=1/\i<l.length) {val:= .undef,wr:=[(o,.bar (l.set i b))]}
   |_=>none
  |_=>none
 |_=>none
def Tok.readyC(c:CSt):Tok->Bool
 | .no=>false
 | .clip=>true
 | .id t=>c.tk.contains t
def ec(c:CSt)(d:Option Nat):SOp->Option nG
 | .new o=>match d with
  |some d=>gd (o.wf=true) {val:= .ptr (d+100) 0,new:=some o}
  |none=>none
 | .box x=>match d with
  |some d=>some {val:= .ptr (d+100) 0,new:=some (.rc (c.ev x).cells)}
  |none=>none
 | .mk z bytes n m=>match d,c.ev n,c.ev m with
  |some d,.int _ n,.int _ m=>gd (0<=n/\n<=m/\bytes*m<=140737488355328/\m<=9223372036854775807) {val:= .psl (d+100) z.length 0 n.toNat (some m.toNat),new:=some (.arr z.length (aH m.toNat z))}
  |_,_,_=>none
 | .mkB n m=>match d,c.ev n,c.ev m with
  |some d,.int _ n,.int _ m=>gd (0<=n/\n<=m/\m<=140737488355328) {val:= .psl (d+100) 1 0 n.toNat (some m.toNat),new:=some (.bar (aH m.toNat 0))}
  |_,_,_=>none
 | .store n a x=>if(c.ev x).isDef=true then kr c n (c.ev x).cells (c.ev a)else none
 | .app z bytes x y=>match d with
  |some d=>match c.ev x with
   | .byt l t=>(eJ c (c.ev y)).bind fun l'=>gd (z.length=1/\bytes=1/\t.readyC c=true/\l.length+l'.length<=140737488355328) {val:= .byt (l++l') (.id (d+100)),eat:=t,tok:=true}
   | .lst sz' l t=>(fM c z.length (c.ev y)).bind fun l'=>gd (z.length=sz'/\t.readyC c=true/\(l.length+l'.length)*bytes<=140737488355328) {val:= .lst z.length (l++l') (.id (d+100)),eat:=t,tok:=true}
   |_=>none
  |none=>none
 | .clr z x=>match c.ev x with
  | .psl o sz' off n _=>match c.look o with
   |some (.arr sz'' xs)=>gd (0<n/\z.length=sz'/\z.length=sz''/\off+n<=xs.length) {val:= .tup [],wr:=[(o,.arr z.length (xs.take off++aH n z++xs.drop (off+n)))]}
   |_=>none
  |_=>none
 | .cpy sz x y=>match c.ev x with
  | .psl o sz' off n _=>match c.look o with
   |some (.bar l)=>(eJ c (c.ev y)).bind fun l'=>gd (sz=1/\sz'=1/\off+n<=l.length) {val:= .int .i64 (min l'.length n:Nat),wr:=[(o,.bar (l.take off++l'.take n++l.drop (off+(l'.take n).length)))]}
   |some (.arr sz'' xs)=>(fM c sz (c.ev y)).bind fun l'=>gd (y.isT=true/\sz=sz'/\sz=sz''/\off+n<=xs.length) {val:= .int .i64 (min l'.length n:Nat),wr:=[(o,.arr sz (xs.take off++l'.take n++xs.drop (off+(l'.take n).length)))]}
   |_=>none
  |_=>none
 | .pick k a b=>match c.ev k with
  | .bool t=>some {val:=io t (c.ev a) (c.ev b)}
  |_=>none
 | .call _ _=>none
 | .isnil ne x=>match c.ev x with
  | .byt l _=>gd (l≠ []) {val:= .bool ne}
  | .lst _ xs _=>gd (xs≠ []) {val:= .bool ne}
  | .psl _ _ _ _ _=>some {val:= .bool ne}
  |_=>none
 |so=>match cL c so with
  |some v=>some {val:=v}
  |none=>none
def CSt.wr(c:CSt):List (Nat×aC)->CSt
 |[]=>c
 |p::r=>CSt.wr ⟨c.tm,iK c.ob p.1 p.2,c.tk⟩ r
def CSt.app(c:CSt)(d:Option Nat)(e:nG):CSt:=
 match e.new,e.tok with
 |some o,_=>CSt.put ⟨dp (d.getD 0+100) (d.getD 0+101) c.tm,iK (bF (d.getD 0+100) (d.getD 0+101) c.ob) (d.getD 0+100) (o.purge (d.getD 0+100) (d.getD 0+101)),cz (d.getD 0+100) (d.getD 0+101) c.tk⟩ d e.val
 |none,true=>CSt.put ⟨dp (d.getD 0+100) (d.getD 0+101) c.tm,bF (d.getD 0+100) (d.getD 0+101) c.ob,lX (cz (d.getD 0+100) (d.getD 0+101) (e.eat.eat c.tk)) (d.getD 0+100)⟩ d e.val
 |none,false=>(c.wr e.wr).put d e.val
end Go.Sy
namespace Go.Sy
variable [bf]
mutual
def SV.bare:SV->SV
 | .byt l _=> .byt l .no
 | .lst sz xs _=> .lst sz xs .no
 | .agg cs=> .agg (SV.bareL cs)
 | .tup cs=> .tup (SV.bareL cs)
 | .fn f a b=> .fn f (SV.bareL a) (SV.bareL b)
 |v=>v
def SV.bareL:List SV->List SV
 |[]=> []
 |v::r=>v.bare::SV.bareL r
end
def xb(obj:aC)(sz off n:Nat)(cap:Option Nat):SV:=
 match obj with
 | .arr sz' xs=>if sz'=sz/\off+n<=xs.length then .lst sz ((xs.drop off).take n) (if cap=some n then .clip else .no)else .undef
 | .bar l=>if sz=1/\off+n<=l.length then .byt ((l.drop off).take n) (if cap=some n then .clip else .no)else .undef
 | .rc _=> .undef
mutual
def SV.pub(o:Nat)(obj:aC):SV->SV
 | .psl o' sz off n cap=>if o'=o then xb obj sz off n cap else .psl o' sz off n cap
 | .ptr o' off=>if o'=o then .undef else .ptr o' off
 | .ap o' sz i j=>if o'=o then .undef else .ap o' sz i j
 | .agg cs=> .agg (SV.pubL o obj cs)
 | .tup cs=> .tup (SV.pubL o obj cs)
 | .fn f a b=> .fn f (SV.pubL o obj a) (SV.pubL o obj b)
 |v=>v
def SV.pubL(o:Nat)(obj:aC):List SV->List SV
 |[]=> []
 |v::r=>v.pub o obj::SV.pubL o obj r
end
def ld(o:Nat)(obj:aC):List (Nat×SV)->List (Nat×SV)
 |[]=> []
 |p::r=>(p.1,p.2.pub o obj)::ld o obj r
def nh(o:Nat)(obj:aC):aC->aC
 | .rc cs=> .rc (SV.pubL o obj cs)
 |ob=>ob
def ky(o:Nat)(obj:aC):List (Nat×aC)->List (Nat×aC)
 |[]=> []
 |p::r=>if p.1=o then ky o obj r else(p.1,nh o obj p.2)::ky o obj r
def CSt.publish(c:CSt)(o:Nat)(vs:List SV):CSt×List SV:=
 match c.look o with
 |some (.arr sz xs)=>(⟨ld o (.arr sz xs) c.tm,ky o (.arr sz xs) c.ob,c.tk⟩,SV.pubL o (.arr sz xs) vs)
 |some (.bar l)=>(⟨ld o (.bar l) c.tm,ky o (.bar l) c.ob,c.tk⟩,SV.pubL o (.bar l) vs)
 |_=>(c,vs)
def gK:SV->List Nat
 | .psl o _ _ _ _=> [o]
 |_=> []
def tG:List SV->List Nat
 |[]=> []
 |v::r=>gK v++tG r
def lU(raw:List Nat)(i:Nat):SV->List Nat
 | .psl o _ _ _ _=>if raw.contains i=true then []else [o]
 | .agg cs=>if raw.contains i=true then []else tG cs
 |_=> []
def iQ(raw:List Nat):Nat->List SV->List Nat
 |_,[]=> []
 |i,v::r=>lU raw i v++iQ raw (i+1) r
def eP(c:CSt)(vs:List SV):List Nat->CSt×List SV
 |[]=>(c,vs)
 |o::r=>eP (c.publish o vs).1 (c.publish o vs).2 r
def Tok.kc:Tok->Bool->Tok
 | .clip,b=>if b=true then .clip else .no
 | .no,_=> .no
 | .id _,_=> .no
def SV.kclip:SV->SV
 | .lst sz xs t=> .lst sz xs (t.kc xs.isEmpty)
 | .byt l t=> .byt l (t.kc l.isEmpty)
 |v=>v.bare
def jH(tk:List Nat)(j:Nat):SV->SV×List (Option Nat)
 | .agg cs=>(.agg (cs.map SV.kclip),[])
 | .byt l .no=>(.byt l .no,[])
 | .byt l .clip=>(.byt l (.id j),[none])
 | .byt l (.id t)=>if tk.contains t=true then(.byt l (.id j),[some t])else(.byt l .no,[])
 | .lst sz xs .no=>(.lst sz xs .no,[])
 | .lst sz xs .clip=>(.lst sz xs (.id j),[none])
 | .lst sz xs (.id t)=>if tk.contains t=true then(.lst sz xs (.id j),[some t])else(.lst sz xs .no,[])
 |v=>(v.bare,[])
def tD(j sz:Nat)(xs:List (List SV)):Bool->SV×List (Option Nat)
 |true=>(.lst sz xs .clip,[])
 |false=>(.lst sz xs (.id j),[none])
def tC(tk:List Nat)(j sz:Nat)(xs:List (List SV)):Tok->SV×List (Option Nat)
 | .clip=>tD j sz xs xs.isEmpty
 | .no=>jH tk j (.lst sz xs .no)
 | .id t=>jH tk j (.lst sz xs (.id t))
def qP(tk:List Nat)(j:Nat):SV->SV×List (Option Nat)
 | .lst sz xs t=>tC tk j sz xs t
 |v=>jH tk j v
def jI(tk:List Nat)(own:List Nat):Nat->Nat->List SV->List SV×List (Option Nat)
 |_,_,[]=>([],[])
 |j,i,v::r=>
  if own.contains i=true then
   ((qP tk j v).1::(jI tk own (j+(qP tk j v).2.length) (i+1) r).1,(qP tk j v).2++(jI tk own (j+(qP tk j v).2.length) (i+1) r).2)
  else(v.bare::(jI tk own j (i+1) r).1,(jI tk own j (i+1) r).2)
def rS(tk:List Nat):Nat->List SV->List SV×List (Option Nat)
 |_,[]=>([],[])
 |j,v::r=>((jH tk j v).1::(rS tk (j+(jH tk j v).2.length) r).1,(jH tk j v).2++(rS tk (j+(jH tk j v).2.length) r).2)
def jA(tk:List Nat)(j:Nat):aC->aC×List (Option Nat)
 | .rc cs=>(.rc (rS tk j cs).1,(rS tk j cs).2)
 |o=>(o,[])
def ek(tk:List Nat):Nat->List aC->List aC×List (Option Nat)
 |_,[]=>([],[])
 |j,v::r=>((jA tk j v).1::(ek tk (j+(jA tk j v).2.length) r).1,(jA tk j v).2++(ek tk (j+(jA tk j v).2.length) r).2)
def cy:List (Option Nat)->List Nat
 |[]=> []
 |none::r=>cy r
 |some t::r=>t::cy r
def dR(c:CSt):Nat->List Nat->List Nat->List Nat
 |0,acc,_=>acc
 |_+1,acc,[]=>acc
 |
  f+1,acc,o::t=>if acc.contains o=true then dR c f acc t else
  match c.look o with
  |some ob=>dR c f (acc++ [o]) (t++ob.ids)
  |none=>dR c f acc t
def gu(c:CSt):List Nat->Option (List aC)
 |[]=>some []
 |o::r=>match c.look o,gu c r with
  |some ob,some l=>some (ob::l)
  |_,_=>none
def gB:List Nat->Nat->Nat
 |[],_=>0
 |p::r,o=>if p=o then 0 else gB r o+1
def fG:List aC->List Nat
 |[]=> []
 |o::r=>o.ids++fG r
def dB:List Nat->Bool
 |[]=>true
 |a::r=> !r.contains a&&dB r
def nQ(a b:List Nat):Bool:=a.all b.contains
def eu(mo mt:Nat->Nat):List aC->List aC
 |[]=> []
 |o::r=>o.ren mo mt::eu mo mt r
structure dv where
 r:SV
 os:List (Nat×aC)
 tk:List Nat
structure Sig where
 own:List Nat:=[]
 raw:List Nat:=[]
def qC(ob:List (Nat×aC)):List (Nat×aC)->List (Nat×aC)
 |[]=>ob
 |p::r=>qC (iK ob p.1 p.2) r
def qD(tk:List Nat):List Nat->List Nat
 |[]=>tk
 |t::r=>qD (lX tk t) r
def lP(l:List Nat):List Nat->List Nat
 |[]=> []
 |t::r=>if l.contains t=true then lP l r else t::lP l r
def qA(d:Nat):List Nat->List Nat
 |[]=> []
 |t::r=>js d t::qA d r
def dv.small(q:dv):Bool:=q.os.all (fun p=>decide (p.1<1000)&&p.2.ids.all (fun k=>decide (k<1000))&&p.2.toks.all (fun k=>decide (k<1000)))&&q.r.ids.all (fun k=>decide (k<1000))&&q.r.toks.all (fun k=>decide (k<1000))&&q.tk.all (fun k=>decide (k<1000))
def jG(c:CSt)(d:Option Nat)(m mt:List Nat)(q:dv):CSt:=
 CSt.put ⟨dp ((d.getD 0+1)*1000) ((d.getD 0+2)*1000) c.tm,
  qC (fe m (bF ((d.getD 0+1)*1000) ((d.getD 0+2)*1000) c.ob)) (nX (d.getD 0) m q.os),
  qD (lP mt (cz ((d.getD 0+1)*1000) ((d.getD 0+2)*1000) c.tk)) (qA (d.getD 0) q.tk)⟩ d (q.r.ren (im (d.getD 0) m) (js (d.getD 0)))
abbrev de:=Nat->List SV->List aC->Nat->Option dv
def dv.bare(q:dv):Bool:=q.os.isEmpty&&q.tk.isEmpty&&q.r.ids.isEmpty&&q.r.toks.isEmpty
def xE(c:CSt)(d:Option Nat)(q:dv):Bool->Option CSt
 |true=>some (jG c d [] [] q)
 |false=>none
def nl(c:CSt)(d:Option Nat)(q:dv):Bool->Option CSt
 |true=>some (c.put d q.r)
 |false=>xE c d q q.small
def lO(c:CSt)(d:Option Nat):Option dv->Option CSt
 |some q=>nl c d q q.bare
 |none=>none
def wI(c:CSt)(d:Option Nat)(m mt:List Nat)(q:dv):Bool->Option CSt
 |true=>some (jG c d m mt q)
 |false=>none
def nU(c:CSt)(d:Option Nat)(m mt:List Nat):Option dv->Option CSt
 |some q=>wI c d m mt q q.small
 |none=>none
def m7(call:de)(c:CSt)(d:Option Nat)(g:Nat)(as:List SV)(mt1:List (Option Nat))(m:List Nat)(os:List aC)(mt2:List (Option Nat)):Bool->Option CSt
 |true=>nU c d m (cy (mt1++mt2)) (call g (SV.renL (gB m) id as) (eu (gB m) id os) (mt1.length+mt2.length))
 |false=>none
def m9(call:de)(c:CSt)(d:Option Nat)(g:Nat)(as:List SV)(mt1:List (Option Nat))(m:List Nat):List aC×List (Option Nat)->Option CSt
 |(os,mt2)=>m7 call c d g as mt1 m os mt2 (nQ (SV.idsL as++fG os) m&&dB m&&dB (cy (mt1++mt2))&&decide (m.length<=40)&&m.all fun o=> !inR (d.getD 0) o)
def kO(call:de)(c:CSt)(d:Option Nat)(g:Nat)(as:List SV)(mt1:List (Option Nat))(m:List Nat):Option (List aC)->Option CSt
 |some os=>m9 call c d g as mt1 m (ek c.tk (50+mt1.length) os)
 |none=>none
def na(call:de)(c:CSt)(d:Option Nat)(g:Nat):List SV×List (Option Nat)->Option CSt
 |(as,mt1)=>kO call c d g as mt1 (dR c 60 [] (SV.idsL as)) (gu c (dR c 60 [] (SV.idsL as)))
def jB(call:de)(sg:Sig)(d:Option Nat)(g:Nat):CSt×List SV->Option CSt
 |(c,as)=>na call c d g (jI c.tk sg.own 50 0 as)
def jF(call:de)(sg:Sig)(c:CSt)(d:Option Nat)(g:Nat)(as:List SV):Bool->Option CSt
 |true=>lO c d (call g (SV.bareL as) [] 0)
 |false=>jB call sg d g (eP c as (iQ sg.raw 0 as))
def hZ(call:de)(sg:Sig)(c:CSt)(d:Option Nat)(g:Nat)(as:List SV):Option CSt:=
 jF call sg c d g as ((SV.idsL as).isEmpty&&sg.own.isEmpty)
inductive Dir where
 |kill (l:List Nat)
 |gc (l:List Nat)
 |gcr (lo hi:Nat)
 |pub (n:Nat)
 |pubo (o:Nat)
 |tok (n id:Nat)
 |obj (n id:Nat)
inductive RI where
 |op (i:SI) (dead:List Nat)
 |grp (g:Nat) (b:Bool) (l:List SI) (dead:List Nat)
 |own (i:SI) (dead:List Nat)
 |tks (i:SI) (dead:List Nat)
 |dir (d:Dir)
structure FI where
 n:Nat
 q:Bool
 i:SI
inductive RC where
 |skip
 |ops (l:List RI)
 |flt (b ds:List Nat) (l:List FI) (dead:List Nat)
 |fla (b ds:List Nat) (l:List FI) (ps:List (List Nat)) (dead:List Nat)
 |seq (a b:RC)
 |cond (c:Arg) (a b:RC)
 |block (id:Nat) (b:RC)
 |loop (b:RC)
 |exit (id:Nat)
 |ret
 |pre (ds:List Dir) (a:RC)
 |post (a:RC) (ds:List Dir)
 |bad
def erL:List RI->List SI
 |[]=> []
 | .op i _::r=>i::erL r
 | .grp _ _ l _::r=>l++erL r
 | .own i _::r=>i::erL r
 | .tks i _::r=>i::erL r
 | .dir _::r=>erL r
def SOp.er:SOp->SOp
 | .appO z b x y=> .app z b x y
 |o=>o
def SI.er(i:SI):SI:=⟨i.dst,i.g,i.op.er⟩
def D0:List FI->Nat->SI
 |[],_=>⟨none,none,.lenC 0⟩
 |f::r,k=>if f.n=k then f.i.er else D0 r k
def unF(l:List FI):List SI:=(bA l.length).map (D0 l)
def RC.er:RC->fQ
 | .skip=> .skip
 | .ops l=> .ops (erL l)
 | .flt b ds l _=> .drw b ds (unF l)
 | .fla b ds l _ _=> .drw b ds (unF l)
 | .seq a b=> .seq a.er b.er
 | .cond c a b=> .cond c a.er b.er
 | .block id b=> .block id b.er
 | .loop b=> .loop b.er
 | .exit id=> .exit id
 | .ret=> .ret
 | .pre _ a=>a.er
 | .post a _=>a.er
 | .bad=> .bad
def gcC(c:CSt):List Nat->CSt
 |[]=>c
 |o::r=>gcC (c.purge o (o+1)) r
def DP(c:CSt)(n id o:Nat)(obj:aC)(v:SV):CSt:=
 ⟨jg (dp id (id+1) (ld o obj c.tm)) n v,bF id (id+1) (ky o obj c.ob),lX (cz id (id+1) c.tk) id⟩
def Pe(c:CSt)(n id o sz off k cp:Nat):Option aC->Option CSt
 |some (.bar l)=>if sz=1/\off+cp<=l.length/\k<=cp then some (DP c n id o (.bar (l.take (off+k))) (.byt ((l.drop off).take k) (.id id)))else some c
 |some (.arr sz' xs)=>if sz'=sz/\off+cp<=xs.length/\k<=cp then some (DP c n id o (.arr sz' (xs.take (off+k))) (.lst sz ((xs.drop off).take k) (.id id)))else some c
 |_=>some c
def Pg(c:CSt)(n id:Nat):SV->Option CSt
 | .byt l t=>match t with
  | .no=>some c
  | .clip=>some ⟨jg (dp id (id+1) c.tm) n (.byt l (.id id)),bF id (id+1) c.ob,lX (cz id (id+1) c.tk) id⟩
  | .id t=>if t=id then some c else if c.tk.contains t=true then some ⟨jg (dp id (id+1) c.tm) n (.byt l (.id id)),bF id (id+1) c.ob,lX (cz id (id+1) (cz t (t+1) c.tk)) id⟩else none
 | .lst sz xs t=>match t with
  | .no=>some c
  | .clip=>some ⟨jg (dp id (id+1) c.tm) n (.lst sz xs (.id id)),bF id (id+1) c.ob,lX (cz id (id+1) c.tk) id⟩
  | .id t=>if t=id then some c else if c.tk.contains t=true then some ⟨jg (dp id (id+1) c.tm) n (.lst sz xs (.id id)),bF id (id+1) c.ob,lX (cz id (id+1) (cz t (t+1) c.tk)) id⟩else none
 | .psl o sz off k (some cp)=>Pe c n id o sz off k cp (c.look o)
 |_=>some c
def mvC(c:CSt)(n id o sz off k:Nat)(cap:Option Nat)(obj:aC):CSt:=
 ⟨jg (dp id (id+1) (dp o (o+1) c.tm)) n (.psl id sz off k cap),iK (bF id (id+1) (bF o (o+1) c.ob)) id obj,cz id (id+1) (cz o (o+1) c.tk)⟩
def xjv(c:CSt)(n id o sz off k:Nat)(cap:Option Nat):Option aC->Option CSt
 |some (.bar l)=>some (mvC c n id o sz off k cap (.bar l))
 |some (.arr sz' xs)=>some (mvC c n id o sz off k cap (.arr sz' xs))
 |_=>some c
def XZ(c:CSt)(n id:Nat):SV->Option CSt
 | .psl o sz off k cap=>if o=id then some c else xjv c n id o sz off k cap (c.look o)
 |_=>some c
def ql(c:CSt):Dir->Option CSt
 | .kill l=>some (c.kill l)
 | .gc l=>some (gcC c l)
 | .gcr lo hi=>some (c.purge lo hi)
 | .pubo o=>some (c.publish o []).1
 | .pub n=>match c.get n with
  | .psl o _ _ _ _=>some (c.publish o []).1
  |_=>some c
 | .tok n id=>if id=99 then none else Pg c n id (c.get n)
 | .obj n id=>if id<100 then none else XZ c n id (c.get n)
def ix(c:CSt):List Dir->Option CSt
 |[]=>some c
 |d::r=>match ql c d with
  |some c'=>ix c' r
  |none=>none
inductive Ex where
 |n
 |x (id:Nat)
 |r
abbrev gG:=Option (Ex×CSt)
def mU(c:CSt)(d:Option Nat):Option nG->Option CSt
 |some e=>some (c.app d e)
 |none=>none
def ni(c:CSt):Option Nat->Option (List UInt8)->Option CSt
 |some k,some l=>some (c.app (some k) {val:= .psl (k+100) 1 0 l.length (some l.length),new:=some (.bar l)})
 |_,_=>none
def nV(c:CSt)(d:Option Nat)(o off n:Nat)(cap:Option Nat):Option aC->Option CSt
 |some (.bar l)=>if off+n<=l.length/\cap=some n then some (((c.publish o []).1).put d (.byt ((l.drop off).take n) .clip))else none
 |_=>none
def qz(c:CSt)(d:Option Nat):SV->Option CSt
 | .psl o 1 off n cap=>nV c d o off n cap (c.look o)
 |_=>none
def Qo(c:CSt):Option Nat->SV->Option CSt
 |some k,.str l=>some (c.app (some k) {val:= .psl (k+100) 1 0 l.length none,new:=some (.bar l)})
 |_,_=>none
def Qn(c:CSt)(z:List SV)(bytes:Nat)(l:List UInt8):Option Nat->Option (List UInt8)->Option CSt
 |some k,some l'=>if z.length≠1 then none else if l'=[]then some (c.put (some k) (.byt l .clip))else if bytes=1/\l.length+l'.length<=140737488355328 then some (c.app (some k) {val:= .psl (k+100) 1 0 (l.length+l'.length) none,new:=some (.bar (l++l'))})else none
 |_,_=>none
def Qm(c:CSt)(z:List SV)(bytes sz:Nat)(l:List (List SV)):Option Nat->Option (List (List SV))->Option CSt
 |some k,some l'=>if l'=[]then some (c.put (some k) (.lst sz l .clip))else if z.length=sz/\(l.length+l'.length)*bytes<=140737488355328 then some (c.app (some k) {val:= .psl (k+100) sz 0 (l.length+l'.length) none,new:=some (.arr sz (l++l'))})else none
 |_,_=>none
def M0(c:CSt)(z:List SV)(bytes o sz n:Nat):Option Nat->Option (List (List SV))->Option (List (List SV))->Option CSt
 |some k,some R,some l'=>if z.length=sz/\R.length=n/\(n+l'.length)*bytes<=140737488355328 then some ((c.purge o (o+1)).app (some k) {val:= .psl (k+100) sz 0 (n+l'.length) none,new:=some (.arr sz (R++l'))})else none
 |_,_,_=>none
def qW(c:CSt)(d:Option Nat)(z:List SV)(bytes:Nat)(y:Arg):SV->Option CSt
 | .byt l t=>if t= .clip then Qn c z bytes l d (eJ c (c.ev y))else none
 | .lst sz l t=>if t= .clip then Qm c z bytes sz l d (fM c z.length (c.ev y))else none
 | .psl o sz 0 n none=>M0 c z bytes o sz n d (fM c z.length (.psl o sz 0 n none)) (fM c z.length (c.ev y))
 |_=>none
def opC(call:de)(sg:Nat->Sig)(c:CSt)(d:Option Nat)(o:SOp):Option CSt:=
 match o with
 | .newB xs=>ni c d (toB (evL c xs))
 | .slid x=>qz c d (c.ev x)
 | .appO z bytes x y=>qW c d z bytes y (c.ev x)
 | .call f as=>match c.ev f with
  | .fn g a b=>hZ call (sg g) c d g (a++evL c as++b)
  |_=>none
 |o=>mU c d (ec c d o)
def dQ(call:de)(sg:Nat->Sig)(c:CSt)(i:SI):Option CSt:=
 match i.g with
 |none=>opC call sg c i.dst i.op
 |some (g,b)=>match c.get g with
  | .bool t=>if t=b then opC call sg c i.dst i.op else some (c.put i.dst (.tup []))
  | .tup []=>some (c.put i.dst (.tup []))
  |_=>none
mutual
def plC(call:de)(sg:Nat->Sig):List SI->CSt->Option CSt
 |[],c=>some c
 |i::r,c=>nxP call sg r (opC call sg c i.dst i.op)
def nxP(call:de)(sg:Nat->Sig):List SI->Option CSt->Option CSt
 |r,some c=>plC call sg r c
 |_,none=>none
end
def unL(c:CSt):List SI->CSt
 |[]=>c
 |i::r=>unL (c.put i.dst (.tup [])) r
def oJ(call:de)(sg:Nat->Sig)(b:Bool)(l:List SI)(c:CSt):SV->Option CSt
 | .bool t=>if t=b then plC call sg l c else some (unL c l)
 | .tup []=>some (unL c l)
 |_=>none
def Ql(c:CSt)(sz:Nat):Option Nat->Option (List (List SV))->Option CSt
 |some k,some xs=>some (c.app (some k) {val:= .psl (k+100) sz 0 xs.length (some xs.length),new:=some (.arr sz xs)})
 |_,_=>none
def xju(c:CSt)(d:Option Nat):SOp->Option CSt
 | .lit sz xs=>Ql c sz d (rows sz (evL c xs))
 | .litB xs=>ni c d (toB (evL c xs))
 | .s2b x=>Qo c d (c.ev x)
 | .app z bytes x y=>qW c d z bytes y (c.ev x)
 |_=>none
def Pi(c:CSt):Option Nat->SV->Option CSt
 |some k,.str l=>some (c.app (some k) {val:= .byt l (.id (k+100)),tok:=true})
 |_,_=>none
def xh4(c:CSt)(d:Option Nat):SOp->Option CSt
 | .s2b x=>Pi c d (c.ev x)
 |_=>none
def zS(c:CSt)(i:SI):Option CSt:=match i.g with
 |none=>xh4 c i.dst i.op
 |some _=>none
def sr(c:CSt)(i:SI):Option CSt:=match i.g with
 |none=>xju c i.dst i.op
 |some _=>none
mutual
def fJ(call:de)(sg:Nat->Sig):List RI->CSt->Option CSt
 |[],c=>some c
 | .op i dead::r,c=>nxC call sg dead r (dQ call sg c i)
 | .grp g b l dead::r,c=>nxC call sg dead r (oJ call sg b l c (c.get g))
 | .own i dead::r,c=>nxC call sg dead r (sr c i)
 | .tks i dead::r,c=>nxC call sg dead r (zS c i)
 | .dir d::r,c=>nxC call sg [] r (ql c d)
def nxC(call:de)(sg:Nat->Sig)(dead:List Nat):List RI->Option CSt->Option CSt
 |r,some c=>fJ call sg r (c.kill dead)
 |_,none=>none
end
def df(c:CSt):SOp->Option SV
 | .pick k a b=>match c.ev k with
  | .bool t=>some (io t (c.ev a) (c.ev b))
  |_=>none
 |so=>cL c so
def qg(c:CSt)(o:SOp)(b:Bool):SV->Option SV
 | .bool t=>if t=b then df c o else some (.tup [])
 | .tup []=>some (.tup [])
 |_=>none
def qv(c:CSt)(i:SI):Option SV:=match i.g with
 |none=>df c i.op
 |some (g,b)=>qg c i.op b (c.get g)
def sK(m:Nat)(c:CSt):List FI->Prop
 |[]=>True
 |p::r=>(m/2^p.n % 2=1\/qv c p.i=some (c.get (p.i.dst.getD 0)))/\sK m c r
open Classical in
noncomputable def gdP{α:Type}(p:Prop)(v:α):Option α:=if p then some v else none
mutual
noncomputable def fc(call:de)(sg:Nat->Sig)(b:List Nat):List FI->List FI->CSt->Option CSt
 |[],_,c=>some c
 |⟨n,true,i⟩::r,ps,c=>vL call sg b r (⟨n,true,i⟩::ps) c i.dst (qv c i)
 |⟨n,false,i⟩::r,ps,c=>qh call sg b r ps (b.getD n 0) (dQ call sg c i)
noncomputable def vL(call:de)(sg:Nat->Sig)(b:List Nat):List FI->List FI->CSt->Option Nat->Option SV->Option CSt
 |r,ps,c,d,some v=>fc call sg b r ps (c.put d v)
 |_,_,_,_,none=>none
noncomputable def qh(call:de)(sg:Nat->Sig)(b:List Nat):List FI->List FI->Nat->Option CSt->Option CSt
 |r,ps,m,some c=>qj call sg b r ps (gdP (sK m c ps) c)
 |_,_,_,none=>none
noncomputable def qj(call:de)(sg:Nat->Sig)(b:List Nat):List FI->List FI->Option CSt->Option CSt
 |r,ps,some c=>fc call sg b r ps c
 |_,_,none=>none
end
def tX:List FI->Nat->FI
 |[],k=>⟨k,false,⟨none,none,.lenC 0⟩⟩
 |f::r,k=>if f.n=k then f else tX r k
def iC(l:List FI):List Nat->List FI
 |[]=> []
 |k::r=>tX l k::iC l r
noncomputable def nq:Option CSt->Option CSt->Option CSt
 |some a,some b=>gdP (a=b) a
 |_,_=>none
noncomputable def iV(call:de)(sg:Nat->Sig)(b:List Nat)(l:List FI):List (List Nat)->CSt->Option CSt
 |[],_=>none
 |[p],c=>fc call sg b (iC l p) [] c
 |p::q::r,c=>nq (fc call sg b (iC l p) [] c) (iV call sg b l (q::r) c)
def nrm(dead:List Nat):Option CSt->gG
 |some c=>some (.n,c.kill dead)
 |none=>none
def sq(rn:RC->CSt->gG)(b:RC):gG->gG
 |some (.n,c)=>rn b c
 |r=>r
def cnd(rn:RC->CSt->gG)(a b:RC)(c:CSt):SV->gG
 | .bool t=>if t=true then rn a c else rn b c
 |_=>none
def blk(id:Nat):gG->gG
 |some (.x id',c)=>if id'=id then some (.n,c)else some (.x id',c)
 |r=>r
def lp(rn:RC->CSt->gG)(b:RC):gG->gG
 |some (.n,c)=>rn (.loop b) c
 |r=>r
def prD(rn:RC->CSt->gG)(a:RC):Option CSt->gG
 |some c=>rn a c
 |none=>none
def psD(ds:List Dir):gG->gG
 |some (.n,c)=>match ix c ds with
  |some c'=>some (.n,c')
  |none=>none
 |r=>r
noncomputable def dP(rn:RC->CSt->gG)(call:de)(sg:Nat->Sig):RC->CSt->gG
 | .skip,c=>some (.n,c)
 | .ops l,c=>nrm [] (fJ call sg l c)
 | .flt b _ l dead,c=>nrm dead (fc call sg b l [] c)
 | .fla b _ l ps dead,c=>nrm dead (iV call sg b l ps c)
 | .seq a b,c=>sq rn b (rn a c)
 | .cond k a b,c=>cnd rn a b c (c.ev k)
 | .block id b,c=>blk id (rn b c)
 | .loop b,c=>lp rn b (rn b c)
 | .exit id,c=>some (.x id,c)
 | .ret,c=>some (.r,c)
 | .pre ds a,c=>prD rn a (ix c ds)
 | .post a ds,c=>psD ds (rn a c)
 | .bad,_=>none
def SI.ok(N:Nat)(i:SI):Bool:=match i.dst with
 |some d=>decide (d<N)
 |none=>true
def SI.okG(N g:Nat)(b:Bool)(i:SI):Bool:=i.ok N&&(match i.g with|some (g',b')=>decide (g'=g)&&(b'==b)|none=>false)&&decide (i.dst≠some g)
def RI.ok(N:Nat):RI->Bool
 | .op i _=>i.ok N
 | .grp g b l _=>l.all (SI.okG N g b)
 | .own i _=>i.ok N
 | .tks i _=>i.ok N
 | .dir _=>true
def mP(b:List Nat)(i j:Nat):Bool:=(b.getD j 0).testBit i
def nf(b:List Nat):Option Nat->List FI->Bool
 |_,[]=>true
 |
  s,f::r=>if f.q then(match s with|some s=>mP b s f.n|none=>true)&&nf b s r
  else(match s with|some s=>mP b s f.n|none=>true)&&nf b (some f.n) r
def MZ(b:List Nat)(p q:FI):Bool:= !mP b q.n p.n&&(p.q||q.q||mP b p.n q.n)
def oq(b:List Nat):List FI->Bool
 |[]=>true
 |p::r=>r.all (MZ b p)&&oq b r
def SI.rds(i:SI):List Nat:=i.op.args.filterMap (fun| .t n=>some n|_=>none)++(match i.g with|some (g,_)=> [g]|none=> [])
def Rf(b:List Nat)(l:List FI):Bool:=l.all fun q=> !q.q||(match q.i.dst with|some d=>l.all fun p=> !p.i.rds.contains d||(mP b q.n p.n&&decide (p.n≠q.n))|none=>false)
def Oh(b:List Nat)(l:List FI):Bool:=nf b none l&&oq b l&&Rf b l&&decide ((l.map FI.n).Nodup)&&l.all (fun f=>decide (f.n<l.length))&&(bA l.length).all (l.map FI.n).contains
def wU(b:List Nat):Option Nat->List FI->Bool
 |_,[]=>true
 |s,f::r=>if f.q then(match s with|some s=>mP b s f.n|none=>true)&&wU b s r else wU b (some f.n) r
def tY(b:List Nat):List FI->Bool
 |[]=>true
 |p::r=>r.all (fun q=> !mP b q.n p.n)&&tY b r
def fu(l:List FI):List Nat:=l.filterMap fun f=>if f.q then none else some f.n
def kn(b:List Nat):Nat->List (List Nat)->Bool
 |_,[]=>false
 |_,[]::_=>true
 |0,_=>false
 |k+1,A@((h::t)::_)=>(h::t).all fun g=>(h::t).any (fun x=>decide (x≠g)&&mP b x g)||kn b k (A.filterMap fun p=>match p with|x::r=>if x=g then some r else none|[]=>none)
def OF(b:List Nat)(l:List FI)(ps:List (List Nat)):Bool:=
 Rf b l&&decide ((l.map FI.n).Nodup)&&l.all (fun f=>decide (f.n<l.length))&&(bA l.length).all (l.map FI.n).contains&&
 ps.all (fun p=>decide p.Nodup&&p.all (l.map FI.n).contains&&(l.map FI.n).all p.contains&&wU b none (iC l p)&&tY b (iC l p))&&kn b l.length (ps.map fun p=>fu (iC l p))
def RC.ok(N:Nat):RC->Bool
 | .ops l=>l.all (RI.ok N)
 | .flt b _ l _=>l.all (fun f=>f.i.ok N)&&Oh b l
 | .fla b _ l ps _=>l.all (fun f=>f.i.ok N)&&OF b l ps
 | .seq a b=>a.ok N&&b.ok N
 | .cond _ a b=>a.ok N&&b.ok N
 | .block _ b=>b.ok N
 | .loop b=>b.ok N
 | .pre _ a=>a.ok N
 | .post a _=>a.ok N
 |_=>true
inductive RV where
 |tmp (t:Nat)
 |cell (t n:Nat) (ag:Bool)
structure FnC where
 code:RC
 n:Nat
 rs:List RV
 keep:List Nat:=[]
 raw:List Nat:=[]
inductive FnB where
 |code (F:FnC)
 |prim (f:List SV->List aC->Nat->Option dv)
structure fP where
 fn:Nat->Option FnB
 sg:Nat->Sig
def qU(c:CSt):List RV->Option (List SV)
 |[]=>some []
 | .tmp t::r=>match qU c r with
  |some vs=>some (c.get t::vs)
  |none=>none
 | .cell t n ag::r=>match (if ag=true\/n=1 then lM c n ag (c.get t)else none),qU c r with
  |some v,some vs=>some (v::vs)
  |_,_=>none
def jU:Nat->List Nat
 |0=> []
 |n+1=>jU n++ [n]
def fT(k:Nat):List aC->List (Nat×aC)
 |[]=> []
 |o::r=>(k,o)::fT (k+1) r
def gM(k:Nat)(m:List Nat)(o:Nat):Nat:=if o<k then o else 100+gB m o
def tks(b n:Nat):List Nat:=(jU n).map (b+ ·)
def Ya(k:Nat)(vs:List SV)(mt1:List (Option Nat))(m:List Nat)(os:List aC)(mt2:List (Option Nat)):Bool->Option dv
 |true=>some ⟨(jh vs).ren (gM k m) id,(fT 0 (eu (gM k m) id (os.take k)))++(fT (100+k) (eu (gM k m) id (os.drop k))),tks 60 (mt1.length+mt2.length)⟩
 |false=>none
def Yb(k:Nat)(vs:List SV)(mt1:List (Option Nat))(m:List Nat):List aC×List (Option Nat)->Option dv
 |(os,mt2)=>Ya k vs mt1 m os mt2 (nQ (SV.idsL vs++fG os) m&&dB m&&dB (cy (mt1++mt2))&&decide (m.take k=jU k)&&(m.drop k).all fun o=>decide (k<=o))
def Yc(k:Nat)(c:CSt)(vs:List SV)(mt1:List (Option Nat))(m:List Nat):Option (List aC)->Option dv
 |some os=>Yb k vs mt1 m (ek c.tk (60+mt1.length) os)
 |none=>none
def Yd(k:Nat)(c:CSt):List SV×List (Option Nat)->Option dv
 |(vs,mt1)=>Yc k c vs mt1 (dR c 60 [] (jU k++SV.idsL vs)) (gu c (dR c 60 [] (jU k++SV.idsL vs)))
def Nl(keep:List Nat)(k:Nat)(c:CSt)(vs:List SV):Bool->Option dv
 |true=>some ⟨jh (SV.bareL vs),[],[]⟩
 |false=>Yd k c (jI c.tk keep 60 0 vs)
def Rj(keep:List Nat)(k:Nat):CSt×List SV->Option dv
 |(c,vs)=>Nl keep k c vs (decide (k=0)&&(SV.idsL vs).isEmpty&&keep.isEmpty)
def Nm(keep raw:List Nat)(k:Nat)(c:CSt):Option (List SV)->Option dv
 |some vs=>Rj keep k (eP c vs (iQ raw 0 vs))
 |none=>none
def Eg(F:FnC)(k:Nat):gG->Option dv
 |some (.n,c)=>Nm F.keep F.raw k c (qU c F.rs)
 |some (.r,c)=>Nm F.keep F.raw k c (qU c F.rs)
 |_=>none
def nj:Nat->List SV->List (Nat×SV)
 |_,[]=> []
 |i,v::r=>(i,v)::nj (i+1) r
def qF(args:List SV)(os:List aC)(k:Nat):CSt:=⟨nj 0 args,fT 0 os,tks 50 k⟩
def Ed(rn:RC->CSt->gG)(F:FnC)(args:List SV)(os:List aC)(k:Nat):gG:=if args.length<=F.n then rn F.code (qF args os k)else none
def lR(rn:RC->CSt->gG):Option FnB->List SV->List aC->Nat->Option dv
 |some (.code F),args,os,k=>Eg F os.length (Ed rn F args os k)
 |some (.prim f),args,os,k=>f args os k
 |none,_,_,_=>none
noncomputable def fI(T:fP):Nat->RC->CSt->gG
 |0,_,_=>none
 |n+1,r,c=>dP (fI T n) (fun g args os k=>lR (fI T n) (T.fn g) args os k) T.sg r c
noncomputable def eN(T:fP)(n:Nat):de:=fun g args os k=>lR (fI T n) (T.fn g) args os k
noncomputable def lim{α:Type}(g:Nat->Option α):Option α:=open Classical in if h:∃n x,g n=some x then g (Classical.choose h)else none
noncomputable def run(T:fP)(r:RC)(c:CSt):gG:=lim fun n=>fI T n r c
noncomputable def call(T:fP):de:=fun g args os k=>lim fun n=>eN T n g args os k
end Go.Sy
