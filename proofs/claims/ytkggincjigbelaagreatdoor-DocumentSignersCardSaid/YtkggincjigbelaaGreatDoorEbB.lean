/- An engine that steps through Go code with symbolic values: sound by proof. No condition. -/
import Derived.Test.YtkggincjigbelaaGreatDoorEaB
import Derived.Orders
open Array renaming ext' -> dJ, getD -> jU, getD_eq_getD_getElem? -> bi, getElem?_eq_getElem -> gK, getElem?_toList -> cI, length_toList -> aS
open Bool renaming and_eq_true -> aB, false_eq_true -> aK, not_eq_true' -> dv
open Go.IntKind renaming i64 -> af
open List renaming Nodup -> wB, Pairwise -> ge, Sublist -> nj, all_eq_true -> aR, append_nil -> bg, drop_eq_nil_of_le -> bN, drop_zero -> bj, flatten_append -> bM, flatten_cons -> c9, getD_eq_getElem?_getD -> aa, getElem?_append_left -> bQ, getElem?_append_right -> bU, getElem?_drop -> bw, getElem?_eq_getElem -> ab, getElem?_eq_none -> eo, getElem?_map -> aQ, getElem?_range -> bV, getElem?_set -> gk, getElem?_take -> bL, getElem_mem -> bh, getElem_of_mem -> cr, length_append -> ac, length_cons -> aj, length_drop -> aI, length_eq_zero_iff -> dR, length_map -> aP, length_nil -> aq, length_replicate -> dI, length_singleton -> aW, length_take -> ax, map_append -> ct, map_cons -> aC, mem_append -> al, mem_cons -> av, mem_cons_of_mem -> ao, mem_map -> aT, mem_map_of_mem -> iu, mem_of_mem_drop -> DG, mem_of_mem_take -> b8, mem_range -> dy, mem_singleton -> bf, nil_append -> az, nodup_cons -> dC, pairwise_iff_getElem -> od, pairwise_map -> gj, range -> bE, range' -> qP, replicate -> aE, take_append_drop -> yc, take_length -> cK, take_of_length_le -> aO
open Nat renaming add_assoc -> ew, add_mul -> bB, add_zero -> eY, eq_zero_or_pos -> gb, le_max_right -> yf, le_refl -> aH, le_trans -> pU, lt_or_ge -> bY, min_eq_left -> gM, mod_eq_of_lt -> cy, mul_comm -> cz, mul_le_mul_right -> bv, mul_one -> cX, succ_mul -> dq, zero_add -> bX, zero_le -> bt, zero_mul -> lj
open Go.Op renaming bytesLess -> cG
open Option renaming bind_some -> cO, getD_some -> aY, ite_none_right_eq_some -> aJ, map_eq_some_iff -> ae, map_some -> bo, some -> an
open Prod renaming fst -> cE, mk -> bn
open Go.Result renaming andThen_ok -> am
open Go.Sem renaming run_bind -> aA, run_pure -> aG
open UInt8 renaming ofNat -> ee
set_option linter.unusedVariables false
set_option linter.unusedSimpArgs false
set_option linter.unnecessarySimpa false
set_option linter.unusedSectionVars false
namespace Go.Sy
variable [aZ]
variable {P : Program} {C : Ctx} {x : Sit} {s : St} {a : Act} {w : World} {o : Oper} {so : SOp} {e : Eff}
theorem aM.newObj(hM:aM C x s a w){d:Nat}(sl:Option Nat)(hd100:100<=d){cv:Array Value}{t:TypeId}(obj:aF){val:SV}{u:Value}(hs:obj.size<=cv.size)(hr:∀k,k<obj.size->bZ x obj k (cv.getD k Go.undef))
 (hv:Rep (x.newO d w.heap.size) val u):
 aM C (x.newO d w.heap.size) (((s.purge d (d+1)).addO d (obj.purge d (d+1))).put sl val) (a.put sl u) (w.alloc (.cells cv t (0,0))):=by
 refine aM.put ⟨?_,hM.defers, ?_⟩ sl hv
 ·exact cd.mono (x:=x) (x':=x.newO d w.heap.size) (lo:=d) (hi:=d+1) (fun _ _ _ h=>h) (Sit.newO_ne x d _) (fun _ _=>rfl) hM.tm
 ·exact hM.heap.allocO d hd100 obj (fun i _ h=>by omega) hs hr (bt _) (fun _ h=>by omega)
theorem bW.newObj(hM:aM C x s a w){d:Nat}(hd100:100<=d){m:Sem Value}{cv:Array Value}{t:TypeId}(obj:aF){val:SV}{u:Value}(he:execOp a.eval o=(do pure (.value (<-m))))
 (hm:m.run P w= .ok u (w.alloc (.cells cv t (0,0)))) (hs:obj.size<=cv.size) (hr:∀k,k<obj.size->bZ x obj k (cv.getD k Go.undef)) (hv:Rep (x.newO d w.heap.size) val u):
 bW P C o a w (((s.purge d (d+1)).addO d (obj.purge d (d+1))).put o.dst val):=
 ⟨u,w.alloc (.cells cv t (0,0)),_,.value u,by rw[he];simp[hm],.inl rfl,hM.newObj o.dst hd100 obj hs hr hv⟩
theorem mj(x:Sit)(d b:Nat){k:Nat}:(x.newO d b k).bk d=(b,k):=if_pos rfl
theorem jd(x:Sit)(d b:Nat){k:Nat}:((x.newO d b k).bk d).1=b:=by rw[mj]
theorem Dx(hM:aM C x s a w){t:TypeId}(ho:o.op= .alloc t)(hr:br P o=some so)(he:eff s o.dst so=some e):bW P C o a w (s.app o.dst e):=by
 simp only[br,ho]at hr;split at hr<;>try (cases hr;done)
 rename_i obj z hobj hz;split at hr<;>try (cases hr;done)
 rename_i his;cases hr;simp only[eff]at he;split at he<;>try (cases he;done)
 rename_i d hd;cases he;obtain⟨zv,hzc,hzr⟩:=cM hz;simp only[Zl,aB,decide_eq_true_eq,aR,dy]at his;simp only[St.app];have hd':o.dst.getD 0=d:=by rw[hd];rfl
 rw[hd'];refine bW.newObj hM (d:=d+100) (by omega) obj (m:=Instr.alloc t true (.tuple #[])) (cv:=zv.cells) (t:=t) (u:= .pointer (some ⟨w.heap.size,0,none⟩)) (by simp only[execOp,ho]) ?_ (by rw[<-aS,hzc];exact his.1) (fun k hk=> ?_) ?_
 ·simp only[Instr.alloc,aA,hzr,am,newVar,newRow,run_newObj_alloc,aG]
 ·have h1:=his.2 k hk
  have h2:zv.cells.getD k Go.undef=z.getD k Go.undef:=by rw[<-hzc];simp[bi]
  rw[h2];cases obj with
  |rc cs=>exact pq h1
  |arr sz xs=>exact lP h1
  |bar l=>exact lP h1
 ·have:=Rep.ptr (x:=x.newO (d+100) w.heap.size) (d+100) 0
  rw[jd]at this;exact this
theorem Sd(hM:aM C x s a w){t:TypeId}{X:Operand}(ho:o.op= .box t X)(hr:br P o=some so)(he:eff s o.dst so=some e):bW P C o a w (s.app o.dst e):=by
 simp only[br,ho]at hr;obtain⟨r,hra,rfl⟩:=ae.1 hr;have hrep:=aL hM hra;simp only[eff]at he;split at he<;>try (cases he;done)
 rename_i d hd;cases he;simp only[St.app];have hc:(s.ev r).isDef=true->cd x (s.ev r).cells (a.eval X).cells.toList:=hrep.cells;have hu:(s.ev r).isDef=true\/(s.ev r).cells=[]:=by cases s.ev r<;>simp[SV.isDef,SV.cells]
 have hd':o.dst.getD 0=d:=by rw[hd];rfl
 rw[hd'];refine bW.newObj hM (d:=d+100) (by omega) (.rc (s.ev r).cells) (m:=Instr.box t (a.eval X)) (cv:=(a.eval X).cells) (t:=t) (u:= .pointer (some ⟨w.heap.size,0,none⟩)) (by simp only[execOp,ho]) ?_ ?_ (fun k hk=> ?_) ?_
 ·simp only[Instr.box,aA,am,newVar,newRow,run_newObj_alloc,aG]
 ·rcases hu with hu|hu
  ·have:=(hc hu).1;simp only[aF.size];rw[<-aS];omega
  ·simp[aF.size,hu]
 ·rcases hu with hu|hu
  ·have:=(hc hu).2 k hk
   simp only[bZ];have e1:(a.eval X).cells.getD k Go.undef=(a.eval X).cells.toList.getD k Go.undef:=by simp[bi]
   rw[e1];exact this
  ·simp[aF.size,hu]at hk
 ·have:=Rep.ptr (x:=x.newO (d+100) w.heap.size) (d+100) 0
  rw[jd]at this;exact this
theorem kV{t el:TypeId}{by_ n:Nat}{zs:List Value}{l c:Int}{k1 k2:IntKind}(hd:P.underlying t=some (.slice el))(hn:eW P el=some n)(hb:tt P el=some by_)(hz:fO P el=some zs)
 (h0:0<=l) (h1:l<=c) (h2:(by_:Int)*c<=140737488355328) (h3:c<=9223372036854775807):
 ∃cv:Array Value,(Instr.makeSlice t (.int k1 l) (.int k2 c)).run P w= .ok (.slice (some ⟨w.heap.size,0,none⟩) l.toNat c.toNat) (w.alloc (.cells cv el (0,0)))/\cv.size=c.toNat*n/\
  ∀k,k<c.toNat*n->cv.getD k Go.undef=zs.getD (k % zs.length) default:=by
 obtain⟨z,hzc,hzr⟩:=cM hz;have wl:af.wrap l=l:=by rw[IntKind.wrap_i64];omega
 have wc:af.wrap c=c:=by rw[IntKind.wrap_i64];omega
 have hby:∃i,P.info? el=some i/\i.bytes=by_:=by
  unfold tt at hb;cases hi:P.info? el with
  |none=>simp[hi]at hb
  |some i=>simp[hi]at hb;exact⟨i,rfl,hb⟩
 obtain⟨i,hi,hib⟩:=hby
 have hc1:¬((decide (c<0)||decide ((i.bytes:Int)*c>2^48)||decide (l<0)||decide (l>c))=true):=by rw[hib];simp;omega
 have key:∀(zz:Array Value),(c.toNat*n=0\/zz=z.cells)->∃cv:Array Value,cv=(Array.range (c.toNat*n)).map (fun j=>zz[j % zz.size]!)/\cv.size=c.toNat*n/\∀k,k<c.toNat*n->cv.getD k Go.undef=zs.getD (k % zs.length) default:=by
  intro zz hzz;refine⟨_,rfl,by simp,fun k hk=> ?_⟩;rcases hzz with h|rfl
  ·omega
  ·rw[<-hzc]
   simp[bi,hk];rw[getElem!_def];cases z.cells[k % z.cells.size]? <;>rfl
 by_cases hz0:c.toNat*n=0
 ·obtain⟨cv,hcv,r1,r2⟩:=key #[] (.inl hz0)
  refine⟨cv, ?_,r1,r2⟩;simp only[Instr.makeSlice,aA,run_underlying hd,am,asInt,asIntOf,aG,run_typeInfo w hi,wl,wc];rw[if_neg (by simpa using hc1)];simp only[aA,run_askRoom,am,cJ hn];rw[if_pos hz0];simp only[aA,aG,am,newRow,run_newObj_alloc,hcv]
 ·obtain⟨cv,hcv,r1,r2⟩:=key z.cells (.inr rfl)
  refine⟨cv, ?_,r1,r2⟩;simp only[Instr.makeSlice,aA,run_underlying hd,am,asInt,asIntOf,aG,run_typeInfo w hi,wl,wc];rw[if_neg (by simpa using hc1)];simp only[aA,run_askRoom,am,cJ hn];rw[if_neg hz0];simp only[aA,aG,am,hzr,newRow,run_newObj_alloc,hcv]
end Go.Sy
namespace Go.Sy
variable [aZ]
variable {P : Program} {C : Ctx} {x : Sit} {s : St} {a : Act} {w : World} {o : Oper} {so : SOp} {e : Eff}
theorem fi{α:Type}(n:Nat)(z d:α)(i:Nat)(h:i<n):(aE n z).getD i d=z:=by rw[aa,List.getElem?_replicate,if_pos h];rfl
theorem mU{t:TypeId}{cs:List SV}(h:yg P t=some cs):∃vs,fO P t=some vs/\cs.length=vs.length/\∀(G:GM) i,i<cs.length->cn G (cs.getD i .undef) (vs.getD i Go.undef):=by obtain⟨z,hz,rfl⟩:=ae.1 h;obtain⟨vs,h1,h2,h3⟩:=jk hz;refine⟨vs,h1,by simpa using h2,fun G i hi=> ?_⟩;rw[aV _ (by rfl)];exact(h3 G i (by simpa using hi)).toData
theorem qB(hM:aM C x s a w){t:TypeId}{X Y:Operand}(ho:o.op= .makeSlice t X Y)(hr:br P o=some so)(he:eff s o.dst so=some e)(hp:e.pre):bW P C o a w (s.app o.dst e):=by
 have hex:execOp a.eval o=(do pure (.value (<-Instr.makeSlice t (a.eval X) (a.eval Y)))):=by simp only[execOp,ho]
 simp only[br,ho]at hr;split at hr<;>try (cases hr;done)
 rename_i el hd;split at hr<;>try (cases hr;done)
 rename_i n by_ z l c hn hb hz hl hc;obtain⟨zs,hzc,hzl0,hzr⟩:=mU hz;have h1:=aL hM hl;have h2:=aL hM hc;cases h8:lC P el with
 |true=>
  have hu8:=jf h8;simp only[h8,if_true]at hr
  by_cases hnb:n=1/\by_=1/\z0 z=true
  ·rw[if_pos hnb]at hr
   obtain⟨rfl,rfl,hz0⟩:=hnb;simp only[an.injEq]at hr;subst hr;simp only[eff]at he;split at he<;>try (cases he;done)
   rename_i d k1 L k2 K hd1 hL hK;cases he;obtain⟨q0,q1,q2⟩:=hp;rw[hL]at h1;rw[hK]at h2;obtain⟨cv,hrun,hsz,hget⟩:=kV (P:=P) (w:=w) (k1:=k1) (k2:=k2) hd hn hb hzc q0 q1 (by omega) (by omega);simp only[St.app];have hd':o.dst.getD 0=d:=by rw[hd1];rfl
   rw[hd']
   have hz1:z=[.u8 0]:=by
    unfold z0 at hz0;split at hz0
    ·rename_i b;simp at hz0;rw[hz0]
    ·cases hz0
   refine bW.newObj hM (d:=d+100) (by omega) (.bar (aE K.toNat 0)) hex (by rw[h1.int_inv,h2.int_inv];exact hrun) (by simp[aF.size,hsz]) (fun k hk=> ?_) ?_
   ·simp only[aF.size,dI]at hk
    simp only[bZ,aF.cell];rw[hget k (by omega),fi _ _ _ _ hk];rw[hz1]at hzl0 hzr;have h0:=hzr x.G 0 (by simp);have:zs.length=1:=by simpa using hzl0.symm
    rw[this,Nat.mod_one]
    match zs,this with
    |[v],_=>exact h0
   ·have:=Rep.psl (x:=x.newO (d+100) w.heap.size) (d+100) 1 0 L.toNat (some K.toNat) 0 K.toNat (.inr (by omega)) (by omega) (fun _ e=>by cases e;rfl) (fun e=>by cases e)
    rw[jd]at this;exact this
  ·rw[if_neg hnb]at hr;cases hr
 |false=>
  simp only[h8,aK,if_false]at hr
  by_cases hzl:z.length=n/\n≠0
  ·rw[if_pos hzl]at hr
   simp only[an.injEq]at hr;subst hr;obtain⟨hzl,hn0⟩:=hzl;simp only[eff]at he;split at he<;>try (cases he;done)
   rename_i d k1 L k2 K hd1 hL hK;cases he;obtain⟨q0,q1,q2,q3⟩:=hp;rw[hL]at h1;rw[hK]at h2;obtain⟨cv,hrun,hsz,hget⟩:=kV (P:=P) (w:=w) (k1:=k1) (k2:=k2) hd hn hb hzc q0 q1 q2 q3;simp only[St.app];have hd':o.dst.getD 0=d:=by rw[hd1];rfl
   rw[hd'];refine bW.newObj hM (d:=d+100) (by omega) (.arr z.length (aE K.toNat z)) hex (by rw[h1.int_inv,h2.int_inv];exact hrun) (by simp[aF.size,hsz,hzl]) (fun k hk=> ?_) ?_
   ·simp only[aF.size,dI]at hk
    simp only[bZ,aF.cell];rw[hget k (by rw[<-hzl];exact hk),fi _ _ _ _ (Nat.div_lt_of_lt_mul (by rw[cz];exact hk)),<-hzl0];have hlt:k % z.length<z.length:=Nat.mod_lt _ (by omega);have:=hzr x.G _ hlt
    have e1:zs.getD (k % z.length) default=zs.getD (k % z.length) Go.undef:=by rw[aa,aa,ab (by omega)];rfl
    rw[e1];exact this
   ·have:=Rep.psl (x:=x.newO (d+100) w.heap.size) (d+100) z.length 0 L.toNat (some K.toNat) 0 K.toNat (.inr (by omega)) (by omega) (fun _ e=>by cases e;rfl) (fun e=>by cases e)
    rw[jd]at this;exact this
  ·rw[if_neg hzl]at hr;cases hr
theorem cn.oneCell{G:GM}{c:SV}{v:Value}(h:cn G c v):v.oneCell'=true:=by cases h<;>rfl
theorem Rep.oneCell{c:SV}{v:Value}(h:Rep x c v)(h1:c.one=true):v.oneCell'=true:=by
 cases h with
 |undef=>simp[SV.one]at h1
 |dat _ _ h _=>exact h.oneCell
 |ptr=>rfl
 |ap=>rfl
 |psl=>rfl
 |agg=>simp[SV.one]at h1
 |tup=>simp[SV.one]at h1
 |fn=>rfl
theorem sr(cs:List SV)(off:Nat)(v:List SV)(h:off+v.length<=cs.length)(i:Nat):(gu cs off v).getD i .undef=if off<=i/\i<off+v.length then v.getD (i-off) .undef else cs.getD i .undef:=by
 have gen:∀i:Nat,(cs.take off++v++cs.drop (off+v.length)).getD i .undef=if off<=i/\i<off+v.length then v.getD (i-off) .undef else cs.getD i .undef:=by intro i;simp only[aa];rw[fP _ _ _ _ h];split<;>rfl
 unfold gu;split
 ·rename_i u
  simp only[aW]at*;simp only[aa,gk]
  by_cases hi:off=i
  ·subst hi;rw[if_pos rfl,if_pos (by omega),if_pos (by omega)];simp
  ·rw[if_neg hi,if_neg (by omega)]
 ·exact gen i
theorem nu(cs:List SV)(off:Nat)(v:List SV)(h:off+v.length<=cs.length):(gu cs off v).length=cs.length:=by
 unfold gu;split
 ·simp
 ·simp;omega
theorem bW.store(hM:aM C x s a w){t:TypeId}{X Y:Operand}(ho:o.op= .store t X Y){n:Nat}(hn:eW P t=some n){d off:Nat}(hX:a.eval X= .pointer (some ⟨(x.bk d).1,off,none⟩)){obj obj':aF}(hl:s.look d=some obj)
 {vs:List Value} (hY:(a.eval Y).cells.toList=vs) (hvn:vs.length=n) (hone:∀v∈vs,v.oneCell'=true) (hb:off+n<=obj.size)
 (hsz:obj'.size=obj.size) (hnew:∀c:Array Value,(∀k,k<obj.size->bZ x obj k (c.getD k Go.undef))->∀k,k<obj.size->bZ x obj' k (if off<=k/\k<off+n then vs.getD (k-off) Go.undef else c.getD k Go.undef)) (harr:obj'.arrB=obj.arrB:=by rfl):
 bW P C o a w ((s.setO d obj').put o.dst .undef):=by
 obtain⟨c,e,fl,fh,hO,⟨hs,hs2,hs3⟩,hr⟩:=eF hM hl;obtain⟨g1,g2,g3,g4,g5⟩:=fR ((x.bk d).1) vs w off;obtain⟨c',hO',hcs,hck⟩:=fg vs w off c hO (by omega);refine⟨Go.undef,cw w ((x.bk d).1) off vs,x,.skip, ?_,.inr ⟨rfl,rfl⟩,aM.put (s:=s.setO d obj') ⟨hM.tm,hM.defers, ?_⟩ o.dst (.undef _)⟩
 ·simp only[execOp,ho,Instr.storeAt,hX,Instr.sureAddr,aA,aG,am,storeVar,cJ hn]
  have hsz':(a.eval Y).cells.size=n:=by rw[<-aS,hY];exact hvn
  rw[if_neg (by simp[hsz']),hY,fe off vs w c 0 hO (by omega) hone];rfl
 ·refine hM.heap.block (cS hl) g1 g2 g3 g4 g5 ⟨c',e,fl,fh,hO',⟨by omega,by omega,fun h=>by rw[hcs];exact hs3 (harr ▸ h)⟩,fun k hk=> ?_⟩
  rw[hck k,hvn];exact hnew c hr k (by omega)
theorem mz{cs:List SV}{vs:List Value}(h:cd x cs vs)(h1:cs.all SV.one=true):∀v∈vs,v.oneCell'=true:=by
 intro v hv;obtain⟨i,hi,rfl⟩:=cr hv;have hi':i<cs.length:=by rw[h.1];exact hi
 have:=h.2 i hi';have e1:cs.getD i .undef=cs[i]:=by rw[aa,ab hi'];rfl
 have e2:vs.getD i Go.undef=vs[i]:=by rw[aa,ab hi];rfl
 rw[e1,e2]at this;exact this.oneCell (aR.1 h1 _ (bh _))
theorem oR{c:SV}(h:c.isData=true):c.one=true:=by cases c<;>simp[SV.isData,SV.one]at*
theorem QH{sz:Nat}{xs:List (List SV)}(h:∀y∈xs,y.length=sz){i j n:Nat}{v:List SV}(hi:i<xs.length)(hj:j+n<=sz)(hv:v.length=n):
 (jc sz xs i j n v).length=xs.length/\∀k,k<xs.length*sz->((jc sz xs i j n v).getD (k/sz) []).getD (k % sz) .undef=if i*sz+j<=k/\k<i*sz+j+n then v.getD (k-(i*sz+j)) .undef else(xs.getD (k/sz) []).getD (k % sz) .undef:=by
 have hrow:(xs.getD i []).length=sz:=by rw[aa,ab hi];exact h _ (bh _)
 obtain⟨nr,hnr,hset⟩:∃nr:List SV,(∀m,m<sz->nr.getD m .undef=if j<=m/\m<j+n then v.getD (m-j) .undef else(xs.getD i []).getD m .undef)/\jc sz xs i j n v=xs.set i nr:=by
  unfold jc;split
  ·rename_i hc
   obtain⟨rfl,rfl⟩:=hc;exact⟨v,fun m hm=>by rw[if_pos ⟨by omega,by omega⟩,Nat.sub_zero],rfl⟩
  ·refine⟨_,fun m hm=> ?_,rfl⟩
   have:=fP (xs.getD i []) v j m (by omega);rw[hv]at this;simp only[aa]at this ⊢;rw[this];split<;>rfl
 rw[hset];refine⟨by simp,fun k hk=> ?_⟩
 have hsz:0<sz:=by
  rcases gb sz with h0|h0
  ·subst h0;omega
  ·exact h0
 have hkd:=Nat.div_add_mod k sz;have hkm:=Nat.mod_lt k hsz;rw[cz]at hkd;simp only[aa,gk]at hnr ⊢
 by_cases hik:i=k/sz
 ·rw[if_pos hik,if_pos hi]
  simp only[aY];rw[hnr _ hkm,<-hik];rw[<-hik]at hkd
  by_cases hc:j<=k % sz/\k % sz<j+n
  ·rw[if_pos hc,if_pos (by omega),show k-(i*sz+j)=k % sz-j from by omega]
  ·rw[if_neg hc,if_neg (by omega)]
 ·rw[if_neg hik,if_neg ?_]
  rintro⟨h1,h2⟩;apply hik;have:i*sz<=k/\k<(i+1)*sz:=by rw[dq];omega
  rw[eq_comm,Nat.div_eq_iff hsz];rw[dq]at this;omega
theorem lE(sz:Nat):∀(m:Nat)(v:List SV),(jA sz m v).length=m
 |0,_=>rfl
 |m+1,v=>by simp[jA,lE sz m]
theorem rT(sz:Nat)(h0:0<sz):∀(m:Nat)(v:List SV)(k:Nat),k<m*sz->((jA sz m v).getD (k/sz) []).getD (k % sz) .undef=v.getD k .undef
 |0,_,k,hk=>by omega
 |m+1,v,k,hk=>by
  rw[dq]at hk;simp only[jA]
  by_cases h:k<sz
  ·rw[Nat.div_eq_of_lt h,cy h,List.getD_cons_zero]
   simp only[aa,bL,if_pos h]
  ·obtain⟨j,rfl⟩:∃j,k=j+sz:=⟨k-sz,by omega⟩
   rw[Nat.add_div_right _ h0,Nat.add_mod_right,List.getD_cons_succ,rT sz h0 m (v.drop sz) j (by omega)];simp only[aa,bw,Nat.add_comm]
theorem Du(hM:aM C x s a w){t:TypeId}{X Y:Operand}(ho:o.op= .store t X Y)(hr:br P o=some so)(he:eff s o.dst so=some e)(hp:e.pre):bW P C o a w (s.app o.dst e):=by
 simp only[br,ho]at hr;split at hr<;>try (cases hr;done)
 rename_i n r q hn hra hrb;cases hr;have h1:=aL hM hra;have h2:=aL hM hrb;simp only[eff]at he;split at he<;>try (cases he;done)
 rename_i hn0;have hL:=h2.cells hn0;cases hu:s.ev r with
 |ptr d off=>
  rw[hu]at he h1;simp only[pZ]at he;split at he<;>try (cases he;done)
  ·rename_i cs hl
   cases he;obtain⟨q0,q1,q2⟩:=hp;refine bW.store hM ho hn h1.ptr_inv hl rfl (by rw[<-hL.1];exact q1) (mz hL q2) q0 (by simp only[aF.size];exact nu _ _ _ (by omega)) (fun c hc k hk=> ?_);have:=hc k hk;simp only[bZ]at this ⊢;rw[sr _ _ _ (by omega),q1];split
   ·exact hL.get _
   ·exact this
  ·rename_i sz xs hl
   cases he;obtain⟨rfl,q0,q1,q2⟩:=hp
   refine bW.store hM ho hn h1.ptr_inv hl rfl (by rw[<-hL.1];exact q1) (mz hL (by rw[aR]at q2 ⊢;exact fun z hz=>oR (q2 z hz))) (by simp only[aF.size];omega) (by simp only[aF.size,lE]) (fun c hc k hk=> ?_)
   simp only[aF.size]at hk;have hlt:k<(s.ev q).cells.length:=by omega
   have hsz:0<sz:=by
    rcases gb sz with h0|h0
    ·subst h0;omega
    ·exact h0
   simp only[bZ,aF.cell];rw[if_pos ⟨by omega,by omega⟩,Nat.sub_zero,rT sz hsz _ _ _ hk,fY];refine((hL.2 _ hlt).data (aR.1 q2 _ ?_)).toData;generalize (s.ev q).cells=qq at*;rw[aa,ab hlt];exact bh _
  ·rename_i l hl
   split at he<;>try (cases he;done)
   rename_i l' hv;cases he;obtain⟨rfl,q0,q1⟩:=hp;have hv':=sE hv;rw[hv']at hL
   refine bW.store hM ho hn h1.ptr_inv hl rfl (by rw[<-hL.1,aP];exact q1) (mz hL (by rw[aR];intro z hz;obtain⟨b,_,rfl⟩:=aT.1 hz;rfl)) (by simp only[aF.size];omega) (by simp only[aF.size];omega) (fun c hc k hk=> ?_)
   simp only[aF.size]at hk;simp only[bZ,aF.cell];rw[if_pos ⟨by omega,by omega⟩,Nat.sub_zero];have hlt:k<(l'.map SV.u8).length:=by rw[aP];omega
   have hlt':k<l'.length:=by omega
   have e1:(l'.map SV.u8).getD k .undef= .u8 (l'.getD k 0):=by simp[aa,aQ,ab hlt']
   have:=hL.2 k hlt;rw[e1]at this;exact this.data rfl
 |ap d sz i j=>
  rw[hu]at he h1;simp only[pZ]at he;split at he<;>try (cases he;done)
  ·rename_i sz' xs hl
   cases he;obtain⟨rfl,q0,q1,q2,q3,q4⟩:=hp;have hvm:((s.ev q).cells.map SV.data).length=n:=by rw[aP];exact q2
   obtain⟨g1,g2⟩:=QH q3 q0 q1 hvm
   have hb:i*sz+j+n<=xs.length*sz:=by have:=bv sz (Nat.succ_le_of_lt q0);rw[dq]at this;omega
   refine bW.store hM ho hn h1.ap_inv hl rfl (by rw[<-hL.1];exact q2) (mz hL (by rw[aR]at q4 ⊢;exact fun z hz=>oR (q4 z hz))) (by simp only[aF.size];exact hb) (by simp only[aF.size];rw[g1]) (fun c hc k hk=> ?_)
   have:=hc k hk;simp only[bZ,aF.cell,aF.size]at this hk ⊢;rw[g2 k hk];split
   ·rename_i hin
    rw[fY];have hlt:k-(i*sz+j)<(s.ev q).cells.length:=by omega
    refine((hL.2 _ hlt).data (aR.1 q4 _ ?_)).toData;generalize (s.ev q).cells=qq at*;rw[aa,ab hlt];exact bh _
   ·exact this
  ·rename_i l hl
   split at he<;>try (cases he;done)
   rename_i b hb;cases he;obtain⟨rfl,rfl,rfl,q0⟩:=hp;rw[hb]at hL;refine bW.store hM ho hn h1.ap_inv hl rfl (by rw[<-hL.1];rfl) (mz hL rfl) (by simp only[aF.size];omega) (by simp[aF.size]) (fun c hc k hk=> ?_);have:=hc k hk;simp only[bZ,aF.cell,aF.size]at this hk ⊢;simp only[cX,eY]
   by_cases hki:k=i
   ·subst hki
    rw[if_pos (by omega),Nat.sub_self];have e1:(l.set k b).getD k 0=b:=by rw[aa,gk,if_pos rfl,if_pos hk];rfl
    rw[e1];exact(hL.2 0 (by simp)).data rfl
   ·rw[if_neg (by omega)]
    have e1:(l.set i b).getD k 0=l.getD k 0:=by rw[aa,gk,if_neg (fun e=>hki e.symm),<-aa]
    rw[e1];exact this
 |_=>rw[hu]at he;simp[pZ]at he
end Go.Sy
namespace Go.Sy
variable [aZ]
variable {P : Program} {C : Ctx} {x : Sit} {s : St} {a : Act} {w : World} {o : Oper} {so : SOp} {e : Eff}
def xas(G:GM)(b off:Nat)(fl:List SV):Prop:=∀k,k<fl.length->∃v,G b (off+k)=some v/\cn G (fl.getD k .undef) v
def Cn(G:GM)(sz:Nat)(fl:List SV)(v:Value)(n cap:Nat):Prop:=
 n*sz=fl.length/\n<=cap/\((∃b off,v= .slice (some ⟨b,off,none⟩) n cap/\xas G b off fl)\/((∃a,v= .slice a 0 0)/\n=0/\cap=0))
theorem iC(l:List UInt8)(k:Nat)(h:k<l.length):(l.map SV.u8).getD k .undef= .u8 (l.getD k 0):=by simp only[aa,aQ];rw[ab h];rfl
theorem vS{G:GM}{l:List UInt8}{t:Tok}{v:Value}(h:cn G (.byt l t) v):∃cap,Cn G 1 (l.map .u8) v l.length cap/\∃bs,v= .slice bs l.length cap:=by
 cases h with
 |bytN=>exact⟨0,⟨by simp,by simp,.inr ⟨⟨none,rfl⟩,rfl,rfl⟩⟩,none,rfl⟩
 |bytE _ a=>exact⟨0,⟨by simp,by simp,.inr ⟨⟨some a,rfl⟩,rfl,rfl⟩⟩,some a,rfl⟩
 |byt _ _ b off cap n hn hc h=>subst hn;refine⟨cap,⟨by simp,hc,.inl ⟨b,off,rfl,fun k hk=> ?_⟩⟩,_,rfl⟩;rw[aP]at hk;exact⟨_,h k hk,by rw[iC _ _ hk];exact .u8 _⟩
theorem Gs{G:GM}{l:List UInt8}{t:Tok}{v:Value}{cap:Nat}(h:Cn G 1 (l.map .u8) v l.length cap):cn G (.byt l t) v:=by
 obtain⟨_,hc,⟨b,off,rfl,hr⟩|⟨⟨a,rfl⟩,h0,_⟩⟩:=h
 ·refine .byt l t b off cap l.length rfl hc fun i hi=> ?_
  obtain⟨v,hv,hrep⟩:=hr i (by simpa using hi);rw[iC _ _ hi]at hrep;cases hrep;exact hv
 ·have:l=[]:=dR.1 h0
  subst this;cases a with
  |none=>exact .bytN t
  |some a=>exact .bytE t a
theorem bA{sz:Nat}{xs:List (List SV)}(h:∀y∈xs,y.length=sz):xs.flatten.length=xs.length*sz:=by
 induction xs with
 |nil=>simp
 |cons y r ih=>simp only[c9,ac,aj,dq];rw[ih (fun z hz=>h z (ao _ hz)),h y (by simp)];omega
theorem uK{sz:Nat}{xs:List (List SV)}(h:∀i,i<xs.length->(xs.getD i []).length=sz):∀y∈xs,y.length=sz:=by intro y hy;obtain⟨i,hi,rfl⟩:=cr hy;have:=h i hi;rwa[aa,ab hi]at this
theorem pL{G:GM}{sz:Nat}{xs:List (List SV)}{t:Tok}{v:Value}(h:cn G (.lst sz xs t) v):∃cap,Cn G sz xs.flatten v xs.length cap/\(∃bs,v= .slice bs xs.length cap)/\∀y∈xs,y.length=sz:=by
 cases h with
 |lstN=>exact⟨0,⟨by simp,by simp,.inr ⟨⟨none,rfl⟩,rfl,rfl⟩⟩,⟨none,rfl⟩,by simp⟩
 |lstE _ _ a=>exact⟨0,⟨by simp,by simp,.inr ⟨⟨some a,rfl⟩,rfl,rfl⟩⟩,⟨some a,rfl⟩,by simp⟩
 |lst _ _ _ b off cap n vl hn hc hl hg h=>
  subst hn;have hrows:=uK hl;refine⟨cap,⟨(bA hrows).symm,hc,.inl ⟨b,off,rfl,fun k hk=> ?_⟩⟩,⟨_,rfl⟩,hrows⟩;rw[bA hrows]at hk
  have hsz:0<sz:=by
   rcases gb sz with h0|h0
   ·subst h0;omega
   ·exact h0
  have hd:k/sz<xs.length:=Nat.div_lt_of_lt_mul (by rw[cz];exact hk);have hm:=Nat.mod_lt k hsz;have hkd:=Nat.div_add_mod k sz;rw[cz]at hkd;refine⟨vl (k/sz) (k % sz), ?_, ?_⟩
  ·have:=hg _ _ hd hm
   rwa[ew,hkd]at this
  ·rw[cB xs hrows k hk];exact h _ _ hd hm
theorem FS{G:GM}{sz:Nat}{xs:List (List SV)}{t:Tok}{v:Value}{cap:Nat}(h:Cn G sz xs.flatten v xs.length cap)(hrows:∀y∈xs,y.length=sz):cn G (.lst sz xs t) v:=by
 obtain⟨_,hc,⟨b,off,rfl,hr⟩|⟨⟨a,rfl⟩,h0,_⟩⟩:=h
 ·refine .lst sz xs t b off cap xs.length (fun i j=>(G b (off+i*sz+j)).getD Go.undef) rfl hc (fun i hi=> ?_) (fun i j hi hj=> ?_) (fun i j hi hj=> ?_)
  ·rw[aa,ab hi];exact hrows _ (bh _)
  all_goals
   have hk:i*sz+j<xs.length*sz:=by have:=bv sz (Nat.succ_le_of_lt hi);rw[dq]at this;omega
   obtain⟨v,hv,hrep⟩:=hr (i*sz+j) (by rw[bA hrows];exact hk);rw[<-ew]at hv
  ·rw[hv];rfl
  ·rw[hv]
   rw[cB xs hrows _ hk,show(i*sz+j)/sz=i from by rw[cz,Nat.mul_add_div (by omega),Nat.div_eq_of_lt (by omega)];rfl,
    show(i*sz+j) % sz=j from by rw[cz,Nat.mul_add_mod,cy (by omega)]]at hrep
   exact hrep
 ·have:xs=[]:=dR.1 h0
  subst this;cases a with
  |none=>exact .lstN sz t
  |some a=>exact .lstE sz t a
theorem xas.mono{G G':GM}(hG:∀b o v,G b o=some v->G' b o=some v){b off:Nat}{fl:List SV}(h:xas G b off fl):xas G' b off fl:=fun k hk=>by obtain⟨v,hv,hr⟩:=h k hk;exact⟨v,hG _ _ _ hv,hr.mono hG⟩
structure New(x:Sit)(ns:List Value)(fl:List SV):Prop where
 len:fl.length=ns.length
 rep:∀k,k<fl.length->cn x.G (fl.getD k .undef) (ns.getD k Go.undef)
 one:∀v∈ns,v.oneCell'=true
theorem eu(z:Array Value)(n:Nat):(Builtin.zeroCells z n).size=n*z.size:=by simp[Builtin.zeroCells]
theorem aM.retok(hM:aM C x s a w){t:Tok}(ht:t.ready s=true)(d:Nat){sz n cap:Nat}{bs:Option Addr}(hsp:dj x sz t (.slice bs n cap)):
 ∃b lo hi,aM C (x.newT d b lo hi) (s.grew t d) a w/\dj (x.newT d b lo hi) sz (.id d) (.slice bs n cap):=by
 have empty:cap=n->∃b lo hi,aM C (x.newT d b lo hi) (s.grew t d) a w/\dj (x.newT d b lo hi) sz (.id d) (.slice bs n cap):=by
  intro hc;refine⟨0,0,0,⟨?_,hM.defers, ?_⟩,bs,n,cap,rfl,.inl hc⟩
  ·exact cd.mono (x:=x) (x':=x.newT d 0 0 0) (lo:=d) (hi:=d+1) (fun _ _ _ h=>h) (fun _ _=>rfl) (Sit.newT_ne x d 0 0 0) hM.tm
  ·refine(hM.heap.sub (tk':=t.eat s.tk) (nj.refl _) ?_).addT d 0 0 0 (.inl rfl) (.inl rfl) (.inl rfl)
   intro u hu;cases t with
   |id t=>exact fT hu
   |_=>exact hu
 cases t with
 |no=>simp[Tok.ready]at ht
 |clip=>obtain⟨b',n',he⟩:=hsp;simp only[Value.slice.injEq]at he;exact empty (by omega)
 |id t=>
  obtain⟨b',n',cap',he,hh⟩:=hsp;simp only[Value.slice.injEq]at he;obtain⟨rfl,rfl,rfl⟩:=he;rcases hh with hc|⟨b,off,rfl,hτ⟩
  ·exact empty hc
  ·have htm:t∈s.tk:=by simpa[Tok.ready]using ht
   refine⟨b,off+n*sz,off+cap*sz,⟨?_,hM.defers, ?_⟩,_,n,cap,rfl,.inr ⟨b,off,rfl,Sit.newT_eq x d _ _ _⟩⟩
   ·exact cd.mono (x:=x) (x':=x.newT d b (off+n*sz) (off+cap*sz)) (lo:=d) (hi:=d+1) (fun _ _ _ h=>h) (fun _ _=>rfl) (Sit.newT_ne x d _ _ _) hM.tm
   ·have h1:=hM.heap.tks t htm
    unfold ia at h1;rw[hτ]at h1;refine(hM.heap.sub (tk':=cg t (t+1) s.tk) (nj.refl _) (fun u hu=>fT hu)).addT d b (off+n*sz) (off+cap*sz) h1 ?_ ?_
    ·by_cases hc:off+n*sz=off+cap*sz
     ·exact .inl hc
     ·refine .inr fun p hp _=> ?_
      have:=hM.heap.tko t htm p hp;rw[hτ]at this;exact this.resolve_right hc
    ·by_cases hc:off+n*sz=off+cap*sz
     ·exact .inl hc
     ·refine .inr fun u hu _=> ?_
      obtain⟨hu,hne⟩:=bD.1 hu;have:=hM.heap.tkd t htm u hu (by omega);rw[hτ]at this;rcases this with h|h|h
      ·exact .inl h
      ·exact absurd h hc
      ·exact .inr h
theorem ic{t u el:TypeId}{d2:TypeDesc}{n m len cap:Nat}(hd:P.underlying t=some (.slice el))(hu:P.underlying u=some d2)(hu2:(∃e',d2= .slice e')\/d2= .string)(hn:eW P el=some n){ty:TypeId}{bs:Option Addr}{Y:Value}{ns:List Value}{w1:World}
 (hlen:(Builtin.lenOf Y).run P w= .ok m w) (hcells:(Builtin.firstCells n m Y).run P w= .ok ns.toArray w) (hc:len+m<=cap)
 (hst:(match bs with|some ad=>storeCells (ad.add (len*n)) ns|none=>pure ():Sem Unit).run P w= .ok () w1):
 (Builtin.append_ #[t,u] ty #[.slice bs len cap,Y]).run P w= .ok (.slice bs (len+m) cap) w1:=by
 have e:(#[t,u]:Array TypeId)[0]? =some t:=rfl;have e':(#[t,u]:Array TypeId)[1]? =some u:=rfl;have e2:(#[Value.slice bs len cap,Y]:Array Value)[0]? =some (.slice bs len cap):=rfl;have e3:(#[Value.slice bs len cap,Y]:Array Value)[1]? =some Y:=rfl;rcases hu2 with⟨e4,rfl⟩|rfl
 all_goals
  simp only[Builtin.append_,e,e',e2,e3,aA,run_underlying hd,am,cJ hn,run_underlying hu,aG,aK,if_false,hlen,hc,if_true,Bool.not_false,hcells];cases bs with
  |none=>simp only[aG]at hst;cases hst;rfl
  |some ad=>simp only[aA];rw[hst];rfl
theorem jX{t u el:TypeId}{d2:TypeDesc}{n m len cap by_:Nat}{i:TypeInfo}{z:Value}(hd:P.underlying t=some (.slice el))(hu:P.underlying u=some d2)(hu2:(∃e',d2= .slice e')\/d2= .string)(hn:eW P el=some n){ty:TypeId}{bs:Option Addr}{Y:Value}{os ns:List Value}
 (hi:P.info? el=some i) (hib:i.bytes=by_) (hb0:by_≠0) (hzr:∀w,(zeroValue el).run P w= .ok z w)
 (hlen:∀w',w'.heap=w.heap->(Builtin.lenOf Y).run P w'= .ok m w') (hcells:∀w',w'.heap=w.heap->(Builtin.firstCells n m Y).run P w'= .ok ns.toArray w') (hold:∀w',w'.heap=w.heap->(Builtin.firstCells n len (.slice bs len cap)).run P w'= .ok os.toArray w')
 (hc:¬len+m<=cap) (hroom:(len+m)*by_<=140737488355328):
 ∃nc,len+m<=nc/\(Builtin.append_ #[t,u] ty #[.slice bs len cap,Y]).run P w= .ok (.slice (some ⟨w.heap.size,0,none⟩) (len+m) nc) (w.drew.alloc (.cells (os.toArray++ns.toArray++Builtin.zeroCells z.cells (nc-(len+m))) el (0,0))):=by
 have e:(#[t,u]:Array TypeId)[0]? =some t:=rfl;have e':(#[t,u]:Array TypeId)[1]? =some u:=rfl;have e2:(#[Value.slice bs len cap,Y]:Array Value)[0]? =some (.slice bs len cap):=rfl;have e3:(#[Value.slice bs len cap,Y]:Array Value)[1]? =some Y:=rfl;have hf:(Question.appendCap (len+m) cap el).forced=false:=rfl
 have hfit:¬Builtin.nextslicecap (len+m) cap*i.bytes>2^48:=by have:=growslice_fits (need:=len+m) (old:=cap) (bytes:=by_) (by omega) hroom;rw[hib];omega
 refine⟨(Question.appendCap (len+m) cap el).cut (w.tape w.drawn (Question.appendCap (len+m) cap el)),by simp only[Question.cut];omega, ?_⟩;rcases hu2 with⟨e4,rfl⟩|rfl
 all_goals
  simp only[Builtin.append_,e,e',e2,e3,aA,run_underlying hd,am,cJ hn,run_underlying hu,aG,aK,if_false,hlen w rfl,hc,run_typeInfo w hi,hib,hb0,false_or,and_false];rw[if_neg (by rw[<-hib];exact hfit)];simp only[aA,run_choose_drew,hf,aK,if_false,am,run_typeInfo w.drew hi,run_askRoom,hold w.drew rfl,Bool.not_false,if_true,hcells w.drew rfl,hzr,newRow,run_newObj_alloc,aG];rfl
theorem kd(os ns:List Value)(r:Array Value)(k:Nat)(h:k<os.length+ns.length):(os.toArray++ns.toArray++r)[k]? =(os++ns)[k]? :=by rw[Array.getElem?_append_left (by simp;omega)];rw[<-cI];simp
theorem ow(hM:aM C x s a w){t u el:TypeId}{d2:TypeDesc}{n by_:Nat}{zs:List Value}(hd:P.underlying t=some (.slice el))(hu:P.underlying u=some d2)(hu2:(∃e',d2= .slice e')\/d2= .string)(hn:eW P el=some n)(hb:tt P el=some by_)
 (hz:fO P el=some zs) (hb0:by_≠0) (hn0':n≠0) (hzl:zs.length=n) {ty:TypeId} {X Y:Value} {tok:Tok} {fl fl':List SV} {ns:List Value} {len m cap:Nat} (hX:Cn x.G n fl X len cap) (htok:tok.ready s=true) (hsp:dj x n tok X)
 (hlen:∀w',w'.heap=w.heap->(Builtin.lenOf Y).run P w'= .ok m w') (hcells:∀w',w'.heap=w.heap->(Builtin.firstCells n m Y).run P w'= .ok ns.toArray w') (hnl:ns.length=m*n) (hnew:New x ns fl') (hroom:(len+m)*by_<=140737488355328) (d:Nat):
 ∃v w' x' cap',(Builtin.append_ #[t,u] ty #[X,Y]).run P w= .ok v w'/\aM C x' (s.grew tok d) a w'/\Cn x'.G n (fl++fl') v (len+m) cap'/\dj x' n (.id d) v:=by
 obtain⟨hfl,hlc,hX'⟩:=hX;obtain⟨z,hzc,hzr⟩:=cM hz
 have hby:∃i,P.info? el=some i/\i.bytes=by_:=by
  unfold tt at hb;cases hi:P.info? el with
  |none=>simp[hi]at hb
  |some i=>simp[hi]at hb;exact⟨i,rfl,hb⟩
 obtain⟨i,hi,hib⟩:=hby
 obtain⟨bs,hXe⟩:∃bs,X= .slice bs len cap:=by
  rcases hX' with⟨b,off,rfl,_⟩|⟨⟨a,rfl⟩,rfl,rfl⟩
  ·exact⟨_,rfl⟩
  ·exact⟨_,rfl⟩
 subst hXe;have hfl':fl'.length=m*n:=by rw[hnew.len,hnl]
 have hsum:(len+m)*n=(fl++fl').length:=by rw[ac,hfl',<-hfl,bB]
 by_cases hc:len+m<=cap
 ·by_cases hm:ns=[]
  ·
   subst hm;have hfl0:fl'=[]:=dR.1 (by rw[hnew.len];rfl);subst hfl0;obtain⟨b,lo,hi',hM',hsp'⟩:=hM.retok htok d hsp
   by_cases hm0:m=0
   ·subst hm0
    refine⟨_,w,_,cap,ic hd hu hu2 hn (hlen w rfl) (hcells w rfl) hc (by cases bs<;>rfl),hM', ?_,hsp'⟩;refine⟨by simpa using hfl,hc, ?_⟩;rcases hX' with⟨b,off,he,hr⟩|⟨he,h1,h2⟩
    ·exact .inl ⟨b,off,he,by rw[bg];exact hr⟩
    ·exact .inr ⟨he,h1,h2⟩
   ·
    have hn0:n=0:=by
     simp only[aq]at hnl;rcases Nat.mul_eq_zero.1 hnl.symm with h|h
     ·exact absurd h hm0
     ·exact h
    exact absurd hn0 hn0'
  ·have hpos:0<ns.length:=List.length_pos_iff.2 hm
   have hmn:0<m*n:=by omega
   cases tok with
   |no=>simp[Tok.ready]at htok
   |clip=>
    obtain⟨b',n',he⟩:=hsp;simp only[Value.slice.injEq]at he;have:m=0:=by omega
    subst this;omega
   |id tk=>
    have htm:tk∈s.tk:=by simpa[Tok.ready]using htok
    obtain⟨b',n',cap',he,hh⟩:=hsp;simp only[Value.slice.injEq]at he;obtain⟨rfl,rfl,rfl⟩:=he;rcases hh with hcl|⟨b,off,rfl,hτ⟩
    ·have:m=0:=by omega
     subst this;omega
    ·have hle1:off+len*n+ns.length<=off+cap*n:=by
      rw[hnl,ew,<-bB];exact Nat.add_le_add_left (bv _ hc) _
     obtain⟨f1,f2,f3,f4,f5,f6,f7,⟨c0,e0,fl0,fh0,hO,hcs⟩⟩:=hM.heap.fill htm hτ ns hle1 hpos
     have hrun:=ic (t:=t) (u:=u) (ty:=ty) (Y:=Y) (bs:=some ⟨b,off,none⟩) (w1:=cw w b (off+len*n) ns) hd hu hu2 hn (hlen w rfl) (hcells w rfl) hc (by simp only[di];exact fe (off+len*n) ns w c0 0 hO (by omega) hnew.one)
     refine⟨_,_,(x.fill b (off+len*n) ns).newT d b (off+len*n+ns.length) (off+cap*n),cap,hrun,⟨?_,hM.defers, ?_⟩,⟨hsum,hc,.inl ⟨b,off,rfl, ?_⟩⟩, ?_⟩
     ·exact cd.mono (x:=x) (x':=(x.fill b (off+len*n) ns).newT d b (off+len*n+ns.length) (off+cap*n)) (lo:=d) (hi:=d+1) f1 (fun _ _=>rfl) (Sit.newT_ne (x.fill b (off+len*n) ns) d _ _ _) hM.tm
     ·exact f2.addT d b _ _ (.inr ⟨f3,f4,f5⟩) (.inr fun p hp _=>f6 p hp) (.inr fun u hu _=>f7 u hu)
     ·rcases hX' with⟨b2,off2,he2,hr⟩|⟨he2,_,_⟩
      ·simp only[Value.slice.injEq,an.injEq,Addr.mk.injEq]at he2
       obtain⟨⟨rfl,rfl,_⟩,_⟩:=he2;intro k hk
       by_cases hk1:k<fl.length
       ·obtain⟨v,hv,hrv⟩:=hr k hk1
        refine⟨v,f1 _ _ _ hv, ?_⟩;have:(fl++fl').getD k .undef=fl.getD k .undef:=by simp only[aa,bQ hk1]
        rw[this];exact hrv.mono f1
       ·rw[ac]at hk
        refine⟨ns.getD (k-fl.length) Go.undef, ?_, ?_⟩
        ·show(x.fill b (off+len*n) ns).G b (off+k)=_
         simp only[Sit.fill];rw[if_pos ⟨trivial,by omega,by omega⟩,show off+k-(off+len*n)=k-fl.length from by omega]
        ·have:(fl++fl').getD k .undef=fl'.getD (k-fl.length) .undef:=by simp only[aa,bU (Nat.le_of_not_lt hk1)]
         rw[this];exact(hnew.rep _ (by omega)).mono f1
      ·have hm0:m=0:=by omega
       rw[hm0,lj]at hmn;exact absurd hmn (Nat.lt_irrefl _)
     ·refine⟨_,_,cap,rfl,.inr ⟨b,off,rfl, ?_⟩⟩
      rw[Sit.newT_eq,hnl,ew,<-bB]
 ·
  obtain⟨os,hos,hosl,hosv⟩:∃os:List Value,(∀w',w'.heap=w.heap->(Builtin.firstCells n len (.slice bs len cap)).run P w'= .ok os.toArray w')/\os.length=fl.length/\∀k,k<fl.length->cn x.G (fl.getD k .undef) (os.getD k Go.undef):=by
   rcases hX' with⟨b,off,he,hr⟩|⟨he,h1,h2⟩
   ·simp only[Value.slice.injEq]at he
    obtain⟨rfl,_⟩:=he;refine⟨(bE (len*n)).map fun k=>(w.cell? ⟨b,off+k,none⟩).getD Go.undef,fun w' hw'=> ?_,by simp[hfl],fun k hk=> ?_⟩
    ·simp only[Builtin.firstCells]
     refine run_loadCells w' _ _ _ fun j hj=> ?_
     rw[di,dh (w:=w) (by rw[hw'])];obtain⟨v,hv,_⟩:=hr j (by omega);rw[hM.heap.per _ _ _ hv];rfl
    ·obtain⟨v,hv,hrv⟩:=hr k hk
     have:((bE (len*n)).map fun k=>(w.cell? ⟨b,off+k,none⟩).getD Go.undef).getD k Go.undef=v:=by rw[aa];simp[show k<len*n from by omega,hM.heap.per _ _ _ hv]
     rw[this];exact hrv
   ·obtain⟨a,he⟩:=he
    simp only[Value.slice.injEq]at he;obtain⟨rfl,rfl,_⟩:=he;have:fl=[]:=dR.1 (by rw[<-hfl,h1,lj]);subst this;exact⟨[],fun w' _=>by cases bs<;>simp only[Builtin.firstCells,lj]<;>rfl,rfl,fun k hk=>by simp at hk⟩
  obtain⟨nc,hnc,hrun⟩:=jX (t:=t) (u:=u) (ty:=ty) (Y:=Y) hd hu hu2 hn hi hib hb0 hzr hlen hcells hos hc hroom
  let cv:Array Value:=os.toArray++ns.toArray++Builtin.zeroCells z.cells (nc-(len+m))
  have hcvs:cv.size=nc*n:=by
   have hzs:z.cells.size=n:=by rw[<-aS,hzc];exact hzl
   simp only[cv,Array.size_append,List.size_toArray,eu,hzs,hosl,hnl,<-hfl];rw[<-bB,<-bB];congr 1;omega
  have hGnew:∀o,x.G w.heap.size o=none:=by
   intro o;cases hg:x.G w.heap.size o with
   |none=>rfl
   |some v=>exact absurd (hM.heap.ltG hg) (by omega)
  have hle:=hM.heap.newD_le cv ((len+m)*n);have hH:cR C (x.newD w.heap.size cv ((len+m)*n)) s.ob s.tk (w.drew.alloc (.cells cv el (0,0))):=hM.heap.drew.allocD ((len+m)*n);have hown:eP (w.drew.alloc (.cells cv el (0,0))) w.heap.size cv el 0 0:=⟨dz (w:=w.drew),fun i _ h=>by omega⟩;refine⟨_,_,(x.newD w.heap.size cv ((len+m)*n)).newT d w.heap.size ((len+m)*n) (nc*n),nc,hrun,⟨?_,hM.defers, ?_⟩,⟨hsum,hnc,.inl ⟨_,0,rfl, ?_⟩⟩, ?_⟩
  ·exact cd.mono (x:=x) (x':=(x.newD w.heap.size cv ((len+m)*n)).newT d w.heap.size ((len+m)*n) (nc*n)) (lo:=d) (hi:=d+1) hle (fun _ _=>rfl) (Sit.newT_ne (x.newD w.heap.size cv ((len+m)*n)) d _ _ _) hM.tm
  ·refine(hH.sub (tk':=tok.eat s.tk) (nj.refl _) ?_).addT d w.heap.size _ _ (.inr ⟨⟨cv,el,0,0,hown,by omega⟩,hM.heap.new _ hM.heap.size,fun o h1 h2=> ?_⟩) (.inr fun p hp _=> ?_) (.inr fun u hu _=> ?_)
   ·intro u hu
    cases tok with
    |id t=>exact fT hu
    |_=>exact hu
   ·simp only[Sit.newD];rw[if_neg (by omega)];exact hGnew o
   ·obtain⟨⟨c2,e2,fl2,fh2,hO2,_⟩,_⟩:=hM.heap.obs p hp
    have:=hO2.lt;show w.heap.size≠(x.bk p.1).1;omega
   ·have hu':u∈s.tk:=by
     cases tok with
     |id t=>exact fT hu
     |_=>exact hu
    rcases hM.heap.tks u hu' with h|⟨⟨c2,e2,fl2,fh2,hO2,_⟩,_⟩
    ·exact .inr h
    ·have:=hO2.lt
     exact .inl (by show w.heap.size≠(x.τ u).1;omega)
  ·intro k hk
   have hkl:k<os.length+ns.length:=by rw[hosl,<-hnew.len,<-ac];exact hk
   have hcvk:cv[k]? =(os++ns)[k]? :=kd os ns _ k hkl;have hk2:k<(len+m)*n:=by rw[hsum];exact hk
   refine⟨(os++ns).getD k Go.undef, ?_, ?_⟩
   ·show(x.newD w.heap.size cv ((len+m)*n)).G w.heap.size (0+k)=_
    simp only[Sit.newD];rw[if_pos ⟨trivial,by omega⟩,bX,hcvk];have:k<(os++ns).length:=by rw[ac];exact hkl
    rw[ab this,aa,ab this];rfl
   ·refine cn.mono (G:=x.G) hle ?_
    by_cases hk1:k<fl.length
    ·have e1:(fl++fl').getD k .undef=fl.getD k .undef:=by simp only[aa,bQ hk1]
     have e2:(os++ns).getD k Go.undef=os.getD k Go.undef:=by simp only[aa,bQ (show k<os.length by omega)]
     rw[e1,e2];exact hosv k hk1
    ·have e1:(fl++fl').getD k .undef=fl'.getD (k-fl.length) .undef:=by simp only[aa,bU (Nat.le_of_not_lt hk1)]
     have e2:(os++ns).getD k Go.undef=ns.getD (k-fl.length) Go.undef:=by simp only[aa,bU (show os.length<=k by omega),hosl]
     rw[e1,e2];exact hnew.rep _ (by rw[ac]at hk;omega)
  ·exact⟨_,_,nc,rfl,.inr ⟨w.heap.size,0,rfl,by rw[Sit.newT_eq];simp⟩⟩
theorem iM(hM:aM C x s a w){u:SV}{Y:Value}{p:Prop}{l:List UInt8}(h:Rep x u Y)(hb:bytesOf s u=some (p,l))(hp:p):
 (∀w',w'.heap=w.heap->(Builtin.lenOf Y).run P w'= .ok l.length w')/\(∀m,m<=l.length->∀w',w'.heap=w.heap->(Builtin.firstCells 1 m Y).run P w'= .ok ((l.take m).map fun b=>Value.int .u8 b.toNat).toArray w'):=by
 have load:∀(b off m:Nat),m<=l.length->(∀i,i<l.length->w.cell? ⟨b,off+i,none⟩=some (.int .u8 (l.getD i 0).toNat))->∀w':World,w'.heap=w.heap->
  (loadCells ⟨b,off,none⟩ (m*1)).run P w'= .ok ((l.take m).map fun b=>Value.int .u8 b.toNat).toArray w':=by
  intro b off m hm hc w' hw';rw[run_loadCells w' _ _ (fun i=> .int .u8 (l.getD i 0).toNat) (fun j hj=>by rw[di,dh (w:=w) (by rw[hw'])];exact hc j (by omega))]
  congr 2
  apply List.ext_getElem?;intro i
  by_cases hi:i<m
  ·simp[hi,aa,show i<l.length from by omega]
  ·simp[hi];omega
 cases u with
 |byt l' t=>
  simp only[bytesOf,an.injEq,bn.injEq]at hb;obtain⟨rfl,rfl⟩:=hb;have hD:=h.data rfl;cases hY:Y with
  |slice ad n cp=>
   rw[hY]at hD;cases hD with
   |bytN=>exact⟨fun w' _=>rfl,fun m hm w' _=>by simp at hm;subst hm;rfl⟩
   |bytE=>exact⟨fun w' _=>rfl,fun m hm w' _=>by simp at hm;subst hm;rfl⟩
   |byt _ _ b off _ _ hn hc hg=>subst hn;exact⟨fun w' _=>rfl,fun m hm w' hw'=>by simp only[Builtin.firstCells];exact load b off m hm (fun i hi=>hM.heap.per _ _ _ (hg i hi)) w' hw'⟩
  |_=>rw[hY]at hD;cases hD
 |str l'=>simp only[bytesOf,an.injEq,bn.injEq]at hb;obtain⟨rfl,rfl⟩:=hb;rw[h.str_inv];refine⟨fun w' _=>by simp[Builtin.lenOf,ByteArray.size],fun m hm w' _=> ?_⟩;simp only[Builtin.firstCells,Ap,bj,aG];simp
 |psl o' sz off n cp=>
  simp only[bytesOf]at hb;split at hb<;>try (cases hb;done)
  rename_i l' hl;simp only[an.injEq,bn.injEq]at hb;obtain⟨rfl,rfl⟩:=hb;obtain⟨hp0,hp1⟩:=hp;obtain⟨cp,hnc,_,off',he',hoff⟩:=h.psl_inv;have hlen:((l'.drop off).take n).length=n:=by simp;omega
  rw[he'];refine⟨fun w' _=>by simp only[Builtin.lenOf,hlen];rfl,fun m hm w' hw'=> ?_⟩;simp only[Builtin.firstCells]
  by_cases hn:cp=0
  ·have:m=0:=by omega
   subst this;rfl
  ·have hoff':off'=off:=by
    rcases hoff with h|h
    ·omega
    ·rw[hp0,cX]at h;exact h
   subst hoff';refine load ((x.bk o').1) off' m hm (fun i hi=> ?_) w' hw';obtain⟨v,h2,h3⟩:=(eF hM hl).cell (k:=off'+i) (by simp only[aF.size];omega);rw[h2];have h4:cn x.G (.u8 (l'.getD (off'+i) 0)) v:=h3;cases h4;simp only[aa,bL,if_pos (show i<n by omega),bw]
 |_=>simp[bytesOf]at hb
theorem rC(l:List UInt8):New x (l.map fun b=>Value.int .u8 b.toNat) (l.map .u8):=by
 refine⟨by simp,fun k hk=> ?_,fun v hv=> ?_⟩
 ·rw[aP]at hk
  rw[iC _ _ hk]
  have:(l.map fun b=>Value.int .u8 b.toNat).getD k Go.undef= .int .u8 (l.getD k 0).toNat:=by simp only[aa,aQ];rw[ab hk];rfl
  rw[this];exact .u8 _
 ·obtain⟨b,_,rfl⟩:=aT.1 hv;rfl
theorem gO(hM:aM C x s a w){sz:Nat}{u:SV}{Y:Value}{p:Prop}{xs:List (List SV)}(h:Rep x u Y)(hb:jI s sz u=some (p,xs))(hp:p):
 (∀y∈xs,y.length=sz)/\(∀w',w'.heap=w.heap->(Builtin.lenOf Y).run P w'= .ok xs.length w')/\
 ∃ns:List Value,New x ns xs.flatten/\∀m,m<=xs.length->∀w',w'.heap=w.heap->(Builtin.firstCells sz m Y).run P w'= .ok (ns.take (m*sz)).toArray w':=by
 have gen:∀(b off:Nat),(∀y∈xs,y.length=sz)->(∀k,k<xs.flatten.length->∃v,w.cell? ⟨b,off+k,none⟩=some v/\cn x.G (xs.flatten.getD k .undef) v)->
  ∃ns:List Value,New x ns xs.flatten/\∀m,m<=xs.length->∀w',w'.heap=w.heap->(loadCells ⟨b,off,none⟩ (m*sz)).run P w'= .ok (ns.take (m*sz)).toArray w':=by
  intro b off hrows hc;refine⟨(bE xs.flatten.length).map fun k=>(w.cell? ⟨b,off+k,none⟩).getD Go.undef,⟨by simp,fun k hk=> ?_,fun v hv=> ?_⟩,fun m hm w' hw'=> ?_⟩
  ·obtain⟨v,hv,hr⟩:=hc k hk
   have:((bE xs.flatten.length).map fun k=>(w.cell? ⟨b,off+k,none⟩).getD Go.undef).getD k Go.undef=v:=by rw[aa,aQ,bV hk];simp[hv]
   rw[this];exact hr
  ·obtain⟨k,hk,rfl⟩:=aT.1 hv
   obtain⟨v,hv,hr⟩:=hc k (dy.1 hk);rw[hv];exact hr.oneCell
  ·have hle:m*sz<=xs.flatten.length:=by rw[bA hrows];exact bv _ hm
   rw[run_loadCells w' _ _ (fun k=>(w.cell? ⟨b,off+k,none⟩).getD Go.undef) (fun j hj=> ?_)]
   ·congr 2
    rw[<-List.map_take,List.take_range,gM hle]
   ·rw[di,dh (w:=w) (by rw[hw'])]
    obtain⟨v,hv,_⟩:=hc j (by omega);rw[hv];rfl
 cases u with
 |lst sz' xs' t=>
  simp only[jI,an.injEq,bn.injEq]at hb;obtain⟨rfl,rfl⟩:=hb;subst hp;obtain⟨cap,⟨h1,h2,h3⟩,_,hrows⟩:=pL (h.data rfl);refine⟨hrows, ?_⟩;rcases h3 with⟨b,off,rfl,hr⟩|⟨⟨ad,rfl⟩,h0,_⟩
  ·refine⟨fun w' _=>rfl, ?_⟩
   obtain⟨ns,g1,g2⟩:=gen b off hrows (fun k hk=>by obtain⟨v,hv,hrv⟩:=hr k hk;exact⟨v,hM.heap.per _ _ _ hv,hrv⟩)
   exact⟨ns,g1,fun m hm w' hw'=>by simp only[Builtin.firstCells];exact g2 m hm w' hw'⟩
  ·have:xs'=[]:=dR.1 h0
   subst this
   exact⟨fun w' _=>rfl,[],⟨rfl,fun k hk=>by simp at hk,fun v hv=>by simp at hv⟩,fun m hm w' _=>by
    have hm0:m=0:=by simpa using hm
    subst hm0;cases ad<;>simp only[Builtin.firstCells,lj]<;>rfl⟩
 |psl o' sz' off n cp=>
  simp only[jI]at hb;split at hb<;>try (cases hb;done)
  rename_i sz'' xs' hl;simp only[an.injEq,bn.injEq]at hb;obtain⟨rfl,rfl⟩:=hb;obtain⟨rfl,rfl,hp1,hp2⟩:=hp;have hrows:∀y∈(xs'.drop off).take n,y.length=sz:=fun y hy=>hp2 y (DG (b8 hy))
  obtain⟨cp,hnc,_,off',he',hoff⟩:=h.psl_inv;have hlen:((xs'.drop off).take n).length=n:=by simp;omega
  rw[he'];refine⟨hrows,fun w' _=>by simp only[Builtin.lenOf,hlen];rfl, ?_⟩
  by_cases hn:cp=0
  ·have hn0:n=0:=by omega
   subst hn0
   exact⟨[],⟨by simp,fun k hk=>by simp at hk,fun v hv=>by simp at hv⟩,fun m hm w' _=>by simp at hm;subst hm;simp[Builtin.firstCells,loadCells,loadCellsFrom]⟩
  ·have hoff':off'=off*sz:=hoff.resolve_left hn
   obtain⟨ns,g1,g2⟩:=gen ((x.bk o').1) off' hrows (fun k hk=>by
    rw[bA hrows,hlen]at hk
    have hk2:off*sz+k<xs'.length*sz:=by have:=bv sz hp1;rw[bB]at this;omega
    obtain⟨v,h2,h3⟩:=(eF hM hl).cell (k:=off*sz+k) (by simp only[aF.size];exact hk2);refine⟨v,by rw[hoff'];exact h2, ?_⟩;have h4:cn x.G ((xs'.getD ((off*sz+k)/sz) []).getD ((off*sz+k) % sz) .undef) v:=h3
    have hsz:0<sz:=by
     rcases gb sz with h0|h0
     ·subst h0;omega
     ·exact h0
    rw[cB _ hrows k (by rw[hlen];exact hk)];rw[cz off sz,Nat.mul_add_div hsz,Nat.mul_add_mod]at h4;have hd:k/sz<n:=Nat.div_lt_of_lt_mul (by rw[cz];exact hk)
    have e1:((xs'.drop off).take n).getD (k/sz) []=xs'.getD (off+k/sz) []:=by simp only[aa,bL,if_pos hd,bw]
    rw[e1];exact h4)
   exact⟨ns,g1,fun m hm w' hw'=>by simp only[Builtin.firstCells];exact g2 m hm w' hw'⟩
 |_=>simp[jI]at hb
theorem xT(hM:aM C x s a w){cl:Call}(ho:o.op= .call cl)(hb:cl.callee= .builtin .append)(hr:br P o=some so)(he:eff s o.dst so=some e)(hp:e.pre):bW P C o a w (s.app o.dst e):=by
 simp only[br,ho,hb]at hr;split at hr<;>try (cases hr;done)
 rename_i X Y t u hX ht;split at hr<;>try (cases hr;done)
 rename_i el d2 r q hd hu hra hrb;split at hr<;>try (cases hr;done)
 rename_i n by_ z hn hby hz;rw[aJ]at hr;obtain⟨hcond,hr⟩:=hr;simp only[aB,decide_eq_true_eq]at hcond;obtain⟨⟨hb0,hn0⟩,hzl'⟩:=hcond;obtain⟨zs,hzc,hzl0,_⟩:=jk hz;have hzl:zs.length=n:=by omega
 have hu2:((∃e',d2= .slice e')\/d2= .string)/\so= .app z by_ r q:=by
  split at hr<;>try (cases hr;done)
  ·cases hr;exact⟨.inl ⟨_,rfl⟩,rfl⟩
  ·rw[aJ]at hr
   obtain⟨_,hr⟩:=hr;cases hr;exact⟨.inr rfl,rfl⟩
  ·cases hr;cases he
 obtain⟨hu2,rfl⟩:=hu2;have h1:=aL hM hra;have h2:=aL hM hrb;have ea:cl.args= #[X,Y]:=by apply dJ;simpa using hX
 have et:cl.argTypes= #[t,u]:=by apply dJ;simpa using ht
 have hex:=fu (a:=a) ho hb _ rfl;rw[ea,et]at hex;have em: #[X,Y].map a.eval= #[a.eval X,a.eval Y]:=by simp
 rw[em]at hex;simp only[eff]at he;split at he<;>try (cases he;done)
 rename_i d hdst
 have fin:∀{v w' x'}{c:SV},(Builtin.append_ #[t,u] o.type #[a.eval X,a.eval Y]).run P w= .ok v w'->∀{tk:Tok},aM C x' (s.grew tk (d+100)) a w'->Rep x' c v->bW P C o a w ((s.grew tk (d+100)).put o.dst c):=by intro v w' x' c hrun tk hM' hc;exact⟨v,w',x',.value v,by rw[hex];simp[hrun],.inl rfl,hM'.put o.dst hc⟩
 cases hu':s.ev r with
 |byt l tk=>
  rw[hu']at he h1
  try simp only at he
  split at he<;>try (cases he;done)
  rename_i p l' hl';cases he;obtain⟨hp0,hz1,rfl,htk,hroom⟩:=hp;obtain rfl:n=1:=by omega
  obtain⟨g1,g2⟩:=iM (P:=P) hM h2 hl' hp0;obtain⟨_,_,_,_,_,hsp⟩:=h1.byt_inv;obtain⟨cap,hF,_⟩:=vS (h1.data rfl)
  obtain⟨v,w',x',cap',hrun,hM',hF',hsp'⟩:=ow (ty:=o.type) hM hd hu hu2 hn hby hzc hb0 hn0 hzl hF htk hsp g1 (fun w' hw'=>by have:=g2 l'.length (aH _) w' hw';rwa[cK]at this) (by simp) (rC l') (by omega) (d+100)
  simp only[St.app];have hd':o.dst.getD 0=d:=by rw[hdst];rfl
  rw[hd'];refine fin hrun hM' (.dat _ _ (Gs (cap:=cap') ?_) hsp');rw[ac,ct];exact hF'
 |lst sz' l tk=>
  rw[hu']at he h1
  try simp only at he
  split at he<;>try (cases he;done)
  rename_i p l' hl';cases he;obtain⟨hp0,rfl,htk,hroom⟩:=hp;obtain rfl:n=z.length:=by omega
  obtain⟨hrows',g1,ns,hnew,g2⟩:=gO (P:=P) hM h2 hl' hp0;obtain⟨_,_,_,_,_,hsp⟩:=h1.lst_inv;obtain⟨cap,hF,_,hrows⟩:=pL (h1.data rfl);have hnl:ns.length=l'.length*z.length:=by rw[<-hnew.len,bA hrows']
  obtain⟨v,w',x',cap',hrun,hM',hF',hsp'⟩:=ow (ty:=o.type) hM hd hu hu2 hn hby hzc hb0 hn0 hzl hF htk hsp g1 (fun w' hw'=>by have:=g2 l'.length (aH _) w' hw';rwa[<-hnl,cK]at this) hnl hnew hroom (d+100)
  simp only[St.app];have hd':o.dst.getD 0=d:=by rw[hdst];rfl
  rw[hd'];refine fin hrun hM' (.dat _ _ (FS (cap:=cap') ?_ ?_) hsp')
  ·rw[ac,bM];exact hF'
  ·intro y hy
   rcases al.1 hy with hy|hy
   ·exact hrows y hy
   ·exact hrows' y hy
 |_=>rw[hu']at he;simp at he
end Go.Sy
namespace Go.Sy
variable [aZ]
variable {P : Program} {C : Ctx} {x : Sit} {s : St} {a : Act} {w : World} {o : Oper} {so : SOp} {e : Eff}
theorem aM.write(hM:aM C x s a w){d off:Nat}{obj obj':aF}(hl:s.look d=some obj){vs:List Value}(hb:off+vs.length<=obj.size)(hsz:obj'.size=obj.size)
 (hnew:∀c:Array Value,(∀k,k<obj.size->bZ x obj k (c.getD k Go.undef))->∀k,k<obj.size->bZ x obj' k (if off<=k/\k<off+vs.length then vs.getD (k-off) Go.undef else c.getD k Go.undef)) (harr:obj'.arrB=obj.arrB:=by rfl):
 aM C x (s.setO d obj') a (cw w ((x.bk d).1) off vs)/\((∀v∈vs,v.oneCell'=true)->∀w':World,w'=w->(storeCells ⟨(x.bk d).1,off,none⟩ vs).run P w'= .ok () (cw w ((x.bk d).1) off vs)):=by
 obtain⟨c,e,fl,fh,hO,⟨hs,hs2,hs3⟩,hr⟩:=eF hM hl;obtain⟨g1,g2,g3,g4,g5⟩:=fR ((x.bk d).1) vs w off;obtain⟨c',hO',hcs,hck⟩:=fg vs w off c hO (by omega);refine⟨⟨hM.tm,hM.defers,hM.heap.block (cS hl) g1 g2 g3 g4 g5 ⟨c',e,fl,fh,hO',⟨by omega,by omega,fun h=>by rw[hcs];exact hs3 (harr ▸ h)⟩,fun k hk=> ?_⟩⟩, ?_⟩
 ·rw[hck k]
  exact hnew c hr k (by omega)
 ·rintro hone w' rfl
  exact fe off vs w' c 0 hO (by omega) hone
theorem u7{t u el:TypeId}{n m k:Nat}{ty:TypeId}{bs:Addr}{cap:Nat}{Y:Value}{vs:List Value}{w1:World}(hd:P.underlying t=some (.slice el))(hn:eW P el=some n)
 (hlen:(Builtin.lenOf Y).run P w= .ok m w) (hcells:(Builtin.firstCells n (min m k) Y).run P w= .ok vs.toArray w) (hst:(storeCells bs vs).run P w= .ok () w1):
 (Builtin.copy_ #[t,u] ty #[.slice (some bs) k cap,Y]).run P w= .ok (.int .i64 (min m k:Nat)) w1:=by
 have e:(#[t,u]:Array TypeId)[0]? =some t:=rfl;have e2:(#[Value.slice (some bs) k cap,Y]:Array Value)[0]? =some (.slice (some bs) k cap):=rfl;have e3:(#[Value.slice (some bs) k cap,Y]:Array Value)[1]? =some Y:=rfl;have hc':(Builtin.firstCells n (Nat.min m k) Y).run P w= .ok vs.toArray w:=hcells;simp only[Builtin.copy_,e,e2,e3,aA,run_underlying hd,am,cJ hn,hlen,hc',hst,aG,goInt]
theorem Ge(hM:aM C x s a w){cl:Call}(ho:o.op= .call cl)(hb:cl.callee= .builtin .copy)(hr:br P o=some so)(he:eff s o.dst so=some e)(hp:e.pre):bW P C o a w (s.app o.dst e):=by
 simp only[br,ho,hb]at hr;split at hr<;>try (cases hr;done)
 rename_i X Y t u hX ht;split at hr<;>try (cases hr;done)
 rename_i el r q hd hra hrb;split at hr<;>try (cases hr;done)
 rename_i n hn;cases hr;have h1:=aL hM hra;have h2:=aL hM hrb;have ea:cl.args= #[X,Y]:=by apply dJ;simpa using hX
 have et:cl.argTypes= #[t,u]:=by apply dJ;simpa using ht
 have hex:=fu (a:=a) ho hb _ rfl;rw[ea,et]at hex;have em: #[X,Y].map a.eval= #[a.eval X,a.eval Y]:=by simp
 rw[em]at hex;simp only[eff]at he;cases hu:s.ev r with
 |psl d sz' off k cap=>
  rw[hu]at he h1;obtain⟨cap,hkc,_,off',hXe,hoff⟩:=h1.psl_inv
  try simp only at he
  split at he<;>try (cases he;done)
  ·rename_i l hl
   split at he<;>try (cases he;done)
   rename_i p l' hl';cases he;obtain⟨hp0,rfl,rfl,hbd⟩:=hp;obtain⟨g1,g2⟩:=iM (P:=P) hM h2 hl' hp0;have hvl:((l'.take (min l'.length k)).map fun b=>Value.int .u8 b.toNat).length=min l'.length k:=by simp
   have etk:l'.take (min l'.length k)=l'.take k:=by rw[Nat.min_comm,<-List.take_take];simp
   have hoff':min l'.length k=0\/off'=off:=by
    rcases hoff with h|h
    ·left;omega
    ·right;rw[cX]at h;exact h
   have hlk:(l'.take k).length=min l'.length k:=by simp;omega
   simp only[St.app]
   obtain⟨
    hM',hst⟩:=hM.write (P:=P) (off:=off) (vs:=(l'.take (min l'.length k)).map fun b=>Value.int .u8 b.toNat) (obj':= .bar (l.take off++l'.take k++l.drop (off+(l'.take k).length))) hl (by simp only[aF.size,hvl];omega)
    (by simp only[aF.size,ac,ax,aI];omega) (by
     intro c hc i hi;have:=hc i hi;simp only[bZ,aF.cell,aF.size]at this hi ⊢;have hsp:=fP l (l'.take k) off i (by rw[hlk];omega);rw[hvl]
     have e1:(l.take off++l'.take k++l.drop (off+(l'.take k).length)).getD i 0=if off<=i/\i<off+min l'.length k then(l'.take k).getD (i-off) 0 else l.getD i 0:=by simp only[aa];rw[hsp,hlk];split<;>rfl
     rw[e1];split
     ·rename_i hin
      rw[etk]
      have e2:((l'.take k).map fun b=>Value.int .u8 b.toNat).getD (i-off) Go.undef= .int .u8 ((l'.take k).getD (i-off) 0).toNat:=by simp only[aa,aQ];rw[ab (by rw[hlk];omega)];rfl
      rw[e2];exact .u8 _
     ·exact this)
   refine⟨.int .i64 (min l'.length k:Nat),_,x,.value _, ?_,.inl rfl,aM.put hM' o.dst (cH _ _)⟩;rw[hex,hXe]
   have hcp:=u7 (P:=P) (w:=w) (t:=t) (u:=u) (ty:=o.type) (bs:=⟨(x.bk d).1,off',none⟩) (cap:=cap) (w1:=cw w ((x.bk d).1) off ((l'.take (min l'.length k)).map fun b=>Value.int .u8 b.toNat)) hd hn (g1 w rfl) (g2 _ (Nat.min_le_left _ _) w rfl) (by
    rcases hoff' with h|h
    ·rw[h];rfl
    ·rw[h];exact hst (fun v hv=>by obtain⟨_,_,rfl⟩:=aT.1 hv;rfl) w rfl)
   simp[hcp]
  ·rename_i sz'' xs hl
   split at he<;>try (cases he;done)
   rename_i p l' hl';cases he;obtain⟨hp0,rfl,rfl,hbd,hrows⟩:=hp;obtain⟨hrows',g1,ns,hnew,g2⟩:=gO (P:=P) hM h2 hl' hp0;have hnl:ns.length=l'.length*n:=by rw[<-hnew.len,bA hrows']
   have hmk:(min l'.length k)*n<=ns.length:=by rw[hnl];exact bv _ (Nat.min_le_left _ _)
   have hvl:(ns.take (min l'.length k*n)).length=min l'.length k*n:=by rw[ax,gM hmk]
   have hlk:(l'.take k).length=min l'.length k:=by simp;omega
   have hrowsk:∀y∈l'.take k,y.length=n:=fun y hy=>hrows' y (b8 hy)
   have hflk:(l'.take k).flatten.length=min l'.length k*n:=by rw[bA hrowsk,hlk]
   have hoff':min l'.length k=0\/off'=off*n:=by
    rcases hoff with h|h
    ·left;omega
    ·right;exact h
   have hbnd:off*n+min l'.length k*n<=xs.length*n:=by rw[<-bB];exact bv _ (by omega)
   have hrowsnew:∀y∈xs.take off++l'.take k++xs.drop (off+(l'.take k).length),y.length=n:=by
    intro y hy;rcases al.1 hy with hy|hy
    ·rcases al.1 hy with hy|hy
     ·exact hrows y (b8 hy)
     ·exact hrowsk y hy
    ·exact hrows y (DG hy)
   have hlnew:(xs.take off++l'.take k++xs.drop (off+(l'.take k).length)).length=xs.length:=by simp only[ac,ax,aI];omega
   simp only[St.app]
   obtain⟨
    hM',hst⟩:=hM.write (P:=P) (off:=off*n) (vs:=ns.take (min l'.length k*n)) (obj':= .arr n (xs.take off++l'.take k++xs.drop (off+(l'.take k).length))) hl (by simp only[aF.size,hvl];exact hbnd)
    (by simp only[aF.size];rw[hlnew]) (by
     intro c hc i hi;have:=hc i hi;simp only[bZ,aF.cell,aF.size]at this hi ⊢;rw[<-cB _ hrowsnew i (by rw[hlnew];exact hi)];rw[<-cB _ hrows i hi]at this;rw[bM,bM,hvl];have ef:xs.flatten=(xs.take off).flatten++(xs.drop off).flatten:=by rw[<-bM,yc]
     have l1:(xs.take off).flatten.length=off*n:=by rw[bA (fun y hy=>hrows y (b8 hy)),ax,gM (by omega)]
     have e1:xs.flatten.take (off*n)=(xs.take off).flatten:=by rw[ef,List.take_append_of_le_length (by rw[l1];exact aH _),aO (by rw[l1];exact aH _)]
     have e2:xs.flatten.drop (off*n+min l'.length k*n)=(xs.drop (off+(l'.take k).length)).flatten:=by
      have ef2:xs.flatten=(xs.take (off+(l'.take k).length)).flatten++(xs.drop (off+(l'.take k).length)).flatten:=by rw[<-bM,yc]
      have l2:(xs.take (off+(l'.take k).length)).flatten.length=off*n+min l'.length k*n:=by rw[bA (fun y hy=>hrows y (b8 hy)),ax,hlk,gM (by omega),bB]
      rw[ef2,List.drop_append,l2,Nat.sub_self,bj,bN (by rw[l2];exact aH _),az]
     rw[<-e1,<-e2,<-hflk];have hsp:=fP xs.flatten (l'.take k).flatten (off*n) i (by rw[hflk,bA hrows];exact hbnd);rw[aa,hsp];split
     ·rename_i hin
      rw[<-aa];have hlt:i-off*n<(l'.take k).flatten.length:=by omega
      have hfl:(l'.take k).flatten.getD (i-off*n) .undef=l'.flatten.getD (i-off*n) .undef:=by
       have ef3:l'.flatten=(l'.take k).flatten++(l'.drop k).flatten:=by rw[<-bM,yc]
       rw[ef3];simp only[aa];rw[bQ hlt]
      rw[hfl]
      have e3:(ns.take (min l'.length k*n)).getD (i-off*n) Go.undef=ns.getD (i-off*n) Go.undef:=by simp only[aa,bL];rw[if_pos (by omega)]
      rw[<-hflk]at e3;rw[e3];exact hnew.rep _ (by rw[hnew.len];omega)
     ·rw[<-aa];exact this)
   refine⟨.int .i64 (min l'.length k:Nat),_,x,.value _, ?_,.inl rfl,aM.put hM' o.dst (cH _ _)⟩;rw[hex,hXe]
   have hcp:=u7 (P:=P) (w:=w) (t:=t) (u:=u) (ty:=o.type) (bs:=⟨(x.bk d).1,off',none⟩) (cap:=cap) (w1:=cw w ((x.bk d).1) (off*n) (ns.take (min l'.length k*n))) hd hn (g1 w rfl) (g2 _ (Nat.min_le_left _ _) w rfl) (by
    rcases hoff' with h|h
    ·rw[h];simp[storeCells,cw]
    ·rw[h];exact hst (fun v hv=>hnew.one v (b8 hv)) w rfl)
   simp[hcp]
 |_=>rw[hu]at he;simp at he
theorem aM.writeRows(hM:aM C x s a w){d n off:Nat}{xs l':List (List SV)}{ns:List Value}(hl:s.look d=some (.arr n xs))(hrows:∀y∈xs,y.length=n)(hrows':∀y∈l',y.length=n)
 (hbd:off+l'.length<=xs.length) (hnew:New x ns l'.flatten):
 aM C x (s.setO d (.arr n (xs.take off++l'++xs.drop (off+l'.length)))) a (cw w ((x.bk d).1) (off*n) ns)/\(storeCells ⟨(x.bk d).1,off*n,none⟩ ns).run P w= .ok () (cw w ((x.bk d).1) (off*n) ns):=by
 have hnl:ns.length=l'.length*n:=by rw[<-hnew.len,bA hrows']
 have hbnd:off*n+l'.length*n<=xs.length*n:=by rw[<-bB];exact bv _ hbd
 have hrowsnew:∀y∈xs.take off++l'++xs.drop (off+l'.length),y.length=n:=by
  intro y hy;rcases al.1 hy with hy|hy
  ·rcases al.1 hy with hy|hy
   ·exact hrows y (b8 hy)
   ·exact hrows' y hy
  ·exact hrows y (DG hy)
 have hlnew:(xs.take off++l'++xs.drop (off+l'.length)).length=xs.length:=by simp only[ac,ax,aI];omega
 obtain⟨
  hM',hst⟩:=hM.write (P:=P) (off:=off*n) (vs:=ns) (obj':= .arr n (xs.take off++l'++xs.drop (off+l'.length))) hl (by simp only[aF.size,hnl];exact hbnd)
  (by simp only[aF.size];rw[hlnew]) (by
   intro c hc i hi;have:=hc i hi;simp only[bZ,aF.cell,aF.size]at this hi ⊢;rw[<-cB _ hrowsnew i (by rw[hlnew];exact hi)];rw[<-cB _ hrows i hi]at this;rw[bM,bM,hnl];have ef:xs.flatten=(xs.take off).flatten++(xs.drop off).flatten:=by rw[<-bM,yc]
   have l1:(xs.take off).flatten.length=off*n:=by rw[bA (fun y hy=>hrows y (b8 hy)),ax,gM (by omega)]
   have e1:xs.flatten.take (off*n)=(xs.take off).flatten:=by rw[ef,List.take_append_of_le_length (by rw[l1];exact aH _),aO (by rw[l1];exact aH _)]
   have hflk:l'.flatten.length=l'.length*n:=bA hrows'
   have e2:xs.flatten.drop (off*n+l'.length*n)=(xs.drop (off+l'.length)).flatten:=by
    have ef2:xs.flatten=(xs.take (off+l'.length)).flatten++(xs.drop (off+l'.length)).flatten:=by rw[<-bM,yc]
    have l2:(xs.take (off+l'.length)).flatten.length=off*n+l'.length*n:=by rw[bA (fun y hy=>hrows y (b8 hy)),ax,gM (by omega),bB]
    rw[ef2,List.drop_append,l2,Nat.sub_self,bj,bN (by rw[l2];exact aH _),az]
   rw[<-e1,<-e2,<-hflk];have hsp:=fP xs.flatten l'.flatten (off*n) i (by rw[hflk,bA hrows];exact hbnd);rw[aa,hsp];split
   ·rename_i hin
    rw[<-aa];exact hnew.rep _ (by omega)
   ·rw[<-aa];exact this)
 exact⟨hM',hst hnew.one w rfl⟩
theorem C7{zs:List Value}{z:List SV}{zc:Array Value}(hzc:zc.toList=zs)(hl:z.length=zs.length)(hz:∀(G:GM) i,i<z.length->cn G (z.getD i .undef) (zs.getD i Go.undef))(n:Nat):
 New x (Builtin.zeroCells zc n).toList (aE n z).flatten:=by
 have hzs:zc.size=z.length:=by rw[<-aS,hzc,hl]
 have hrows:∀y∈aE n z,y.length=z.length:=fun y hy=>by rw[(List.mem_replicate.1 hy).2]
 have hfl:(aE n z).flatten.length=n*z.length:=by rw[bA hrows,dI]
 have hget:∀i,i<n*z.length->(Builtin.zeroCells zc n).toList.getD i Go.undef=zs.getD (i % z.length) Go.undef:=by
  intro i hi
  have hpos:0<z.length:=by
   rcases gb z.length with h|h
   ·rw[h]at hi;omega
   ·exact h
  have hlt:i % zc.size<zc.size:=Nat.mod_lt _ (by omega);rw[aa,Builtin.zeroCells];simp only[Array.toList_map,Array.toList_range,aQ];rw[bV (by rw[hzs];exact hi)];simp only[bo,aY];rw[getElem!_pos zc _ hlt,<-hzc,aa,<-hzs,ab (by simpa using hlt)];simp
 refine⟨by rw[hfl];simp[eu,hzs],fun i hi=> ?_,fun v hv=> ?_⟩
 ·rw[hfl]at hi
  have hpos:0<z.length:=by
   rcases gb z.length with h|h
   ·rw[h]at hi;omega
   ·exact h
  rw[hget i hi,cB _ hrows i (by simpa using hi),fi _ _ _ _ (Nat.div_lt_of_lt_mul (by rw[cz];exact hi))];exact hz _ _ (Nat.mod_lt _ hpos)
 ·obtain⟨i,hi,rfl⟩:=List.mem_iff_getElem.1 hv
  have hi':i<n*z.length:=by simpa[eu,hzs]using hi
  have hpos:0<z.length:=by
   rcases gb z.length with h|h
   ·rw[h]at hi';omega
   ·exact h
  have h1:=hget i hi';rw[aa,ab hi,aY]at h1;rw[h1];exact(hz (fun _ _=>none) _ (Nat.mod_lt _ hpos)).oneCell
theorem Dw(hM:aM C x s a w){cl:Call}(ho:o.op= .call cl)(hb:cl.callee= .builtin .clear)(hr:br P o=some so)(he:eff s o.dst so=some e)(hp:e.pre):bW P C o a w (s.app o.dst e):=by
 simp only[br,ho,hb]at hr;split at hr<;>try (cases hr;done)
 rename_i X t hX ht;split at hr<;>try (cases hr;done)
 rename_i el r hd hra;split at hr<;>try (cases hr;done)
 rename_i z hz;cases hr;have h1:=aL hM hra;have ea:cl.args= #[X]:=by apply dJ;simpa using hX
 have et:cl.argTypes= #[t]:=by apply dJ;simpa using ht
 have hex:=fu (a:=a) ho hb _ rfl;rw[ea,et]at hex;have em: #[X].map a.eval= #[a.eval X]:=by simp
 rw[em]at hex;simp only[eff]at he;cases hu:s.ev r with
 |psl d sz' off k cap=>
  rw[hu]at he h1;obtain⟨cap,hkc,_,off',hXe,hoff⟩:=h1.psl_inv
  try simp only at he
  split at he<;>try (cases he;done)
  rename_i sz'' xs hl;cases he;obtain⟨hk0,rfl,rfl,hbd,hrows⟩:=hp
  have hoff':off'=off*z.length:=by
   rcases hoff with h|h
   ·omega
   ·exact h
  subst hoff';obtain⟨zs,hzc0,hzl,hzr⟩:=mU hz;obtain⟨zv,hzc,hzrun⟩:=cM hzc0;have hnew:=C7 (x:=x) hzc hzl hzr k;have hrep:∀y∈aE k z,y.length=z.length:=fun y hy=>by rw[(List.mem_replicate.1 hy).2]
  obtain⟨hM',hst⟩:=hM.writeRows (P:=P) (off:=off) hl hrows hrep (by simpa using hbd) hnew;rw[dI]at hM';simp only[St.app];refine⟨.tuple #[],_,x,.value _, ?_,.inl rfl,aM.put hM' o.dst (.tup [] [] rfl fun i hi=>by simp at hi)⟩;rw[hex,hXe]
  have hcl:(Builtin.clear_ #[t] o.type #[.slice (some ⟨(x.bk d).1,off*z.length,none⟩) k cap]).run P w= .ok (.tuple #[]) (cw w ((x.bk d).1) (off*z.length) (Builtin.zeroCells zv.cells k).toList):=by have e1:(#[t]:Array TypeId)[0]? =some t:=rfl;have e2:(#[Value.slice (some ⟨(x.bk d).1,off*z.length,none⟩) k cap]:Array Value)[0]? =some (.slice (some ⟨(x.bk d).1,off*z.length,none⟩) k cap):=rfl;obtain⟨k',rfl⟩:∃k',k=k'+1:=⟨k-1,by omega⟩;simp only[Builtin.clear_,e1,e2,aA,run_underlying hd,am,hzrun,hst,aG]
  simp[hcl]
 |_=>rw[hu]at he;simp at he
theorem Dv(hM:aM C x s a w)(hr:br P o=some so)(hno:∀q r,so≠ .ovl q r)(he:eff s o.dst so=some e)(hp:e.pre):bW P C o a w (s.app o.dst e):=by
 have viaVal:(∀{p c},val s so=some (p,c)->p->bW P C o a w (s.put o.dst c))->(∀d,eff s d so=match val s so with|some (p,v)=>some {pre:=p,val:=v}|none=>none)->bW P C o a w (s.app o.dst e):=by
  intro h1 h2;rw[h2]at he;cases hv:val s so with
  |none=>simp[hv]at he
  |some pc=>obtain⟨p,c⟩:=pc;simp only[hv,an.injEq]at he;subst he;exact h1 hv hp
 cases ho:o.op with
 |move X=>exact viaVal (fun hv _=>uO hM (.inl ho) hr hv) (by simp only[br,ho]at hr;obtain⟨_,_,rfl⟩:=ae.1 hr;intro d;rfl)
 |assign X=>exact viaVal (fun hv _=>uO hM (.inr ho) hr hv) (by simp only[br,ho]at hr;obtain⟨_,_,rfl⟩:=ae.1 hr;intro d;rfl)
 |pick c X Y=>
  exfalso;simp only[br,ho]at hr;split at hr<;>try (cases hr;done)
  cases hr;simp[eff]at he
 |alloc t=>exact Dx hM ho hr he
 |box t X=>exact Sd hM ho hr he
 |build t ps=>exact viaVal (fun hv _=>Cu hM ho hr hv) (by
  simp only[br,ho]at hr;split at hr<;>try (cases hr;done)
  ·split at hr<;>try (cases hr;done)
   obtain⟨_,_,rfl⟩:=ae.1 hr;intro d;rfl
  ·split at hr<;>try (cases hr;done)
   obtain⟨_,_,rfl⟩:=ae.1 hr;intro d;rfl)
 |buildSlice t n ps=>exact viaVal (fun hv _=>oc hM ho hr hv) (by
  simp only[br,ho]at hr;split at hr<;>try (cases hr;done)
  split at hr<;>try (cases hr;done)
  split at hr<;>try (cases hr;done)
  obtain⟨_,_,rfl⟩:=ae.1 hr;intro d;split<;>rfl)
 |load t X=>exact viaVal (fun hv hp=>EJ hM ho hr hv hp) (by
  simp only[br,ho]at hr;split at hr<;>try (cases hr;done)
  split at hr<;>try (cases hr;done)
  cases hr;intro d;rfl)
 |store t X Y=>exact Du hM ho hr he hp
 |nilCheck X=>exact viaVal (fun hv _=>sj hM ho hr hv) (by simp only[br,ho]at hr;obtain⟨_,_,rfl⟩:=ae.1 hr;intro d;rfl)
 |binOp op t X Y u=>
  by_cases hns:∃ne ts q r,so= .eqS ne ts q r
  ·obtain⟨ne,ts,q,r,rfl⟩:=hns
   exact viaVal (fun hv _=>PM hM ho hr hv) (fun _=>rfl)
  ·exact viaVal (fun hv hp=>Cv hM ho hr (fun ne ts q r e=>hns ⟨ne,ts,q,r,e⟩) hv hp) (by
    simp only[br,ho]at hr;split at hr<;>try (cases hr;done)
    ·split at hr<;>try (cases hr;done)
     all_goals (cases hr;intro d;rfl)
    ·cases hr;intro d;rfl
    ·cases hr;intro d;rfl
    ·split at hr<;>try (cases hr;done)
     split at hr<;>try (cases hr;done)
     split at hr<;>first|(cases hr;done)|(cases hr;intro d;rfl)
    ·split at hr<;>first|(cases hr;done)|(cases hr;simp[eff]at he)
    ·split at hr<;>first|(cases hr;done)|(cases hr;intro d;rfl))
 |unOp op t X=>exact viaVal (fun hv _=>EI hM ho hr hv) (by simp only[br,ho]at hr;obtain⟨_,_,rfl⟩:=ae.1 hr;intro d;rfl)
 |convert t u X=>exact viaVal (fun hv hp=>uF hM ho hr hv hp) (by
  simp only[br,ho]at hr;split at hr<;>try (cases hr;done)
  ·cases hr;intro d;rfl
  ·cases hr;intro d;rfl
  ·split at hr<;>try (cases hr;done)
   cases hr;intro d;rfl
  ·split at hr<;>try (cases hr;done)
   cases hr;intro d;rfl
  ·split at hr<;>try (cases hr;done)
   cases hr;intro d;rfl)
 |makeFunc f X Y=>exact viaVal (fun hv _=>sk hM ho hr hv) (by
  cases f<;>simp only[br,ho,reduceCtorEq]at hr;split at hr<;>try (cases hr;done)
  cases hr;intro d;rfl)
 |makeSlice t X Y=>exact qB hM ho hr he hp
 |slice t X lo hi mx=>exact viaVal (fun hv hp=>Cr hM ho hr hv hp) (by
  simp only[br,ho]at hr;split at hr<;>try (cases hr;done)
  split at hr
  ·cases hr
  split at hr<;>try (cases hr;done)
  ·split at hr<;>try (cases hr;done)
   cases hr;intro d;rfl
  ·split at hr<;>try (cases hr;done)
   cases hr;intro d;rfl
  ·split at hr<;>try (cases hr;done)
   cases hr;intro d;rfl)
 |fieldAddr t X i=>exact viaVal (fun hv _=>pW hM ho hr hv) (by
  simp only[br,ho]at hr;split at hr<;>try (cases hr;done)
  split at hr<;>try (cases hr;done)
  split at hr<;>try (cases hr;done)
  split at hr
  ·cases hr
  cases hr;intro d;rfl)
 |field t X i=>exact viaVal (fun hv hp=>Ct hM ho hr hv hp) (by
  simp only[br,ho]at hr;split at hr<;>try (cases hr;done)
  split at hr<;>try (cases hr;done)
  split at hr<;>try (cases hr;done)
  split at hr<;>try (cases hr;done)
  cases hr;intro d;rfl)
 |indexAddr t X Y=>exact viaVal (fun hv hp=>pV hM ho hr hv hp) (by
  simp only[br,ho]at hr;split at hr<;>try (cases hr;done)
  ·split at hr<;>try (cases hr;done)
   cases hr;intro d;rfl
  ·split at hr<;>try (cases hr;done)
   cases hr;intro d;rfl)
 |index t X Y=>exact viaVal (fun hv hp=>Cs hM ho hr hv hp) (by
  simp only[br,ho]at hr;split at hr<;>try (cases hr;done)
  ·split at hr<;>try (cases hr;done)
   split at hr<;>try (cases hr;done)
   cases hr;intro d;rfl
  ·cases hr;intro d;rfl)
 |extract X i=>exact viaVal (fun hv hp=>uE hM ho hr hv hp) (by simp only[br,ho]at hr;obtain⟨_,_,rfl⟩:=ae.1 hr;intro d;rfl)
 |call cl=>
  cases hb:cl.callee with
  |invoke r m=>simp[br,ho,hb]at hr
  |value f=>
   exfalso;simp only[br,ho,hb]at hr;split at hr<;>try (cases hr;done)
   split at hr<;>try (cases hr;done)
   split at hr
   ·split at hr
    ·cases hr;exact hno _ _ rfl
    ·cases hr;simp[eff]at he
   ·cases hr;simp[eff]at he
  |builtin b=>
   cases b with
   |append=>exact xT hM ho hb hr he hp
   |copy=>exact Ge hM ho hb hr he hp
   |clear=>exact Dw hM ho hb hr he hp
   |cap=>exact viaVal (fun hv _=>PN hM ho hb hr hv) (by
    simp only[br,ho,hb]at hr;split at hr<;>try (cases hr;done)
    split at hr<;>try (cases hr;done)
    cases hr;intro d;rfl)
   |len=>exact viaVal (fun hv _=>PL hM ho hb hr hv) (by
    simp only[br,ho,hb]at hr;split at hr<;>try (cases hr;done)
    split at hr<;>try (cases hr;done)
    ·cases hr;intro d;rfl
    ·cases hr;intro d;rfl
    ·cases hr;intro d;rfl
    ·split at hr<;>try (cases hr;done)
     cases hr;intro d;rfl)
   |min=>exact viaVal (fun hv _=>og hM ho (.inl hb) hr hv) (by
    simp only[br,ho,hb]at hr;split at hr<;>try (cases hr;done)
    split at hr<;>try (cases hr;done)
    cases hr;intro d;rfl)
   |max=>exact viaVal (fun hv _=>og hM ho (.inr hb) hr hv) (by
    simp only[br,ho,hb]at hr;split at hr<;>try (cases hr;done)
    split at hr<;>try (cases hr;done)
    cases hr;intro d;rfl)
   |_=>simp[br,ho,hb]at hr
 |_=>simp[br,ho]at hr
end Go.Sy
namespace Go.Sy
variable [aZ]
variable {P : Program} {C : Ctx} {x : Sit} {s : St} {a : Act} {w : World}
theorem lf{cs:List SV}{i:Nat}(hi:i<cs.length):∀k∈(cs.getD i .undef).ids,k∈SV.idsL cs:=by
 induction cs generalizing i with
 |nil=>simp at hi
 |cons c r ih=>
  intro k hk;simp only[SV.idsL,al];cases i with
  |zero=>exact .inl (by simpa using hk)
  |succ i=>exact .inr (ih (i:=i) (by simpa using hi) k (by simpa using hk))
theorem ke{cs:List SV}{i:Nat}(hi:i<cs.length):∀k∈(cs.getD i .undef).toks,k∈SV.toksL cs:=by
 induction cs generalizing i with
 |nil=>simp at hi
 |cons c r ih=>
  intro k hk;simp only[SV.toksL,al];cases i with
  |zero=>exact .inl (by simpa using hk)
  |succ i=>exact .inr (ih (i:=i) (by simpa using hi) k (by simpa using hk))
theorem Rep.renF{x x2:Sit}{mo mt:Nat->Nat}(hG:∀b o v,x.G b o=some v->x2.G b o=some v){sv:SV}{v:Value}(h:Rep x sv v):(∀k∈sv.ids,x2.bk (mo k)=x.bk k)->(∀t∈sv.toks,x2.τ (mt t)=x.τ t)->Rep x2 (sv.ren mo mt) v:=by
 induction h with
 |undef v=>intro _ _;exact .undef v
 |dat s v h ht=>
  intro hβ hτ;have h':=h.mono hG
  have sp:∀(sz:Nat)(t:Tok),(∀u,t= .id u->x2.τ (mt u)=x.τ u)->dj x sz t v->dj x2 sz (t.ren mt) v:=by
   intro sz t ht hs;cases t with
   |no=>trivial
   |clip=>exact hs
   |id u=>obtain⟨ad,n,cap,hv,hc⟩:=hs;refine⟨ad,n,cap,hv,hc.imp id ?_⟩;rintro⟨b,off,he,hh⟩;exact⟨b,off,he,by rw[ht u rfl];exact hh⟩
  cases s with
  |byt l t=>simp only[SV.ren];exact .dat _ _ (h'.tok _ (.inl ⟨l,t,_,rfl,rfl⟩)) (sp 1 t (fun u hu=>hτ u (by subst hu;simp[SV.toks])) ht)
  |lst sz xs t=>simp only[SV.ren];exact .dat _ _ (h'.tok _ (.inr ⟨sz,xs,t,_,rfl,rfl⟩)) (sp sz t (fun u hu=>hτ u (by subst hu;simp[SV.toks])) ht)
  |undef=>exact .undef v
  |bool b=>simp only[SV.ren];exact .dat _ _ h' trivial
  |int k n=>simp only[SV.ren];exact .dat _ _ h' trivial
  |u8 b=>simp only[SV.ren];exact .dat _ _ h' trivial
  |str l=>simp only[SV.ren];exact .dat _ _ h' trivial
  |nilp=>simp only[SV.ren];exact .dat _ _ h' trivial
  |nili=>simp only[SV.ren];exact .dat _ _ h' trivial
  |pp cs=>simp only[SV.ren];exact .dat _ _ h' trivial
  |ptr o off=>cases h
  |ap o sz i j=>cases h
  |psl o sz off n cap=>cases h
  |agg cs=>cases h
  |tup cs=>cases h
  |fn f a b=>cases h
 |ptr o off=>intro hβ _;simp only[SV.ren];rw[<-hβ o (by simp[SV.ids])];exact .ptr _ off
 |ap o sz i j=>intro hβ _;simp only[SV.ren];rw[<-hβ o (by simp[SV.ids])];exact .ap _ sz i j
 |psl o sz off n cap off' cap' h hn hc hk=>intro hβ _;simp only[SV.ren];rw[<-hβ o (by simp[SV.ids])]at hk ⊢;exact .psl _ sz off n cap off' cap' h hn hc hk
 |agg cs vs hl _ ih=>
  intro hβ hτ;simp only[SV.ren,ez]
  exact .agg _ _ (by simpa using hl) fun i hi=>by
   rw[aV _ (by simp)];have hi':i<cs.length:=by simpa using hi
   exact ih i hi' (fun k hk=>hβ k (by simp only[SV.ids];exact lf hi' k hk)) (fun k hk=>hτ k (by simp only[SV.toks];exact ke hi' k hk))
 |tup cs vs hl _ ih=>
  intro hβ hτ;simp only[SV.ren,ez]
  exact .tup _ _ (by simpa using hl) fun i hi=>by
   rw[aV _ (by simp)];have hi':i<cs.length:=by simpa using hi
   exact ih i hi' (fun k hk=>hβ k (by simp only[SV.ids];exact lf hi' k hk)) (fun k hk=>hτ k (by simp only[SV.toks];exact ke hi' k hk))
 |fn f c1 c2 v1 v2 hl1 _ hl2 _ ih1 ih2=>
  intro hβ hτ;simp only[SV.ren,ez]
  exact .fn _ _ _ _ _ (by simpa using hl1) (fun i hi=>by
   rw[aV _ (by simp)];have hi':i<c1.length:=by simpa using hi
   exact ih1 i hi' (fun k hk=>hβ k (by simp only[SV.ids,al];exact .inl (lf hi' k hk))) (fun k hk=>hτ k (by simp only[SV.toks,al];exact .inl (ke hi' k hk))))
   (by simpa using hl2) fun i hi=>by
    rw[aV _ (by simp)];have hi':i<c2.length:=by simpa using hi
    exact ih2 i hi' (fun k hk=>hβ k (by simp only[SV.ids,al];exact .inr (lf hi' k hk))) (fun k hk=>hτ k (by simp only[SV.toks,al];exact .inr (ke hi' k hk)))
def Sit.back(x:Sit)(mo mt:Nat->Nat):Sit:=⟨x.G,fun k=>x.bk (mo k),fun t=>x.τ (mt t)⟩
theorem ot{x:Sit}{mo mt:Nat->Nat}{sz:Nat}{t:Tok}{v:Value}(h:dj x sz (t.ren mt) v):dj (x.back mo mt) sz t v:=by
 cases t with
 |no=>trivial
 |clip=>exact h
 |id u=>exact h
theorem Rep.renB{x:Sit}{mo mt:Nat->Nat}(sv:SV):∀v,Rep x (sv.ren mo mt) v->Rep (x.back mo mt) sv v:=by
 refine SV.rec (motive_1:=fun sv=>∀v,Rep x (sv.ren mo mt) v->Rep (x.back mo mt) sv v) (motive_2:=fun _=>True) (motive_3:=fun l=>∀i,i<l.length->∀v,Rep x ((l.getD i .undef).ren mo mt) v->Rep (x.back mo mt) (l.getD i .undef) v)
  ?_ ?_ ?_ ?_ ?_ ?_ ?_ ?_ ?_ ?_ ?_ ?_ ?_ ?_ ?_ ?_ ?_ ?_ ?_ ?_ sv
 ·intro v _;exact .undef v
 ·intro b v h;rw[Rep.bool_inv h];exact dw b
 ·intro k n v h;rw[Rep.int_inv h];exact cH k n
 ·intro b v h;rw[Rep.u8_inv h];exact nN b
 ·intro l v h;rw[Rep.str_inv h];exact kW l
 ·intro l t v h
  simp only[SV.ren]at h;cases h with
  |dat _ _ h ht=>exact .dat _ _ (h.tok _ (.inl ⟨l,_,t,rfl,rfl⟩)) (ot ht)
 ·intro sz xs t _ v h
  simp only[SV.ren]at h;cases h with
  |dat _ _ h ht=>exact .dat _ _ (h.tok _ (.inr ⟨sz,xs,_,t,rfl,rfl⟩)) (ot ht)
 ·intro v h;rw[Rep.nilp_inv h];exact .dat _ _ .nilp trivial
 ·intro v h;rw[Rep.nili_inv h];exact .dat _ _ .nili trivial
 ·intro cs _ v h
  simp only[SV.ren]at h;exact .dat _ _ (Rep.data (x:=x) h rfl) trivial
 ·intro o off v h;simp only[SV.ren]at h;rw[h.ptr_inv];exact .ptr o off
 ·intro o sz i j v h;simp only[SV.ren]at h;rw[h.ap_inv];exact .ap o sz i j
 ·intro o sz off n cap v h
  simp only[SV.ren]at h;obtain⟨cap',hn,hc,off',rfl,ho,hk⟩:=h.psl_invA;exact .psl (x:=x.back mo mt) o sz off n cap off' cap' ho hn hc hk
 ·intro cs ih v h
  simp only[SV.ren,ez]at h;obtain⟨vs,rfl,hl⟩:=h.agg_inv;refine .agg _ _ (by simpa using hl.1) fun i hi=>ih i hi _ ?_
  have:=hl.2 i (by simpa using hi);rwa[aV _ (by simp)]at this
 ·intro cs ih v h
  simp only[SV.ren,ez]at h;obtain⟨vs,rfl,hl⟩:=h.tup_inv;refine .tup _ _ (by simpa using hl.1) fun i hi=>ih i hi _ ?_
  have:=hl.2 i (by simpa using hi);rwa[aV _ (by simp)]at this
 ·intro f c1 c2 ih1 ih2 v h
  simp only[SV.ren,ez]at h;obtain⟨v1,v2,rfl,h1,h2⟩:=h.fn_inv;refine .fn _ _ _ _ _ (by simpa using h1.1) (fun i hi=>ih1 i hi _ ?_) (by simpa using h2.1) (fun i hi=>ih2 i hi _ ?_)
  ·have:=h1.2 i (by simpa using hi);rwa[aV _ (by simp)]at this
  ·have:=h2.2 i (by simpa using hi);rwa[aV _ (by simp)]at this
 ·trivial
 ·intros;trivial
 ·intro i hi;simp at hi
 ·intro c r ihc ihr i hi v h
  cases i with
  |zero=>exact ihc v (by simpa using h)
  |succ i=>simpa using ihr i (by simpa using hi) v (by simpa using h)
theorem cd.renB{x:Sit}{mo mt:Nat->Nat}{cs:List SV}{vs:List Value}(h:cd x (SV.renL mo mt cs) vs):cd (x.back mo mt) cs vs:=by rw[ez]at h;refine⟨by simpa using h.1,fun i hi=>Rep.renB _ _ ?_⟩;have:=h.2 i (by simpa using hi);rwa[aV _ (by simp)]at this
theorem dB.renB{mo mt:Nat->Nat}{o:Nat}{obj:aF}(h:dB x w (mo o) (obj.ren mo mt)):dB (x.back mo mt) w o obj:=by
 obtain⟨c,e,fl,fh,hO,⟨hs,hs2,hs3⟩,hr⟩:=h;refine⟨c,e,fl,fh,hO,⟨?_,hs2,by cases obj<;>exact hs3⟩,fun k hk=> ?_⟩
 ·cases obj<;>simpa[aF.ren,aF.size,ez]using hs
 ·cases obj with
  |rc cs=>have:=hr k (by simpa[aF.ren,aF.size,ez]using hk);simp only[aF.ren,bZ,ez]at this ⊢;rw[aV _ (by simp)]at this;exact Rep.renB _ _ this
  |arr sz xs=>exact hr k hk
  |bar l=>exact hr k hk
theorem dB.renF{x2:Sit}{w':World}{mo mt:Nat->Nat}{o:Nat}{obj:aF}(h:dB x w' o obj)(hG:∀b o v,x.G b o=some v->x2.G b o=some v)(ho:x2.bk (mo o)=x.bk o)
 (hβ:∀k∈obj.ids,x2.bk (mo k)=x.bk k) (hτ:∀t∈obj.toks,x2.τ (mt t)=x.τ t):dB x2 w' (mo o) (obj.ren mo mt):=by
 obtain⟨c,e,fl,fh,hO,⟨hs,hs2,hs3⟩,hr⟩:=h;refine⟨c,e,fl,fh,by rw[ho];exact hO,⟨?_,by rw[ho];exact hs2,by cases obj<;>exact hs3⟩,fun k hk=> ?_⟩
 ·cases obj<;>simpa[aF.ren,aF.size,ez]using hs
 ·cases obj with
  |rc cs=>
   have hk':k<cs.length:=by simpa[aF.ren,aF.size,ez]using hk
   have:=hr k hk';simp only[aF.ren,bZ,ez]at this ⊢;rw[aV _ (by simp)];exact Rep.renF hG this (fun j hj=>hβ j (lf hk' j hj)) (fun j hj=>hτ j (ke hk' j hj))
  |arr sz xs=>exact(hr k hk).mono hG
  |bar l=>exact(hr k hk).mono hG
theorem iT{os:List aF}{p:Nat×aF}:p∈idx os↔p.1<os.length/\p.2=os.getD p.1 (.rc []):=by
 unfold idx;rw[aT];constructor
 ·rintro⟨⟨ob,i⟩,h,rfl⟩
  have:=List.mem_zipIdx' h;exact⟨this.1,by rw[aa,ab this.1];exact this.2⟩
 ·rintro⟨h1,h2⟩
  refine⟨(p.2,p.1), ?_,rfl⟩;rw[List.mk_mem_zipIdx_iff_getElem?,h2,aa,ab h1];rfl
theorem mH(os:List aF):((idx os).map cE).Nodup:=by
 unfold idx;rw[List.map_map];have:(cE∘fun p:aF×Nat=>(p.2,p.1))=Prod.snd:=rfl;rw[this];have:os.zipIdx.map Prod.snd=qP 0 os.length:=by simp[List.zipIdx_map_snd]
 rw[this];exact List.nodup_range'
theorem rB{m:List Nat}(h:m.Nodup){i j:Nat}(hi:i<m.length)(hj:j<m.length)(e:m[i]=m[j]):i=j:=by
 have hp:=od.1 h;rcases Nat.lt_trichotomy i j with hlt|heq|hgt
 ·exact absurd e (hp i j hi hj hlt)
 ·exact heq
 ·exact absurd e.symm (hp j i hj hi hgt)
def Ctx.callee(x:Sit)(w:World)(m:List Nat)(β0:Nat->Nat×Nat):Ctx:=⟨w,x.G,fun b=>w.heap.size<=b\/∃i,i<m.length/\(x.bk (m.getD i 0)).1=b,β0⟩
theorem uM(hM:aM C x s a w){m:List Nat}{os:List aF}{mo mt:Nat->Nat}(hmo:∀i,i<m.length->mo i=m.getD i 0)(hl:m.length=os.length)(hnd:m.Nodup)
 (hlk:∀i,i<os.length->s.look (m.getD i 0)=some ((os.getD i (.rc [])).ren mo mt)):cR (Ctx.callee x w m (x.back mo mt).bk) (x.back mo mt) (idx os) [] w:=by
 have hb:∀i,i<os.length->(x.back mo mt).bk i=x.bk (m.getD i 0):=fun i hi=>by show x.bk (mo i)=_;rw[hmo i (by omega)]
 refine⟨hM.heap.per,fun _ _ _ h=>h,fun _ _ _ h=> .inl h,fun b h=> .inl h, ?_,mH os, ?_,fun t h=>by simp at h,fun t h=>by simp at h,fun t h=>by simp at h,rfl,rfl,rfl,aH _,fun _ _=>rfl,fun _ _=>rfl,hM.heap.lay.mono hM.heap.g0⟩
 ·intro p hp
  obtain⟨h1,h2⟩:=iT.1 hp;obtain⟨h3,h4,h5⟩:=hM.heap.obs _ (cS (hlk p.1 h1));refine⟨?_,.inr ⟨p.1,by omega,by rw[hb p.1 h1]⟩,fun off=>by rw[hb p.1 h1];exact h5 off⟩;rw[h2];refine dB.renB ?_;rw[hmo p.1 (by omega)];exact h3
 ·intro p hp q hq hpq
  obtain⟨h1,_⟩:=iT.1 hp;obtain⟨h2,_⟩:=iT.1 hq;rw[hb _ h1,hb _ h2]at hpq;have:=hM.heap.inj _ (cS (hlk p.1 h1)) _ (cS (hlk q.1 h2)) hpq;simp only at this;have e1:m.getD p.1 0=m[p.1]'(by omega):=by rw[aa,ab (by omega)];rfl
  have e2:m.getD q.1 0=m[q.1]'(by omega):=by rw[aa,ab (by omega)];rfl
  rw[e1,e2]at this;exact rB hnd _ _ this
end Go.Sy
namespace Go.Sy
variable [aZ]
variable {P : Program} {C : Ctx} {x : Sit} {s : St} {a : Act} {w : World}
theorem jv{m:List Nat}{l:List (Nat×aF)}{p:Nat×aF}:p∈eS m l↔p∈l/\p.1∉m:=by
 induction l with
 |nil=>simp[eS]
 |cons q r ih=>
  simp only[eS];split<;>rename_i hq
  ·rw[ih,av];constructor
   ·rintro⟨h1,h2⟩;exact⟨.inr h1,h2⟩
   ·rintro⟨rfl|h1,h2⟩
    ·exact absurd hq h2
    ·exact⟨h1,h2⟩
  ·rw[av,ih,av];constructor
   ·rintro(rfl|⟨h1,h2⟩)
    ·exact⟨.inl rfl,hq⟩
    ·exact⟨.inr h1,h2⟩
   ·rintro⟨rfl|h1,h2⟩
    ·exact .inl rfl
    ·exact .inr ⟨h1,h2⟩
theorem gW(m:List Nat)(l:List (Nat×aF)):(eS m l).Sublist l:=by
 induction l with
 |nil=>exact nj.refl _
 |cons q r ih=>
  simp only[eS];split
  ·exact ih.cons q
  ·exact ih.cons_cons q
theorem xK(hM:aM C x s a w){m:List Nat}{os:List aF}{mo mt:Nat->Nat}{lo hi:Nat}(hl:m.length=os.length)(hlk:∀i,i<os.length->s.look (m.getD i 0)=some ((os.getD i (.rc [])).ren mo mt))
 {x':Sit} {w':World} {os':List (Nat×aF)} {tks:List Nat} {β0:Nat->Nat×Nat} (hH:cR (Ctx.callee x w m β0) x' os' tks w')
 (hmo:∀i,i<m.length->mo i=m.getD i 0) {β2:Nat->Nat×Nat} {τ2:Nat->Nat×Nat×Nat} (hlo100:∀i,i<100->¬(lo<=i/\i<hi)) (hβ2:∀o,¬(lo<=o/\o<hi)->β2 o=x.bk o) (hτ2:∀o,¬(lo<=o/\o<hi)->τ2 o=x.τ o)
 (hids:∀p∈os',β2 (mo p.1)=x'.bk p.1) (hcont:∀p∈os',∀k∈p.2.ids,β2 (mo k)=x'.bk k) (htoks:∀p∈os',∀t∈p.2.toks,τ2 (mt t)=x'.τ t)
 (hrange:∀p∈os',p.1<m.length\/(lo<=mo p.1/\mo p.1<hi)) (htk:∀t∈tks,(lo<=mt t/\mt t<hi)/\τ2 (mt t)=x'.τ t):
 (∀b o v,x.G b o=some v->x'.G b o=some v)/\cR C ⟨x'.G,β2,τ2⟩ (os'.map (fun p=>(mo p.1,p.2.ren mo mt))++eS m (bx lo hi s.ob)) (tks.map mt++cg lo hi s.tk) w':=by
 have hG:∀b o v,x.G b o=some v->x'.G b o=some v:=hH.g0;have hold:=hM.heap;have hmblock:∀i,i<m.length->(∃ob,(m.getD i 0,ob)∈s.ob):=fun i hi=>⟨_,cS (hlk i (by omega))⟩
 have hmine:∀b,(Ctx.callee x w m β0).mine b->C.mine b:=by
  rintro b (h|⟨i,hi,rfl⟩)
  ·exact hold.new b (pU hold.size h)
  ·obtain⟨ob,hob⟩:=hmblock i hi
   exact(hold.obs _ hob).2.1
 have hmem:∀o∈m,∃i,i<m.length/\m.getD i 0=o:=by intro o ho;obtain⟨i,hi,rfl⟩:=cr ho;exact⟨i,hi,by rw[aa,ab hi];rfl⟩
 have hkeep:∀b,b<w.heap.size->(∀i,i<m.length->(x.bk (m.getD i 0)).1≠b)->w'.heap[b]? =w.heap[b]? /\((∀off,x.G b off=none)->∀off,x'.G b off=none):=by
  intro b hb hne
  have hnm:¬(Ctx.callee x w m β0).mine b:=by
   rintro(h|⟨i,hi,h⟩)
   ·omega
   ·exact hne i hi h
  refine⟨hH.ext b hnm,fun h off=> ?_⟩;cases hg:x'.G b off with
  |none=>rfl
  |some v=>
   rcases hH.gm b off v hg with h1|h1
   ·change x.G b off=some v at h1;rw[h off]at h1;cases h1
   ·exact absurd h1 hnm
 have hlo:∀p∈eS m (bx lo hi s.ob),∃ob,(p.1,ob)∈s.ob/\p.2=ob.purge lo hi/\¬(lo<=p.1/\p.1<hi)/\p.1∉m/\(∀i,i<m.length->(x.bk (m.getD i 0)).1≠(x.bk p.1).1)/\(x.bk p.1).1<w.heap.size:=by
  intro p hp;obtain⟨h1,h2⟩:=jv.1 hp;obtain⟨h3,ob,h4,h5⟩:=b9 h1;refine⟨ob,h4,h5,h3,h2,fun i hi e=> ?_, ?_⟩
  ·obtain⟨ob',hob'⟩:=hmblock i hi
   have:=hold.inj _ hob' _ h4 e;simp only at this;apply h2;rw[<-this,aa,ab hi];exact bh _
  ·obtain⟨⟨c,e,fl,fh,hO,_⟩,_⟩:=hold.obs _ h4
   exact hO.lt
 have hnew:∀p∈os'.map (fun p=>(mo p.1,p.2.ren mo mt)),∃q∈os',p=(mo q.1,q.2.ren mo mt)/\β2 p.1=x'.bk q.1:=by intro p hp;obtain⟨q,hq,rfl⟩:=aT.1 hp;exact⟨q,hq,rfl,hids q hq⟩
 have hnewmine:∀q∈os',w.heap.size<=(x'.bk q.1).1\/∃i,i<m.length/\(x.bk (m.getD i 0)).1=(x'.bk q.1).1:=fun q hq=>(hH.obs q hq).2.1
 have htold:∀t∈cg lo hi s.tk,t∈s.tk/\¬(lo<=t/\t<hi):=fun t ht=>bD.1 ht
 have htblock:∀t∈s.tk,(x.τ t).2.1=(x.τ t).2.2\/((x.τ t).1<w.heap.size/\∀i,i<m.length->(x.bk (m.getD i 0)).1≠(x.τ t).1):=by
  intro t ht;rcases hold.tks t ht with h|⟨⟨c,e,fl,fh,hO,_⟩,_⟩
  ·exact .inl h
  ·by_cases he:(x.τ t).2.1=(x.τ t).2.2
   ·exact .inl he
   ·refine .inr ⟨hO.lt,fun i hi e'=> ?_⟩
    obtain⟨ob,hob⟩:=hmblock i hi;rcases hold.tko t ht _ hob with h|h
    ·exact h e'.symm
    ·exact he h
 refine⟨hG,⟨hH.per,fun b o v h=>hG _ _ _ (hold.g0 b o v h), ?_,hold.new, ?_, ?_, ?_, ?_, ?_, ?_,hH.os.trans hold.os,hH.tape.trans hold.tape,hH.output.trans hold.output,pU hold.size hH.size, ?_,fun i hi=>(hβ2 i (hlo100 i hi)).trans (hold.pin i hi),hold.lay⟩⟩
 ·intro b o v h
  rcases hH.gm b o v h with h1|h1
  ·exact hold.gm b o v h1
  ·exact .inr (hmine b h1)
 ·intro p hp
  rcases al.1 hp with hp|hp
  ·obtain⟨q,hq,rfl,hb⟩:=hnew p hp
   obtain⟨h1,h2,h3⟩:=hH.obs q hq;refine⟨h1.renF (x2:=⟨x'.G,β2,τ2⟩) (fun _ _ _ h=>h) (hids q hq) (hcont q hq) (htoks q hq), ?_,fun off=> ?_⟩
   ·show C.mine (β2 (mo q.1)).1;rw[hids q hq];exact hmine _ h2
   ·show x'.G (β2 (mo q.1)).1 off=none;rw[hids q hq];exact h3 off
  ·obtain⟨ob,h1,h2,h3,h4,h5,h6⟩:=hlo p hp
   obtain⟨g1,g2,g3⟩:=hold.obs _ h1;obtain⟨k1,k2⟩:=hkeep _ h6 h5;have hb:β2 p.1=x.bk p.1:=hβ2 _ h3;refine⟨?_,by show C.mine (β2 p.1).1;rw[hb];exact g2,fun off=>by show x'.G (β2 p.1).1 off=none;rw[hb];exact k2 g3 off⟩;rw[h2];exact dB.of_heap (x':=⟨x'.G,β2,τ2⟩) g1 k1 hG hβ2 hτ2 h3
 ·rw[ct,List.nodup_append]
  refine⟨?_, ?_, ?_⟩
  ·rw[List.map_map]
   have hnd':=gj.1 hH.nd;refine gj.2 (ge.imp_of_mem (fun{p q} hp hq hne=> ?_) hnd');intro e;simp only[Function.comp]at e;have:(x'.bk p.1).1=(x'.bk q.1).1:=by rw[<-hids p hp,<-hids q hq,e]
   exact hne (hH.inj p hp q hq this)
  ·have h1:(eS m (bx lo hi s.ob)).Sublist (bx lo hi s.ob):=gW _ _
   refine wB.sublist (h1.map cE) ?_;rw[eA];exact hold.nd.filter _
  ·intro o1 h1 o2 h2 e
   subst e;obtain⟨p,hp,rfl⟩:=aT.1 h1;obtain⟨q,hq,hqe⟩:=aT.1 h2;obtain⟨r,hr,rfl⟩:=aT.1 hp;obtain⟨ob,k1,k2,k3,k4,k5,k6⟩:=hlo q hq;simp only at hqe;rcases hrange r hr with h|h
   ·apply k4;rw[hqe,hmo _ h,aa,ab h];exact bh _
   ·apply k3;rw[hqe];exact h
 ·intro p hp q hq hpq
  change (β2 p.1).1=(β2 q.1).1 at hpq;rcases al.1 hp with hp|hp<;>rcases al.1 hq with hq|hq
  ·obtain⟨p',hp',rfl,hb⟩:=hnew p hp
   obtain⟨q',hq',rfl,hb'⟩:=hnew q hq;rw[hb,hb']at hpq;have:=hH.inj p' hp' q' hq' hpq;simp only;rw[this]
  ·obtain⟨p',hp',rfl,hb⟩:=hnew p hp
   obtain⟨ob,k1,k2,k3,k4,k5,k6⟩:=hlo q hq;rw[hb,hβ2 _ k3]at hpq;rcases hnewmine p' hp' with h|⟨i,hi,h⟩
   ·omega
   ·exact absurd (h.trans hpq) (k5 i hi)
  ·obtain⟨q',hq',rfl,hb⟩:=hnew q hq
   obtain⟨ob,k1,k2,k3,k4,k5,k6⟩:=hlo p hp;rw[hb,hβ2 _ k3]at hpq;rcases hnewmine q' hq' with h|⟨i,hi,h⟩
   ·omega
   ·exact absurd (h.trans hpq.symm) (k5 i hi)
  ·obtain⟨ob,k1,k2,k3,k4,k5,k6⟩:=hlo p hp
   obtain⟨ob',k1',k2',k3',k4',k5',k6'⟩:=hlo q hq;rw[hβ2 _ k3,hβ2 _ k3']at hpq;exact hold.inj (p.1,ob) k1 (q.1,ob') k1' hpq
 ·intro t ht
  rcases al.1 ht with ht|ht
  ·obtain⟨u,hu,rfl⟩:=aT.1 ht
   obtain⟨_,hτu⟩:=htk u hu;have:=hH.tks u hu;unfold ia at this ⊢;simp only[hτu];exact this.imp id fun⟨h1,h2,h3⟩=>⟨h1,hmine _ h2,h3⟩
  ·obtain⟨
    h1,h2⟩:=htold t ht
   have:=hold.tks t h1;unfold ia at this ⊢;simp only[hτ2 t h2];rcases this with h|⟨⟨c,e,fl,fh,hO,hc⟩,h4,h5⟩
   ·exact .inl h
   ·rcases htblock t h1 with h|⟨k1,k2⟩
    ·exact .inl h
    ·obtain⟨g1,_⟩:=hkeep _ k1 k2
     refine .inr ⟨⟨c,e,fl,fh,hO.of_heap g1,hc⟩,h4,fun o ho1 ho2=> ?_⟩;cases hg:x'.G (x.τ t).1 o with
     |none=>rfl
     |some v=>
      rcases hH.gm _ _ _ hg with q1|q1
      ·change x.G _ _=some v at q1;rw[h5 o ho1 ho2]at q1;cases q1
      ·rcases q1 with q1|⟨i,hi,q1⟩
       ·change w.heap.size<=_ at q1;omega
       ·exact absurd q1 (k2 i hi)
 ·intro t ht p hp
  rcases al.1 ht with ht|ht<;>rcases al.1 hp with hp|hp
  ·obtain⟨u,hu,rfl⟩:=aT.1 ht
   obtain⟨q,hq,rfl,hb⟩:=hnew p hp;show(τ2 (mt u)).1≠(β2 (mo q.1)).1\/(τ2 (mt u)).2.1=(τ2 (mt u)).2.2;rw[(htk u hu).2,hids q hq];exact hH.tko u hu q hq
  ·obtain⟨u,hu,rfl⟩:=aT.1 ht
   obtain⟨ob,k1,k2,k3,k4,k5,k6⟩:=hlo p hp;show(τ2 (mt u)).1≠(β2 p.1).1\/(τ2 (mt u)).2.1=(τ2 (mt u)).2.2;rw[(htk u hu).2,hβ2 _ k3];rcases hH.tks u hu with h|⟨_,h,_⟩
   ·exact .inr h
   ·left;intro e
    rcases h with h|⟨i,hi,h⟩
    ·change w.heap.size<=_ at h;omega
    ·exact k5 i hi (h.trans e)
  ·obtain⟨h1,h2⟩:=htold t ht
   obtain⟨q,hq,rfl,hb⟩:=hnew p hp;show(τ2 t).1≠(β2 (mo q.1)).1\/(τ2 t).2.1=(τ2 t).2.2;rw[hτ2 t h2,hids q hq];rcases htblock t h1 with h|⟨k1,k2⟩
   ·exact .inr h
   ·left;intro e
    rcases hnewmine q hq with h|⟨i,hi,h⟩
    ·omega
    ·exact k2 i hi (h.trans e.symm)
  ·obtain⟨h1,h2⟩:=htold t ht
   obtain⟨ob,k1,k2,k3,k4,k5,k6⟩:=hlo p hp;show(τ2 t).1≠(β2 p.1).1\/(τ2 t).2.1=(τ2 t).2.2;rw[hτ2 t h2,hβ2 _ k3];exact hold.tko t h1 (p.1,ob) k1
 ·intro t ht u hu htu
  show lh (τ2 t) (τ2 u)\/(τ2 t).2.1=(τ2 t).2.2\/(τ2 u).2.1=(τ2 u).2.2;rcases al.1 ht with ht|ht<;>rcases al.1 hu with hu|hu
  ·obtain⟨t',ht',rfl⟩:=aT.1 ht
   obtain⟨u',hu',rfl⟩:=aT.1 hu;rw[(htk t' ht').2,(htk u' hu').2];exact hH.tkd t' ht' u' hu' (fun e=>htu (by rw[e]))
  ·obtain⟨t',ht',rfl⟩:=aT.1 ht
   obtain⟨h1,h2⟩:=htold u hu;rw[(htk t' ht').2,hτ2 u h2];rcases hH.tks t' ht' with h|⟨_,h,_⟩
   ·exact .inr (.inl h)
   ·rcases htblock u h1 with k|⟨k1,k2⟩
    ·exact .inr (.inr k)
    ·refine .inl (fun e=> ?_)
     rcases h with h|⟨i,hi,h⟩
     ·change w.heap.size<=_ at h;omega
     ·exact k2 i hi (h.trans e)
  ·obtain⟨u',hu',rfl⟩:=aT.1 hu
   obtain⟨h1,h2⟩:=htold t ht;rw[(htk u' hu').2,hτ2 t h2];rcases hH.tks u' hu' with h|⟨_,h,_⟩
   ·exact .inr (.inr h)
   ·rcases htblock t h1 with k|⟨k1,k2⟩
    ·exact .inr (.inl k)
    ·refine .inl (fun e=> ?_)
     rcases h with h|⟨i,hi,h⟩
     ·change w.heap.size<=_ at h;omega
     ·exact k2 i hi (h.trans e.symm)
  ·obtain⟨h1,h2⟩:=htold t ht
   obtain⟨h3,h4⟩:=htold u hu;rw[hτ2 t h2,hτ2 u h4];exact hold.tkd t h1 u h3 htu
 ·intro b hb
  have hnm:¬(Ctx.callee x w m β0).mine b:=fun h=>hb (hmine b h)
  exact(hH.ext b hnm).trans (hold.ext b hb)
theorem cR.only{ob ob':List (Nat×aF)}{tk tk':List Nat}(h:cR C x ob tk w)(ho:∀p∈ob',p∈ob)(hn:(ob'.map cE).Nodup)(ht:∀t∈tk',t∈tk):cR C x ob' tk' w:=
 ⟨h.per,h.g0,h.gm,h.new,fun p hp=>h.obs p (ho p hp),hn,fun p hp q hq=>h.inj p (ho p hp) q (ho q hq),fun t hu=>h.tks t (ht t hu),fun t hu p hp=>h.tko t (ht t hu) p (ho p hp),
  fun t hu u hv=>h.tkd t (ht t hu) u (ht u hv),h.os,h.tape,h.output,h.size,h.ext,h.pin,h.lay⟩
theorem vo(d:Nat)(m:List Nat)(os:List (Nat×aF)):oA d m os=os.map fun p=>(iO d m p.1,p.2.ren (iO d m) (kj d)):=by
 induction os with
 |nil=>rfl
 |cons p r ih=>simp[oA,ih]
end Go.Sy
namespace Go.Sy
variable [aZ]
variable {P : Program} {C : Ctx} {x : Sit} {s : St} {a : Act} {w : World} {o : Oper} {so : SOp}
def Eg(C:Ctx)(k:St->Prop):Act->World->Prop:=fun a w=>∃x s,aM C x s a w/\k s
theorem de{K:Act->World->Prop}{Q:Exit->Act->World->Prop}{k:St->Prop}{s':St}(h:bW P C o a w s')(hk:k s')(hK:∀a w,Eg C k a w->K a w):o.wp P a w K Q:=by
 obtain⟨u,w',x',n,hrun,hn,hM⟩:=h;unfold Oper.wp;rw[hrun];rcases hn with rfl|⟨rfl,rfl⟩
 ·exact hK _ _ ⟨x',s',hM,hk⟩
 ·exact hK _ _ ⟨x',s',hM,hk⟩
theorem sA{f:Nat}(h:dV P f=true)(args:Array Value)(w:World):(callFunc f args).run P w= .ok (.enter f args) w:=by
 unfold dV at h;split at h
 ·rename_i fn hf
  simp only[aB,dv]at h;obtain⟨h1,h2⟩:=h;have h3:fn.body.isNone=false:=by cases hb:fn.body<;>simp[hb]at h1 ⊢
  simp only[callFunc,aA,run_program,am,hf,h2,aK,if_false,h3,aG]
 ·cases h
theorem Dt(hM:aM C x s a w){cl:Call}{F:Operand}(ho:o.op= .call cl)(hb:cl.callee= .value F){f:Arg}{as:List Arg}(hf:bq P 0 F=some f)
 (has:jw (fun p=>bq P p.2 p.1) (cl.args.toList.zip cl.argTypes.toList)=some as) (hsz:cl.args.size=cl.argTypes.size) {g:Nat} {c1 c2:List SV} (hg:s.ev f= .fn g c1 c2) (hc:dV P g=true):
 ∃vs:List Value,(execOp a.eval o).run P w= .ok (.enter g ⟨vs⟩) w/\cd x (c1++as.map s.ev++c2) vs:=by
 have hF:=aL hM hf;rw[hg]at hF;obtain⟨v1,v2,hFe,h1,h2⟩:=hF.fn_inv;obtain⟨hl,hget⟩:=eE has;have hzl:(cl.args.toList.zip cl.argTypes.toList).length=cl.args.toList.length:=by simp[hsz]
 have hargs:cd x (as.map s.ev) (cl.args.toList.map a.eval):=by
  refine⟨by simp only[aP];rw[hl,hzl],fun i hi=> ?_⟩;have hi':i<as.length:=by simpa using hi
  have hiz:i<(cl.args.toList.zip cl.argTypes.toList).length:=by omega
  have:=aL hM (hget i hiz hi');have e1:(as.map s.ev).getD i .undef=s.ev as[i]:=by rw[aa,aQ,ab hi'];rfl
  have e2:(cl.args.toList.map a.eval).getD i Go.undef=a.eval (cl.args.toList.zip cl.argTypes.toList)[i].1:=by
   have hia:i<cl.args.toList.length:=by omega
   rw[aa,aQ,ab hia,List.getElem_zip];rfl
  rw[e1,e2];exact this
 refine⟨v1++cl.args.toList.map a.eval++v2, ?_,(h1.append hargs).append h2⟩
 have:(execOp a.eval o).run P w=(callFunc g ((⟨v1⟩:Array Value)++cl.args.map a.eval++⟨v2⟩)).run P w:=by simp only[execOp,ho,resolve,hb,hFe,Deferred.ofValue,aA,aG,am,invoke]
 rw[this,sA hc]
 congr 2
 apply dJ;simp
end Go.Sy
namespace Go.Sy
variable [aZ]
variable {P : Program} {C : Ctx} {x : Sit} {s : St} {a : Act} {w : World} {o : Oper} {so : SOp} {p : Prop} {c : SV}
theorem Gh(hM:aM C x s a w){q r:Arg}(hr:br P o=some (.ovl q r)){e:Eff}(he:eff s o.dst (.ovl q r)=some e)(hp:e.pre):bW P C o a w (s.app o.dst e):=by simp only[eff,val]at he;cases he
end Go.Sy
namespace Go.Sy
variable [aZ]
variable {P : Program} {C : Ctx} {x : Sit} {s : St} {a : Act} {w : World} {o : Oper} {so : SOp} {p : Prop} {c : SV}
theorem New.append{as bs:List Value}{A B:List SV}(h:New x as A)(k:New x bs B):New x (as++bs) (A++B):=by
 refine⟨by simp[h.len,k.len],fun i hi=> ?_,fun v hv=>(al.1 hv).elim (h.one v) (k.one v)⟩;simp only[aa]
 by_cases h1:i<A.length
 ·rw[bQ h1,bQ (by rw[<-h.len];exact h1)]
  have:=h.rep i h1;simpa only[aa]using this
 ·rw[bU (by omega),bU (by rw[<-h.len];omega),h.len]
  have:=k.rep (i-A.length) (by simp only[ac]at hi;omega);rw[h.len]at this;simpa only[aa]using this
theorem rW{sz:Nat}{rs:List (List SV)}(hrows:∀y∈rs,y.length=sz){cs:List Value}(h:New x cs rs.flatten)(k:Nat)(hk:k<rs.length*sz):bZ x (.arr sz rs) k ((⟨cs⟩:Array Value).getD k Go.undef):=by
 simp only[bZ,aF.cell];rw[<-cB rs hrows k hk];have:=h.rep k (by rw[bA hrows];exact hk);have e:(⟨cs⟩:Array Value).getD k Go.undef=cs.getD k Go.undef:=by simp[bi,aa]
 rw[e];exact this
theorem grown(hM:aM C x s a w){d:Nat}{el:TypeId}{z:List SV}{R0 R1:List (List SV)}{os ns zr:List Value}{nc:Nat}(h0:New x os R0.flatten)(h1:New x ns R1.flatten)(hz:New x zr (aE (nc-(R0.length+R1.length)) z).flatten)
 (g0:∀y∈R0,y.length=z.length) (g1:∀y∈R1,y.length=z.length) (hnc:R0.length+R1.length<=nc) (sl:Option Nat) (hsl:sl.getD 0=d):
 ∃x',aM C x' (s.app sl (Zy d z R0 R1 nc)) (a.put sl (.slice (some ⟨w.heap.size,0,none⟩) (R0.length+R1.length) nc)) (w.drew.alloc (.cells (⟨os++ns++zr⟩:Array Value) el (0,0))):=by
 have hM2:aM C x s a w.drew:=⟨hM.tm,hM.defers,hM.heap.drew⟩
 have hrows:∀y∈R0++R1++aE (nc-(R0.length+R1.length)) z,y.length=z.length:=by
  intro y hy;rcases al.1 hy with hy|hy
  ·exact(al.1 hy).elim (g0 y) (g1 y)
  ·rw[(List.mem_replicate.1 hy).2]
 have hN:=(h0.append h1).append hz;rw[<-bM,<-bM]at hN
 have hsize:(⟨os++ns++zr⟩:Array Value).size=(R0++R1++aE (nc-(R0.length+R1.length)) z).length*z.length:=by show(os++ns++zr).length=_;rw[<-hN.len,bA hrows]
 have hv:Rep (x.newO (d+100) w.drew.heap.size) (.psl (d+100) z.length 0 (R0.length+R1.length) (some nc)) (.slice (some ⟨w.heap.size,0,none⟩) (R0.length+R1.length) nc):=by have:=Rep.psl (x:=x.newO (d+100) w.drew.heap.size) (d+100) z.length 0 (R0.length+R1.length) (some nc) 0 nc (.inr (by omega)) hnc (fun _ e=>by cases e;rfl) (fun e=>by cases e);rw[jd]at this;exact this
 refine⟨x.newO (d+100) w.drew.heap.size, ?_⟩;have:=hM2.newObj (d:=d+100) sl (by omega) (t:=el) (cv:=⟨os++ns++zr⟩) (.arr z.length (R0++R1++aE (nc-(R0.length+R1.length)) z)) (by simp only[aF.size];omega) (fun k hk=>rW hrows hN k hk) hv;simp only[St.app,Zy,hsl];exact this
structure Src(P:Program)(n m:Nat)(w:World)(Y:Value)(ns:List Value):Prop where
 len:∀w':World,w'.heap=w.heap->(Builtin.lenOf Y).run P w'= .ok m w'
 cells:∀w':World,w'.heap=w.heap->(Builtin.firstCells n m Y).run P w'= .ok ns.toArray w'
theorem pr(hM:aM C x s a w){n:Nat}{u:SV}{Y:Value}{p:Prop}{R:List (List SV)}(h:Rep x u Y)(hb:jI s n u=some (p,R))(hp:p):∃ns,(∀y∈R,y.length=n)/\New x ns R.flatten/\Src P n R.length w Y ns:=by
 obtain⟨hrows',g1,ns,hnew,g2⟩:=gO (P:=P) hM h hb hp;refine⟨ns,hrows',hnew,g1,fun w' hw'=> ?_⟩;have:=g2 R.length (aH _) w' hw';have hnl:ns.length=R.length*n:=by rw[<-hnew.len,bA hrows']
 rwa[<-hnl,cK]at this
theorem C6{so:SOp}(hr:br P o=some so)(h1:(∃z b q r,so= .app z b q r)\/∃z b q r,so= .appM z b q r):∃cl,o.op= .call cl/\cl.callee= .builtin .append:=by
 cases ho:o.op with
 |call cl=>
  cases hb:cl.callee with
  |invoke r m=>simp[br,ho,hb]at hr
  |value F=>
   exfalso;simp only[br,ho,hb]at hr
   (repeat' split at hr)<;>first|(cases hr;done)|(cases hr;rcases h1 with⟨_,_,_,_,h⟩|⟨_,_,_,_,h⟩<;>cases h)
  |builtin b=>
   cases b<;>first|exact⟨cl,rfl,hb⟩|(exfalso;simp only[br,ho,hb,reduceCtorEq]at hr<;>((repeat' split at hr)<;>first|(cases hr;done)|(cases hr;rcases h1 with⟨_,_,_,_,h⟩|⟨_,_,_,_,h⟩<;>cases h)))
 |_=>
  exfalso
  have:¬((∃z b q r,so= .app z b q r)\/∃z b q r,so= .appM z b q r):=by
   simp only[br,ho]at hr
   first
    |(cases hr;done)
    |(obtain⟨_,_,rfl⟩:=ae.1 hr;rintro(⟨_,_,_,_,h⟩|⟨_,_,_,_,h⟩)<;>cases h;done)
    |(repeat' split at hr)<;>first|(cases hr;done)|contradiction|(cases hr;rintro(⟨_,_,_,_,h⟩|⟨_,_,_,_,h⟩)<;>cases h;done)|(obtain⟨_,_,rfl⟩:=ae.1 hr;rintro(⟨_,_,_,_,h⟩|⟨_,_,_,_,h⟩)<;>first|(cases h;done)|(split at h<;>cases h;done))
  exact this h1
structure xqa(P:Program)(o:Oper)(z:List SV)(by_:Nat)(q r:Arg)(a:Act)(X Y:Operand)(t u el:TypeId)(d2:TypeDesc)(zs:List Value):Prop where
 ex:execOp a.eval o=(do pure (.value (<-Builtin.append_ #[t,u] o.type #[a.eval X,a.eval Y])))
 hd:P.underlying t=some (.slice el)
 hu:P.underlying u=some d2
 hX:bq P t X=some q
 hY:bq P u Y=some r
 hn:eW P el=some z.length
 hby:tt P el=some by_
 hz:fO P el=some zs
 hzl:z.length=zs.length
 hzd:∀(G:GM) i,i<z.length->cn G (z.getD i .undef) (zs.getD i Go.undef)
 hb0:by_≠0
 hn0:z.length≠0
theorem SL{so:SOp}(hr:br P o=some so){z:List SV}{by_:Nat}{q r:Arg}(h1:so= .app z by_ q r\/so= .appM z by_ q r)(a:Act):∃X Y t u el d2 zs,xqa P o z by_ q r a X Y t u el d2 zs/\
 (so= .app z by_ q r->(∃e',d2= .slice e')\/d2= .string)/\(so= .appM z by_ q r->∃k,d2= .int k):=by
 obtain⟨cl,ho,hb⟩:=C6 hr (h1.imp (fun h=>⟨_,_,_,_,h⟩) (fun h=>⟨_,_,_,_,h⟩));simp only[br,ho,hb]at hr;split at hr<;>try (cases hr;done)
 rename_i X Y t u hX ht;split at hr<;>try (cases hr;done)
 rename_i el d2 r' q' hd hu hra hrb;split at hr<;>try (cases hr;done)
 rename_i n b' z' hn hby hz;rw[aJ]at hr;obtain⟨hcond,hr⟩:=hr;simp only[aB,decide_eq_true_eq]at hcond;obtain⟨⟨hb0,hn0⟩,hzl'⟩:=hcond;obtain⟨zs,hzc,hzl0,hzd⟩:=jk hz;have ea:cl.args= #[X,Y]:=by apply dJ;simpa using hX
 have et:cl.argTypes= #[t,u]:=by apply dJ;simpa using ht
 have hex:=fu (a:=a) ho hb _ rfl;rw[ea,et]at hex;have em: #[X,Y].map a.eval= #[a.eval X,a.eval Y]:=by simp
 rw[em]at hex
 have key:z'=z/\b'=by_/\r'=q/\q'=r/\(so= .app z by_ q r->(∃e',d2= .slice e')\/d2= .string)/\(so= .appM z by_ q r->∃k,d2= .int k):=by
  split at hr<;>try (cases hr;done)
  ·cases hr;rcases h1 with h|h<;>cases h;exact⟨rfl,rfl,rfl,rfl,fun _=> .inl ⟨_,rfl⟩,fun h=>by cases h⟩
  ·rw[aJ]at hr
   obtain⟨_,hr⟩:=hr;cases hr;rcases h1 with h|h<;>cases h;exact⟨rfl,rfl,rfl,rfl,fun _=> .inr rfl,fun h=>by cases h⟩
  ·cases hr;rcases h1 with h|h<;>cases h;exact⟨rfl,rfl,rfl,rfl,fun h=>(by cases h),fun _=>⟨_,rfl⟩⟩
 obtain⟨rfl,rfl,rfl,rfl,k1,k2⟩:=key;subst hzl';exact⟨X,Y,t,u,el,d2,zs,⟨hex,hd,hu,hra,hrb,hn,hby,hzc,hzl0,hzd,hb0,hn0⟩,k1,k2⟩
theorem DE{t:TypeId}{b:Nat}(h:tt P t=some b):∃i,P.info? t=some i/\i.bytes=b:=by
 unfold tt at h;cases hi:P.info? t with
 |none=>simp[hi]at h
 |some i=>simp[hi]at h;exact⟨i,rfl,h⟩
end Go.Sy
namespace Go.Sy
variable [aZ]
variable {P : Program} {C : Ctx} {x : Sit} {s : St} {a : Act} {w : World} {o : Oper} {so : SOp}
def xka(C:Ctx)(P:Program)(g:Nat)(vs:List Value)(w:World)(d:Option Nat)(a:Act)(k:St->Prop):Prop:=
 Calls P g ⟨vs⟩ w fun en w'=>∃v,en= .returned v/\Eg C k (a.put d v) w'
theorem uB{K:Act->World->Prop}{Q:Exit->Act->World->Prop}{k:St->Prop}{g:Nat}{vs:List Value}(hrun:(execOp a.eval o).run P w= .ok (.enter g ⟨vs⟩) w)(h:xka C P g vs w o.dst a k)
 (hK:∀a w,Eg C k a w->K a w):o.wp P a w K Q:=by
 unfold Oper.wp;rw[hrun];refine Calls.mono h ?_;rintro en w' ⟨v,rfl,hp⟩;exact hK _ _ hp
theorem Gq{f:Arg}{as:List Arg}(hr:br P o=some (.call f as)):∃cl F,o.op= .call cl/\cl.callee= .value F/\bq P 0 F=some f/\jw (fun p=>bq P p.2 p.1) (cl.args.toList.zip cl.argTypes.toList)=some as/\cl.args.size=cl.argTypes.size:=by
 cases ho:o.op with
 |call cl=>
  cases hb:cl.callee with
  |invoke r m=>simp[br,ho,hb]at hr
  |value F=>
   simp only[br,ho,hb]at hr;split at hr<;>try (cases hr;done)
   rename_i f' as' h1 h2;split at hr<;>try (cases hr;done)
   rename_i h3;split at hr
   ·split at hr
    ·cases hr
    ·cases hr;exact⟨cl,F,rfl,hb,h1,h2,h3⟩
   ·cases hr;exact⟨cl,F,rfl,hb,h1,h2,h3⟩
  |builtin b=>
   exfalso;cases b<;>simp only[br,ho,hb,reduceCtorEq]at hr
   all_goals
    (first|(cases hr;done)|(split at hr<;>(first|(cases hr;done)|(split at hr<;>(first|(cases hr;done)|(split at hr<;>(first|(cases hr;done)|(split at hr<;>(first|(cases hr;done)|(split at hr<;>(first|(cases hr;done)|(split at hr<;>((cases hr;done))))))))))))))
 |pick c X Y=>exfalso;simp only[br,ho]at hr;split at hr<;>cases hr
 |move X=>exfalso;simp only[br,ho]at hr;obtain⟨_,_,h⟩:=ae.1 hr;cases h
 |assign X=>exfalso;simp only[br,ho]at hr;obtain⟨_,_,h⟩:=ae.1 hr;cases h
 |box t X=>exfalso;simp only[br,ho]at hr;obtain⟨_,_,h⟩:=ae.1 hr;cases h
 |nilCheck X=>exfalso;simp only[br,ho]at hr;obtain⟨_,_,h⟩:=ae.1 hr;cases h
 |unOp op t X=>exfalso;simp only[br,ho]at hr;obtain⟨_,_,h⟩:=ae.1 hr;cases h
 |extract X i=>exfalso;simp only[br,ho]at hr;obtain⟨_,_,h⟩:=ae.1 hr;cases h
 |build t ps=>
  exfalso;simp only[br,ho]at hr;split at hr<;>try (cases hr;done)
  ·split at hr<;>try (cases hr;done)
   obtain⟨_,_,h⟩:=ae.1 hr;cases h
  ·split at hr<;>try (cases hr;done)
   obtain⟨_,_,h⟩:=ae.1 hr;cases h
 |buildSlice t n ps=>
  exfalso;simp only[br,ho]at hr;split at hr<;>try (cases hr;done)
  split at hr<;>try (cases hr;done)
  split at hr<;>try (cases hr;done)
  obtain⟨_,_,h⟩:=ae.1 hr;split at h<;>cases h
 |makeFunc f X Y=>exfalso;cases f<;>simp only[br,ho,reduceCtorEq]at hr;split at hr<;>cases hr
 |alloc t=>exfalso;simp only[br,ho]at hr;first|(cases hr;done)|(split at hr<;>(first|(cases hr;done)|(split at hr<;>(first|(cases hr;done)|(split at hr<;>(first|(cases hr;done)|(split at hr<;>(first|(cases hr;done)|(split at hr<;>(first|(cases hr;done)|(split at hr<;>((cases hr;done)))))))))))))
 |load t X=>exfalso;simp only[br,ho]at hr;first|(cases hr;done)|(split at hr<;>(first|(cases hr;done)|(split at hr<;>(first|(cases hr;done)|(split at hr<;>(first|(cases hr;done)|(split at hr<;>(first|(cases hr;done)|(split at hr<;>(first|(cases hr;done)|(split at hr<;>((cases hr;done)))))))))))))
 |store t X Y=>exfalso;simp only[br,ho]at hr;first|(cases hr;done)|(split at hr<;>(first|(cases hr;done)|(split at hr<;>(first|(cases hr;done)|(split at hr<;>(first|(cases hr;done)|(split at hr<;>(first|(cases hr;done)|(split at hr<;>(first|(cases hr;done)|(split at hr<;>((cases hr;done)))))))))))))
 |binOp op t X Y u=>exfalso;simp only[br,ho]at hr;first|(cases hr;done)|(split at hr<;>(first|(cases hr;done)|(split at hr<;>(first|(cases hr;done)|(split at hr<;>(first|(cases hr;done)|(split at hr<;>(first|(cases hr;done)|(split at hr<;>(first|(cases hr;done)|(split at hr<;>((cases hr;done)))))))))))))
 |convert t u X=>exfalso;simp only[br,ho]at hr;first|(cases hr;done)|(split at hr<;>(first|(cases hr;done)|(split at hr<;>(first|(cases hr;done)|(split at hr<;>(first|(cases hr;done)|(split at hr<;>(first|(cases hr;done)|(split at hr<;>(first|(cases hr;done)|(split at hr<;>((cases hr;done)))))))))))))
 |makeSlice t X Y=>exfalso;simp only[br,ho]at hr;first|(cases hr;done)|(split at hr<;>(first|(cases hr;done)|(split at hr<;>(first|(cases hr;done)|(split at hr<;>(first|(cases hr;done)|(split at hr<;>(first|(cases hr;done)|(split at hr<;>(first|(cases hr;done)|(split at hr<;>((cases hr;done)))))))))))))
 |slice t X lo hi mx=>exfalso;simp only[br,ho]at hr;first|(cases hr;done)|(split at hr<;>(first|(cases hr;done)|(split at hr<;>(first|(cases hr;done)|(split at hr<;>(first|(cases hr;done)|(split at hr<;>(first|(cases hr;done)|(split at hr<;>(first|(cases hr;done)|(split at hr<;>((cases hr;done)))))))))))))
 |fieldAddr t X i=>exfalso;simp only[br,ho]at hr;first|(cases hr;done)|(split at hr<;>(first|(cases hr;done)|(split at hr<;>(first|(cases hr;done)|(split at hr<;>(first|(cases hr;done)|(split at hr<;>(first|(cases hr;done)|(split at hr<;>(first|(cases hr;done)|(split at hr<;>((cases hr;done)))))))))))))
 |field t X i=>exfalso;simp only[br,ho]at hr;first|(cases hr;done)|(split at hr<;>(first|(cases hr;done)|(split at hr<;>(first|(cases hr;done)|(split at hr<;>(first|(cases hr;done)|(split at hr<;>(first|(cases hr;done)|(split at hr<;>(first|(cases hr;done)|(split at hr<;>((cases hr;done)))))))))))))
 |indexAddr t X i=>exfalso;simp only[br,ho]at hr;first|(cases hr;done)|(split at hr<;>(first|(cases hr;done)|(split at hr<;>(first|(cases hr;done)|(split at hr<;>(first|(cases hr;done)|(split at hr<;>(first|(cases hr;done)|(split at hr<;>(first|(cases hr;done)|(split at hr<;>((cases hr;done)))))))))))))
 |index t X i=>exfalso;simp only[br,ho]at hr;first|(cases hr;done)|(split at hr<;>(first|(cases hr;done)|(split at hr<;>(first|(cases hr;done)|(split at hr<;>(first|(cases hr;done)|(split at hr<;>(first|(cases hr;done)|(split at hr<;>(first|(cases hr;done)|(split at hr<;>((cases hr;done)))))))))))))
 |_=>simp[br,ho]at hr
theorem FE{c q r:Arg}(hr:br P o=some (.pick c q r)):∃X Y Z,o.op= .pick X Y Z/\bq P 0 X=some c/\bq P o.type Y=some q/\bq P o.type Z=some r:=by
 cases ho:o.op with
 |pick X Y Z=>
  simp only[br,ho]at hr;split at hr<;>try (cases hr;done)
  rename_i a1 a2 a3 h1 h2 h3;simp only[an.injEq,SOp.pick.injEq]at hr;obtain⟨rfl,rfl,rfl⟩:=hr;exact⟨X,Y,Z,rfl,h1,h2,h3⟩
 |call cl=>
  exfalso;cases hb:cl.callee with
  |invoke r m=>simp[br,ho,hb]at hr
  |value F=>simp only[br,ho,hb]at hr;first|(cases hr;done)|(split at hr<;>(first|(cases hr;done)|(split at hr<;>(first|(cases hr;done)|(split at hr<;>(first|(cases hr;done)|(split at hr<;>(first|(cases hr;done)|(split at hr<;>(first|(cases hr;done)|(split at hr<;>((cases hr;done)))))))))))))
  |builtin b=>
   cases b<;>simp only[br,ho,hb,reduceCtorEq]at hr
   all_goals
    (first|(cases hr;done)|(split at hr<;>(first|(cases hr;done)|(split at hr<;>(first|(cases hr;done)|(split at hr<;>(first|(cases hr;done)|(split at hr<;>(first|(cases hr;done)|(split at hr<;>(first|(cases hr;done)|(split at hr<;>((cases hr;done))))))))))))))
 |move X=>exfalso;simp only[br,ho]at hr;obtain⟨_,_,h⟩:=ae.1 hr;cases h
 |assign X=>exfalso;simp only[br,ho]at hr;obtain⟨_,_,h⟩:=ae.1 hr;cases h
 |box t X=>exfalso;simp only[br,ho]at hr;obtain⟨_,_,h⟩:=ae.1 hr;cases h
 |nilCheck X=>exfalso;simp only[br,ho]at hr;obtain⟨_,_,h⟩:=ae.1 hr;cases h
 |unOp op t X=>exfalso;simp only[br,ho]at hr;obtain⟨_,_,h⟩:=ae.1 hr;cases h
 |extract X i=>exfalso;simp only[br,ho]at hr;obtain⟨_,_,h⟩:=ae.1 hr;cases h
 |build t ps=>
  exfalso;simp only[br,ho]at hr;split at hr<;>try (cases hr;done)
  ·split at hr<;>try (cases hr;done)
   obtain⟨_,_,h⟩:=ae.1 hr;cases h
  ·split at hr<;>try (cases hr;done)
   obtain⟨_,_,h⟩:=ae.1 hr;cases h
 |buildSlice t n ps=>
  exfalso;simp only[br,ho]at hr;split at hr<;>try (cases hr;done)
  split at hr<;>try (cases hr;done)
  split at hr<;>try (cases hr;done)
  obtain⟨_,_,h⟩:=ae.1 hr;split at h<;>cases h
 |makeFunc f X Y=>exfalso;cases f<;>simp only[br,ho,reduceCtorEq]at hr;split at hr<;>cases hr
 |alloc t=>exfalso;simp only[br,ho]at hr;first|(cases hr;done)|(split at hr<;>(first|(cases hr;done)|(split at hr<;>(first|(cases hr;done)|(split at hr<;>(first|(cases hr;done)|(split at hr<;>(first|(cases hr;done)|(split at hr<;>(first|(cases hr;done)|(split at hr<;>((cases hr;done)))))))))))))
 |load t X=>exfalso;simp only[br,ho]at hr;first|(cases hr;done)|(split at hr<;>(first|(cases hr;done)|(split at hr<;>(first|(cases hr;done)|(split at hr<;>(first|(cases hr;done)|(split at hr<;>(first|(cases hr;done)|(split at hr<;>(first|(cases hr;done)|(split at hr<;>((cases hr;done)))))))))))))
 |store t X Y=>exfalso;simp only[br,ho]at hr;first|(cases hr;done)|(split at hr<;>(first|(cases hr;done)|(split at hr<;>(first|(cases hr;done)|(split at hr<;>(first|(cases hr;done)|(split at hr<;>(first|(cases hr;done)|(split at hr<;>(first|(cases hr;done)|(split at hr<;>((cases hr;done)))))))))))))
 |binOp op t X Y u=>exfalso;simp only[br,ho]at hr;first|(cases hr;done)|(split at hr<;>(first|(cases hr;done)|(split at hr<;>(first|(cases hr;done)|(split at hr<;>(first|(cases hr;done)|(split at hr<;>(first|(cases hr;done)|(split at hr<;>(first|(cases hr;done)|(split at hr<;>((cases hr;done)))))))))))))
 |convert t u X=>exfalso;simp only[br,ho]at hr;first|(cases hr;done)|(split at hr<;>(first|(cases hr;done)|(split at hr<;>(first|(cases hr;done)|(split at hr<;>(first|(cases hr;done)|(split at hr<;>(first|(cases hr;done)|(split at hr<;>(first|(cases hr;done)|(split at hr<;>((cases hr;done)))))))))))))
 |makeSlice t X Y=>exfalso;simp only[br,ho]at hr;first|(cases hr;done)|(split at hr<;>(first|(cases hr;done)|(split at hr<;>(first|(cases hr;done)|(split at hr<;>(first|(cases hr;done)|(split at hr<;>(first|(cases hr;done)|(split at hr<;>(first|(cases hr;done)|(split at hr<;>((cases hr;done)))))))))))))
 |slice t X lo hi mx=>exfalso;simp only[br,ho]at hr;first|(cases hr;done)|(split at hr<;>(first|(cases hr;done)|(split at hr<;>(first|(cases hr;done)|(split at hr<;>(first|(cases hr;done)|(split at hr<;>(first|(cases hr;done)|(split at hr<;>(first|(cases hr;done)|(split at hr<;>((cases hr;done)))))))))))))
 |fieldAddr t X i=>exfalso;simp only[br,ho]at hr;first|(cases hr;done)|(split at hr<;>(first|(cases hr;done)|(split at hr<;>(first|(cases hr;done)|(split at hr<;>(first|(cases hr;done)|(split at hr<;>(first|(cases hr;done)|(split at hr<;>(first|(cases hr;done)|(split at hr<;>((cases hr;done)))))))))))))
 |field t X i=>exfalso;simp only[br,ho]at hr;first|(cases hr;done)|(split at hr<;>(first|(cases hr;done)|(split at hr<;>(first|(cases hr;done)|(split at hr<;>(first|(cases hr;done)|(split at hr<;>(first|(cases hr;done)|(split at hr<;>(first|(cases hr;done)|(split at hr<;>((cases hr;done)))))))))))))
 |indexAddr t X i=>exfalso;simp only[br,ho]at hr;first|(cases hr;done)|(split at hr<;>(first|(cases hr;done)|(split at hr<;>(first|(cases hr;done)|(split at hr<;>(first|(cases hr;done)|(split at hr<;>(first|(cases hr;done)|(split at hr<;>(first|(cases hr;done)|(split at hr<;>((cases hr;done)))))))))))))
 |index t X i=>exfalso;simp only[br,ho]at hr;first|(cases hr;done)|(split at hr<;>(first|(cases hr;done)|(split at hr<;>(first|(cases hr;done)|(split at hr<;>(first|(cases hr;done)|(split at hr<;>(first|(cases hr;done)|(split at hr<;>(first|(cases hr;done)|(split at hr<;>((cases hr;done)))))))))))))
 |_=>simp[br,ho]at hr
theorem Dy(hM:aM C x s a w){c q r:Arg}(hr:br P o=some (.pick c q r)){t:Bool}(ht:s.ev c= .bool t):bW P C o a w (s.put o.dst (if t then s.ev q else s.ev r)):=by
 obtain⟨X,Y,Z,ho,h1,h2,h3⟩:=FE hr;have e1:=aL hM h1;rw[ht]at e1;refine bW.val hM (m:=do pure (if<-asBool (a.eval X)then a.eval Y else a.eval Z)) (u:=if t then a.eval Y else a.eval Z) (by simp only[execOp,ho];simp) ?_ ?_
 ·rw[e1.bool_inv];rfl
 ·cases t
  ·exact aL hM h3
  ·exact aL hM h2
theorem Se(hM:aM C x s a w)(hr:br P o=some so){e:Eff}(he:eff s o.dst so=some e)(hp:e.pre):bW P C o a w (s.app o.dst e):=by
 by_cases ho:∃q r,so= .ovl q r
 ·obtain⟨q,r,rfl⟩:=ho
  exact Gh hM hr he hp
 ·exact Dv hM hr (fun q r h=>ho ⟨q,r,h⟩) he hp
end Go.Sy
namespace Go.Sy
variable [aZ]
variable {P : Program} {C : Ctx} {x : Sit} {s : St} {a : Act} {w : World}
theorem F3(hM:aM C x s a w){g:Nat}{t:Bool}(h:s.get g= .bool t):g<s.tm.length/\a.tmps[g]? =some (.bool t)/\s.tm[g]? =some (.bool t):=by
 have hlt:g<s.tm.length:=by
  rcases bY g s.tm.length with h'|h'
  ·exact h'
  ·unfold St.get at h;rw[aa,eo h']at h;cases h
 have h1:s.tm[g]? =some (.bool t):=by unfold St.get at h;rw[aa,ab hlt]at h;rw[ab hlt];exact congrArg some h
 have hr:=hM.slot g;rw[h]at hr;have hv:=hr.bool_inv;have hs:g<a.tmps.size:=by rw[<-aS,<-hM.tm.1];exact hlt
 refine⟨hlt, ?_,h1⟩;rw[gK hs];have:a.tmps.getD g Go.undef=a.tmps[g]:=by simp[jU,hs]
 rw[<-this,hv]
def rf(P:Program)(o:Oper)(so:SOp):Prop:=br P o=some so\/∃xs,so= .newB xs/\br P o=some (.litB xs)
theorem rf.fresh{ops:Array Oper}{o:Oper}{so:SOp}(d:Option Nat)(h:br P o=some so):rf P o (nP ops d so):=by
 rcases Do ops d so with e|⟨xs,e1,e2⟩
 ·rw[e];exact .inl h
 ·rw[e2];exact .inr ⟨xs,rfl,e1 ▸ h⟩
theorem rf.old{o:Oper}{so:SOp}(h:rf P o so)(hn:∀xs,so≠ .newB xs):br P o=some so:=by
 rcases h with h|⟨xs,e,_⟩
 ·exact h
 ·exact absurd e (hn xs)
theorem kG{ops:Array Oper}{o:Oper}{i:SI}(h:fQ P ops o=some i):rf P o i.op/\i.dst=o.dst/\(i.g=none/\o.guard=none\/∃j b g,i.g=some (g,b)/\o.guard=some (j,b)/\(ops[j]?).bind (·.dst)=some g):=by
 unfold fQ at h;split at h<;>try (cases h;done)
 ·rename_i so h1 h2;cases h;exact⟨.fresh _ h1,rfl,.inl ⟨rfl,h2⟩⟩
 ·rename_i so j b h1 h2
  split at h<;>try (cases h;done)
  rename_i g hg;cases h;exact⟨.fresh _ h1,rfl,.inr ⟨j,b,g,rfl,h2,hg⟩⟩
theorem jV{ops:Array Oper}{o:Oper}(h:o.guard=none):Region.wanted o (yielded ops a.tmps)=true:=by simp[Region.wanted,h]
theorem uC{ops:Array Oper}{o:Oper}{j g:Nat}{b t:Bool}(h:o.guard=some (j,b))(hg:(ops[j]?).bind (·.dst)=some g)(ht:a.tmps[g]? =some (.bool t)):Region.wanted o (yielded ops a.tmps)=(t==b):=by simp only[Region.wanted,h,yielded,hg,cO,ht];cases t<;>cases b<;>rfl
end Go.Sy
namespace Go.Sy
variable [aZ]
variable {P : Program} {C : Ctx} {x : Sit} {s : St} {a : Act} {w : World}
mutual
theorem oE{n:Nat}:∀v:SV,n∉v.ids->n∉v.toks->v.purge n (n+1)=v
 | .byt l t,_,h=>by
  cases t with
  |id t=>simp only[SV.toks,bf]at h;simp only[SV.purge,Tok.purge];rw[if_neg (by omega)]
  |_=>rfl
 | .lst sz xs t,_,h=>by
  cases t with
  |id t=>simp only[SV.toks,bf]at h;simp only[SV.purge,Tok.purge];rw[if_neg (by omega)]
  |_=>rfl
 | .ptr o off,h,_=>by simp only[SV.ids,bf]at h;simp only[SV.purge];rw[if_neg (by omega)]
 | .ap o sz i j,h,_=>by simp only[SV.ids,bf]at h;simp only[SV.purge];rw[if_neg (by omega)]
 | .psl o sz off k cap,h,_=>by simp only[SV.ids,bf]at h;simp only[SV.purge];rw[if_neg (by omega)]
 | .agg cs,h,k=>by simp only[SV.ids,SV.toks]at h k;simp only[SV.purge];rw[gi cs h k]
 | .tup cs,h,k=>by simp only[SV.ids,SV.toks]at h k;simp only[SV.purge];rw[gi cs h k]
 | .fn f p q,h,k=>by simp only[SV.ids,SV.toks,al,not_or]at h k;simp only[SV.purge];rw[gi p h.1 k.1,gi q h.2 k.2]
 | .undef,_,_=>rfl
 | .bool _,_,_=>rfl
 | .int _ _,_,_=>rfl
 | .u8 _,_,_=>rfl
 | .str _,_,_=>rfl
 | .nilp,_,_=>rfl
 | .nili,_,_=>rfl
 | .pp _,_,_=>rfl
theorem gi{n:Nat}:∀l:List SV,n∉SV.idsL l->n∉SV.toksL l->SV.purgeL n (n+1) l=l
 |[],_,_=>rfl
 |v::r,h,k=>by simp only[SV.idsL,SV.toksL,al,not_or]at h k;simp only[SV.purgeL];rw[oE v h.1 k.1,gi r h.2 k.2]
end
def xev(l:List SV):List Nat:=SV.idsL l++SV.toksL l
structure St.Fresh(s:St)(n:Nat):Prop where
 tm:n∉xev s.tm
 ob:∀o ob,s.look o=some ob->o≠n/\n∉ob.names
 tk:n∉s.tk
structure Eqv(s t:St):Prop where
 tm:s.tm=t.tm
 ob:∀o,s.look o=t.look o
 tk:∀n,n∈s.tk↔n∈t.tk
theorem Eqv.refl(s:St):Eqv s s:=⟨rfl,fun _=>rfl,fun _=>Iff.rfl⟩
theorem Eqv.symm{s t:St}(h:Eqv s t):Eqv t s:=⟨h.tm.symm,fun o=>(h.ob o).symm,fun n=>(h.tk n).symm⟩
theorem Eqv.trans{s t u:St}(h:Eqv s t)(k:Eqv t u):Eqv s u:=⟨h.tm.trans k.tm,fun o=>(h.ob o).trans (k.ob o),fun n=>(h.tk n).trans (k.tk n)⟩
theorem Eqv.fresh{s t:St}(h:Eqv s t){n:Nat}(hf:s.Fresh n):t.Fresh n:=
 ⟨h.tm ▸ hf.tm,fun o ob ho=>hf.ob o ob (by rw[h.ob];exact ho),fun hn=>hf.tk ((h.tk n).2 hn)⟩
def Eff.num(e:Eff)(d:Option Nat):List Nat:=match e.new,e.tok with|none,false=> []|_,_=> [d.getD 0+100]
def xkc(o:Nat):List (Nat×aF)->Option aF->Option aF
 |[],c=>c
 |p::r,c=>xkc o r (if o=p.1 then c.map (fun _=>p.2)else c)
def Eff.look(e:Eff)(d:Option Nat)(o:Nat)(c:Option aF):Option aF:=
 match e.new,e.tok with
 |some v,_=>if o=d.getD 0+100 then some (v.purge (d.getD 0+100) (d.getD 0+100+1))else c
 |none,true=>c
 |none,false=>xkc o e.wr c
def Eff.tks(e:Eff)(d:Option Nat)(t:Nat)(c:Prop):Prop:=
 match e.new,e.tok with
 |some _,_=>c
 |none,true=>t=d.getD 0+100\/(c/\t∉e.eat.ids)
 |none,false=>c
end Go.Sy
namespace Go.Sy
variable [aZ]
variable {P : Program} {C : Ctx} {x : Sit} {s s' : St} {a : Act} {w : World}
def St.appO(s:St)(d:Option Nat):Option Eff->St
 |some e=>s.app d e
 |none=>s.put d .undef
end Go.Sy
namespace Go.Sy
variable [aZ]
variable {P : Program} {C : Ctx} {x : Sit} {s s' : St} {a : Act} {w : World}
structure Itm where
 n:Nat
 i:SI
 o:Option Eff
 f:xfC
end Go.Sy
namespace Go.Sy
variable [aZ]
variable {P : Program} {C : Ctx} {x : Sit} {s : St} {a : Act} {w : World}
theorem aM.purge(hM:aM C x s a w)(lo hi:Nat):aM C x (s.purge lo hi) a w:=by
 have hH:=hM.heap;refine⟨hM.tm.mono (fun _ _ _ h=>h) (fun _ _=>rfl) (fun _ _=>rfl),hM.defers,⟨hH.per,hH.g0,hH.gm,hH.new, ?_, ?_, ?_, ?_, ?_, ?_,hH.os,hH.tape,hH.output,hH.size,hH.ext,hH.pin,hH.lay⟩⟩
 ·intro p hp
  obtain⟨h1,o,h2,h3⟩:=b9 hp;obtain⟨h4,h5⟩:=hH.obs _ h2;refine⟨?_,h5⟩;rw[h3];exact h4.of_heap rfl (fun _ _ _ h=>h) (fun _ _=>rfl) (fun _ _=>rfl) h1
 ·show((bx lo hi s.ob).map cE).Nodup
  rw[eA];exact hH.nd.filter _
 ·intro p hp q hq
  obtain⟨_,o,h2,_⟩:=b9 hp;obtain⟨_,o',h3,_⟩:=b9 hq;exact hH.inj (p.1,o) h2 (q.1,o') h3
 ·intro t ht;exact hH.tks t (bD.1 ht).1
 ·intro t ht p hp
  obtain⟨_,o,h2,_⟩:=b9 hp;exact hH.tko t (bD.1 ht).1 (p.1,o) h2
 ·intro t ht u hu;exact hH.tkd t (bD.1 ht).1 u (bD.1 hu).1
theorem xE{ob:List (Nat×aF)}(h:(ob.map cE).Nodup){p:Nat×aF}(hp:p∈ob):ob.lookup p.1=some p.2:=by
 induction ob with
 |nil=>cases hp
 |cons q r ih=>
  simp only[aC,dC]at h;rcases av.1 hp with rfl|hp
  ·simp[List.lookup]
  ·have:(p.1==q.1)=false:=by
    rw[beq_eq_false_iff_ne];intro e;apply h.1;rw[<-e];exact iu hp
   simp only[List.lookup,this];exact ih h.2 hp
section
variable {ops : Array Oper} {l : List SI} {its : List Itm} {b : List Nat}
def left(its:List Itm)(listed:Array Bool):List Itm:=its.filter fun it=> !listed.getD it.n true
theorem qx{listed:Array Bool}{i:Nat}(hi:i<listed.size):(listed.setIfInBounds i true).getD i true=true:=by simp[jU,hi]
theorem gB{listed:Array Bool}{i j:Nat}(hi:i<listed.size):(listed.setIfInBounds i true).getD j true=if j=i then true else listed.getD j true:=by
 by_cases h:j=i
 ·subst h;rw[if_pos rfl];exact qx hi
 ·rw[if_neg h,getD_set_ne true (fun e=>h e.symm)]
end
end Go.Sy
namespace Go.Sy
variable [aZ]
variable {P : Program} {C : Ctx} {x : Sit} {s : St} {a : Act} {w : World}
theorem Zt(p:Nat->Prop)(h:∃n,p n):∃n,p n/\∀m,p m->n<=m:=by
 obtain⟨n,hn⟩:=h;induction n using Nat.strongRecOn with
 |_ n ih=>
  by_cases hex:∃m,m<n/\p m
  ·obtain⟨m,hm,hpm⟩:=hex;exact ih m hm hpm
  ·exact⟨n,hn,fun m hpm=>Nat.le_of_not_lt fun hlt=>hex ⟨m,hlt,hpm⟩⟩
def xl(P:Program)(s:St):List ResultVar->Option (Prop×List SV)
 |[]=>some (True,[])
 | .tmp t::r=>match xl P s r with
  |some (p,vs)=>some (p,s.get t::vs)
  |none=>none
 | .cell t ty::r=>match eW P ty,qu P ty,xl P s r with
  |some n,some ag,some (p,vs)=>match (if ag||n==1 then iI s n ag (s.get t)else none)with
   |some (q,v)=>some (q/\p,v::vs)
   |none=>none
  |_,_,_=>none
def jq:List SV->SV
 |[v]=>v
 |vs=> .tup vs
theorem qp(hM:aM C x s a w){t:TypeId}{n:Nat}{ag:Bool}{u c:SV}{v:Value}{p:Prop}(hn:eW P t=some n)(hag:qu P t=some ag)(hu:Rep x u v)(h:(if ag||n==1 then iI s n ag u else none)=some (p,c))(hp:p):
 ∃ad r,v= .pointer (some ad)/\(loadVar t ad).run P w= .ok r w/\Rep x c r:=by
 split at h<;>try (cases h;done)
 rename_i h1;obtain⟨b,off,cs,rfl,rfl,hc⟩:=lz hM hu h hp;obtain⟨r,hr,hrep⟩:=oO (P:=P) hc hn hag h1;exact⟨_,r,rfl,hr,hrep⟩
def Th(tmps:Array Value):ResultVar->Sem Value
 | .tmp t=>pure (tmps.getD t Go.undef)
 | .cell a t=>do loadVar t (<-asAddr (tmps.getD a Go.undef))
theorem xk(fn:Func)(tmps:Array Value):results fn tmps=(do let vs<-fn.results.mapM (Th tmps);pure (if h:vs.size=1 then vs[0]else .tuple vs)):=by
 unfold results
 congr 1
theorem qc(hM:aM C x s a w):∀{rs:List ResultVar}{p:Prop}{vs:List SV},xl P s rs=some (p,vs)->p->
 ∃us,(rs.mapM (Th a.tmps)).run P w= .ok us w/\cd x vs us:=by
 intro rs;induction rs with
 |nil=>intro p vs h _;simp only[xl,an.injEq,bn.injEq]at h;obtain⟨_,rfl⟩:=h;exact⟨[],rfl,rfl,fun i hi=>by simp at hi⟩
 |cons r rs ih=>
  intro p vs h hp
  have cons:∀{c:SV}{u:Value}{cs:List SV}{us:List Value},Rep x c u->cd x cs us->cd x (c::cs) (u::us):=by
   intro c u cs us h1 h2
   exact⟨by simp[h2.1],fun i hi=>by
    cases i with
    |zero=>exact h1
    |succ i=>simpa using h2.2 i (by simpa using hi)⟩
  cases r with
  |tmp t=>
   simp only[xl]at h;split at h<;>try (cases h;done)
   rename_i q vs' hq;simp only[an.injEq,bn.injEq]at h;obtain⟨rfl,rfl⟩:=h;obtain⟨us,hrun,hl⟩:=ih hq hp;refine⟨_, ?_,cons (hM.slot t) hl⟩;simp only[List.mapM_cons,Th,aA,aG,am,hrun]
  |cell t ty=>
   simp only[xl]at h;split at h<;>try (cases h;done)
   rename_i n ag q vs' hn hag hq;split at h<;>try (cases h;done)
   rename_i q' v' hv;simp only[an.injEq,bn.injEq]at h;obtain⟨rfl,rfl⟩:=h;obtain⟨us,hrun,hl⟩:=ih hq hp.2;obtain⟨ad,r,hadr,hlr,hrep⟩:=qp hM hn hag (hM.slot t) hv hp.1;refine⟨_, ?_,cons hrep hl⟩;have hA:(asAddr (a.tmps.getD t Go.undef)).run P w= .ok ad w:=by rw[hadr];rfl
   simp only[List.mapM_cons,Th,aA,hA,aG,am,hlr,hrun]
end Go.Sy
namespace Go.Sy
variable [aZ]
variable {P : Program}
end Go.Sy
namespace Go.Sy
variable [aZ]
variable {P : Program} {C : Ctx} {x : Sit} {s : St} {a : Act} {w : World}
def leT(t:Nat)(a b:SV):Prop:=∀(x:Sit)(v:Value),Rep x a v->Rep (x.newT t 0 0 0) b v
theorem leT.keep(t:Nat)(a:SV):leT t a (a.purge t (t+1)):=fun x v h=>h.mono (x:=x) (x':=x.newT t 0 0 0) (lo:=t) (hi:=t+1) (fun _ _ _ h=>h) (fun _ _=>rfl) (Sit.newT_ne x t 0 0 0)
theorem leT.le{t:Nat}{a b:SV}(h:si a b)(hi:t∉b.ids)(ht:t∉b.toks):leT t a b:=fun x v hv=>by have:=leT.keep t b x v (h x v hv);rwa[oE b hi ht]at this
theorem leT.undef(t:Nat)(a:SV):leT t a .undef:=fun _ v _=> .undef v
theorem leT.lst(t sz:Nat)(xs:List (List SV)):leT t (.lst sz xs .clip) (.lst sz xs (.id t)):=fun x v hv=>by obtain⟨b,cap,he,_,hD,hsp⟩:=hv.lst_inv;obtain⟨a',n',he'⟩:=hsp;exact .dat _ _ (hD.tok (.lst sz xs (.id t)) (.inr ⟨sz,xs,_,_,rfl,rfl⟩)) ⟨a',n',n',he',.inl rfl⟩
theorem leT.byt(t:Nat)(l:List UInt8):leT t (.byt l .clip) (.byt l (.id t)):=fun x v hv=>by obtain⟨b,cap,he,_,hD,hsp⟩:=hv.byt_inv;obtain⟨a',n',he'⟩:=hsp;exact .dat _ _ (hD.tok (.byt l (.id t)) (.inl ⟨l,_,_,rfl,rfl⟩)) ⟨a',n',n',he',.inl rfl⟩
def leP(o sz:Nat)(xs:List (List SV))(a b:SV):Prop:=∀(x x':Sit)(v:Value),x'.bk=x.bk->x'.τ=x.τ->(∀b i u,x.G b i=some u->x'.G b i=some u)->
 (∀k,k<xs.length*sz->∃u,x'.G ((x.bk o).1) k=some u/\cn x'.G ((xs.getD (k/sz) []).getD (k % sz) .undef) u)->Rep x a v->Rep x' b v
theorem leP.le{o sz:Nat}{xs:List (List SV)}{a b:SV}(h:si a b):leP o sz xs a b:=fun x x' v hβ hτ hG _ hv=>(h x v hv).grow hG hβ hτ
theorem leP.undef(o sz:Nat)(xs:List (List SV))(a:SV):leP o sz xs a .undef:=fun _ _ v _ _ _ _ _=> .undef v
theorem leP.psl{o sz off n:Nat}{cap:Option Nat}{xs:List (List SV)}(hb:off+n<=xs.length)(hrows:∀y∈xs,y.length=sz):leP o sz xs (.psl o sz off n cap) (.lst sz ((xs.drop off).take n) .no):=by
 intro x x' v hβ hτ hG hc hv;obtain⟨cap,hnc,_,off',he,hoff⟩:=hv.psl_inv;rw[he];have hlen:((xs.drop off).take n).length=n:=by simp;omega
 refine .dat _ _ ?_ trivial
 by_cases hn:n=0
 ·subst hn
  refine .lst _ _ _ _ _ _ _ (fun _ _=>Go.undef) hlen.symm hnc (fun i hi=>by omega) (fun i j hi=>by omega) (fun i j hi=>by omega)
 ·have hoff':off'=off*sz:=by omega
  have hrow:∀i,i<n->(((xs.drop off).take n).getD i [])=xs.getD (off+i) []:=fun i hi=>by simp only[aa,bL,if_pos hi,bw]
  have hl:∀i,i<n->(xs.getD (off+i) []).length=sz:=fun i hi=>by rw[aa,ab (by omega)];exact hrows _ (bh _)
  have hk:∀i j,i<n->j<sz->off*sz+i*sz+j<xs.length*sz:=fun i j hi hj=>by have:=bv sz (show off+i+1<=xs.length by omega);simp only[bB,Nat.one_mul]at this;omega
  have hdm:∀i j,j<sz->(off*sz+i*sz+j)/sz=off+i/\(off*sz+i*sz+j) % sz=j:=fun i j hj=>by rw[<-bB,cz,Nat.mul_add_div (by omega),Nat.div_eq_of_lt hj,eY];exact⟨rfl,by rw[Nat.mul_add_mod,cy hj]⟩
  refine .lst _ _ _ _ _ _ _ (fun i j=>(x'.G ((x.bk o).1) (off*sz+i*sz+j)).getD Go.undef) hlen.symm hnc (fun i hi=>by rw[hrow i hi];exact hl i hi) (fun i j hi hj=> ?_) (fun i j hi hj=> ?_)
  ·obtain⟨u,hu,_⟩:=hc _ (hk i j hi hj)
   rw[hoff',hu];rfl
  ·obtain⟨u,hu,hr⟩:=hc _ (hk i j hi hj)
   rw[hu,hrow i hi];rw[(hdm i j hj).1,(hdm i j hj).2]at hr;exact hr
end Go.Sy
namespace Go.Sy
variable [aZ]
structure CSt where
 tm:List (Nat×SV)
 ob:List (Nat×aF)
 tk:List Nat
def ej:List (Nat×SV)->Nat->SV
 |[],_=> .undef
 |p::r,n=>if p.1=n then p.2 else ej r n
def jp:List (Nat×SV)->Nat->SV->List (Nat×SV)
 |[],n,v=> [(n,v)]
 |p::r,n,v=>if n<p.1 then(n,v)::p::r else if n=p.1 then(n,v)::r else p::jp r n v
def wk:List (Nat×SV)->List Nat->List (Nat×SV)
 |[],_=> []
 |p::r,l=>if l.contains p.1 then wk r l else p::wk r l
def iJ:List (Nat×aF)->Nat->Option aF
 |[],_=>none
 |p::r,n=>if p.1=n then some p.2 else iJ r n
def iQ:List (Nat×aF)->Nat->aF->List (Nat×aF)
 |[],n,v=> [(n,v)]
 |p::r,n,v=>if n<p.1 then(n,v)::p::r else if n=p.1 then(n,v)::r else p::iQ r n v
def xfn:List (Nat×aF)->Nat->List (Nat×aF)
 |[],_=> []
 |p::r,n=>if p.1=n then xfn r n else p::xfn r n
def mf:List Nat->Nat->List Nat
 |[],n=> [n]
 |p::r,n=>if n<p then n::p::r else if n=p then p::r else p::mf r n
def df(lo hi:Nat):List (Nat×SV)->List (Nat×SV)
 |[]=> []
 |p::r=>(p.1,p.2.purge lo hi)::df lo hi r
def CSt.get(c:CSt)(n:Nat):SV:=ej c.tm n
def CSt.ev(c:CSt):Arg->SV
 | .t n=>c.get n
 | .c v=>v
 | .f g=> .fn g [] []
def evL(c:CSt):List Arg->List SV
 |[]=> []
 |a::r=>c.ev a::evL c r
def CSt.put(c:CSt)(d:Option Nat)(v:SV):CSt:=
 match d with
 |some d=>⟨jp c.tm d v,c.ob,c.tk⟩
 |none=>c
def CSt.look(c:CSt)(o:Nat):Option aF:=iJ c.ob o
def CSt.purge(c:CSt)(lo hi:Nat):CSt:=⟨df lo hi c.tm,bx lo hi c.ob,cg lo hi c.tk⟩
def CSt.kill(c:CSt)(l:List Nat):CSt:=
 match l with
 |[]=>c
 |l=>⟨wk c.tm l,c.ob,c.tk⟩
def gd{α:Type}(p:Prop)[Decidable p](v:α):Option α:=if p then some v else none
def xJ(op:BinOp)(k:IntKind)(a b:Int):Option SV:=
 match op with
 | .add=>some (.int k (k.wrap (a+b)))
 | .sub=>some (.int k (k.wrap (a-b)))
 | .mul=>some (.int k (k.wrap (a*b)))
 | .quo=>gd (b≠0) (.int k (k.wrap (a.tdiv b)))
 | .rem=>gd (b≠0) (.int k (a.tmod b))
 | .and=>some (.int k (bP .and k a b))
 | .or=>some (.int k (bP .or k a b))
 | .xor=>some (.int k (bP .xor k a b))
 | .andNot=>some (.int k (bP .andNot k a b))
 | .shl=>gd (0<=b) (.int k (k.wrap (a*2^(min b.toNat k.bits))))
 | .shr=>gd (0<=b) (.int k (a.fdiv (2^(min b.toNat k.bits))))
 | .eql=>some (.bool (decide (a=b)))
 | .neq=>some (.bool (decide (a≠b)))
 | .lss=>some (.bool (decide (a<b)))
 | .leq=>some (.bool (decide (a<=b)))
 | .gtr=>some (.bool (decide (b<a)))
 | .geq=>some (.bool (decide (b<=a)))
def yi(op:BinOp)(a b:UInt8):Option SV:=
 match op with
 | .add=>some (.u8 (a+b))
 | .sub=>some (.u8 (a-b))
 | .mul=>some (.u8 (a*b))
 | .quo=>gd (b≠0) (.u8 (a/b))
 | .rem=>gd (b≠0) (.u8 (a % b))
 | .and=>some (.u8 (a&&&b))
 | .or=>some (.u8 (a|||b))
 | .xor=>some (.u8 (a^^^b))
 | .andNot=>some (.u8 (a&&& ~~~b))
 | .eql=>some (.bool (decide (a=b)))
 | .neq=>some (.bool (decide (a≠b)))
 | .lss=>some (.bool (decide (a<b)))
 | .leq=>some (.bool (decide (a<=b)))
 | .gtr=>some (.bool (decide (b<a)))
 | .geq=>some (.bool (decide (b<=a)))
 |_=>none
def Oh(op:BinOp)(a:UInt8)(b:Int):Option SV:=
 match op with
 | .shl=>gd (0<=b) (.u8 (ee (a.toNat*2^(min b.toNat 8))))
 | .shr=>gd (0<=b) (.u8 (ee (a.toNat/2^(min b.toNat 8))))
 |_=>none
def Om(op:BinOp)(a b:List UInt8):Option SV:=
 match op with
 | .add=>gd (a.length+b.length<=9223372036854775807) (.str (a++b))
 | .eql=>some (.bool (decide (a=b)))
 | .neq=>some (.bool (decide (a≠b)))
 | .lss=>some (.bool (cG a b))
 | .leq=>some (.bool (cG a b||decide (a=b)))
 | .gtr=>some (.bool (!(cG a b||decide (a=b))))
 | .geq=>some (.bool (!cG a b))
 |_=>none
def mn:BinOp->Bool
 | .shl| .shr=>true
 |_=>false
def Ep(op:BinOp):SV->SV->Option SV
 | .int k a,.int k' b=>if mn op=true\/k=k' then xJ op k a b else none
 | .u8 a,.int _ b=>Oh op a b
 | .u8 a,.u8 b=>yi op a b
 | .str a,.str b=>Om op a b
 |_,_=>none
def lZ(c:CSt)(n:Nat)(ag:Bool):SV->Option SV
 | .pp cs=>gd (n<=cs.length) (dt ag n (cs.map SV.data))
 | .ptr o off=>match c.look o with
  |some (.rc cs)=>gd (off+n<=cs.length) (dt ag n (cs.drop off))
  |some (.arr _ xs)=>gd (off=0/\n<=xs.flatten.length) (dt ag n (xs.flatten.map SV.data))
  |some (.bar l)=>gd (off=0/\n<=l.length) (dt ag n (l.map .u8))
  |none=>none
 | .ap o sz i j=>match c.look o with
  |some (.arr sz' xs)=>gd (sz=sz'/\i<xs.length/\j+n<=sz) (dt ag n (((xs.getD i []).drop j).map SV.data))
  |some (.bar l)=>gd (sz=1/\j=0/\n=1/\i<l.length) (dt ag n [.u8 (l.getD i 0)])
  |_=>none
 |_=>none
def km(c:CSt)(x:Option Arg)(dflt:Int):Option Int:=
 match x with
 |none=>some dflt
 |some a=>(c.ev a).num
def nR(c:CSt)(sz:Nat)(x:SV)(lo hi mx:Option Arg):Option SV:=
 match x with
 | .byt l t=>
  match km c lo 0,km c hi l.length,km c mx l.length with
  |some a,some b,some m=>gd (0<=a/\a<=b/\b<=m/\m<=l.length/\sz=1/\(mx.isSome=true->b=m)) (.byt ((l.take b.toNat).drop a.toNat) (lG t hi.isNone mx.isSome))
  |_,_,_=>none
 | .lst sz' l t=>
  match km c lo 0,km c hi l.length,km c mx l.length with
  |some a,some b,some m=>gd (0<=a/\a<=b/\b<=m/\m<=l.length/\sz=sz'/\(mx.isSome=true->b=m)) (.lst sz ((l.take b.toNat).drop a.toNat) (lG t hi.isNone mx.isSome))
  |_,_,_=>none
 | .psl o sz' off n none=>
  match km c lo 0,km c hi n,mx with
  |some a,some b,none=>gd (0<=a/\a<=b/\b<=n/\sz=sz') (.psl o sz (off+a.toNat) (b.toNat-a.toNat) none)
  |_,_,_=>none
 | .psl o sz' off n (some cap)=>
  match km c lo 0,km c hi n,km c mx cap with
  |some a,some b,some m=>gd (0<=a/\a<=b/\b<=m/\m<=cap/\sz=sz') (.psl o sz (off+a.toNat) (b.toNat-a.toNat) (some (m.toNat-a.toNat)))
  |_,_,_=>none
 |_=>none
def ep(c:CSt):SV->Option (List UInt8)
 | .byt l _=>some l
 | .str l=>some l
 | .psl o sz off n _=>match c.look o with
  |some (.bar l)=>gd (sz=1/\off+n<=l.length) ((l.drop off).take n)
  |_=>none
 |_=>none
def fB(c:CSt)(sz:Nat):SV->Option (List (List SV))
 | .lst sz' xs _=>gd (sz=sz') xs
 | .psl o sz' off n _=>match c.look o with
  |some (.arr sz'' xs)=>gd (sz=sz'/\sz=sz''/\off+n<=xs.length) ((xs.drop off).take n)
  |_=>none
 |_=>none
def psC(c:CSt):List (Nat×Nat×Arg)->List (Nat×Nat×SV)
 |[]=> []
 |(o,n,x)::r=>(o,n,c.ev x)::psC c r
def iy(t:Bool)(a b:SV):SV:=if t=true then a else b
def cD(c:CSt):SOp->Option SV
 | .mov x=>some (c.ev x)
 | .build z ps=>(iL z (psC c ps)).map .agg
 | .lit sz xs=>(rows sz (evL c xs)).map fun r=> .lst sz r .clip
 | .litB xs=>(toB (evL c xs)).map fun r=> .byt r .clip
 | .load n ag a=>lZ c n ag (c.ev a)
 | .nchk x=>match c.ev x with
  | .ptr o off=>some (.ptr o off)
  | .ap o sz i j=>some (.ap o sz i j)
  | .pp cs=>some (.pp cs)
  | .fn f a b=>some (.fn f a b)
  |_=>none
 | .bin op x y=>Ep op (c.ev x) (c.ev y)
 | .beq ne x y=>match c.ev x,c.ev y with
  | .bool a,.bool b=>some (.bool (if ne then decide (a≠b)else decide (a=b)))
  |_,_=>none
 | .eqS ne ts x y=>match c.ev x,c.ev y with
  | .agg cs,.agg ds=>(gD ts cs ds).map fun b=> .bool (if ne then !b else b)
  |_,_=>none
 | .un op x=>wD op (c.ev x)
 | .toInt k x=>ib k (c.ev x)
 | .toStr x=>match c.ev x with| .str l=>some (.str l)|_=>none
 | .slid _=>none
 | .newB _=>none
 | .isni ne x=>match c.ev x with| .nili=>some (.bool (!ne))|_=>none
 | .s2b x=>match c.ev x with| .str l=>some (.byt l .no)|_=>none
 | .b2s x=>match c.ev x with
  | .str _=>none
  |v=>(ep c v).map .str
 | .mkfn f a b=>some (.fn f (evL c a) (evL c b))
 | .slcS x lo hi=>match c.ev x with
  | .str l=>match km c lo 0,km c hi l.length with
   |some a,some b=>gd (0<=a/\a<=b/\b<=l.length) (.str ((l.take b.toNat).drop a.toNat))
   |_,_=>none
  |_=>none
 | .slcL sz x lo hi mx=>nR c sz (c.ev x) lo hi mx
 | .slcA len sz x lo hi mx=>match c.ev x with
  | .ptr o off=>if off=0 then nR c sz (.psl o sz 0 len (some len)) lo hi mx else none
  |_=>none
 | .faddr off x=>match c.ev x with
  | .ptr o k=>some (.ptr o (k+off))
  | .ap o sz i j=>some (.ap o sz i (j+off))
  | .pp cs=>some (.pp (cs.drop off))
  |_=>none
 | .fld off n ag x=>match c.ev x with
  | .agg cs=>gd (off+n<=cs.length) (dt ag n (cs.drop off))
  |_=>none
 | .iaddrL sz x i=>match c.ev x,(c.ev i).num with
  | .byt l _,some n=>gd (0<=n/\n<l.length/\sz=1) (.pp [.u8 (l.getD n.toNat 0)])
  | .lst sz' xs _,some n=>gd (0<=n/\n<xs.length/\sz=sz') (.pp (xs.getD n.toNat []))
  | .psl o sz' off k _,some n=>gd (0<=n/\n<k/\sz=sz') (.ap o sz (off+n.toNat) 0)
  |_,_=>none
 | .iaddrA len sz x i=>match c.ev x,(c.ev i).num with
  | .ptr o off,some n=>match c.look o with
   |some (.rc _)=>gd (0<=n/\n<len) (.ptr o (off+n.toNat*sz))
   |some _=>gd (off=0/\0<=n/\n<len) (.ap o sz n.toNat 0)
   |none=>none
  | .pp cs,some n=>gd (0<=n/\n<len/\cs.length=len*sz) (.pp (cs.drop (n.toNat*sz)))
  |_,_=>none
 | .idxA len sz ag x i=>match c.ev x,(c.ev i).num with
  | .agg cs,some n=>gd (0<=n/\n<len/\cs.length=len*sz) (dt ag sz (cs.drop (n.toNat*sz)))
  |_,_=>none
 | .idxS x i=>match c.ev x,(c.ev i).num with
  | .str l,some n=>gd (0<=n/\n<l.length) (.u8 (l.getD n.toNat 0))
  |_,_=>none
 | .ext x i=>match c.ev x with
  | .tup vs=>gd (i<vs.length) (vs.getD i .undef)
  |_=>none
 | .len b x=>(jL b (c.ev x)).map fun n=> .int .i64 (n:Nat)
 | .lenC n=>some (.int .i64 n)
 | .cap x=>match c.ev x with
  | .psl _ _ _ _ (some m)=>some (.int .i64 m)
  | .byt l t=>if t= .clip then some (.int .i64 l.length)else none
  | .lst _ xs t=>if t= .clip then some (.int .i64 xs.length)else none
  |_=>none
 | .mini x y=>match c.ev x,c.ev y with
  | .int k a,.int k' b=>if k=k' then some (.int k (if b<a then b else a))else none
  |_,_=>none
 | .maxi x y=>match c.ev x,c.ev y with
  | .int k a,.int k' b=>if k=k' then some (.int k (if a<b then b else a))else none
  |_,_=>none
 |_=>none
structure nY where
 val:SV
 wr:List (Nat×aF):=[]
 new:Option aF:=none
 eat:Tok:= .no
 tok:Bool:=false
def Arg.isT:Arg->Bool
 | .t _=>true
 |_=>false
def aF.wf:aF->Bool
 | .arr sz xs=>xs.all fun x=>decide (x.length=sz)
 |_=>true
def kU(c:CSt)(n:Nat)(v:List SV):SV->Option nY
 | .ptr o off=>match c.look o with
  |some (.rc cs)=>gd (off+n<=cs.length/\v.length=n/\v.all SV.one=true) {val:= .undef,wr:=[(o,.rc (gu cs off v))]}
  |some (.arr sz xs)=>gd (off=0/\n=xs.length*sz/\v.length=n/\v.all SV.isData=true) {val:= .undef,wr:=[(o,.arr sz (jA sz xs.length (v.map SV.data)))]}
  |some (.bar l)=>match toB v with
   |some l'=>gd (off=0/\n=l.length/\l'.length=n) {val:= .undef,wr:=[(o,.bar l')]}
   |none=>none
  |_=>none
 | .ap o sz i j=>match c.look o with
  |some (.arr sz' xs)=>gd (sz=sz'/\i<xs.length/\j+n<=sz/\v.length=n/\v.all SV.isData=true) {val:= .undef,wr:=[(o,.arr sz' (jc sz xs i j n (v.map SV.data)))]}
  |some (.bar l)=>match v with
   |[.u8 b]=>gd (sz=1/\j=0/\n=1/\i<l.length) {val:= .undef,wr:=[(o,.bar (l.set i b))]}
   |_=>none
  |_=>none
 |_=>none
def Tok.readyC(c:CSt):Tok->Bool
 | .no=>false
 | .clip=>true
 | .id t=>c.tk.contains t
def dM(c:CSt)(d:Option Nat):SOp->Option nY
 | .new o=>match d with
  |some d=>gd (o.wf=true) {val:= .ptr (d+100) 0,new:=some o}
  |none=>none
 | .box x=>match d with
  |some d=>some {val:= .ptr (d+100) 0,new:=some (.rc (c.ev x).cells)}
  |none=>none
 | .mk z bytes n m=>match d,c.ev n,c.ev m with
  |some d,.int _ n,.int _ m=>gd (0<=n/\n<=m/\bytes*m<=140737488355328/\m<=9223372036854775807) {val:= .psl (d+100) z.length 0 n.toNat (some m.toNat),new:=some (.arr z.length (aE m.toNat z))}
  |_,_,_=>none
 | .mkB n m=>match d,c.ev n,c.ev m with
  |some d,.int _ n,.int _ m=>gd (0<=n/\n<=m/\m<=140737488355328) {val:= .psl (d+100) 1 0 n.toNat (some m.toNat),new:=some (.bar (aE m.toNat 0))}
  |_,_,_=>none
 | .store n a x=>if(c.ev x).isDef=true then kU c n (c.ev x).cells (c.ev a)else none
 | .app z bytes x y=>match d with
  |some d=>match c.ev x with
   | .byt l t=>(ep c (c.ev y)).bind fun l'=>gd (z.length=1/\bytes=1/\t.readyC c=true/\l.length+l'.length<=140737488355328) {val:= .byt (l++l') (.id (d+100)),eat:=t,tok:=true}
   | .lst sz' l t=>(fB c z.length (c.ev y)).bind fun l'=>gd (z.length=sz'/\t.readyC c=true/\(l.length+l'.length)*bytes<=140737488355328) {val:= .lst z.length (l++l') (.id (d+100)),eat:=t,tok:=true}
   |_=>none
  |none=>none
 | .clr z x=>match c.ev x with
  | .psl o sz' off n _=>match c.look o with
   |some (.arr sz'' xs)=>gd (0<n/\z.length=sz'/\z.length=sz''/\off+n<=xs.length) {val:= .tup [],wr:=[(o,.arr z.length (xs.take off++aE n z++xs.drop (off+n)))]}
   |_=>none
  |_=>none
 | .cpy sz x y=>match c.ev x with
  | .psl o sz' off n _=>match c.look o with
   |some (.bar l)=>(ep c (c.ev y)).bind fun l'=>gd (sz=1/\sz'=1/\off+n<=l.length) {val:= .int .i64 (min l'.length n:Nat),wr:=[(o,.bar (l.take off++l'.take n++l.drop (off+(l'.take n).length)))]}
   |some (.arr sz'' xs)=>(fB c sz (c.ev y)).bind fun l'=>gd (y.isT=true/\sz=sz'/\sz=sz''/\off+n<=xs.length) {val:= .int .i64 (min l'.length n:Nat),wr:=[(o,.arr sz (xs.take off++l'.take n++xs.drop (off+(l'.take n).length)))]}
   |_=>none
  |_=>none
 | .pick k a b=>match c.ev k with
  | .bool t=>some {val:=iy t (c.ev a) (c.ev b)}
  |_=>none
 | .call _ _=>none
 | .isnil ne x=>match c.ev x with
  | .byt l _=>gd (l≠ []) {val:= .bool ne}
  | .lst _ xs _=>gd (xs≠ []) {val:= .bool ne}
  | .psl _ _ _ _ _=>some {val:= .bool ne}
  |_=>none
 |so=>match cD c so with
  |some v=>some {val:=v}
  |none=>none
def CSt.wr(c:CSt):List (Nat×aF)->CSt
 |[]=>c
 |p::r=>CSt.wr ⟨c.tm,iQ c.ob p.1 p.2,c.tk⟩ r
def CSt.app(c:CSt)(d:Option Nat)(e:nY):CSt:=
 match e.new,e.tok with
 |some o,_=>CSt.put ⟨df (d.getD 0+100) (d.getD 0+101) c.tm,iQ (bx (d.getD 0+100) (d.getD 0+101) c.ob) (d.getD 0+100) (o.purge (d.getD 0+100) (d.getD 0+101)),cg (d.getD 0+100) (d.getD 0+101) c.tk⟩ d e.val
 |none,true=>CSt.put ⟨df (d.getD 0+100) (d.getD 0+101) c.tm,bx (d.getD 0+100) (d.getD 0+101) c.ob,mf (cg (d.getD 0+100) (d.getD 0+101) (e.eat.eat c.tk)) (d.getD 0+100)⟩ d e.val
 |none,false=>(c.wr e.wr).put d e.val
end Go.Sy
namespace Go.Sy
variable [aZ]
mutual
def SV.bare:SV->SV
 | .byt l _=> .byt l .no
 | .lst sz xs _=> .lst sz xs .no
 | .agg cs=> .agg (SV.bareL cs)
 | .tup cs=> .tup (SV.bareL cs)
 | .fn f a b=> .fn f (SV.bareL a) (SV.bareL b)
 |v=>v
def SV.bareL:List SV->List SV
 |[]=> []
 |v::r=>v.bare::SV.bareL r
end
def xv(obj:aF)(sz off n:Nat)(cap:Option Nat):SV:=
 match obj with
 | .arr sz' xs=>if sz'=sz/\off+n<=xs.length then .lst sz ((xs.drop off).take n) (if cap=some n then .clip else .no)else .undef
 | .bar l=>if sz=1/\off+n<=l.length then .byt ((l.drop off).take n) (if cap=some n then .clip else .no)else .undef
 | .rc _=> .undef
mutual
def SV.pub(o:Nat)(obj:aF):SV->SV
 | .psl o' sz off n cap=>if o'=o then xv obj sz off n cap else .psl o' sz off n cap
 | .ptr o' off=>if o'=o then .undef else .ptr o' off
 | .ap o' sz i j=>if o'=o then .undef else .ap o' sz i j
 | .agg cs=> .agg (SV.pubL o obj cs)
 | .tup cs=> .tup (SV.pubL o obj cs)
 | .fn f a b=> .fn f (SV.pubL o obj a) (SV.pubL o obj b)
 |v=>v
def SV.pubL(o:Nat)(obj:aF):List SV->List SV
 |[]=> []
 |v::r=>v.pub o obj::SV.pubL o obj r
end
def ly(o:Nat)(obj:aF):List (Nat×SV)->List (Nat×SV)
 |[]=> []
 |p::r=>(p.1,p.2.pub o obj)::ly o obj r
def nE(o:Nat)(obj:aF):aF->aF
 | .rc cs=> .rc (SV.pubL o obj cs)
 |ob=>ob
def kY(o:Nat)(obj:aF):List (Nat×aF)->List (Nat×aF)
 |[]=> []
 |p::r=>if p.1=o then kY o obj r else(p.1,nE o obj p.2)::kY o obj r
def CSt.publish(c:CSt)(o:Nat)(vs:List SV):CSt×List SV:=
 match c.look o with
 |some (.arr sz xs)=>(⟨ly o (.arr sz xs) c.tm,kY o (.arr sz xs) c.ob,c.tk⟩,SV.pubL o (.arr sz xs) vs)
 |some (.bar l)=>(⟨ly o (.bar l) c.tm,kY o (.bar l) c.ob,c.tk⟩,SV.pubL o (.bar l) vs)
 |_=>(c,vs)
def gN:SV->List Nat
 | .psl o _ _ _ _=> [o]
 |_=> []
def tY:List SV->List Nat
 |[]=> []
 |v::r=>gN v++tY r
def mb(raw:List Nat)(i:Nat):SV->List Nat
 | .psl o _ _ _ _=>if raw.contains i=true then []else [o]
 | .agg cs=>if raw.contains i=true then []else tY cs
 |_=> []
def iY(raw:List Nat):Nat->List SV->List Nat
 |_,[]=> []
 |i,v::r=>mb raw i v++iY raw (i+1) r
def eC(c:CSt)(vs:List SV):List Nat->CSt×List SV
 |[]=>(c,vs)
 |o::r=>eC (c.publish o vs).1 (c.publish o vs).2 r
def Tok.kc:Tok->Bool->Tok
 | .clip,b=>if b=true then .clip else .no
 | .no,_=> .no
 | .id _,_=> .no
def SV.kclip:SV->SV
 | .lst sz xs t=> .lst sz xs (t.kc xs.isEmpty)
 | .byt l t=> .byt l (t.kc l.isEmpty)
 |v=>v.bare
def jO(tk:List Nat)(j:Nat):SV->SV×List (Option Nat)
 | .agg cs=>(.agg (cs.map SV.kclip),[])
 | .byt l .no=>(.byt l .no,[])
 | .byt l .clip=>(.byt l (.id j),[none])
 | .byt l (.id t)=>if tk.contains t=true then(.byt l (.id j),[some t])else(.byt l .no,[])
 | .lst sz xs .no=>(.lst sz xs .no,[])
 | .lst sz xs .clip=>(.lst sz xs (.id j),[none])
 | .lst sz xs (.id t)=>if tk.contains t=true then(.lst sz xs (.id j),[some t])else(.lst sz xs .no,[])
 |v=>(v.bare,[])
def tV(j sz:Nat)(xs:List (List SV)):Bool->SV×List (Option Nat)
 |true=>(.lst sz xs .clip,[])
 |false=>(.lst sz xs (.id j),[none])
def tU(tk:List Nat)(j sz:Nat)(xs:List (List SV)):Tok->SV×List (Option Nat)
 | .clip=>tV j sz xs xs.isEmpty
 | .no=>jO tk j (.lst sz xs .no)
 | .id t=>jO tk j (.lst sz xs (.id t))
def rk(tk:List Nat)(j:Nat):SV->SV×List (Option Nat)
 | .lst sz xs t=>tU tk j sz xs t
 |v=>jO tk j v
def jP(tk:List Nat)(own:List Nat):Nat->Nat->List SV->List SV×List (Option Nat)
 |_,_,[]=>([],[])
 |j,i,v::r=>
  if own.contains i=true then
   ((rk tk j v).1::(jP tk own (j+(rk tk j v).2.length) (i+1) r).1,(rk tk j v).2++(jP tk own (j+(rk tk j v).2.length) (i+1) r).2)
  else(v.bare::(jP tk own j (i+1) r).1,(jP tk own j (i+1) r).2)
def sD(tk:List Nat):Nat->List SV->List SV×List (Option Nat)
 |_,[]=>([],[])
 |j,v::r=>((jO tk j v).1::(sD tk (j+(jO tk j v).2.length) r).1,(jO tk j v).2++(sD tk (j+(jO tk j v).2.length) r).2)
def jF(tk:List Nat)(j:Nat):aF->aF×List (Option Nat)
 | .rc cs=>(.rc (sD tk j cs).1,(sD tk j cs).2)
 |o=>(o,[])
def dQ(tk:List Nat):Nat->List aF->List aF×List (Option Nat)
 |_,[]=>([],[])
 |j,v::r=>((jF tk j v).1::(dQ tk (j+(jF tk j v).2.length) r).1,(jF tk j v).2++(dQ tk (j+(jF tk j v).2.length) r).2)
def cf:List (Option Nat)->List Nat
 |[]=> []
 |none::r=>cf r
 |some t::r=>t::cf r
def dF(c:CSt):Nat->List Nat->List Nat->List Nat
 |0,acc,_=>acc
 |_+1,acc,[]=>acc
 |
  f+1,acc,o::t=>if acc.contains o=true then dF c f acc t else
  match c.look o with
  |some ob=>dF c f (acc++ [o]) (t++ob.ids)
  |none=>dF c f acc t
def gp(c:CSt):List Nat->Option (List aF)
 |[]=>some []
 |o::r=>match c.look o,gp c r with
  |some ob,some l=>some (ob::l)
  |_,_=>none
def gA:List Nat->Nat->Nat
 |[],_=>0
 |p::r,o=>if p=o then 0 else gA r o+1
def ft:List aF->List Nat
 |[]=> []
 |o::r=>o.ids++ft r
def dr:List Nat->Bool
 |[]=>true
 |a::r=> !r.contains a&&dr r
def oj(a b:List Nat):Bool:=a.all b.contains
def ed(mo mt:Nat->Nat):List aF->List aF
 |[]=> []
 |o::r=>o.ren mo mt::ed mo mt r
structure dO where
 r:SV
 os:List (Nat×aF)
 tk:List Nat
structure Sig where
 own:List Nat:=[]
 raw:List Nat:=[]
def qY(ob:List (Nat×aF)):List (Nat×aF)->List (Nat×aF)
 |[]=>ob
 |p::r=>qY (iQ ob p.1 p.2) r
def qZ(tk:List Nat):List Nat->List Nat
 |[]=>tk
 |t::r=>qZ (mf tk t) r
def l6(l:List Nat):List Nat->List Nat
 |[]=> []
 |t::r=>if l.contains t=true then l6 l r else t::l6 l r
def qS(d:Nat):List Nat->List Nat
 |[]=> []
 |t::r=>kj d t::qS d r
def dO.small(q:dO):Bool:=q.os.all (fun p=>decide (p.1<1000)&&p.2.ids.all (fun k=>decide (k<1000))&&p.2.toks.all (fun k=>decide (k<1000)))&&q.r.ids.all (fun k=>decide (k<1000))&&q.r.toks.all (fun k=>decide (k<1000))&&q.tk.all (fun k=>decide (k<1000))
def jN(c:CSt)(d:Option Nat)(m mt:List Nat)(q:dO):CSt:=
 CSt.put ⟨df ((d.getD 0+1)*1000) ((d.getD 0+2)*1000) c.tm,
  qY (eS m (bx ((d.getD 0+1)*1000) ((d.getD 0+2)*1000) c.ob)) (oA (d.getD 0) m q.os),
  qZ (l6 mt (cg ((d.getD 0+1)*1000) ((d.getD 0+2)*1000) c.tk)) (qS (d.getD 0) q.tk)⟩ d (q.r.ren (iO (d.getD 0) m) (kj (d.getD 0)))
abbrev cU:=Nat->List SV->List aF->Nat->Option dO
def dO.bare(q:dO):Bool:=q.os.isEmpty&&q.tk.isEmpty&&q.r.ids.isEmpty&&q.r.toks.isEmpty
def xR(c:CSt)(d:Option Nat)(q:dO):Bool->Option CSt
 |true=>some (jN c d [] [] q)
 |false=>none
def nI(c:CSt)(d:Option Nat)(q:dO):Bool->Option CSt
 |true=>some (c.put d q.r)
 |false=>xR c d q q.small
def l4(c:CSt)(d:Option Nat):Option dO->Option CSt
 |some q=>nI c d q q.bare
 |none=>none
def wW(c:CSt)(d:Option Nat)(m mt:List Nat)(q:dO):Bool->Option CSt
 |true=>some (jN c d m mt q)
 |false=>none
def ou(c:CSt)(d:Option Nat)(m mt:List Nat):Option dO->Option CSt
 |some q=>wW c d m mt q q.small
 |none=>none
def np(call:cU)(c:CSt)(d:Option Nat)(g:Nat)(as:List SV)(mt1:List (Option Nat))(m:List Nat)(os:List aF)(mt2:List (Option Nat)):Bool->Option CSt
 |true=>ou c d m (cf (mt1++mt2)) (call g (SV.renL (gA m) id as) (ed (gA m) id os) (mt1.length+mt2.length))
 |false=>none
def nq(call:cU)(c:CSt)(d:Option Nat)(g:Nat)(as:List SV)(mt1:List (Option Nat))(m:List Nat):List aF×List (Option Nat)->Option CSt
 |(os,mt2)=>np call c d g as mt1 m os mt2 (oj (SV.idsL as++ft os) m&&dr m&&dr (cf (mt1++mt2))&&decide (m.length<=40)&&m.all fun o=> !inR (d.getD 0) o)
def lr(call:cU)(c:CSt)(d:Option Nat)(g:Nat)(as:List SV)(mt1:List (Option Nat))(m:List Nat):Option (List aF)->Option CSt
 |some os=>nq call c d g as mt1 m (dQ c.tk (50+mt1.length) os)
 |none=>none
def nt(call:cU)(c:CSt)(d:Option Nat)(g:Nat):List SV×List (Option Nat)->Option CSt
 |(as,mt1)=>lr call c d g as mt1 (dF c 60 [] (SV.idsL as)) (gp c (dF c 60 [] (SV.idsL as)))
def jG(call:cU)(sg:Sig)(d:Option Nat)(g:Nat):CSt×List SV->Option CSt
 |(c,as)=>nt call c d g (jP c.tk sg.own 50 0 as)
def jM(call:cU)(sg:Sig)(c:CSt)(d:Option Nat)(g:Nat)(as:List SV):Bool->Option CSt
 |true=>l4 c d (call g (SV.bareL as) [] 0)
 |false=>jG call sg d g (eC c as (iY sg.raw 0 as))
def io(call:cU)(sg:Sig)(c:CSt)(d:Option Nat)(g:Nat)(as:List SV):Option CSt:=
 jM call sg c d g as ((SV.idsL as).isEmpty&&sg.own.isEmpty)
inductive Dir where
 |kill (l:List Nat)
 |gc (l:List Nat)
 |gcr (lo hi:Nat)
 |pub (n:Nat)
 |pubo (o:Nat)
 |tok (n id:Nat)
 |obj (n id:Nat)
inductive RI where
 |op (i:SI) (dead:List Nat)
 |grp (g:Nat) (b:Bool) (l:List SI) (dead:List Nat)
 |own (i:SI) (dead:List Nat)
 |tks (i:SI) (dead:List Nat)
 |dir (d:Dir)
structure FI where
 n:Nat
 q:Bool
 i:SI
inductive RC where
 |skip
 |ops (l:List RI)
 |flt (b ds:List Nat) (l:List FI) (dead:List Nat)
 |fla (b ds:List Nat) (l:List FI) (ps:List (List Nat)) (dead:List Nat)
 |seq (a b:RC)
 |cond (c:Arg) (a b:RC)
 |block (id:Nat) (b:RC)
 |loop (b:RC)
 |exit (id:Nat)
 |ret
 |pre (ds:List Dir) (a:RC)
 |post (a:RC) (ds:List Dir)
 |bad
def erL:List RI->List SI
 |[]=> []
 | .op i _::r=>i::erL r
 | .grp _ _ l _::r=>l++erL r
 | .own i _::r=>i::erL r
 | .tks i _::r=>i::erL r
 | .dir _::r=>erL r
def SOp.er:SOp->SOp
 | .appO z b x y=> .app z b x y
 |o=>o
def SI.er(i:SI):SI:=⟨i.dst,i.g,i.op.er⟩
def D8:List FI->Nat->SI
 |[],_=>⟨none,none,.lenC 0⟩
 |f::r,k=>if f.n=k then f.i.er else D8 r k
def unF(l:List FI):List SI:=(bE l.length).map (D8 l)
def RC.er:RC->fV
 | .skip=> .skip
 | .ops l=> .ops (erL l)
 | .flt b ds l _=> .drw b ds (unF l)
 | .fla b ds l _ _=> .drw b ds (unF l)
 | .seq a b=> .seq a.er b.er
 | .cond c a b=> .cond c a.er b.er
 | .block id b=> .block id b.er
 | .loop b=> .loop b.er
 | .exit id=> .exit id
 | .ret=> .ret
 | .pre _ a=>a.er
 | .post a _=>a.er
 | .bad=> .bad
def gcC(c:CSt):List Nat->CSt
 |[]=>c
 |o::r=>gcC (c.purge o (o+1)) r
def DV(c:CSt)(n id o:Nat)(obj:aF)(v:SV):CSt:=
 ⟨jp (df id (id+1) (ly o obj c.tm)) n v,bx id (id+1) (kY o obj c.ob),mf (cg id (id+1) c.tk) id⟩
def PZ(c:CSt)(n id o sz off k cp:Nat):Option aF->Option CSt
 |some (.bar l)=>if sz=1/\off+cp<=l.length/\k<=cp then some (DV c n id o (.bar (l.take (off+k))) (.byt ((l.drop off).take k) (.id id)))else some c
 |some (.arr sz' xs)=>if sz'=sz/\off+cp<=xs.length/\k<=cp then some (DV c n id o (.arr sz' (xs.take (off+k))) (.lst sz ((xs.drop off).take k) (.id id)))else some c
 |_=>some c
def P3(c:CSt)(n id:Nat):SV->Option CSt
 | .byt l t=>match t with
  | .no=>some c
  | .clip=>some ⟨jp (df id (id+1) c.tm) n (.byt l (.id id)),bx id (id+1) c.ob,mf (cg id (id+1) c.tk) id⟩
  | .id t=>if t=id then some c else if c.tk.contains t=true then some ⟨jp (df id (id+1) c.tm) n (.byt l (.id id)),bx id (id+1) c.ob,mf (cg id (id+1) (cg t (t+1) c.tk)) id⟩else none
 | .lst sz xs t=>match t with
  | .no=>some c
  | .clip=>some ⟨jp (df id (id+1) c.tm) n (.lst sz xs (.id id)),bx id (id+1) c.ob,mf (cg id (id+1) c.tk) id⟩
  | .id t=>if t=id then some c else if c.tk.contains t=true then some ⟨jp (df id (id+1) c.tm) n (.lst sz xs (.id id)),bx id (id+1) c.ob,mf (cg id (id+1) (cg t (t+1) c.tk)) id⟩else none
 | .psl o sz off k (some cp)=>PZ c n id o sz off k cp (c.look o)
 |_=>some c
def mvC(c:CSt)(n id o sz off k:Nat)(cap:Option Nat)(obj:aF):CSt:=
 ⟨jp (df id (id+1) (df o (o+1) c.tm)) n (.psl id sz off k cap),iQ (bx id (id+1) (bx o (o+1) c.ob)) id obj,cg id (id+1) (cg o (o+1) c.tk)⟩
def xl1(c:CSt)(n id o sz off k:Nat)(cap:Option Nat):Option aF->Option CSt
 |some (.bar l)=>some (mvC c n id o sz off k cap (.bar l))
 |some (.arr sz' xs)=>some (mvC c n id o sz off k cap (.arr sz' xs))
 |_=>some c
def Zm(c:CSt)(n id:Nat):SV->Option CSt
 | .psl o sz off k cap=>if o=id then some c else xl1 c n id o sz off k cap (c.look o)
 |_=>some c
def qD(c:CSt):Dir->Option CSt
 | .kill l=>some (c.kill l)
 | .gc l=>some (gcC c l)
 | .gcr lo hi=>some (c.purge lo hi)
 | .pubo o=>some (c.publish o []).1
 | .pub n=>match c.get n with
  | .psl o _ _ _ _=>some (c.publish o []).1
  |_=>some c
 | .tok n id=>if id=99 then none else P3 c n id (c.get n)
 | .obj n id=>if id<100 then none else Zm c n id (c.get n)
def iD(c:CSt):List Dir->Option CSt
 |[]=>some c
 |d::r=>match qD c d with
  |some c'=>iD c' r
  |none=>none
inductive Ex where
 |n
 |x (id:Nat)
 |r
abbrev gI:=Option (Ex×CSt)
def nb(c:CSt)(d:Option Nat):Option nY->Option CSt
 |some e=>some (c.app d e)
 |none=>none
def nG(c:CSt):Option Nat->Option (List UInt8)->Option CSt
 |some k,some l=>some (c.app (some k) {val:= .psl (k+100) 1 0 l.length (some l.length),new:=some (.bar l)})
 |_,_=>none
def ov(c:CSt)(d:Option Nat)(o off n:Nat)(cap:Option Nat):Option aF->Option CSt
 |some (.bar l)=>if off+n<=l.length/\cap=some n then some (((c.publish o []).1).put d (.byt ((l.drop off).take n) .clip))else none
 |_=>none
def qQ(c:CSt)(d:Option Nat):SV->Option CSt
 | .psl o 1 off n cap=>ov c d o off n cap (c.look o)
 |_=>none
def Rh(c:CSt):Option Nat->SV->Option CSt
 |some k,.str l=>some (c.app (some k) {val:= .psl (k+100) 1 0 l.length none,new:=some (.bar l)})
 |_,_=>none
def Rg(c:CSt)(z:List SV)(bytes:Nat)(l:List UInt8):Option Nat->Option (List UInt8)->Option CSt
 |some k,some l'=>if z.length≠1 then none else if l'=[]then some (c.put (some k) (.byt l .clip))else if bytes=1/\l.length+l'.length<=140737488355328 then some (c.app (some k) {val:= .psl (k+100) 1 0 (l.length+l'.length) none,new:=some (.bar (l++l'))})else none
 |_,_=>none
def Rf(c:CSt)(z:List SV)(bytes sz:Nat)(l:List (List SV)):Option Nat->Option (List (List SV))->Option CSt
 |some k,some l'=>if l'=[]then some (c.put (some k) (.lst sz l .clip))else if z.length=sz/\(l.length+l'.length)*bytes<=140737488355328 then some (c.app (some k) {val:= .psl (k+100) sz 0 (l.length+l'.length) none,new:=some (.arr sz (l++l'))})else none
 |_,_=>none
def NI(c:CSt)(z:List SV)(bytes o sz n:Nat):Option Nat->Option (List (List SV))->Option (List (List SV))->Option CSt
 |some k,some R,some l'=>if z.length=sz/\R.length=n/\(n+l'.length)*bytes<=140737488355328 then some ((c.purge o (o+1)).app (some k) {val:= .psl (k+100) sz 0 (n+l'.length) none,new:=some (.arr sz (R++l'))})else none
 |_,_,_=>none
def rz(c:CSt)(d:Option Nat)(z:List SV)(bytes:Nat)(y:Arg):SV->Option CSt
 | .byt l t=>if t= .clip then Rg c z bytes l d (ep c (c.ev y))else none
 | .lst sz l t=>if t= .clip then Rf c z bytes sz l d (fB c z.length (c.ev y))else none
 | .psl o sz 0 n none=>NI c z bytes o sz n d (fB c z.length (.psl o sz 0 n none)) (fB c z.length (c.ev y))
 |_=>none
def opC(call:cU)(sg:Nat->Sig)(c:CSt)(d:Option Nat)(o:SOp):Option CSt:=
 match o with
 | .newB xs=>nG c d (toB (evL c xs))
 | .slid x=>qQ c d (c.ev x)
 | .appO z bytes x y=>rz c d z bytes y (c.ev x)
 | .call f as=>match c.ev f with
  | .fn g a b=>io call (sg g) c d g (a++evL c as++b)
  |_=>none
 |o=>nb c d (dM c d o)
def dE(call:cU)(sg:Nat->Sig)(c:CSt)(i:SI):Option CSt:=
 match i.g with
 |none=>opC call sg c i.dst i.op
 |some (g,b)=>match c.get g with
  | .bool t=>if t=b then opC call sg c i.dst i.op else some (c.put i.dst (.tup []))
  | .tup []=>some (c.put i.dst (.tup []))
  |_=>none
mutual
def plC(call:cU)(sg:Nat->Sig):List SI->CSt->Option CSt
 |[],c=>some c
 |i::r,c=>nxP call sg r (opC call sg c i.dst i.op)
def nxP(call:cU)(sg:Nat->Sig):List SI->Option CSt->Option CSt
 |r,some c=>plC call sg r c
 |_,none=>none
end
def unL(c:CSt):List SI->CSt
 |[]=>c
 |i::r=>unL (c.put i.dst (.tup [])) r
def oU(call:cU)(sg:Nat->Sig)(b:Bool)(l:List SI)(c:CSt):SV->Option CSt
 | .bool t=>if t=b then plC call sg l c else some (unL c l)
 | .tup []=>some (unL c l)
 |_=>none
def Re(c:CSt)(sz:Nat):Option Nat->Option (List (List SV))->Option CSt
 |some k,some xs=>some (c.app (some k) {val:= .psl (k+100) sz 0 xs.length (some xs.length),new:=some (.arr sz xs)})
 |_,_=>none
def xlZ(c:CSt)(d:Option Nat):SOp->Option CSt
 | .lit sz xs=>Re c sz d (rows sz (evL c xs))
 | .litB xs=>nG c d (toB (evL c xs))
 | .s2b x=>Rh c d (c.ev x)
 | .app z bytes x y=>rz c d z bytes y (c.ev x)
 |_=>none
def P5(c:CSt):Option Nat->SV->Option CSt
 |some k,.str l=>some (c.app (some k) {val:= .byt l (.id (k+100)),tok:=true})
 |_,_=>none
def xke(c:CSt)(d:Option Nat):SOp->Option CSt
 | .s2b x=>P5 c d (c.ev x)
 |_=>none
def An(c:CSt)(i:SI):Option CSt:=match i.g with
 |none=>xke c i.dst i.op
 |some _=>none
def sX(c:CSt)(i:SI):Option CSt:=match i.g with
 |none=>xlZ c i.dst i.op
 |some _=>none
mutual
def fz(call:cU)(sg:Nat->Sig):List RI->CSt->Option CSt
 |[],c=>some c
 | .op i dead::r,c=>nxC call sg dead r (dE call sg c i)
 | .grp g b l dead::r,c=>nxC call sg dead r (oU call sg b l c (c.get g))
 | .own i dead::r,c=>nxC call sg dead r (sX c i)
 | .tks i dead::r,c=>nxC call sg dead r (An c i)
 | .dir d::r,c=>nxC call sg [] r (qD c d)
def nxC(call:cU)(sg:Nat->Sig)(dead:List Nat):List RI->Option CSt->Option CSt
 |r,some c=>fz call sg r (c.kill dead)
 |_,none=>none
end
def cV(c:CSt):SOp->Option SV
 | .pick k a b=>match c.ev k with
  | .bool t=>some (iy t (c.ev a) (c.ev b))
  |_=>none
 |so=>cD c so
def qg(c:CSt)(o:SOp)(b:Bool):SV->Option SV
 | .bool t=>if t=b then cV c o else some (.tup [])
 | .tup []=>some (.tup [])
 |_=>none
def qv(c:CSt)(i:SI):Option SV:=match i.g with
 |none=>cV c i.op
 |some (g,b)=>qg c i.op b (c.get g)
def tn(m:Nat)(c:CSt):List FI->Prop
 |[]=>True
 |p::r=>(m/2^p.n % 2=1\/qv c p.i=some (c.get (p.i.dst.getD 0)))/\tn m c r
open Classical in
noncomputable def gdP{α:Type}(p:Prop)(v:α):Option α:=if p then some v else none
mutual
noncomputable def eQ(call:cU)(sg:Nat->Sig)(b:List Nat):List FI->List FI->CSt->Option CSt
 |[],_,c=>some c
 |⟨n,true,i⟩::r,ps,c=>vR call sg b r (⟨n,true,i⟩::ps) c i.dst (qv c i)
 |⟨n,false,i⟩::r,ps,c=>qz call sg b r ps (b.getD n 0) (dE call sg c i)
noncomputable def vR(call:cU)(sg:Nat->Sig)(b:List Nat):List FI->List FI->CSt->Option Nat->Option SV->Option CSt
 |r,ps,c,d,some v=>eQ call sg b r ps (c.put d v)
 |_,_,_,_,none=>none
noncomputable def qz(call:cU)(sg:Nat->Sig)(b:List Nat):List FI->List FI->Nat->Option CSt->Option CSt
 |r,ps,m,some c=>qA call sg b r ps (gdP (tn m c ps) c)
 |_,_,_,none=>none
noncomputable def qA(call:cU)(sg:Nat->Sig)(b:List Nat):List FI->List FI->Option CSt->Option CSt
 |r,ps,some c=>eQ call sg b r ps c
 |_,_,none=>none
end
def ur:List FI->Nat->FI
 |[],k=>⟨k,false,⟨none,none,.lenC 0⟩⟩
 |f::r,k=>if f.n=k then f else ur r k
def iG(l:List FI):List Nat->List FI
 |[]=> []
 |k::r=>ur l k::iG l r
noncomputable def nJ:Option CSt->Option CSt->Option CSt
 |some a,some b=>gdP (a=b) a
 |_,_=>none
noncomputable def i9(call:cU)(sg:Nat->Sig)(b:List Nat)(l:List FI):List (List Nat)->CSt->Option CSt
 |[],_=>none
 |[p],c=>eQ call sg b (iG l p) [] c
 |p::q::r,c=>nJ (eQ call sg b (iG l p) [] c) (i9 call sg b l (q::r) c)
def nrm(dead:List Nat):Option CSt->gI
 |some c=>some (.n,c.kill dead)
 |none=>none
def sq(rn:RC->CSt->gI)(b:RC):gI->gI
 |some (.n,c)=>rn b c
 |r=>r
def cnd(rn:RC->CSt->gI)(a b:RC)(c:CSt):SV->gI
 | .bool t=>if t=true then rn a c else rn b c
 |_=>none
def blk(id:Nat):gI->gI
 |some (.x id',c)=>if id'=id then some (.n,c)else some (.x id',c)
 |r=>r
def lp(rn:RC->CSt->gI)(b:RC):gI->gI
 |some (.n,c)=>rn (.loop b) c
 |r=>r
def prD(rn:RC->CSt->gI)(a:RC):Option CSt->gI
 |some c=>rn a c
 |none=>none
def psD(ds:List Dir):gI->gI
 |some (.n,c)=>match iD c ds with
  |some c'=>some (.n,c')
  |none=>none
 |r=>r
noncomputable def dD(rn:RC->CSt->gI)(call:cU)(sg:Nat->Sig):RC->CSt->gI
 | .skip,c=>some (.n,c)
 | .ops l,c=>nrm [] (fz call sg l c)
 | .flt b _ l dead,c=>nrm dead (eQ call sg b l [] c)
 | .fla b _ l ps dead,c=>nrm dead (i9 call sg b l ps c)
 | .seq a b,c=>sq rn b (rn a c)
 | .cond k a b,c=>cnd rn a b c (c.ev k)
 | .block id b,c=>blk id (rn b c)
 | .loop b,c=>lp rn b (rn b c)
 | .exit id,c=>some (.x id,c)
 | .ret,c=>some (.r,c)
 | .pre ds a,c=>prD rn a (iD c ds)
 | .post a ds,c=>psD ds (rn a c)
 | .bad,_=>none
def SI.ok(N:Nat)(i:SI):Bool:=match i.dst with
 |some d=>decide (d<N)
 |none=>true
def SI.okG(N g:Nat)(b:Bool)(i:SI):Bool:=i.ok N&&(match i.g with|some (g',b')=>decide (g'=g)&&(b'==b)|none=>false)&&decide (i.dst≠some g)
def RI.ok(N:Nat):RI->Bool
 | .op i _=>i.ok N
 | .grp g b l _=>l.all (SI.okG N g b)
 | .own i _=>i.ok N
 | .tks i _=>i.ok N
 | .dir _=>true
def m9(b:List Nat)(i j:Nat):Bool:=(b.getD j 0).testBit i
def ny(b:List Nat):Option Nat->List FI->Bool
 |_,[]=>true
 |
  s,f::r=>if f.q then(match s with|some s=>m9 b s f.n|none=>true)&&ny b s r
  else(match s with|some s=>m9 b s f.n|none=>true)&&ny b (some f.n) r
def NH(b:List Nat)(p q:FI):Bool:= !m9 b q.n p.n&&(p.q||q.q||m9 b p.n q.n)
def oJ(b:List Nat):List FI->Bool
 |[]=>true
 |p::r=>r.all (NH b p)&&oJ b r
def SI.rds(i:SI):List Nat:=i.op.args.filterMap (fun| .t n=>some n|_=>none)++(match i.g with|some (g,_)=> [g]|none=> [])
def RW(b:List Nat)(l:List FI):Bool:=l.all fun q=> !q.q||(match q.i.dst with|some d=>l.all fun p=> !p.i.rds.contains d||(m9 b q.n p.n&&decide (p.n≠q.n))|none=>false)
def OX(b:List Nat)(l:List FI):Bool:=ny b none l&&oJ b l&&RW b l&&decide ((l.map FI.n).Nodup)&&l.all (fun f=>decide (f.n<l.length))&&(bE l.length).all (l.map FI.n).contains
def xe(b:List Nat):Option Nat->List FI->Bool
 |_,[]=>true
 |s,f::r=>if f.q then(match s with|some s=>m9 b s f.n|none=>true)&&xe b s r else xe b (some f.n) r
def ut(b:List Nat):List FI->Bool
 |[]=>true
 |p::r=>r.all (fun q=> !m9 b q.n p.n)&&ut b r
def fc(l:List FI):List Nat:=l.filterMap fun f=>if f.q then none else some f.n
def kP(b:List Nat):Nat->List (List Nat)->Bool
 |_,[]=>false
 |_,[]::_=>true
 |0,_=>false
 |k+1,A@((h::t)::_)=>(h::t).all fun g=>(h::t).any (fun x=>decide (x≠g)&&m9 b x g)||kP b k (A.filterMap fun p=>match p with|x::r=>if x=g then some r else none|[]=>none)
def Pn(b:List Nat)(l:List FI)(ps:List (List Nat)):Bool:=
 RW b l&&decide ((l.map FI.n).Nodup)&&l.all (fun f=>decide (f.n<l.length))&&(bE l.length).all (l.map FI.n).contains&&
 ps.all (fun p=>decide p.Nodup&&p.all (l.map FI.n).contains&&(l.map FI.n).all p.contains&&xe b none (iG l p)&&ut b (iG l p))&&kP b l.length (ps.map fun p=>fc (iG l p))
def RC.ok(N:Nat):RC->Bool
 | .ops l=>l.all (RI.ok N)
 | .flt b _ l _=>l.all (fun f=>f.i.ok N)&&OX b l
 | .fla b _ l ps _=>l.all (fun f=>f.i.ok N)&&Pn b l ps
 | .seq a b=>a.ok N&&b.ok N
 | .cond _ a b=>a.ok N&&b.ok N
 | .block _ b=>b.ok N
 | .loop b=>b.ok N
 | .pre _ a=>a.ok N
 | .post a _=>a.ok N
 |_=>true
inductive RV where
 |tmp (t:Nat)
 |cell (t n:Nat) (ag:Bool)
structure FnC where
 code:RC
 n:Nat
 rs:List RV
 keep:List Nat:=[]
 raw:List Nat:=[]
inductive FnB where
 |code (F:FnC)
 |prim (f:List SV->List aF->Nat->Option dO)
structure fH where
 fn:Nat->Option FnB
 sg:Nat->Sig
def rx(c:CSt):List RV->Option (List SV)
 |[]=>some []
 | .tmp t::r=>match rx c r with
  |some vs=>some (c.get t::vs)
  |none=>none
 | .cell t n ag::r=>match (if ag=true\/n=1 then lZ c n ag (c.get t)else none),rx c r with
  |some v,some vs=>some (v::vs)
  |_,_=>none
def kS:Nat->List Nat
 |0=> []
 |n+1=>kS n++ [n]
def fN(k:Nat):List aF->List (Nat×aF)
 |[]=> []
 |o::r=>(k,o)::fN (k+1) r
def gQ(k:Nat)(m:List Nat)(o:Nat):Nat:=if o<k then o else 100+gA m o
def tks(b n:Nat):List Nat:=(kS n).map (b+ ·)
def ZB(k:Nat)(vs:List SV)(mt1:List (Option Nat))(m:List Nat)(os:List aF)(mt2:List (Option Nat)):Bool->Option dO
 |true=>some ⟨(jq vs).ren (gQ k m) id,(fN 0 (ed (gQ k m) id (os.take k)))++(fN (100+k) (ed (gQ k m) id (os.drop k))),tks 60 (mt1.length+mt2.length)⟩
 |false=>none
def ZC(k:Nat)(vs:List SV)(mt1:List (Option Nat))(m:List Nat):List aF×List (Option Nat)->Option dO
 |(os,mt2)=>ZB k vs mt1 m os mt2 (oj (SV.idsL vs++ft os) m&&dr m&&dr (cf (mt1++mt2))&&decide (m.take k=kS k)&&(m.drop k).all fun o=>decide (k<=o))
def ZD(k:Nat)(c:CSt)(vs:List SV)(mt1:List (Option Nat))(m:List Nat):Option (List aF)->Option dO
 |some os=>ZC k vs mt1 m (dQ c.tk (60+mt1.length) os)
 |none=>none
def ZE(k:Nat)(c:CSt):List SV×List (Option Nat)->Option dO
 |(vs,mt1)=>ZD k c vs mt1 (dF c 60 [] (kS k++SV.idsL vs)) (gp c (dF c 60 [] (kS k++SV.idsL vs)))
def N1(keep:List Nat)(k:Nat)(c:CSt)(vs:List SV):Bool->Option dO
 |true=>some ⟨jq (SV.bareL vs),[],[]⟩
 |false=>ZE k c (jP c.tk keep 60 0 vs)
def R2(keep:List Nat)(k:Nat):CSt×List SV->Option dO
 |(c,vs)=>N1 keep k c vs (decide (k=0)&&(SV.idsL vs).isEmpty&&keep.isEmpty)
def N2(keep raw:List Nat)(k:Nat)(c:CSt):Option (List SV)->Option dO
 |some vs=>R2 keep k (eC c vs (iY raw 0 vs))
 |none=>none
def En(F:FnC)(k:Nat):gI->Option dO
 |some (.n,c)=>N2 F.keep F.raw k c (rx c F.rs)
 |some (.r,c)=>N2 F.keep F.raw k c (rx c F.rs)
 |_=>none
def nH:Nat->List SV->List (Nat×SV)
 |_,[]=> []
 |i,v::r=>(i,v)::nH (i+1) r
def ra(args:List SV)(os:List aF)(k:Nat):CSt:=⟨nH 0 args,fN 0 os,tks 50 k⟩
def Em(rn:RC->CSt->gI)(F:FnC)(args:List SV)(os:List aF)(k:Nat):gI:=if args.length<=F.n then rn F.code (ra args os k)else none
def ma(rn:RC->CSt->gI):Option FnB->List SV->List aF->Nat->Option dO
 |some (.code F),args,os,k=>En F os.length (Em rn F args os k)
 |some (.prim f),args,os,k=>f args os k
 |none,_,_,_=>none
noncomputable def fy(T:fH):Nat->RC->CSt->gI
 |0,_,_=>none
 |n+1,r,c=>dD (fy T n) (fun g args os k=>ma (fy T n) (T.fn g) args os k) T.sg r c
noncomputable def eB(T:fH)(n:Nat):cU:=fun g args os k=>ma (fy T n) (T.fn g) args os k
noncomputable def lim{α:Type}(g:Nat->Option α):Option α:=open Classical in if h:∃n x,g n=some x then g (Classical.choose h)else none
noncomputable def run(T:fH)(r:RC)(c:CSt):gI:=lim fun n=>fy T n r c
noncomputable def call(T:fH):cU:=fun g args os k=>lim fun n=>eB T n g args os k
end Go.Sy
namespace Go.Sy
variable [aZ]
def leR(f g:RC->CSt->gI):Prop:=∀r c x,f r c=some x->g r c=some x
def leC(f g:cU):Prop:=∀a b o k x,f a b o k=some x->g a b o k=some x
theorem xQ{c:CSt}{d:Option Nat}{x:CSt}{a b:Option dO}(h:∀q,a=some q->b=some q)(k:l4 c d a=some x):l4 c d b=some x:=by
 cases a with
 |none=>cases k
 |some q=>rw[h q rfl];exact k
theorem wX{c:CSt}{d:Option Nat}{m mt:List Nat}{x:CSt}{a b:Option dO}(h:∀q,a=some q->b=some q)(k:ou c d m mt a=some x):ou c d m mt b=some x:=by
 cases a with
 |none=>cases k
 |some q=>rw[h q rfl];exact k
theorem wY{f g:cU}(h:leC f g){c:CSt}{d:Option Nat}{n:Nat}{as:List SV}{mt1:List (Option Nat)}{m:List Nat}{o:Option (List aF)}{x:CSt}
 (k:lr f c d n as mt1 m o=some x):lr g c d n as mt1 m o=some x:=by
 cases o with
 |none=>cases k
 |some os=>
  simp only[lr]at k ⊢;generalize dQ c.tk (50+mt1.length) os=z at k ⊢;obtain⟨os',mt2⟩:=z;simp only[nq]at k ⊢;generalize (oj (SV.idsL as++ft os') m&&dr m&&dr (cf (mt1++mt2))&&decide (m.length<=40)&&m.all fun o=> !inR (d.getD 0) o)=b at k ⊢;cases b with
  |false=>cases k
  |true=>simp only[np]at k ⊢;exact wX (fun q hq=>h _ _ _ _ _ hq) k
theorem wV{f g:cU}(h:leC f g){sg:Sig}{d:Option Nat}{n:Nat}{p:CSt×List SV}{x:CSt}(k:jG f sg d n p=some x):jG g sg d n p=some x:=by obtain⟨c,as⟩:=p;simp only[jG]at k ⊢;generalize jP c.tk sg.own 50 0 as=z at k ⊢;obtain⟨as',mt1⟩:=z;simp only[nt]at k ⊢;exact wY h k
theorem xW{f g:cU}(h:leC f g){sg:Sig}{c:CSt}{d:Option Nat}{n:Nat}{as:List SV}{x:CSt}(k:io f sg c d n as=some x):io g sg c d n as=some x:=by
 unfold io at k ⊢;generalize ((SV.idsL as).isEmpty&&sg.own.isEmpty)=b at k ⊢;cases b with
 |true=>exact xQ (fun q hq=>h _ _ _ _ _ hq) k
 |false=>exact wV h k
theorem lU{f g:cU}(h:leC f g){sg:Nat->Sig}{c:CSt}{d:Option Nat}{o:SOp}{x:CSt}(k:opC f sg c d o=some x):opC g sg c d o=some x:=by
 cases o with
 |call a as=>simp only[opC]at k ⊢;split at k<;>first|exact xW h k|cases k
 |_=>exact k
theorem jm{f g:cU}(h:leC f g){sg:Nat->Sig}{c:CSt}{i:SI}{x:CSt}(k:dE f sg c i=some x):dE g sg c i=some x:=by
 unfold dE at k ⊢;split at k
 ·exact lU h k
 ·split at k
  ·split at k
   ·rename_i hc;rw[if_pos hc];exact lU h k
   ·rename_i hc;rw[if_neg hc];exact k
  ·exact k
  ·cases k
theorem vq{f g:cU}(h:leC f g){sg:Nat->Sig}:∀{l:List SI}{c x:CSt},plC f sg l c=some x->plC g sg l c=some x:=by
 intro l;induction l with
 |nil=>intro c x k;simpa[plC]using k
 |cons i r ih=>
  intro c x k;simp only[plC]at k ⊢;cases hs:opC f sg c i.dst i.op with
  |none=>rw[hs]at k;simp[nxP]at k
  |some c1=>rw[hs]at k;rw[lU h hs];simp only[nxP]at k ⊢;exact ih k
theorem rI{f g:cU}(h:leC f g){sg:Nat->Sig}{b:Bool}{l:List SI}{c x:CSt}{v:SV}(k:oU f sg b l c v=some x):oU g sg b l c v=some x:=by
 unfold oU at k ⊢;split at k
 ·split at k
  ·rename_i hc;rw[if_pos hc];exact vq h k
  ·rename_i hc;rw[if_neg hc];exact k
 ·exact k
 ·cases k
theorem mG{f g:cU}(h:leC f g){sg:Nat->Sig}:∀{l:List RI}{c x:CSt},fz f sg l c=some x->fz g sg l c=some x:=by
 intro l;induction l with
 |nil=>intro c x k;simpa[fz]using k
 |cons i r ih=>
  intro c x k;cases i with
  |op i dead=>
   simp only[fz]at k ⊢;cases hs:dE f sg c i with
   |none=>rw[hs]at k;simp[nxC]at k
   |some c1=>rw[hs]at k;rw[jm h hs];simp only[nxC]at k ⊢;exact ih k
  |grp q b l dead=>
   simp only[fz]at k ⊢;cases hs:oU f sg b l c (c.get q)with
   |none=>rw[hs]at k;simp[nxC]at k
   |some c1=>rw[hs]at k;rw[rI h hs];simp only[nxC]at k ⊢;exact ih k
  |own i dead=>
   simp only[fz]at k ⊢;cases hs:sX c i with
   |none=>rw[hs]at k;simp[nxC]at k
   |some c1=>rw[hs]at k;simp only[nxC]at k ⊢;exact ih k
  |tks i dead=>
   simp only[fz]at k ⊢;cases hs:An c i with
   |none=>rw[hs]at k;simp[nxC]at k
   |some c1=>rw[hs]at k;simp only[nxC]at k ⊢;exact ih k
  |dir d=>
   simp only[fz]at k ⊢;cases hs:qD c d with
   |none=>rw[hs]at k;simp[nxC]at k
   |some c1=>rw[hs]at k;simp only[nxC]at k ⊢;exact ih k
theorem i7{f g:cU}(h:leC f g){sg:Nat->Sig}{b:List Nat}:∀{l ps:List FI}{c x:CSt},eQ f sg b l ps c=some x->eQ g sg b l ps c=some x:=by
 intro l;induction l with
 |nil=>intro ps c x k;simpa[eQ]using k
 |cons i r ih=>
  intro ps c x k;obtain⟨n,q,i⟩:=i;cases q with
  |true=>
   simp only[eQ]at k ⊢;cases hq:qv c i with
   |none=>rw[hq]at k;simp[vR]at k
   |some v=>rw[hq]at k;simp only[vR]at k ⊢;exact ih k
  |false=>
   simp only[eQ]at k ⊢;cases hs:dE f sg c i with
   |none=>rw[hs]at k;simp[qz]at k
   |some c1=>
    rw[hs]at k;rw[jm h hs];simp only[qz]at k ⊢;cases hg:gdP (tn (b.getD n 0) c1 ps) c1 with
    |none=>rw[hg]at k;simp[qA]at k
    |some c2=>rw[hg]at k;simp only[qA]at k ⊢;exact ih k
theorem mT{f g:cU}(h:leC f g){sg:Nat->Sig}{b:List Nat}{l:List FI}:∀{ps:List (List Nat)}{c x:CSt},i9 f sg b l ps c=some x->i9 g sg b l ps c=some x
 |[],c,x,k=>by simp[i9]at k
 |[p],c,x,k=>i7 h k
 |p::q::r,c,x,k=>by
  simp only[i9]at k ⊢;cases h1:eQ f sg b (iG l p) [] c with
  |none=>rw[h1]at k;simp[nJ]at k
  |some y=>
   cases h2:i9 f sg b l (q::r) c with
   |none=>rw[h1,h2]at k;simp[nJ]at k
   |some z=>rw[h1,h2]at k;rw[i7 h h1,mT h h2];exact k
theorem lq{rn rn':RC->CSt->gI}{f g:cU}(hr:leR rn rn')(h:leC f g){sg:Nat->Sig}{r:RC}{c:CSt}{x:Ex×CSt}(k:dD rn f sg r c=some x):dD rn' g sg r c=some x:=by
 cases r with
 |skip=>exact k
 |ret=>exact k
 |exit id=>exact k
 |ops l=>
  simp only[dD]at k ⊢;cases hs:fz f sg l c with
  |none=>rw[hs]at k;cases k
  |some c1=>rw[hs]at k;rw[mG h hs];exact k
 |flt b ds l dead=>
  simp only[dD]at k ⊢;cases hs:eQ f sg b l [] c with
  |none=>rw[hs]at k;simp[nrm]at k
  |some c1=>rw[hs]at k;rw[i7 h hs];exact k
 |fla b ds l ps dead=>
  simp only[dD]at k ⊢;cases hs:i9 f sg b l ps c with
  |none=>rw[hs]at k;simp[nrm]at k
  |some c1=>rw[hs]at k;rw[mT h hs];exact k
 |seq a b=>
  simp only[dD]at k ⊢;cases hs:rn a c with
  |none=>rw[hs]at k;cases k
  |some p=>
   rw[hs]at k;rw[hr _ _ _ hs];obtain⟨e,c1⟩:=p;cases e with
   |n=>exact hr _ _ _ k
   |x id=>exact k
   |r=>exact k
 |cond a y z=>
  simp only[dD]at k ⊢;unfold cnd at k ⊢;split at k
  ·split at k
   ·rename_i hc;rw[if_pos hc];exact hr _ _ _ k
   ·rename_i hc;rw[if_neg hc];exact hr _ _ _ k
  ·cases k
 |block id b=>
  simp only[dD]at k ⊢;cases hs:rn b c with
  |none=>rw[hs]at k;cases k
  |some p=>rw[hs]at k;rw[hr _ _ _ hs];exact k
 |loop b=>
  simp only[dD]at k ⊢;cases hs:rn b c with
  |none=>rw[hs]at k;cases k
  |some p=>
   rw[hs]at k;rw[hr _ _ _ hs];obtain⟨e,c1⟩:=p;cases e with
   |n=>exact hr _ _ _ k
   |x id=>exact k
   |r=>exact k
 |pre ds a=>
  simp only[dD]at k ⊢;cases hs:iD c ds with
  |none=>rw[hs]at k;cases k
  |some c1=>rw[hs]at k;exact hr _ _ _ k
 |bad=>cases k
 |post a ds=>
  simp only[dD]at k ⊢;cases hs:rn a c with
  |none=>rw[hs]at k;cases k
  |some p=>rw[hs]at k;rw[hr _ _ _ hs];exact k
theorem ip{rn rn':RC->CSt->gI}(hr:leR rn rn'){o:Option FnB}{a:List SV}{os:List aF}{k:Nat}{x:dO}(h:ma rn o a os k=some x):ma rn' o a os k=some x:=by
 cases o with
 |none=>cases h
 |some b=>
  cases b with
  |prim f=>exact h
  |code F=>
   simp only[ma,Em]at h ⊢;split at h
   ·rename_i hc
    rw[if_pos hc];cases hs:rn F.code (ra a os k)with
    |none=>rw[hs]at h;cases h
    |some p=>rw[hs]at h;rw[hr _ _ _ hs];exact h
   ·cases h
variable {T : fH}
theorem rm:∀n,leR (fy T n) (fy T (n+1))
 |0=>fun r c x h=>by simp[fy]at h
 |n+1=>fun r c x h=>by have ih:=rm n;rw[fy]at h ⊢;exact lq ih (fun g a os k x h=>ip ih h) h
theorem kE{n m:Nat}(h:n<=m):leR (fy T n) (fy T m):=by
 induction m with
 |zero=>
  have:n=0:=by omega
  subst this;exact fun _ _ _ h=>h
 |succ m ih=>
  rcases bY n (m+1)with h1|h1
  ·exact fun r c x hx=>rm m r c x (ih (by omega) r c x hx)
  ·have:n=m+1:=by omega
   subst this;exact fun _ _ _ h=>h
theorem dG{n m:Nat}(h:n<=m):leC (eB T n) (eB T m):=fun _ _ _ _ _ hx=>ip (kE h) hx
theorem vJ{α:Type}{g:Nat->Option α}(hm:∀n m x,n<=m->g n=some x->g m=some x){n:Nat}{x:α}(h:g n=some x):lim g=some x:=by have hex:∃n x,g n=some x:=⟨n,x,h⟩;unfold lim;rw[dif_pos hex];obtain⟨y,hy⟩:=Classical.choose_spec hex;have h1:=hm _ (max n (Classical.choose hex)) _ (yf _ _) hy;have h2:=hm _ (max n (Classical.choose hex)) _ (Nat.le_max_left _ _) h;rw[hy,<-h1,h2]
theorem NM{α:Type}{g:Nat->Option α}{x:α}(h:lim g=some x):∃n,g n=some x:=by
 unfold lim at h;split at h
 ·exact⟨_,h⟩
 ·cases h
theorem GI{n:Nat}{r:RC}{c:CSt}{x:Ex×CSt}(h:fy T n r c=some x):run T r c=some x:=vJ (fun _ _ _ hnm h=>kE hnm _ _ _ h) h
theorem gL{r:RC}{c:CSt}{x:Ex×CSt}(h:run T r c=some x):∃n,fy T n r c=some x:=NM h
theorem o9{n:Nat}{g:Nat}{a:List SV}{os:List aF}{k:Nat}{x:dO}(h:eB T n g a os k=some x):call T g a os k=some x:=vJ (fun _ _ _ hnm h=>dG hnm _ _ _ _ _ h) h
theorem oL{g:Nat}{a:List SV}{os:List aF}{k:Nat}{x:dO}(h:call T g a os k=some x):∃n,eB T n g a os k=some x:=NM h
theorem GJ(n:Nat):leR (fy T n) (run T):=fun _ _ _ h=>GI h
theorem Sv(n:Nat):leC (eB T n) (call T):=fun _ _ _ _ _ h=>o9 h
theorem xX{sg:Sig}{c:CSt}{d:Option Nat}{g:Nat}{as:List SV}{x:CSt}(k:io (call T) sg c d g as=some x):∃n,io (eB T n) sg c d g as=some x:=by
 unfold io at k ⊢;generalize ((SV.idsL as).isEmpty&&sg.own.isEmpty)=b at k ⊢;cases b with
 |true=>
  simp only[jM]at k ⊢;cases hq:call T g (SV.bareL as) [] 0 with
  |none=>rw[hq]at k;cases k
  |some q=>obtain⟨n,hn⟩:=oL hq;exact⟨n,by rw[hn];rw[hq]at k;exact k⟩
 |false=>
  simp only[jM]at k ⊢;generalize eC c as (iY sg.raw 0 as)=z at k ⊢;obtain⟨c1,as1⟩:=z;simp only[jG]at k ⊢;generalize jP c1.tk sg.own 50 0 as1=z at k ⊢;obtain⟨as',mt1⟩:=z;simp only[nt]at k ⊢;cases ho:gp c1 (dF c1 60 [] (SV.idsL as'))with
  |none=>rw[ho]at k;cases k
  |some os=>
   rw[ho]at k;simp only[lr]at k ⊢;generalize dQ c1.tk (50+mt1.length) os=z at k ⊢;obtain⟨os',mt2⟩:=z;simp only[nq]at k ⊢;generalize (oj (SV.idsL as'++ft os') (dF c1 60 [] (SV.idsL as'))&&dr (dF c1 60 [] (SV.idsL as'))&&dr (cf (mt1++mt2))&&decide ((dF c1 60 [] (SV.idsL as')).length<=40)&&(dF c1 60 [] (SV.idsL as')).all fun o=> !inR (d.getD 0) o)=b at k ⊢;cases b with
   |false=>cases k
   |true=>
    simp only[np]at k ⊢;cases hq:call T g (SV.renL (gA (dF c1 60 [] (SV.idsL as'))) id as') (ed (gA (dF c1 60 [] (SV.idsL as'))) id os') (mt1.length+mt2.length)with
    |none=>rw[hq]at k;cases k
    |some q=>obtain⟨n,hn⟩:=oL hq;exact⟨n,by rw[hn];rw[hq]at k;exact k⟩
theorem px{sg:Nat->Sig}{c:CSt}{d:Option Nat}{o:SOp}{x:CSt}(k:opC (call T) sg c d o=some x):∃n,opC (eB T n) sg c d o=some x:=by
 cases o with
 |call a as=>simp only[opC]at k ⊢;split at k<;>first|exact xX k|cases k
 |_=>exact⟨0,k⟩
theorem oq{sg:Nat->Sig}{c:CSt}{i:SI}{x:CSt}(k:dE (call T) sg c i=some x):∃n,dE (eB T n) sg c i=some x:=by
 unfold dE at k ⊢;split at k
 ·exact px k
 ·split at k
  ·split at k
   ·rename_i hc;simp only[if_pos hc];exact px k
   ·rename_i hc;simp only[if_neg hc];exact⟨0,k⟩
  ·exact⟨0,k⟩
  ·cases k
theorem FD{sg:Nat->Sig}:∀{l:List SI}{c x:CSt},plC (call T) sg l c=some x->∃n,plC (eB T n) sg l c=some x:=by
 intro l;induction l with
 |nil=>intro c x k;exact⟨0,by simpa[plC]using k⟩
 |cons i r ih=>
  intro c x k;simp only[plC]at k ⊢;cases hs:opC (call T) sg c i.dst i.op with
  |none=>rw[hs]at k;simp[nxP]at k
  |some c1=>rw[hs]at k;simp only[nxP]at k;obtain⟨n,hn⟩:=px hs;obtain⟨m,hm⟩:=ih k;refine⟨max n m, ?_⟩;rw[lU (dG (Nat.le_max_left n m)) hn];simp only[nxP];exact vq (dG (yf n m)) hm
theorem Dm{sg:Nat->Sig}{b:Bool}{l:List SI}{c x:CSt}{v:SV}(k:oU (call T) sg b l c v=some x):∃n,oU (eB T n) sg b l c v=some x:=by
 unfold oU at k ⊢;split at k
 ·split at k
  ·rename_i hc;simp only[if_pos hc];exact FD k
  ·rename_i hc;simp only[if_neg hc];exact⟨0,k⟩
 ·exact⟨0,k⟩
 ·cases k
theorem C5{sg:Nat->Sig}:∀{l:List RI}{c x:CSt},fz (call T) sg l c=some x->∃n,fz (eB T n) sg l c=some x:=by
 intro l;induction l with
 |nil=>intro c x k;exact⟨0,by simpa[fz]using k⟩
 |cons i r ih=>
  intro c x k;cases i with
  |op i dead=>
   simp only[fz]at k ⊢;cases hs:dE (call T) sg c i with
   |none=>rw[hs]at k;simp[nxC]at k
   |some c1=>rw[hs]at k;simp only[nxC]at k;obtain⟨n,hn⟩:=oq hs;obtain⟨m,hm⟩:=ih k;refine⟨max n m, ?_⟩;rw[jm (dG (Nat.le_max_left n m)) hn];simp only[nxC];exact mG (dG (yf n m)) hm
  |grp q b l dead=>
   simp only[fz]at k ⊢;cases hs:oU (call T) sg b l c (c.get q)with
   |none=>rw[hs]at k;simp[nxC]at k
   |some c1=>rw[hs]at k;simp only[nxC]at k;obtain⟨n,hn⟩:=Dm hs;obtain⟨m,hm⟩:=ih k;refine⟨max n m, ?_⟩;rw[rI (dG (Nat.le_max_left n m)) hn];simp only[nxC];exact mG (dG (yf n m)) hm
  |own i dead=>
   simp only[fz]at k ⊢;cases hs:sX c i with
   |none=>rw[hs]at k;simp[nxC]at k
   |some c1=>rw[hs]at k;simp only[nxC]at k ⊢;exact ih k
  |tks i dead=>
   simp only[fz]at k ⊢;cases hs:An c i with
   |none=>rw[hs]at k;simp[nxC]at k
   |some c1=>rw[hs]at k;simp only[nxC]at k ⊢;exact ih k
  |dir d=>
   simp only[fz]at k ⊢;cases hs:qD c d with
   |none=>rw[hs]at k;simp[nxC]at k
   |some c1=>rw[hs]at k;simp only[nxC]at k ⊢;exact ih k
theorem mN{sg:Nat->Sig}{b:List Nat}:∀{l ps:List FI}{c x:CSt},eQ (call T) sg b l ps c=some x->∃n,eQ (eB T n) sg b l ps c=some x:=by
 intro l;induction l with
 |nil=>intro ps c x k;exact⟨0,by simpa[eQ]using k⟩
 |cons i r ih=>
  intro ps c x k;obtain⟨n,q,i⟩:=i;cases q with
  |true=>
   simp only[eQ]at k ⊢;cases hq:qv c i with
   |none=>rw[hq]at k;simp[vR]at k
   |some v=>rw[hq]at k;simp only[vR]at k ⊢;exact ih k
  |false=>
   simp only[eQ]at k ⊢;cases hs:dE (call T) sg c i with
   |none=>rw[hs]at k;simp[qz]at k
   |some c1=>
    rw[hs]at k;simp only[qz]at k;cases hg:gdP (tn (b.getD n 0) c1 ps) c1 with
    |none=>rw[hg]at k;simp[qA]at k
    |some c2=>rw[hg]at k;simp only[qA]at k;obtain⟨m1,hm1⟩:=oq hs;obtain⟨m2,hm2⟩:=ih k;refine⟨max m1 m2, ?_⟩;rw[jm (dG (Nat.le_max_left m1 m2)) hm1];simp only[qz];rw[hg];simp only[qA];exact i7 (dG (yf m1 m2)) hm2
theorem rY{sg:Nat->Sig}{b:List Nat}{l:List FI}:∀{ps:List (List Nat)}{c x:CSt},i9 (call T) sg b l ps c=some x->∃n,i9 (eB T n) sg b l ps c=some x
 |[],c,x,k=>by simp[i9]at k
 |[p],c,x,k=>mN k
 |p::q::r,c,x,k=>by
  simp only[i9]at k ⊢;cases h1:eQ (call T) sg b (iG l p) [] c with
  |none=>rw[h1]at k;simp[nJ]at k
  |some y=>
   cases h2:i9 (call T) sg b l (q::r) c with
   |none=>rw[h1,h2]at k;simp[nJ]at k
   |some z=>rw[h1,h2]at k;obtain⟨n,hn⟩:=mN h1;obtain⟨m,hm⟩:=rY h2;exact⟨max n m,by rw[i7 (dG (Nat.le_max_left n m)) hn,mT (dG (yf n m)) hm];exact k⟩
theorem two{r s:RC}{c d:CSt}{x y:Ex×CSt}(h:run T r c=some x)(k:run T s d=some y):∃n,fy T n r c=some x/\fy T n s d=some y:=by obtain⟨n,hn⟩:=gL h;obtain⟨m,hm⟩:=gL k;exact⟨max n m,kE (Nat.le_max_left n m) _ _ _ hn,kE (yf n m) _ _ _ hm⟩
theorem wN{r:RC}{c:CSt}{x:Ex×CSt}(k:dD (run T) (call T) T.sg r c=some x):∃n,dD (fy T n) (eB T n) T.sg r c=some x:=by
 cases r with
 |skip=>exact⟨0,k⟩
 |ret=>exact⟨0,k⟩
 |exit id=>exact⟨0,k⟩
 |ops l=>
  simp only[dD]at k ⊢;cases hs:fz (call T) T.sg l c with
  |none=>rw[hs]at k;cases k
  |some c1=>obtain⟨n,hn⟩:=C5 hs;exact⟨n,by rw[hn];rw[hs]at k;exact k⟩
 |flt b ds l dead=>
  simp only[dD]at k ⊢;cases hs:eQ (call T) T.sg b l [] c with
  |none=>rw[hs]at k;simp[nrm]at k
  |some c1=>obtain⟨n,hn⟩:=mN hs;exact⟨n,by rw[hn];rw[hs]at k;exact k⟩
 |fla b ds l ps dead=>
  simp only[dD]at k ⊢;cases hs:i9 (call T) T.sg b l ps c with
  |none=>rw[hs]at k;simp[nrm]at k
  |some c1=>obtain⟨n,hn⟩:=rY hs;exact⟨n,by rw[hn];rw[hs]at k;exact k⟩
 |seq a b=>
  simp only[dD]at k ⊢;cases hs:run T a c with
  |none=>rw[hs]at k;cases k
  |some p=>
   rw[hs]at k;obtain⟨e,c1⟩:=p;cases e with
   |n=>obtain⟨n,h1,h2⟩:=two hs k;exact⟨n,by rw[h1];exact h2⟩
   |x id=>obtain⟨n,hn⟩:=gL hs;exact⟨n,by rw[hn];exact k⟩
   |r=>obtain⟨n,hn⟩:=gL hs;exact⟨n,by rw[hn];exact k⟩
 |cond a y z=>
  simp only[dD]at k ⊢;unfold cnd at k ⊢;split at k
  ·split at k
   ·rename_i hc;simp only[if_pos hc];exact gL k
   ·rename_i hc;simp only[if_neg hc];exact gL k
  ·cases k
 |block id b=>
  simp only[dD]at k ⊢;cases hs:run T b c with
  |none=>rw[hs]at k;cases k
  |some p=>obtain⟨n,hn⟩:=gL hs;exact⟨n,by rw[hn];rw[hs]at k;exact k⟩
 |loop b=>
  simp only[dD]at k ⊢;cases hs:run T b c with
  |none=>rw[hs]at k;cases k
  |some p=>
   rw[hs]at k;obtain⟨e,c1⟩:=p;cases e with
   |n=>obtain⟨n,h1,h2⟩:=two hs k;exact⟨n,by rw[h1];exact h2⟩
   |x id=>obtain⟨n,hn⟩:=gL hs;exact⟨n,by rw[hn];exact k⟩
   |r=>obtain⟨n,hn⟩:=gL hs;exact⟨n,by rw[hn];exact k⟩
 |pre ds a=>
  simp only[dD]at k ⊢;cases hs:iD c ds with
  |none=>rw[hs]at k;cases k
  |some c1=>rw[hs]at k;exact gL k
 |bad=>cases k
 |post a ds=>
  simp only[dD]at k ⊢;cases hs:run T a c with
  |none=>rw[hs]at k;cases k
  |some p=>obtain⟨n,hn⟩:=gL hs;exact⟨n,by rw[hn];rw[hs]at k;exact k⟩
theorem sY{α:Type}{a b:Option α}(h:∀x,a=some x->b=some x)(k:∀x,b=some x->a=some x):a=b:=by
 cases a with
 |none=>cases b with
  |none=>rfl
  |some x=>exact absurd (k x rfl) (by simp)
 |some x=>exact(h x rfl).symm
theorem gX(r:RC)(c:CSt):run T r c=dD (run T) (call T) T.sg r c:=by
 refine sY (fun x h=> ?_) (fun x h=> ?_)
 ·obtain⟨n,hn⟩:=gL h
  cases n with
  |zero=>simp[fy]at hn
  |succ n=>rw[fy]at hn;exact lq (GJ n) (Sv n) hn
 ·obtain⟨n,hn⟩:=wN h
  exact GI (n:=n+1) (by rw[fy];exact hn)
theorem B7(g:Nat)(a:List SV)(os:List aF)(k:Nat):call T g a os k=ma (run T) (T.fn g) a os k:=by
 refine sY (fun x h=> ?_) (fun x h=> ?_)
 ·obtain⟨n,hn⟩:=oL h
  exact ip (GJ n) hn
 ·cases hF:T.fn g with
  |none=>rw[hF]at h;cases h
  |some b=>
   cases b with
   |prim f=>exact o9 (n:=0) (by unfold eB;rw[hF];rw[hF]at h;exact h)
   |code F=>
    rw[hF]at h;simp only[ma,Em]at h;split at h
    ·rename_i hc
     cases hs:run T F.code (ra a os k)with
     |none=>rw[hs]at h;cases h
     |some p=>obtain⟨n,hn⟩:=gL hs;refine o9 (n:=n) ?_;unfold eB;rw[hF];simp only[ma,Em,if_pos hc];rw[hn];rw[hs]at h;exact h
    ·cases h
theorem Ff(c:CSt):run T .skip c=some (.n,c):=gX _ _
theorem QA(c:CSt):run T .ret c=some (.r,c):=gX _ _
theorem Fl(id:Nat)(c:CSt):run T (.exit id) c=some (.x id,c):=gX _ _
theorem QC(l:List RI)(c:CSt):run T (.ops l) c=nrm [] (fz (call T) T.sg l c):=gX _ _
theorem QE(b ds:List Nat)(l:List FI)(ps:List (List Nat))(dead:List Nat)(c:CSt):run T (.fla b ds l ps dead) c=nrm dead (i9 (call T) T.sg b l ps c):=gX _ _
theorem QD(b ds:List Nat)(l:List FI)(dead:List Nat)(c:CSt):run T (.flt b ds l dead) c=nrm dead (eQ (call T) T.sg b l [] c):=gX _ _
theorem Qz(a b:RC)(c:CSt):run T (.seq a b) c=sq (run T) b (run T a c):=gX _ _
theorem Fo(k:Arg)(a b:RC)(c:CSt):run T (.cond k a b) c=cnd (run T) a b c (c.ev k):=gX _ _
theorem CW(id:Nat)(b:RC)(c:CSt):run T (.block id b) c=blk id (run T b c):=gX _ _
theorem ai(b:RC)(c:CSt):run T (.loop b) c=lp (run T) b (run T b c):=gX _ _
theorem QB(ds:List Dir)(a:RC)(c:CSt):run T (.pre ds a) c=prD (run T) a (iD c ds):=gX _ _
theorem Fh(a:RC)(ds:List Dir)(c:CSt):run T (.post a ds) c=psD ds (run T a c):=gX _ _
theorem ah{g:Nat}{F:FnC}(h:T.fn g=some (.code F))(a:List SV)(os:List aF)(k:Nat):call T g a os k=En F os.length (Em (run T) F a os k):=by rw[B7,h];rfl
theorem kQ{g:Nat}{f:List SV->List aF->Nat->Option dO}(h:T.fn g=some (.prim f))(a:List SV)(os:List aF)(k:Nat):call T g a os k=f a os k:=by rw[B7,h];rfl
end Go.Sy
