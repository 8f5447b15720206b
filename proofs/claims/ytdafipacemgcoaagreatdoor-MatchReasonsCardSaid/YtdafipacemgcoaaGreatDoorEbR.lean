/- An engine that steps through Go code with symbolic values: sound by proof. No condition. -/
import Derived.Test.YtdafipacemgcoaaGreatDoorEaR
import Derived.Orders
open Array renaming ext' → dV, getD → fK, getD_eq_getD_getElem? → bA, getElem?_eq_getElem → gS, getElem?_toList → cJ, length_toList → aO
open Bool renaming and_eq_true → an, false_eq_true → aD, not_eq_true' → bZ, not_true → lQ
open Go.IntKind renaming i64 → af
open List renaming Nodup → pf, Sublist → ka, all_eq_true → aM, any_eq_true → tj, append_nil → bj, contains_eq_mem → dn, drop_eq_nil_of_le → bE, drop_zero → aY, flatten_append → cz, getD_cons_succ → bw, getD_cons_zero → bm, getD_eq_getElem?_getD → aa, getElem?_append_left → bK, getElem?_append_right → bN, getElem?_drop → bx, getElem?_eq_getElem → ab, getElem?_eq_none → ky, getElem?_map → aJ, getElem?_range → cy, getElem?_set → jO, getElem?_take → bM, getElem_mem → aT, getElem_of_mem → bV, length_append → ah, length_cons → ax, length_drop → aF, length_eq_zero_iff → bJ, length_map → aQ, length_nil → bc, length_replicate → cd, length_singleton → aH, length_take → ay, lookup → eH, map_append → bz, map_congr_left → cY, map_cons → aL, map_nil → bT, mem_append → aj, mem_cons → ao, mem_cons_of_mem → au, mem_cons_self → aA, mem_iff_getElem → lP, mem_map → aS, mem_map_of_mem → cX, mem_of_mem_drop → gV, mem_of_mem_take → bH, mem_range → dL, mem_singleton → aV, nil_append → bp, nodup_cons → dN, pairwise_append → dY, pairwise_cons → bS, pairwise_iff_getElem → ip, pairwise_map → gE, range → cg, range' → jD, replicate → am, take_append_drop → yz, take_length → br, take_of_length_le → co
open Nat renaming add_assoc → fE, add_mul → bP, add_zero → eP, eq_zero_or_pos → gD, le_refl → aZ, le_trans → cu, lt_or_ge → bR, min_eq_left → dr, mod_eq_of_lt → yB, mul_comm → dv, mul_le_mul_right → bB, mul_one → dm, succ_mul → dR, zero_add → cO
open Option renaming bind_some → cQ, getD_some → bg, ite_none_right_eq_some → aN, map_eq_some_iff → ai, map_some → bf, some → av
open Prod renaming fst → bv, mk → bh
open Go.Result renaming andThen_ok → al
open Go.Sem renaming run_bind → az, run_pure → aE
set_option linter.unusedVariables false
set_option linter.unusedSimpArgs false
set_option linter.unnecessarySimpa false
set_option linter.unusedSectionVars false
namespace Go.Sy
variable [ba]
variable {P : Program} {C : Ctx} {x : Sit} {s : St} {a : Act} {w : World} {o : Oper} {so : SOp} {e : Eff}
theorem aI.newObj (hM:aI C x s a w) {d:Nat} (sl:Option Nat) (hd100:100≤d) {cv:Array Value} {t:TypeId} (obj:aB) {val:SV} {u:Value} (hs:obj.size≤cv.size) (hr:∀k,k<obj.size→cf x obj k (cv.getD k Go.undef))
 (hv:Rep (x.newO d w.heap.size) val u):
 aI C (x.newO d w.heap.size) (((s.purge d (d+1)).addO d (obj.purge d (d+1))).put sl val) (a.put sl u) (w.alloc (.cells cv t (0,0))):=by
 refine aI.put ⟨?_,hM.defers, ?_⟩ sl hv
 ·exact cn.mono (x:=x) (x':=x.newO d w.heap.size) (lo:=d) (hi:=d+1) (fun _ _ _ h=>h) (Sit.newO_ne x d _) (fun _ _=>rfl) hM.tm
 ·exact hM.heap.allocO d hd100 obj (fun i _ h=>by omega) hs hr
theorem cm.newObj (hM:aI C x s a w) {d:Nat} (hd100:100≤d) {m:Sem Value} {cv:Array Value} {t:TypeId} (obj:aB) {val:SV} {u:Value} (he:execOp a.eval o=(do pure (.value (←m))))
 (hm:m.run P w= .ok u (w.alloc (.cells cv t (0,0)))) (hs:obj.size≤cv.size) (hr:∀k,k<obj.size→cf x obj k (cv.getD k Go.undef)) (hv:Rep (x.newO d w.heap.size) val u):
 cm P C o a w (((s.purge d (d+1)).addO d (obj.purge d (d+1))).put o.dst val):=
 ⟨u,w.alloc (.cells cv t (0,0)),_,.value u,by rw [he];simp [hm],.inl rfl,hM.newObj o.dst hd100 obj hs hr hv⟩
theorem jV (x:Sit) (d b:Nat):(x.newO d b).β d=b:=if_pos rfl
theorem EH (hM:aI C x s a w) {t:TypeId} (ho:o.op= .alloc t) (hr:bo P o=some so) (he:eff s o.dst so=some e):cm P C o a w (s.app o.dst e):=by
 simp only [bo,ho]at hr;split at hr<;>try (cases hr;done)
 rename_i obj z hobj hz;split at hr<;>try (cases hr;done)
 rename_i his;cases hr;simp only [eff]at he;split at he<;>try (cases he;done)
 rename_i d hd;cases he;obtain⟨zv,hzc,hzr⟩:=cM hz;simp only [xey,an,decide_eq_true_eq,aM,dL]at his;simp only [St.app];have hd':o.dst.getD 0=d:=by rw [hd];rfl
 rw [hd'];refine cm.newObj hM (d:=d+100) (by omega) obj (m:=Instr.alloc t true (.tuple #[])) (cv:=zv.cells) (t:=t) (u:= .pointer (some ⟨w.heap.size,0,none⟩)) (by simp only [execOp,ho]) ?_ (by rw [←aO,hzc];exact his.1) (fun k hk=> ?_) ?_
 ·simp only [Instr.alloc,az,hzr,al,newVar,newRow,run_newObj_alloc,aE]
 ·have h1:=his.2 k hk
  have h2:zv.cells.getD k Go.undef=z.getD k Go.undef:=by rw [←hzc];simp [bA]
  rw [h2];cases obj with
  |rc cs=>exact qB h1
  |arr sz xs=>exact mL h1
  |bar l=>exact mL h1
 ·have:=Rep.ptr (x:=x.newO (d+100) w.heap.size) (d+100) 0
  rw [jV]at this;exact this
theorem T4 (hM:aI C x s a w) {t:TypeId} {X:Operand} (ho:o.op= .box t X) (hr:bo P o=some so) (he:eff s o.dst so=some e):cm P C o a w (s.app o.dst e):=by
 simp only [bo,ho]at hr;obtain⟨r,hra,rfl⟩:=ai.1 hr;have hrep:=aK hM hra;simp only [eff]at he;split at he<;>try (cases he;done)
 rename_i d hd;cases he;simp only [St.app];have hc:(s.ev r).isDef=true→cn x (s.ev r).cells (a.eval X).cells.toList:=hrep.cells;have hu:(s.ev r).isDef=true∨(s.ev r).cells=[]:=by cases s.ev r<;>simp [SV.isDef,SV.cells]
 have hd':o.dst.getD 0=d:=by rw [hd];rfl
 rw [hd'];refine cm.newObj hM (d:=d+100) (by omega) (.rc (s.ev r).cells) (m:=Instr.box t (a.eval X)) (cv:=(a.eval X).cells) (t:=t) (u:= .pointer (some ⟨w.heap.size,0,none⟩)) (by simp only [execOp,ho]) ?_ ?_ (fun k hk=> ?_) ?_
 ·simp only [Instr.box,az,al,newVar,newRow,run_newObj_alloc,aE]
 ·rcases hu with hu|hu
  ·have:=(hc hu).1;simp only [aB.size];rw [←aO];omega
  ·simp [aB.size,hu]
 ·rcases hu with hu|hu
  ·have:=(hc hu).2 k hk
   simp only [cf];have e1:(a.eval X).cells.getD k Go.undef=(a.eval X).cells.toList.getD k Go.undef:=by simp [bA]
   rw [e1];exact this
  ·simp [aB.size,hu]at hk
 ·have:=Rep.ptr (x:=x.newO (d+100) w.heap.size) (d+100) 0
  rw [jV]at this;exact this
theorem lu {t el:TypeId} {by_ n:Nat} {zs:List Value} {l c:Int} {k1 k2:IntKind} (hd:P.underlying t=some (.slice el)) (hn:fp P el=some n) (hb:ub P el=some by_) (hz:gh P el=some zs)
 (h0:0≤l) (h1:l≤c) (h2:(by_:Int)*c≤140737488355328) (h3:c≤9223372036854775807):
 ∃cv:Array Value,(Instr.makeSlice t (.int k1 l) (.int k2 c)).run P w= .ok (.slice (some ⟨w.heap.size,0,none⟩) l.toNat c.toNat) (w.alloc (.cells cv el (0,0)))∧cv.size=c.toNat*n∧
  ∀k,k<c.toNat*n→cv.getD k Go.undef=zs.getD (k % zs.length) default:=by
 obtain⟨z,hzc,hzr⟩:=cM hz;have wl:af.wrap l=l:=by rw [IntKind.wrap_i64];omega
 have wc:af.wrap c=c:=by rw [IntKind.wrap_i64];omega
 have hby:∃i,P.info? el=some i∧i.bytes=by_:=by
  unfold ub at hb;cases hi:P.info? el with
  |none=>simp [hi]at hb
  |some i=>simp [hi]at hb;exact⟨i,rfl,hb⟩
 obtain⟨i,hi,hib⟩:=hby
 have hc1:¬((decide (c<0)||decide ((i.bytes:Int)*c>2^48)||decide (l<0)||decide (l>c))=true):=by rw [hib];simp;omega
 have key:∀(zz:Array Value),(c.toNat*n=0∨zz=z.cells)→∃cv:Array Value,cv=(Array.range (c.toNat*n)).map (fun j=>zz[j % zz.size]!)∧cv.size=c.toNat*n∧∀k,k<c.toNat*n→cv.getD k Go.undef=zs.getD (k % zs.length) default:=by
  intro zz hzz;refine⟨_,rfl,by simp,fun k hk=> ?_⟩;rcases hzz with h|rfl
  ·omega
  ·rw [←hzc]
   simp [bA,hk];rw [getElem!_def];cases z.cells[k % z.cells.size]? <;>rfl
 by_cases hz0:c.toNat*n=0
 ·obtain⟨cv,hcv,r1,r2⟩:=key #[] (.inl hz0)
  refine⟨cv, ?_,r1,r2⟩;simp only [Instr.makeSlice,az,run_underlying hd,al,asInt,asIntOf,aE,run_typeInfo w hi,wl,wc];rw [if_neg (by simpa using hc1)];simp only [az,run_askRoom,al,cE hn];rw [if_pos hz0];simp only [az,aE,al,newRow,run_newObj_alloc,hcv]
 ·obtain⟨cv,hcv,r1,r2⟩:=key z.cells (.inr rfl)
  refine⟨cv, ?_,r1,r2⟩;simp only [Instr.makeSlice,az,run_underlying hd,al,asInt,asIntOf,aE,run_typeInfo w hi,wl,wc];rw [if_neg (by simpa using hc1)];simp only [az,run_askRoom,al,cE hn];rw [if_neg hz0];simp only [az,aE,al,hzr,newRow,run_newObj_alloc,hcv]
end Go.Sy
namespace Go.Sy
variable [ba]
variable {P : Program} {C : Ctx} {x : Sit} {s : St} {a : Act} {w : World} {o : Oper} {so : SOp} {e : Eff}
theorem fG {α:Type} (n:Nat) (z d:α) (i:Nat) (h:i<n):(am n z).getD i d=z:=by rw [aa,List.getElem?_replicate,if_pos h];rfl
theorem va {t:TypeId} {cs:List SV} (h:Hg P t=some cs):∃vs,gh P t=some vs∧cs.length=vs.length∧∀(G:GM) i,i<cs.length→cS G (cs.getD i .undef) (vs.getD i Go.undef):=by obtain⟨z,hz,rfl⟩:=ai.1 h;obtain⟨vs,h1,h2,h3⟩:=jt hz;refine⟨vs,h1,by simpa using h2,fun G i hi=> ?_⟩;rw [aP _ (by rfl)];exact(h3 G i (by simpa using hi)).toData
theorem rB (hM:aI C x s a w) {t:TypeId} {X Y:Operand} (ho:o.op= .makeSlice t X Y) (hr:bo P o=some so) (he:eff s o.dst so=some e) (hp:e.pre):cm P C o a w (s.app o.dst e):=by
 have hex:execOp a.eval o=(do pure (.value (←Instr.makeSlice t (a.eval X) (a.eval Y)))):=by simp only [execOp,ho]
 simp only [bo,ho]at hr;split at hr<;>try (cases hr;done)
 rename_i el hd;split at hr<;>try (cases hr;done)
 rename_i n by_ z l c hn hb hz hl hc;obtain⟨zs,hzc,hzl0,hzr⟩:=va hz;have h1:=aK hM hl;have h2:=aK hM hc;cases h8:mm P el with
 |true=>
  have hu8:=jn h8;simp only [h8,if_true]at hr
  by_cases hnb:n=1∧by_=1∧z0 z=true
  ·rw [if_pos hnb]at hr
   obtain⟨rfl,rfl,hz0⟩:=hnb;simp only [av.injEq]at hr;subst hr;simp only [eff]at he;split at he<;>try (cases he;done)
   rename_i d k1 L k2 K hd1 hL hK;cases he;obtain⟨q0,q1,q2⟩:=hp;rw [hL]at h1;rw [hK]at h2;obtain⟨cv,hrun,hsz,hget⟩:=lu (P:=P) (w:=w) (k1:=k1) (k2:=k2) hd hn hb hzc q0 q1 (by omega) (by omega);simp only [St.app];have hd':o.dst.getD 0=d:=by rw [hd1];rfl
   rw [hd']
   have hz1:z=[.u8 0]:=by
    unfold z0 at hz0;split at hz0
    ·rename_i b;simp at hz0;rw [hz0]
    ·cases hz0
   refine cm.newObj hM (d:=d+100) (by omega) (.bar (am K.toNat 0)) hex (by rw [h1.int_inv,h2.int_inv];exact hrun) (by simp [aB.size,hsz]) (fun k hk=> ?_) ?_
   ·simp only [aB.size,cd]at hk
    simp only [cf,aB.cell];rw [hget k (by omega),fG _ _ _ _ hk];rw [hz1]at hzl0 hzr;have h0:=hzr x.G 0 (by simp);have:zs.length=1:=by simpa using hzl0.symm
    rw [this,Nat.mod_one]
    match zs,this with
    |[v],_=>exact h0
   ·have:=Rep.psl (x:=x.newO (d+100) w.heap.size) (d+100) 1 0 L.toNat (some K.toNat) 0 K.toNat (.inr (by omega)) (by omega) (fun _ e=>by cases e;rfl)
    rw [jV]at this;exact this
  ·rw [if_neg hnb]at hr;cases hr
 |false=>
  simp only [h8,aD,if_false]at hr
  by_cases hzl:z.length=n∧n≠0
  ·rw [if_pos hzl]at hr
   simp only [av.injEq]at hr;subst hr;obtain⟨hzl,hn0⟩:=hzl;simp only [eff]at he;split at he<;>try (cases he;done)
   rename_i d k1 L k2 K hd1 hL hK;cases he;obtain⟨q0,q1,q2,q3⟩:=hp;rw [hL]at h1;rw [hK]at h2;obtain⟨cv,hrun,hsz,hget⟩:=lu (P:=P) (w:=w) (k1:=k1) (k2:=k2) hd hn hb hzc q0 q1 q2 q3;simp only [St.app];have hd':o.dst.getD 0=d:=by rw [hd1];rfl
   rw [hd'];refine cm.newObj hM (d:=d+100) (by omega) (.arr z.length (am K.toNat z)) hex (by rw [h1.int_inv,h2.int_inv];exact hrun) (by simp [aB.size,hsz,hzl]) (fun k hk=> ?_) ?_
   ·simp only [aB.size,cd]at hk
    simp only [cf,aB.cell];rw [hget k (by rw [←hzl];exact hk),fG _ _ _ _ (Nat.div_lt_of_lt_mul (by rw [dv];exact hk)),←hzl0];have hlt:k % z.length<z.length:=Nat.mod_lt _ (by omega);have:=hzr x.G _ hlt
    have e1:zs.getD (k % z.length) default=zs.getD (k % z.length) Go.undef:=by rw [aa,aa,ab (by omega)];rfl
    rw [e1];exact this
   ·have:=Rep.psl (x:=x.newO (d+100) w.heap.size) (d+100) z.length 0 L.toNat (some K.toNat) 0 K.toNat (.inr (by omega)) (by omega) (fun _ e=>by cases e;rfl)
    rw [jV]at this;exact this
  ·rw [if_neg hzl]at hr;cases hr
theorem cS.oneCell {G:GM} {c:SV} {v:Value} (h:cS G c v):v.oneCell'=true:=by cases h<;>rfl
theorem Rep.oneCell {c:SV} {v:Value} (h:Rep x c v) (h1:c.one=true):v.oneCell'=true:=by
 cases h with
 |undef=>simp [SV.one]at h1
 |dat _ _ h _=>exact h.oneCell
 |ptr=>rfl
 |ap=>rfl
 |psl=>rfl
 |agg=>simp [SV.one]at h1
 |tup=>simp [SV.one]at h1
 |fn=>rfl
theorem s7 (cs:List SV) (off:Nat) (v:List SV) (h:off+v.length≤cs.length) (i:Nat):(gL cs off v).getD i .undef=if off≤i∧i<off+v.length then v.getD (i-off) .undef else cs.getD i .undef:=by
 have gen:∀i:Nat,(cs.take off++v++cs.drop (off+v.length)).getD i .undef=if off≤i∧i<off+v.length then v.getD (i-off) .undef else cs.getD i .undef:=by intro i;simp only [aa];rw [gj _ _ _ _ h];split<;>rfl
 unfold gL;split
 ·rename_i u
  simp only [aH]at*;simp only [aa,jO]
  by_cases hi:off=i
  ·subst hi;rw [if_pos rfl,if_pos (by omega),if_pos (by omega)];simp
  ·rw [if_neg hi,if_neg (by omega)]
 ·exact gen i
theorem oL (cs:List SV) (off:Nat) (v:List SV) (h:off+v.length≤cs.length):(gL cs off v).length=cs.length:=by
 unfold gL;split
 ·simp
 ·simp;omega
theorem cm.store (hM:aI C x s a w) {t:TypeId} {X Y:Operand} (ho:o.op= .store t X Y) {n:Nat} (hn:fp P t=some n) {d off:Nat} (hX:a.eval X= .pointer (some ⟨x.β d,off,none⟩)) {obj obj':aB} (hl:s.look d=some obj)
 {vs:List Value} (hY:(a.eval Y).cells.toList=vs) (hvn:vs.length=n) (hone:∀v∈vs,v.oneCell'=true) (hb:off+n≤obj.size)
 (hsz:obj'.size=obj.size) (hnew:∀c:Array Value,(∀k,k<obj.size→cf x obj k (c.getD k Go.undef))→∀k,k<obj.size→cf x obj' k (if off≤k∧k<off+n then vs.getD (k-off) Go.undef else c.getD k Go.undef)):
 cm P C o a w ((s.setO d obj').put o.dst .undef):=by
 obtain⟨c,e,fl,fh,hO,hs,hr⟩:=ft hM hl;obtain⟨g1,g2,g3,g4,g5⟩:=iU (x.β d) vs w off;obtain⟨c',hO',hcs,hck⟩:=ic vs w off c hO (by omega);refine⟨Go.undef,cP w (x.β d) off vs,x,.skip, ?_,.inr ⟨rfl,rfl⟩,aI.put (s:=s.setO d obj') ⟨hM.tm,hM.defers, ?_⟩ o.dst (.undef _)⟩
 ·simp only [execOp,ho,Instr.storeAt,hX,Instr.sureAddr,az,aE,al,storeVar,cE hn]
  have hsz':(a.eval Y).cells.size=n:=by rw [←aO,hY];exact hvn
  rw [if_neg (by simp [hsz']),hY,ib off vs w c 0 hO (by omega) hone];rfl
 ·refine hM.heap.block (cW hl) g1 g2 g3 g4 g5 ⟨c',e,fl,fh,hO',by omega,fun k hk=> ?_⟩
  rw [hck k,hvn];exact hnew c hr k (by omega)
theorem nu {cs:List SV} {vs:List Value} (h:cn x cs vs) (h1:cs.all SV.one=true):∀v∈vs,v.oneCell'=true:=by
 intro v hv;obtain⟨i,hi,rfl⟩:=bV hv;have hi':i<cs.length:=by rw [h.1];exact hi
 have:=h.2 i hi';have e1:cs.getD i .undef=cs[i]:=by rw [aa,ab hi'];rfl
 have e2:vs.getD i Go.undef=vs[i]:=by rw [aa,ab hi];rfl
 rw [e1,e2]at this;exact this.oneCell (aM.1 h1 _ (aT _))
theorem pW {c:SV} (h:c.isData=true):c.one=true:=by cases c<;>simp [SV.isData,SV.one]at*
theorem SD {sz:Nat} {xs:List (List SV)} (h:∀y∈xs,y.length=sz) {i j n:Nat} {v:List SV} (hi:i<xs.length) (hj:j+n≤sz) (hv:v.length=n):
 (fy sz xs i j n v).length=xs.length∧∀k,k<xs.length*sz→((fy sz xs i j n v).getD (k/sz) []).getD (k % sz) .undef=if i*sz+j≤k∧k<i*sz+j+n then v.getD (k-(i*sz+j)) .undef else(xs.getD (k/sz) []).getD (k % sz) .undef:=by
 have hrow:(xs.getD i []).length=sz:=by rw [aa,ab hi];exact h _ (aT _)
 obtain⟨nr,hnr,hset⟩:∃nr:List SV,(∀m,m<sz→nr.getD m .undef=if j≤m∧m<j+n then v.getD (m-j) .undef else(xs.getD i []).getD m .undef)∧fy sz xs i j n v=xs.set i nr:=by
  unfold fy;split
  ·rename_i hc
   obtain⟨rfl,rfl⟩:=hc;exact⟨v,fun m hm=>by rw [if_pos ⟨by omega,by omega⟩,Nat.sub_zero],rfl⟩
  ·refine⟨_,fun m hm=> ?_,rfl⟩
   have:=gj (xs.getD i []) v j m (by omega);rw [hv]at this;simp only [aa]at this ⊢;rw [this];split<;>rfl
 rw [hset];refine⟨by simp,fun k hk=> ?_⟩
 have hsz:0<sz:=by
  rcases gD sz with h0|h0
  ·subst h0;omega
  ·exact h0
 have hkd:=Nat.div_add_mod k sz;have hkm:=Nat.mod_lt k hsz;rw [dv]at hkd;simp only [aa,jO]at hnr ⊢
 by_cases hik:i=k/sz
 ·rw [if_pos hik,if_pos hi]
  simp only [bg];rw [hnr _ hkm,←hik];rw [←hik]at hkd
  by_cases hc:j≤k % sz∧k % sz<j+n
  ·rw [if_pos hc,if_pos (by omega),show k-(i*sz+j)=k % sz-j from by omega]
  ·rw [if_neg hc,if_neg (by omega)]
 ·rw [if_neg hik,if_neg ?_]
  rintro⟨h1,h2⟩;apply hik;have:i*sz≤k∧k<(i+1)*sz:=by rw [dR];omega
  rw [eq_comm,Nat.div_eq_iff hsz];rw [dR]at this;omega
theorem mq (sz:Nat):∀(m:Nat) (v:List SV),(jC sz m v).length=m
 |0,_=>rfl
 |m+1,v=>by simp [jC,mq sz m]
theorem sL (sz:Nat) (h0:0<sz):∀(m:Nat) (v:List SV) (k:Nat),k<m*sz→((jC sz m v).getD (k/sz) []).getD (k % sz) .undef=v.getD k .undef
 |0,_,k,hk=>by omega
 |m+1,v,k,hk=>by
  rw [dR]at hk;simp only [jC]
  by_cases h:k<sz
  ·rw [Nat.div_eq_of_lt h,yB h,bm]
   simp only [aa,bM,if_pos h]
  ·obtain⟨j,rfl⟩:∃j,k=j+sz:=⟨k-sz,by omega⟩
   rw [Nat.add_div_right _ h0,Nat.add_mod_right,bw,sL sz h0 m (v.drop sz) j (by omega)];simp only [aa,bx,Nat.add_comm]
theorem EE (hM:aI C x s a w) {t:TypeId} {X Y:Operand} (ho:o.op= .store t X Y) (hr:bo P o=some so) (he:eff s o.dst so=some e) (hp:e.pre):cm P C o a w (s.app o.dst e):=by
 simp only [bo,ho]at hr;split at hr<;>try (cases hr;done)
 rename_i n r q hn hra hrb;cases hr;have h1:=aK hM hra;have h2:=aK hM hrb;simp only [eff]at he;split at he<;>try (cases he;done)
 rename_i hn0;have hL:=h2.cells hn0;cases hu:s.ev r with
 |ptr d off=>
  rw [hu]at he h1;simp only [ii]at he;split at he<;>try (cases he;done)
  ·rename_i cs hl
   cases he;obtain⟨q0,q1,q2⟩:=hp;refine cm.store hM ho hn h1.ptr_inv hl rfl (by rw [←hL.1];exact q1) (nu hL q2) q0 (by simp only [aB.size];exact oL _ _ _ (by omega)) (fun c hc k hk=> ?_);have:=hc k hk;simp only [cf]at this ⊢;rw [s7 _ _ _ (by omega),q1];split
   ·exact hL.get _
   ·exact this
  ·rename_i sz xs hl
   cases he;obtain⟨rfl,q0,q1,q2⟩:=hp
   refine cm.store hM ho hn h1.ptr_inv hl rfl (by rw [←hL.1];exact q1) (nu hL (by rw [aM]at q2 ⊢;exact fun z hz=>pW (q2 z hz))) (by simp only [aB.size];omega) (by simp only [aB.size,mq]) (fun c hc k hk=> ?_)
   simp only [aB.size]at hk;have hlt:k<(s.ev q).cells.length:=by omega
   have hsz:0<sz:=by
    rcases gD sz with h0|h0
    ·subst h0;omega
    ·exact h0
   simp only [cf,aB.cell];rw [if_pos ⟨by omega,by omega⟩,Nat.sub_zero,sL sz hsz _ _ _ hk,gC];refine((hL.2 _ hlt).data (aM.1 q2 _ ?_)).toData;generalize (s.ev q).cells=qq at*;rw [aa,ab hlt];exact aT _
  ·rename_i l hl
   split at he<;>try (cases he;done)
   rename_i l' hv;cases he;obtain⟨rfl,q0,q1⟩:=hp;have hv':=tq hv;rw [hv']at hL
   refine cm.store hM ho hn h1.ptr_inv hl rfl (by rw [←hL.1,aQ];exact q1) (nu hL (by rw [aM];intro z hz;obtain⟨b,_,rfl⟩:=aS.1 hz;rfl)) (by simp only [aB.size];omega) (by simp only [aB.size];omega) (fun c hc k hk=> ?_)
   simp only [aB.size]at hk;simp only [cf,aB.cell];rw [if_pos ⟨by omega,by omega⟩,Nat.sub_zero];have hlt:k<(l'.map SV.u8).length:=by rw [aQ];omega
   have hlt':k<l'.length:=by omega
   have e1:(l'.map SV.u8).getD k .undef= .u8 (l'.getD k 0):=by simp [aa,aJ,ab hlt']
   have:=hL.2 k hlt;rw [e1]at this;exact this.data rfl
 |ap d sz i j=>
  rw [hu]at he h1;simp only [ii]at he;split at he<;>try (cases he;done)
  ·rename_i sz' xs hl
   cases he;obtain⟨rfl,q0,q1,q2,q3,q4⟩:=hp;have hvm:((s.ev q).cells.map SV.data).length=n:=by rw [aQ];exact q2
   obtain⟨g1,g2⟩:=SD q3 q0 q1 hvm
   have hb:i*sz+j+n≤xs.length*sz:=by have:=bB sz (Nat.succ_le_of_lt q0);rw [dR]at this;omega
   refine cm.store hM ho hn h1.ap_inv hl rfl (by rw [←hL.1];exact q2) (nu hL (by rw [aM]at q4 ⊢;exact fun z hz=>pW (q4 z hz))) (by simp only [aB.size];exact hb) (by simp only [aB.size];rw [g1]) (fun c hc k hk=> ?_)
   have:=hc k hk;simp only [cf,aB.cell,aB.size]at this hk ⊢;rw [g2 k hk];split
   ·rename_i hin
    rw [gC];have hlt:k-(i*sz+j)<(s.ev q).cells.length:=by omega
    refine((hL.2 _ hlt).data (aM.1 q4 _ ?_)).toData;generalize (s.ev q).cells=qq at*;rw [aa,ab hlt];exact aT _
   ·exact this
  ·rename_i l hl
   split at he<;>try (cases he;done)
   rename_i b hb;cases he;obtain⟨rfl,rfl,rfl,q0⟩:=hp;rw [hb]at hL;refine cm.store hM ho hn h1.ap_inv hl rfl (by rw [←hL.1];rfl) (nu hL rfl) (by simp only [aB.size];omega) (by simp [aB.size]) (fun c hc k hk=> ?_);have:=hc k hk;simp only [cf,aB.cell,aB.size]at this hk ⊢;simp only [dm,eP]
   by_cases hki:k=i
   ·subst hki
    rw [if_pos (by omega),Nat.sub_self];have e1:(l.set k b).getD k 0=b:=by rw [aa,jO,if_pos rfl,if_pos hk];rfl
    rw [e1];exact(hL.2 0 (by simp)).data rfl
   ·rw [if_neg (by omega)]
    have e1:(l.set i b).getD k 0=l.getD k 0:=by rw [aa,jO,if_neg (fun e=>hki e.symm),←aa]
    rw [e1];exact this
 |_=>rw [hu]at he;simp [ii]at he
end Go.Sy
namespace Go.Sy
variable [ba]
variable {P : Program} {C : Ctx} {x : Sit} {s : St} {a : Act} {w : World} {o : Oper} {so : SOp} {e : Eff}
def xfe (G:GM) (b off:Nat) (fl:List SV):Prop:=∀k,k<fl.length→∃v,G b (off+k)=some v∧cS G (fl.getD k .undef) v
def Dt (G:GM) (sz:Nat) (fl:List SV) (v:Value) (n cap:Nat):Prop:=
 n*sz=fl.length∧n≤cap∧((∃b off,v= .slice (some ⟨b,off,none⟩) n cap∧xfe G b off fl)∨(v= .slice none 0 0∧n=0∧cap=0))
theorem iP (l:List UInt8) (k:Nat) (h:k<l.length):(l.map SV.u8).getD k .undef= .u8 (l.getD k 0):=by simp only [aa,aJ];rw [ab h];rfl
theorem wm {G:GM} {l:List UInt8} {t:Tok} {v:Value} (h:cS G (.byt l t) v):∃cap,Dt G 1 (l.map .u8) v l.length cap∧∃bs,v= .slice bs l.length cap:=by
 cases h with
 |bytN=>exact⟨0,⟨by simp,by simp,.inr ⟨rfl,rfl,rfl⟩⟩,none,rfl⟩
 |byt _ _ b off cap n hn hc h=>subst hn;refine⟨cap,⟨by simp,hc,.inl ⟨b,off,rfl,fun k hk=> ?_⟩⟩,_,rfl⟩;rw [aQ]at hk;exact⟨_,h k hk,by rw [iP _ _ hk];exact .u8 _⟩
theorem Ha {G:GM} {l:List UInt8} {t:Tok} {v:Value} {cap:Nat} (h:Dt G 1 (l.map .u8) v l.length cap):cS G (.byt l t) v:=by
 obtain⟨_,hc,⟨b,off,rfl,hr⟩|⟨rfl,h0,_⟩⟩:=h
 ·refine .byt l t b off cap l.length rfl hc fun i hi=> ?_
  obtain⟨v,hv,hrep⟩:=hr i (by simpa using hi);rw [iP _ _ hi]at hrep;cases hrep;exact hv
 ·have:l=[]:=bJ.1 h0
  subst this;exact .bytN t
theorem bI {sz:Nat} {xs:List (List SV)} (h:∀y∈xs,y.length=sz):xs.flatten.length=xs.length*sz:=by
 induction xs with
 |nil=>simp
 |cons y r ih=>simp only [List.flatten_cons,ah,ax,dR];rw [ih (fun z hz=>h z (au _ hz)),h y (by simp)];omega
theorem vj {sz:Nat} {xs:List (List SV)} (h:∀i,i<xs.length→(xs.getD i []).length=sz):∀y∈xs,y.length=sz:=by intro y hy;obtain⟨i,hi,rfl⟩:=bV hy;have:=h i hi;rwa [aa,ab hi]at this
theorem qV {G:GM} {sz:Nat} {xs:List (List SV)} {t:Tok} {v:Value} (h:cS G (.lst sz xs t) v):∃cap,Dt G sz xs.flatten v xs.length cap∧(∃bs,v= .slice bs xs.length cap)∧∀y∈xs,y.length=sz:=by
 cases h with
 |lstN=>exact⟨0,⟨by simp,by simp,.inr ⟨rfl,rfl,rfl⟩⟩,⟨none,rfl⟩,by simp⟩
 |lst _ _ _ b off cap n vl hn hc hl hg h=>
  subst hn;have hrows:=vj hl;refine⟨cap,⟨(bI hrows).symm,hc,.inl ⟨b,off,rfl,fun k hk=> ?_⟩⟩,⟨_,rfl⟩,hrows⟩;rw [bI hrows]at hk
  have hsz:0<sz:=by
   rcases gD sz with h0|h0
   ·subst h0;omega
   ·exact h0
  have hd:k/sz<xs.length:=Nat.div_lt_of_lt_mul (by rw [dv];exact hk);have hm:=Nat.mod_lt k hsz;have hkd:=Nat.div_add_mod k sz;rw [dv]at hkd;refine⟨vl (k/sz) (k % sz), ?_, ?_⟩
  ·have:=hg _ _ hd hm
   rwa [fE,hkd]at this
  ·rw [cV xs hrows k hk];exact h _ _ hd hm
theorem Gn {G:GM} {sz:Nat} {xs:List (List SV)} {t:Tok} {v:Value} {cap:Nat} (h:Dt G sz xs.flatten v xs.length cap) (hrows:∀y∈xs,y.length=sz):cS G (.lst sz xs t) v:=by
 obtain⟨_,hc,⟨b,off,rfl,hr⟩|⟨rfl,h0,_⟩⟩:=h
 ·refine .lst sz xs t b off cap xs.length (fun i j=>(G b (off+i*sz+j)).getD Go.undef) rfl hc (fun i hi=> ?_) (fun i j hi hj=> ?_) (fun i j hi hj=> ?_)
  ·rw [aa,ab hi];exact hrows _ (aT _)
  all_goals
   have hk:i*sz+j<xs.length*sz:=by have:=bB sz (Nat.succ_le_of_lt hi);rw [dR]at this;omega
   obtain⟨v,hv,hrep⟩:=hr (i*sz+j) (by rw [bI hrows];exact hk);rw [←fE]at hv
  ·rw [hv];rfl
  ·rw [hv]
   rw [cV xs hrows _ hk,show(i*sz+j)/sz=i from by rw [dv,Nat.mul_add_div (by omega),Nat.div_eq_of_lt (by omega)];rfl,
    show(i*sz+j) % sz=j from by rw [dv,Nat.mul_add_mod,yB (by omega)]]at hrep
   exact hrep
 ·have:xs=[]:=bJ.1 h0
  subst this;exact .lstN sz t
theorem xfe.mono {G G':GM} (hG:∀b o v,G b o=some v→G' b o=some v) {b off:Nat} {fl:List SV} (h:xfe G b off fl):xfe G' b off fl:=fun k hk=>by obtain⟨v,hv,hr⟩:=h k hk;exact⟨v,hG _ _ _ hv,hr.mono hG⟩
structure New (x:Sit) (ns:List Value) (fl:List SV):Prop where
 len:fl.length=ns.length
 rep:∀k,k<fl.length→cS x.G (fl.getD k .undef) (ns.getD k Go.undef)
 one:∀v∈ns,v.oneCell'=true
theorem ia (z:Array Value) (n:Nat):(Builtin.zeroCells z n).size=n*z.size:=by simp [Builtin.zeroCells]
theorem aI.retok (hM:aI C x s a w) {t:Tok} (ht:t.ready s=true) (d:Nat) {sz n cap:Nat} {bs:Option Addr} (hsp:dk x sz t (.slice bs n cap)):
 ∃b lo hi,aI C (x.newT d b lo hi) (s.grew t d) a w∧dk (x.newT d b lo hi) sz (.id d) (.slice bs n cap):=by
 have empty:cap=n→∃b lo hi,aI C (x.newT d b lo hi) (s.grew t d) a w∧dk (x.newT d b lo hi) sz (.id d) (.slice bs n cap):=by
  intro hc;refine⟨0,0,0,⟨?_,hM.defers, ?_⟩,bs,n,cap,rfl,.inl hc⟩
  ·exact cn.mono (x:=x) (x':=x.newT d 0 0 0) (lo:=d) (hi:=d+1) (fun _ _ _ h=>h) (fun _ _=>rfl) (Sit.newT_ne x d 0 0 0) hM.tm
  ·refine(hM.heap.sub (tk':=t.eat s.tk) (ka.refl _) ?_).addT d 0 0 0 (.inl rfl) (.inl rfl) (.inl rfl)
   intro u hu;cases t with
   |id t=>exact gq hu
   |_=>exact hu
 cases t with
 |no=>simp [Tok.ready]at ht
 |clip=>obtain⟨b',n',he⟩:=hsp;simp only [Value.slice.injEq]at he;exact empty (by omega)
 |id t=>
  obtain⟨b',n',cap',he,hh⟩:=hsp;simp only [Value.slice.injEq]at he;obtain⟨rfl,rfl,rfl⟩:=he;rcases hh with hc|⟨b,off,rfl,hτ⟩
  ·exact empty hc
  ·have htm:t∈s.tk:=by simpa [Tok.ready]using ht
   refine⟨b,off+n*sz,off+cap*sz,⟨?_,hM.defers, ?_⟩,_,n,cap,rfl,.inr ⟨b,off,rfl,Sit.newT_eq x d _ _ _⟩⟩
   ·exact cn.mono (x:=x) (x':=x.newT d b (off+n*sz) (off+cap*sz)) (lo:=d) (hi:=d+1) (fun _ _ _ h=>h) (fun _ _=>rfl) (Sit.newT_ne x d _ _ _) hM.tm
   ·have h1:=hM.heap.tks t htm
    unfold io at h1;rw [hτ]at h1;refine(hM.heap.sub (tk':=cK t (t+1) s.tk) (ka.refl _) (fun u hu=>gq hu)).addT d b (off+n*sz) (off+cap*sz) h1 ?_ ?_
    ·by_cases hc:off+n*sz=off+cap*sz
     ·exact .inl hc
     ·refine .inr fun p hp _=> ?_
      have:=hM.heap.tko t htm p hp;rw [hτ]at this;exact this.resolve_right hc
    ·by_cases hc:off+n*sz=off+cap*sz
     ·exact .inl hc
     ·refine .inr fun u hu _=> ?_
      obtain⟨hu,hne⟩:=bt.1 hu;have:=hM.heap.tkd t htm u hu (by omega);rw [hτ]at this;rcases this with h|h|h
      ·exact .inl h
      ·exact absurd h hc
      ·exact .inr h
theorem gk {t u el:TypeId} {d2:TypeDesc} {n m len cap:Nat} (hd:P.underlying t=some (.slice el)) (hu:P.underlying u=some d2) (hu2:(∃e',d2= .slice e')∨d2= .string) (hn:fp P el=some n) {ty:TypeId} {bs:Option Addr} {Y:Value} {ns:List Value} {w1:World}
 (hlen:(Builtin.lenOf Y).run P w= .ok m w) (hcells:(Builtin.firstCells n m Y).run P w= .ok ns.toArray w) (hc:len+m≤cap)
 (hst:(match bs with|some ad=>storeCells (ad.add (len*n)) ns|none=>pure ():Sem Unit).run P w= .ok () w1):
 (Builtin.append_ #[t,u] ty #[.slice bs len cap,Y]).run P w= .ok (.slice bs (len+m) cap) w1:=by
 have e:(#[t,u]:Array TypeId)[0]? =some t:=rfl;have e':(#[t,u]:Array TypeId)[1]? =some u:=rfl;have e2:(#[Value.slice bs len cap,Y]:Array Value)[0]? =some (.slice bs len cap):=rfl;have e3:(#[Value.slice bs len cap,Y]:Array Value)[1]? =some Y:=rfl;rcases hu2 with⟨e4,rfl⟩|rfl
 all_goals
  simp only [Builtin.append_,e,e',e2,e3,az,run_underlying hd,al,cE hn,run_underlying hu,aE,aD,if_false,hlen,hc,if_true,Bool.not_false,hcells];cases bs with
  |none=>simp only [aE]at hst;cases hst;rfl
  |some ad=>simp only [az];rw [hst];rfl
theorem kj {t u el:TypeId} {d2:TypeDesc} {n m len cap by_:Nat} {i:TypeInfo} {z:Value} (hd:P.underlying t=some (.slice el)) (hu:P.underlying u=some d2) (hu2:(∃e',d2= .slice e')∨d2= .string) (hn:fp P el=some n) {ty:TypeId} {bs:Option Addr} {Y:Value} {os ns:List Value}
 (hi:P.info? el=some i) (hib:i.bytes=by_) (hb0:by_≠0) (hzr:∀w,(zeroValue el).run P w= .ok z w)
 (hlen:∀w',w'.heap=w.heap→(Builtin.lenOf Y).run P w'= .ok m w') (hcells:∀w',w'.heap=w.heap→(Builtin.firstCells n m Y).run P w'= .ok ns.toArray w') (hold:∀w',w'.heap=w.heap→(Builtin.firstCells n len (.slice bs len cap)).run P w'= .ok os.toArray w')
 (hc:¬len+m≤cap) (hroom:(len+m)*by_≤140737488355328):
 ∃nc,len+m≤nc∧(Builtin.append_ #[t,u] ty #[.slice bs len cap,Y]).run P w= .ok (.slice (some ⟨w.heap.size,0,none⟩) (len+m) nc) (w.drew.alloc (.cells (os.toArray++ns.toArray++Builtin.zeroCells z.cells (nc-(len+m))) el (0,0))):=by
 have e:(#[t,u]:Array TypeId)[0]? =some t:=rfl;have e':(#[t,u]:Array TypeId)[1]? =some u:=rfl;have e2:(#[Value.slice bs len cap,Y]:Array Value)[0]? =some (.slice bs len cap):=rfl;have e3:(#[Value.slice bs len cap,Y]:Array Value)[1]? =some Y:=rfl;have hf:(Question.appendCap (len+m) cap el).forced=false:=rfl
 have hfit:¬Builtin.nextslicecap (len+m) cap*i.bytes>2^48:=by have:=growslice_fits (need:=len+m) (old:=cap) (bytes:=by_) (by omega) hroom;rw [hib];omega
 refine⟨(Question.appendCap (len+m) cap el).cut (w.tape w.drawn (Question.appendCap (len+m) cap el)),by simp only [Question.cut];omega, ?_⟩;rcases hu2 with⟨e4,rfl⟩|rfl
 all_goals
  simp only [Builtin.append_,e,e',e2,e3,az,run_underlying hd,al,cE hn,run_underlying hu,aE,aD,if_false,hlen w rfl,hc,run_typeInfo w hi,hib,hb0,false_or,and_false];rw [if_neg (by rw [←hib];exact hfit)];simp only [az,run_choose_drew,hf,aD,if_false,al,run_typeInfo w.drew hi,run_askRoom,hold w.drew rfl,Bool.not_false,if_true,hcells w.drew rfl,hzr,newRow,run_newObj_alloc,aE];rfl
theorem oC (os ns:List Value) (r:Array Value) (k:Nat) (h:k<os.length+ns.length):(os.toArray++ns.toArray++r)[k]? =(os++ns)[k]? :=by rw [Array.getElem?_append_left (by simp;omega)];rw [←cJ];simp
theorem pA (hM:aI C x s a w) {t u el:TypeId} {d2:TypeDesc} {n by_:Nat} {zs:List Value} (hd:P.underlying t=some (.slice el)) (hu:P.underlying u=some d2) (hu2:(∃e',d2= .slice e')∨d2= .string) (hn:fp P el=some n) (hb:ub P el=some by_)
 (hz:gh P el=some zs) (hb0:by_≠0) (hn0':n≠0) (hzl:zs.length=n) {ty:TypeId} {X Y:Value} {tok:Tok} {fl fl':List SV} {ns:List Value} {len m cap:Nat} (hX:Dt x.G n fl X len cap) (htok:tok.ready s=true) (hsp:dk x n tok X)
 (hlen:∀w',w'.heap=w.heap→(Builtin.lenOf Y).run P w'= .ok m w') (hcells:∀w',w'.heap=w.heap→(Builtin.firstCells n m Y).run P w'= .ok ns.toArray w') (hnl:ns.length=m*n) (hnew:New x ns fl') (hroom:(len+m)*by_≤140737488355328) (d:Nat):
 ∃v w' x' cap',(Builtin.append_ #[t,u] ty #[X,Y]).run P w= .ok v w'∧aI C x' (s.grew tok d) a w'∧Dt x'.G n (fl++fl') v (len+m) cap'∧dk x' n (.id d) v:=by
 obtain⟨hfl,hlc,hX'⟩:=hX;obtain⟨z,hzc,hzr⟩:=cM hz
 have hby:∃i,P.info? el=some i∧i.bytes=by_:=by
  unfold ub at hb;cases hi:P.info? el with
  |none=>simp [hi]at hb
  |some i=>simp [hi]at hb;exact⟨i,rfl,hb⟩
 obtain⟨i,hi,hib⟩:=hby
 obtain⟨bs,hXe⟩:∃bs,X= .slice bs len cap:=by
  rcases hX' with⟨b,off,rfl,_⟩|⟨rfl,rfl,rfl⟩
  ·exact⟨_,rfl⟩
  ·exact⟨_,rfl⟩
 subst hXe;have hfl':fl'.length=m*n:=by rw [hnew.len,hnl]
 have hsum:(len+m)*n=(fl++fl').length:=by rw [ah,hfl',←hfl,bP]
 by_cases hc:len+m≤cap
 ·by_cases hm:ns=[]
  ·
   subst hm;have hfl0:fl'=[]:=bJ.1 (by rw [hnew.len];rfl);subst hfl0;obtain⟨b,lo,hi',hM',hsp'⟩:=hM.retok htok d hsp
   by_cases hm0:m=0
   ·subst hm0
    refine⟨_,w,_,cap,gk hd hu hu2 hn (hlen w rfl) (hcells w rfl) hc (by cases bs<;>rfl),hM', ?_,hsp'⟩;refine⟨by simpa using hfl,hc, ?_⟩;rcases hX' with⟨b,off,he,hr⟩|⟨he,h1,h2⟩
    ·exact .inl ⟨b,off,he,by rw [bj];exact hr⟩
    ·exact .inr ⟨he,h1,h2⟩
   ·
    have hn0:n=0:=by
     simp only [bc]at hnl;rcases Nat.mul_eq_zero.1 hnl.symm with h|h
     ·exact absurd h hm0
     ·exact h
    exact absurd hn0 hn0'
  ·have hpos:0<ns.length:=List.length_pos_iff.2 hm
   have hmn:0<m*n:=by omega
   cases tok with
   |no=>simp [Tok.ready]at htok
   |clip=>
    obtain⟨b',n',he⟩:=hsp;simp only [Value.slice.injEq]at he;have:m=0:=by omega
    subst this;omega
   |id tk=>
    have htm:tk∈s.tk:=by simpa [Tok.ready]using htok
    obtain⟨b',n',cap',he,hh⟩:=hsp;simp only [Value.slice.injEq]at he;obtain⟨rfl,rfl,rfl⟩:=he;rcases hh with hcl|⟨b,off,rfl,hτ⟩
    ·have:m=0:=by omega
     subst this;omega
    ·have hle1:off+len*n+ns.length≤off+cap*n:=by
      rw [hnl,fE,←bP];exact Nat.add_le_add_left (bB _ hc) _
     obtain⟨f1,f2,f3,f4,f5,f6,f7,⟨c0,e0,fl0,fh0,hO,hcs⟩⟩:=hM.heap.fill htm hτ ns hle1 hpos
     have hrun:=gk (t:=t) (u:=u) (ty:=ty) (Y:=Y) (bs:=some ⟨b,off,none⟩) (w1:=cP w b (off+len*n) ns) hd hu hu2 hn (hlen w rfl) (hcells w rfl) hc (by simp only [df];exact ib (off+len*n) ns w c0 0 hO (by omega) hnew.one)
     refine⟨_,_,(x.fill b (off+len*n) ns).newT d b (off+len*n+ns.length) (off+cap*n),cap,hrun,⟨?_,hM.defers, ?_⟩,⟨hsum,hc,.inl ⟨b,off,rfl, ?_⟩⟩, ?_⟩
     ·exact cn.mono (x:=x) (x':=(x.fill b (off+len*n) ns).newT d b (off+len*n+ns.length) (off+cap*n)) (lo:=d) (hi:=d+1) f1 (fun _ _=>rfl) (Sit.newT_ne (x.fill b (off+len*n) ns) d _ _ _) hM.tm
     ·exact f2.addT d b _ _ (.inr ⟨f3,f4,f5⟩) (.inr fun p hp _=>f6 p hp) (.inr fun u hu _=>f7 u hu)
     ·rcases hX' with⟨b2,off2,he2,hr⟩|⟨he2,_,_⟩
      ·simp only [Value.slice.injEq,av.injEq,Addr.mk.injEq]at he2
       obtain⟨⟨rfl,rfl,_⟩,_⟩:=he2;intro k hk
       by_cases hk1:k<fl.length
       ·obtain⟨v,hv,hrv⟩:=hr k hk1
        refine⟨v,f1 _ _ _ hv, ?_⟩;have:(fl++fl').getD k .undef=fl.getD k .undef:=by simp only [aa,bK hk1]
        rw [this];exact hrv.mono f1
       ·rw [ah]at hk
        refine⟨ns.getD (k-fl.length) Go.undef, ?_, ?_⟩
        ·show(x.fill b (off+len*n) ns).G b (off+k)=_
         simp only [Sit.fill];rw [if_pos ⟨trivial,by omega,by omega⟩,show off+k-(off+len*n)=k-fl.length from by omega]
        ·have:(fl++fl').getD k .undef=fl'.getD (k-fl.length) .undef:=by simp only [aa,bN (Nat.le_of_not_lt hk1)]
         rw [this];exact(hnew.rep _ (by omega)).mono f1
      ·cases he2
     ·refine⟨_,_,cap,rfl,.inr ⟨b,off,rfl, ?_⟩⟩
      rw [Sit.newT_eq,hnl,fE,←bP]
 ·
  obtain⟨os,hos,hosl,hosv⟩:∃os:List Value,(∀w',w'.heap=w.heap→(Builtin.firstCells n len (.slice bs len cap)).run P w'= .ok os.toArray w')∧os.length=fl.length∧∀k,k<fl.length→cS x.G (fl.getD k .undef) (os.getD k Go.undef):=by
   rcases hX' with⟨b,off,he,hr⟩|⟨he,h1,h2⟩
   ·simp only [Value.slice.injEq]at he
    obtain⟨rfl,_⟩:=he;refine⟨(cg (len*n)).map fun k=>(w.cell? ⟨b,off+k,none⟩).getD Go.undef,fun w' hw'=> ?_,by simp [hfl],fun k hk=> ?_⟩
    ·simp only [Builtin.firstCells]
     refine run_loadCells w' _ _ _ fun j hj=> ?_
     rw [df,de (w:=w) (by rw [hw'])];obtain⟨v,hv,_⟩:=hr j (by omega);rw [hM.heap.per _ _ _ hv];rfl
    ·obtain⟨v,hv,hrv⟩:=hr k hk
     have:((cg (len*n)).map fun k=>(w.cell? ⟨b,off+k,none⟩).getD Go.undef).getD k Go.undef=v:=by rw [aa];simp [show k<len*n from by omega,hM.heap.per _ _ _ hv]
     rw [this];exact hrv
   ·simp only [Value.slice.injEq]at he
    obtain⟨rfl,_⟩:=he;have:fl=[]:=bJ.1 (by rw [←hfl,h1,Nat.zero_mul]);subst this;exact⟨[],fun w' _=>rfl,rfl,fun k hk=>by simp at hk⟩
  obtain⟨nc,hnc,hrun⟩:=kj (t:=t) (u:=u) (ty:=ty) (Y:=Y) hd hu hu2 hn hi hib hb0 hzr hlen hcells hos hc hroom
  let cv:Array Value:=os.toArray++ns.toArray++Builtin.zeroCells z.cells (nc-(len+m))
  have hcvs:cv.size=nc*n:=by
   have hzs:z.cells.size=n:=by rw [←aO,hzc];exact hzl
   simp only [cv,Array.size_append,List.size_toArray,ia,hzs,hosl,hnl,←hfl];rw [←bP,←bP];congr 1;omega
  have hGnew:∀o,x.G w.heap.size o=none:=by
   intro o;cases hg:x.G w.heap.size o with
   |none=>rfl
   |some v=>exact absurd (hM.heap.ltG hg) (by omega)
  have hle:=hM.heap.newD_le cv ((len+m)*n);have hH:cZ C (x.newD w.heap.size cv ((len+m)*n)) s.ob s.tk (w.drew.alloc (.cells cv el (0,0))):=hM.heap.drew.allocD ((len+m)*n);have hown:fd (w.drew.alloc (.cells cv el (0,0))) w.heap.size cv el 0 0:=⟨dM (w:=w.drew),fun i _ h=>by omega⟩;refine⟨_,_,(x.newD w.heap.size cv ((len+m)*n)).newT d w.heap.size ((len+m)*n) (nc*n),nc,hrun,⟨?_,hM.defers, ?_⟩,⟨hsum,hnc,.inl ⟨_,0,rfl, ?_⟩⟩, ?_⟩
  ·exact cn.mono (x:=x) (x':=(x.newD w.heap.size cv ((len+m)*n)).newT d w.heap.size ((len+m)*n) (nc*n)) (lo:=d) (hi:=d+1) hle (fun _ _=>rfl) (Sit.newT_ne (x.newD w.heap.size cv ((len+m)*n)) d _ _ _) hM.tm
  ·refine(hH.sub (tk':=tok.eat s.tk) (ka.refl _) ?_).addT d w.heap.size _ _ (.inr ⟨⟨cv,el,0,0,hown,by omega⟩,hM.heap.new _ hM.heap.size,fun o h1 h2=> ?_⟩) (.inr fun p hp _=> ?_) (.inr fun u hu _=> ?_)
   ·intro u hu
    cases tok with
    |id t=>exact gq hu
    |_=>exact hu
   ·simp only [Sit.newD];rw [if_neg (by omega)];exact hGnew o
   ·obtain⟨⟨c2,e2,fl2,fh2,hO2,_⟩,_⟩:=hM.heap.obs p hp
    have:=hO2.lt;show w.heap.size≠x.β p.1;omega
   ·have hu':u∈s.tk:=by
     cases tok with
     |id t=>exact gq hu
     |_=>exact hu
    rcases hM.heap.tks u hu' with h|⟨⟨c2,e2,fl2,fh2,hO2,_⟩,_⟩
    ·exact .inr h
    ·have:=hO2.lt
     exact .inl (by show w.heap.size≠(x.τ u).1;omega)
  ·intro k hk
   have hkl:k<os.length+ns.length:=by rw [hosl,←hnew.len,←ah];exact hk
   have hcvk:cv[k]? =(os++ns)[k]? :=oC os ns _ k hkl;have hk2:k<(len+m)*n:=by rw [hsum];exact hk
   refine⟨(os++ns).getD k Go.undef, ?_, ?_⟩
   ·show(x.newD w.heap.size cv ((len+m)*n)).G w.heap.size (0+k)=_
    simp only [Sit.newD];rw [if_pos ⟨trivial,by omega⟩,cO,hcvk];have:k<(os++ns).length:=by rw [ah];exact hkl
    rw [ab this,aa,ab this];rfl
   ·refine cS.mono (G:=x.G) hle ?_
    by_cases hk1:k<fl.length
    ·have e1:(fl++fl').getD k .undef=fl.getD k .undef:=by simp only [aa,bK hk1]
     have e2:(os++ns).getD k Go.undef=os.getD k Go.undef:=by simp only [aa,bK (show k<os.length by omega)]
     rw [e1,e2];exact hosv k hk1
    ·have e1:(fl++fl').getD k .undef=fl'.getD (k-fl.length) .undef:=by simp only [aa,bN (Nat.le_of_not_lt hk1)]
     have e2:(os++ns).getD k Go.undef=ns.getD (k-fl.length) Go.undef:=by simp only [aa,bN (show os.length≤k by omega),hosl]
     rw [e1,e2];exact hnew.rep _ (by rw [ah]at hk;omega)
  ·exact⟨_,_,nc,rfl,.inr ⟨w.heap.size,0,rfl,by rw [Sit.newT_eq];simp⟩⟩
theorem iY (hM:aI C x s a w) {u:SV} {Y:Value} {p:Prop} {l:List UInt8} (h:Rep x u Y) (hb:bytesOf s u=some (p,l)) (hp:p):
 (∀w',w'.heap=w.heap→(Builtin.lenOf Y).run P w'= .ok l.length w')∧(∀m,m≤l.length→∀w',w'.heap=w.heap→(Builtin.firstCells 1 m Y).run P w'= .ok ((l.take m).map fun b=>Value.int .u8 b.toNat).toArray w'):=by
 have load:∀(b off m:Nat),m≤l.length→(∀i,i<l.length→w.cell? ⟨b,off+i,none⟩=some (.int .u8 (l.getD i 0).toNat))→∀w':World,w'.heap=w.heap→
  (loadCells ⟨b,off,none⟩ (m*1)).run P w'= .ok ((l.take m).map fun b=>Value.int .u8 b.toNat).toArray w':=by
  intro b off m hm hc w' hw';rw [run_loadCells w' _ _ (fun i=> .int .u8 (l.getD i 0).toNat) (fun j hj=>by rw [df,de (w:=w) (by rw [hw'])];exact hc j (by omega))]
  congr 2
  apply List.ext_getElem?;intro i
  by_cases hi:i<m
  ·simp [hi,aa,show i<l.length from by omega]
  ·simp [hi];omega
 cases u with
 |byt l' t=>
  simp only [bytesOf,av.injEq,bh.injEq]at hb;obtain⟨rfl,rfl⟩:=hb;have hD:=h.data rfl;cases hY:Y with
  |slice ad n cp=>
   rw [hY]at hD;cases hD with
   |bytN=>exact⟨fun w' _=>rfl,fun m hm w' _=>by simp at hm;subst hm;rfl⟩
   |byt _ _ b off _ _ hn hc hg=>subst hn;exact⟨fun w' _=>rfl,fun m hm w' hw'=>by simp only [Builtin.firstCells];exact load b off m hm (fun i hi=>hM.heap.per _ _ _ (hg i hi)) w' hw'⟩
  |_=>rw [hY]at hD;cases hD
 |str l'=>simp only [bytesOf,av.injEq,bh.injEq]at hb;obtain⟨rfl,rfl⟩:=hb;rw [h.str_inv];refine⟨fun w' _=>by simp [Builtin.lenOf,ByteArray.size],fun m hm w' _=> ?_⟩;simp only [Builtin.firstCells,AF,aY,aE];simp
 |psl o' sz off n cp=>
  simp only [bytesOf]at hb;split at hb<;>try (cases hb;done)
  rename_i l' hl;simp only [av.injEq,bh.injEq]at hb;obtain⟨rfl,rfl⟩:=hb;obtain⟨hp0,hp1⟩:=hp;obtain⟨cp,hnc,_,off',he',hoff⟩:=h.psl_inv;have hlen:((l'.drop off).take n).length=n:=by simp;omega
  rw [he'];refine⟨fun w' _=>by simp only [Builtin.lenOf,hlen];rfl,fun m hm w' hw'=> ?_⟩;simp only [Builtin.firstCells]
  by_cases hn:cp=0
  ·have:m=0:=by omega
   subst this;rfl
  ·have hoff':off'=off:=by
    rcases hoff with h|h
    ·omega
    ·rw [hp0,dm]at h;exact h
   subst hoff';refine load (x.β o') off' m hm (fun i hi=> ?_) w' hw';obtain⟨v,h2,h3⟩:=(ft hM hl).cell (k:=off'+i) (by simp only [aB.size];omega);rw [h2];have h4:cS x.G (.u8 (l'.getD (off'+i) 0)) v:=h3;cases h4;simp only [aa,bM,if_pos (show i<n by omega),bx]
 |_=>simp [bytesOf]at hb
theorem se (l:List UInt8):New x (l.map fun b=>Value.int .u8 b.toNat) (l.map .u8):=by
 refine⟨by simp,fun k hk=> ?_,fun v hv=> ?_⟩
 ·rw [aQ]at hk
  rw [iP _ _ hk]
  have:(l.map fun b=>Value.int .u8 b.toNat).getD k Go.undef= .int .u8 (l.getD k 0).toNat:=by simp only [aa,aJ];rw [ab hk];rfl
  rw [this];exact .u8 _
 ·obtain⟨b,_,rfl⟩:=aS.1 hv;rfl
theorem gX (hM:aI C x s a w) {sz:Nat} {u:SV} {Y:Value} {p:Prop} {xs:List (List SV)} (h:Rep x u Y) (hb:eL s sz u=some (p,xs)) (hp:p):
 (∀y∈xs,y.length=sz)∧(∀w',w'.heap=w.heap→(Builtin.lenOf Y).run P w'= .ok xs.length w')∧
 ∃ns:List Value,New x ns xs.flatten∧∀m,m≤xs.length→∀w',w'.heap=w.heap→(Builtin.firstCells sz m Y).run P w'= .ok (ns.take (m*sz)).toArray w':=by
 have gen:∀(b off:Nat),(∀y∈xs,y.length=sz)→(∀k,k<xs.flatten.length→∃v,w.cell? ⟨b,off+k,none⟩=some v∧cS x.G (xs.flatten.getD k .undef) v)→
  ∃ns:List Value,New x ns xs.flatten∧∀m,m≤xs.length→∀w',w'.heap=w.heap→(loadCells ⟨b,off,none⟩ (m*sz)).run P w'= .ok (ns.take (m*sz)).toArray w':=by
  intro b off hrows hc;refine⟨(cg xs.flatten.length).map fun k=>(w.cell? ⟨b,off+k,none⟩).getD Go.undef,⟨by simp,fun k hk=> ?_,fun v hv=> ?_⟩,fun m hm w' hw'=> ?_⟩
  ·obtain⟨v,hv,hr⟩:=hc k hk
   have:((cg xs.flatten.length).map fun k=>(w.cell? ⟨b,off+k,none⟩).getD Go.undef).getD k Go.undef=v:=by rw [aa,aJ,cy hk];simp [hv]
   rw [this];exact hr
  ·obtain⟨k,hk,rfl⟩:=aS.1 hv
   obtain⟨v,hv,hr⟩:=hc k (dL.1 hk);rw [hv];exact hr.oneCell
  ·have hle:m*sz≤xs.flatten.length:=by rw [bI hrows];exact bB _ hm
   rw [run_loadCells w' _ _ (fun k=>(w.cell? ⟨b,off+k,none⟩).getD Go.undef) (fun j hj=> ?_)]
   ·congr 2
    rw [←List.map_take,List.take_range,dr hle]
   ·rw [df,de (w:=w) (by rw [hw'])]
    obtain⟨v,hv,_⟩:=hc j (by omega);rw [hv];rfl
 cases u with
 |lst sz' xs' t=>
  simp only [eL,av.injEq,bh.injEq]at hb;obtain⟨rfl,rfl⟩:=hb;subst hp;obtain⟨cap,⟨h1,h2,h3⟩,_,hrows⟩:=qV (h.data rfl);refine⟨hrows, ?_⟩;rcases h3 with⟨b,off,rfl,hr⟩|⟨rfl,h0,_⟩
  ·refine⟨fun w' _=>rfl, ?_⟩
   obtain⟨ns,g1,g2⟩:=gen b off hrows (fun k hk=>by obtain⟨v,hv,hrv⟩:=hr k hk;exact⟨v,hM.heap.per _ _ _ hv,hrv⟩)
   exact⟨ns,g1,fun m hm w' hw'=>by simp only [Builtin.firstCells];exact g2 m hm w' hw'⟩
  ·have:xs'=[]:=bJ.1 h0
   subst this;exact⟨fun w' _=>rfl,[],⟨rfl,fun k hk=>by simp at hk,fun v hv=>by simp at hv⟩,fun m hm w' _=>by simp only [Builtin.firstCells];simp⟩
 |psl o' sz' off n cp=>
  simp only [eL]at hb;split at hb<;>try (cases hb;done)
  rename_i sz'' xs' hl;simp only [av.injEq,bh.injEq]at hb;obtain⟨rfl,rfl⟩:=hb;obtain⟨rfl,rfl,hp1,hp2⟩:=hp;have hrows:∀y∈(xs'.drop off).take n,y.length=sz:=fun y hy=>hp2 y (gV (bH hy))
  obtain⟨cp,hnc,_,off',he',hoff⟩:=h.psl_inv;have hlen:((xs'.drop off).take n).length=n:=by simp;omega
  rw [he'];refine⟨hrows,fun w' _=>by simp only [Builtin.lenOf,hlen];rfl, ?_⟩
  by_cases hn:cp=0
  ·have hn0:n=0:=by omega
   subst hn0
   exact⟨[],⟨by simp,fun k hk=>by simp at hk,fun v hv=>by simp at hv⟩,fun m hm w' _=>by simp at hm;subst hm;simp [Builtin.firstCells,loadCells,loadCellsFrom]⟩
  ·have hoff':off'=off*sz:=hoff.resolve_left hn
   obtain⟨ns,g1,g2⟩:=gen (x.β o') off' hrows (fun k hk=>by
    rw [bI hrows,hlen]at hk
    have hk2:off*sz+k<xs'.length*sz:=by have:=bB sz hp1;rw [bP]at this;omega
    obtain⟨v,h2,h3⟩:=(ft hM hl).cell (k:=off*sz+k) (by simp only [aB.size];exact hk2);refine⟨v,by rw [hoff'];exact h2, ?_⟩;have h4:cS x.G ((xs'.getD ((off*sz+k)/sz) []).getD ((off*sz+k) % sz) .undef) v:=h3
    have hsz:0<sz:=by
     rcases gD sz with h0|h0
     ·subst h0;omega
     ·exact h0
    rw [cV _ hrows k (by rw [hlen];exact hk)];rw [dv off sz,Nat.mul_add_div hsz,Nat.mul_add_mod]at h4;have hd:k/sz<n:=Nat.div_lt_of_lt_mul (by rw [dv];exact hk)
    have e1:((xs'.drop off).take n).getD (k/sz) []=xs'.getD (off+k/sz) []:=by simp only [aa,bM,if_pos hd,bx]
    rw [e1];exact h4)
   exact⟨ns,g1,fun m hm w' hw'=>by simp only [Builtin.firstCells];exact g2 m hm w' hw'⟩
 |_=>simp [eL]at hb
theorem yc (hM:aI C x s a w) {cl:Call} (ho:o.op= .call cl) (hb:cl.callee= .builtin .append) (hr:bo P o=some so) (he:eff s o.dst so=some e) (hp:e.pre):cm P C o a w (s.app o.dst e):=by
 simp only [bo,ho,hb]at hr;split at hr<;>try (cases hr;done)
 rename_i X Y t u hX ht;split at hr<;>try (cases hr;done)
 rename_i el d2 r q hd hu hra hrb;split at hr<;>try (cases hr;done)
 rename_i n by_ z hn hby hz;rw [aN]at hr;obtain⟨hcond,hr⟩:=hr;simp only [an,decide_eq_true_eq]at hcond;obtain⟨⟨hb0,hn0⟩,hzl'⟩:=hcond;obtain⟨zs,hzc,hzl0,_⟩:=jt hz;have hzl:zs.length=n:=by omega
 have hu2:((∃e',d2= .slice e')∨d2= .string)∧so= .app z by_ r q:=by
  split at hr<;>try (cases hr;done)
  ·cases hr;exact⟨.inl ⟨_,rfl⟩,rfl⟩
  ·rw [aN]at hr
   obtain⟨_,hr⟩:=hr;cases hr;exact⟨.inr rfl,rfl⟩
  ·cases hr;cases he
 obtain⟨hu2,rfl⟩:=hu2;have h1:=aK hM hra;have h2:=aK hM hrb;have ea:cl.args= #[X,Y]:=by apply dV;simpa using hX
 have et:cl.argTypes= #[t,u]:=by apply dV;simpa using ht
 have hex:=gn (a:=a) ho hb _ rfl;rw [ea,et]at hex;have em: #[X,Y].map a.eval= #[a.eval X,a.eval Y]:=by simp
 rw [em]at hex;simp only [eff]at he;split at he<;>try (cases he;done)
 rename_i d hdst
 have fin:∀ {v w' x'} {c:SV},(Builtin.append_ #[t,u] o.type #[a.eval X,a.eval Y]).run P w= .ok v w'→∀ {tk:Tok},aI C x' (s.grew tk (d+100)) a w'→Rep x' c v→cm P C o a w ((s.grew tk (d+100)).put o.dst c):=by intro v w' x' c hrun tk hM' hc;exact⟨v,w',x',.value v,by rw [hex];simp [hrun],.inl rfl,hM'.put o.dst hc⟩
 cases hu':s.ev r with
 |byt l tk=>
  rw [hu']at he h1
  try simp only at he
  split at he<;>try (cases he;done)
  rename_i p l' hl';cases he;obtain⟨hp0,hz1,rfl,htk,hroom⟩:=hp;obtain rfl:n=1:=by omega
  obtain⟨g1,g2⟩:=iY (P:=P) hM h2 hl' hp0;obtain⟨_,_,_,_,_,hsp⟩:=h1.byt_inv;obtain⟨cap,hF,_⟩:=wm (h1.data rfl)
  obtain⟨v,w',x',cap',hrun,hM',hF',hsp'⟩:=pA (ty:=o.type) hM hd hu hu2 hn hby hzc hb0 hn0 hzl hF htk hsp g1 (fun w' hw'=>by have:=g2 l'.length (aZ _) w' hw';rwa [br]at this) (by simp) (se l') (by omega) (d+100)
  simp only [St.app];have hd':o.dst.getD 0=d:=by rw [hdst];rfl
  rw [hd'];refine fin hrun hM' (.dat _ _ (Ha (cap:=cap') ?_) hsp');rw [ah,bz];exact hF'
 |lst sz' l tk=>
  rw [hu']at he h1
  try simp only at he
  split at he<;>try (cases he;done)
  rename_i p l' hl';cases he;obtain⟨hp0,rfl,htk,hroom⟩:=hp;obtain rfl:n=z.length:=by omega
  obtain⟨hrows',g1,ns,hnew,g2⟩:=gX (P:=P) hM h2 hl' hp0;obtain⟨_,_,_,_,_,hsp⟩:=h1.lst_inv;obtain⟨cap,hF,_,hrows⟩:=qV (h1.data rfl);have hnl:ns.length=l'.length*z.length:=by rw [←hnew.len,bI hrows']
  obtain⟨v,w',x',cap',hrun,hM',hF',hsp'⟩:=pA (ty:=o.type) hM hd hu hu2 hn hby hzc hb0 hn0 hzl hF htk hsp g1 (fun w' hw'=>by have:=g2 l'.length (aZ _) w' hw';rwa [←hnl,br]at this) hnl hnew hroom (d+100)
  simp only [St.app];have hd':o.dst.getD 0=d:=by rw [hdst];rfl
  rw [hd'];refine fin hrun hM' (.dat _ _ (Gn (cap:=cap') ?_ ?_) hsp')
  ·rw [ah,cz];exact hF'
  ·intro y hy
   rcases aj.1 hy with hy|hy
   ·exact hrows y hy
   ·exact hrows' y hy
 |_=>rw [hu']at he;simp at he
end Go.Sy
namespace Go.Sy
variable [ba]
variable {P : Program} {C : Ctx} {x : Sit} {s : St} {a : Act} {w : World} {o : Oper} {so : SOp} {e : Eff}
theorem aI.write (hM:aI C x s a w) {d off:Nat} {obj obj':aB} (hl:s.look d=some obj) {vs:List Value} (hb:off+vs.length≤obj.size) (hsz:obj'.size=obj.size)
 (hnew:∀c:Array Value,(∀k,k<obj.size→cf x obj k (c.getD k Go.undef))→∀k,k<obj.size→cf x obj' k (if off≤k∧k<off+vs.length then vs.getD (k-off) Go.undef else c.getD k Go.undef)):
 aI C x (s.setO d obj') a (cP w (x.β d) off vs)∧((∀v∈vs,v.oneCell'=true)→∀w':World,w'=w→(storeCells ⟨x.β d,off,none⟩ vs).run P w'= .ok () (cP w (x.β d) off vs)):=by
 obtain⟨c,e,fl,fh,hO,hs,hr⟩:=ft hM hl;obtain⟨g1,g2,g3,g4,g5⟩:=iU (x.β d) vs w off;obtain⟨c',hO',hcs,hck⟩:=ic vs w off c hO (by omega);refine⟨⟨hM.tm,hM.defers,hM.heap.block (cW hl) g1 g2 g3 g4 g5 ⟨c',e,fl,fh,hO',by omega,fun k hk=> ?_⟩⟩, ?_⟩
 ·rw [hck k]
  exact hnew c hr k (by omega)
 ·rintro hone w' rfl
  exact ib off vs w' c 0 hO (by omega) hone
theorem vH {t u el:TypeId} {n m k:Nat} {ty:TypeId} {bs:Addr} {cap:Nat} {Y:Value} {vs:List Value} {w1:World} (hd:P.underlying t=some (.slice el)) (hn:fp P el=some n)
 (hlen:(Builtin.lenOf Y).run P w= .ok m w) (hcells:(Builtin.firstCells n (min m k) Y).run P w= .ok vs.toArray w) (hst:(storeCells bs vs).run P w= .ok () w1):
 (Builtin.copy_ #[t,u] ty #[.slice (some bs) k cap,Y]).run P w= .ok (.int .i64 (min m k:Nat)) w1:=by
 have e:(#[t,u]:Array TypeId)[0]? =some t:=rfl;have e2:(#[Value.slice (some bs) k cap,Y]:Array Value)[0]? =some (.slice (some bs) k cap):=rfl;have e3:(#[Value.slice (some bs) k cap,Y]:Array Value)[1]? =some Y:=rfl;have hc':(Builtin.firstCells n (Nat.min m k) Y).run P w= .ok vs.toArray w:=hcells;simp only [Builtin.copy_,e,e2,e3,az,run_underlying hd,al,cE hn,hlen,hc',hst,aE,goInt]
theorem GJ (hM:aI C x s a w) {cl:Call} (ho:o.op= .call cl) (hb:cl.callee= .builtin .copy) (hr:bo P o=some so) (he:eff s o.dst so=some e) (hp:e.pre):cm P C o a w (s.app o.dst e):=by
 simp only [bo,ho,hb]at hr;split at hr<;>try (cases hr;done)
 rename_i X Y t u hX ht;split at hr<;>try (cases hr;done)
 rename_i el r q hd hra hrb;split at hr<;>try (cases hr;done)
 rename_i n hn;cases hr;have h1:=aK hM hra;have h2:=aK hM hrb;have ea:cl.args= #[X,Y]:=by apply dV;simpa using hX
 have et:cl.argTypes= #[t,u]:=by apply dV;simpa using ht
 have hex:=gn (a:=a) ho hb _ rfl;rw [ea,et]at hex;have em: #[X,Y].map a.eval= #[a.eval X,a.eval Y]:=by simp
 rw [em]at hex;simp only [eff]at he;cases hu:s.ev r with
 |psl d sz' off k cap=>
  rw [hu]at he h1;obtain⟨cap,hkc,_,off',hXe,hoff⟩:=h1.psl_inv
  try simp only at he
  split at he<;>try (cases he;done)
  ·rename_i l hl
   split at he<;>try (cases he;done)
   rename_i p l' hl';cases he;obtain⟨hp0,rfl,rfl,hbd⟩:=hp;obtain⟨g1,g2⟩:=iY (P:=P) hM h2 hl' hp0;have hvl:((l'.take (min l'.length k)).map fun b=>Value.int .u8 b.toNat).length=min l'.length k:=by simp
   have etk:l'.take (min l'.length k)=l'.take k:=by rw [Nat.min_comm,←List.take_take];simp
   have hoff':min l'.length k=0∨off'=off:=by
    rcases hoff with h|h
    ·left;omega
    ·right;rw [dm]at h;exact h
   have hlk:(l'.take k).length=min l'.length k:=by simp;omega
   simp only [St.app]
   obtain⟨
    hM',hst⟩:=hM.write (P:=P) (off:=off) (vs:=(l'.take (min l'.length k)).map fun b=>Value.int .u8 b.toNat) (obj':= .bar (l.take off++l'.take k++l.drop (off+(l'.take k).length))) hl (by simp only [aB.size,hvl];omega)
    (by simp only [aB.size,ah,ay,aF];omega) (by
     intro c hc i hi;have:=hc i hi;simp only [cf,aB.cell,aB.size]at this hi ⊢;have hsp:=gj l (l'.take k) off i (by rw [hlk];omega);rw [hvl]
     have e1:(l.take off++l'.take k++l.drop (off+(l'.take k).length)).getD i 0=if off≤i∧i<off+min l'.length k then(l'.take k).getD (i-off) 0 else l.getD i 0:=by simp only [aa];rw [hsp,hlk];split<;>rfl
     rw [e1];split
     ·rename_i hin
      rw [etk]
      have e2:((l'.take k).map fun b=>Value.int .u8 b.toNat).getD (i-off) Go.undef= .int .u8 ((l'.take k).getD (i-off) 0).toNat:=by simp only [aa,aJ];rw [ab (by rw [hlk];omega)];rfl
      rw [e2];exact .u8 _
     ·exact this)
   refine⟨.int .i64 (min l'.length k:Nat),_,x,.value _, ?_,.inl rfl,aI.put hM' o.dst (cH _ _)⟩;rw [hex,hXe]
   have hcp:=vH (P:=P) (w:=w) (t:=t) (u:=u) (ty:=o.type) (bs:=⟨x.β d,off',none⟩) (cap:=cap) (w1:=cP w (x.β d) off ((l'.take (min l'.length k)).map fun b=>Value.int .u8 b.toNat)) hd hn (g1 w rfl) (g2 _ (Nat.min_le_left _ _) w rfl) (by
    rcases hoff' with h|h
    ·rw [h];rfl
    ·rw [h];exact hst (fun v hv=>by obtain⟨_,_,rfl⟩:=aS.1 hv;rfl) w rfl)
   simp [hcp]
  ·rename_i sz'' xs hl
   split at he<;>try (cases he;done)
   rename_i p l' hl';cases he;obtain⟨hp0,rfl,rfl,hbd,hrows⟩:=hp;obtain⟨hrows',g1,ns,hnew,g2⟩:=gX (P:=P) hM h2 hl' hp0;have hnl:ns.length=l'.length*n:=by rw [←hnew.len,bI hrows']
   have hmk:(min l'.length k)*n≤ns.length:=by rw [hnl];exact bB _ (Nat.min_le_left _ _)
   have hvl:(ns.take (min l'.length k*n)).length=min l'.length k*n:=by rw [ay,dr hmk]
   have hlk:(l'.take k).length=min l'.length k:=by simp;omega
   have hrowsk:∀y∈l'.take k,y.length=n:=fun y hy=>hrows' y (bH hy)
   have hflk:(l'.take k).flatten.length=min l'.length k*n:=by rw [bI hrowsk,hlk]
   have hoff':min l'.length k=0∨off'=off*n:=by
    rcases hoff with h|h
    ·left;omega
    ·right;exact h
   have hbnd:off*n+min l'.length k*n≤xs.length*n:=by rw [←bP];exact bB _ (by omega)
   have hrowsnew:∀y∈xs.take off++l'.take k++xs.drop (off+(l'.take k).length),y.length=n:=by
    intro y hy;rcases aj.1 hy with hy|hy
    ·rcases aj.1 hy with hy|hy
     ·exact hrows y (bH hy)
     ·exact hrowsk y hy
    ·exact hrows y (gV hy)
   have hlnew:(xs.take off++l'.take k++xs.drop (off+(l'.take k).length)).length=xs.length:=by simp only [ah,ay,aF];omega
   simp only [St.app]
   obtain⟨
    hM',hst⟩:=hM.write (P:=P) (off:=off*n) (vs:=ns.take (min l'.length k*n)) (obj':= .arr n (xs.take off++l'.take k++xs.drop (off+(l'.take k).length))) hl (by simp only [aB.size,hvl];exact hbnd)
    (by simp only [aB.size];rw [hlnew]) (by
     intro c hc i hi;have:=hc i hi;simp only [cf,aB.cell,aB.size]at this hi ⊢;rw [←cV _ hrowsnew i (by rw [hlnew];exact hi)];rw [←cV _ hrows i hi]at this;rw [cz,cz,hvl];have ef:xs.flatten=(xs.take off).flatten++(xs.drop off).flatten:=by rw [←cz,yz]
     have l1:(xs.take off).flatten.length=off*n:=by rw [bI (fun y hy=>hrows y (bH hy)),ay,dr (by omega)]
     have e1:xs.flatten.take (off*n)=(xs.take off).flatten:=by rw [ef,List.take_append_of_le_length (by rw [l1];exact aZ _),co (by rw [l1];exact aZ _)]
     have e2:xs.flatten.drop (off*n+min l'.length k*n)=(xs.drop (off+(l'.take k).length)).flatten:=by
      have ef2:xs.flatten=(xs.take (off+(l'.take k).length)).flatten++(xs.drop (off+(l'.take k).length)).flatten:=by rw [←cz,yz]
      have l2:(xs.take (off+(l'.take k).length)).flatten.length=off*n+min l'.length k*n:=by rw [bI (fun y hy=>hrows y (bH hy)),ay,hlk,dr (by omega),bP]
      rw [ef2,List.drop_append,l2,Nat.sub_self,aY,bE (by rw [l2];exact aZ _),bp]
     rw [←e1,←e2,←hflk];have hsp:=gj xs.flatten (l'.take k).flatten (off*n) i (by rw [hflk,bI hrows];exact hbnd);rw [aa,hsp];split
     ·rename_i hin
      rw [←aa];have hlt:i-off*n<(l'.take k).flatten.length:=by omega
      have hfl:(l'.take k).flatten.getD (i-off*n) .undef=l'.flatten.getD (i-off*n) .undef:=by
       have ef3:l'.flatten=(l'.take k).flatten++(l'.drop k).flatten:=by rw [←cz,yz]
       rw [ef3];simp only [aa];rw [bK hlt]
      rw [hfl]
      have e3:(ns.take (min l'.length k*n)).getD (i-off*n) Go.undef=ns.getD (i-off*n) Go.undef:=by simp only [aa,bM];rw [if_pos (by omega)]
      rw [←hflk]at e3;rw [e3];exact hnew.rep _ (by rw [hnew.len];omega)
     ·rw [←aa];exact this)
   refine⟨.int .i64 (min l'.length k:Nat),_,x,.value _, ?_,.inl rfl,aI.put hM' o.dst (cH _ _)⟩;rw [hex,hXe]
   have hcp:=vH (P:=P) (w:=w) (t:=t) (u:=u) (ty:=o.type) (bs:=⟨x.β d,off',none⟩) (cap:=cap) (w1:=cP w (x.β d) (off*n) (ns.take (min l'.length k*n))) hd hn (g1 w rfl) (g2 _ (Nat.min_le_left _ _) w rfl) (by
    rcases hoff' with h|h
    ·rw [h];simp [storeCells,cP]
    ·rw [h];exact hst (fun v hv=>hnew.one v (bH hv)) w rfl)
   simp [hcp]
 |_=>rw [hu]at he;simp at he
theorem EF (hM:aI C x s a w) (hr:bo P o=some so) (hno:∀q r,so≠ .ovl q r) (he:eff s o.dst so=some e) (hp:e.pre):cm P C o a w (s.app o.dst e):=by
 have viaVal:(∀ {p c},val s so=some (p,c)→p→cm P C o a w (s.put o.dst c))→(∀d,eff s d so=match val s so with|some (p,v)=>some {pre:=p,val:=v}|none=>none)→cm P C o a w (s.app o.dst e):=by
  intro h1 h2;rw [h2]at he;cases hv:val s so with
  |none=>simp [hv]at he
  |some pc=>obtain⟨p,c⟩:=pc;simp only [hv,av.injEq]at he;subst he;exact h1 hv hp
 cases ho:o.op with
 |move X=>exact viaVal (fun hv _=>vr hM (.inl ho) hr hv) (by simp only [bo,ho]at hr;obtain⟨_,_,rfl⟩:=ai.1 hr;intro d;rfl)
 |assign X=>exact viaVal (fun hv _=>vr hM (.inr ho) hr hv) (by simp only [bo,ho]at hr;obtain⟨_,_,rfl⟩:=ai.1 hr;intro d;rfl)
 |pick c X Y=>
  exfalso;simp only [bo,ho]at hr;split at hr<;>try (cases hr;done)
  cases hr;simp [eff]at he
 |alloc t=>exact EH hM ho hr he
 |box t X=>exact T4 hM ho hr he
 |build t ps=>exact viaVal (fun hv _=>DB hM ho hr hv) (by
  simp only [bo,ho]at hr;split at hr<;>try (cases hr;done)
  ·split at hr<;>try (cases hr;done)
   obtain⟨_,_,rfl⟩:=ai.1 hr;intro d;rfl
  ·split at hr<;>try (cases hr;done)
   obtain⟨_,_,rfl⟩:=ai.1 hr;intro d;rfl)
 |buildSlice t n ps=>exact viaVal (fun hv _=>pe hM ho hr hv) (by
  simp only [bo,ho]at hr;split at hr<;>try (cases hr;done)
  split at hr<;>try (cases hr;done)
  split at hr<;>try (cases hr;done)
  obtain⟨_,_,rfl⟩:=ai.1 hr;intro d;split<;>rfl)
 |load t X=>exact viaVal (fun hv hp=>Fr hM ho hr hv hp) (by
  simp only [bo,ho]at hr;split at hr<;>try (cases hr;done)
  split at hr<;>try (cases hr;done)
  cases hr;intro d;rfl)
 |store t X Y=>exact EE hM ho hr he hp
 |nilCheck X=>exact viaVal (fun hv _=>sY hM ho hr hv) (by simp only [bo,ho]at hr;obtain⟨_,_,rfl⟩:=ai.1 hr;intro d;rfl)
 |binOp op t X Y u=>
  by_cases hns:∃ne ts q r,so= .eqS ne ts q r
  ·obtain⟨ne,ts,q,r,rfl⟩:=hns
   exact viaVal (fun hv _=>RX hM ho hr hv) (fun _=>rfl)
  ·exact viaVal (fun hv hp=>DC hM ho hr (fun ne ts q r e=>hns ⟨ne,ts,q,r,e⟩) hv hp) (by
    simp only [bo,ho]at hr;split at hr<;>try (cases hr;done)
    ·split at hr<;>try (cases hr;done)
     all_goals (cases hr;intro d;rfl)
    ·cases hr;intro d;rfl
    ·cases hr;intro d;rfl
    ·split at hr<;>try (cases hr;done)
     split at hr<;>try (cases hr;done)
     split at hr<;>first|(cases hr;done)|(cases hr;intro d;rfl)
    ·split at hr<;>first|(cases hr;done)|(cases hr;simp [eff]at he)
    ·split at hr<;>first|(cases hr;done)|(cases hr;intro d;rfl))
 |unOp op t X=>exact viaVal (fun hv _=>Fq hM ho hr hv) (by simp only [bo,ho]at hr;obtain⟨_,_,rfl⟩:=ai.1 hr;intro d;rfl)
 |convert t u X=>exact viaVal (fun hv hp=>vd hM ho hr hv hp) (by
  simp only [bo,ho]at hr;split at hr<;>try (cases hr;done)
  ·cases hr;intro d;rfl
  ·cases hr;intro d;rfl
  ·split at hr<;>try (cases hr;done)
   cases hr;intro d;rfl
  ·split at hr<;>try (cases hr;done)
   cases hr;intro d;rfl
  ·split at hr<;>try (cases hr;done)
   cases hr;intro d;rfl)
 |makeFunc f X Y=>exact viaVal (fun hv _=>sZ hM ho hr hv) (by
  cases f<;>simp only [bo,ho,reduceCtorEq]at hr;split at hr<;>try (cases hr;done)
  cases hr;intro d;rfl)
 |makeSlice t X Y=>exact rB hM ho hr he hp
 |slice t X lo hi mx=>exact viaVal (fun hv hp=>Dx hM ho hr hv hp) (by
  simp only [bo,ho]at hr;split at hr<;>try (cases hr;done)
  split at hr
  ·cases hr
  split at hr<;>try (cases hr;done)
  ·split at hr<;>try (cases hr;done)
   cases hr;intro d;rfl
  ·split at hr<;>try (cases hr;done)
   cases hr;intro d;rfl
  ·split at hr<;>try (cases hr;done)
   cases hr;intro d;rfl)
 |fieldAddr t X i=>exact viaVal (fun hv _=>ra hM ho hr hv) (by
  simp only [bo,ho]at hr;split at hr<;>try (cases hr;done)
  split at hr<;>try (cases hr;done)
  split at hr<;>try (cases hr;done)
  split at hr
  ·cases hr
  cases hr;intro d;rfl)
 |field t X i=>exact viaVal (fun hv hp=>Dz hM ho hr hv hp) (by
  simp only [bo,ho]at hr;split at hr<;>try (cases hr;done)
  split at hr<;>try (cases hr;done)
  split at hr<;>try (cases hr;done)
  split at hr<;>try (cases hr;done)
  cases hr;intro d;rfl)
 |indexAddr t X Y=>exact viaVal (fun hv hp=>q9 hM ho hr hv hp) (by
  simp only [bo,ho]at hr;split at hr<;>try (cases hr;done)
  ·split at hr<;>try (cases hr;done)
   cases hr;intro d;rfl
  ·split at hr<;>try (cases hr;done)
   cases hr;intro d;rfl)
 |index t X Y=>exact viaVal (fun hv hp=>Dy hM ho hr hv hp) (by
  simp only [bo,ho]at hr;split at hr<;>try (cases hr;done)
  ·split at hr<;>try (cases hr;done)
   split at hr<;>try (cases hr;done)
   cases hr;intro d;rfl
  ·cases hr;intro d;rfl)
 |extract X i=>exact viaVal (fun hv hp=>vc hM ho hr hv hp) (by simp only [bo,ho]at hr;obtain⟨_,_,rfl⟩:=ai.1 hr;intro d;rfl)
 |call cl=>
  cases hb:cl.callee with
  |invoke r m=>simp [bo,ho,hb]at hr
  |value f=>
   exfalso;simp only [bo,ho,hb]at hr;split at hr<;>try (cases hr;done)
   split at hr<;>try (cases hr;done)
   split at hr
   ·split at hr
    ·cases hr;exact hno _ _ rfl
    ·cases hr;simp [eff]at he
   ·cases hr;simp [eff]at he
  |builtin b=>
   cases b with
   |append=>exact yc hM ho hb hr he hp
   |copy=>exact GJ hM ho hb hr he hp
   |cap=>exact viaVal (fun hv _=>RY hM ho hb hr hv) (by
    simp only [bo,ho,hb]at hr;split at hr<;>try (cases hr;done)
    split at hr<;>try (cases hr;done)
    cases hr;intro d;rfl)
   |len=>exact viaVal (fun hv _=>RW hM ho hb hr hv) (by
    simp only [bo,ho,hb]at hr;split at hr<;>try (cases hr;done)
    split at hr<;>try (cases hr;done)
    ·cases hr;intro d;rfl
    ·cases hr;intro d;rfl
    ·cases hr;intro d;rfl
    ·split at hr<;>try (cases hr;done)
     cases hr;intro d;rfl)
   |min=>exact viaVal (fun hv _=>pj hM ho (.inl hb) hr hv) (by
    simp only [bo,ho,hb]at hr;split at hr<;>try (cases hr;done)
    split at hr<;>try (cases hr;done)
    cases hr;intro d;rfl)
   |max=>exact viaVal (fun hv _=>pj hM ho (.inr hb) hr hv) (by
    simp only [bo,ho,hb]at hr;split at hr<;>try (cases hr;done)
    split at hr<;>try (cases hr;done)
    cases hr;intro d;rfl)
   |_=>simp [bo,ho,hb]at hr
 |_=>simp [bo,ho]at hr
end Go.Sy
namespace Go.Sy
variable [ba]
variable {P : Program} {C : Ctx} {x : Sit} {s : St} {a : Act} {w : World}
theorem iy {cs:List SV} {i:Nat} (hi:i<cs.length):∀k∈(cs.getD i .undef).ids,k∈SV.idsL cs:=by
 induction cs generalizing i with
 |nil=>simp at hi
 |cons c r ih=>
  intro k hk;simp only [SV.idsL,aj];cases i with
  |zero=>exact .inl (by simpa using hk)
  |succ i=>exact .inr (ih (i:=i) (by simpa using hi) k (by simpa using hk))
theorem kz {cs:List SV} {i:Nat} (hi:i<cs.length):∀k∈(cs.getD i .undef).toks,k∈SV.toksL cs:=by
 induction cs generalizing i with
 |nil=>simp at hi
 |cons c r ih=>
  intro k hk;simp only [SV.toksL,aj];cases i with
  |zero=>exact .inl (by simpa using hk)
  |succ i=>exact .inr (ih (i:=i) (by simpa using hi) k (by simpa using hk))
theorem Rep.renF {x x2:Sit} {mo mt:Nat→Nat} (hG:∀b o v,x.G b o=some v→x2.G b o=some v) {sv:SV} {v:Value} (h:Rep x sv v):(∀k∈sv.ids,x2.β (mo k)=x.β k)→(∀t∈sv.toks,x2.τ (mt t)=x.τ t)→Rep x2 (sv.ren mo mt) v:=by
 induction h with
 |undef v=>intro _ _;exact .undef v
 |dat s v h ht=>
  intro hβ hτ;have h':=h.mono hG
  have sp:∀(sz:Nat) (t:Tok),(∀u,t= .id u→x2.τ (mt u)=x.τ u)→dk x sz t v→dk x2 sz (t.ren mt) v:=by
   intro sz t ht hs;cases t with
   |no=>trivial
   |clip=>exact hs
   |id u=>obtain⟨ad,n,cap,hv,hc⟩:=hs;refine⟨ad,n,cap,hv,hc.imp id ?_⟩;rintro⟨b,off,he,hh⟩;exact⟨b,off,he,by rw [ht u rfl];exact hh⟩
  cases s with
  |byt l t=>simp only [SV.ren];exact .dat _ _ (h'.tok _ (.inl ⟨l,t,_,rfl,rfl⟩)) (sp 1 t (fun u hu=>hτ u (by subst hu;simp [SV.toks])) ht)
  |lst sz xs t=>simp only [SV.ren];exact .dat _ _ (h'.tok _ (.inr ⟨sz,xs,t,_,rfl,rfl⟩)) (sp sz t (fun u hu=>hτ u (by subst hu;simp [SV.toks])) ht)
  |undef=>exact .undef v
  |bool b=>simp only [SV.ren];exact .dat _ _ h' trivial
  |int k n=>simp only [SV.ren];exact .dat _ _ h' trivial
  |u8 b=>simp only [SV.ren];exact .dat _ _ h' trivial
  |str l=>simp only [SV.ren];exact .dat _ _ h' trivial
  |nilp=>simp only [SV.ren];exact .dat _ _ h' trivial
  |nili=>simp only [SV.ren];exact .dat _ _ h' trivial
  |pp cs=>simp only [SV.ren];exact .dat _ _ h' trivial
  |ptr o off=>cases h
  |ap o sz i j=>cases h
  |psl o sz off n cap=>cases h
  |agg cs=>cases h
  |tup cs=>cases h
  |fn f a b=>cases h
 |ptr o off=>intro hβ _;simp only [SV.ren];rw [←hβ o (by simp [SV.ids])];exact .ptr _ off
 |ap o sz i j=>intro hβ _;simp only [SV.ren];rw [←hβ o (by simp [SV.ids])];exact .ap _ sz i j
 |psl o sz off n cap off' cap' h hn hc=>intro hβ _;simp only [SV.ren];rw [←hβ o (by simp [SV.ids])];exact .psl _ sz off n cap off' cap' h hn hc
 |agg cs vs hl _ ih=>
  intro hβ hτ;simp only [SV.ren,dq]
  exact .agg _ _ (by simpa using hl) fun i hi=>by
   rw [aP _ (by simp)];have hi':i<cs.length:=by simpa using hi
   exact ih i hi' (fun k hk=>hβ k (by simp only [SV.ids];exact iy hi' k hk)) (fun k hk=>hτ k (by simp only [SV.toks];exact kz hi' k hk))
 |tup cs vs hl _ ih=>
  intro hβ hτ;simp only [SV.ren,dq]
  exact .tup _ _ (by simpa using hl) fun i hi=>by
   rw [aP _ (by simp)];have hi':i<cs.length:=by simpa using hi
   exact ih i hi' (fun k hk=>hβ k (by simp only [SV.ids];exact iy hi' k hk)) (fun k hk=>hτ k (by simp only [SV.toks];exact kz hi' k hk))
 |fn f c1 c2 v1 v2 hl1 _ hl2 _ ih1 ih2=>
  intro hβ hτ;simp only [SV.ren,dq]
  exact .fn _ _ _ _ _ (by simpa using hl1) (fun i hi=>by
   rw [aP _ (by simp)];have hi':i<c1.length:=by simpa using hi
   exact ih1 i hi' (fun k hk=>hβ k (by simp only [SV.ids,aj];exact .inl (iy hi' k hk))) (fun k hk=>hτ k (by simp only [SV.toks,aj];exact .inl (kz hi' k hk))))
   (by simpa using hl2) fun i hi=>by
    rw [aP _ (by simp)];have hi':i<c2.length:=by simpa using hi
    exact ih2 i hi' (fun k hk=>hβ k (by simp only [SV.ids,aj];exact .inr (iy hi' k hk))) (fun k hk=>hτ k (by simp only [SV.toks,aj];exact .inr (kz hi' k hk)))
def Sit.back (x:Sit) (mo mt:Nat→Nat):Sit:=⟨x.G,fun k=>x.β (mo k),fun t=>x.τ (mt t)⟩
theorem pw {x:Sit} {mo mt:Nat→Nat} {sz:Nat} {t:Tok} {v:Value} (h:dk x sz (t.ren mt) v):dk (x.back mo mt) sz t v:=by
 cases t with
 |no=>trivial
 |clip=>exact h
 |id u=>exact h
theorem Rep.renB {x:Sit} {mo mt:Nat→Nat} (sv:SV):∀v,Rep x (sv.ren mo mt) v→Rep (x.back mo mt) sv v:=by
 refine SV.rec (motive_1:=fun sv=>∀v,Rep x (sv.ren mo mt) v→Rep (x.back mo mt) sv v) (motive_2:=fun _=>True) (motive_3:=fun l=>∀i,i<l.length→∀v,Rep x ((l.getD i .undef).ren mo mt) v→Rep (x.back mo mt) (l.getD i .undef) v)
  ?_ ?_ ?_ ?_ ?_ ?_ ?_ ?_ ?_ ?_ ?_ ?_ ?_ ?_ ?_ ?_ ?_ ?_ ?_ ?_ sv
 ·intro v _;exact .undef v
 ·intro b v h;rw [Rep.bool_inv h];exact dG b
 ·intro k n v h;rw [Rep.int_inv h];exact cH k n
 ·intro b v h;rw [Rep.u8_inv h];exact ri b
 ·intro l v h;rw [Rep.str_inv h];exact lv l
 ·intro l t v h
  simp only [SV.ren]at h;cases h with
  |dat _ _ h ht=>exact .dat _ _ (h.tok _ (.inl ⟨l,_,t,rfl,rfl⟩)) (pw ht)
 ·intro sz xs t _ v h
  simp only [SV.ren]at h;cases h with
  |dat _ _ h ht=>exact .dat _ _ (h.tok _ (.inr ⟨sz,xs,_,t,rfl,rfl⟩)) (pw ht)
 ·intro v h;rw [Rep.nilp_inv h];exact .dat _ _ .nilp trivial
 ·intro v h;rw [Rep.nili_inv h];exact .dat _ _ .nili trivial
 ·intro cs _ v h
  simp only [SV.ren]at h;exact .dat _ _ (Rep.data (x:=x) h rfl) trivial
 ·intro o off v h;simp only [SV.ren]at h;rw [h.ptr_inv];exact .ptr o off
 ·intro o sz i j v h;simp only [SV.ren]at h;rw [h.ap_inv];exact .ap o sz i j
 ·intro o sz off n cap v h
  simp only [SV.ren]at h;obtain⟨cap',hn,hc,off',rfl,ho⟩:=h.psl_inv;exact .psl o sz off n cap off' cap' ho hn hc
 ·intro cs ih v h
  simp only [SV.ren,dq]at h;obtain⟨vs,rfl,hl⟩:=h.agg_inv;refine .agg _ _ (by simpa using hl.1) fun i hi=>ih i hi _ ?_
  have:=hl.2 i (by simpa using hi);rwa [aP _ (by simp)]at this
 ·intro cs ih v h
  simp only [SV.ren,dq]at h;obtain⟨vs,rfl,hl⟩:=h.tup_inv;refine .tup _ _ (by simpa using hl.1) fun i hi=>ih i hi _ ?_
  have:=hl.2 i (by simpa using hi);rwa [aP _ (by simp)]at this
 ·intro f c1 c2 ih1 ih2 v h
  simp only [SV.ren,dq]at h;obtain⟨v1,v2,rfl,h1,h2⟩:=h.fn_inv;refine .fn _ _ _ _ _ (by simpa using h1.1) (fun i hi=>ih1 i hi _ ?_) (by simpa using h2.1) (fun i hi=>ih2 i hi _ ?_)
  ·have:=h1.2 i (by simpa using hi);rwa [aP _ (by simp)]at this
  ·have:=h2.2 i (by simpa using hi);rwa [aP _ (by simp)]at this
 ·trivial
 ·intros;trivial
 ·intro i hi;simp at hi
 ·intro c r ihc ihr i hi v h
  cases i with
  |zero=>exact ihc v (by simpa using h)
  |succ i=>simpa using ihr i (by simpa using hi) v (by simpa using h)
theorem cn.renB {x:Sit} {mo mt:Nat→Nat} {cs:List SV} {vs:List Value} (h:cn x (SV.renL mo mt cs) vs):cn (x.back mo mt) cs vs:=by rw [dq]at h;refine⟨by simpa using h.1,fun i hi=>Rep.renB _ _ ?_⟩;have:=h.2 i (by simpa using hi);rwa [aP _ (by simp)]at this
theorem C7 {as bs:List SV} {vs:List Value} (h:leL as bs) (hr:cn x as vs):cn x bs vs:=
 ⟨h.1 ▸ hr.1,fun i hi=>h.2 i (by rw [h.1];exact hi) x _ (hr.2 i (by rw [h.1];exact hi))⟩
theorem dU.renB {mo mt:Nat→Nat} {o:Nat} {obj:aB} (h:dU x w (mo o) (obj.ren mo mt)):dU (x.back mo mt) w o obj:=by
 obtain⟨c,e,fl,fh,hO,hs,hr⟩:=h;refine⟨c,e,fl,fh,hO, ?_,fun k hk=> ?_⟩
 ·cases obj<;>simpa [aB.ren,aB.size,dq]using hs
 ·cases obj with
  |rc cs=>have:=hr k (by simpa [aB.ren,aB.size,dq]using hk);simp only [aB.ren,cf,dq]at this ⊢;rw [aP _ (by simp)]at this;exact Rep.renB _ _ this
  |arr sz xs=>exact hr k hk
  |bar l=>exact hr k hk
theorem dU.renF {x2:Sit} {w':World} {mo mt:Nat→Nat} {o:Nat} {obj:aB} (h:dU x w' o obj) (hG:∀b o v,x.G b o=some v→x2.G b o=some v) (ho:x2.β (mo o)=x.β o)
 (hβ:∀k∈obj.ids,x2.β (mo k)=x.β k) (hτ:∀t∈obj.toks,x2.τ (mt t)=x.τ t):dU x2 w' (mo o) (obj.ren mo mt):=by
 obtain⟨c,e,fl,fh,hO,hs,hr⟩:=h;refine⟨c,e,fl,fh,by rw [ho];exact hO, ?_,fun k hk=> ?_⟩
 ·cases obj<;>simpa [aB.ren,aB.size,dq]using hs
 ·cases obj with
  |rc cs=>
   have hk':k<cs.length:=by simpa [aB.ren,aB.size,dq]using hk
   have:=hr k hk';simp only [aB.ren,cf,dq]at this ⊢;rw [aP _ (by simp)];exact Rep.renF hG this (fun j hj=>hβ j (iy hk' j hj)) (fun j hj=>hτ j (kz hk' j hj))
  |arr sz xs=>exact(hr k hk).mono hG
  |bar l=>exact(hr k hk).mono hG
theorem fj {os:List aB} {p:Nat×aB}:p∈idx os↔p.1<os.length∧p.2=os.getD p.1 (.rc []):=by
 unfold idx;rw [aS];constructor
 ·rintro⟨⟨ob,i⟩,h,rfl⟩
  have:=List.mem_zipIdx' h;exact⟨this.1,by rw [aa,ab this.1];exact this.2⟩
 ·rintro⟨h1,h2⟩
  refine⟨(p.2,p.1), ?_,rfl⟩;rw [List.mk_mem_zipIdx_iff_getElem?,h2,aa,ab h1];rfl
theorem nJ (os:List aB):((idx os).map bv).Nodup:=by
 unfold idx;rw [List.map_map];have:(bv∘fun p:aB×Nat=>(p.2,p.1))=Prod.snd:=rfl;rw [this];have:os.zipIdx.map Prod.snd=jD 0 os.length:=by simp [List.zipIdx_map_snd]
 rw [this];exact List.nodup_range'
theorem sa {m:List Nat} (h:m.Nodup) {i j:Nat} (hi:i<m.length) (hj:j<m.length) (e:m[i]=m[j]):i=j:=by
 have hp:=ip.1 h;rcases Nat.lt_trichotomy i j with hlt|heq|hgt
 ·exact absurd e (hp i j hi hj hlt)
 ·exact heq
 ·exact absurd e.symm (hp j i hj hi hgt)
def Ctx.callee (x:Sit) (w:World) (m:List Nat) (β0:Nat→Nat):Ctx:=⟨w,x.G,fun b=>w.heap.size≤b∨∃i,i<m.length∧x.β (m.getD i 0)=b,β0⟩
theorem ko (hM:aI C x s a w) {m:List Nat} {os:List aB} {mo mt:Nat→Nat} (hmo:∀i,i<m.length→mo i=m.getD i 0) (hl:m.length=os.length) (hnd:m.Nodup)
 (hlk:∀i,i<os.length→s.look (m.getD i 0)=some ((os.getD i (.rc [])).ren mo mt)):cZ (Ctx.callee x w m (x.back mo mt).β) (x.back mo mt) (idx os) [] w:=by
 have hb:∀i,i<os.length→(x.back mo mt).β i=x.β (m.getD i 0):=fun i hi=>by show x.β (mo i)=_;rw [hmo i (by omega)]
 refine⟨hM.heap.per,fun _ _ _ h=>h,fun _ _ _ h=> .inl h,fun b h=> .inl h, ?_,nJ os, ?_,fun t h=>by simp at h,fun t h=>by simp at h,fun t h=>by simp at h,rfl,rfl,rfl,aZ _,fun _ _=>rfl,fun _ _=>rfl,hM.heap.lay.mono hM.heap.g0⟩
 ·intro p hp
  obtain⟨h1,h2⟩:=fj.1 hp;obtain⟨h3,h4,h5⟩:=hM.heap.obs _ (cW (hlk p.1 h1));refine⟨?_,.inr ⟨p.1,by omega,(hb p.1 h1).symm⟩,fun off=>by rw [hb p.1 h1];exact h5 off⟩;rw [h2];refine dU.renB ?_;rw [hmo p.1 (by omega)];exact h3
 ·intro p hp q hq hpq
  obtain⟨h1,_⟩:=fj.1 hp;obtain⟨h2,_⟩:=fj.1 hq;rw [hb _ h1,hb _ h2]at hpq;have:=hM.heap.inj _ (cW (hlk p.1 h1)) _ (cW (hlk q.1 h2)) hpq;simp only at this;have e1:m.getD p.1 0=m[p.1]'(by omega):=by rw [aa,ab (by omega)];rfl
  have e2:m.getD q.1 0=m[q.1]'(by omega):=by rw [aa,ab (by omega)];rfl
  rw [e1,e2]at this;exact sa hnd _ _ this
end Go.Sy
namespace Go.Sy
variable [ba]
variable {P : Program} {C : Ctx} {x : Sit} {s : St} {a : Act} {w : World}
theorem ix {m:List Nat} {l:List (Nat×aB)} {p:Nat×aB}:p∈fk m l↔p∈l∧p.1∉m:=by
 induction l with
 |nil=>simp [fk]
 |cons q r ih=>
  simp only [fk];split<;>rename_i hq
  ·rw [ih,ao];constructor
   ·rintro⟨h1,h2⟩;exact⟨.inr h1,h2⟩
   ·rintro⟨rfl|h1,h2⟩
    ·exact absurd hq h2
    ·exact⟨h1,h2⟩
  ·rw [ao,ih,ao];constructor
   ·rintro(rfl|⟨h1,h2⟩)
    ·exact⟨.inl rfl,hq⟩
    ·exact⟨.inr h1,h2⟩
   ·rintro⟨rfl|h1,h2⟩
    ·exact .inl rfl
    ·exact .inr ⟨h1,h2⟩
theorem ig (m:List Nat) (l:List (Nat×aB)):(fk m l).Sublist l:=by
 induction l with
 |nil=>exact ka.refl _
 |cons q r ih=>
  simp only [fk];split
  ·exact ih.cons q
  ·exact ih.cons_cons q
theorem l5 (hM:aI C x s a w) {m:List Nat} {os:List aB} {mo mt:Nat→Nat} {lo hi:Nat} (hl:m.length=os.length) (hlk:∀i,i<os.length→s.look (m.getD i 0)=some ((os.getD i (.rc [])).ren mo mt))
 {x':Sit} {w':World} {os':List (Nat×aB)} {tks:List Nat} {β0:Nat→Nat} (hH:cZ (Ctx.callee x w m β0) x' os' tks w')
 (hmo:∀i,i<m.length→mo i=m.getD i 0) {β2:Nat→Nat} {τ2:Nat→Nat×Nat×Nat} (hlo100:∀i,i<100→¬(lo≤i∧i<hi)) (hβ2:∀o,¬(lo≤o∧o<hi)→β2 o=x.β o) (hτ2:∀o,¬(lo≤o∧o<hi)→τ2 o=x.τ o)
 (hids:∀p∈os',β2 (mo p.1)=x'.β p.1) (hcont:∀p∈os',∀k∈p.2.ids,β2 (mo k)=x'.β k) (htoks:∀p∈os',∀t∈p.2.toks,τ2 (mt t)=x'.τ t)
 (hrange:∀p∈os',p.1<m.length∨(lo≤mo p.1∧mo p.1<hi)) (htk:∀t∈tks,(lo≤mt t∧mt t<hi)∧τ2 (mt t)=x'.τ t):
 (∀b o v,x.G b o=some v→x'.G b o=some v)∧cZ C ⟨x'.G,β2,τ2⟩ (os'.map (fun p=>(mo p.1,p.2.ren mo mt))++fk m (bC lo hi s.ob)) (tks.map mt++cK lo hi s.tk) w':=by
 have hG:∀b o v,x.G b o=some v→x'.G b o=some v:=hH.g0;have hold:=hM.heap;have hmblock:∀i,i<m.length→(∃ob,(m.getD i 0,ob)∈s.ob):=fun i hi=>⟨_,cW (hlk i (by omega))⟩
 have hmine:∀b,(Ctx.callee x w m β0).mine b→C.mine b:=by
  rintro b (h|⟨i,hi,rfl⟩)
  ·exact hold.new b (cu hold.size h)
  ·obtain⟨ob,hob⟩:=hmblock i hi
   exact(hold.obs _ hob).2.1
 have hmem:∀o∈m,∃i,i<m.length∧m.getD i 0=o:=by intro o ho;obtain⟨i,hi,rfl⟩:=bV ho;exact⟨i,hi,by rw [aa,ab hi];rfl⟩
 have hkeep:∀b,b<w.heap.size→(∀i,i<m.length→x.β (m.getD i 0)≠b)→w'.heap[b]? =w.heap[b]? ∧((∀off,x.G b off=none)→∀off,x'.G b off=none):=by
  intro b hb hne
  have hnm:¬(Ctx.callee x w m β0).mine b:=by
   rintro(h|⟨i,hi,h⟩)
   ·omega
   ·exact hne i hi h
  refine⟨hH.ext b hnm,fun h off=> ?_⟩;cases hg:x'.G b off with
  |none=>rfl
  |some v=>
   rcases hH.gm b off v hg with h1|h1
   ·change x.G b off=some v at h1;rw [h off]at h1;cases h1
   ·exact absurd h1 hnm
 have hlo:∀p∈fk m (bC lo hi s.ob),∃ob,(p.1,ob)∈s.ob∧p.2=ob.purge lo hi∧¬(lo≤p.1∧p.1<hi)∧p.1∉m∧(∀i,i<m.length→x.β (m.getD i 0)≠x.β p.1)∧x.β p.1<w.heap.size:=by
  intro p hp;obtain⟨h1,h2⟩:=ix.1 hp;obtain⟨h3,ob,h4,h5⟩:=cC h1;refine⟨ob,h4,h5,h3,h2,fun i hi e=> ?_, ?_⟩
  ·obtain⟨ob',hob'⟩:=hmblock i hi
   have:=hold.inj _ hob' _ h4 e;simp only at this;apply h2;rw [←this,aa,ab hi];exact aT _
  ·obtain⟨⟨c,e,fl,fh,hO,_⟩,_⟩:=hold.obs _ h4
   exact hO.lt
 have hnew:∀p∈os'.map (fun p=>(mo p.1,p.2.ren mo mt)),∃q∈os',p=(mo q.1,q.2.ren mo mt)∧β2 p.1=x'.β q.1:=by intro p hp;obtain⟨q,hq,rfl⟩:=aS.1 hp;exact⟨q,hq,rfl,hids q hq⟩
 have hnewmine:∀q∈os',w.heap.size≤x'.β q.1∨∃i,i<m.length∧x.β (m.getD i 0)=x'.β q.1:=fun q hq=>(hH.obs q hq).2.1
 have htold:∀t∈cK lo hi s.tk,t∈s.tk∧¬(lo≤t∧t<hi):=fun t ht=>bt.1 ht
 have htblock:∀t∈s.tk,(x.τ t).2.1=(x.τ t).2.2∨((x.τ t).1<w.heap.size∧∀i,i<m.length→x.β (m.getD i 0)≠(x.τ t).1):=by
  intro t ht;rcases hold.tks t ht with h|⟨⟨c,e,fl,fh,hO,_⟩,_⟩
  ·exact .inl h
  ·by_cases he:(x.τ t).2.1=(x.τ t).2.2
   ·exact .inl he
   ·refine .inr ⟨hO.lt,fun i hi e'=> ?_⟩
    obtain⟨ob,hob⟩:=hmblock i hi;rcases hold.tko t ht _ hob with h|h
    ·exact h e'.symm
    ·exact he h
 refine⟨hG,⟨hH.per,fun b o v h=>hG _ _ _ (hold.g0 b o v h), ?_,hold.new, ?_, ?_, ?_, ?_, ?_, ?_,hH.os.trans hold.os,hH.tape.trans hold.tape,hH.output.trans hold.output,cu hold.size hH.size, ?_,fun i hi=>(hβ2 i (hlo100 i hi)).trans (hold.pin i hi),hold.lay⟩⟩
 ·intro b o v h
  rcases hH.gm b o v h with h1|h1
  ·exact hold.gm b o v h1
  ·exact .inr (hmine b h1)
 ·intro p hp
  rcases aj.1 hp with hp|hp
  ·obtain⟨q,hq,rfl,hb⟩:=hnew p hp
   obtain⟨h1,h2,h3⟩:=hH.obs q hq;refine⟨h1.renF (x2:=⟨x'.G,β2,τ2⟩) (fun _ _ _ h=>h) (hids q hq) (hcont q hq) (htoks q hq), ?_,fun off=> ?_⟩
   ·show C.mine (β2 (mo q.1));rw [hids q hq];exact hmine _ h2
   ·show x'.G (β2 (mo q.1)) off=none;rw [hids q hq];exact h3 off
  ·obtain⟨ob,h1,h2,h3,h4,h5,h6⟩:=hlo p hp
   obtain⟨g1,g2,g3⟩:=hold.obs _ h1;obtain⟨k1,k2⟩:=hkeep _ h6 h5;have hb:β2 p.1=x.β p.1:=hβ2 _ h3;refine⟨?_,by show C.mine (β2 p.1);rw [hb];exact g2,fun off=>by show x'.G (β2 p.1) off=none;rw [hb];exact k2 g3 off⟩;rw [h2];exact dU.of_heap (x':=⟨x'.G,β2,τ2⟩) g1 k1 hG hβ2 hτ2 h3
 ·rw [bz,List.nodup_append]
  refine⟨?_, ?_, ?_⟩
  ·rw [List.map_map]
   have hnd':=gE.1 hH.nd;refine gE.2 (List.Pairwise.imp_of_mem (fun {p q} hp hq hne=> ?_) hnd');intro e;simp only [Function.comp]at e;have:x'.β p.1=x'.β q.1:=by rw [←hids p hp,←hids q hq,e]
   exact hne (hH.inj p hp q hq this)
  ·have h1:(fk m (bC lo hi s.ob)).Sublist (bC lo hi s.ob):=ig _ _
   refine pf.sublist (h1.map bv) ?_;rw [eU];exact hold.nd.filter _
  ·intro o1 h1 o2 h2 e
   subst e;obtain⟨p,hp,rfl⟩:=aS.1 h1;obtain⟨q,hq,hqe⟩:=aS.1 h2;obtain⟨r,hr,rfl⟩:=aS.1 hp;obtain⟨ob,k1,k2,k3,k4,k5,k6⟩:=hlo q hq;simp only at hqe;rcases hrange r hr with h|h
   ·apply k4;rw [hqe,hmo _ h,aa,ab h];exact aT _
   ·apply k3;rw [hqe];exact h
 ·intro p hp q hq hpq
  change β2 p.1=β2 q.1 at hpq;rcases aj.1 hp with hp|hp<;>rcases aj.1 hq with hq|hq
  ·obtain⟨p',hp',rfl,hb⟩:=hnew p hp
   obtain⟨q',hq',rfl,hb'⟩:=hnew q hq;rw [hb,hb']at hpq;have:=hH.inj p' hp' q' hq' hpq;simp only;rw [this]
  ·obtain⟨p',hp',rfl,hb⟩:=hnew p hp
   obtain⟨ob,k1,k2,k3,k4,k5,k6⟩:=hlo q hq;rw [hb,hβ2 _ k3]at hpq;rcases hnewmine p' hp' with h|⟨i,hi,h⟩
   ·omega
   ·exact absurd (h.trans hpq) (k5 i hi)
  ·obtain⟨q',hq',rfl,hb⟩:=hnew q hq
   obtain⟨ob,k1,k2,k3,k4,k5,k6⟩:=hlo p hp;rw [hb,hβ2 _ k3]at hpq;rcases hnewmine q' hq' with h|⟨i,hi,h⟩
   ·omega
   ·exact absurd (h.trans hpq.symm) (k5 i hi)
  ·obtain⟨ob,k1,k2,k3,k4,k5,k6⟩:=hlo p hp
   obtain⟨ob',k1',k2',k3',k4',k5',k6'⟩:=hlo q hq;rw [hβ2 _ k3,hβ2 _ k3']at hpq;exact hold.inj (p.1,ob) k1 (q.1,ob') k1' hpq
 ·intro t ht
  rcases aj.1 ht with ht|ht
  ·obtain⟨u,hu,rfl⟩:=aS.1 ht
   obtain⟨_,hτu⟩:=htk u hu;have:=hH.tks u hu;unfold io at this ⊢;simp only [hτu];exact this.imp id fun⟨h1,h2,h3⟩=>⟨h1,hmine _ h2,h3⟩
  ·obtain⟨
    h1,h2⟩:=htold t ht
   have:=hold.tks t h1;unfold io at this ⊢;simp only [hτ2 t h2];rcases this with h|⟨⟨c,e,fl,fh,hO,hc⟩,h4,h5⟩
   ·exact .inl h
   ·rcases htblock t h1 with h|⟨k1,k2⟩
    ·exact .inl h
    ·obtain⟨g1,_⟩:=hkeep _ k1 k2
     refine .inr ⟨⟨c,e,fl,fh,hO.of_heap g1,hc⟩,h4,fun o ho1 ho2=> ?_⟩;cases hg:x'.G (x.τ t).1 o with
     |none=>rfl
     |some v=>
      rcases hH.gm _ _ _ hg with q1|q1
      ·change x.G _ _=some v at q1;rw [h5 o ho1 ho2]at q1;cases q1
      ·rcases q1 with q1|⟨i,hi,q1⟩
       ·change w.heap.size≤_ at q1;omega
       ·exact absurd q1 (k2 i hi)
 ·intro t ht p hp
  rcases aj.1 ht with ht|ht<;>rcases aj.1 hp with hp|hp
  ·obtain⟨u,hu,rfl⟩:=aS.1 ht
   obtain⟨q,hq,rfl,hb⟩:=hnew p hp;show(τ2 (mt u)).1≠β2 (mo q.1)∨(τ2 (mt u)).2.1=(τ2 (mt u)).2.2;rw [(htk u hu).2,hids q hq];exact hH.tko u hu q hq
  ·obtain⟨u,hu,rfl⟩:=aS.1 ht
   obtain⟨ob,k1,k2,k3,k4,k5,k6⟩:=hlo p hp;show(τ2 (mt u)).1≠β2 p.1∨(τ2 (mt u)).2.1=(τ2 (mt u)).2.2;rw [(htk u hu).2,hβ2 _ k3];rcases hH.tks u hu with h|⟨_,h,_⟩
   ·exact .inr h
   ·left;intro e
    rcases h with h|⟨i,hi,h⟩
    ·change w.heap.size≤_ at h;omega
    ·exact k5 i hi (h.trans e)
  ·obtain⟨h1,h2⟩:=htold t ht
   obtain⟨q,hq,rfl,hb⟩:=hnew p hp;show(τ2 t).1≠β2 (mo q.1)∨(τ2 t).2.1=(τ2 t).2.2;rw [hτ2 t h2,hids q hq];rcases htblock t h1 with h|⟨k1,k2⟩
   ·exact .inr h
   ·left;intro e
    rcases hnewmine q hq with h|⟨i,hi,h⟩
    ·omega
    ·exact k2 i hi (h.trans e.symm)
  ·obtain⟨h1,h2⟩:=htold t ht
   obtain⟨ob,k1,k2,k3,k4,k5,k6⟩:=hlo p hp;show(τ2 t).1≠β2 p.1∨(τ2 t).2.1=(τ2 t).2.2;rw [hτ2 t h2,hβ2 _ k3];exact hold.tko t h1 (p.1,ob) k1
 ·intro t ht u hu htu
  show lM (τ2 t) (τ2 u)∨(τ2 t).2.1=(τ2 t).2.2∨(τ2 u).2.1=(τ2 u).2.2;rcases aj.1 ht with ht|ht<;>rcases aj.1 hu with hu|hu
  ·obtain⟨t',ht',rfl⟩:=aS.1 ht
   obtain⟨u',hu',rfl⟩:=aS.1 hu;rw [(htk t' ht').2,(htk u' hu').2];exact hH.tkd t' ht' u' hu' (fun e=>htu (by rw [e]))
  ·obtain⟨t',ht',rfl⟩:=aS.1 ht
   obtain⟨h1,h2⟩:=htold u hu;rw [(htk t' ht').2,hτ2 u h2];rcases hH.tks t' ht' with h|⟨_,h,_⟩
   ·exact .inr (.inl h)
   ·rcases htblock u h1 with k|⟨k1,k2⟩
    ·exact .inr (.inr k)
    ·refine .inl (fun e=> ?_)
     rcases h with h|⟨i,hi,h⟩
     ·change w.heap.size≤_ at h;omega
     ·exact k2 i hi (h.trans e)
  ·obtain⟨u',hu',rfl⟩:=aS.1 hu
   obtain⟨h1,h2⟩:=htold t ht;rw [(htk u' hu').2,hτ2 t h2];rcases hH.tks u' hu' with h|⟨_,h,_⟩
   ·exact .inr (.inr h)
   ·rcases htblock t h1 with k|⟨k1,k2⟩
    ·exact .inr (.inl k)
    ·refine .inl (fun e=> ?_)
     rcases h with h|⟨i,hi,h⟩
     ·change w.heap.size≤_ at h;omega
     ·exact k2 i hi (h.trans e.symm)
  ·obtain⟨h1,h2⟩:=htold t ht
   obtain⟨h3,h4⟩:=htold u hu;rw [hτ2 t h2,hτ2 u h4];exact hold.tkd t h1 u h3 htu
 ·intro b hb
  have hnm:¬(Ctx.callee x w m β0).mine b:=fun h=>hb (hmine b h)
  exact(hH.ext b hnm).trans (hold.ext b hb)
theorem cZ.only {ob ob':List (Nat×aB)} {tk tk':List Nat} (h:cZ C x ob tk w) (ho:∀p∈ob',p∈ob) (hn:(ob'.map bv).Nodup) (ht:∀t∈tk',t∈tk):cZ C x ob' tk' w:=
 ⟨h.per,h.g0,h.gm,h.new,fun p hp=>h.obs p (ho p hp),hn,fun p hp q hq=>h.inj p (ho p hp) q (ho q hq),fun t hu=>h.tks t (ht t hu),fun t hu p hp=>h.tko t (ht t hu) p (ho p hp),
  fun t hu u hv=>h.tkd t (ht t hu) u (ht u hv),h.os,h.tape,h.output,h.size,h.ext,h.pin,h.lay⟩
theorem qF (d:Nat) (m:List Nat) (os:List (Nat×aB)):pD d m os=os.map fun p=>(fx d m p.1,p.2.ren (fx d m) (gZ d)):=by
 induction os with
 |nil=>rfl
 |cons p r ih=>simp [pD,ih]
end Go.Sy
namespace Go.Sy
variable [ba]
variable {P : Program} {C : Ctx} {x : Sit} {s : St} {a : Act} {w : World} {o : Oper} {so : SOp}
def qx (C:Ctx) (k:St→Prop):Act→World→Prop:=fun a w=>∃x s,aI C x s a w∧k s
theorem cA {K:Act→World→Prop} {Q:Exit→Act→World→Prop} {k:St→Prop} {s':St} (h:cm P C o a w s') (hk:k s') (hK:∀a w,qx C k a w→K a w):o.wp P a w K Q:=by
 obtain⟨u,w',x',n,hrun,hn,hM⟩:=h;unfold Oper.wp;rw [hrun];rcases hn with rfl|⟨rfl,rfl⟩
 ·exact hK _ _ ⟨x',s',hM,hk⟩
 ·exact hK _ _ ⟨x',s',hM,hk⟩
theorem th {f:Nat} (h:eg P f=true) (args:Array Value) (w:World):(callFunc f args).run P w= .ok (.enter f args) w:=by
 unfold eg at h;split at h
 ·rename_i fn hf
  simp only [an,bZ]at h;obtain⟨h1,h2⟩:=h;have h3:fn.body.isNone=false:=by cases hb:fn.body<;>simp [hb]at h1 ⊢
  simp only [callFunc,az,run_program,al,hf,h2,aD,if_false,h3,aE]
 ·cases h
theorem sF (hM:aI C x s a w) {cl:Call} {F:Operand} (ho:o.op= .call cl) (hb:cl.callee= .value F) {f:Arg} {as:List Arg} (hf:bn P 0 F=some f)
 (has:i5 (fun p=>bn P p.2 p.1) (cl.args.toList.zip cl.argTypes.toList)=some as) (hsz:cl.args.size=cl.argTypes.size) {g:Nat} {c1 c2:List SV} (hg:s.ev f= .fn g c1 c2) (hc:eg P g=true):
 ∃vs:List Value,(execOp a.eval o).run P w= .ok (.enter g ⟨vs⟩) w∧cn x (c1++as.map s.ev++c2) vs:=by
 have hF:=aK hM hf;rw [hg]at hF;obtain⟨v1,v2,hFe,h1,h2⟩:=hF.fn_inv;obtain⟨hl,hget⟩:=ej has;have hzl:(cl.args.toList.zip cl.argTypes.toList).length=cl.args.toList.length:=by simp [hsz]
 have hargs:cn x (as.map s.ev) (cl.args.toList.map a.eval):=by
  refine⟨by simp only [aQ];rw [hl,hzl],fun i hi=> ?_⟩;have hi':i<as.length:=by simpa using hi
  have hiz:i<(cl.args.toList.zip cl.argTypes.toList).length:=by omega
  have:=aK hM (hget i hiz hi');have e1:(as.map s.ev).getD i .undef=s.ev as[i]:=by rw [aa,aJ,ab hi'];rfl
  have e2:(cl.args.toList.map a.eval).getD i Go.undef=a.eval (cl.args.toList.zip cl.argTypes.toList)[i].1:=by
   have hia:i<cl.args.toList.length:=by omega
   rw [aa,aJ,ab hia,List.getElem_zip];rfl
  rw [e1,e2];exact this
 refine⟨v1++cl.args.toList.map a.eval++v2, ?_,(h1.append hargs).append h2⟩
 have:(execOp a.eval o).run P w=(callFunc g ((⟨v1⟩:Array Value)++cl.args.map a.eval++⟨v2⟩)).run P w:=by simp only [execOp,ho,resolve,hb,hFe,Deferred.ofValue,az,aE,al,invoke]
 rw [this,th hc]
 congr 2
 apply dV;simp
theorem te {m:List Nat} {l:List aB} (hl:m.length=l.length):∀p∈m.zip l,∃i,i<l.length∧p.1=m.getD i 0∧p.2=l.getD i (.rc []):=by
 intro p hp;obtain⟨i,hi,rfl⟩:=bV hp;have h1:i<m.length:=by simp at hi;omega
 have h2:i<l.length:=by simp at hi;omega
 refine⟨i,h2, ?_, ?_⟩
 ·rw [List.getElem_zip,aa,ab h1];rfl
 ·rw [List.getElem_zip,aa,ab h2];rfl
theorem xiv {wr:List (Nat×aB)}:∀ {s:St} {p:Nat×aB},(s.ob.map bv).Nodup→(wr.map bv).Nodup→p∈(s.wr wr).ob→p∈wr∨(p∈s.ob∧p.1∉wr.map bv):=by
 induction wr with
 |nil=>intro s p _ _ h;exact .inr ⟨h,by simp⟩
 |cons q r ih=>
  intro s p hnd hwr h;simp only [St.wr]at h;simp only [aL,dN]at hwr;have hnd':((s.setO q.1 q.2).ob.map bv).Nodup:=by show((setO q.1 q.2 s.ob).map bv).Nodup;rw [qT];exact hnd
  rcases ih hnd' hwr.2 h with h1|⟨h1,h2⟩
  ·exact .inl (au _ h1)
  ·rcases kF hnd h1 with⟨rfl,_⟩|⟨h3,h4⟩
   ·exact .inl (aA ..)
   ·refine .inr ⟨h3, ?_⟩
    simp only [aL,ao,not_or];exact⟨h4,h2⟩
theorem QE {wr:List (Nat×aB)}:∀ {s:St},(s.wr wr).ob.map bv=s.ob.map bv:=by
 induction wr with
 |nil=>intro s;rfl
 |cons q r ih=>intro s;simp only [St.wr];rw [ih];exact qT s.ob
theorem ET {wr:List (Nat×aB)}:∀ {s:St},(s.wr wr).tm=s.tm∧(s.wr wr).tk=s.tk:=by
 induction wr with
 |nil=>intro s;exact⟨rfl,rfl⟩
 |cons q r ih=>intro s;simp only [St.wr];exact ih
theorem Dw (hM:aI C x s a w) {g:Nat} {as:List SV} {e:Eff} (h:mG P s g as e) {vs:List Value} (hvs:cn x as vs):
 Calls P g ⟨vs⟩ w fun en w'=>∃v x',en= .returned v∧∀d,aI C x' (s.app d e) (a.put d v) w':=by
 obtain⟨m,args,os,r,os',⟨_,hS⟩,hl,hl',hos100,hnd,hle,hlk,hrt,hri,hos,rfl⟩:=h;have hargs:cn (x.back (fun k=>m.getD k 0) id) args vs:=(C7 hle hvs).renB;refine(hS (Ctx.callee x w m (x.back (fun k=>m.getD k 0) id).β) (x.back (fun k=>m.getD k 0) id) w vs rfl rfl ?_ hos100 (ko hM (fun i _=>rfl) hl hnd hlk) hargs).mono ?_
 ·rintro b (h|⟨i,hi,h⟩)
  ·exact .inl h
  ·exact .inr ⟨i,by omega,h⟩
 ·rintro en w' ⟨v,x',r',o',rfl,⟨rfl,rfl⟩,hr,hH,hgiven⟩
  have hg:∀i,i<os.length→x'.β i=x.β (m.getD i 0):=hgiven;rw [hrt]at hH
  obtain⟨hG,hA⟩:=l5 (mo:=fun k=>m.getD k 0) (mt:=id) (lo:=0) (hi:=0) (β2:=x.β) (τ2:=x.τ) hM hl hlk hH (fun i _=>rfl) (fun i _=>by omega) (fun _ _=>rfl) (fun _ _=>rfl)
   (fun p hp=>by obtain⟨h1,_⟩:=fj.1 hp;exact(hg p.1 (by omega)).symm)
   (fun p hp k hk=>by
    obtain⟨h1,h2⟩:=fj.1 hp;have hm:p.2∈os':=by rw [h2,aa,ab h1];exact aT _
    exact(hg k ((hos _ hm).2 k hk)).symm)
   (fun p hp t ht=>by
    obtain⟨h1,h2⟩:=fj.1 hp;have hm:p.2∈os':=by rw [h2,aa,ab h1];exact aT _
    rw [(hos _ hm).1]at ht;simp at ht)
   (fun p hp=> .inl (by obtain⟨h1,_⟩:=fj.1 hp;omega)) (fun t ht=>by simp at ht)
  refine⟨v,⟨x'.G,x.β,x.τ⟩,rfl,fun d=> ?_⟩;simp only [St.app];refine aI.put (s:=s.wr (m.zip (os'.map (aB.ren (fun k=>m.getD k 0) id)))) ⟨?_,hM.defers, ?_⟩ d ?_
  ·rw [ET.1];exact cn.grow (x:=x) (x':=⟨x'.G,x.β,x.τ⟩) hG rfl rfl hM.tm
  ·have hzl:m.length=(os'.map (aB.ren (fun k=>m.getD k 0) id)).length:=by simp;omega
   have hzf:((m.zip (os'.map (aB.ren (fun k=>m.getD k 0) id))).map bv)=m:=by rw [List.map_fst_zip];omega
   refine hA.only (fun p hp=> ?_) (by rw [QE];exact hM.heap.nd) (fun t ht=> ?_)
   ·rw [aj]
    rcases xiv hM.heap.nd (by rw [hzf];exact hnd) hp with h|⟨h1,h2⟩
    ·left
     obtain⟨i,hi,h1,h2⟩:=te hzl p h;rw [aQ]at hi;refine aS.2 ⟨(i,os'.getD i (.rc [])),fj.2 ⟨hi,rfl⟩, ?_⟩;have:p=(p.1,p.2):=rfl;rw [this,h1,h2];simp only [aa,aJ];rw [ab hi];rfl
    ·right
     rw [hzf]at h2;refine ix.2 ⟨?_,h2⟩;rw [vN];exact h1
   ·rw [ET.2]at ht
    simp only [bT,bp];exact bt.2 ⟨ht,by omega⟩
  ·exact Rep.renF (x:=x') (x2:=⟨x'.G,x.β,x.τ⟩) (fun _ _ _ h=>h) hr (fun k hk=>(hg k (hri k hk)).symm) (fun t ht=>by rw [hrt]at ht;simp at ht)
end Go.Sy
namespace Go.Sy
variable [ba]
variable {P : Program} {C : Ctx} {x : Sit} {s : St} {a : Act} {w : World} {o : Oper} {so : SOp} {p : Prop} {c : SV}
theorem GL (hM:aI C x s a w) {q r:Arg} (hr:bo P o=some (.ovl q r)) {e:Eff} (he:eff s o.dst (.ovl q r)=some e) (hp:e.pre):cm P C o a w (s.app o.dst e):=by simp only [eff,val]at he;cases he
end Go.Sy
namespace Go.Sy
variable [ba]
variable {P : Program} {C : Ctx} {x : Sit} {s : St} {a : Act} {w : World} {o : Oper} {so : SOp} {p : Prop} {c : SV}
theorem New.append {as bs:List Value} {A B:List SV} (h:New x as A) (k:New x bs B):New x (as++bs) (A++B):=by
 refine⟨by simp [h.len,k.len],fun i hi=> ?_,fun v hv=>(aj.1 hv).elim (h.one v) (k.one v)⟩;simp only [aa]
 by_cases h1:i<A.length
 ·rw [bK h1,bK (by rw [←h.len];exact h1)]
  have:=h.rep i h1;simpa only [aa]using this
 ·rw [bN (by omega),bN (by rw [←h.len];omega),h.len]
  have:=k.rep (i-A.length) (by simp only [ah]at hi;omega);rw [h.len]at this;simpa only [aa]using this
theorem nK {zs:List Value} {z:List SV} {zc:Array Value} (hzc:zc.toList=zs) (hl:z.length=zs.length) (hz:∀(G:GM) i,i<z.length→cS G (z.getD i .undef) (zs.getD i Go.undef)) (n:Nat):
 New x (Builtin.zeroCells zc n).toList (am n z).flatten:=by
 have hzs:zc.size=z.length:=by rw [←aO,hzc,hl]
 have hrows:∀y∈am n z,y.length=z.length:=fun y hy=>by rw [(List.mem_replicate.1 hy).2]
 have hfl:(am n z).flatten.length=n*z.length:=by rw [bI hrows,cd]
 have hget:∀i,i<n*z.length→(Builtin.zeroCells zc n).toList.getD i Go.undef=zs.getD (i % z.length) Go.undef:=by
  intro i hi
  have hpos:0<z.length:=by
   rcases gD z.length with h|h
   ·rw [h]at hi;omega
   ·exact h
  have hlt:i % zc.size<zc.size:=Nat.mod_lt _ (by omega);rw [aa,Builtin.zeroCells];simp only [Array.toList_map,Array.toList_range,aJ];rw [cy (by rw [hzs];exact hi)];simp only [bf,bg];rw [getElem!_pos zc _ hlt,←hzc,aa,←hzs,ab (by simpa using hlt)];simp
 refine⟨by rw [hfl];simp [ia,hzs],fun i hi=> ?_,fun v hv=> ?_⟩
 ·rw [hfl]at hi
  have hpos:0<z.length:=by
   rcases gD z.length with h|h
   ·rw [h]at hi;omega
   ·exact h
  rw [hget i hi,cV _ hrows i (by simpa using hi),fG _ _ _ _ (Nat.div_lt_of_lt_mul (by rw [dv];exact hi))];exact hz _ _ (Nat.mod_lt _ hpos)
 ·obtain⟨i,hi,rfl⟩:=lP.1 hv
  have hi':i<n*z.length:=by simpa [ia,hzs]using hi
  have hpos:0<z.length:=by
   rcases gD z.length with h|h
   ·rw [h]at hi';omega
   ·exact h
  have h1:=hget i hi';rw [aa,ab hi,bg]at h1;rw [h1];exact(hz (fun _ _=>none) _ (Nat.mod_lt _ hpos)).oneCell
theorem EO {sz:Nat} {rs:List (List SV)} (hrows:∀y∈rs,y.length=sz) {cs:List Value} (h:New x cs rs.flatten) (k:Nat) (hk:k<rs.length*sz):cf x (.arr sz rs) k ((⟨cs⟩:Array Value).getD k Go.undef):=by
 simp only [cf,aB.cell];rw [←cV rs hrows k hk];have:=h.rep k (by rw [bI hrows];exact hk);have e:(⟨cs⟩:Array Value).getD k Go.undef=cs.getD k Go.undef:=by simp [bA,aa]
 rw [e];exact this
theorem xeG (hM:aI C x s a w) {d:Nat} {el:TypeId} {z:List SV} {R0 R1:List (List SV)} {os ns zr:List Value} {nc:Nat} (h0:New x os R0.flatten) (h1:New x ns R1.flatten) (hz:New x zr (am (nc-(R0.length+R1.length)) z).flatten)
 (g0:∀y∈R0,y.length=z.length) (g1:∀y∈R1,y.length=z.length) (hnc:R0.length+R1.length≤nc) (sl:Option Nat) (hsl:sl.getD 0=d):
 ∃x',aI C x' (s.app sl (E1 d z R0 R1 nc)) (a.put sl (.slice (some ⟨w.heap.size,0,none⟩) (R0.length+R1.length) nc)) (w.drew.alloc (.cells (⟨os++ns++zr⟩:Array Value) el (0,0))):=by
 have hM2:aI C x s a w.drew:=⟨hM.tm,hM.defers,hM.heap.drew⟩
 have hrows:∀y∈R0++R1++am (nc-(R0.length+R1.length)) z,y.length=z.length:=by
  intro y hy;rcases aj.1 hy with hy|hy
  ·exact(aj.1 hy).elim (g0 y) (g1 y)
  ·rw [(List.mem_replicate.1 hy).2]
 have hN:=(h0.append h1).append hz;rw [←cz,←cz]at hN
 have hsize:(⟨os++ns++zr⟩:Array Value).size=(R0++R1++am (nc-(R0.length+R1.length)) z).length*z.length:=by show(os++ns++zr).length=_;rw [←hN.len,bI hrows]
 have hv:Rep (x.newO (d+100) w.drew.heap.size) (.psl (d+100) z.length 0 (R0.length+R1.length) (some nc)) (.slice (some ⟨w.heap.size,0,none⟩) (R0.length+R1.length) nc):=by have:=Rep.psl (x:=x.newO (d+100) w.drew.heap.size) (d+100) z.length 0 (R0.length+R1.length) (some nc) 0 nc (.inr (by omega)) hnc (fun _ e=>by cases e;rfl);rw [jV]at this;exact this
 refine⟨x.newO (d+100) w.drew.heap.size, ?_⟩;have:=hM2.newObj (d:=d+100) sl (by omega) (t:=el) (cv:=⟨os++ns++zr⟩) (.arr z.length (R0++R1++am (nc-(R0.length+R1.length)) z)) (by simp only [aB.size];omega) (fun k hk=>EO hrows hN k hk) hv;simp only [St.app,E1,hsl];exact this
theorem vg {n off:Nat} {xs l':List (List SV)} {ns:List Value} (hrows:∀y∈xs,y.length=n) (hrows':∀y∈l',y.length=n) (hnew:New x ns l'.flatten) (hbd:off+l'.length≤xs.length)
 (c:Array Value) (hc:∀k,k<xs.length*n→cf x (.arr n xs) k (c.getD k Go.undef)) (i:Nat) (hi:i<xs.length*n):
 (xs.take off++l'++xs.drop (off+l'.length)).length=xs.length∧
 cf x (.arr n (xs.take off++l'++xs.drop (off+l'.length))) i (if off*n≤i∧i<off*n+ns.length then ns.getD (i-off*n) Go.undef else c.getD i Go.undef):=by
 have hnl:ns.length=l'.length*n:=by rw [←hnew.len,bI hrows']
 have hfl:l'.flatten.length=l'.length*n:=bI hrows'
 have hrowsnew:∀y∈xs.take off++l'++xs.drop (off+l'.length),y.length=n:=by
  intro y hy;rcases aj.1 hy with hy|hy
  ·rcases aj.1 hy with hy|hy
   ·exact hrows y (bH hy)
   ·exact hrows' y hy
  ·exact hrows y (gV hy)
 have hlnew:(xs.take off++l'++xs.drop (off+l'.length)).length=xs.length:=by simp only [ah,ay,aF];omega
 have hbnd:off*n+l'.length*n≤xs.length*n:=by rw [←bP];exact bB _ hbd
 refine⟨hlnew, ?_⟩;have:=hc i hi;simp only [cf,aB.cell]at this ⊢;rw [←cV _ hrowsnew i (by rw [hlnew];exact hi)];rw [←cV _ hrows i hi]at this;rw [cz,cz,hnl];have ef:xs.flatten=(xs.take off).flatten++(xs.drop off).flatten:=by rw [←cz,yz]
 have l1:(xs.take off).flatten.length=off*n:=by rw [bI (fun y hy=>hrows y (bH hy)),ay,dr (by omega)]
 have e1:xs.flatten.take (off*n)=(xs.take off).flatten:=by rw [ef,List.take_append_of_le_length (by rw [l1];exact aZ _),co (by rw [l1];exact aZ _)]
 have e2:xs.flatten.drop (off*n+l'.length*n)=(xs.drop (off+l'.length)).flatten:=by
  have ef2:xs.flatten=(xs.take (off+l'.length)).flatten++(xs.drop (off+l'.length)).flatten:=by rw [←cz,yz]
  have l2:(xs.take (off+l'.length)).flatten.length=off*n+l'.length*n:=by rw [bI (fun y hy=>hrows y (bH hy)),ay,dr (by omega),bP]
  rw [ef2,List.drop_append,l2,Nat.sub_self,aY,bE (by rw [l2];exact aZ _),bp]
 rw [←e1,←e2,←hfl];have hsp:=gj xs.flatten l'.flatten (off*n) i (by rw [hfl,bI hrows];exact hbnd);rw [aa,hsp];split
 ·rename_i hin
  rw [←aa];exact hnew.rep _ (by omega)
 ·rw [←aa];exact this
structure Src (P:Program) (n m:Nat) (w:World) (Y:Value) (ns:List Value):Prop where
 len:∀w':World,w'.heap=w.heap→(Builtin.lenOf Y).run P w'= .ok m w'
 cells:∀w':World,w'.heap=w.heap→(Builtin.firstCells n m Y).run P w'= .ok ns.toArray w'
theorem mM (hM:aI C x s a w) {n:Nat} {u:SV} {Y:Value} {p:Prop} {R:List (List SV)} (h:Rep x u Y) (hb:eL s n u=some (p,R)) (hp:p):∃ns,(∀y∈R,y.length=n)∧New x ns R.flatten∧Src P n R.length w Y ns:=by
 obtain⟨hrows',g1,ns,hnew,g2⟩:=gX (P:=P) hM h hb hp;refine⟨ns,hrows',hnew,g1,fun w' hw'=> ?_⟩;have:=g2 R.length (aZ _) w' hw';have hnl:ns.length=R.length*n:=by rw [←hnew.len,bI hrows']
 rwa [←hnl,br]at this
theorem sM {u:SV} {X:Value} {cap:Nat} (h:Rep x u X) (hc:qe u=some cap):∃bs n,X= .slice bs n cap:=by
 unfold qe at hc;split at hc<;>try (cases hc;done)
 ·subst hc;obtain⟨_,_,hcc,off',he,_⟩:=h.psl_inv;obtain rfl:=hcc _ rfl;exact⟨_,_,he⟩
 ·rename_i sz xs
  cases hc;obtain⟨b,cap,he,_,_,hsp⟩:=h.lst_inv;obtain⟨a',n',he'⟩:=hsp;rw [he]at he';simp only [Value.slice.injEq]at he';refine⟨b,xs.length, ?_⟩;rw [he];simp only [Value.slice.injEq,true_and];omega
theorem s9 {t u el:TypeId} {k:IntKind} {n m len cap by_:Nat} {i:TypeInfo} {z:Value} (hd:P.underlying t=some (.slice el)) (hu:P.underlying u=some (.int k)) (hn:fp P el=some n) (hn0:n≠0) {ty:TypeId} {bs:Option Addr} {os:List Value}
 (hi:P.info? el=some i) (hib:i.bytes=by_) (hb0:by_≠0) (hzr:∀w,(zeroValue el).run P w= .ok z w)
 (hold:∀w':World,w'.heap=w.heap→(Builtin.firstCells n len (.slice bs len cap)).run P w'= .ok os.toArray w')
 (hc:¬len+m≤cap) (hm:m≤140737488355328) (hroom:(len+m)*by_≤140737488355328) {k':IntKind} (hcap:m≠0):
 ∃nc,len+m≤nc∧(Builtin.append_ #[t,u] ty #[.slice bs len cap,.int k' m]).run P w= .ok (.slice (some ⟨w.heap.size,0,none⟩) (len+m) nc) (w.drew.alloc (.cells (os.toArray++Builtin.zeroCells z.cells m++Builtin.zeroCells z.cells (nc-(len+m))) el (0,0))):=by
 have e:(#[t,u]:Array TypeId)[0]? =some t:=rfl;have e':(#[t,u]:Array TypeId)[1]? =some u:=rfl;have e2:(#[Value.slice bs len cap,.int k' (m:Nat)]:Array Value)[0]? =some (.slice bs len cap):=rfl;have e3:(#[Value.slice bs len cap,.int k' (m:Nat)]:Array Value)[1]? =some (.int k' (m:Nat)):=rfl;have hf:(Question.appendCap (len+m) cap el).forced=false:=rfl
 have hfit:¬Builtin.nextslicecap (len+m) cap*i.bytes>2^48:=by have:=growslice_fits (need:=len+m) (old:=cap) (bytes:=by_) (by omega) hroom;rw [hib];omega
 have hw:af.wrap (m:Int)=m:=by rw [IntKind.wrap_i64];omega
 have hmb:m*by_≤(len+m)*by_:=bB _ (by omega);have hby1:len+m≤(len+m)*by_:=Nat.le_mul_of_pos_right _ (by omega)
 have h48:¬((m:Int)*(i.bytes:Int)>2^48):=by rw [hib,←Int.natCast_mul];omega
 have hneg:¬((m:Int)<0):=by omega
 have hns:¬(m*n=0):=Nat.mul_ne_zero hcap hn0
 have hmax:¬(((len+m:Nat):Int)>af.max):=by show ¬(((len+m:Nat):Int)>9223372036854775807);omega
 refine⟨(Question.appendCap (len+m) cap el).cut (w.tape w.drawn (Question.appendCap (len+m) cap el)),by simp only [Question.cut];omega, ?_⟩;simp only [Builtin.append_,e,e',e2,e3,az,run_underlying hd,al,cE hn,run_underlying hu,aE,if_true,asInt,asIntOf,hw,if_neg hneg,run_typeInfo w hi,if_neg h48,Int.toNat_natCast,hc,if_false];rw [if_neg (by rintro⟨h,_⟩;exact hmax h)];simp only [az,aE,al,run_typeInfo w hi];rw [if_neg hfit];simp only [az,run_choose_drew,hf,aD,if_false,al,run_typeInfo w.drew hi,run_askRoom,hold w.drew rfl,lQ,if_neg hns,hzr,newRow,run_newObj_alloc,aE];rfl
theorem Ee {so:SOp} (hr:bo P o=some so) (h1:(∃z b q r,so= .app z b q r)∨∃z b q r,so= .appM z b q r):∃cl,o.op= .call cl∧cl.callee= .builtin .append:=by
 cases ho:o.op with
 |call cl=>
  cases hb:cl.callee with
  |invoke r m=>simp [bo,ho,hb]at hr
  |value F=>
   exfalso;simp only [bo,ho,hb]at hr
   (repeat' split at hr)<;>first|(cases hr;done)|(cases hr;rcases h1 with⟨_,_,_,_,h⟩|⟨_,_,_,_,h⟩<;>cases h)
  |builtin b=>
   cases b<;>first|exact⟨cl,rfl,hb⟩|(exfalso;simp only [bo,ho,hb,reduceCtorEq]at hr<;>((repeat' split at hr)<;>first|(cases hr;done)|(cases hr;rcases h1 with⟨_,_,_,_,h⟩|⟨_,_,_,_,h⟩<;>cases h)))
 |_=>
  exfalso
  have:¬((∃z b q r,so= .app z b q r)∨∃z b q r,so= .appM z b q r):=by
   simp only [bo,ho]at hr
   first
    |(cases hr;done)
    |(obtain⟨_,_,rfl⟩:=ai.1 hr;rintro(⟨_,_,_,_,h⟩|⟨_,_,_,_,h⟩)<;>cases h;done)
    |(repeat' split at hr)<;>first|(cases hr;done)|contradiction|(cases hr;rintro(⟨_,_,_,_,h⟩|⟨_,_,_,_,h⟩)<;>cases h;done)|(obtain⟨_,_,rfl⟩:=ai.1 hr;rintro(⟨_,_,_,_,h⟩|⟨_,_,_,_,h⟩)<;>first|(cases h;done)|(split at h<;>cases h;done))
  exact this h1
structure xsB (P:Program) (o:Oper) (z:List SV) (by_:Nat) (q r:Arg) (a:Act) (X Y:Operand) (t u el:TypeId) (d2:TypeDesc) (zs:List Value):Prop where
 ex:execOp a.eval o=(do pure (.value (←Builtin.append_ #[t,u] o.type #[a.eval X,a.eval Y])))
 hd:P.underlying t=some (.slice el)
 hu:P.underlying u=some d2
 hX:bn P t X=some q
 hY:bn P u Y=some r
 hn:fp P el=some z.length
 hby:ub P el=some by_
 hz:gh P el=some zs
 hzl:z.length=zs.length
 hzd:∀(G:GM) i,i<z.length→cS G (z.getD i .undef) (zs.getD i Go.undef)
 hb0:by_≠0
 hn0:z.length≠0
theorem Dm {so:SOp} (hr:bo P o=some so) {z:List SV} {by_:Nat} {q r:Arg} (h1:so= .app z by_ q r∨so= .appM z by_ q r) (a:Act):∃X Y t u el d2 zs,xsB P o z by_ q r a X Y t u el d2 zs∧
 (so= .app z by_ q r→(∃e',d2= .slice e')∨d2= .string)∧(so= .appM z by_ q r→∃k,d2= .int k):=by
 obtain⟨cl,ho,hb⟩:=Ee hr (h1.imp (fun h=>⟨_,_,_,_,h⟩) (fun h=>⟨_,_,_,_,h⟩));simp only [bo,ho,hb]at hr;split at hr<;>try (cases hr;done)
 rename_i X Y t u hX ht;split at hr<;>try (cases hr;done)
 rename_i el d2 r' q' hd hu hra hrb;split at hr<;>try (cases hr;done)
 rename_i n b' z' hn hby hz;rw [aN]at hr;obtain⟨hcond,hr⟩:=hr;simp only [an,decide_eq_true_eq]at hcond;obtain⟨⟨hb0,hn0⟩,hzl'⟩:=hcond;obtain⟨zs,hzc,hzl0,hzd⟩:=jt hz;have ea:cl.args= #[X,Y]:=by apply dV;simpa using hX
 have et:cl.argTypes= #[t,u]:=by apply dV;simpa using ht
 have hex:=gn (a:=a) ho hb _ rfl;rw [ea,et]at hex;have em: #[X,Y].map a.eval= #[a.eval X,a.eval Y]:=by simp
 rw [em]at hex
 have key:z'=z∧b'=by_∧r'=q∧q'=r∧(so= .app z by_ q r→(∃e',d2= .slice e')∨d2= .string)∧(so= .appM z by_ q r→∃k,d2= .int k):=by
  split at hr<;>try (cases hr;done)
  ·cases hr;rcases h1 with h|h<;>cases h;exact⟨rfl,rfl,rfl,rfl,fun _=> .inl ⟨_,rfl⟩,fun h=>by cases h⟩
  ·rw [aN]at hr
   obtain⟨_,hr⟩:=hr;cases hr;rcases h1 with h|h<;>cases h;exact⟨rfl,rfl,rfl,rfl,fun _=> .inr rfl,fun h=>by cases h⟩
  ·cases hr;rcases h1 with h|h<;>cases h;exact⟨rfl,rfl,rfl,rfl,fun h=>(by cases h),fun _=>⟨_,rfl⟩⟩
 obtain⟨rfl,rfl,rfl,rfl,k1,k2⟩:=key;subst hzl';exact⟨X,Y,t,u,el,d2,zs,⟨hex,hd,hu,hra,hrb,hn,hby,hzc,hzl0,hzd,hb0,hn0⟩,k1,k2⟩
theorem sP {t:TypeId} {b:Nat} (h:ub P t=some b):∃i,P.info? t=some i∧i.bytes=b:=by
 unfold ub at h;cases hi:P.info? t with
 |none=>simp [hi]at h
 |some i=>simp [hi]at h;exact⟨i,rfl,h⟩
theorem ym (hM:aI C x s a w) {z:List SV} {by_:Nat} {q r:Arg} (hr:bo P o=some (.app z by_ q r)) {k:St→Prop} (h:xjB s o.dst z by_ (s.ev q) (eL s z.length (s.ev r)) k):∃s',cm P C o a w s'∧k s':=by
 obtain⟨X,Y,t,u,el,d2,zs,I,hu2,_⟩:=Dm hr (.inl rfl) a;have hu2:=hu2 rfl;have h1:=aK hM I.hX;have h2:=aK hM I.hY;unfold xjB at h;split at h<;>try (exact h.elim)
 rename_i d0 cap p0 R0 p1 R1 hdst hcap hR0 hR1;obtain⟨hp0,hp1,hroom,hfit,hgrow⟩:=h;obtain⟨os,g0,n0,s0⟩:=mM (P:=P) hM h1 hR0 hp0;obtain⟨ns,g1,n1,s1⟩:=mM (P:=P) hM h2 hR1 hp1;obtain⟨bs,len,hXv⟩:=sM h1 hcap
 have hlen:len=R0.length:=by have:=s0.len w rfl;rw [hXv]at this;simp only [Builtin.lenOf,aE,Result.ok.injEq]at this;exact this.1
 subst hlen;obtain⟨i,hi,hib⟩:=sP I.hby;obtain⟨zv,hzc,hzr⟩:=cM I.hz;have hnl:ns.length=R1.length*z.length:=by rw [←n1.len,bI g1]
 by_cases hc:R0.length+R1.length≤cap
 ·have hk:=hfit hc
  cases hu:s.ev q with
  |psl o' sz off n cap'=>
   rw [hu]at hk h1 hR0 hcap;simp only [qe]at hcap;subst hcap;simp only [xju]at hk;split at hk<;>try (exact hk.elim)
   rename_i sz' xs hl;obtain⟨rfl,hrows,hbd,hk⟩:=hk;simp only [eL,hl,av.injEq,bh.injEq]at hR0;obtain⟨e1,e2⟩:=hR0;rw [←e1]at hp0;obtain⟨rfl,_,hb1,_⟩:=hp0;have hR0l:R0.length=n:=by rw [←e2];simp;omega
   obtain⟨cq,hnc,hcc,off',he',hoff⟩:=h1.psl_inv;obtain rfl:=hcc _ rfl;rw [hXv]at he';simp only [Value.slice.injEq]at he';obtain⟨rfl,_,_⟩:=he'
   obtain⟨hM',hst⟩:=hM.write (P:=P) (off:=(off+n)*z.length) (vs:=ns) (obj':= .arr z.length (xs.take (off+n)++R1++xs.drop (off+n+R1.length))) hl (by
    simp only [aB.size];rw [hnl,←bP];exact bB _ hbd) (by
    simp only [aB.size,ah,ay,aF];congr 1;omega) (fun cc hcc i hi=>(vg hrows g1 n1 hbd cc hcc i hi).2)
   refine⟨_,⟨.slice (some ⟨x.β o',off',none⟩) (n+R1.length) cap,cP w (x.β o') ((off+n)*z.length) ns,x,.value _, ?_,.inl rfl, ?_⟩,hk⟩
   ·have hrun:=gk (P:=P) (t:=t) (u:=u) (ty:=o.type) (bs:=some ⟨x.β o',off',none⟩) (len:=R0.length) (m:=R1.length) (cap:=cap) (w1:=cP w (x.β o') ((off+n)*z.length) ns) I.hd I.hu hu2 I.hn (s1.len w rfl) (s1.cells w rfl) hc (by
     simp only [df]
     by_cases hc0:cap=0
     ·have:ns=[]:=bJ.1 (by
       rw [hnl];have:R1.length=0:=by omega
       rw [this,Nat.zero_mul])
      rw [this];simp [storeCells,cP]
     ·rw [hoff.resolve_left hc0,hR0l,←bP]
      exact hst n1.one w rfl)
    rw [I.ex,hXv];simp only [az,hrun,al,aE];rw [hR0l]
   ·simp only [St.app]
    refine aI.put hM' o.dst (.psl _ _ _ _ _ _ _ hoff (by omega) (fun _ e=>by cases e;rfl))
  |lst sz xs tk=>
   rw [hu]at hk h1 hcap hR0;simp only [xju]at hk
   have hcx:cap=xs.length:=by
    cases tk<;>simp only [qe,reduceCtorEq,av.injEq]at hcap;exact hcap.symm
   simp only [eL,av.injEq,bh.injEq]at hR0;have hR1:R1.length=0:=by rw [←hR0.2]at hc;omega
   have hns:ns=[]:=bJ.1 (by rw [hnl,hR1,Nat.zero_mul])
   have hrun:=gk (P:=P) (t:=t) (u:=u) (ty:=o.type) (bs:=bs) (len:=R0.length) (m:=R1.length) (cap:=cap) (w1:=w) I.hd I.hu hu2 I.hn (s1.len w rfl) (s1.cells w rfl) hc (by rw [hns];cases bs<;>simp [storeCells])
   refine⟨_,⟨.slice bs (R0.length+R1.length) cap,w,x,.value _, ?_,.inl rfl, ?_⟩,hk⟩
   ·rw [I.ex,hXv];simp only [az,hrun,al,aE]
   ·refine aI.put hM o.dst ?_
    rw [hR1,eP,←hXv];exact h1
  |_=>rw [hu]at hcap;simp [qe]at hcap
 ·obtain⟨nc,hnc,hrun⟩:=kj (P:=P) (t:=t) (u:=u) (ty:=o.type) (bs:=bs) (len:=R0.length) (m:=R1.length) (cap:=cap) (os:=os) (ns:=ns) I.hd I.hu hu2 I.hn hi hib I.hb0 hzr s1.len s1.cells (by rw [←hXv];exact s0.cells) hc hroom
  have hk:=hgrow (by omega) nc hnc;obtain⟨x',hM'⟩:=xeG hM (d:=d0) (el:=el) (zr:=(Builtin.zeroCells zv.cells (nc-(R0.length+R1.length))).toList) n0 n1 (nK hzc I.hzl I.hzd _) g0 g1 hnc o.dst (by rw [hdst];rfl);refine⟨_,⟨_,_,x',.value _, ?_,.inl rfl,hM'⟩,hk⟩;rw [I.ex,hXv];simp only [az,hrun,al,aE]
  congr 4
  apply dV;simp
theorem yl (hM:aI C x s a w) {z:List SV} {by_:Nat} {q r:Arg} (hr:bo P o=some (.appM z by_ q r)) {k:St→Prop} (h:xjA s o.dst z by_ (s.ev q) (s.ev r) k):∃s',cm P C o a w s'∧k s':=by
 obtain⟨X,Y,t,u,el,d2,zs,I,_,hu2⟩:=Dm hr (.inr rfl) a;obtain⟨kk,rfl⟩:=hu2 rfl;have h1:=aK hM I.hX;have h2:=aK hM I.hY;unfold xjA at h;split at h<;>try (exact h.elim)
 rename_i d0 cap p0 R0 k' n hdst hcap hR0 hn;obtain⟨hp0,hn0,hn1,hroom,hc,hgrow⟩:=h;obtain⟨os,g0,n0,s0⟩:=mM (P:=P) hM h1 hR0 hp0;obtain⟨bs,len,hXv⟩:=sM h1 hcap
 have hlen:len=R0.length:=by have:=s0.len w rfl;rw [hXv]at this;simp only [Builtin.lenOf,aE,Result.ok.injEq]at this;exact this.1
 subst hlen;obtain⟨i,hi,hib⟩:=sP I.hby;obtain⟨zv,hzc,hzr⟩:=cM I.hz;rw [hn]at h2;have hYv:a.eval Y= .int k' (n.toNat:Nat):=by rw [h2.int_inv];congr 1;omega
 have hlc:R0.length≤cap:=by
  rw [hXv]at h1;unfold qe at hcap;split at hcap<;>try (cases hcap;done)
  ·rename_i o' sz off n' c' hu
   rw [hu]at h1;obtain⟨cq,hnc,hcc,off',he',_⟩:=h1.psl_inv;obtain rfl:=hcc _ hcap;simp only [Value.slice.injEq]at he';omega
  ·rename_i sz xs hu
   rw [hu]at h1;obtain⟨_,_,he',hle,_⟩:=h1.lst_inv;simp only [Value.slice.injEq]at he';omega
 obtain⟨nc,hnc,hrun⟩:=s9 (P:=P) (w:=w) (t:=t) (u:=u) (k:=kk) (k':=k') (n:=z.length) (m:=n.toNat) (ty:=o.type) (bs:=bs) (len:=R0.length) (cap:=cap) (os:=os) I.hd I.hu I.hn I.hn0 hi hib I.hb0 hzr (by rw [←hXv];exact s0.cells) (by omega) (by omega) hroom (by omega);have hk:=hgrow nc hnc;have hrep:(am n.toNat z).length=n.toNat:=cd;obtain⟨x',hM'⟩:=xeG hM (d:=d0) (el:=el) (R1:=am n.toNat z) (nc:=nc) (ns:=(Builtin.zeroCells zv.cells n.toNat).toList) (zr:=(Builtin.zeroCells zv.cells (nc-(R0.length+(am n.toNat z).length))).toList) n0 (nK hzc I.hzl I.hzd _) (nK hzc I.hzl I.hzd _) g0 (fun y hy=>by rw [(List.mem_replicate.1 hy).2]) (by rw [hrep];exact hnc) o.dst (by rw [hdst];rfl);refine⟨_,⟨_,_,x',.value _, ?_,.inl rfl,hM'⟩,hk⟩;rw [I.ex,hXv,hYv];simp only [az,hrun,al,aE,hrep]
 congr 4
 apply dV;simp
end Go.Sy
namespace Go.Sy
variable [ba]
variable {P : Program} {C : Ctx} {x : Sit} {s : St} {a : Act} {w : World} {o : Oper} {so : SOp}
def xff (C:Ctx) (P:Program) (g:Nat) (vs:List Value) (w:World) (d:Option Nat) (a:Act) (k:St→Prop):Prop:=
 Calls P g ⟨vs⟩ w fun en w'=>∃v,en= .returned v∧qx C k (a.put d v) w'
theorem vm (hM:aI C x s a w) {g:Nat} {as:List SV} {d:Option Nat} {k:St→Prop} (h:xeS P g as d k s) {vs:List Value} (hvs:cn x as vs):xff C P g vs w d a k:=by
 rcases h with⟨e,he,hk⟩|⟨m,args,os,R,⟨_,hS⟩,hle,hl,hos100,hnd,hlk,hmr,hR⟩
 ·refine(Dw hM he hvs).mono ?_
  rintro en w' ⟨v,x',rfl,hM'⟩;exact⟨v,rfl,x',_,hM' d,hk⟩
 ·let D:=d.getD 0
  have hmo:∀i,i<m.length→fx D m i=m.getD i 0:=fun i hi=>if_pos hi
  have hargs:cn (x.back (fx D m) (gZ D)) args vs:=(C7 hle hvs).renB;refine(hS (Ctx.callee x w m (x.back (fx D m) (gZ D)).β) (x.back (fx D m) (gZ D)) w vs rfl rfl ?_ hos100 (ko hM hmo hl hnd hlk) hargs).mono ?_
  ·rintro b (h|⟨i,hi,h⟩)
   ·exact .inl h
   ·exact .inr ⟨i,by omega,by show x.β (fx D m i)=b;rw [hmo i hi];exact h⟩
  ·rintro en w' ⟨v,x',r,os',rfl,hrel,hr,hH,hgiven⟩
   obtain⟨hos,hri,hrt,hk⟩:=hR r os' hrel;have hg:∀i,i<os.length→x'.β i=x.β (m.getD i 0):=fun i hi=>by rw [hgiven i hi];show x.β (fx D m i)=_;rw [hmo i (by omega)]
   let β2:Nat→Nat:=fun q=>if inR D q then x'.β (q-(D+1)*1000)else x.β q
   let τ2:Nat→Nat×Nat×Nat:=fun q=>if inR D q then x'.τ (q-(D+1)*1000)else x.τ q
   have hin:∀q,q<1000→inR D ((D+1)*1000+q)=true:=by intro q hq;simp only [inR,an,decide_eq_true_eq];omega
   have hβnew:∀q,q<1000→β2 (fx D m q)=x'.β q:=by
    intro q hq
    by_cases hqm:q<m.length
    ·have h1:fx D m q=m.getD q 0:=if_pos hqm
     have h2:m.getD q 0∈m:=by rw [aa,ab hqm];exact aT _
     simp only [β2];rw [h1,hmr _ h2,hg q (by omega)];rfl
    ·have h1:fx D m q=(D+1)*1000+q:=if_neg hqm
     simp only [β2];rw [h1,hin q hq,if_pos rfl];congr 1;omega
   have hτnew:∀q,q<1000→τ2 (gZ D q)=x'.τ q:=by intro q hq;simp only [τ2,gZ];rw [hin q hq,if_pos rfl];congr 1;omega
   have hout:∀q,¬((D+1)*1000≤q∧q<(D+2)*1000)→inR D q=false:=by intro q hq;rw [Bool.eq_false_iff];intro h;simp only [inR,an,decide_eq_true_eq]at h;exact hq h
   obtain⟨hG,hA⟩:=l5 (mo:=fx D m) (mt:=gZ D) (lo:=(D+1)*1000) (hi:=(D+2)*1000) (β2:=β2) (τ2:=τ2) hM hl hlk hH hmo (fun i hi=>by omega) (fun q hq=>by simp only [β2];rw [hout q hq];rfl)
    (fun q hq=>by simp only [τ2];rw [hout q hq];rfl) (fun p hp=>hβnew _ (hos p hp).1) (fun p hp k hk=>hβnew k ((hos p hp).2.1 k hk)) (fun p hp t ht=>hτnew t ((hos p hp).2.2 t ht))
    (fun p hp=>by
     by_cases h:p.1<m.length
     ·exact .inl h
     ·right
      have h1:fx D m p.1=(D+1)*1000+p.1:=if_neg h;have:=(hos p hp).1;rw [h1];omega)
    (fun t ht=>⟨by have:=hrt t ht;unfold gZ;omega,hτnew t (hrt t ht)⟩)
   refine⟨v,rfl,⟨x'.G,β2,τ2⟩,_, ?_,hk⟩;refine aI.put ⟨?_,hM.defers, ?_⟩ d ?_
   ·exact cn.mono (x:=x) (x':=⟨x'.G,β2,τ2⟩) hG (fun q hq=>by show β2 q=_;simp only [β2];rw [hout q hq];rfl) (fun q hq=>by show τ2 q=_;simp only [τ2];rw [hout q hq];rfl) hM.tm
   ·rw [qF];exact hA
   ·exact Rep.renF (x:=x') (x2:=⟨x'.G,β2,τ2⟩) (fun _ _ _ h=>h) hr (fun k hk=>hβnew k (hri k hk)) (fun t ht=>hτnew t (hrt t ht))
theorem oc {K:Act→World→Prop} {Q:Exit→Act→World→Prop} {k:St→Prop} {g:Nat} {vs:List Value} (hrun:(execOp a.eval o).run P w= .ok (.enter g ⟨vs⟩) w) (h:xff C P g vs w o.dst a k)
 (hK:∀a w,qx C k a w→K a w):o.wp P a w K Q:=by
 unfold Oper.wp;rw [hrun];refine Calls.mono h ?_;rintro en w' ⟨v,rfl,hp⟩;exact hK _ _ hp
theorem wF {f:Arg} {as:List Arg} (hr:bo P o=some (.call f as)):∃cl F,o.op= .call cl∧cl.callee= .value F∧bn P 0 F=some f∧i5 (fun p=>bn P p.2 p.1) (cl.args.toList.zip cl.argTypes.toList)=some as∧cl.args.size=cl.argTypes.size:=by
 cases ho:o.op with
 |call cl=>
  cases hb:cl.callee with
  |invoke r m=>simp [bo,ho,hb]at hr
  |value F=>
   simp only [bo,ho,hb]at hr;split at hr<;>try (cases hr;done)
   rename_i f' as' h1 h2;split at hr<;>try (cases hr;done)
   rename_i h3;split at hr
   ·split at hr
    ·cases hr
    ·cases hr;exact⟨cl,F,rfl,hb,h1,h2,h3⟩
   ·cases hr;exact⟨cl,F,rfl,hb,h1,h2,h3⟩
  |builtin b=>
   exfalso;cases b<;>simp only [bo,ho,hb,reduceCtorEq]at hr
   all_goals
    (first|(cases hr;done)|(split at hr<;>(first|(cases hr;done)|(split at hr<;>(first|(cases hr;done)|(split at hr<;>(first|(cases hr;done)|(split at hr<;>(first|(cases hr;done)|(split at hr<;>(first|(cases hr;done)|(split at hr<;>((cases hr;done))))))))))))))
 |pick c X Y=>exfalso;simp only [bo,ho]at hr;split at hr<;>cases hr
 |move X=>exfalso;simp only [bo,ho]at hr;obtain⟨_,_,h⟩:=ai.1 hr;cases h
 |assign X=>exfalso;simp only [bo,ho]at hr;obtain⟨_,_,h⟩:=ai.1 hr;cases h
 |box t X=>exfalso;simp only [bo,ho]at hr;obtain⟨_,_,h⟩:=ai.1 hr;cases h
 |nilCheck X=>exfalso;simp only [bo,ho]at hr;obtain⟨_,_,h⟩:=ai.1 hr;cases h
 |unOp op t X=>exfalso;simp only [bo,ho]at hr;obtain⟨_,_,h⟩:=ai.1 hr;cases h
 |extract X i=>exfalso;simp only [bo,ho]at hr;obtain⟨_,_,h⟩:=ai.1 hr;cases h
 |build t ps=>
  exfalso;simp only [bo,ho]at hr;split at hr<;>try (cases hr;done)
  ·split at hr<;>try (cases hr;done)
   obtain⟨_,_,h⟩:=ai.1 hr;cases h
  ·split at hr<;>try (cases hr;done)
   obtain⟨_,_,h⟩:=ai.1 hr;cases h
 |buildSlice t n ps=>
  exfalso;simp only [bo,ho]at hr;split at hr<;>try (cases hr;done)
  split at hr<;>try (cases hr;done)
  split at hr<;>try (cases hr;done)
  obtain⟨_,_,h⟩:=ai.1 hr;split at h<;>cases h
 |makeFunc f X Y=>exfalso;cases f<;>simp only [bo,ho,reduceCtorEq]at hr;split at hr<;>cases hr
 |alloc t=>exfalso;simp only [bo,ho]at hr;first|(cases hr;done)|(split at hr<;>(first|(cases hr;done)|(split at hr<;>(first|(cases hr;done)|(split at hr<;>(first|(cases hr;done)|(split at hr<;>(first|(cases hr;done)|(split at hr<;>(first|(cases hr;done)|(split at hr<;>((cases hr;done)))))))))))))
 |load t X=>exfalso;simp only [bo,ho]at hr;first|(cases hr;done)|(split at hr<;>(first|(cases hr;done)|(split at hr<;>(first|(cases hr;done)|(split at hr<;>(first|(cases hr;done)|(split at hr<;>(first|(cases hr;done)|(split at hr<;>(first|(cases hr;done)|(split at hr<;>((cases hr;done)))))))))))))
 |store t X Y=>exfalso;simp only [bo,ho]at hr;first|(cases hr;done)|(split at hr<;>(first|(cases hr;done)|(split at hr<;>(first|(cases hr;done)|(split at hr<;>(first|(cases hr;done)|(split at hr<;>(first|(cases hr;done)|(split at hr<;>(first|(cases hr;done)|(split at hr<;>((cases hr;done)))))))))))))
 |binOp op t X Y u=>exfalso;simp only [bo,ho]at hr;first|(cases hr;done)|(split at hr<;>(first|(cases hr;done)|(split at hr<;>(first|(cases hr;done)|(split at hr<;>(first|(cases hr;done)|(split at hr<;>(first|(cases hr;done)|(split at hr<;>(first|(cases hr;done)|(split at hr<;>((cases hr;done)))))))))))))
 |convert t u X=>exfalso;simp only [bo,ho]at hr;first|(cases hr;done)|(split at hr<;>(first|(cases hr;done)|(split at hr<;>(first|(cases hr;done)|(split at hr<;>(first|(cases hr;done)|(split at hr<;>(first|(cases hr;done)|(split at hr<;>(first|(cases hr;done)|(split at hr<;>((cases hr;done)))))))))))))
 |makeSlice t X Y=>exfalso;simp only [bo,ho]at hr;first|(cases hr;done)|(split at hr<;>(first|(cases hr;done)|(split at hr<;>(first|(cases hr;done)|(split at hr<;>(first|(cases hr;done)|(split at hr<;>(first|(cases hr;done)|(split at hr<;>(first|(cases hr;done)|(split at hr<;>((cases hr;done)))))))))))))
 |slice t X lo hi mx=>exfalso;simp only [bo,ho]at hr;first|(cases hr;done)|(split at hr<;>(first|(cases hr;done)|(split at hr<;>(first|(cases hr;done)|(split at hr<;>(first|(cases hr;done)|(split at hr<;>(first|(cases hr;done)|(split at hr<;>(first|(cases hr;done)|(split at hr<;>((cases hr;done)))))))))))))
 |fieldAddr t X i=>exfalso;simp only [bo,ho]at hr;first|(cases hr;done)|(split at hr<;>(first|(cases hr;done)|(split at hr<;>(first|(cases hr;done)|(split at hr<;>(first|(cases hr;done)|(split at hr<;>(first|(cases hr;done)|(split at hr<;>(first|(cases hr;done)|(split at hr<;>((cases hr;done)))))))))))))
 |field t X i=>exfalso;simp only [bo,ho]at hr;first|(cases hr;done)|(split at hr<;>(first|(cases hr;done)|(split at hr<;>(first|(cases hr;done)|(split at hr<;>(first|(cases hr;done)|(split at hr<;>(first|(cases hr;done)|(split at hr<;>(first|(cases hr;done)|(split at hr<;>((cases hr;done)))))))))))))
 |indexAddr t X i=>exfalso;simp only [bo,ho]at hr;first|(cases hr;done)|(split at hr<;>(first|(cases hr;done)|(split at hr<;>(first|(cases hr;done)|(split at hr<;>(first|(cases hr;done)|(split at hr<;>(first|(cases hr;done)|(split at hr<;>(first|(cases hr;done)|(split at hr<;>((cases hr;done)))))))))))))
 |index t X i=>exfalso;simp only [bo,ho]at hr;first|(cases hr;done)|(split at hr<;>(first|(cases hr;done)|(split at hr<;>(first|(cases hr;done)|(split at hr<;>(first|(cases hr;done)|(split at hr<;>(first|(cases hr;done)|(split at hr<;>(first|(cases hr;done)|(split at hr<;>((cases hr;done)))))))))))))
 |_=>simp [bo,ho]at hr
theorem Gc {c q r:Arg} (hr:bo P o=some (.pick c q r)):∃X Y Z,o.op= .pick X Y Z∧bn P 0 X=some c∧bn P o.type Y=some q∧bn P o.type Z=some r:=by
 cases ho:o.op with
 |pick X Y Z=>
  simp only [bo,ho]at hr;split at hr<;>try (cases hr;done)
  rename_i a1 a2 a3 h1 h2 h3;simp only [av.injEq,SOp.pick.injEq]at hr;obtain⟨rfl,rfl,rfl⟩:=hr;exact⟨X,Y,Z,rfl,h1,h2,h3⟩
 |call cl=>
  exfalso;cases hb:cl.callee with
  |invoke r m=>simp [bo,ho,hb]at hr
  |value F=>simp only [bo,ho,hb]at hr;first|(cases hr;done)|(split at hr<;>(first|(cases hr;done)|(split at hr<;>(first|(cases hr;done)|(split at hr<;>(first|(cases hr;done)|(split at hr<;>(first|(cases hr;done)|(split at hr<;>(first|(cases hr;done)|(split at hr<;>((cases hr;done)))))))))))))
  |builtin b=>
   cases b<;>simp only [bo,ho,hb,reduceCtorEq]at hr
   all_goals
    (first|(cases hr;done)|(split at hr<;>(first|(cases hr;done)|(split at hr<;>(first|(cases hr;done)|(split at hr<;>(first|(cases hr;done)|(split at hr<;>(first|(cases hr;done)|(split at hr<;>(first|(cases hr;done)|(split at hr<;>((cases hr;done))))))))))))))
 |move X=>exfalso;simp only [bo,ho]at hr;obtain⟨_,_,h⟩:=ai.1 hr;cases h
 |assign X=>exfalso;simp only [bo,ho]at hr;obtain⟨_,_,h⟩:=ai.1 hr;cases h
 |box t X=>exfalso;simp only [bo,ho]at hr;obtain⟨_,_,h⟩:=ai.1 hr;cases h
 |nilCheck X=>exfalso;simp only [bo,ho]at hr;obtain⟨_,_,h⟩:=ai.1 hr;cases h
 |unOp op t X=>exfalso;simp only [bo,ho]at hr;obtain⟨_,_,h⟩:=ai.1 hr;cases h
 |extract X i=>exfalso;simp only [bo,ho]at hr;obtain⟨_,_,h⟩:=ai.1 hr;cases h
 |build t ps=>
  exfalso;simp only [bo,ho]at hr;split at hr<;>try (cases hr;done)
  ·split at hr<;>try (cases hr;done)
   obtain⟨_,_,h⟩:=ai.1 hr;cases h
  ·split at hr<;>try (cases hr;done)
   obtain⟨_,_,h⟩:=ai.1 hr;cases h
 |buildSlice t n ps=>
  exfalso;simp only [bo,ho]at hr;split at hr<;>try (cases hr;done)
  split at hr<;>try (cases hr;done)
  split at hr<;>try (cases hr;done)
  obtain⟨_,_,h⟩:=ai.1 hr;split at h<;>cases h
 |makeFunc f X Y=>exfalso;cases f<;>simp only [bo,ho,reduceCtorEq]at hr;split at hr<;>cases hr
 |alloc t=>exfalso;simp only [bo,ho]at hr;first|(cases hr;done)|(split at hr<;>(first|(cases hr;done)|(split at hr<;>(first|(cases hr;done)|(split at hr<;>(first|(cases hr;done)|(split at hr<;>(first|(cases hr;done)|(split at hr<;>(first|(cases hr;done)|(split at hr<;>((cases hr;done)))))))))))))
 |load t X=>exfalso;simp only [bo,ho]at hr;first|(cases hr;done)|(split at hr<;>(first|(cases hr;done)|(split at hr<;>(first|(cases hr;done)|(split at hr<;>(first|(cases hr;done)|(split at hr<;>(first|(cases hr;done)|(split at hr<;>(first|(cases hr;done)|(split at hr<;>((cases hr;done)))))))))))))
 |store t X Y=>exfalso;simp only [bo,ho]at hr;first|(cases hr;done)|(split at hr<;>(first|(cases hr;done)|(split at hr<;>(first|(cases hr;done)|(split at hr<;>(first|(cases hr;done)|(split at hr<;>(first|(cases hr;done)|(split at hr<;>(first|(cases hr;done)|(split at hr<;>((cases hr;done)))))))))))))
 |binOp op t X Y u=>exfalso;simp only [bo,ho]at hr;first|(cases hr;done)|(split at hr<;>(first|(cases hr;done)|(split at hr<;>(first|(cases hr;done)|(split at hr<;>(first|(cases hr;done)|(split at hr<;>(first|(cases hr;done)|(split at hr<;>(first|(cases hr;done)|(split at hr<;>((cases hr;done)))))))))))))
 |convert t u X=>exfalso;simp only [bo,ho]at hr;first|(cases hr;done)|(split at hr<;>(first|(cases hr;done)|(split at hr<;>(first|(cases hr;done)|(split at hr<;>(first|(cases hr;done)|(split at hr<;>(first|(cases hr;done)|(split at hr<;>(first|(cases hr;done)|(split at hr<;>((cases hr;done)))))))))))))
 |makeSlice t X Y=>exfalso;simp only [bo,ho]at hr;first|(cases hr;done)|(split at hr<;>(first|(cases hr;done)|(split at hr<;>(first|(cases hr;done)|(split at hr<;>(first|(cases hr;done)|(split at hr<;>(first|(cases hr;done)|(split at hr<;>(first|(cases hr;done)|(split at hr<;>((cases hr;done)))))))))))))
 |slice t X lo hi mx=>exfalso;simp only [bo,ho]at hr;first|(cases hr;done)|(split at hr<;>(first|(cases hr;done)|(split at hr<;>(first|(cases hr;done)|(split at hr<;>(first|(cases hr;done)|(split at hr<;>(first|(cases hr;done)|(split at hr<;>(first|(cases hr;done)|(split at hr<;>((cases hr;done)))))))))))))
 |fieldAddr t X i=>exfalso;simp only [bo,ho]at hr;first|(cases hr;done)|(split at hr<;>(first|(cases hr;done)|(split at hr<;>(first|(cases hr;done)|(split at hr<;>(first|(cases hr;done)|(split at hr<;>(first|(cases hr;done)|(split at hr<;>(first|(cases hr;done)|(split at hr<;>((cases hr;done)))))))))))))
 |field t X i=>exfalso;simp only [bo,ho]at hr;first|(cases hr;done)|(split at hr<;>(first|(cases hr;done)|(split at hr<;>(first|(cases hr;done)|(split at hr<;>(first|(cases hr;done)|(split at hr<;>(first|(cases hr;done)|(split at hr<;>(first|(cases hr;done)|(split at hr<;>((cases hr;done)))))))))))))
 |indexAddr t X i=>exfalso;simp only [bo,ho]at hr;first|(cases hr;done)|(split at hr<;>(first|(cases hr;done)|(split at hr<;>(first|(cases hr;done)|(split at hr<;>(first|(cases hr;done)|(split at hr<;>(first|(cases hr;done)|(split at hr<;>(first|(cases hr;done)|(split at hr<;>((cases hr;done)))))))))))))
 |index t X i=>exfalso;simp only [bo,ho]at hr;first|(cases hr;done)|(split at hr<;>(first|(cases hr;done)|(split at hr<;>(first|(cases hr;done)|(split at hr<;>(first|(cases hr;done)|(split at hr<;>(first|(cases hr;done)|(split at hr<;>(first|(cases hr;done)|(split at hr<;>((cases hr;done)))))))))))))
 |_=>simp [bo,ho]at hr
theorem sI (hM:aI C x s a w) {c q r:Arg} (hr:bo P o=some (.pick c q r)) {t:Bool} (ht:s.ev c= .bool t):cm P C o a w (s.put o.dst (if t then s.ev q else s.ev r)):=by
 obtain⟨X,Y,Z,ho,h1,h2,h3⟩:=Gc hr;have e1:=aK hM h1;rw [ht]at e1;refine cm.val hM (m:=do pure (if←asBool (a.eval X)then a.eval Y else a.eval Z)) (u:=if t then a.eval Y else a.eval Z) (by simp only [execOp,ho];simp) ?_ ?_
 ·rw [e1.bool_inv];rfl
 ·cases t
  ·exact aK hM h3
  ·exact aK hM h2
theorem tW (hM:aI C x s a w) (hr:bo P o=some so) {e:Eff} (he:eff s o.dst so=some e) (hp:e.pre):cm P C o a w (s.app o.dst e):=by
 by_cases ho:∃q r,so= .ovl q r
 ·obtain⟨q,r,rfl⟩:=ho
  exact GL hM hr he hp
 ·exact EF hM hr (fun q r h=>ho ⟨q,r,h⟩) he hp
theorem rV (hM:aI C x s a w) (hr:bo P o=some so) {k:St→Prop} (h:sym P so o.dst k s) {K:Act→World→Prop} {Q:Exit→Act→World→Prop} (hK:∀a w,qx C k a w→K a w):o.wp P a w K Q:=by
 by_cases hp:∃c q r,so= .pick c q r
 ·obtain⟨c,q,r,rfl⟩:=hp
  simp only [sym]at h;split at h<;>try (exact h.elim)
  rename_i t ht;have hd:=sI hM hr ht;cases t with
  |true=>exact cA hd (h.1 rfl) hK
  |false=>exact cA hd (h.2 rfl) hK
 by_cases hc:∃f as,so= .call f as
 ·obtain⟨f,as,rfl⟩:=hc
  simp only [sym]at h;split at h<;>try (exact h.elim)
  rename_i g c1 c2 hg;obtain⟨cl,F,ho,hb,h1,h2,h3⟩:=wF hr
  have hcb:eg P g=true:=by
   rcases h with⟨e,he,_⟩|⟨m,args,os,R,hS,_⟩
   ·obtain⟨m,args,os,r,os',hS,_⟩:=he;exact hS.1
   ·exact hS.1
  obtain⟨vs,hrun,hvs⟩:=sF hM ho hb h1 h2 h3 hg hcb;exact oc hrun (vm hM h hvs) hK
 by_cases hn:∃ne q,so= .isnil ne q
 ·obtain⟨ne,q,rfl⟩:=hn
  obtain⟨b,hk,hd⟩:=qb hM hr (K:=fun b=>k (s.put o.dst (.bool b))) h;exact cA hd hk hK
 by_cases hz:∃z by_ q r,so= .appM z by_ q r
 ·obtain⟨z,by_,q,r,rfl⟩:=hz
  obtain⟨s',hd,hk⟩:=yl hM hr h;exact cA hd hk hK
 by_cases ha:(∃z by_ q r,so= .app z by_ q r)∧s.tk.contains 99=true
 ·obtain⟨⟨z,by_,q,r,rfl⟩,h99⟩:=ha
  simp only [sym,h99,if_true]at h;obtain⟨s',hd,hk⟩:=ym hM hr h;exact cA hd hk hK
 have hE:sym P so o.dst k s=(match eff s o.dst so with|some e=>e.pre∧k (s.app o.dst e)|none=>False):=by
  cases so with
  |app z by_ q r=>
   have:s.tk.contains 99=false:=by rw [←Bool.not_eq_true];exact fun h=>ha ⟨⟨_,_,_,_,rfl⟩,h⟩
   simp only [sym,this,aD,if_false];rfl
  |_=>first|rfl|(exfalso;exact hp ⟨_,_,_,rfl⟩)|(exfalso;exact hc ⟨_,_,rfl⟩)|(exfalso;exact hn ⟨_,_,rfl⟩)|(exfalso;exact hz ⟨_,_,_,_,rfl⟩)
 rw [hE]at h;split at h<;>try (exact h.elim)
 rename_i e he;exact cA (tW hM hr he h.1) h.2 hK
end Go.Sy
namespace Go.Sy
variable [ba]
variable {P : Program} {C : Ctx} {x : Sit} {s : St} {a : Act} {w : World}
theorem qP (hM:aI C x s a w) {g:Nat} {t:Bool} (h:s.get g= .bool t):g<s.tm.length∧a.tmps[g]? =some (.bool t)∧s.tm[g]? =some (.bool t):=by
 have hlt:g<s.tm.length:=by
  rcases bR g s.tm.length with h'|h'
  ·exact h'
  ·unfold St.get at h;rw [aa,ky h']at h;cases h
 have h1:s.tm[g]? =some (.bool t):=by unfold St.get at h;rw [aa,ab hlt]at h;rw [ab hlt];exact congrArg some h
 have hr:=hM.slot g;rw [h]at hr;have hv:=hr.bool_inv;have hs:g<a.tmps.size:=by rw [←aO,←hM.tm.1];exact hlt
 refine⟨hlt, ?_,h1⟩;rw [gS hs];have:a.tmps.getD g Go.undef=a.tmps[g]:=by simp [fK,hs]
 rw [←this,hv]
def u9 (P:Program) (o:Oper) (so:SOp):Prop:=bo P o=some so∨∃xs,so= .newB xs∧bo P o=some (.litB xs)
theorem u9.fresh {ops:Array Oper} {o:Oper} {so:SOp} (d:Option Nat) (h:bo P o=some so):u9 P o (o4 ops d so):=by
 rcases Ew ops d so with e|⟨xs,e1,e2⟩
 ·rw [e];exact .inl h
 ·rw [e2];exact .inr ⟨xs,rfl,e1 ▸ h⟩
theorem u9.old {o:Oper} {so:SOp} (h:u9 P o so) (hn:∀xs,so≠ .newB xs):bo P o=some so:=by
 rcases h with h|⟨xs,e,_⟩
 ·exact h
 ·exact absurd e (hn xs)
theorem kU {ops:Array Oper} {o:Oper} {i:SI} (h:fF P ops o=some i):u9 P o i.op∧i.dst=o.dst∧(i.g=none∧o.guard=none∨∃j b g,i.g=some (g,b)∧o.guard=some (j,b)∧(ops[j]?).bind (·.dst)=some g):=by
 unfold fF at h;split at h<;>try (cases h;done)
 ·rename_i so h1 h2;cases h;exact⟨.fresh _ h1,rfl,.inl ⟨rfl,h2⟩⟩
 ·rename_i so j b h1 h2
  split at h<;>try (cases h;done)
  rename_i g hg;cases h;exact⟨.fresh _ h1,rfl,.inr ⟨j,b,g,rfl,h2,hg⟩⟩
theorem iM {ops:Array Oper} {o:Oper} (h:o.guard=none):Region.wanted o (yielded ops a.tmps)=true:=by simp [Region.wanted,h]
theorem kh {ops:Array Oper} {o:Oper} {j g:Nat} {b t:Bool} (h:o.guard=some (j,b)) (hg:(ops[j]?).bind (·.dst)=some g) (ht:a.tmps[g]? =some (.bool t)):Region.wanted o (yielded ops a.tmps)=(t==b):=by simp only [Region.wanted,h,yielded,hg,cQ,ht];cases t<;>cases b<;>rfl
end Go.Sy
namespace Go.Sy
variable [ba]
variable {P : Program} {C : Ctx} {x : Sit} {s : St} {a : Act} {w : World}
mutual
theorem pF {n:Nat}:∀v:SV,n∉v.ids→n∉v.toks→v.purge n (n+1)=v
 | .byt l t,_,h=>by
  cases t with
  |id t=>simp only [SV.toks,aV]at h;simp only [SV.purge,Tok.purge];rw [if_neg (by omega)]
  |_=>rfl
 | .lst sz xs t,_,h=>by
  cases t with
  |id t=>simp only [SV.toks,aV]at h;simp only [SV.purge,Tok.purge];rw [if_neg (by omega)]
  |_=>rfl
 | .ptr o off,h,_=>by simp only [SV.ids,aV]at h;simp only [SV.purge];rw [if_neg (by omega)]
 | .ap o sz i j,h,_=>by simp only [SV.ids,aV]at h;simp only [SV.purge];rw [if_neg (by omega)]
 | .psl o sz off k cap,h,_=>by simp only [SV.ids,aV]at h;simp only [SV.purge];rw [if_neg (by omega)]
 | .agg cs,h,k=>by simp only [SV.ids,SV.toks]at h k;simp only [SV.purge];rw [fz cs h k]
 | .tup cs,h,k=>by simp only [SV.ids,SV.toks]at h k;simp only [SV.purge];rw [fz cs h k]
 | .fn f p q,h,k=>by simp only [SV.ids,SV.toks,aj,not_or]at h k;simp only [SV.purge];rw [fz p h.1 k.1,fz q h.2 k.2]
 | .undef,_,_=>rfl
 | .bool _,_,_=>rfl
 | .int _ _,_,_=>rfl
 | .u8 _,_,_=>rfl
 | .str _,_,_=>rfl
 | .nilp,_,_=>rfl
 | .nili,_,_=>rfl
 | .pp _,_,_=>rfl
theorem fz {n:Nat}:∀l:List SV,n∉SV.idsL l→n∉SV.toksL l→SV.purgeL n (n+1) l=l
 |[],_,_=>rfl
 |v::r,h,k=>by simp only [SV.idsL,SV.toksL,aj,not_or]at h k;simp only [SV.purgeL];rw [pF v h.1 k.1,fz r h.2 k.2]
end
mutual
theorem sr {lo hi n:Nat}:∀v:SV,n∈(v.purge lo hi).ids→n∈v.ids∧¬(lo≤n∧n<hi)
 | .byt l t,h=>by simp [SV.purge,SV.ids]at h
 | .lst sz xs t,h=>by simp [SV.purge,SV.ids]at h
 | .ptr o off,h=>by
  simp only [SV.purge]at h;split at h
  ·simp [SV.ids]at h
  ·simp only [SV.ids,aV]at h ⊢;subst h;exact⟨rfl,by assumption⟩
 | .ap o sz i j,h=>by
  simp only [SV.purge]at h;split at h
  ·simp [SV.ids]at h
  ·simp only [SV.ids,aV]at h ⊢;subst h;exact⟨rfl,by assumption⟩
 | .psl o sz off k cap,h=>by
  simp only [SV.purge]at h;split at h
  ·simp [SV.ids]at h
  ·simp only [SV.ids,aV]at h ⊢;subst h;exact⟨rfl,by assumption⟩
 | .agg cs,h=>by simp only [SV.purge,SV.ids]at h ⊢;exact dZ cs h
 | .tup cs,h=>by simp only [SV.purge,SV.ids]at h ⊢;exact dZ cs h
 | .fn f p q,h=>by
  simp only [SV.purge,SV.ids,aj]at h ⊢;rcases h with h|h
  ·exact⟨.inl (dZ p h).1,(dZ p h).2⟩
  ·exact⟨.inr (dZ q h).1,(dZ q h).2⟩
 | .undef,h=>by simp [SV.purge,SV.ids]at h
 | .bool _,h=>by simp [SV.purge,SV.ids]at h
 | .int _ _,h=>by simp [SV.purge,SV.ids]at h
 | .u8 _,h=>by simp [SV.purge,SV.ids]at h
 | .str _,h=>by simp [SV.purge,SV.ids]at h
 | .nilp,h=>by simp [SV.purge,SV.ids]at h
 | .nili,h=>by simp [SV.purge,SV.ids]at h
 | .pp _,h=>by simp [SV.purge,SV.ids]at h
theorem dZ {lo hi n:Nat}:∀l:List SV,n∈SV.idsL (SV.purgeL lo hi l)→n∈SV.idsL l∧¬(lo≤n∧n<hi)
 |[],h=>by simp [SV.purgeL,SV.idsL]at h
 |v::r,h=>by
  simp only [SV.purgeL,SV.idsL,aj]at h ⊢;rcases h with h|h
  ·exact⟨.inl (sr v h).1,(sr v h).2⟩
  ·exact⟨.inr (dZ r h).1,(dZ r h).2⟩
end
theorem rU {lo hi n:Nat} (t:Tok) (h:n∈(t.purge lo hi).ids):n∈t.ids∧¬(lo≤n∧n<hi):=by
 cases t with
 |id t=>
  simp only [Tok.purge]at h;split at h
  ·simp [Tok.ids]at h
  ·simp only [Tok.ids,aV]at h ⊢;subst h;exact⟨rfl,by assumption⟩
 |_=>simp [Tok.purge,Tok.ids]at h
theorem Fv (l:List UInt8) (t:Tok):(SV.byt l t).toks=t.ids:=by cases t<;>rfl
theorem Fu (sz:Nat) (xs:List (List SV)) (t:Tok):(SV.lst sz xs t).toks=t.ids:=by cases t<;>rfl
mutual
theorem pm {lo hi n:Nat}:∀v:SV,n∈(v.purge lo hi).toks→n∈v.toks∧¬(lo≤n∧n<hi)
 | .byt l t,h=>by simp only [SV.purge,Fv]at h ⊢;exact rU t h
 | .lst sz xs t,h=>by simp only [SV.purge,Fu]at h ⊢;exact rU t h
 | .ptr o off,h=>by simp only [SV.purge]at h;split at h<;>simp [SV.toks]at h
 | .ap o sz i j,h=>by simp only [SV.purge]at h;split at h<;>simp [SV.toks]at h
 | .psl o sz off k cap,h=>by simp only [SV.purge]at h;split at h<;>simp [SV.toks]at h
 | .agg cs,h=>by simp only [SV.purge,SV.toks]at h ⊢;exact dF cs h
 | .tup cs,h=>by simp only [SV.purge,SV.toks]at h ⊢;exact dF cs h
 | .fn f p q,h=>by
  simp only [SV.purge,SV.toks,aj]at h ⊢;rcases h with h|h
  ·exact⟨.inl (dF p h).1,(dF p h).2⟩
  ·exact⟨.inr (dF q h).1,(dF q h).2⟩
 | .undef,h=>by simp [SV.purge,SV.toks]at h
 | .bool _,h=>by simp [SV.purge,SV.toks]at h
 | .int _ _,h=>by simp [SV.purge,SV.toks]at h
 | .u8 _,h=>by simp [SV.purge,SV.toks]at h
 | .str _,h=>by simp [SV.purge,SV.toks]at h
 | .nilp,h=>by simp [SV.purge,SV.toks]at h
 | .nili,h=>by simp [SV.purge,SV.toks]at h
 | .pp _,h=>by simp [SV.purge,SV.toks]at h
theorem dF {lo hi n:Nat}:∀l:List SV,n∈SV.toksL (SV.purgeL lo hi l)→n∈SV.toksL l∧¬(lo≤n∧n<hi)
 |[],h=>by simp [SV.purgeL,SV.toksL]at h
 |v::r,h=>by
  simp only [SV.purgeL,SV.toksL,aj]at h ⊢;rcases h with h|h
  ·exact⟨.inl (pm v h).1,(pm v h).2⟩
  ·exact⟨.inr (dF r h).1,(dF r h).2⟩
end
def jk (l:List SV):List Nat:=SV.idsL l++SV.toksL l
theorem mh {lo hi n:Nat} {l:List SV} (h:n∈jk (SV.purgeL lo hi l)):n∈jk l∧¬(lo≤n∧n<hi):=by
 unfold jk at*;rcases aj.1 h with h|h
 ·exact⟨aj.2 (.inl (dZ l h).1),(dZ l h).2⟩
 ·exact⟨aj.2 (.inr (dF l h).1),(dF l h).2⟩
theorem mg {lo hi n:Nat} {o:aB} (h:n∈(o.purge lo hi).names):n∈o.names∧¬(lo≤n∧n<hi):=by
 cases o with
 |rc cs=>exact mh (l:=cs) h
 |_=>simp [aB.purge,aB.names,aB.ids,aB.toks]at h
theorem km {n:Nat} {l:List SV} (h:n∉jk l):SV.purgeL n (n+1) l=l:=by simp only [jk,aj,not_or]at h;exact fz l h.1 h.2
theorem rk {n:Nat} {o:aB} (h:n∉o.names):o.purge n (n+1)=o:=by
 cases o with
 |rc cs=>simp only [aB.purge];rw [km h]
 |_=>rfl
theorem pN {n d:Nat} {v:SV} {l:List SV} (h:n∈jk (l.set d v)):n∈jk l∨n∈v.names:=by
 induction l generalizing d with
 |nil=>exact .inl (by simpa using h)
 |cons c r ih=>
  cases d with
  |zero=>
   simp only [List.set_cons_zero,jk,SV.idsL,SV.toksL,aj,SV.names]at h ⊢;rcases h with(h|h)|(h|h)
   ·exact .inr (.inl h)
   ·exact .inl (.inl (.inr h))
   ·exact .inr (.inr h)
   ·exact .inl (.inr (.inr h))
  |succ d=>
   have ih':= @ih d;simp only [List.set_cons_succ,jk,SV.idsL,SV.toksL,aj,SV.names]at h ih' ⊢;rcases h with(h|h)|(h|h)
   ·exact .inl (.inl (.inl h))
   ·rcases ih' (.inl h)with(h|h)|h
    ·exact .inl (.inl (.inr h))
    ·exact .inl (.inr (.inr h))
    ·exact .inr h
   ·exact .inl (.inr (.inl h))
   ·rcases ih' (.inr h)with(h|h)|h
    ·exact .inl (.inl (.inr h))
    ·exact .inl (.inr (.inr h))
    ·exact .inr h
theorem gu {lo hi o:Nat}:∀ob:List (Nat×aB),(bC lo hi ob).lookup o=if lo≤o∧o<hi then none else(ob.lookup o).map (aB.purge lo hi)
 |[]=>by simp [bC]
 |p::r=>by
  simp only [bC]
  by_cases hp:lo≤p.1∧p.1<hi
  ·rw [if_pos hp,gu r]
   by_cases ho:lo≤o∧o<hi
   ·rw [if_pos ho,if_pos ho]
   ·rw [if_neg ho,if_neg ho]
    have:(o==p.1)=false:=by rw [beq_eq_false_iff_ne];rintro rfl;exact ho hp
    simp only [eH,this]
  ·rw [if_neg hp]
   by_cases e:o=p.1
   ·subst e;rw [if_neg hp];simp [eH]
   ·have:(o==p.1)=false:=by rw [beq_eq_false_iff_ne];exact e
    simp only [eH,this];exact gu r
theorem ow {d o:Nat} {v:aB}:∀ob:List (Nat×aB),(setO d v ob).lookup o=if o=d then(ob.lookup d).map (fun _=>v)else ob.lookup o
 |[]=>by simp [setO]
 |p::r=>by
  simp only [setO]
  by_cases hp:p.1=d
  ·rw [if_pos hp]
   by_cases e:o=d
   ·subst e;subst hp;simp [eH]
   ·have h1:(o==d)=false:=by rw [beq_eq_false_iff_ne];exact e
    have h2:(o==p.1)=false:=by rw [beq_eq_false_iff_ne,hp];exact e
    simp only [eH,h1,h2,if_neg e]
  ·rw [if_neg hp]
   by_cases e:o=p.1
   ·subst e;simp only [eH,beq_self_eq_true];rw [if_neg hp]
   ·have h2:(o==p.1)=false:=by rw [beq_eq_false_iff_ne];exact e
    simp only [eH,h2];rw [ow r];have h3:(d==p.1)=false:=by rw [beq_eq_false_iff_ne];exact fun h=>hp h.symm
    simp only [h3]
structure St.Fresh (s:St) (n:Nat):Prop where
 tm:n∉jk s.tm
 ob:∀o ob,s.look o=some ob→o≠n∧n∉ob.names
 tk:n∉s.tk
structure Eqv (s t:St):Prop where
 tm:s.tm=t.tm
 ob:∀o,s.look o=t.look o
 tk:∀n,n∈s.tk↔n∈t.tk
theorem Eqv.refl (s:St):Eqv s s:=⟨rfl,fun _=>rfl,fun _=>Iff.rfl⟩
theorem Eqv.symm {s t:St} (h:Eqv s t):Eqv t s:=⟨h.tm.symm,fun o=>(h.ob o).symm,fun n=>(h.tk n).symm⟩
theorem Eqv.trans {s t u:St} (h:Eqv s t) (k:Eqv t u):Eqv s u:=⟨h.tm.trans k.tm,fun o=>(h.ob o).trans (k.ob o),fun n=>(h.tk n).trans (k.tk n)⟩
theorem Eqv.fresh {s t:St} (h:Eqv s t) {n:Nat} (hf:s.Fresh n):t.Fresh n:=
 ⟨h.tm ▸ hf.tm,fun o ob ho=>hf.ob o ob (by rw [h.ob];exact ho),fun hn=>hf.tk ((h.tk n).2 hn)⟩
def Eff.num (e:Eff) (d:Option Nat):List Nat:=match e.new,e.tok with|none,false=> []|_,_=> [d.getD 0+100]
def Av (o:Nat):List (Nat×aB)→Option aB→Option aB
 |[],c=>c
 |p::r,c=>Av o r (if o=p.1 then c.map (fun _=>p.2)else c)
def Eff.look (e:Eff) (d:Option Nat) (o:Nat) (c:Option aB):Option aB:=
 match e.new,e.tok with
 |some v,_=>if o=d.getD 0+100 then some (v.purge (d.getD 0+100) (d.getD 0+100+1))else c
 |none,true=>c
 |none,false=>Av o e.wr c
def Eff.tks (e:Eff) (d:Option Nat) (t:Nat) (c:Prop):Prop:=
 match e.new,e.tok with
 |some _,_=>c
 |none,true=>t=d.getD 0+100∨(c∧t∉e.eat.ids)
 |none,false=>c
theorem C5 (o:Nat):∀(wr:List (Nat×aB)) (s:St),(s.wr wr).look o=Av o wr (s.look o)
 |[],_=>rfl
 |p::r,s=>by
  simp only [St.wr,Av];rw [C5 o r]
  congr 1
  simp only [St.look,St.setO];rw [ow];split
  ·rename_i e;rw [e]
  ·rfl
theorem rQ {o:Nat}:∀ {wr:List (Nat×aB)} {c:Option aB},o∉wr.map bv→Av o wr c=c
 |[],_,_=>rfl
 |p::r,c,h=>by simp only [aL,ao,not_or]at h;simp only [Av];rw [if_neg h.1];exact rQ h.2
theorem Eff.look_none {e:Eff} {d:Option Nat} {o:Nat} {c:Option aB} (h1:o∉e.wr.map bv) (h2:o∉e.num d):e.look d o c=c:=by
 unfold Eff.look;unfold Eff.num at h2;split
 ·rename_i v hv;simp only [hv,aV]at h2;rw [if_neg h2]
 ·rfl
 ·exact rQ h1
theorem Eff.tks_none {e:Eff} {d:Option Nat} {t:Nat} {c:Prop} (h1:t∉e.eat.ids) (h2:t∉e.num d):e.tks d t c↔c:=by
 unfold Eff.tks;unfold Eff.num at h2;split
 ·exact Iff.rfl
 ·rename_i hv ht;simp only [hv,ht,aV]at h2
  exact⟨fun h=>(h.resolve_left h2).1,fun h=> .inr ⟨h,h1⟩⟩
 ·exact Iff.rfl
theorem QL {d:Option Nat} {e:Eff} (hf:∀n∈e.num d,s.Fresh n):(s.app d e).tm=(s.put d e.val).tm:=by
 unfold Eff.num at hf;unfold St.app;split
 ·rename_i v hv
  simp only [hv,aV,forall_eq]at hf;cases d<;>simp only [St.put,St.addO,St.purge,km hf.tm]
 ·rename_i hv ht
  simp only [hv,ht,aV,forall_eq]at hf;cases d<;>simp only [St.put,St.grew,km hf.tm]
 ·cases d<;>simp only [St.put,ET]
theorem pS {n:Nat} (hf:s.Fresh n) (o:Nat):(bC n (n+1) s.ob).lookup o=s.look o:=by
 rw [gu];show _=s.ob.lookup o;split
 ·rename_i h
  have:o=n:=by omega
  subst this;cases hl:s.ob.lookup o with
  |none=>rfl
  |some ob=>exact absurd rfl (hf.ob o ob hl).1
 ·cases hl:s.ob.lookup o with
  |none=>rfl
  |some ob=>rw [bf,rk (hf.ob o ob hl).2]
theorem kJ (d:Option Nat) (v:SV) (o:Nat):(s.put d v).look o=s.look o:=by cases d<;>rfl
theorem re (d:Option Nat) (v:SV):(s.put d v).tk=s.tk:=by cases d<;>rfl
theorem wG {d:Option Nat} {e:Eff} (hf:∀n∈e.num d,s.Fresh n) (o:Nat):(s.app d e).look o=e.look d o (s.look o):=by
 unfold Eff.num at hf;unfold St.app Eff.look;split
 ·rename_i v hv
  simp only [hv,aV,forall_eq]at hf;simp only [hv];rw [kJ];simp only [St.addO,St.purge,St.look]
  by_cases e1:o=d.getD 0+100
  ·subst e1;simp [eH]
  ·have:(o==d.getD 0+100)=false:=by rw [beq_eq_false_iff_ne];exact e1
   simp only [eH,this,if_neg e1];exact pS hf o
 ·rename_i hv ht
  simp only [hv,ht,aV,forall_eq]at hf;simp only [hv,ht];rw [kJ];exact pS hf o
 ·rename_i hv ht
  simp only [hv,ht];rw [kJ,C5]
theorem To {t:Tok} {tk:List Nat} {n:Nat}:n∈t.eat tk↔n∈tk∧n∉t.ids:=by
 cases t with
 |id u=>simp only [Tok.eat,Tok.ids,bt,aV];constructor<;>rintro⟨h1,h2⟩<;>exact⟨h1,by omega⟩
 |_=>simp [Tok.eat,Tok.ids]
theorem QM {d:Option Nat} {e:Eff} (hf:∀n∈e.num d,s.Fresh n) (t:Nat):t∈(s.app d e).tk↔e.tks d t (t∈s.tk):=by
 unfold Eff.num at hf;unfold St.app Eff.tks;split
 ·rename_i v hv
  simp only [hv,aV,forall_eq]at hf;simp only [hv];rw [re];simp only [St.addO,St.purge,bt];constructor
  ·exact fun h=>h.1
  ·exact fun h=>⟨h,fun hh=>hf.tk (by
    have:t=d.getD 0+100:=by omega
    rw [←this];exact h)⟩
 ·rename_i hv ht
  simp only [hv,ht,aV,forall_eq]at hf;simp only [hv,ht];rw [re];simp only [St.grew,ao,bt,To];constructor
  ·rintro(h|h)
   ·exact .inl h
   ·exact .inr h.1
  ·rintro(h|h)
   ·exact .inl h
   ·exact .inr ⟨h,fun hh=>hf.tk (by
     have:t=d.getD 0+100:=by omega
     rw [←this];exact h.1)⟩
 ·rename_i hv ht
  simp only [hv,ht];rw [re,ET.2]
end Go.Sy
namespace Go.Sy
variable [ba]
variable {P : Program} {C : Ctx} {x : Sit} {s s' : St} {a : Act} {w : World}
theorem rP {o:Nat} {v:aB}:∀ {wr:List (Nat×aB)} {c:Option aB},Av o wr c=some v→c=some v∨(c.isSome=true∧(o,v)∈wr)
 |[],_,h=> .inl h
 |p::r,c,h=>by
  simp only [Av]at h;rcases rP h with h|⟨h1,h2⟩
  ·split at h
   ·rename_i e
    cases c with
    |none=>cases h
    |some c=>simp only [bf,av.injEq]at h;right;refine⟨rfl, ?_⟩;rw [←h,e];exact aA ..
   ·exact .inl h
  ·right
   refine⟨?_,au _ h2⟩;split at h1
   ·simpa using h1
   ·exact h1
theorem pQ {n:Nat} {p:Nat×aB}:∀ {l:List (Nat×aB)},p∈l→n∈p.2.names→n∈ji l
 |q::r,h,hn=>by
  simp only [ji,aj];rcases ao.1 h with h|h
  ·subst h;exact .inl hn
  ·exact .inr (pQ h hn)
theorem Eu {d:Option Nat} {e:Eff} (hf:∀n∈e.num d,s.Fresh n) {k:Nat} (hk:s.Fresh k) (h1:k∉e.num d) (h2:k∉e.names):(s.app d e).Fresh k:=by
 simp only [Eff.names,aj,not_or]at h2;refine⟨?_, ?_, ?_⟩
 ·rw [QL hf]
  cases d with
  |none=>exact hk.tm
  |some d=>exact fun h=>(pN h).elim hk.tm h2.1.1
 ·intro o ob ho
  rw [wG hf]at ho;unfold Eff.look at ho;split at ho
  ·rename_i v hv
   simp only [hv]at h2;split at ho
   ·rename_i e1
    simp only [av.injEq]at ho;refine⟨?_, ?_⟩
    ·intro hh
     apply h1;unfold Eff.num;rw [←hh,e1,hv];simp
    ·rw [←ho];exact fun h=>h2.2 (mg h).1
   ·exact hk.ob o ob ho
  ·exact hk.ob o ob ho
  ·rcases rP ho with h|⟨h3,h4⟩
   ·exact hk.ob o ob h
   ·refine⟨?_,fun h=>h2.1.2 (pQ h4 h)⟩
    obtain⟨c,hc⟩:=Option.isSome_iff_exists.1 h3;exact(hk.ob o c hc).1
 ·rw [QM hf]
  unfold Eff.tks;split
  ·exact hk.tk
  ·rename_i hv ht
   rintro(h|h)
   ·apply h1;unfold Eff.num;rw [hv,ht,h];simp
   ·exact hk.tk h.1
  ·exact hk.tk
theorem qI {o:Nat} {v:SV}:∀ {l:List SV},v∈l→o∈v.ids→o∈SV.idsL l
 |q::r,h,hn=>by
  simp only [SV.idsL,aj];rcases ao.1 h with h|h
  ·subst h;exact .inl hn
  ·exact .inr (qI h hn)
theorem tc {n:Nat} {ag:Bool} {v:SV} (h:∀o∈v.ids,s'.look o=s.look o):fM s' n ag v=fM s n ag v:=by
 cases v with
 |ptr o off=>simp only [fM,h o (by simp [SV.ids])]
 |ap o sz i j=>simp only [fM,h o (by simp [SV.ids])]
 |_=>rfl
theorem s6 {n:Nat} {v:List SV} {u:SV} (h:∀o∈u.ids,s'.look o=s.look o):ii s' n v u=ii s n v u:=by
 cases u with
 |ptr o off=>simp only [ii,h o (by simp [SV.ids])]
 |ap o sz i j=>simp only [ii,h o (by simp [SV.ids])]
 |_=>rfl
theorem lJ {u:SV} (h:∀o∈u.ids,s'.look o=s.look o):bytesOf s' u=bytesOf s u:=by
 cases u with
 |psl o sz off n c=>simp only [bytesOf,h o (by simp [SV.ids])]
 |_=>rfl
theorem me {sz:Nat} {u:SV} (h:∀o∈u.ids,s'.look o=s.look o):eL s' sz u=eL s sz u:=by
 cases u with
 |psl o sz off n c=>simp only [eL,h o (by simp [SV.ids])]
 |_=>rfl
theorem iw {l:Option Arg} {n:Int} (h:∀a∈l.toList,s'.ev a=s.ev a):hJ s' l n=hJ s l n:=by
 cases l with
 |none=>rfl
 |some a=>simp only [hJ,h a (by simp)]
theorem og {sz:Nat} {v:SV} {lo hi mx:Option Arg} (h1:∀a∈lo.toList,s'.ev a=s.ev a) (h2:∀a∈hi.toList,s'.ev a=s.ev a) (h3:∀a∈mx.toList,s'.ev a=s.ev a):iu s' sz v lo hi mx=iu s sz v lo hi mx:=by
 cases v<;>simp only [iu,iw h1,iw h2,iw h3]
theorem DA {so:SOp} (hev:∀a∈so.args,s'.ev a=s.ev a) (hl:∀o∈SV.idsL (so.args.map s.ev),s'.look o=s.look o):val s' so=val s so:=by
 have hl':∀a∈so.args,∀o∈(s.ev a).ids,s'.look o=s.look o:=fun a ha o ho=>hl o (qI (cX ha) ho)
 cases so with
 |build z ps=>
  simp only [val]
  congr 2
  apply cY;rintro⟨o,n,q⟩ hq;simp only [hev q (by simp only [SOp.args,aS];exact⟨_,hq,rfl⟩)]
 |lit sz xs=>simp only [val];rw [cY (l:=xs) (f:=s'.ev) (g:=s.ev) (fun a ha=>hev a ha)]
 |litB xs=>simp only [val];rw [cY (l:=xs) (f:=s'.ev) (g:=s.ev) (fun a ha=>hev a ha)]
 |mkfn f p q=>simp only [val];rw [cY (l:=p) (f:=s'.ev) (g:=s.ev) (fun a ha=>hev a (by simp [SOp.args,ha])),cY (l:=q) (f:=s'.ev) (g:=s.ev) (fun a ha=>hev a (by simp [SOp.args,ha]))]
 |load n ag p=>simp only [val,hev p (by simp [SOp.args])];exact tc (hl' p (by simp [SOp.args]))
 |slcS p lo hi=>
  simp only [val,hev p (by simp [SOp.args])];have h1:=fun n=>iw (s:=s) (s':=s') (l:=lo) (n:=n) (fun a ha=>hev a (by simp only [SOp.args,ao,aj];exact .inr (.inl ha)))
  have h2:=fun n=>iw (s:=s) (s':=s') (l:=hi) (n:=n) (fun a ha=>hev a (by simp only [SOp.args,ao,aj];exact .inr (.inr ha)))
  simp only [h1,h2]
 |slcL sz p lo hi mx=>simp only [val,hev p (by simp [SOp.args])];exact og (fun a ha=>hev a (by simp only [SOp.args,ao,aj];exact .inr (.inl (.inl ha)))) (fun a ha=>hev a (by simp only [SOp.args,ao,aj];exact .inr (.inl (.inr ha)))) (fun a ha=>hev a (by simp only [SOp.args,ao,aj];exact .inr (.inr ha)))
 |slcA len sz p lo hi mx=>
  simp only [val,hev p (by simp [SOp.args])];have:=fun v=>og (s:=s) (s':=s') (sz:=sz) (v:=v) (fun a ha=>hev a (by simp only [SOp.args,ao,aj];exact .inr (.inl (.inl ha)))) (fun a ha=>hev a (by simp only [SOp.args,ao,aj];exact .inr (.inl (.inr ha)))) (fun a ha=>hev a (by simp only [SOp.args,ao,aj];exact .inr (.inr ha)))
  simp only [this]
 |iaddrA len sz p i=>
  have h3:=hl' p (by simp [SOp.args]);simp only [val,hev p (by simp [SOp.args]),hev i (by simp [SOp.args])];split<;>try rfl
  rename_i o off n hp hi;rw [h3 o (by rw [hp];simp [SV.ids])]
 |b2s p=>
  have h3:=hl' p (by simp [SOp.args]);simp only [val,hev p (by simp [SOp.args])];cases hp:s.ev p with
  |psl o sz off n c=>simp only [uY];rw [h3 o (by rw [hp];simp [SV.ids])]
  |_=>rfl
 |mov p=>simp only [val,hev p (by simp [SOp.args])]
 |nchk p=>simp only [val,hev p (by simp [SOp.args])]
 |un _ p=>simp only [val,hev p (by simp [SOp.args])]
 |toInt _ p=>simp only [val,hev p (by simp [SOp.args])]
 |toStr p=>simp only [val,hev p (by simp [SOp.args])]
 |s2b p=>simp only [val,hev p (by simp [SOp.args])]
 |faddr _ p=>simp only [val,hev p (by simp [SOp.args])]
 |fld _ _ _ p=>simp only [val,hev p (by simp [SOp.args])]
 |isnil _ p=>rfl
 |isni _ p=>simp only [val,hev p (by simp [SOp.args])]
 |slid p=>rfl
 |newB p=>rfl
 |eqS _ _ p q=>simp only [val,hev p (by simp [SOp.args]),hev q (by simp [SOp.args])]
 |ovl p q=>rfl
 |ext p _=>simp only [val,hev p (by simp [SOp.args])]
 |len _ p=>simp only [val,hev p (by simp [SOp.args])]
 |cap p=>simp only [val,hev p (by simp [SOp.args])]
 |bin _ p q=>simp only [val,hev p (by simp [SOp.args]),hev q (by simp [SOp.args])]
 |beq _ p q=>simp only [val,hev p (by simp [SOp.args]),hev q (by simp [SOp.args])]
 |iaddrL _ p q=>simp only [val,hev p (by simp [SOp.args]),hev q (by simp [SOp.args])]
 |idxA _ _ _ p q=>simp only [val,hev p (by simp [SOp.args]),hev q (by simp [SOp.args])]
 |idxS p q=>simp only [val,hev p (by simp [SOp.args]),hev q (by simp [SOp.args])]
 |mini p q=>simp only [val,hev p (by simp [SOp.args]),hev q (by simp [SOp.args])]
 |maxi p q=>simp only [val,hev p (by simp [SOp.args]),hev q (by simp [SOp.args])]
 |_=>rfl
theorem oq {t:Tok} (h:∀u∈t.ids,(u∈s'.tk↔u∈s.tk)):t.ready s'=t.ready s:=by
 cases t with
 |id u=>have:=h u (by simp [Tok.ids]);simp only [Tok.ready,dn];exact decide_eq_decide.2 this
 |_=>rfl
theorem EG {d:Option Nat} {so:SOp} (hev:∀a∈so.args,s'.ev a=s.ev a) (hl:∀o∈SV.idsL (so.args.map s.ev),s'.look o=s.look o)
 (ht:∀e,eff s d so=some e→∀t∈e.eat.ids,(t∈s'.tk↔t∈s.tk)):eff s' d so=eff s d so:=by
 have hl':∀a∈so.args,∀o∈(s.ev a).ids,s'.look o=s.look o:=fun a ha o ho=>hl o (qI (cX ha) ho)
 have hv:=DA hev hl;cases so with
 |new o=>rfl
 |box p=>simp only [eff,hev p (by simp [SOp.args])]
 |mk z bytes n c=>simp only [eff,hev n (by simp [SOp.args]),hev c (by simp [SOp.args])]
 |mkB n c=>simp only [eff,hev n (by simp [SOp.args]),hev c (by simp [SOp.args])]
 |store n p q=>simp only [eff,hev p (by simp [SOp.args]),hev q (by simp [SOp.args]),s6 (hl' p (by simp [SOp.args]))]
 |appM _ _ _ _=>rfl
 |isnil _ _=>rfl
 |app sz bytes p q=>
  have hp:=hev p (by simp [SOp.args]);have hq:=hev q (by simp [SOp.args]);cases d with
  |none=>simp only [eff]
  |some d=>
   simp only [eff]at ht ⊢;rw [hp];cases hx:s.ev p with
   |byt l t=>
    simp only [hx]at ht ⊢;rw [hq,lJ (hl' q (by simp [SOp.args]))];cases hb:bytesOf s (s.ev q)with
    |none=>rfl
    |some r=>obtain⟨p1,l1⟩:=r;simp only [hb]at ht;rw [oq (ht _ rfl)]
   |lst sz' l t=>
    simp only [hx]at ht ⊢;rw [hq,me (hl' q (by simp [SOp.args]))];cases hb:eL s sz.length (s.ev q)with
    |none=>rfl
    |some r=>obtain⟨p1,l1⟩:=r;simp only [hb]at ht;rw [oq (ht _ rfl)]
   |_=>rfl
 |cpy sz p q=>
  have hp:=hev p (by simp [SOp.args]);have hq:=hev q (by simp [SOp.args]);simp only [eff];rw [hp,hq,lJ (hl' q (by simp [SOp.args])),me (hl' q (by simp [SOp.args]))];split<;>try rfl
  rename_i o sz' off n c hx;rw [hl' p (by simp [SOp.args]) o (by rw [hx];simp [SV.ids])]
 |pick _ _ _=>rfl
 |call _ _=>rfl
 |_=>simp only [eff];rw [hv]
theorem Ep {g:Nat} {as:List SV} {e:Eff} (h:mG P s g as e):e.new=none∧e.tok=false∧e.eat= .no:=by obtain⟨m,args,os,r,os',_,_,_,_,_,_,_,_,_,_,he⟩:=h;rw [he];exact⟨rfl,rfl,rfl⟩
theorem td {g:Nat} {as:List SV} {e:Eff} (h:mG P s g as e) (hl:∀o∈e.wr.map bv,s'.look o=s.look o):mG P s' g as e:=by
 obtain⟨m,args,os,r,os',h1,h2,h3,h4,h5,h6,h7,h8,h9,h10,he⟩:=h;refine⟨m,args,os,r,os',h1,h2,h3,h4,h5,h6,fun i hi=> ?_,h8,h9,h10,he⟩;rw [←h7 i hi];apply hl;rw [he];simp only;have:m.getD i 0∈m:=by rw [aa,ab (by omega)];exact aT _
 rw [List.map_fst_zip (by simp;omega)];exact this
def iR (P:Program) (i:SI) (o:Option Eff) (s:St):Prop:=
 match i.g,o with
 |none,some e=>eK P i s (fun e'=>e'=e)
 |some (g,b),some e=>s.get g= .bool b∧eK P i s (fun e'=>e'=e)
 |some (g,b),none=>s.get g= .bool (!b)
 |none,none=>False
def St.appO (s:St) (d:Option Nat):Option Eff→St
 |some e=>s.app d e
 |none=>s.put d .undef
def dy (s:St) (i:SI):Option Eff→eO
 |some e=>jo s i.op i.dst e
 |none=>fA
def o8 (d:Option Nat):Option Eff→List Nat
 |some e=>e.num d
 |none=> []
theorem od {i:SI} {e:Eff} (hev:∀a∈i.op.args,s'.ev a=s.ev a) (hl:∀o,o∈(jo s i.op i.dst e).l∨o∈(jo s i.op i.dst e).w→s'.look o=s.look o)
 (ht:∀t∈(jo s i.op i.dst e).t,(t∈s'.tk↔t∈s.tk)) (h:eK P i s (fun e'=>e'=e)):eK P i s' (fun e'=>e'=e):=by
 obtain⟨dst,g,op⟩:=i
 by_cases hp:∃c q r,op= .pick c q r
 ·obtain⟨c,q,r,rfl⟩:=hp
  simp only [eK]at h ⊢;rw [hev c (by simp [SOp.args]),hev q (by simp [SOp.args]),hev r (by simp [SOp.args])];exact h
 by_cases hc:∃f as,op= .call f as
 ·obtain⟨f,as,rfl⟩:=hc
  simp only [eK]at h ⊢;rw [hev f (by simp [SOp.args]),cY (f:=s'.ev) (g:=s.ev) (fun a ha=>hev a (by simp [SOp.args,ha]))];split at h<;>try (exact h.elim)
  rename_i g' c1 c2 hg;obtain⟨e',he,rfl⟩:=h
  skip
  exact⟨e',td he (fun o ho=>hl o (.inr ho)),rfl⟩
 have hE:∀s:St,eK P ⟨dst,g,op⟩ s (fun e'=>e'=e)=(match eff s dst op with|some e'=>e'.pre∧e'=e|none=>False):=by intro s;cases op<;>first|rfl|(exfalso;exact hp ⟨_,_,_,rfl⟩)|(exfalso;exact hc ⟨_,_,rfl⟩)
 rw [hE]at h ⊢;split at h<;>try (exact h.elim)
 rename_i e' he;obtain⟨h1,rfl⟩:=h
 by_cases hb:op.blind=true
 ·have:eff s' dst op=eff s dst op:=by
   cases op<;>first|(cases hb;done)|skip
   all_goals (simp only [eff,val];rw [hev _ (by simp [SOp.args])])
  rw [this,he];exact⟨h1,rfl⟩
 ·rw [EG hev (fun o ho=>hl o (.inl (by simp only [jo];rw [if_neg hb];exact ho))) (fun e2 he2 t ht2=>by
   rw [he]at he2;cases he2;exact ht t ht2),he]
  exact⟨h1,rfl⟩
theorem wj (s:St) (i:SI) (o:Option Eff):∀n∈(dy s i o).l,n∈(dy s i o).r:=by
 intro n hn;cases o with
 |none=>exact hn
 |some e=>
  simp only [dy,jo]at hn ⊢;split at hn
  ·simp at hn
  ·exact hn
theorem kr {i:SI} (h:∀k∈i.reads,s'.get k=s.get k):∀a∈i.op.args,s'.ev a=s.ev a:=by
 intro a ha;cases a with
 |t n=>refine h n ?_;simp only [SI.reads,aj,List.mem_flatMap];exact .inl ⟨_,ha,by simp [Arg.tmps]⟩
 |_=>rfl
theorem l6 {i:SI} {o:Option Eff} (h:∀k∈i.reads,s'.get k=s.get k):dy s' i o=dy s i o:=by
 cases o with
 |none=>rfl
 |some e=>simp only [dy,jo];rw [cY (f:=s'.ev) (g:=s.ev) (kr h)]
theorem ki {i:SI} {o:Option Eff} (hr:∀k∈i.reads,s'.get k=s.get k) (hl:∀q,q∈(dy s i o).l∨q∈(dy s i o).w→s'.look q=s.look q)
 (ht:∀t∈(dy s i o).t,(t∈s'.tk↔t∈s.tk)) (h:iR P i o s):iR P i o s':=by
 unfold iR at h ⊢;have hg:∀g b,i.g=some (g,b)→s'.get g=s.get g:=fun g b hg=>hr g (by simp [SI.reads,hg])
 split at h
 ·rename_i e hg0;exact od (kr hr) hl ht h
 ·rename_i g b e hg0
  exact⟨by rw [hg _ _ hg0];exact h.1,od (kr hr) hl ht h.2⟩
 ·rename_i g b hg0
  rw [hg _ _ hg0];exact h
 ·exact h.elim
theorem fS (s:St) (i:SI) (o:Option Eff):(dy s i o).n=o8 i.dst o:=by cases o<;>rfl
end Go.Sy
namespace Go.Sy
variable [ba]
variable {P : Program} {C : Ctx} {x : Sit} {s s' : St} {a : Act} {w : World}
def xpD:Option Eff→SV
 |some e=>e.val
 |none=> .undef
def EY (d:Option Nat) (q:Nat) (c:Option aB):Option Eff→Option aB
 |some e=>e.look d q c
 |none=>c
def E9 (d:Option Nat) (t:Nat) (c:Prop):Option Eff→Prop
 |some e=>e.tks d t c
 |none=>c
theorem jN {d:Option Nat} {o:Option Eff} (hf:∀n∈o8 d o,s.Fresh n):(s.appO d o).tm=(s.put d (xpD o)).tm:=by
 cases o with
 |none=>rfl
 |some e=>exact QL hf
theorem fC {d:Option Nat} {o:Option Eff} (hf:∀n∈o8 d o,s.Fresh n) (q:Nat):(s.appO d o).look q=EY d q (s.look q) o:=by
 cases o with
 |none=>exact kJ d _ q
 |some e=>exact wG hf q
theorem i6 {d:Option Nat} {o:Option Eff} (hf:∀n∈o8 d o,s.Fresh n) (t:Nat):t∈(s.appO d o).tk↔E9 d t (t∈s.tk) o:=by
 cases o with
 |none=>simp only [St.appO,re,E9]
 |some e=>exact QM hf t
theorem iC {i:SI} {o:Option Eff} (hf:∀n∈o8 i.dst o,s.Fresh n) {k:Nat} (hk:s.Fresh k) {u:St} (h1:k∉(dy u i o).n) (h2:k∉(dy u i o).m):(s.appO i.dst o).Fresh k:=by
 cases o with
 |none=>
  refine⟨?_,fun q ob h=>hk.ob q ob (by simpa [St.appO,kJ]using h),by simpa [St.appO,re]using hk.tk⟩;simp only [St.appO];cases hd:i.dst with
  |none=>exact hk.tm
  |some d=>exact fun h=>(pN h).elim hk.tm (by simp [SV.names,SV.ids,SV.toks])
 |some e=>exact Eu hf hk h1 h2
theorem jz {i:SI} {o:Option Eff} {q:Nat} {c:Option aB} {u:St} (h1:q∉(dy u i o).w) (h2:q∉(dy u i o).n):EY i.dst q c o=c:=by
 cases o with
 |none=>rfl
 |some e=>exact Eff.look_none h1 h2
theorem kQ {i:SI} {o:Option Eff} {t:Nat} {c:Prop} {u:St} (h1:t∉(dy u i o).t) (h2:t∉(dy u i o).n):E9 i.dst t c o↔c:=by
 cases o with
 |none=>exact Iff.rfl
 |some e=>exact Eff.tks_none h1 h2
theorem ir {d:Option Nat} {t:Nat} {c c':Prop} {o:Option Eff} (h:c↔c'):E9 d t c o↔E9 d t c' o:=by rw [propext h]
theorem SY {d:Option Nat} {v:SV} {k:Nat} (h:d≠some k):(s.put d v).get k=s.get k:=by
 cases d with
 |none=>rfl
 |some d=>simp only [St.put,St.get,aa];rw [List.getElem?_set_ne (by rintro rfl;exact h rfl)]
theorem wH {d:Option Nat} {o:Option Eff} (hf:∀n∈o8 d o,s.Fresh n) {k:Nat} (h:d≠some k):(s.appO d o).get k=s.get k:=by show(s.appO d o).tm.getD k _=_;rw [jN hf];exact SY h
theorem eR {p q:List Nat} (h:lX p q=false):∀n∈p,n∉q:=by
 intro n hn hq
 have:lX p q=true:=by unfold lX;rw [tj];exact⟨n,hn,by simpa using hq⟩
 rw [h]at this;cases this
structure RQ (p q:eO):Prop where
 ww:∀n∈p.w,n∉q.w
 wr:∀n∈p.w,n∉q.l
 rw:∀n∈q.w,n∉p.l
 tt:∀n∈p.t,n∉q.t
 n1:∀n∈p.n,n∉q.r∧n∉q.w∧n∉q.t∧n∉q.m∧n∉q.n
 n2:∀n∈q.n,n∉p.r∧n∉p.w∧n∉p.t∧n∉p.m
theorem xkB {p q:eO} (h:p.clash q=false):RQ p q:=by
 simp only [eO.clash,Bool.or_eq_false_iff]at h;obtain⟨⟨⟨⟨⟨h1,h2⟩,h3⟩,h4⟩,h5⟩,h6⟩:=h;refine⟨eR h1,eR h2,eR h3,eR h4,fun n hn=> ?_,fun n hn=> ?_⟩
 ·have:=eR h5 n hn
  simp only [aj,not_or]at this;exact⟨this.1.1.1.1,this.1.1.1.2,this.1.1.2,this.1.2,this.2⟩
 ·have:=eR h6 n hn
  simp only [aj,not_or]at this;exact⟨this.1.1.1,this.1.1.2,this.1.2,this.2⟩
theorem xpF {j i:SI} {oj oi:Option Eff} (hdj:∀d,j.dst=some d→d∉i.reads) (hdi:∀d,i.dst=some d→d∉j.reads) (hdd:∀d,j.dst=some d→i.dst≠some d)
 (hfj:∀n∈o8 j.dst oj,s.Fresh n) (hfi:∀n∈o8 i.dst oi,s.Fresh n)
 (hc:RQ (dy s j oj) (dy (s.appO j.dst oj) i oi)) (h1:iR P j oj s) (h2:iR P i oi (s.appO j.dst oj)):
 iR P i oi s∧dy s i oi=dy (s.appO j.dst oj) i oi∧iR P j oj (s.appO i.dst oi)∧dy (s.appO i.dst oi) j oj=dy s j oj∧
  Eqv ((s.appO j.dst oj).appO i.dst oi) ((s.appO i.dst oi).appO j.dst oj):=by
 have hri:∀k∈i.reads,s.get k=(s.appO j.dst oj).get k:=fun k hk=>(wH hfj (fun h=>hdj _ h hk)).symm
 have hrj:∀k∈j.reads,(s.appO i.dst oi).get k=s.get k:=fun k hk=>wH hfi (fun h=>hdi _ h hk)
 have f1:=l6 (o:=oi) hri;have f2:=l6 (o:=oj) hrj
 have hfi':∀n∈o8 i.dst oi,(s.appO j.dst oj).Fresh n:=by
  intro n hn;have hn':n∈(dy (s.appO j.dst oj) i oi).n:=by rw [fS];exact hn
  exact iC hfj (hfi n hn) (u:=s) (fun h=>(hc.n1 n h).2.2.2.2 hn') (hc.n2 n hn').2.2.2
 have hfj':∀n∈o8 j.dst oj,(s.appO i.dst oi).Fresh n:=by
  intro n hn;have hn':n∈(dy s j oj).n:=by rw [fS];exact hn
  exact iC hfi (hfj n hn) (u:=s.appO j.dst oj) (hc.n1 n hn').2.2.2.2 (hc.n1 n hn').2.2.2.1
 refine⟨ki hri ?_ ?_ h2,f1,ki hrj ?_ ?_ h1,f2, ?_, ?_, ?_⟩
 ·intro q hq
  rw [fC hfj];refine(jz (u:=s) ?_ ?_).symm
  ·rcases hq with hq|hq
   ·exact fun h=>hc.wr q h hq
   ·exact fun h=>hc.ww q h hq
  ·rcases hq with hq|hq
   ·exact fun h=>(hc.n1 q h).1 (wj _ _ _ _ hq)
   ·exact fun h=>(hc.n1 q h).2.1 hq
 ·intro t ht
  rw [i6 hfj];exact(kQ (u:=s) (fun h=>hc.tt t h ht) (fun h=>(hc.n1 t h).2.2.1 ht)).symm
 ·intro q hq
  rw [fC hfi];refine jz (u:=s.appO j.dst oj) ?_ ?_
  ·rcases hq with hq|hq
   ·exact fun h=>hc.rw q h hq
   ·exact fun h=>hc.ww q hq h
  ·rcases hq with hq|hq
   ·exact fun h=>(hc.n2 q h).1 (wj _ _ _ _ hq)
   ·exact fun h=>(hc.n2 q h).2.1 hq
 ·intro t ht
  rw [i6 hfi];exact kQ (u:=s.appO j.dst oj) (fun h=>hc.tt t ht h) (fun h=>(hc.n2 t h).2.2.1 ht)
 ·have key:∀(u:St) (d:Option Nat) (v:SV),(u.put d v).tm=(match d with|some d=>u.tm.set d v|none=>u.tm):=by
   intro u d v;cases d<;>rfl
  rw [jN hfi',jN hfj',key,key,jN hfj,jN hfi,key,key];cases hj:j.dst with
  |none=>rfl
  |some dj=>
   cases hi:i.dst with
   |none=>rfl
   |some di=>exact List.set_comm _ _ (by rintro rfl;exact hdd _ hj hi)
 ·intro q
  rw [fC hfi',fC hfj,fC hfj',fC hfi]
  by_cases hq:q∈(dy s j oj).w∨q∈(dy s j oj).n
  ·have h3:∀c,EY i.dst q c oi=c:=by
    intro c;refine jz (u:=s.appO j.dst oj) ?_ ?_
    ·rcases hq with hq|hq
     ·exact hc.ww q hq
     ·exact(hc.n1 q hq).2.1
    ·rcases hq with hq|hq
     ·exact fun h=>(hc.n2 q h).2.1 hq
     ·exact(hc.n1 q hq).2.2.2.2
   rw [h3,h3]
  ·have h3:∀c,EY j.dst q c oj=c:=fun c=>jz (u:=s) (fun h=>hq (.inl h)) (fun h=>hq (.inr h))
   rw [h3,h3]
 ·intro t
  rw [i6 hfi',i6 hfj'];rw [ir (i6 hfj t),ir (i6 hfi t)]
  by_cases hq:t∈(dy s j oj).t∨t∈(dy s j oj).n
  ·have h3:∀c,E9 i.dst t c oi↔c:=by
    intro c;refine kQ (u:=s.appO j.dst oj) ?_ ?_
    ·rcases hq with hq|hq
     ·exact hc.tt t hq
     ·exact(hc.n1 t hq).2.2.1
    ·rcases hq with hq|hq
     ·exact fun h=>(hc.n2 t h).2.2.1 hq
     ·exact(hc.n1 t hq).2.2.2.2
   rw [h3,ir (h3 _)]
  ·have h3:∀c,E9 j.dst t c oj↔c:=fun c=>kQ (u:=s) (fun h=>hq (.inl h)) (fun h=>hq (.inr h))
   exact(ir (h3 _)).trans (h3 _).symm
structure Itm where
 n:Nat
 i:SI
 o:Option Eff
 f:eO
def yy (P:Program):List Itm→St→St→Prop
 |[],s,t=>Eqv s t
 |it::r,s,t=>iR P it.i it.o s∧dy s it.i it.o=it.f∧yy P r (s.appO it.i.dst it.o) t
theorem GH {t:St} (h:Eqv s t) {d:Option Nat} {o:Option Eff} (hf:∀n∈o8 d o,s.Fresh n):Eqv (s.appO d o) (t.appO d o):=by
 have hf':∀n∈o8 d o,t.Fresh n:=fun n hn=>h.fresh (hf n hn)
 refine⟨?_,fun q=> ?_,fun n=> ?_⟩
 ·rw [jN hf,jN hf']
  cases d with
  |none=>exact h.tm
  |some d=>simp only [St.put];rw [h.tm]
 ·rw [fC hf,fC hf',h.ob]
 ·rw [i6 hf,i6 hf'];exact ir (h.tk n)
theorem DJ {t:St} (h:Eqv s t) {i:SI} {o:Option Eff} (hs:iR P i o s):iR P i o t∧dy t i o=dy s i o:=by
 have hg:∀k∈i.reads,t.get k=s.get k:=fun k _=>by unfold St.get;rw [h.tm]
 exact⟨ki hg (fun q _=>(h.ob q).symm) (fun n _=>(h.tk n).symm) hs,l6 hg⟩
def jq (r:List Itm) (s:St):Prop:=∀it∈r,∀n∈it.f.n,s.Fresh n
def At (r:List Itm):Prop:=r.Pairwise fun p q=>p.f.before q.f=true
theorem kx {p q:eO} (h:p.before q=true):∀n∈q.n,n∉p.n∧n∉p.m:=by intro n hn;simp only [eO.before,bZ]at h;have:=eR h n hn;simp only [aj,not_or]at this;exact⟨this.2,this.1.2⟩
theorem lD {it:Itm} {r:List Itm} (hN:jq (it::r) s) (hf:dy s it.i it.o=it.f) (hR:∀q∈r,it.f.before q.f=true):jq r (s.appO it.i.dst it.o):=by intro q hq n hn;obtain⟨h1,h2⟩:=kx (hR q hq) n hn;rw [←hf]at h1 h2;refine iC (fun k hk=>hN it (aA ..) k ?_) (hN q (au _ hq) n hn) h1 h2;rw [←hf,fS];exact hk
theorem vI:∀ {r:List Itm} {s s' t:St},Eqv s s'→jq r s→At r→yy P r s t→yy P r s' t
 |[],s,s',t,h,_,_,hr=>h.symm.trans hr
 |it::r,s,s',t,h,hN,hR,hr=>by obtain⟨h1,h2,h3⟩:=hr;obtain⟨h4,h5⟩:=DJ h h1;have hR':=bS.1 hR;refine⟨h4,h5.trans h2,vI (GH h fun n hn=>hN it (aA ..) n ?_) (lD hN h2 hR'.1) hR'.2 h3⟩;rw [←h2,fS];exact hn
structure xjV (j i:Itm):Prop where
 dj:∀d,j.i.dst=some d→d∉i.i.reads
 di:∀d,i.i.dst=some d→d∉j.i.reads
 dd:∀d,j.i.dst=some d→i.i.dst≠some d
 pc:RQ j.f i.f
theorem xeI {i:Itm}:∀ {pre post:List Itm} {s t:St},(∀j∈pre,xjV j i)→jq (pre++i::post) s→At (pre++i::post)→yy P (pre++i::post) s t→yy P (i::(pre++post)) s t
 |[],_,_,_,_,_,_,h=>h
 |j::pre,post,s,t,hF,hN,hR,h=>by
  obtain⟨h1,h2,h3⟩:=h;have hR':=bS.1 hR;have hN':=lD hN h2 hR'.1;obtain⟨h4,h5,h6⟩:=xeI (fun q hq=>hF q (au _ hq)) hN' hR'.2 h3;have hFj:=hF j (aA ..);have nj:∀n∈o8 j.i.dst j.o,s.Fresh n:=fun n hn=>hN j (by simp) n (by rw [←h2,fS];exact hn)
  have ni:∀n∈o8 i.i.dst i.o,s.Fresh n:=fun n hn=>hN i (by simp) n (by rw [←h5,fS];exact hn)
  obtain⟨k1,k2,k3,k4,k5⟩:=xpF hFj.dj hFj.di hFj.dd nj ni (by rw [h2,h5];exact hFj.pc) h1 h4;refine⟨k1,k2.trans h5,k3,k4.trans h2, ?_⟩
  have ni':jq (pre++post) ((s.appO j.i.dst j.o).appO i.i.dst i.o):=by
   intro q hq n hn
   have hb:n∉i.f.n∧n∉i.f.m:=by
    rcases aj.1 hq with hq|hq
    ·have hp:=(hF q (au _ hq)).pc.n1 n hn
     exact⟨hp.2.2.2.2,hp.2.2.2.1⟩
    ·have:=(dY.1 hR'.2).2.1
     exact kx ((bS.1 this).1 q hq) n hn
   rw [←h5]at hb
   refine iC (fun k hk=>hN' i (by simp) k (by rw [←h5,fS];exact hk)) (hN' q (by
    rcases aj.1 hq with hq|hq
    ·exact aj.2 (.inl hq)
    ·exact aj.2 (.inr (au _ hq))) n hn) hb.1 hb.2
  exact vI k5 ni' (hR'.2.sublist ((ka.refl pre).append (List.sublist_cons_self ..))) h6
end Go.Sy
