/- An engine that steps through Go code with symbolic values: sound by proof. No condition. -/
import Derived.Test.YtdafipacemgcoaaGreatDoorEa
import Derived.Laws.StructEq
import Derived.Laws.Externs
set_option linter.unusedVariables false
set_option linter.unusedSimpArgs false
set_option linter.unnecessarySimpa false
set_option linter.unusedSectionVars false
namespace Go.Sy
variable [LaidData]
variable {P : Program} {C : Ctx} {x : Sit} {s : St} {a : Act} {w : World} {o : Oper} {so : SOp} {p : Prop} {c : SV}
theorem isU8_inv {e:TypeId} (h:isU8 P e=true):P.underlying e=some (.int .u8):=by
 unfold isU8 at h;split at h
 ·assumption
 ·cases h
theorem u8_wrap (k:IntKind) (b:UInt8) (h1:k≠ .i8) (h2:k≠ .u8):k.wrap (b.toNat:Int)=b.toNat:=by have:=u8_lt b;cases k<;>simp [IntKind.wrap,IntKind.bits,IntKind.signed]at* <;>omega
theorem foldl_push (ns:List UInt8):∀(s:ByteArray),(ns.map fun b=>(b.toNat:Int)).foldl (fun r n=>r.push (UInt8.ofNat n.toNat)) s=⟨⟨s.data.toList++ns⟩⟩:=by
 induction ns with
 |nil=>intro s;simp
 |cons b r ih=>intro s;simp only [List.map_cons,List.foldl_cons];rw [ih];simp [ByteArray.push]
theorem run_b2s {bs:Value} {l:List UInt8} {src dst e:TypeId} (hs:P.underlying src=some (.slice e)) (he:P.underlying e=some (.int .u8)) (hd:P.underlying dst=some .string)
 (h:(bs= .slice none 0 0∧l=[])∨∃b off cap,bs= .slice (some ⟨b,off,none⟩) l.length cap∧∀i,i<l.length→w.cell? ⟨b,off+i,none⟩=some (.int .u8 (l.getD i 0).toNat)):
 (convert src dst bs).run P w= .ok (.string ⟨⟨l⟩⟩) w:=by
 rcases h with⟨rfl,rfl⟩|⟨b,off,cap,rfl,hc⟩
 ·rw [run_convert_bytes_string w src dst e _ _ _ hs he hd];rfl
 ·rw [run_convert_bytes_string w src dst e _ _ _ hs he hd]
  have hl:(loadCells ⟨b,off,none⟩ l.length).run P w= .ok ((l.map fun b=>(b.toNat:Int)).map (Value.int .u8)).toArray w:=by
   rw [run_loadCells w _ _ (fun i=> .int .u8 (l.getD i 0).toNat) (fun j hj=>by rw [addr_add];exact hc j hj)]
   congr 2
   apply List.ext_getElem?;intro i
   by_cases hi:i<l.length
   ·simp [hi,List.getD_eq_getElem?_getD]
   ·simp [hi]
  rw [run_bytesToString w _ _ _ _ hl,foldl_push];rfl
theorem heap_freeze_new (w:World) (cs:Array Value) (e:TypeId):((w.alloc (.cells cs e (0,0))).freeze ⟨w.heap.size,cs.size,none⟩ 1).heap=(w.alloc (.cells cs e (cs.size,cs.size+1))).heap:=by
 apply Array.ext_getElem?;intro i;simp only [World.freeze,Nat.one_ne_zero,if_false,World.alloc,Array.getElem?_modify,Array.getElem?_push]
 by_cases h:w.heap.size=i
 ·subst h;simp
 ·rw [if_neg h]
  have:¬i=w.heap.size:=fun e=>h e.symm
  simp [this]
theorem run_markStringish {b n:Nat} {e:TypeId} {off:Nat} (h:w.shape? b=some (e,n)):(markStringish ⟨b,off,none⟩).run P w= .ok () (w.freeze ⟨b,n,none⟩ 1):=by simp only [markStringish,Sem.run_bind,run_shape,Result.andThen_ok,h,run_freeze]
theorem val_convert (hM:Models C x s a w) {src dst:TypeId} {X:Operand} (ho:o.op= .convert src dst X) (hr:res1 P o=some so) (hv:val s so=some (p,c)) (hp:p):Done P C o a w (s.put o.dst c):=by
 have hex:execOp a.eval o=(do pure (.value (←convert src dst (a.eval X)))):=by simp only [execOp,ho]
 simp only [res1,ho]at hr;split at hr<;>try (cases hr;done)
 ·rename_i k0 k r hs hd hra
  cases hr;have h1:=resArg_rep hM hra;simp only [val]at hv;obtain⟨c',hc',he⟩:=Option.map_eq_some_iff.1 hv;simp only [Prod.mk.injEq]at he;obtain⟨_,rfl⟩:=he
  have run:∀k1 n,a.eval X= .int k1 n→(convert src dst (a.eval X)).run P w= .ok (.int k (k.wrap n)) w:=by intro k1 n he;rw [he];simp [convert,run_underlying hs,run_underlying hd,Conv.intToInt]
  cases hu:s.ev r with
  | int k1 n=>
   rw [hu]at hc' h1;refine Done.val hM hex (run k1 n h1.int_inv) ?_
   cases k<;>simp only [toIntSV,Option.some.injEq]at hc'<;>subst hc'<;>first
    |exact rep_int _ _
    |(rw [wrap_u8,←ofInt_toNat];exact rep_u8 _)
  | u8 b=>
   rw [hu]at hc' h1;refine Done.val hM hex (run .u8 b.toNat h1.u8_inv) ?_
   cases k<;>simp only [toIntSV,Option.some.injEq,reduceCtorEq]at hc'<;>subst hc'<;>first
    |(rw [u8_wrap _ _ (by decide) (by decide)];exact rep_int _ _)
    |(rw [wrap_u8,Int.emod_eq_of_lt (by omega) (by have:=u8_lt b;omega)];exact rep_u8 _)
  |_=>rw [hu]at hc';simp [toIntSV]at hc'
 ·rename_i r hs hd hra
  cases hr;have h1:=resArg_rep hM hra;simp only [val]at hv;cases hu:s.ev r with
  |str l=>rw [hu]at hv h1;simp only [Option.some.injEq,Prod.mk.injEq]at hv;obtain⟨_,rfl⟩:=hv;refine Done.val hM hex (u:= .string ⟨⟨l⟩⟩) ?_ (rep_str _);rw [h1.str_inv];simp [convert,run_underlying hs,run_underlying hd]
  |_=>rw [hu]at hv;simp at hv
 ·rename_i e r hs hd hra
  split at hr<;>try (cases hr;done)
  rename_i h8;have he:=isU8_inv h8;cases hr;have h1:=resArg_rep hM hra;simp only [val]at hv;cases hu:s.ev r with
  | byt l tk=>
   rw [hu]at hv h1;simp only [b2sSV,Option.some.injEq,Prod.mk.injEq]at hv;obtain⟨_,rfl⟩:=hv;refine Done.val hM hex (run_b2s hs he hd ?_) (rep_str _);have hD:=h1.data rfl;cases hXv:a.eval X with
   |slice ad n cp=>
    rw [hXv]at hD;cases hD with
    |bytN=>exact .inl ⟨rfl,rfl⟩
    |byt _ _ b off _ _ hn hc hg=>subst hn;exact .inr ⟨b,off,cp,rfl,fun i hi=>hM.heap.per _ _ _ (hg i hi)⟩
   |_=>rw [hXv]at hD;cases hD
  | psl o' sz off n cp=>
   rw [hu]at hv h1;simp only [b2sSV]at hv;cases hl:s.look o' with
   |none=>simp [hl]at hv
   | some obj=>
    cases obj with
    | bar l=>
     simp only [hl,Option.some.injEq,Prod.mk.injEq]at hv;obtain⟨rfl,rfl⟩:=hv;obtain⟨hp0,hp1⟩:=hp;obtain⟨cp,hnc,_,off',he',hoff⟩:=h1.psl_inv;have hlen:((l.drop off).take n).length=n:=by simp;omega
     refine Done.val hM hex (run_b2s hs he hd (.inr ⟨x.β o',off',cp,by rw [hlen];exact he',fun i hi=> ?_⟩)) (rep_str _);rw [hlen]at hi
     have hoff':off'=off:=by
      rcases hoff with h|h
      ·omega
      ·rw [hp0,Nat.mul_one]at h;exact h
     subst hoff';obtain⟨v,h2,h3⟩:=(look_obj hM hl).cell (k:=off'+i) (by simp only [SObj.size];omega);rw [h2];have h4:RepD x.G (.u8 (l.getD (off'+i) 0)) v:=h3;cases h4;simp only [List.getD_eq_getElem?_getD,List.getElem?_take,if_pos hi,List.getElem?_drop]
    |_=>simp [hl]at hv
  |_=>rw [hu]at hv;simp [b2sSV]at hv
 ·rename_i e r hs hd hra
  split at hr<;>try (cases hr;done)
  rename_i h8;have he:=isU8_inv h8;cases hr;have h1:=resArg_rep hM hra;simp only [val]at hv;cases hu:s.ev r with
  | str l=>
   rw [hu]at hv h1;simp only [Option.some.injEq,Prod.mk.injEq]at hv;obtain⟨_,rfl⟩:=hv;have hf:(Question.appendCap (ByteArray.mk ⟨l⟩).size 0 e).forced=false:=rfl
   obtain⟨cp,hcp,hge⟩:∃cp,(Question.appendCap (ByteArray.mk ⟨l⟩).size 0 e).cut (w.tape w.drawn (Question.appendCap (ByteArray.mk ⟨l⟩).size 0 e))=cp∧l.length≤cp:=by
    refine⟨_,rfl, ?_⟩;simp only [Question.cut];have:(ByteArray.mk ⟨l⟩).size=l.length:=by simp [ByteArray.size]
    omega
   let cs:Array Value:=(ByteArray.mk ⟨l⟩).data.map (fun b=> .int .u8 b.toNat)++Array.replicate (cp-(ByteArray.mk ⟨l⟩).size) (.int .u8 0)
   have hsz:(ByteArray.mk ⟨l⟩).size=l.length:=by simp [ByteArray.size]
   have hcs:cs.size=cp:=by simp [cs,hsz];omega
   have hget:∀i,i<l.length→cs[i]? =some (.int .u8 (l.getD i 0).toNat):=by intro i hi;simp only [cs];rw [Array.getElem?_append_left (by simpa using hi)];simp [hi,List.getD_eq_getElem?_getD]
   have hw:∀w0:World,((w0.alloc (.cells cs e (0,0))).freeze ⟨w0.heap.size,cs.size,none⟩ 1).heap=(w0.alloc (.cells cs e (cs.size,cs.size+1))).heap:=fun w0=>heap_freeze_new w0 cs e
   refine Done.grow (x':=x.newD w.heap.size cs l.length) (w':=((w.drew.alloc (.cells cs e (0,0))).freeze ⟨w.heap.size,cs.size,none⟩ 1)) hM hex (u:= .slice (some ⟨w.heap.size,0,none⟩) l.length cp) ?_ (hM.heap.newD_le cs l.length) rfl rfl ?_ ?_
   ·rw [h1.str_inv]
    simp only [convert,Sem.run_bind,run_underlying hs,run_underlying hd,Result.andThen_ok,run_underlying he,Conv.stringToBytes,run_choose_drew,hf,Bool.false_eq_true,if_false,hcp,newRow,run_newObj_alloc,Sem.run_pure];rw [run_markStringish (e:=e) (n:=cs.size) (by simp only [World.shape?];rw [heap_alloc_new])];simp only [Result.andThen_ok,hsz];rfl
   ·refine Heap.congr (w:=(w.drew.alloc (.cells cs e (cs.size,cs.size+1)))) ?_ (hw w.drew) rfl rfl rfl
    exact hM.heap.drew.allocD l.length
   ·refine .dat _ _ (.byt l .no w.heap.size 0 cp l.length rfl hge fun i hi=> ?_) trivial
    simp only [Sit.newD];rw [if_pos ⟨trivial,by omega⟩,Nat.zero_add];exact hget i hi
  |_=>rw [hu]at hv;simp at hv
 ·split at hr<;>try (cases hr;done)
  cases hr;simp only [val]at hv;cases hv
end Go.Sy
namespace Go.Sy
variable [LaidData]
variable {P : Program} {C : Ctx} {x : Sit} {s : St} {a : Act} {w : World} {o : Oper} {so : SOp} {p : Prop} {c : SV}
theorem zeroValue_run {t:TypeId} {vs:List Value} (h:zcells P t=some vs):∃z:Value,z.cells.toList=vs∧∀w:World,(zeroValue t).run P w= .ok z w:=by
 unfold zcells at h;cases hi:P.info? t with
 |none=>simp [hi]at h
 |some i=>simp only [hi,Option.bind_some]at h;obtain⟨z,hz,rfl⟩:=Option.map_eq_some_iff.1 h;exact⟨z,rfl,fun w=>by simp [zeroValue,run_typeInfo w hi,hz]⟩
theorem isAll_rep {cs:List SV} {vs:List Value} (h:isAll cs vs=true):RepL x cs vs:=by unfold isAll at h;simp only [Bool.and_eq_true,decide_eq_true_eq,List.all_eq_true,List.mem_range]at h;exact⟨h.1,fun i hi=>svIs_Rep (h.2 i hi)⟩
theorem zeros_inv {t:TypeId} {cs:List SV} (h:zeros P t=some cs):∃vs,zcells P t=some vs∧RepL x cs vs:=by
 unfold zeros at h;cases hz:zcells P t with
 |none=>simp [hz]at h
 | some vs=>
  simp only [hz,Option.bind_some]at h;cases hc:zipCv P (cellTys P 30 t) vs with
  |none=>simp [hc]at h
  |some r=>
   simp only [hc,Option.bind_some]at h;split at h
   ·rename_i ha;simp at h;subst h;exact⟨vs,rfl,isAll_rep ha⟩
   ·cases h
theorem zeros_data {t:TypeId} {cs:List SV} (h:zeros P t=some cs):∃vs,zcells P t=some vs∧cs.length=vs.length∧∀(G:GM) i,i<cs.length→RepD G (cs.getD i .undef) (vs.getD i Go.undef):=by
 unfold zeros at h;cases hz:zcells P t with
 |none=>simp [hz]at h
 | some vs=>
  simp only [hz,Option.bind_some]at h;cases hc:zipCv P (cellTys P 30 t) vs with
  |none=>simp [hc]at h
  | some r=>
   simp only [hc,Option.bind_some]at h;split at h
   ·rename_i ha;simp at h;subst h
    unfold isAll at ha;simp only [Bool.and_eq_true,decide_eq_true_eq,List.all_eq_true,List.mem_range]at ha;exact⟨vs,rfl,ha.1,fun G i hi=>svIs_rep (ha.2 i hi)⟩
   ·cases h
theorem Rep.cells {v:SV} {u:Value} (h:Rep x v u) (hd:v.isDef=true):RepL x v.cells u.cells.toList:=by
 have one:∀ {v:SV} {u:Value},Rep x v u→v.cells=[v]→u.cells= #[u]→RepL x v.cells u.cells.toList:=by
  intro v u h h1 h2;rw [h1,h2]
  exact ⟨rfl, fun i hi => by obtain rfl:i=0:=by simpa using hi
                             exact h⟩
 cases h with
 |undef=>simp [SV.isDef]at hd
 |agg cs vs hl hh=>exact⟨hl,hh⟩
 |dat s v h ht=>exact one (.dat _ _ h ht) (by cases h<;>rfl) (by cases h<;>rfl)
 |ptr o off=>exact one (.ptr o off) rfl rfl
 |ap o sz i j=>exact one (.ap o sz i j) rfl rfl
 |psl o sz off n cap off' cap' h hn hc=>exact one (.psl o sz off n cap off' cap' h hn hc) rfl rfl
 |tup cs vs hl hh=>exact one (.tup cs vs hl hh) rfl rfl
 |fn f a b u v h1 h2 h3 h4=>exact one (.fn f a b u v h1 h2 h3 h4) rfl rfl
theorem splice_get {α:Type} (cs v:List α) (q i:Nat) (h:q+v.length≤cs.length):(cs.take q++v++cs.drop (q+v.length))[i]? =if q≤i∧i<q+v.length then v[i-q]? else cs[i]? :=by
 simp only [List.getElem?_append,List.length_append,List.length_take,List.getElem?_take,List.getElem?_drop];have e2:min q cs.length=q:=Nat.min_eq_left (by omega);rw [e2]
 by_cases h1:i<q
 ·rw [if_pos (by omega),if_pos h1,if_pos h1,if_neg (by omega)]
 ·by_cases h3:i<q+v.length
  ·rw [if_pos h3,if_neg h1,if_pos ⟨by omega,h3⟩]
  ·rw [if_neg h3,if_neg (by omega)];congr 1;omega
theorem foldl_get (off:Nat) (v:List Value):∀(cs:Array Value) (k i:Nat),off+k+v.length≤cs.size→
 ((v.zipIdx k).foldl (fun cs (c,j)=>cs.setIfInBounds (off+j) c) cs)[i]? =if off+k≤i∧i<off+k+v.length then v[i-(off+k)]? else cs[i]? :=by
 induction v with
 |nil=>intro cs k i hk;rw [if_neg (by simp only [List.length_nil];omega)];rfl
 | cons u r ih=>
  intro cs k i hk;simp only [List.length_cons]at hk;simp only [List.zipIdx_cons,List.foldl_cons];rw [ih _ (k+1) i (by simp;omega)];simp only [List.length_cons,Array.getElem?_setIfInBounds]
  by_cases h2:off+k=i
  ·subst h2
   rw [if_neg (by omega),if_pos rfl,if_pos (by omega),if_pos (by omega)];simp
  ·by_cases h3:off+(k+1)≤i∧i<off+(k+1)+r.length
   ·rw [if_pos h3,if_pos (by omega),show i-(off+k)=(i-(off+(k+1)))+1 from by omega]
    simp
   ·rw [if_neg h3,if_neg h2,if_neg (by omega)]
theorem foldl_put (cs:Array Value) (off:Nat) (v:List Value) (h:off+v.length≤cs.size):
 (v.zipIdx.foldl (fun cs (c,j)=>cs.setIfInBounds (off+j) c) cs).toList=cs.toList.take off++v++cs.toList.drop (off+v.length):=by
 apply List.ext_getElem?;intro i;rw [splice_get _ _ _ _ (by simpa using h)];have:=foldl_get off v cs 0 i (by simpa using h);simpa using this
theorem RepL.append {c1 c2:List SV} {v1 v2:List Value} (h1:RepL x c1 v1) (h2:RepL x c2 v2):RepL x (c1++c2) (v1++v2):=by
 refine⟨by simp [h1.1,h2.1],fun i hi=> ?_⟩;simp only [List.getD_eq_getElem?_getD,List.getElem?_append]
 by_cases h:i<c1.length
 ·rw [if_pos h,if_pos (by rw [←h1.1];exact h)]
  simpa only [List.getD_eq_getElem?_getD]using h1.2 i h
 ·rw [if_neg h,if_neg (by rw [←h1.1];exact h),h1.1]
  have:=h2.get (i-v1.length);simpa only [List.getD_eq_getElem?_getD]using this
theorem RepL.take {c1:List SV} {v1:List Value} (h1:RepL x c1 v1) (n:Nat):RepL x (c1.take n) (v1.take n):=by
 refine⟨by simp [h1.1],fun i hi=> ?_⟩;have hi':i<n∧i<c1.length:=by simp only [List.length_take]at hi;omega
 simp only [List.getD_eq_getElem?_getD,List.getElem?_take,if_pos hi'.1];simpa only [List.getD_eq_getElem?_getD]using h1.2 i hi'.2
theorem RepL.drop {c1:List SV} {v1:List Value} (h1:RepL x c1 v1) (n:Nat):RepL x (c1.drop n) (v1.drop n):=by refine⟨by simp [h1.1],fun i hi=> ?_⟩;simp only [List.getD_eq_getElem?_getD,List.getElem?_drop];have:=h1.get (n+i);simpa only [List.getD_eq_getElem?_getD]using this
theorem fill_sound (hM:Models C x s a w) (place:Nat→Option (Nat×Nat)):∀(ps:List (Nat×Operand)) (qs:List (Nat×Nat×Arg)) (cs:List SV) (vs:Array Value) (r:List SV),RepL x cs vs.toList→
 qs.length=ps.length→(∀i (h:i<ps.length) (h':i<qs.length),place ps[i].1=some (qs[i].1,qs[i].2.1)∧∃t,resArg P t ps[i].2=some qs[i].2.2)→
 fillSV cs (qs.map fun(o,n,y)=>(o,n,s.ev y))=some r→∃us,Instr.fill place vs (ps.map fun(i,y)=>(i,a.eval y))=some us∧RepL x r us.toList:=by
 intro ps;induction ps with
 |nil=>
  intro qs cs vs r h hl _ hf;have:qs=[]:=by simpa using hl
  subst this;simp only [List.map_nil,fillSV,Option.some.injEq]at hf;subst hf;exact⟨vs,rfl,h⟩
 | cons q ps ih=>
  intro qs cs vs r h hl hpl hf;cases qs with
  |nil=>simp at hl
  | cons q' qs=>
   obtain⟨qo,qn,qy⟩:=q';obtain⟨h0,t,ht⟩:=hpl 0 (by simp) (by simp);simp only [List.getElem_cons_zero]at h0 ht;have hrep:=resArg_rep hM ht;simp only [List.map_cons,fillSV]at hf;split at hf<;>try (cases hf;done)
   rename_i hc;obtain⟨hc0,hc1,hc2⟩:=hc;have hL:=hrep.cells hc0;have hsz:(a.eval q.2).cells.size=qn:=by rw [←hc1,←Array.length_toList];exact hL.1.symm
   have hvs:vs.size=cs.length:=by rw [←Array.length_toList];exact h.1.symm
   simp only [List.map_cons,Instr.fill,h0];rw [if_neg (by simp [hsz];omega)];refine ih qs _ _ r ?_ (by simpa using hl) (fun i h h'=> ?_) hf
   ·rw [←Array.foldl_toList,Array.toList_zipIdx,foldl_put _ _ _ (by rw [Array.length_toList];omega)]
    have e1:(a.eval q.2).cells.toList.length=qn:=by simpa using hsz
    rw [e1];exact((h.take _).append hL).append (h.drop _)
   ·have:=hpl (i+1) (by simpa using h) (by simpa using h')
    simpa using this
theorem mapO_get {α β:Type} {f:α→Option β}:∀ {l:List α} {r:List β},mapO f l=some r→r.length=l.length∧∀i (h:i<l.length) (h':i<r.length),f l[i]=some r[i]:=by
 intro l;induction l with
 |nil=>intro r h;simp only [mapO]at h;cases h;exact⟨rfl,fun i h=>by simp at h⟩
 |cons q l ih=>
  intro r h;simp only [mapO]at h;split at h<;>try (cases h;done)
  rename_i b r' hb hr';cases h;obtain⟨h1,h2⟩:=ih hr';refine⟨by simp [h1],fun i h h'=> ?_⟩;cases i with
  |zero=>simpa using hb
  |succ i=>simpa using h2 i (by simpa using h) (by simpa using h')
theorem run_mapM_fields (fs:Array Field) (h:∀f∈fs.toList,(P.info? f.type).isSome=true) (w:World):
 (fs.mapM fun f=>do pure (f.offset,←sizeOf f.type):Sem (Array (Nat×Nat))).run P w= .ok (fs.toList.map fun f=>(f.offset,(szOf P f.type).getD 0)).toArray w:=by
 rw [Array.mapM_eq_mapM_toList]
 have:∀l:List Field,(∀f∈l,(P.info? f.type).isSome=true)→(l.mapM fun f=>do pure (f.offset,←sizeOf f.type):Sem (List (Nat×Nat))).run P w= .ok (l.map fun f=>(f.offset,(szOf P f.type).getD 0)) w:=by
  intro l;induction l with
  |nil=>intro _;rfl
  |cons f l ih=>
   intro h;have hf:=h f (by simp);obtain⟨i,hi⟩:=Option.isSome_iff_exists.1 hf;have hs:szOf P f.type=some i.size:=by simp [szOf,hi]
   simp only [List.mapM_cons,Sem.run_bind,szOf_run hs,Result.andThen_ok,Sem.run_pure,ih (fun g hg=>h g (List.mem_cons_of_mem _ hg)),List.map_cons,hs,Option.getD_some]
 rw [Sem.run_map,this _ h];rfl
theorem val_build (hM:Models C x s a w) {t:TypeId} {parts:Array (Nat×Operand)} (ho:o.op= .build t parts) (hr:res1 P o=some so) (hv:val s so=some (p,c)):Done P C o a w (s.put o.dst c):=by
 have hex:execOp a.eval o=(do pure (.value (←Instr.build t (parts.map fun(i,y)=>(i,a.eval y))))):=by simp only [execOp,ho]
 simp only [res1,ho]at hr;split at hr<;>try (cases hr;done)
 ·rename_i fs z hd hz
  split at hr<;>try (cases hr;done)
  rename_i hall;obtain⟨qs,hqs,rfl⟩:=Option.map_eq_some_iff.1 hr;obtain⟨vs,hzv,hL⟩:=zeros_inv hz;obtain⟨zv,hzc,hzr⟩:=zeroValue_run hzv;obtain⟨hql,hqg⟩:=mapO_get hqs;simp only [val]at hv;obtain⟨r,hf,he⟩:=Option.map_eq_some_iff.1 hv;simp only [Prod.mk.injEq]at he;obtain⟨_,rfl⟩:=he;have hall':∀f∈fs.toList,(P.info? f.type).isSome=true:=List.all_eq_true.1 hall
  obtain⟨us,hus,hur⟩:=fill_sound hM (fun i=>(fs.toList.map fun f=>(f.offset,(szOf P f.type).getD 0)).toArray[i]?) parts.toList qs z zv.cells r (by rw [hzc];exact hL) hql (by
   intro i h h';have:=hqg i h h';generalize parts.toList[i]=pi at*;generalize qs[i]=qi at*;cases hfi:fs[pi.1]? with
   |none=>simp [hfi]at this
   | some f=>
    simp only [hfi]at this;cases hn:szOf P f.type with
    |none=>simp [hn]at this
    | some n=>
     cases har:resArg P f.type pi.2 with
     |none=>simp [hn,har]at this
     |some ar=>
      simp only [hn,har,Option.some.injEq]at this;rw [←this];refine⟨?_,f.type,har⟩;have hfi':fs.toList[pi.1]? =some f:=by simpa using hfi
      simp [hfi',hn]) hf
  refine Done.val hM hex (u:= .agg us) ?_ ?_
  ·have hpl:(parts.map fun(i,y)=>(i,a.eval y)).toList=parts.toList.map fun(i,y)=>(i,a.eval y):=by simp
   simp only [Instr.build,Sem.run_bind,hzr,Result.andThen_ok,run_underlying hd,run_mapM_fields fs hall',hpl];rw [hus];rfl
  ·obtain⟨us⟩:=us
   exact .agg _ _ hur.1 hur.2
 ·rename_i k e z hd hz
  split at hr<;>try (cases hr;done)
  rename_i n hn;obtain⟨qs,hqs,rfl⟩:=Option.map_eq_some_iff.1 hr;obtain⟨vs,hzv,hL⟩:=zeros_inv hz;obtain⟨zv,hzc,hzr⟩:=zeroValue_run hzv;obtain⟨hql,hqg⟩:=mapO_get hqs;simp only [val]at hv;obtain⟨r,hf,he⟩:=Option.map_eq_some_iff.1 hv;simp only [Prod.mk.injEq]at he;obtain⟨_,rfl⟩:=he
  obtain⟨us,hus,hur⟩:=fill_sound hM (fun i=>some (i*n,n)) parts.toList qs z zv.cells r (by rw [hzc];exact hL) hql (fun i h h'=>by have:=hqg i h h';obtain⟨ar,har,he⟩:=Option.map_eq_some_iff.1 this;rw [←he];exact⟨rfl,e,har⟩) hf
  refine Done.val hM hex (u:= .agg us) ?_ ?_
  ·have hpl:(parts.map fun(i,y)=>(i,a.eval y)).toList=parts.toList.map fun(i,y)=>(i,a.eval y):=by simp
   simp only [Instr.build,Sem.run_bind,hzr,Result.andThen_ok,run_underlying hd,szOf_run hn,hpl];rw [hus];rfl
  ·obtain⟨us⟩:=us
   exact .agg _ _ hur.1 hur.2
end Go.Sy
namespace Go.Sy
variable [LaidData]
variable {P : Program} {C : Ctx} {x : Sit} {s : St} {a : Act} {w : World} {o : Oper} {so : SOp} {p : Prop} {c : SV}
theorem fill_rows (n:Nat):∀(us:List Value) (k:Nat) (vs:Array Value),(∀u∈us,u.cells.size=n)→(k+us.length)*n≤vs.size→
 ∃r,Instr.fill (fun i=>some (i*n,n)) vs ((us.zipIdx k).map fun q=>(q.2,q.1))=some r∧r.toList=vs.toList.take (k*n)++(us.flatMap fun u=>u.cells.toList)++vs.toList.drop ((k+us.length)*n):=by
 intro us;induction us with
 |nil=>intro k vs _ _;exact⟨vs,rfl,by simp⟩
 | cons u us ih=>
  intro k vs hu hs;have h0:=hu u (by simp);have e0:(k+(u::us).length)*n=k*n+n+us.length*n:=by simp only [List.length_cons,Nat.add_mul,Nat.succ_mul];omega
  have e1:(k+1)*n=k*n+n:=Nat.succ_mul k n;rw [e0]at hs;have hput:=foldl_put vs (k*n) u.cells.toList (by rw [Array.length_toList,h0];omega);rw [Array.length_toList,h0]at hput
  obtain⟨r,hr,hl⟩:=ih (k+1) (u.cells.toList.zipIdx.foldl (fun cs (c,j)=>cs.setIfInBounds (k*n+j) c) vs) (fun q hq=>hu q (List.mem_cons_of_mem _ hq)) (by rw [←Array.length_toList,hput];simp only [List.length_append,List.length_take,List.length_drop,Array.length_toList,h0];rw [Nat.add_mul,e1];omega)
  refine⟨r, ?_, ?_⟩
  ·simp only [List.zipIdx_cons,List.map_cons,Instr.fill]
   rw [if_neg (by simp [h0];omega)];rw [←Array.foldl_toList,Array.toList_zipIdx];exact hr
  ·rw [hl,hput,e1,e0]
   have e2:(k+1+us.length)*n=k*n+n+us.length*n:=by rw [Nat.add_mul,e1]
   rw [e2];have l1:(vs.toList.take (k*n)++u.cells.toList).length=k*n+n:=by simp [h0];omega
   rw [List.take_append_of_le_length (by rw [l1];exact Nat.le_refl _),List.take_of_length_le (by rw [l1];exact Nat.le_refl _),List.drop_append,List.drop_eq_nil_of_le (by rw [l1];omega),l1,List.drop_drop];simp only [List.flatMap_cons,List.nil_append,List.append_assoc]
   congr 3
   congr 1;omega
theorem rows_inv {n:Nat}:∀ {vs:List SV} {r:List (List SV)},rows n vs=some r→r.length=vs.length∧∀i,i<vs.length→(vs.getD i .undef).isDef=true∧(vs.getD i .undef).cells.length=n∧
 (∀z∈(vs.getD i .undef).cells,z.isData=true)∧r.getD i []=(vs.getD i .undef).cells.map SV.data:=by
 intro vs;induction vs with
 |nil=>intro r h;simp only [rows,Option.some.injEq]at h;subst h;exact⟨rfl,fun i hi=>by simp at hi⟩
 |cons v vs ih=>
  intro r h;simp only [rows]at h;split at h<;>try (cases h;done)
  rename_i hc;obtain⟨r',hr',rfl⟩:=Option.map_eq_some_iff.1 h;obtain⟨h1,h2⟩:=ih hr';refine⟨by simp [h1],fun i hi=> ?_⟩;cases i with
  |zero=>exact⟨hc.1,hc.2.1,List.all_eq_true.1 hc.2.2,rfl⟩
  |succ i=>simpa using h2 i (by simpa using hi)
theorem toB_inv:∀ {vs:List SV} {r:List UInt8},toB vs=some r→vs=r.map .u8:=by
 intro vs;induction vs with
 |nil=>intro r h;simp only [toB,Option.some.injEq]at h;subst h;rfl
 |cons v vs ih=>intro r h;cases v<;>simp only [toB,reduceCtorEq]at h;obtain⟨r',hr',rfl⟩:=Option.map_eq_some_iff.1 h;rw [ih hr'];rfl
theorem flatMap_get {n:Nat} {us:List Value} (h:∀u∈us,u.cells.size=n) {i j:Nat} (hi:i<us.length) (hj:j<n):
 (us.flatMap fun u=>u.cells.toList)[i*n+j]? =(us.getD i Go.undef).cells.toList[j]? :=by
 induction us generalizing i with
 |nil=>simp at hi
 | cons u us ih=>
  have h0:=h u (by simp);simp only [List.flatMap_cons];cases i with
  |zero=>rw [List.getElem?_append_left (by simp [h0];omega)];simp
  |succ i=>rw [List.getElem?_append_right (by simp [h0,Nat.succ_mul];omega)];have:=ih (fun q hq=>h q (List.mem_cons_of_mem _ hq)) (i:=i) (by simpa using hi);rw [show(i+1)*n+j-u.cells.toList.length=i*n+j from by simp [h0,Nat.succ_mul];omega];simpa using this
theorem val_buildSlice (hM:Models C x s a w) {t:TypeId} {len:Nat} {parts:Array (Nat×Operand)} (ho:o.op= .buildSlice t len parts) (hr:res1 P o=some so) (hv:val s so=some (p,c)):Done P C o a w (s.put o.dst c):=by
 have hex:execOp a.eval o=(do pure (.value (←Instr.buildSlice t len (parts.map fun(i,y)=>(i,a.eval y))))):=by simp only [execOp,ho]
 simp only [res1,ho]at hr;split at hr<;>try (cases hr;done)
 rename_i e hd;split at hr<;>try (cases hr;done)
 rename_i n zv hn hzv;split at hr<;>try (cases hr;done)
 rename_i hcond;simp only [Bool.and_eq_true,decide_eq_true_eq]at hcond;obtain⟨⟨hidx,hbig⟩,hu1⟩:=hcond;obtain⟨qs,hqs,rfl⟩:=Option.map_eq_some_iff.1 hr;obtain⟨hql,hqg⟩:=mapO_get hqs;obtain⟨z,hzc,hzr⟩:=zeroValue_run hzv;have hlen:parts.toList.length=len:=by have:=congrArg List.length hidx;simpa using this
 obtain⟨us,hus⟩:∃us:List Value,us=parts.toList.map fun q=>a.eval q.2:=⟨_,rfl⟩
 have husl:us.length=len:=by rw [hus];simpa using hlen
 have hrep:RepL x (qs.map s.ev) us:=by
  refine⟨by rw [hus];simp [hql],fun i hi=> ?_⟩;have hi':i<qs.length:=by simpa using hi
  have:=resArg_rep hM (hqg i (by omega) hi');rw [hus];simp only [List.getD_eq_getElem?_getD,List.getElem?_map,List.getElem?_eq_getElem hi',List.getElem?_eq_getElem (show i<parts.toList.length from by omega),Option.map_some,Option.getD_some];exact this
 have hpl:(parts.map fun(i,y)=>(i,a.eval y)).toList=(us.zipIdx 0).map fun q=>(q.2,q.1):=by
  rw [hus];apply List.ext_getElem
  ·simp
  ·intro i h1 h2
   simp only [Array.toList_map,List.length_map,Array.length_toList]at h1;have:(parts.toList.map (·.1))[i]? =(List.range len)[i]? :=by rw [hidx]
   have hi:i<len:=by rw [←hlen];simpa using h1
   simp only [List.getElem?_map,List.getElem?_range hi]at this;rw [List.getElem?_eq_getElem (by simpa using h1)]at this;simp at this;simp [this]
 have main:(∀u∈us,u.cells.size=n)→∃r:Array Value,(∀i j,i<len→j<n→r[i*n+j]? =(us.getD i Go.undef).cells.toList[j]?)∧r.size=len*n∧
  (Instr.buildSlice t len (parts.map fun(i,y)=>(i,a.eval y))).run P w= .ok (.slice (some ⟨w.heap.size,0,none⟩) len len) (w.alloc (.cells r e (0,0))):=by
  intro hcs
  have fin:∀zz:Array Value,∃r:Array Value,Instr.fill (fun i=>some (i*n,n)) ((Array.range (len*n)).map (fun i=>zz[i % zz.size]!)) (parts.map fun(i,y)=>(i,a.eval y)).toList=some r∧
   (∀i j,i<len→j<n→r[i*n+j]? =(us.getD i Go.undef).cells.toList[j]?)∧r.size=len*n:=by
   intro zz;obtain⟨r,hfr,hrl⟩:=fill_rows n us 0 ((Array.range (len*n)).map (fun i=>zz[i % zz.size]!)) hcs (by simp [husl])
   have hrl':r.toList=us.flatMap fun u=>u.cells.toList:=by rw [hrl];simp [husl]
   refine⟨r,by rw [hpl];exact hfr,fun i j hi hj=> ?_, ?_⟩
   ·rw [←Array.getElem?_toList,hrl',flatMap_get hcs (by omega) hj]
   ·rw [←Array.length_toList,hrl',List.length_flatMap]
    have:us.map (fun u=>u.cells.toList.length)=List.replicate us.length n:=by
     apply List.ext_getElem
     ·simp
     ·intro i h1 h2
      simp;exact hcs _ (List.getElem_mem _)
    rw [this];simp [husl]
  by_cases h0:len*n=0
  ·obtain⟨r,hf,h1,h2⟩:=fin #[]
   refine⟨r,h1,h2, ?_⟩;simp only [Instr.buildSlice,Sem.run_bind,run_underlying hd,Result.andThen_ok,szOf_run hn];rw [if_neg (by omega),if_pos h0];simp only [Sem.run_bind,Sem.run_pure,Result.andThen_ok];rw [hf];rfl
  ·obtain⟨r,hf,h1,h2⟩:=fin z.cells
   refine⟨r,h1,h2, ?_⟩;simp only [Instr.buildSlice,Sem.run_bind,run_underlying hd,Result.andThen_ok,szOf_run hn];rw [if_neg (by omega),if_neg h0];simp only [Sem.run_bind,Sem.run_pure,Result.andThen_ok,hzr];rw [hf];rfl
 have hlt:∀i,i<len→i<(qs.map s.ev).length:=fun i hi=>by rw [hrep.1,husl];exact hi
 cases h8:isU8 P e with
 | true=>
  simp only [h8,if_true,val]at hv;obtain⟨l,hl,he⟩:=Option.map_eq_some_iff.1 hv;simp only [Prod.mk.injEq]at he;obtain⟨_,rfl⟩:=he;have hq:=toB_inv hl;have hll:l.length=len:=by have:=congrArg List.length hq;simp only [List.length_map]at this;rw [←this,hql,hlen]
  have huv:∀i,i<len→us.getD i Go.undef= .int .u8 (l.getD i 0).toNat:=by
   intro i hi;have:=hrep.2 i (hlt i hi);rw [hq]at this
   have e1:(l.map SV.u8).getD i .undef= .u8 (l.getD i 0):=by simp only [List.getD_eq_getElem?_getD,List.getElem?_map];rw [List.getElem?_eq_getElem (by omega)];rfl
   rw [e1]at this;exact this.u8_inv
  have hn1:∀u∈us,u.cells.size=1:=by intro u hu;obtain⟨i,hi,rfl⟩:=List.getElem_of_mem hu;have:=huv i (by omega);rw [List.getD_eq_getElem?_getD,List.getElem?_eq_getElem hi]at this;simp only [Option.getD_some]at this;rw [this];rfl
  have hn1':n=1:=by simpa [h8]using hu1
  subst hn1';obtain⟨r,hr1,hr2,hrun⟩:=main hn1;refine Done.grow (x':=x.newD w.heap.size r len) hM hex hrun (hM.heap.newD_le r len) rfl rfl (hM.heap.allocD len) ?_;refine .dat _ _ (.byt l _ w.heap.size 0 len len hll.symm (Nat.le_refl _) fun i hi=> ?_) ⟨_,len,rfl⟩;simp only [Sit.newD];rw [if_pos ⟨trivial,by omega⟩,Nat.zero_add];have:=hr1 i 0 hi (by omega);rw [Nat.mul_one,Nat.add_zero]at this;rw [this,huv i hi];rfl
 | false=>
  simp only [h8,Bool.false_eq_true,if_false,val]at hv;obtain⟨rw_,hrw,he⟩:=Option.map_eq_some_iff.1 hv;simp only [Prod.mk.injEq]at he;obtain⟨_,rfl⟩:=he;obtain⟨hrl,hri⟩:=rows_inv hrw;have hrl':rw_.length=len:=by rw [hrl,hrep.1,husl]
  have hcell:∀i,i<len→RepL x (((qs.map s.ev).getD i .undef).cells) ((us.getD i Go.undef).cells.toList):=fun i hi=>(hrep.2 i (hlt i hi)).cells (hri i (hlt i hi)).1
  have hns:∀u∈us,u.cells.size=n:=by intro u hu;obtain⟨i,hi,rfl⟩:=List.getElem_of_mem hu;have h1:=hcell i (by omega);have h2:=(hri i (hlt i (by omega))).2.1;rw [show us.getD i Go.undef=us[i]from by rw [List.getD_eq_getElem?_getD,List.getElem?_eq_getElem hi];rfl]at h1;have:=h1.1;rw [h2]at this;simpa using this.symm
  obtain⟨r,hr1,hr2,hrun⟩:=main hns;refine Done.grow (x':=x.newD w.heap.size r (len*n)) hM hex hrun (hM.heap.newD_le r _) rfl rfl (hM.heap.allocD _) ?_;have hle:=hM.heap.newD_le r (len*n)
  have hcellv:∀i j,i<len→j<n→(x.newD w.heap.size r (len*n)).G w.heap.size (0+i*n+j)=some ((us.getD i Go.undef).cells.toList.getD j Go.undef):=by
   intro i j hi hj;simp only [Sit.newD]
   have hb:i*n+j<len*n:=by have:=Nat.mul_le_mul_right n (Nat.succ_le_of_lt hi);rw [Nat.succ_mul]at this;omega
   rw [if_pos ⟨trivial,by omega⟩,Nat.zero_add,hr1 i j hi hj]
   have:j<(us.getD i Go.undef).cells.toList.length:=by rw [←(hcell i hi).1,(hri i (hlt i hi)).2.1];exact hj
   generalize (us.getD i Go.undef).cells.toList=q at*;rw [List.getD_eq_getElem?_getD,List.getElem?_eq_getElem this];rfl
  refine .dat _ _ (.lst n rw_ _ w.heap.size 0 len len (fun i j=>(us.getD i Go.undef).cells.toList.getD j Go.undef) hrl'.symm (Nat.le_refl _) (fun i hi=> ?_) hcellv (fun i j hi hj=> ?_)) ⟨_,len,rfl⟩
  ·rw [(hri i (hlt i hi)).2.2.2,List.length_map];exact(hri i (hlt i hi)).2.1
  ·obtain⟨q1,q2,q3,q4⟩:=hri i (hlt i hi)
   rw [q4,getD_data];have hjl:j<((qs.map s.ev).getD i .undef).cells.length:=by rw [q2];exact hj
   have:=(hcell i hi).2 j hjl;refine(RepD.mono hle (this.data (q3 _ ?_))).toData;generalize ((qs.map s.ev).getD i .undef).cells=q at*;rw [List.getD_eq_getElem?_getD,List.getElem?_eq_getElem hjl];exact List.getElem_mem _
theorem run_buildL (hM:Models C x s a w) {t:TypeId} {len:Nat} {parts:Array (Nat×Operand)} (ho:o.op= .buildSlice t len parts) {n0:Nat} {qs0:List Arg} (hr:res1 P o=some (.lit n0 qs0)) {rw_:List (List SV)} (hrw:rows n0 (qs0.map s.ev)=some rw_):
 ∃ (r:Array Value) (e:TypeId),(execOp a.eval o).run P w= .ok (.value (.slice (some ⟨w.heap.size,0,none⟩) rw_.length rw_.length)) (w.alloc (.cells r e (0,0)))∧r.size=rw_.length*n0∧(∀y∈rw_,y.length=n0)∧
   ∀k,k<rw_.length*n0→RepD x.G ((rw_.getD (k/n0) []).getD (k % n0) .undef) (r.getD k Go.undef):=by
 have hex:execOp a.eval o=(do pure (.value (←Instr.buildSlice t len (parts.map fun(i,y)=>(i,a.eval y))))):=by simp only [execOp,ho]
 simp only [res1,ho]at hr;split at hr<;>try (cases hr;done)
 rename_i e hd;split at hr<;>try (cases hr;done)
 rename_i n zv hn hzv;split at hr<;>try (cases hr;done)
 rename_i hcond;simp only [Bool.and_eq_true,decide_eq_true_eq]at hcond;obtain⟨⟨hidx,hbig⟩,hu1⟩:=hcond;obtain⟨qs,hqs,hr2⟩:=Option.map_eq_some_iff.1 hr;obtain⟨hql,hqg⟩:=mapO_get hqs;obtain⟨z,hzc,hzr⟩:=zeroValue_run hzv;have hlen:parts.toList.length=len:=by have:=congrArg List.length hidx;simpa using this
 obtain⟨us,hus⟩:∃us:List Value,us=parts.toList.map fun q=>a.eval q.2:=⟨_,rfl⟩
 have husl:us.length=len:=by rw [hus];simpa using hlen
 have hrep:RepL x (qs.map s.ev) us:=by
  refine⟨by rw [hus];simp [hql],fun i hi=> ?_⟩;have hi':i<qs.length:=by simpa using hi
  have:=resArg_rep hM (hqg i (by omega) hi');rw [hus];simp only [List.getD_eq_getElem?_getD,List.getElem?_map,List.getElem?_eq_getElem hi',List.getElem?_eq_getElem (show i<parts.toList.length from by omega),Option.map_some,Option.getD_some];exact this
 have hpl:(parts.map fun(i,y)=>(i,a.eval y)).toList=(us.zipIdx 0).map fun q=>(q.2,q.1):=by
  rw [hus];apply List.ext_getElem
  ·simp
  ·intro i h1 h2
   simp only [Array.toList_map,List.length_map,Array.length_toList]at h1;have:(parts.toList.map (·.1))[i]? =(List.range len)[i]? :=by rw [hidx]
   have hi:i<len:=by rw [←hlen];simpa using h1
   simp only [List.getElem?_map,List.getElem?_range hi]at this;rw [List.getElem?_eq_getElem (by simpa using h1)]at this;simp at this;simp [this]
 have main:(∀u∈us,u.cells.size=n)→∃r:Array Value,(∀i j,i<len→j<n→r[i*n+j]? =(us.getD i Go.undef).cells.toList[j]?)∧r.size=len*n∧
  (Instr.buildSlice t len (parts.map fun(i,y)=>(i,a.eval y))).run P w= .ok (.slice (some ⟨w.heap.size,0,none⟩) len len) (w.alloc (.cells r e (0,0))):=by
  intro hcs
  have fin:∀zz:Array Value,∃r:Array Value,Instr.fill (fun i=>some (i*n,n)) ((Array.range (len*n)).map (fun i=>zz[i % zz.size]!)) (parts.map fun(i,y)=>(i,a.eval y)).toList=some r∧
   (∀i j,i<len→j<n→r[i*n+j]? =(us.getD i Go.undef).cells.toList[j]?)∧r.size=len*n:=by
   intro zz;obtain⟨r,hfr,hrl⟩:=fill_rows n us 0 ((Array.range (len*n)).map (fun i=>zz[i % zz.size]!)) hcs (by simp [husl])
   have hrl':r.toList=us.flatMap fun u=>u.cells.toList:=by rw [hrl];simp [husl]
   refine⟨r,by rw [hpl];exact hfr,fun i j hi hj=> ?_, ?_⟩
   ·rw [←Array.getElem?_toList,hrl',flatMap_get hcs (by omega) hj]
   ·rw [←Array.length_toList,hrl',List.length_flatMap]
    have:us.map (fun u=>u.cells.toList.length)=List.replicate us.length n:=by
     apply List.ext_getElem
     ·simp
     ·intro i h1 h2
      simp;exact hcs _ (List.getElem_mem _)
    rw [this];simp [husl]
  by_cases h0:len*n=0
  ·obtain⟨r,hf,h1,h2⟩:=fin #[]
   refine⟨r,h1,h2, ?_⟩;simp only [Instr.buildSlice,Sem.run_bind,run_underlying hd,Result.andThen_ok,szOf_run hn];rw [if_neg (by omega),if_pos h0];simp only [Sem.run_bind,Sem.run_pure,Result.andThen_ok];rw [hf];rfl
  ·obtain⟨r,hf,h1,h2⟩:=fin z.cells
   refine⟨r,h1,h2, ?_⟩;simp only [Instr.buildSlice,Sem.run_bind,run_underlying hd,Result.andThen_ok,szOf_run hn];rw [if_neg (by omega),if_neg h0];simp only [Sem.run_bind,Sem.run_pure,Result.andThen_ok,hzr];rw [hf];rfl
 have hlt:∀i,i<len→i<(qs.map s.ev).length:=fun i hi=>by rw [hrep.1,husl];exact hi
 obtain⟨h8,rfl,rfl⟩:isU8 P e=false∧n=n0∧qs=qs0:=by
  cases h8:isU8 P e with
  |true=>rw [h8]at hr2;simp at hr2
  |false=>rw [h8]at hr2;simp at hr2;exact⟨rfl,hr2.1,hr2.2⟩
 obtain⟨hrl,hri⟩:=rows_inv hrw;have hrl':rw_.length=len:=by rw [hrl,hrep.1,husl]
 have hcell:∀i,i<len→RepL x (((qs.map s.ev).getD i .undef).cells) ((us.getD i Go.undef).cells.toList):=fun i hi=>(hrep.2 i (hlt i hi)).cells (hri i (hlt i hi)).1
 have hns:∀u∈us,u.cells.size=n:=by intro u hu;obtain⟨i,hi,rfl⟩:=List.getElem_of_mem hu;have h1:=hcell i (by omega);have h2:=(hri i (hlt i (by omega))).2.1;rw [show us.getD i Go.undef=us[i]from by rw [List.getD_eq_getElem?_getD,List.getElem?_eq_getElem hi];rfl]at h1;have:=h1.1;rw [h2]at this;simpa using this.symm
 obtain⟨r,hr1,hr2,hrun⟩:=main hns
 have hrun':(execOp a.eval o).run P w= .ok (.value (.slice (some ⟨w.heap.size,0,none⟩) rw_.length rw_.length)) (w.alloc (.cells r e (0,0))):=by rw [hex,hrl'];simp [hrun]
 refine⟨r,e,hrun',by rw [hrl'];exact hr2,fun y hy=> ?_,fun k hk=> ?_⟩
 ·obtain⟨i,hi,rfl⟩:=List.getElem_of_mem hy
  have:=(hri i (hlt i (by omega))).2.2.2;rw [List.getD_eq_getElem?_getD,List.getElem?_eq_getElem hi]at this;simp only [Option.getD_some]at this;rw [this,List.length_map];exact(hri i (hlt i (by omega))).2.1
 ·have hsz:0<n:=by
   rcases Nat.eq_zero_or_pos n with h0|h0
   ·subst h0;omega
   ·exact h0
  have hi:k/n<len:=by rw [←hrl'];exact Nat.div_lt_of_lt_mul (by rw [Nat.mul_comm];exact hk)
  have hj:k % n<n:=Nat.mod_lt _ hsz;obtain⟨q1,q2,q3,q4⟩:=hri (k/n) (hlt _ hi);rw [q4,getD_data];have e1:k/n*n+k % n=k:=by rw [Nat.mul_comm];exact Nat.div_add_mod k n
  have e2:=hr1 (k/n) (k % n) hi hj;rw [e1]at e2;have hjl:k % n<((qs.map s.ev).getD (k/n) .undef).cells.length:=by rw [q2];exact hj
  have:=(hcell _ hi).2 _ hjl;rw [Array.getD_eq_getD_getElem?,e2,←List.getD_eq_getElem?_getD];refine(this.data (q3 _ ?_)).toData;generalize ((qs.map s.ev).getD (k/n) .undef).cells=q at*;rw [List.getD_eq_getElem?_getD,List.getElem?_eq_getElem hjl];exact List.getElem_mem _
theorem run_buildB (hM:Models C x s a w) {t:TypeId} {len:Nat} {parts:Array (Nat×Operand)} (ho:o.op= .buildSlice t len parts) {qs0:List Arg} (hr:res1 P o=some (.litB qs0)) {l:List UInt8} (hl0:toB (qs0.map s.ev)=some l):
 ∃(r:Array Value) (e:TypeId),(execOp a.eval o).run P w= .ok (.value (.slice (some ⟨w.heap.size,0,none⟩) l.length l.length)) (w.alloc (.cells r e (0,0)))∧l.length≤r.size∧∀i,i<l.length→r.getD i Go.undef= .int .u8 (l.getD i 0).toNat:=by
 have hex:execOp a.eval o=(do pure (.value (←Instr.buildSlice t len (parts.map fun(i,y)=>(i,a.eval y))))):=by simp only [execOp,ho]
 simp only [res1,ho]at hr;split at hr<;>try (cases hr;done)
 rename_i e hd;split at hr<;>try (cases hr;done)
 rename_i n zv hn hzv;split at hr<;>try (cases hr;done)
 rename_i hcond;simp only [Bool.and_eq_true,decide_eq_true_eq]at hcond;obtain⟨⟨hidx,hbig⟩,hu1⟩:=hcond;obtain⟨qs,hqs,hr2⟩:=Option.map_eq_some_iff.1 hr;obtain⟨hql,hqg⟩:=mapO_get hqs;obtain⟨z,hzc,hzr⟩:=zeroValue_run hzv;have hlen:parts.toList.length=len:=by have:=congrArg List.length hidx;simpa using this
 obtain⟨us,hus⟩:∃us:List Value,us=parts.toList.map fun q=>a.eval q.2:=⟨_,rfl⟩
 have husl:us.length=len:=by rw [hus];simpa using hlen
 have hrep:RepL x (qs.map s.ev) us:=by
  refine⟨by rw [hus];simp [hql],fun i hi=> ?_⟩;have hi':i<qs.length:=by simpa using hi
  have:=resArg_rep hM (hqg i (by omega) hi');rw [hus];simp only [List.getD_eq_getElem?_getD,List.getElem?_map,List.getElem?_eq_getElem hi',List.getElem?_eq_getElem (show i<parts.toList.length from by omega),Option.map_some,Option.getD_some];exact this
 have hpl:(parts.map fun(i,y)=>(i,a.eval y)).toList=(us.zipIdx 0).map fun q=>(q.2,q.1):=by
  rw [hus];apply List.ext_getElem
  ·simp
  ·intro i h1 h2
   simp only [Array.toList_map,List.length_map,Array.length_toList]at h1;have:(parts.toList.map (·.1))[i]? =(List.range len)[i]? :=by rw [hidx]
   have hi:i<len:=by rw [←hlen];simpa using h1
   simp only [List.getElem?_map,List.getElem?_range hi]at this;rw [List.getElem?_eq_getElem (by simpa using h1)]at this;simp at this;simp [this]
 have main:(∀u∈us,u.cells.size=n)→∃r:Array Value,(∀i j,i<len→j<n→r[i*n+j]? =(us.getD i Go.undef).cells.toList[j]?)∧r.size=len*n∧
  (Instr.buildSlice t len (parts.map fun(i,y)=>(i,a.eval y))).run P w= .ok (.slice (some ⟨w.heap.size,0,none⟩) len len) (w.alloc (.cells r e (0,0))):=by
  intro hcs
  have fin:∀zz:Array Value,∃r:Array Value,Instr.fill (fun i=>some (i*n,n)) ((Array.range (len*n)).map (fun i=>zz[i % zz.size]!)) (parts.map fun(i,y)=>(i,a.eval y)).toList=some r∧
   (∀i j,i<len→j<n→r[i*n+j]? =(us.getD i Go.undef).cells.toList[j]?)∧r.size=len*n:=by
   intro zz;obtain⟨r,hfr,hrl⟩:=fill_rows n us 0 ((Array.range (len*n)).map (fun i=>zz[i % zz.size]!)) hcs (by simp [husl])
   have hrl':r.toList=us.flatMap fun u=>u.cells.toList:=by rw [hrl];simp [husl]
   refine⟨r,by rw [hpl];exact hfr,fun i j hi hj=> ?_, ?_⟩
   ·rw [←Array.getElem?_toList,hrl',flatMap_get hcs (by omega) hj]
   ·rw [←Array.length_toList,hrl',List.length_flatMap]
    have:us.map (fun u=>u.cells.toList.length)=List.replicate us.length n:=by
     apply List.ext_getElem
     ·simp
     ·intro i h1 h2
      simp;exact hcs _ (List.getElem_mem _)
    rw [this];simp [husl]
  by_cases h0:len*n=0
  ·obtain⟨r,hf,h1,h2⟩:=fin #[]
   refine⟨r,h1,h2, ?_⟩;simp only [Instr.buildSlice,Sem.run_bind,run_underlying hd,Result.andThen_ok,szOf_run hn];rw [if_neg (by omega),if_pos h0];simp only [Sem.run_bind,Sem.run_pure,Result.andThen_ok];rw [hf];rfl
  ·obtain⟨r,hf,h1,h2⟩:=fin z.cells
   refine⟨r,h1,h2, ?_⟩;simp only [Instr.buildSlice,Sem.run_bind,run_underlying hd,Result.andThen_ok,szOf_run hn];rw [if_neg (by omega),if_neg h0];simp only [Sem.run_bind,Sem.run_pure,Result.andThen_ok,hzr];rw [hf];rfl
 have hlt:∀i,i<len→i<(qs.map s.ev).length:=fun i hi=>by rw [hrep.1,husl];exact hi
 cases h8:isU8 P e with
 | true=>
  simp only [h8,if_true,SOp.litB.injEq]at hr2;subst hr2;have hl:=hl0;have hq:=toB_inv hl;have hll:l.length=len:=by have:=congrArg List.length hq;simp only [List.length_map]at this;rw [←this,hql,hlen]
  have huv:∀i,i<len→us.getD i Go.undef= .int .u8 (l.getD i 0).toNat:=by
   intro i hi;have:=hrep.2 i (hlt i hi);rw [hq]at this
   have e1:(l.map SV.u8).getD i .undef= .u8 (l.getD i 0):=by simp only [List.getD_eq_getElem?_getD,List.getElem?_map];rw [List.getElem?_eq_getElem (by omega)];rfl
   rw [e1]at this;exact this.u8_inv
  have hn1:∀u∈us,u.cells.size=1:=by intro u hu;obtain⟨i,hi,rfl⟩:=List.getElem_of_mem hu;have:=huv i (by omega);rw [List.getD_eq_getElem?_getD,List.getElem?_eq_getElem hi]at this;simp only [Option.getD_some]at this;rw [this];rfl
  have hn1':n=1:=by simpa [h8]using hu1
  subst hn1';obtain⟨r,hr1,hr2,hrun⟩:=main hn1;refine⟨r,e,by rw [hex,Sem.run_bind,hrun];simp [hll],by rw [hr2];omega,fun i hi=> ?_⟩;have:=hr1 i 0 (by omega) (by omega);rw [Nat.mul_one,Nat.add_zero]at this;rw [Array.getD_eq_getD_getElem?,this,huv i (by omega)];rfl
 |false=>simp only [h8,Bool.false_eq_true,if_false]at hr2;cases hr2
theorem litB_op {qs:List Arg} (hr:res1 P o=some (.litB qs)):∃t len parts,o.op= .buildSlice t len parts:=by
 cases ho:o.op with
 |buildSlice t len parts=>exact⟨t,len,parts,rfl⟩
 | _=>exfalso;exact absurd hr (by
  intro hr;simp only [res1,ho]at hr
  first
   |(cases hr;done)
   |(obtain⟨_,_,h⟩:=Option.map_eq_some_iff.1 hr;cases h;done)
   |(repeat' split at hr)<;>first|(cases hr;done)|contradiction|(obtain⟨_,_,h⟩:=Option.map_eq_some_iff.1 hr;first|(cases h;done)|(split at h<;>cases h;done)))
end Go.Sy
namespace Go.Sy
variable [LaidData]
variable {P : Program} {C : Ctx} {x : Sit} {s : St} {a : Act} {w : World} {o : Oper} {so : SOp} {p : Prop} {c : SV}
theorem isAg_tag {t:TypeId} {n:Nat} (h:tagOf P t=some n):isAg P t=some false:=by unfold tagOf at h;unfold isAg;split at h<;>first|(cases h;done)|(rename_i h1;rw [h1];rfl)
theorem eqCell_run {t:TypeId} {n:Nat} (ht:tagOf P t=some n) {c1 d1:SV} {u v:Value} (hu:Rep x c1 u) (hv:Rep x d1 v) {b:Bool} (h:eqCell n c1 d1=some b) (d:Nat):(Op.equalIn (d+1) t u v).run P w= .ok b w:=by
 unfold tagOf at ht;split at ht<;>try (cases ht;done)
 all_goals
  rename_i hd;cases ht;cases c1<;>cases d1<;>simp only [eqCell,reduceCtorEq,Option.some.injEq,Option.ite_none_right_eq_some]at h
 ·rw [hu.bool_inv,hv.bool_inv]
  subst h;rename_i m n;simp only [Op.equalIn,Sem.run_bind,run_underlying hd,Result.andThen_ok,Sem.run_pure];cases m<;>cases n<;>rfl
 ·rw [hu.int_inv,hv.int_inv]
  obtain⟨rfl,h⟩:=h;subst h;simp only [Op.equalIn,Sem.run_bind,run_underlying hd,Result.andThen_ok,if_true,Sem.run_pure];rfl
 ·rw [hu.u8_inv,hv.u8_inv]
  subst h;rename_i m n;simp only [Op.equalIn,Sem.run_bind,run_underlying hd,Result.andThen_ok,if_true,Sem.run_pure]
  congr 1
  rw [Bool.eq_iff_iff];simp only [beq_iff_eq,decide_eq_true_eq,Int.natCast_inj];exact UInt8.toNat_inj
 ·rw [hu.str_inv,hv.str_inv]
  subst h;rename_i m n;simp only [Op.equalIn,Sem.run_bind,run_underlying hd,Result.andThen_ok,Sem.run_pure]
  congr 1
  rw [beq_toListBytes,ByteArray.toList_eq,ByteArray.toList_eq,Bool.eq_iff_iff];simp
theorem eqCells_fields:∀(fs:List Field) (ts:List Nat) (k:Nat) (cs ds:List SV) (xs ys:List Value) (d:Nat),flatS P k fs=some ts→
 RepL x cs (xs.drop k)→RepL x ds (ys.drop k)→∀ {b:Bool},eqCells ts cs ds=some b→(Op.eqFields (d+1) ⟨xs⟩ ⟨ys⟩ fs).run P w= .ok b w
 |[],ts,k,cs,ds,xs,ys,d,hf,hx,hy,b,h=>by simp only [flatS,Option.some.injEq]at hf;subst hf;cases cs<;>cases ds<;>simp [eqCells]at h;subst h;simp [Op.eqFields]
 | f ::fs,ts,k,cs,ds,xs,ys,d,hf,hx,hy,b,h=>by
  simp only [flatS,Option.ite_none_right_eq_some]at hf;obtain⟨⟨hname,hoff⟩,hf⟩:=hf;split at hf<;>try (cases hf;done)
  rename_i t ts' htag hts;cases hf;cases cs with
  |nil=>simp [eqCells]at h
  | cons c1 cs=>
   cases ds with
   |nil=>simp [eqCells]at h
   | cons d1 ds=>
    simp only [eqCells]at h;split at h<;>try (cases h;done)
    rename_i r q hr hq;cases h;have hlx:=hx.1;have hly:=hy.1;simp only [List.length_cons,List.length_drop]at hlx hly
    have hgx:(⟨xs⟩:Array Value)[k]? =some (xs.getD k Go.undef):=by rw [List.getElem?_toArray,List.getElem?_eq_getElem (by omega),List.getD_eq_getElem?_getD,List.getElem?_eq_getElem (by omega)];rfl
    have hgy:(⟨ys⟩:Array Value)[k]? =some (ys.getD k Go.undef):=by rw [List.getElem?_toArray,List.getElem?_eq_getElem (by omega),List.getD_eq_getElem?_getD,List.getElem?_eq_getElem (by omega)];rfl
    have hx0:Rep x c1 (xs.getD k Go.undef):=by have:=hx.2 0 (by simp);simpa [List.getD_eq_getElem?_getD,List.getElem?_drop]using this
    have hy0:Rep x d1 (ys.getD k Go.undef):=by have:=hy.2 0 (by simp);simpa [List.getD_eq_getElem?_getD,List.getElem?_drop]using this
    have tl:∀ {cs:List SV} {c1:SV} {xs:List Value},RepL x (c1::cs) (xs.drop k)→RepL x cs (xs.drop (k+1)):=by intro cs c1 xs hx;have hlx:=hx.1;simp only [List.length_cons,List.length_drop]at hlx;refine⟨by simp only [List.length_drop];omega,fun i hi=> ?_⟩;have:=hx.2 (i+1) (by simpa using hi);simp only [List.getD_eq_getElem?_getD,List.getElem?_cons_succ,List.getElem?_drop]at this ⊢;rw [show k+1+i=k+(i+1)by omega];exact this
    have ih:=eqCells_fields fs ts' (k+1) cs ds xs ys d hts (tl hx) (tl hy) hq;have hrun:=eqCell_run (w:=w) htag hx0 hy0 hr d;simp only [Op.eqFields,if_pos hname,part,Sem.run_bind,isAg_run (isAg_tag htag),Result.andThen_ok,Bool.false_eq_true,if_false];rw [hoff,hgx,hgy];simp only [Sem.run_pure,Result.andThen_ok,hrun];cases r
    ·simp
    ·simp only [Bool.not_true,Bool.false_eq_true,if_false]
     rw [ih,Bool.true_and]
theorem val_eqS (hM:Models C x s a w) {op:BinOp} {t u:TypeId} {X Y:Operand} (ho:o.op= .binOp op t X Y u) {ne:Bool} {ts:List Nat} {x' y':Arg} (hr:res1 P o=some (.eqS ne ts x' y')) (hv:val s (.eqS ne ts x' y')=some (p,c)):Done P C o a w (s.put o.dst c):=by
 have hex:execOp a.eval o=(do pure (.value (←(do eqGuard op t X Y (a.eval X) (a.eval Y);binOp op t (a.eval X) (a.eval Y):Sem Value)))):=by simp only [execOp,ho]
 simp only [res1,ho]at hr;split at hr<;>try (cases hr;done)
 ·split at hr<;>cases hr
 ·rename_i fs _ _ hd hx hy
  split at hr<;>try (cases hr;done)
  rename_i ts' hts;rw [Option.ite_none_right_eq_some]at hr;obtain⟨hcond,hr⟩:=hr;simp only [Bool.and_eq_true,Bool.not_eq_true']at hcond
  have hop:op=(if ne then .neq else .eql)∧ts'=ts∧resArg P t X=some x'∧resArg P u Y=some y':=by split at hr<;>first|(cases hr;done)|(cases hr;exact⟨rfl,rfl,hx,hy⟩)
  obtain⟨hop,rfl,hx,hy⟩:=hop;have h1:=resArg_rep hM hx;have h2:=resArg_rep hM hy;simp only [val]at hv;cases hu:s.ev x' with
  | agg cs=>
   cases hw:s.ev y' with
   | agg ds=>
    rw [hu,hw]at hv;rw [hu]at h1;rw [hw]at h2;simp only [Option.map_eq_some_iff,Prod.mk.injEq]at hv;obtain⟨b,hb,_,rfl⟩:=hv;obtain⟨vs,e1,g1⟩:=h1.agg_inv;obtain⟨us,e2,g2⟩:=h2.agg_inv;have hfo:P.fieldsOf t=fs:=by simp [Program.fieldsOf,hd]
    have heq:(Op.equalIn 10000 t (.agg ⟨vs⟩) (.agg ⟨us⟩)).run P w= .ok b w:=by rw [show(10000:Nat)=9998+1+1 from rfl,run_equalIn_struct w (9998+1) t ⟨vs⟩ ⟨us⟩ (by rw [hfo];exact hd) hcond.1,hfo];exact eqCells_fields fs.toList ts' 0 cs ds vs us 9998 hts (by simpa using g1) (by simpa using g2) hb
    refine Done.val hM hex (u:= .bool (if ne then !b else b)) ?_ (rep_bool _);rw [e1,e2];simp only [Sem.run_bind,run_eqGuard_agg w op t X Y ⟨vs⟩ ⟨us⟩ hcond.2,Result.andThen_ok];subst hop;cases ne
    ·simp only [Bool.false_eq_true,if_false];rw [run_eql_struct,heq];rfl
    ·simp only [if_true];rw [run_neq_struct,heq];rfl
   |_=>rw [hu,hw]at hv;simp at hv
  |_=>rw [hu]at hv;simp at hv
 ·split at hr<;>cases hr
 ·split at hr<;>cases hr
theorem done_isnil (hM:Models C x s a w) {ne:Bool} {q:Arg} (hr:res1 P o=some (.isnil ne q)) {K:Bool→Prop}
 (h:match s.ev q with
  | .byt l _=>∀b:Bool,(b=true→l=[])→K (b !=ne)
  | .lst _ xs _=>∀b:Bool,(b=true→xs=[])→K (b !=ne)
  | .psl _ _ _ _ _=>K ne
  |_=>False):∃b,K b∧Done P C o a w (s.put o.dst (.bool b)):=by
 have hop:∃op t X Y u,o.op= .binOp op t X Y u∧(op=if ne then .neq else .eql)∧(∃e,P.underlying t=some (.slice e))∧resArg P t X=some q∧Y= .const (.slice none 0 0):=by
  cases ho:o.op with
  | binOp op t X Y u=>
   simp only [res1,ho]at hr;split at hr<;>try (cases hr;done)
   ·split at hr<;>cases hr
   ·split at hr<;>try (cases hr;done)
    split at hr<;>try (cases hr;done)
    split at hr<;>cases hr
   ·rename_i e x' _ hd hx hy
    split at hr<;>first|(cases hr;done)|(cases hr;exact⟨_,_,_,_,_,rfl,rfl,⟨_,hd⟩,hx,rfl⟩)
   ·split at hr<;>first|(cases hr;done)|contradiction
  | _=>exfalso;exact absurd hr (by
   intro hr;simp only [res1,ho]at hr
   first
    |(cases hr;done)
    |(obtain⟨_,_,h⟩:=Option.map_eq_some_iff.1 hr;cases h;done)
    |(repeat' split at hr)<;>first|(cases hr;done)|contradiction|(obtain⟨_,_,h⟩:=Option.map_eq_some_iff.1 hr;first|(cases h;done)|(split at h<;>cases h;done)))
 obtain⟨op,t,X,Y,u,ho,hop,⟨e,hd⟩,hX,hY⟩:=hop;have hex:execOp a.eval o=(do pure (.value (←(do eqGuard op t X Y (a.eval X) (a.eval Y);binOp op t (a.eval X) (a.eval Y):Sem Value)))):=by simp only [execOp,ho]
 have hrep:=resArg_rep hM hX;have hYv:a.eval Y= .slice none 0 0:=by rw [hY];rfl
 have run:∀ad n cp,a.eval X= .slice ad n cp→Done P C o a w (s.put o.dst (.bool (ad.isNone !=ne))):=by
  intro ad n cp hXv
  have hg:∀v1 v2 v3 v4 v5,(eqGuard op t X Y (.slice v1 v2 v3) (.slice none v4 v5))=pure ():=by intros;subst hop;cases ne<;>rfl
  refine Done.val hM hex (u:= .bool (ad.isNone !=ne)) ?_ (rep_bool _);rw [hXv,hYv,hg];simp only [Sem.run_bind,Sem.run_pure,Result.andThen_ok]
  have heq:(Op.equal t (.slice ad n cp) (.slice none 0 0)).run P w= .ok ad.isNone w:=by rw [show Op.equal t (.slice ad n cp) (.slice none 0 0)=Op.equalIn (9999+1) t (.slice ad n cp) (.slice none 0 0)from rfl,Op.equalIn];simp only [Sem.run_bind,run_underlying hd,Result.andThen_ok];cases ad<;>rfl
  subst hop;cases ne
  ·simp only [Bool.false_eq_true,if_false,binOp,Sem.run_bind,heq,Result.andThen_ok,Sem.run_pure];cases ad<;>rfl
  ·simp only [if_true,binOp,Sem.run_bind,heq,Result.andThen_ok,Sem.run_pure];cases ad<;>rfl
 cases hu:s.ev q with
 | byt l tk=>
  rw [hu]at h hrep;have hdat:=hrep.data rfl;cases hv:a.eval X with
  |slice ad n cp=>
   refine⟨_,h ad.isNone (fun hn=> ?_),run ad n cp hv⟩;rw [hv]at hdat;cases hdat with
   |bytN=>rfl
   |byt _ _ b off _ _ _ _ _=>simp at hn
  |_=>rw [hv]at hdat;cases hdat
 | lst sz xs tk=>
  rw [hu]at h hrep;have hdat:=hrep.data rfl;cases hv:a.eval X with
  |slice ad n cp=>
   refine⟨_,h ad.isNone (fun hn=> ?_),run ad n cp hv⟩;rw [hv]at hdat;cases hdat with
   |lstN=>rfl
   |lst _ _ _ b off _ _ _ _ _ _ _ _=>simp at hn
  |_=>rw [hv]at hdat;cases hdat
 |psl o' sz off n cp=>rw [hu]at h hrep;obtain⟨cp,_,_,off',he,_⟩:=hrep.psl_inv;refine⟨_,h, ?_⟩;have:=run _ _ _ he;simpa using this
 |_=>rw [hu]at h;exact h.elim
end Go.Sy
namespace Go.Sy
variable [LaidData]
variable {P : Program} {C : Ctx} {x : Sit} {s : St} {a : Act} {w : World} {o : Oper} {so : SOp} {e : Eff}
theorem Models.newObj (hM:Models C x s a w) {d:Nat} (sl:Option Nat) (hd100:100≤d) {cv:Array Value} {t:TypeId} (obj:SObj) {val:SV} {u:Value} (hs:obj.size≤cv.size) (hr:∀k,k<obj.size→cellRep x obj k (cv.getD k Go.undef))
 (hv:Rep (x.newO d w.heap.size) val u):
 Models C (x.newO d w.heap.size) (((s.purge d (d+1)).addO d (obj.purge d (d+1))).put sl val) (a.put sl u) (w.alloc (.cells cv t (0,0))):=by
 refine Models.put ⟨?_,hM.defers, ?_⟩ sl hv
 ·exact RepL.mono (x:=x) (x':=x.newO d w.heap.size) (lo:=d) (hi:=d+1) (fun _ _ _ h=>h) (Sit.newO_ne x d _) (fun _ _=>rfl) hM.tm
 ·exact hM.heap.allocO d hd100 obj (fun i _ h=>by omega) hs hr
theorem Done.newObj (hM:Models C x s a w) {d:Nat} (hd100:100≤d) {m:Sem Value} {cv:Array Value} {t:TypeId} (obj:SObj) {val:SV} {u:Value} (he:execOp a.eval o=(do pure (.value (←m))))
 (hm:m.run P w= .ok u (w.alloc (.cells cv t (0,0)))) (hs:obj.size≤cv.size) (hr:∀k,k<obj.size→cellRep x obj k (cv.getD k Go.undef)) (hv:Rep (x.newO d w.heap.size) val u):
 Done P C o a w (((s.purge d (d+1)).addO d (obj.purge d (d+1))).put o.dst val):=
 ⟨u,w.alloc (.cells cv t (0,0)),_,.value u,by rw [he];simp [hm],.inl rfl,hM.newObj o.dst hd100 obj hs hr hv⟩
theorem newO_d (x:Sit) (d b:Nat):(x.newO d b).β d=b:=if_pos rfl
theorem eff_alloc (hM:Models C x s a w) {t:TypeId} (ho:o.op= .alloc t) (hr:res1 P o=some so) (he:eff s o.dst so=some e):Done P C o a w (s.app o.dst e):=by
 simp only [res1,ho]at hr;split at hr<;>try (cases hr;done)
 rename_i obj z hobj hz;split at hr<;>try (cases hr;done)
 rename_i his;cases hr;simp only [eff]at he;split at he<;>try (cases he;done)
 rename_i d hd;cases he;obtain⟨zv,hzc,hzr⟩:=zeroValue_run hz;simp only [objIs,Bool.and_eq_true,decide_eq_true_eq,List.all_eq_true,List.mem_range]at his;simp only [St.app];have hd':o.dst.getD 0=d:=by rw [hd];rfl
 rw [hd'];refine Done.newObj hM (d:=d+100) (by omega) obj (m:=Instr.alloc t true (.tuple #[])) (cv:=zv.cells) (t:=t) (u:= .pointer (some ⟨w.heap.size,0,none⟩)) (by simp only [execOp,ho]) ?_ (by rw [←Array.length_toList,hzc];exact his.1) (fun k hk=> ?_) ?_
 ·simp only [Instr.alloc,Sem.run_bind,hzr,Result.andThen_ok,newVar,newRow,run_newObj_alloc,Sem.run_pure]
 ·have h1:=his.2 k hk
  have h2:zv.cells.getD k Go.undef=z.getD k Go.undef:=by rw [←hzc];simp [Array.getD_eq_getD_getElem?]
  rw [h2];cases obj with
  |rc cs=>exact svIs_Rep h1
  |arr sz xs=>exact svIs_rep h1
  |bar l=>exact svIs_rep h1
 ·have:=Rep.ptr (x:=x.newO (d+100) w.heap.size) (d+100) 0
  rw [newO_d]at this;exact this
theorem eff_box (hM:Models C x s a w) {t:TypeId} {X:Operand} (ho:o.op= .box t X) (hr:res1 P o=some so) (he:eff s o.dst so=some e):Done P C o a w (s.app o.dst e):=by
 simp only [res1,ho]at hr;obtain⟨r,hra,rfl⟩:=Option.map_eq_some_iff.1 hr;have hrep:=resArg_rep hM hra;simp only [eff]at he;split at he<;>try (cases he;done)
 rename_i d hd;cases he;simp only [St.app];have hc:(s.ev r).isDef=true→RepL x (s.ev r).cells (a.eval X).cells.toList:=hrep.cells;have hu:(s.ev r).isDef=true∨(s.ev r).cells=[]:=by cases s.ev r<;>simp [SV.isDef,SV.cells]
 have hd':o.dst.getD 0=d:=by rw [hd];rfl
 rw [hd'];refine Done.newObj hM (d:=d+100) (by omega) (.rc (s.ev r).cells) (m:=Instr.box t (a.eval X)) (cv:=(a.eval X).cells) (t:=t) (u:= .pointer (some ⟨w.heap.size,0,none⟩)) (by simp only [execOp,ho]) ?_ ?_ (fun k hk=> ?_) ?_
 ·simp only [Instr.box,Sem.run_bind,Result.andThen_ok,newVar,newRow,run_newObj_alloc,Sem.run_pure]
 ·rcases hu with hu|hu
  ·have:=(hc hu).1;simp only [SObj.size];rw [←Array.length_toList];omega
  ·simp [SObj.size,hu]
 ·rcases hu with hu|hu
  ·have:=(hc hu).2 k hk
   simp only [cellRep];have e1:(a.eval X).cells.getD k Go.undef=(a.eval X).cells.toList.getD k Go.undef:=by simp [Array.getD_eq_getD_getElem?]
   rw [e1];exact this
  ·simp [SObj.size,hu]at hk
 ·have:=Rep.ptr (x:=x.newO (d+100) w.heap.size) (d+100) 0
  rw [newO_d]at this;exact this
theorem run_makeSlice {t el:TypeId} {by_ n:Nat} {zs:List Value} {l c:Int} {k1 k2:IntKind} (hd:P.underlying t=some (.slice el)) (hn:szOf P el=some n) (hb:byOf P el=some by_) (hz:zcells P el=some zs)
 (h0:0≤l) (h1:l≤c) (h2:(by_:Int)*c≤140737488355328) (h3:c≤9223372036854775807):
 ∃ cv:Array Value,(Instr.makeSlice t (.int k1 l) (.int k2 c)).run P w= .ok (.slice (some ⟨w.heap.size,0,none⟩) l.toNat c.toNat) (w.alloc (.cells cv el (0,0)))∧cv.size=c.toNat*n∧
   ∀k,k<c.toNat*n→cv.getD k Go.undef=zs.getD (k % zs.length) default:=by
 obtain⟨z,hzc,hzr⟩:=zeroValue_run hz;have wl:IntKind.i64.wrap l=l:=by rw [IntKind.wrap_i64];omega
 have wc:IntKind.i64.wrap c=c:=by rw [IntKind.wrap_i64];omega
 have hby:∃i,P.info? el=some i∧i.bytes=by_:=by
  unfold byOf at hb;cases hi:P.info? el with
  |none=>simp [hi]at hb
  |some i=>simp [hi]at hb;exact⟨i,rfl,hb⟩
 obtain⟨i,hi,hib⟩:=hby
 have hc1:¬((decide (c<0)||decide ((i.bytes:Int)*c>2^48)||decide (l<0)||decide (l>c))=true):=by rw [hib];simp;omega
 have key:∀(zz:Array Value),(c.toNat*n=0∨zz=z.cells)→∃cv:Array Value,cv=(Array.range (c.toNat*n)).map (fun j=>zz[j % zz.size]!)∧cv.size=c.toNat*n∧∀k,k<c.toNat*n→cv.getD k Go.undef=zs.getD (k % zs.length) default:=by
  intro zz hzz;refine⟨_,rfl,by simp,fun k hk=> ?_⟩;rcases hzz with h|rfl
  ·omega
  ·rw [←hzc]
   simp [Array.getD_eq_getD_getElem?,hk];rw [getElem!_def];cases z.cells[k % z.cells.size]? <;>rfl
 by_cases hz0:c.toNat*n=0
 ·obtain⟨cv,hcv,r1,r2⟩:=key #[] (.inl hz0)
  refine⟨cv, ?_,r1,r2⟩;simp only [Instr.makeSlice,Sem.run_bind,run_underlying hd,Result.andThen_ok,asInt,asIntOf,Sem.run_pure,run_typeInfo w hi,wl,wc];rw [if_neg (by simpa using hc1)];simp only [Sem.run_bind,run_askRoom,Result.andThen_ok,szOf_run hn];rw [if_pos hz0];simp only [Sem.run_bind,Sem.run_pure,Result.andThen_ok,newRow,run_newObj_alloc,hcv]
 ·obtain⟨cv,hcv,r1,r2⟩:=key z.cells (.inr rfl)
  refine⟨cv, ?_,r1,r2⟩;simp only [Instr.makeSlice,Sem.run_bind,run_underlying hd,Result.andThen_ok,asInt,asIntOf,Sem.run_pure,run_typeInfo w hi,wl,wc];rw [if_neg (by simpa using hc1)];simp only [Sem.run_bind,run_askRoom,Result.andThen_ok,szOf_run hn];rw [if_neg hz0];simp only [Sem.run_bind,Sem.run_pure,Result.andThen_ok,hzr,newRow,run_newObj_alloc,hcv]
end Go.Sy
namespace Go.Sy
variable [LaidData]
variable {P : Program} {C : Ctx} {x : Sit} {s : St} {a : Act} {w : World} {o : Oper} {so : SOp} {e : Eff}
theorem getD_replicate {α:Type} (n:Nat) (z d:α) (i:Nat) (h:i<n):(List.replicate n z).getD i d=z:=by rw [List.getD_eq_getElem?_getD,List.getElem?_replicate,if_pos h];rfl
theorem zerosD_data {t:TypeId} {cs:List SV} (h:zerosD P t=some cs):∃vs,zcells P t=some vs∧cs.length=vs.length∧∀(G:GM) i,i<cs.length→RepD G (cs.getD i .undef) (vs.getD i Go.undef):=by obtain⟨z,hz,rfl⟩:=Option.map_eq_some_iff.1 h;obtain⟨vs,h1,h2,h3⟩:=zeros_data hz;refine⟨vs,h1,by simpa using h2,fun G i hi=> ?_⟩;rw [getD_map_undef _ (by rfl)];exact(h3 G i (by simpa using hi)).toData
theorem eff_makeSlice (hM:Models C x s a w) {t:TypeId} {X Y:Operand} (ho:o.op= .makeSlice t X Y) (hr:res1 P o=some so) (he:eff s o.dst so=some e) (hp:e.pre):Done P C o a w (s.app o.dst e):=by
 have hex:execOp a.eval o=(do pure (.value (←Instr.makeSlice t (a.eval X) (a.eval Y)))):=by simp only [execOp,ho]
 simp only [res1,ho]at hr;split at hr<;>try (cases hr;done)
 rename_i el hd;split at hr<;>try (cases hr;done)
 rename_i n by_ z l c hn hb hz hl hc;obtain⟨zs,hzc,hzl0,hzr⟩:=zerosD_data hz;have h1:=resArg_rep hM hl;have h2:=resArg_rep hM hc;cases h8:isU8 P el with
 | true=>
  have hu8:=isU8_inv h8;simp only [h8,if_true]at hr
  by_cases hnb:n=1∧by_=1∧z0 z=true
  ·rw [if_pos hnb]at hr
   obtain⟨rfl,rfl,hz0⟩:=hnb;simp only [Option.some.injEq]at hr;subst hr;simp only [eff]at he;split at he<;>try (cases he;done)
   rename_i d k1 L k2 K hd1 hL hK;cases he;obtain⟨q0,q1,q2⟩:=hp;rw [hL]at h1;rw [hK]at h2;obtain⟨cv,hrun,hsz,hget⟩:=run_makeSlice (P:=P) (w:=w) (k1:=k1) (k2:=k2) hd hn hb hzc q0 q1 (by omega) (by omega);simp only [St.app];have hd':o.dst.getD 0=d:=by rw [hd1];rfl
   rw [hd']
   have hz1:z=[.u8 0]:=by
    unfold z0 at hz0;split at hz0
    ·rename_i b;simp at hz0;rw [hz0]
    ·cases hz0
   refine Done.newObj hM (d:=d+100) (by omega) (.bar (List.replicate K.toNat 0)) hex (by rw [h1.int_inv,h2.int_inv];exact hrun) (by simp [SObj.size,hsz]) (fun k hk=> ?_) ?_
   ·simp only [SObj.size,List.length_replicate]at hk
    simp only [cellRep,SObj.cell];rw [hget k (by omega),getD_replicate _ _ _ _ hk];rw [hz1]at hzl0 hzr;have h0:=hzr x.G 0 (by simp);have:zs.length=1:=by simpa using hzl0.symm
    rw [this,Nat.mod_one]
    match zs,this with
    |[v],_=>exact h0
   ·have:=Rep.psl (x:=x.newO (d+100) w.heap.size) (d+100) 1 0 L.toNat (some K.toNat) 0 K.toNat (.inr (by omega)) (by omega) (fun _ e=>by cases e;rfl)
    rw [newO_d]at this;exact this
  ·rw [if_neg hnb]at hr;cases hr
 | false=>
  simp only [h8,Bool.false_eq_true,if_false]at hr
  by_cases hzl:z.length=n∧n≠0
  ·rw [if_pos hzl]at hr
   simp only [Option.some.injEq]at hr;subst hr;obtain⟨hzl,hn0⟩:=hzl;simp only [eff]at he;split at he<;>try (cases he;done)
   rename_i d k1 L k2 K hd1 hL hK;cases he;obtain⟨q0,q1,q2,q3⟩:=hp;rw [hL]at h1;rw [hK]at h2;obtain⟨cv,hrun,hsz,hget⟩:=run_makeSlice (P:=P) (w:=w) (k1:=k1) (k2:=k2) hd hn hb hzc q0 q1 q2 q3;simp only [St.app];have hd':o.dst.getD 0=d:=by rw [hd1];rfl
   rw [hd'];refine Done.newObj hM (d:=d+100) (by omega) (.arr z.length (List.replicate K.toNat z)) hex (by rw [h1.int_inv,h2.int_inv];exact hrun) (by simp [SObj.size,hsz,hzl]) (fun k hk=> ?_) ?_
   ·simp only [SObj.size,List.length_replicate]at hk
    simp only [cellRep,SObj.cell];rw [hget k (by rw [←hzl];exact hk),getD_replicate _ _ _ _ (Nat.div_lt_of_lt_mul (by rw [Nat.mul_comm];exact hk)),←hzl0];have hlt:k % z.length<z.length:=Nat.mod_lt _ (by omega);have:=hzr x.G _ hlt
    have e1:zs.getD (k % z.length) default=zs.getD (k % z.length) Go.undef:=by rw [List.getD_eq_getElem?_getD,List.getD_eq_getElem?_getD,List.getElem?_eq_getElem (by omega)];rfl
    rw [e1];exact this
   ·have:=Rep.psl (x:=x.newO (d+100) w.heap.size) (d+100) z.length 0 L.toNat (some K.toNat) 0 K.toNat (.inr (by omega)) (by omega) (fun _ e=>by cases e;rfl)
    rw [newO_d]at this;exact this
  ·rw [if_neg hzl]at hr;cases hr
theorem RepD.oneCell {G:GM} {c:SV} {v:Value} (h:RepD G c v):v.oneCell'=true:=by cases h<;>rfl
theorem Rep.oneCell {c:SV} {v:Value} (h:Rep x c v) (h1:c.one=true):v.oneCell'=true:=by
 cases h with
 |undef=>simp [SV.one]at h1
 |dat _ _ h _=>exact h.oneCell
 |ptr=>rfl
 |ap=>rfl
 |psl=>rfl
 |agg=>simp [SV.one]at h1
 |tup=>simp [SV.one]at h1
 |fn=>rfl
theorem setCells_get (cs:List SV) (off:Nat) (v:List SV) (h:off+v.length≤cs.length) (i:Nat):(setCells cs off v).getD i .undef=if off≤i∧i<off+v.length then v.getD (i-off) .undef else cs.getD i .undef:=by
 have gen:∀i:Nat,(cs.take off++v++cs.drop (off+v.length)).getD i .undef=if off≤i∧i<off+v.length then v.getD (i-off) .undef else cs.getD i .undef:=by intro i;simp only [List.getD_eq_getElem?_getD];rw [splice_get _ _ _ _ h];split<;>rfl
 unfold setCells;split
 ·rename_i u
  simp only [List.length_singleton]at*;simp only [List.getD_eq_getElem?_getD,List.getElem?_set]
  by_cases hi:off=i
  ·subst hi;rw [if_pos rfl,if_pos (by omega),if_pos (by omega)];simp
  ·rw [if_neg hi,if_neg (by omega)]
 ·exact gen i
theorem setCells_length (cs:List SV) (off:Nat) (v:List SV) (h:off+v.length≤cs.length):(setCells cs off v).length=cs.length:=by
 unfold setCells;split
 ·simp
 ·simp;omega
theorem Done.store (hM:Models C x s a w) {t:TypeId} {X Y:Operand} (ho:o.op= .store t X Y) {n:Nat} (hn:szOf P t=some n) {d off:Nat} (hX:a.eval X= .pointer (some ⟨x.β d,off,none⟩)) {obj obj':SObj} (hl:s.look d=some obj)
 {vs:List Value} (hY:(a.eval Y).cells.toList=vs) (hvn:vs.length=n) (hone:∀v∈vs,v.oneCell'=true) (hb:off+n≤obj.size)
 (hsz:obj'.size=obj.size) (hnew:∀c:Array Value,(∀k,k<obj.size→cellRep x obj k (c.getD k Go.undef))→∀k,k<obj.size→cellRep x obj' k (if off≤k∧k<off+n then vs.getD (k-off) Go.undef else c.getD k Go.undef)):
 Done P C o a w ((s.setO d obj').put o.dst .undef):=by
 obtain⟨c,e,fl,fh,hO,hs,hr⟩:=look_obj hM hl;obtain⟨g1,g2,g3,g4,g5⟩:=putCells_same (x.β d) vs w off;obtain⟨c',hO',hcs,hck⟩:=putCells_owned vs w off c hO (by omega);refine⟨Go.undef,putCells w (x.β d) off vs,x,.skip, ?_,.inr ⟨rfl,rfl⟩,Models.put (s:=s.setO d obj') ⟨hM.tm,hM.defers, ?_⟩ o.dst (.undef _)⟩
 ·simp only [execOp,ho,Instr.storeAt,hX,Instr.sureAddr,Sem.run_bind,Sem.run_pure,Result.andThen_ok,storeVar,szOf_run hn]
  have hsz':(a.eval Y).cells.size=n:=by rw [←Array.length_toList,hY];exact hvn
  rw [if_neg (by simp [hsz']),hY,run_storeCells off vs w c 0 hO (by omega) hone];rfl
 ·refine hM.heap.block (look_mem hl) g1 g2 g3 g4 g5 ⟨c',e,fl,fh,hO',by omega,fun k hk=> ?_⟩
  rw [hck k,hvn];exact hnew c hr k (by omega)
theorem all_one {cs:List SV} {vs:List Value} (h:RepL x cs vs) (h1:cs.all SV.one=true):∀v∈vs,v.oneCell'=true:=by
 intro v hv;obtain⟨i,hi,rfl⟩:=List.getElem_of_mem hv;have hi':i<cs.length:=by rw [h.1];exact hi
 have:=h.2 i hi';have e1:cs.getD i .undef=cs[i]:=by rw [List.getD_eq_getElem?_getD,List.getElem?_eq_getElem hi'];rfl
 have e2:vs.getD i Go.undef=vs[i]:=by rw [List.getD_eq_getElem?_getD,List.getElem?_eq_getElem hi];rfl
 rw [e1,e2]at this;exact this.oneCell (List.all_eq_true.1 h1 _ (List.getElem_mem _))
theorem isData_one {c:SV} (h:c.isData=true):c.one=true:=by cases c<;>simp [SV.isData,SV.one]at*
theorem row_get {sz:Nat} {xs:List (List SV)} (h:∀y∈xs,y.length=sz) {i j n:Nat} {v:List SV} (hi:i<xs.length) (hj:j+n≤sz) (hv:v.length=n):
 (setRow sz xs i j n v).length=xs.length∧∀k,k<xs.length*sz→((setRow sz xs i j n v).getD (k/sz) []).getD (k % sz) .undef=if i*sz+j≤k∧k<i*sz+j+n then v.getD (k-(i*sz+j)) .undef else(xs.getD (k/sz) []).getD (k % sz) .undef:=by
 have hrow:(xs.getD i []).length=sz:=by rw [List.getD_eq_getElem?_getD,List.getElem?_eq_getElem hi];exact h _ (List.getElem_mem _)
 obtain⟨nr,hnr,hset⟩:∃nr:List SV,(∀m,m<sz→nr.getD m .undef=if j≤m∧m<j+n then v.getD (m-j) .undef else(xs.getD i []).getD m .undef)∧setRow sz xs i j n v=xs.set i nr:=by
  unfold setRow;split
  ·rename_i hc
   obtain⟨rfl,rfl⟩:=hc;exact⟨v,fun m hm=>by rw [if_pos ⟨by omega,by omega⟩,Nat.sub_zero],rfl⟩
  ·refine⟨_,fun m hm=> ?_,rfl⟩
   have:=splice_get (xs.getD i []) v j m (by omega);rw [hv]at this;simp only [List.getD_eq_getElem?_getD]at this ⊢;rw [this];split<;>rfl
 rw [hset];refine⟨by simp,fun k hk=> ?_⟩
 have hsz : 0 < sz := by rcases Nat.eq_zero_or_pos sz with h0|h0
                         ·subst h0;omega
                         ·exact h0
 have hkd:=Nat.div_add_mod k sz;have hkm:=Nat.mod_lt k hsz;rw [Nat.mul_comm]at hkd;simp only [List.getD_eq_getElem?_getD,List.getElem?_set]at hnr ⊢
 by_cases hik:i=k/sz
 ·rw [if_pos hik,if_pos hi]
  simp only [Option.getD_some];rw [hnr _ hkm,←hik];rw [←hik]at hkd
  by_cases hc:j≤k % sz∧k % sz<j+n
  ·rw [if_pos hc,if_pos (by omega),show k-(i*sz+j)=k % sz-j from by omega]
  ·rw [if_neg hc,if_neg (by omega)]
 ·rw [if_neg hik,if_neg ?_]
  rintro⟨h1,h2⟩;apply hik;have:i*sz≤k∧k<(i+1)*sz:=by rw [Nat.succ_mul];omega
  rw [eq_comm,Nat.div_eq_iff hsz];rw [Nat.succ_mul]at this;omega
theorem chunk_length (sz:Nat):∀(m:Nat) (v:List SV),(chunk sz m v).length=m
 |0,_=>rfl
 |m+1,v=>by simp [chunk,chunk_length sz m]
theorem chunk_get (sz:Nat) (h0:0<sz):∀(m:Nat) (v:List SV) (k:Nat),k<m*sz→((chunk sz m v).getD (k/sz) []).getD (k % sz) .undef=v.getD k .undef
 |0,_,k,hk=>by omega
 | m+1,v,k,hk=>by
  rw [Nat.succ_mul]at hk;simp only [chunk]
  by_cases h:k<sz
  ·rw [Nat.div_eq_of_lt h,Nat.mod_eq_of_lt h,List.getD_cons_zero]
   simp only [List.getD_eq_getElem?_getD,List.getElem?_take,if_pos h]
  ·obtain⟨j,rfl⟩:∃j,k=j+sz:=⟨k-sz,by omega⟩
   rw [Nat.add_div_right _ h0,Nat.add_mod_right,List.getD_cons_succ,chunk_get sz h0 m (v.drop sz) j (by omega)];simp only [List.getD_eq_getElem?_getD,List.getElem?_drop,Nat.add_comm]
theorem eff_store (hM:Models C x s a w) {t:TypeId} {X Y:Operand} (ho:o.op= .store t X Y) (hr:res1 P o=some so) (he:eff s o.dst so=some e) (hp:e.pre):Done P C o a w (s.app o.dst e):=by
 simp only [res1,ho]at hr;split at hr<;>try (cases hr;done)
 rename_i n r q hn hra hrb;cases hr;have h1:=resArg_rep hM hra;have h2:=resArg_rep hM hrb;simp only [eff]at he;split at he<;>try (cases he;done)
 rename_i hn0;have hL:=h2.cells hn0;cases hu:s.ev r with
 | ptr d off=>
  rw [hu]at he h1;simp only [storeE]at he;split at he<;>try (cases he;done)
  ·rename_i cs hl
   cases he;obtain⟨q0,q1,q2⟩:=hp;refine Done.store hM ho hn h1.ptr_inv hl rfl (by rw [←hL.1];exact q1) (all_one hL q2) q0 (by simp only [SObj.size];exact setCells_length _ _ _ (by omega)) (fun c hc k hk=> ?_);have:=hc k hk;simp only [cellRep]at this ⊢;rw [setCells_get _ _ _ (by omega),q1];split
   ·exact hL.get _
   ·exact this
  ·rename_i sz xs hl
   cases he;obtain⟨rfl,q0,q1,q2⟩:=hp
   refine Done.store hM ho hn h1.ptr_inv hl rfl (by rw [←hL.1];exact q1) (all_one hL (by rw [List.all_eq_true]at q2 ⊢;exact fun z hz=>isData_one (q2 z hz))) (by simp only [SObj.size];omega) (by simp only [SObj.size,chunk_length]) (fun c hc k hk=> ?_)
   simp only [SObj.size]at hk;have hlt:k<(s.ev q).cells.length:=by omega
   have hsz:0<sz:=by
    rcases Nat.eq_zero_or_pos sz with h0|h0
    ·subst h0;omega
    ·exact h0
   simp only [cellRep,SObj.cell];rw [if_pos ⟨by omega,by omega⟩,Nat.sub_zero,chunk_get sz hsz _ _ _ hk,getD_data];refine((hL.2 _ hlt).data (List.all_eq_true.1 q2 _ ?_)).toData;generalize (s.ev q).cells=qq at*;rw [List.getD_eq_getElem?_getD,List.getElem?_eq_getElem hlt];exact List.getElem_mem _
  ·rename_i l hl
   split at he<;>try (cases he;done)
   rename_i l' hv;cases he;obtain⟨rfl,q0,q1⟩:=hp;have hv':=toB_inv hv;rw [hv']at hL
   refine Done.store hM ho hn h1.ptr_inv hl rfl (by rw [←hL.1,List.length_map];exact q1) (all_one hL (by rw [List.all_eq_true];intro z hz;obtain⟨b,_,rfl⟩:=List.mem_map.1 hz;rfl)) (by simp only [SObj.size];omega) (by simp only [SObj.size];omega) (fun c hc k hk=> ?_)
   simp only [SObj.size]at hk;simp only [cellRep,SObj.cell];rw [if_pos ⟨by omega,by omega⟩,Nat.sub_zero];have hlt:k<(l'.map SV.u8).length:=by rw [List.length_map];omega
   have hlt':k<l'.length:=by omega
   have e1:(l'.map SV.u8).getD k .undef= .u8 (l'.getD k 0):=by simp [List.getD_eq_getElem?_getD,List.getElem?_map,List.getElem?_eq_getElem hlt']
   have:=hL.2 k hlt;rw [e1]at this;exact this.data rfl
 | ap d sz i j=>
  rw [hu]at he h1;simp only [storeE]at he;split at he<;>try (cases he;done)
  ·rename_i sz' xs hl
   cases he;obtain⟨rfl,q0,q1,q2,q3,q4⟩:=hp;have hvm:((s.ev q).cells.map SV.data).length=n:=by rw [List.length_map];exact q2
   obtain⟨g1,g2⟩:=row_get q3 q0 q1 hvm
   have hb:i*sz+j+n≤xs.length*sz:=by have:=Nat.mul_le_mul_right sz (Nat.succ_le_of_lt q0);rw [Nat.succ_mul]at this;omega
   refine Done.store hM ho hn h1.ap_inv hl rfl (by rw [←hL.1];exact q2) (all_one hL (by rw [List.all_eq_true]at q4 ⊢;exact fun z hz=>isData_one (q4 z hz))) (by simp only [SObj.size];exact hb) (by simp only [SObj.size];rw [g1]) (fun c hc k hk=> ?_)
   have:=hc k hk;simp only [cellRep,SObj.cell,SObj.size]at this hk ⊢;rw [g2 k hk];split
   ·rename_i hin
    rw [getD_data];have hlt:k-(i*sz+j)<(s.ev q).cells.length:=by omega
    refine((hL.2 _ hlt).data (List.all_eq_true.1 q4 _ ?_)).toData;generalize (s.ev q).cells=qq at*;rw [List.getD_eq_getElem?_getD,List.getElem?_eq_getElem hlt];exact List.getElem_mem _
   ·exact this
  ·rename_i l hl
   split at he<;>try (cases he;done)
   rename_i b hb;cases he;obtain⟨rfl,rfl,rfl,q0⟩:=hp;rw [hb]at hL;refine Done.store hM ho hn h1.ap_inv hl rfl (by rw [←hL.1];rfl) (all_one hL rfl) (by simp only [SObj.size];omega) (by simp [SObj.size]) (fun c hc k hk=> ?_);have:=hc k hk;simp only [cellRep,SObj.cell,SObj.size]at this hk ⊢;simp only [Nat.mul_one,Nat.add_zero]
   by_cases hki:k=i
   ·subst hki
    rw [if_pos (by omega),Nat.sub_self];have e1:(l.set k b).getD k 0=b:=by rw [List.getD_eq_getElem?_getD,List.getElem?_set,if_pos rfl,if_pos hk];rfl
    rw [e1];exact(hL.2 0 (by simp)).data rfl
   ·rw [if_neg (by omega)]
    have e1:(l.set i b).getD k 0=l.getD k 0:=by rw [List.getD_eq_getElem?_getD,List.getElem?_set,if_neg (fun e=>hki e.symm),←List.getD_eq_getElem?_getD]
    rw [e1];exact this
 |_=>rw [hu]at he;simp [storeE]at he
end Go.Sy
namespace Go.Sy
variable [LaidData]
variable {P : Program} {C : Ctx} {x : Sit} {s : St} {a : Act} {w : World} {o : Oper} {so : SOp} {e : Eff}
def RowD (G:GM) (b off:Nat) (fl:List SV):Prop:=∀k,k<fl.length→∃v,G b (off+k)=some v∧RepD G (fl.getD k .undef) v
def Flat (G:GM) (sz:Nat) (fl:List SV) (v:Value) (n cap:Nat):Prop:=
 n*sz=fl.length∧n≤cap∧((∃b off,v= .slice (some ⟨b,off,none⟩) n cap∧RowD G b off fl)∨(v= .slice none 0 0∧n=0∧cap=0))
theorem getD_map_u8 (l:List UInt8) (k:Nat) (h:k<l.length):(l.map SV.u8).getD k .undef= .u8 (l.getD k 0):=by simp only [List.getD_eq_getElem?_getD,List.getElem?_map];rw [List.getElem?_eq_getElem h];rfl
theorem flat_byt {G:GM} {l:List UInt8} {t:Tok} {v:Value} (h:RepD G (.byt l t) v):∃cap,Flat G 1 (l.map .u8) v l.length cap∧∃bs,v= .slice bs l.length cap:=by
 cases h with
 |bytN=>exact⟨0,⟨by simp,by simp,.inr ⟨rfl,rfl,rfl⟩⟩,none,rfl⟩
 |byt _ _ b off cap n hn hc h=>subst hn;refine⟨cap,⟨by simp,hc,.inl ⟨b,off,rfl,fun k hk=> ?_⟩⟩,_,rfl⟩;rw [List.length_map]at hk;exact⟨_,h k hk,by rw [getD_map_u8 _ _ hk];exact .u8 _⟩
theorem byt_flat {G:GM} {l:List UInt8} {t:Tok} {v:Value} {cap:Nat} (h:Flat G 1 (l.map .u8) v l.length cap):RepD G (.byt l t) v:=by
 obtain⟨_,hc,⟨b,off,rfl,hr⟩|⟨rfl,h0,_⟩⟩:=h
 ·refine .byt l t b off cap l.length rfl hc fun i hi=> ?_
  obtain⟨v,hv,hrep⟩:=hr i (by simpa using hi);rw [getD_map_u8 _ _ hi]at hrep;cases hrep;exact hv
 ·have:l=[]:=List.length_eq_zero_iff.1 h0
  subst this;exact .bytN t
theorem flatten_len {sz:Nat} {xs:List (List SV)} (h:∀y∈xs,y.length=sz):xs.flatten.length=xs.length*sz:=by
 induction xs with
 |nil=>simp
 |cons y r ih=>simp only [List.flatten_cons,List.length_append,List.length_cons,Nat.succ_mul];rw [ih (fun z hz=>h z (List.mem_cons_of_mem _ hz)),h y (by simp)];omega
theorem rows_of_get {sz:Nat} {xs:List (List SV)} (h:∀i,i<xs.length→(xs.getD i []).length=sz):∀y∈xs,y.length=sz:=by intro y hy;obtain⟨i,hi,rfl⟩:=List.getElem_of_mem hy;have:=h i hi;rwa [List.getD_eq_getElem?_getD,List.getElem?_eq_getElem hi]at this
theorem flat_lst {G : GM} {sz:Nat} {xs:List (List SV)} {t:Tok} {v:Value} (h:RepD G (.lst sz xs t) v):∃cap,Flat G sz xs.flatten v xs.length cap∧(∃bs,v= .slice bs xs.length cap)∧∀y∈xs,y.length=sz:=by
 cases h with
 |lstN=>exact⟨0,⟨by simp,by simp,.inr ⟨rfl,rfl,rfl⟩⟩,⟨none,rfl⟩,by simp⟩
 | lst _ _ _ b off cap n vl hn hc hl hg h=>
  subst hn;have hrows:=rows_of_get hl;refine⟨cap,⟨(flatten_len hrows).symm,hc,.inl ⟨b,off,rfl,fun k hk=> ?_⟩⟩,⟨_,rfl⟩,hrows⟩;rw [flatten_len hrows]at hk
  have hsz : 0 < sz := by rcases Nat.eq_zero_or_pos sz with h0|h0
                          ·subst h0;omega
                          ·exact h0
  have hd:k/sz<xs.length:=Nat.div_lt_of_lt_mul (by rw [Nat.mul_comm];exact hk);have hm:=Nat.mod_lt k hsz;have hkd:=Nat.div_add_mod k sz;rw [Nat.mul_comm]at hkd;refine⟨vl (k/sz) (k % sz), ?_, ?_⟩
  ·have:=hg _ _ hd hm
   rwa [Nat.add_assoc,hkd]at this
  ·rw [flatten_getD xs hrows k hk];exact h _ _ hd hm
theorem lst_flat {G:GM} {sz:Nat} {xs:List (List SV)} {t:Tok} {v:Value} {cap:Nat} (h:Flat G sz xs.flatten v xs.length cap) (hrows:∀y∈xs,y.length=sz):RepD G (.lst sz xs t) v:=by
 obtain⟨_,hc,⟨b,off,rfl,hr⟩|⟨rfl,h0,_⟩⟩:=h
 ·refine .lst sz xs t b off cap xs.length (fun i j=>(G b (off+i*sz+j)).getD Go.undef) rfl hc (fun i hi=> ?_) (fun i j hi hj=> ?_) (fun i j hi hj=> ?_)
  ·rw [List.getD_eq_getElem?_getD,List.getElem?_eq_getElem hi];exact hrows _ (List.getElem_mem _)
  all_goals
   have hk:i*sz+j<xs.length*sz:=by have:=Nat.mul_le_mul_right sz (Nat.succ_le_of_lt hi);rw [Nat.succ_mul]at this;omega
   obtain⟨v,hv,hrep⟩:=hr (i*sz+j) (by rw [flatten_len hrows];exact hk);rw [←Nat.add_assoc]at hv
  ·rw [hv];rfl
  ·rw [hv]
   rw [flatten_getD xs hrows _ hk,show(i*sz+j)/sz=i from by rw [Nat.mul_comm,Nat.mul_add_div (by omega),Nat.div_eq_of_lt (by omega)];rfl,
    show(i*sz+j) % sz=j from by rw [Nat.mul_comm,Nat.mul_add_mod,Nat.mod_eq_of_lt (by omega)]]at hrep
   exact hrep
 ·have:xs=[]:=List.length_eq_zero_iff.1 h0
  subst this;exact .lstN sz t
theorem RowD.mono {G G':GM} (hG:∀b o v,G b o=some v→G' b o=some v) {b off:Nat} {fl:List SV} (h:RowD G b off fl):RowD G' b off fl:=fun k hk=>by obtain⟨v,hv,hr⟩:=h k hk;exact⟨v,hG _ _ _ hv,hr.mono hG⟩
structure New (x:Sit) (ns:List Value) (fl:List SV):Prop where
 len:fl.length=ns.length
 rep:∀k,k<fl.length→RepD x.G (fl.getD k .undef) (ns.getD k Go.undef)
 one:∀v∈ns,v.oneCell'=true
theorem zeroCells_size (z:Array Value) (n:Nat):(Builtin.zeroCells z n).size=n*z.size:=by simp [Builtin.zeroCells]
theorem Models.retok (hM:Models C x s a w) {t:Tok} (ht:t.ready s=true) (d:Nat) {sz n cap:Nat} {bs:Option Addr} (hsp:spareOK x sz t (.slice bs n cap)):
 ∃b lo hi,Models C (x.newT d b lo hi) (s.grew t d) a w∧spareOK (x.newT d b lo hi) sz (.id d) (.slice bs n cap):=by
 have empty:cap=n→∃b lo hi,Models C (x.newT d b lo hi) (s.grew t d) a w∧spareOK (x.newT d b lo hi) sz (.id d) (.slice bs n cap):=by
  intro hc;refine⟨0,0,0,⟨?_,hM.defers, ?_⟩,bs,n,cap,rfl,.inl hc⟩
  ·exact RepL.mono (x:=x) (x':=x.newT d 0 0 0) (lo:=d) (hi:=d+1) (fun _ _ _ h=>h) (fun _ _=>rfl) (Sit.newT_ne x d 0 0 0) hM.tm
  ·refine(hM.heap.sub (tk':=t.eat s.tk) (List.Sublist.refl _) ?_).addT d 0 0 0 (.inl rfl) (.inl rfl) (.inl rfl)
   intro u hu;cases t with
   |id t=>exact mem_dropT_sub hu
   |_=>exact hu
 cases t with
 |no=>simp [Tok.ready]at ht
 |clip=>obtain⟨b',n',he⟩:=hsp;simp only [Value.slice.injEq]at he;exact empty (by omega)
 | id t=>
  obtain⟨b',n',cap',he,hh⟩:=hsp;simp only [Value.slice.injEq]at he;obtain⟨rfl,rfl,rfl⟩:=he;rcases hh with hc|⟨b,off,rfl,hτ⟩
  ·exact empty hc
  ·have htm:t∈s.tk:=by simpa [Tok.ready]using ht
   refine⟨b,off+n*sz,off+cap*sz,⟨?_,hM.defers, ?_⟩,_,n,cap,rfl,.inr ⟨b,off,rfl,Sit.newT_eq x d _ _ _⟩⟩
   ·exact RepL.mono (x:=x) (x':=x.newT d b (off+n*sz) (off+cap*sz)) (lo:=d) (hi:=d+1) (fun _ _ _ h=>h) (fun _ _=>rfl) (Sit.newT_ne x d _ _ _) hM.tm
   ·have h1:=hM.heap.tks t htm
    unfold TokRep at h1;rw [hτ]at h1;refine(hM.heap.sub (tk':=dropT t (t+1) s.tk) (List.Sublist.refl _) (fun u hu=>mem_dropT_sub hu)).addT d b (off+n*sz) (off+cap*sz) h1 ?_ ?_
    ·by_cases hc:off+n*sz=off+cap*sz
     ·exact .inl hc
     ·refine .inr fun p hp _=> ?_
      have:=hM.heap.tko t htm p hp;rw [hτ]at this;exact this.resolve_right hc
    ·by_cases hc:off+n*sz=off+cap*sz
     ·exact .inl hc
     ·refine .inr fun u hu _=> ?_
      obtain⟨hu,hne⟩:=mem_dropT.1 hu;have:=hM.heap.tkd t htm u hu (by omega);rw [hτ]at this;rcases this with h|h|h
      ·exact .inl h
      ·exact absurd h hc
      ·exact .inr h
theorem run_app_in {t u el:TypeId} {d2:TypeDesc} {n m len cap:Nat} (hd:P.underlying t=some (.slice el)) (hu:P.underlying u=some d2) (hu2:(∃e',d2= .slice e')∨d2= .string) (hn:szOf P el=some n) {ty:TypeId} {bs:Option Addr} {Y:Value} {ns:List Value} {w1:World}
 (hlen:(Builtin.lenOf Y).run P w= .ok m w) (hcells:(Builtin.firstCells n m Y).run P w= .ok ns.toArray w) (hc:len+m≤cap)
 (hst:(match bs with|some ad=>storeCells (ad.add (len*n)) ns|none=>pure ():Sem Unit).run P w= .ok () w1):
 (Builtin.append_ #[t,u] ty #[.slice bs len cap,Y]).run P w= .ok (.slice bs (len+m) cap) w1:=by
 have e:(#[t,u]:Array TypeId)[0]? =some t:=rfl;have e':(#[t,u]:Array TypeId)[1]? =some u:=rfl;have e2:(#[Value.slice bs len cap,Y]:Array Value)[0]? =some (.slice bs len cap):=rfl;have e3:(#[Value.slice bs len cap,Y]:Array Value)[1]? =some Y:=rfl;rcases hu2 with⟨e4,rfl⟩|rfl
 all_goals
  simp only [Builtin.append_,e,e',e2,e3,Sem.run_bind,run_underlying hd,Result.andThen_ok,szOf_run hn,run_underlying hu,Sem.run_pure,Bool.false_eq_true,if_false,hlen,hc,if_true,Bool.not_false,hcells];cases bs with
  |none=>simp only [Sem.run_pure]at hst;cases hst;rfl
  |some ad=>simp only [Sem.run_bind];rw [hst];rfl
theorem run_app_out {t u el:TypeId} {d2:TypeDesc} {n m len cap by_:Nat} {i:TypeInfo} {z:Value} (hd:P.underlying t=some (.slice el)) (hu:P.underlying u=some d2) (hu2:(∃e',d2= .slice e')∨d2= .string) (hn:szOf P el=some n) {ty:TypeId} {bs:Option Addr} {Y:Value} {os ns:List Value}
 (hi:P.info? el=some i) (hib:i.bytes=by_) (hb0:by_≠0) (hzr:∀w,(zeroValue el).run P w= .ok z w)
 (hlen:∀w',w'.heap=w.heap→(Builtin.lenOf Y).run P w'= .ok m w') (hcells:∀w',w'.heap=w.heap→(Builtin.firstCells n m Y).run P w'= .ok ns.toArray w') (hold:∀w',w'.heap=w.heap→(Builtin.firstCells n len (.slice bs len cap)).run P w'= .ok os.toArray w')
 (hc:¬len+m≤cap) (hroom:(len+m)*by_≤140737488355328):
 ∃nc,len+m≤nc∧(Builtin.append_ #[t,u] ty #[.slice bs len cap,Y]).run P w= .ok (.slice (some ⟨w.heap.size,0,none⟩) (len+m) nc) (w.drew.alloc (.cells (os.toArray++ns.toArray++Builtin.zeroCells z.cells (nc-(len+m))) el (0,0))):=by
 have e:(#[t,u]:Array TypeId)[0]? =some t:=rfl;have e':(#[t,u]:Array TypeId)[1]? =some u:=rfl;have e2:(#[Value.slice bs len cap,Y]:Array Value)[0]? =some (.slice bs len cap):=rfl;have e3:(#[Value.slice bs len cap,Y]:Array Value)[1]? =some Y:=rfl;have hf:(Question.appendCap (len+m) cap el).forced=false:=rfl
 have hfit:¬Builtin.nextslicecap (len+m) cap*i.bytes>2^48:=by have:=growslice_fits (need:=len+m) (old:=cap) (bytes:=by_) (by omega) hroom;rw [hib];omega
 refine⟨(Question.appendCap (len+m) cap el).cut (w.tape w.drawn (Question.appendCap (len+m) cap el)),by simp only [Question.cut];omega, ?_⟩;rcases hu2 with⟨e4,rfl⟩|rfl
 all_goals
  simp only [Builtin.append_,e,e',e2,e3,Sem.run_bind,run_underlying hd,Result.andThen_ok,szOf_run hn,run_underlying hu,Sem.run_pure,Bool.false_eq_true,if_false,hlen w rfl,hc,run_typeInfo w hi,hib,hb0,false_or,and_false];rw [if_neg (by rw [←hib];exact hfit)];simp only [Sem.run_bind,run_choose_drew,hf,Bool.false_eq_true,if_false,Result.andThen_ok,run_typeInfo w.drew hi,run_askRoom,hold w.drew rfl,Bool.not_false,if_true,hcells w.drew rfl,hzr,newRow,run_newObj_alloc,Sem.run_pure];rfl
theorem append_get3 (os ns:List Value) (r:Array Value) (k:Nat) (h:k<os.length+ns.length):(os.toArray++ns.toArray++r)[k]? =(os++ns)[k]? :=by rw [Array.getElem?_append_left (by simp;omega)];rw [←Array.getElem?_toList];simp
theorem run_append (hM:Models C x s a w) {t u el:TypeId} {d2:TypeDesc} {n by_:Nat} {zs:List Value} (hd:P.underlying t=some (.slice el)) (hu:P.underlying u=some d2) (hu2:(∃e',d2= .slice e')∨d2= .string) (hn:szOf P el=some n) (hb:byOf P el=some by_)
 (hz:zcells P el=some zs) (hb0:by_≠0) (hn0':n≠0) (hzl:zs.length=n) {ty:TypeId} {X Y:Value} {tok:Tok} {fl fl':List SV} {ns:List Value} {len m cap:Nat} (hX:Flat x.G n fl X len cap) (htok:tok.ready s=true) (hsp:spareOK x n tok X)
 (hlen:∀w',w'.heap=w.heap→(Builtin.lenOf Y).run P w'= .ok m w') (hcells:∀w',w'.heap=w.heap→(Builtin.firstCells n m Y).run P w'= .ok ns.toArray w') (hnl:ns.length=m*n) (hnew:New x ns fl') (hroom:(len+m)*by_≤140737488355328) (d:Nat):
 ∃v w' x' cap',(Builtin.append_ #[t,u] ty #[X,Y]).run P w= .ok v w'∧Models C x' (s.grew tok d) a w'∧Flat x'.G n (fl++fl') v (len+m) cap'∧spareOK x' n (.id d) v:=by
 obtain⟨hfl,hlc,hX'⟩:=hX;obtain⟨z,hzc,hzr⟩:=zeroValue_run hz
 have hby:∃i,P.info? el=some i∧i.bytes=by_:=by
  unfold byOf at hb;cases hi:P.info? el with
  |none=>simp [hi]at hb
  |some i=>simp [hi]at hb;exact⟨i,rfl,hb⟩
 obtain⟨i,hi,hib⟩:=hby
 obtain⟨bs,hXe⟩:∃bs,X= .slice bs len cap:=by
  rcases hX' with⟨b,off,rfl,_⟩|⟨rfl,rfl,rfl⟩
  ·exact⟨_,rfl⟩
  ·exact⟨_,rfl⟩
 subst hXe;have hfl':fl'.length=m*n:=by rw [hnew.len,hnl]
 have hsum:(len+m)*n=(fl++fl').length:=by rw [List.length_append,hfl',←hfl,Nat.add_mul]
 by_cases hc:len+m≤cap
 ·by_cases hm:ns=[]
  ·
   subst hm;have hfl0:fl'=[]:=List.length_eq_zero_iff.1 (by rw [hnew.len];rfl);subst hfl0;obtain⟨b,lo,hi',hM',hsp'⟩:=hM.retok htok d hsp
   by_cases hm0:m=0
   ·subst hm0
    refine⟨_,w,_,cap,run_app_in hd hu hu2 hn (hlen w rfl) (hcells w rfl) hc (by cases bs<;>rfl),hM', ?_,hsp'⟩;refine⟨by simpa using hfl,hc, ?_⟩;rcases hX' with⟨b,off,he,hr⟩|⟨he,h1,h2⟩
    ·exact .inl ⟨b,off,he,by rw [List.append_nil];exact hr⟩
    ·exact .inr ⟨he,h1,h2⟩
   ·
    have hn0:n=0:=by
     simp only [List.length_nil]at hnl;rcases Nat.mul_eq_zero.1 hnl.symm with h|h
     ·exact absurd h hm0
     ·exact h
    exact absurd hn0 hn0'
  ·have hpos:0<ns.length:=List.length_pos_iff.2 hm
   have hmn:0<m*n:=by omega
   cases tok with
   |no=>simp [Tok.ready]at htok
   |clip=>
    obtain⟨b',n',he⟩:=hsp;simp only [Value.slice.injEq]at he;have:m=0:=by omega
    subst this;omega
   | id tk=>
    have htm:tk∈s.tk:=by simpa [Tok.ready]using htok
    obtain⟨b',n',cap',he,hh⟩:=hsp;simp only [Value.slice.injEq]at he;obtain⟨rfl,rfl,rfl⟩:=he;rcases hh with hcl|⟨b,off,rfl,hτ⟩
    ·have:m=0:=by omega
     subst this;omega
    ·have hle1:off+len*n+ns.length≤off+cap*n:=by
      rw [hnl,Nat.add_assoc,←Nat.add_mul];exact Nat.add_le_add_left (Nat.mul_le_mul_right _ hc) _
     obtain⟨f1,f2,f3,f4,f5,f6,f7,⟨c0,e0,fl0,fh0,hO,hcs⟩⟩:=hM.heap.fill htm hτ ns hle1 hpos
     have hrun:=run_app_in (t:=t) (u:=u) (ty:=ty) (Y:=Y) (bs:=some ⟨b,off,none⟩) (w1:=putCells w b (off+len*n) ns) hd hu hu2 hn (hlen w rfl) (hcells w rfl) hc (by simp only [addr_add];exact run_storeCells (off+len*n) ns w c0 0 hO (by omega) hnew.one)
     refine⟨_,_,(x.fill b (off+len*n) ns).newT d b (off+len*n+ns.length) (off+cap*n),cap,hrun,⟨?_,hM.defers, ?_⟩,⟨hsum,hc,.inl ⟨b,off,rfl, ?_⟩⟩, ?_⟩
     ·exact RepL.mono (x:=x) (x':=(x.fill b (off+len*n) ns).newT d b (off+len*n+ns.length) (off+cap*n)) (lo:=d) (hi:=d+1) f1 (fun _ _=>rfl) (Sit.newT_ne (x.fill b (off+len*n) ns) d _ _ _) hM.tm
     ·exact f2.addT d b _ _ (.inr ⟨f3,f4,f5⟩) (.inr fun p hp _=>f6 p hp) (.inr fun u hu _=>f7 u hu)
     ·rcases hX' with⟨b2,off2,he2,hr⟩|⟨he2,_,_⟩
      ·simp only [Value.slice.injEq,Option.some.injEq,Addr.mk.injEq]at he2
       obtain⟨⟨rfl,rfl,_⟩,_⟩:=he2;intro k hk
       by_cases hk1:k<fl.length
       ·obtain⟨v,hv,hrv⟩:=hr k hk1
        refine⟨v,f1 _ _ _ hv, ?_⟩;have:(fl++fl').getD k .undef=fl.getD k .undef:=by simp only [List.getD_eq_getElem?_getD,List.getElem?_append_left hk1]
        rw [this];exact hrv.mono f1
       ·rw [List.length_append]at hk
        refine⟨ns.getD (k-fl.length) Go.undef, ?_, ?_⟩
        ·show(x.fill b (off+len*n) ns).G b (off+k)=_
         simp only [Sit.fill];rw [if_pos ⟨trivial,by omega,by omega⟩,show off+k-(off+len*n)=k-fl.length from by omega]
        ·have:(fl++fl').getD k .undef=fl'.getD (k-fl.length) .undef:=by simp only [List.getD_eq_getElem?_getD,List.getElem?_append_right (Nat.le_of_not_lt hk1)]
         rw [this];exact(hnew.rep _ (by omega)).mono f1
      ·cases he2
     ·refine⟨_,_,cap,rfl,.inr ⟨b,off,rfl, ?_⟩⟩
      rw [Sit.newT_eq,hnl,Nat.add_assoc,←Nat.add_mul]
 ·
  obtain⟨os,hos,hosl,hosv⟩:∃os:List Value,(∀w',w'.heap=w.heap→(Builtin.firstCells n len (.slice bs len cap)).run P w'= .ok os.toArray w')∧os.length=fl.length∧∀k,k<fl.length→RepD x.G (fl.getD k .undef) (os.getD k Go.undef):=by
   rcases hX' with⟨b,off,he,hr⟩|⟨he,h1,h2⟩
   ·simp only [Value.slice.injEq]at he
    obtain⟨rfl,_⟩:=he;refine⟨(List.range (len*n)).map fun k=>(w.cell? ⟨b,off+k,none⟩).getD Go.undef,fun w' hw'=> ?_,by simp [hfl],fun k hk=> ?_⟩
    ·simp only [Builtin.firstCells]
     refine run_loadCells w' _ _ _ fun j hj=> ?_
     rw [addr_add,cell_of_heap (w:=w) (by rw [hw'])];obtain⟨v,hv,_⟩:=hr j (by omega);rw [hM.heap.per _ _ _ hv];rfl
    ·obtain⟨v,hv,hrv⟩:=hr k hk
     have:((List.range (len*n)).map fun k=>(w.cell? ⟨b,off+k,none⟩).getD Go.undef).getD k Go.undef=v:=by rw [List.getD_eq_getElem?_getD];simp [show k<len*n from by omega,hM.heap.per _ _ _ hv]
     rw [this];exact hrv
   ·simp only [Value.slice.injEq]at he
    obtain⟨rfl,_⟩:=he;have:fl=[]:=List.length_eq_zero_iff.1 (by rw [←hfl,h1,Nat.zero_mul]);subst this;exact⟨[],fun w' _=>rfl,rfl,fun k hk=>by simp at hk⟩
  obtain⟨nc,hnc,hrun⟩:=run_app_out (t:=t) (u:=u) (ty:=ty) (Y:=Y) hd hu hu2 hn hi hib hb0 hzr hlen hcells hos hc hroom
  let cv:Array Value:=os.toArray++ns.toArray++Builtin.zeroCells z.cells (nc-(len+m))
  have hcvs:cv.size=nc*n:=by
   have hzs:z.cells.size=n:=by rw [←Array.length_toList,hzc];exact hzl
   simp only [cv,Array.size_append,List.size_toArray,zeroCells_size,hzs,hosl,hnl,←hfl];rw [←Nat.add_mul,←Nat.add_mul];congr 1;omega
  have hGnew:∀o,x.G w.heap.size o=none:=by
   intro o;cases hg:x.G w.heap.size o with
   |none=>rfl
   |some v=>exact absurd (hM.heap.ltG hg) (by omega)
  have hle:=hM.heap.newD_le cv ((len+m)*n);have hH:Heap C (x.newD w.heap.size cv ((len+m)*n)) s.ob s.tk (w.drew.alloc (.cells cv el (0,0))):=hM.heap.drew.allocD ((len+m)*n);have hown:Owned (w.drew.alloc (.cells cv el (0,0))) w.heap.size cv el 0 0:=⟨heap_alloc_new (w:=w.drew),fun i _ h=>by omega⟩;refine⟨_,_,(x.newD w.heap.size cv ((len+m)*n)).newT d w.heap.size ((len+m)*n) (nc*n),nc,hrun,⟨?_,hM.defers, ?_⟩,⟨hsum,hnc,.inl ⟨_,0,rfl, ?_⟩⟩, ?_⟩
  ·exact RepL.mono (x:=x) (x':=(x.newD w.heap.size cv ((len+m)*n)).newT d w.heap.size ((len+m)*n) (nc*n)) (lo:=d) (hi:=d+1) hle (fun _ _=>rfl) (Sit.newT_ne (x.newD w.heap.size cv ((len+m)*n)) d _ _ _) hM.tm
  ·refine(hH.sub (tk':=tok.eat s.tk) (List.Sublist.refl _) ?_).addT d w.heap.size _ _ (.inr ⟨⟨cv,el,0,0,hown,by omega⟩,hM.heap.new _ hM.heap.size,fun o h1 h2=> ?_⟩) (.inr fun p hp _=> ?_) (.inr fun u hu _=> ?_)
   ·intro u hu
    cases tok with
    |id t=>exact mem_dropT_sub hu
    |_=>exact hu
   ·simp only [Sit.newD];rw [if_neg (by omega)];exact hGnew o
   ·obtain⟨⟨c2,e2,fl2,fh2,hO2,_⟩,_⟩:=hM.heap.obs p hp
    have:=hO2.lt;show w.heap.size≠x.β p.1;omega
   ·have hu':u∈s.tk:=by
     cases tok with
     |id t=>exact mem_dropT_sub hu
     |_=>exact hu
    rcases hM.heap.tks u hu' with h|⟨⟨c2,e2,fl2,fh2,hO2,_⟩,_⟩
    ·exact .inr h
    ·have:=hO2.lt
     exact .inl (by show w.heap.size≠(x.τ u).1;omega)
  ·intro k hk
   have hkl:k<os.length+ns.length:=by rw [hosl,←hnew.len,←List.length_append];exact hk
   have hcvk:cv[k]? =(os++ns)[k]? :=append_get3 os ns _ k hkl;have hk2:k<(len+m)*n:=by rw [hsum];exact hk
   refine⟨(os++ns).getD k Go.undef, ?_, ?_⟩
   ·show(x.newD w.heap.size cv ((len+m)*n)).G w.heap.size (0+k)=_
    simp only [Sit.newD];rw [if_pos ⟨trivial,by omega⟩,Nat.zero_add,hcvk];have:k<(os++ns).length:=by rw [List.length_append];exact hkl
    rw [List.getElem?_eq_getElem this,List.getD_eq_getElem?_getD,List.getElem?_eq_getElem this];rfl
   ·refine RepD.mono (G:=x.G) hle ?_
    by_cases hk1:k<fl.length
    ·have e1:(fl++fl').getD k .undef=fl.getD k .undef:=by simp only [List.getD_eq_getElem?_getD,List.getElem?_append_left hk1]
     have e2:(os++ns).getD k Go.undef=os.getD k Go.undef:=by simp only [List.getD_eq_getElem?_getD,List.getElem?_append_left (show k<os.length by omega)]
     rw [e1,e2];exact hosv k hk1
    ·have e1:(fl++fl').getD k .undef=fl'.getD (k-fl.length) .undef:=by simp only [List.getD_eq_getElem?_getD,List.getElem?_append_right (Nat.le_of_not_lt hk1)]
     have e2:(os++ns).getD k Go.undef=ns.getD (k-fl.length) Go.undef:=by simp only [List.getD_eq_getElem?_getD,List.getElem?_append_right (show os.length≤k by omega),hosl]
     rw [e1,e2];exact hnew.rep _ (by rw [List.length_append]at hk;omega)
  ·exact⟨_,_,nc,rfl,.inr ⟨w.heap.size,0,rfl,by rw [Sit.newT_eq];simp⟩⟩
theorem bytesOf_sound (hM:Models C x s a w) {u:SV} {Y:Value} {p:Prop} {l:List UInt8} (h:Rep x u Y) (hb:bytesOf s u=some (p,l)) (hp:p):
 (∀w',w'.heap=w.heap→(Builtin.lenOf Y).run P w'= .ok l.length w')∧(∀m,m≤l.length→∀w',w'.heap=w.heap→(Builtin.firstCells 1 m Y).run P w'= .ok ((l.take m).map fun b=>Value.int .u8 b.toNat).toArray w'):=by
 have load:∀(b off m:Nat),m≤l.length→(∀i,i<l.length→w.cell? ⟨b,off+i,none⟩=some (.int .u8 (l.getD i 0).toNat))→∀w':World,w'.heap=w.heap→
  (loadCells ⟨b,off,none⟩ (m*1)).run P w'= .ok ((l.take m).map fun b=>Value.int .u8 b.toNat).toArray w':=by
  intro b off m hm hc w' hw';rw [run_loadCells w' _ _ (fun i=> .int .u8 (l.getD i 0).toNat) (fun j hj=>by rw [addr_add,cell_of_heap (w:=w) (by rw [hw'])];exact hc j (by omega))]
  congr 2
  apply List.ext_getElem?;intro i
  by_cases hi:i<m
  ·simp [hi,List.getD_eq_getElem?_getD,show i<l.length from by omega]
  ·simp [hi];omega
 cases u with
 | byt l' t=>
  simp only [bytesOf,Option.some.injEq,Prod.mk.injEq]at hb;obtain⟨rfl,rfl⟩:=hb;have hD:=h.data rfl;cases hY:Y with
  | slice ad n cp=>
   rw [hY]at hD;cases hD with
   |bytN=>exact⟨fun w' _=>rfl,fun m hm w' _=>by simp at hm;subst hm;rfl⟩
   |byt _ _ b off _ _ hn hc hg=>subst hn;exact⟨fun w' _=>rfl,fun m hm w' hw'=>by simp only [Builtin.firstCells];exact load b off m hm (fun i hi=>hM.heap.per _ _ _ (hg i hi)) w' hw'⟩
  |_=>rw [hY]at hD;cases hD
 |str l'=>simp only [bytesOf,Option.some.injEq,Prod.mk.injEq]at hb;obtain⟨rfl,rfl⟩:=hb;rw [h.str_inv];refine⟨fun w' _=>by simp [Builtin.lenOf,ByteArray.size],fun m hm w' _=> ?_⟩;simp only [Builtin.firstCells,str_slc,List.drop_zero,Sem.run_pure];simp
 | psl o' sz off n cp=>
  simp only [bytesOf]at hb;split at hb<;>try (cases hb;done)
  rename_i l' hl;simp only [Option.some.injEq,Prod.mk.injEq]at hb;obtain⟨rfl,rfl⟩:=hb;obtain⟨hp0,hp1⟩:=hp;obtain⟨cp,hnc,_,off',he',hoff⟩:=h.psl_inv;have hlen:((l'.drop off).take n).length=n:=by simp;omega
  rw [he'];refine⟨fun w' _=>by simp only [Builtin.lenOf,hlen];rfl,fun m hm w' hw'=> ?_⟩;simp only [Builtin.firstCells]
  by_cases hn:cp=0
  ·have:m=0:=by omega
   subst this;rfl
  ·have hoff':off'=off:=by
    rcases hoff with h|h
    ·omega
    ·rw [hp0,Nat.mul_one]at h;exact h
   subst hoff';refine load (x.β o') off' m hm (fun i hi=> ?_) w' hw';obtain⟨v,h2,h3⟩:=(look_obj hM hl).cell (k:=off'+i) (by simp only [SObj.size];omega);rw [h2];have h4:RepD x.G (.u8 (l'.getD (off'+i) 0)) v:=h3;cases h4;simp only [List.getD_eq_getElem?_getD,List.getElem?_take,if_pos (show i<n by omega),List.getElem?_drop]
 |_=>simp [bytesOf]at hb
theorem new_bytes (l:List UInt8):New x (l.map fun b=>Value.int .u8 b.toNat) (l.map .u8):=by
 refine⟨by simp,fun k hk=> ?_,fun v hv=> ?_⟩
 ·rw [List.length_map]at hk
  rw [getD_map_u8 _ _ hk]
  have:(l.map fun b=>Value.int .u8 b.toNat).getD k Go.undef= .int .u8 (l.getD k 0).toNat:=by simp only [List.getD_eq_getElem?_getD,List.getElem?_map];rw [List.getElem?_eq_getElem hk];rfl
  rw [this];exact .u8 _
 ·obtain⟨b,_,rfl⟩:=List.mem_map.1 hv;rfl
theorem rowsOf_sound (hM:Models C x s a w) {sz:Nat} {u:SV} {Y:Value} {p:Prop} {xs:List (List SV)} (h:Rep x u Y) (hb:rowsOf s sz u=some (p,xs)) (hp:p):
 (∀y∈xs,y.length=sz)∧(∀w',w'.heap=w.heap→(Builtin.lenOf Y).run P w'= .ok xs.length w')∧
 ∃ns:List Value,New x ns xs.flatten∧∀m,m≤xs.length→∀w',w'.heap=w.heap→(Builtin.firstCells sz m Y).run P w'= .ok (ns.take (m*sz)).toArray w':=by
 have gen:∀(b off:Nat),(∀y∈xs,y.length=sz)→(∀k,k<xs.flatten.length→∃v,w.cell? ⟨b,off+k,none⟩=some v∧RepD x.G (xs.flatten.getD k .undef) v)→
  ∃ns:List Value,New x ns xs.flatten∧∀m,m≤xs.length→∀w',w'.heap=w.heap→(loadCells ⟨b,off,none⟩ (m*sz)).run P w'= .ok (ns.take (m*sz)).toArray w':=by
  intro b off hrows hc;refine⟨(List.range xs.flatten.length).map fun k=>(w.cell? ⟨b,off+k,none⟩).getD Go.undef,⟨by simp,fun k hk=> ?_,fun v hv=> ?_⟩,fun m hm w' hw'=> ?_⟩
  ·obtain⟨v,hv,hr⟩:=hc k hk
   have:((List.range xs.flatten.length).map fun k=>(w.cell? ⟨b,off+k,none⟩).getD Go.undef).getD k Go.undef=v:=by rw [List.getD_eq_getElem?_getD,List.getElem?_map,List.getElem?_range hk];simp [hv]
   rw [this];exact hr
  ·obtain⟨k,hk,rfl⟩:=List.mem_map.1 hv
   obtain⟨v,hv,hr⟩:=hc k (List.mem_range.1 hk);rw [hv];exact hr.oneCell
  ·have hle:m*sz≤xs.flatten.length:=by rw [flatten_len hrows];exact Nat.mul_le_mul_right _ hm
   rw [run_loadCells w' _ _ (fun k=>(w.cell? ⟨b,off+k,none⟩).getD Go.undef) (fun j hj=> ?_)]
   ·congr 2
    rw [←List.map_take,List.take_range,Nat.min_eq_left hle]
   ·rw [addr_add,cell_of_heap (w:=w) (by rw [hw'])]
    obtain⟨v,hv,_⟩:=hc j (by omega);rw [hv];rfl
 cases u with
 | lst sz' xs' t=>
  simp only [rowsOf,Option.some.injEq,Prod.mk.injEq]at hb;obtain⟨rfl,rfl⟩:=hb;subst hp;obtain⟨cap,⟨h1,h2,h3⟩,_,hrows⟩:=flat_lst (h.data rfl);refine⟨hrows, ?_⟩;rcases h3 with⟨b,off,rfl,hr⟩|⟨rfl,h0,_⟩
  ·refine⟨fun w' _=>rfl, ?_⟩
   obtain⟨ns,g1,g2⟩:=gen b off hrows (fun k hk=>by obtain⟨v,hv,hrv⟩:=hr k hk;exact⟨v,hM.heap.per _ _ _ hv,hrv⟩)
   exact⟨ns,g1,fun m hm w' hw'=>by simp only [Builtin.firstCells];exact g2 m hm w' hw'⟩
  ·have:xs'=[]:=List.length_eq_zero_iff.1 h0
   subst this;exact⟨fun w' _=>rfl,[],⟨rfl,fun k hk=>by simp at hk,fun v hv=>by simp at hv⟩,fun m hm w' _=>by simp only [Builtin.firstCells];simp⟩
 | psl o' sz' off n cp=>
  simp only [rowsOf]at hb;split at hb<;>try (cases hb;done)
  rename_i sz'' xs' hl;simp only [Option.some.injEq,Prod.mk.injEq]at hb;obtain⟨rfl,rfl⟩:=hb;obtain⟨rfl,rfl,hp1,hp2⟩:=hp;have hrows:∀y∈(xs'.drop off).take n,y.length=sz:=fun y hy=>hp2 y (List.mem_of_mem_drop (List.mem_of_mem_take hy))
  obtain⟨cp,hnc,_,off',he',hoff⟩:=h.psl_inv;have hlen:((xs'.drop off).take n).length=n:=by simp;omega
  rw [he'];refine⟨hrows,fun w' _=>by simp only [Builtin.lenOf,hlen];rfl, ?_⟩
  by_cases hn:cp=0
  ·have hn0:n=0:=by omega
   subst hn0
   exact⟨[],⟨by simp,fun k hk=>by simp at hk,fun v hv=>by simp at hv⟩,fun m hm w' _=>by simp at hm;subst hm;simp [Builtin.firstCells,loadCells,loadCellsFrom]⟩
  ·have hoff':off'=off*sz:=hoff.resolve_left hn
   obtain⟨ns,g1,g2⟩:=gen (x.β o') off' hrows (fun k hk=>by
    rw [flatten_len hrows,hlen]at hk
    have hk2:off*sz+k<xs'.length*sz:=by have:=Nat.mul_le_mul_right sz hp1;rw [Nat.add_mul]at this;omega
    obtain⟨v,h2,h3⟩:=(look_obj hM hl).cell (k:=off*sz+k) (by simp only [SObj.size];exact hk2);refine⟨v,by rw [hoff'];exact h2, ?_⟩;have h4:RepD x.G ((xs'.getD ((off*sz+k)/sz) []).getD ((off*sz+k) % sz) .undef) v:=h3
    have hsz : 0 < sz := by rcases Nat.eq_zero_or_pos sz with h0|h0
                            ·subst h0;omega
                            ·exact h0
    rw [flatten_getD _ hrows k (by rw [hlen];exact hk)];rw [Nat.mul_comm off sz,Nat.mul_add_div hsz,Nat.mul_add_mod]at h4;have hd:k/sz<n:=Nat.div_lt_of_lt_mul (by rw [Nat.mul_comm];exact hk)
    have e1:((xs'.drop off).take n).getD (k/sz) []=xs'.getD (off+k/sz) []:=by simp only [List.getD_eq_getElem?_getD,List.getElem?_take,if_pos hd,List.getElem?_drop]
    rw [e1];exact h4)
   exact⟨ns,g1,fun m hm w' hw'=>by simp only [Builtin.firstCells];exact g2 m hm w' hw'⟩
 |_=>simp [rowsOf]at hb
theorem eff_append (hM:Models C x s a w) {cl:Call} (ho:o.op= .call cl) (hb:cl.callee= .builtin .append) (hr:res1 P o=some so) (he:eff s o.dst so=some e) (hp:e.pre):Done P C o a w (s.app o.dst e):=by
 simp only [res1,ho,hb]at hr;split at hr<;>try (cases hr;done)
 rename_i X Y t u hX ht;split at hr<;>try (cases hr;done)
 rename_i el d2 r q hd hu hra hrb;split at hr<;>try (cases hr;done)
 rename_i n by_ z hn hby hz;rw [Option.ite_none_right_eq_some]at hr;obtain⟨hcond,hr⟩:=hr;simp only [Bool.and_eq_true,decide_eq_true_eq]at hcond;obtain⟨⟨hb0,hn0⟩,hzl'⟩:=hcond;obtain⟨zs,hzc,hzl0,_⟩:=zeros_data hz;have hzl:zs.length=n:=by omega
 have hu2:((∃e',d2= .slice e')∨d2= .string)∧so= .app z by_ r q:=by
  split at hr<;>try (cases hr;done)
  ·cases hr;exact⟨.inl ⟨_,rfl⟩,rfl⟩
  ·rw [Option.ite_none_right_eq_some]at hr
   obtain⟨_,hr⟩:=hr;cases hr;exact⟨.inr rfl,rfl⟩
  ·cases hr;cases he
 obtain⟨hu2,rfl⟩:=hu2;have h1:=resArg_rep hM hra;have h2:=resArg_rep hM hrb;have ea:cl.args= #[X,Y]:=by apply Array.ext';simpa using hX
 have et:cl.argTypes= #[t,u]:=by apply Array.ext';simpa using ht
 have hex:=mkCall (a:=a) ho hb _ rfl;rw [ea,et]at hex;have em: #[X,Y].map a.eval= #[a.eval X,a.eval Y]:=by simp
 rw [em]at hex;simp only [eff]at he;split at he<;>try (cases he;done)
 rename_i d hdst
 have fin:∀ {v w' x'} {c:SV},(Builtin.append_ #[t,u] o.type #[a.eval X,a.eval Y]).run P w= .ok v w'→∀ {tk:Tok},Models C x' (s.grew tk (d+100)) a w'→Rep x' c v→Done P C o a w ((s.grew tk (d+100)).put o.dst c):=by intro v w' x' c hrun tk hM' hc;exact⟨v,w',x',.value v,by rw [hex];simp [hrun],.inl rfl,hM'.put o.dst hc⟩
 cases hu':s.ev r with
 | byt l tk=>
  rw [hu']at he h1
  try simp only at he
  split at he<;>try (cases he;done)
  rename_i p l' hl';cases he;obtain⟨hp0,hz1,rfl,htk,hroom⟩:=hp;obtain rfl:n=1:=by omega
  obtain⟨g1,g2⟩:=bytesOf_sound (P:=P) hM h2 hl' hp0;obtain⟨_,_,_,_,_,hsp⟩:=h1.byt_inv;obtain⟨cap,hF,_⟩:=flat_byt (h1.data rfl)
  obtain⟨v,w',x',cap',hrun,hM',hF',hsp'⟩:=run_append (ty:=o.type) hM hd hu hu2 hn hby hzc hb0 hn0 hzl hF htk hsp g1 (fun w' hw'=>by have:=g2 l'.length (Nat.le_refl _) w' hw';rwa [List.take_length]at this) (by simp) (new_bytes l') (by omega) (d+100)
  simp only [St.app];have hd':o.dst.getD 0=d:=by rw [hdst];rfl
  rw [hd'];refine fin hrun hM' (.dat _ _ (byt_flat (cap:=cap') ?_) hsp');rw [List.length_append,List.map_append];exact hF'
 | lst sz' l tk=>
  rw [hu']at he h1
  try simp only at he
  split at he<;>try (cases he;done)
  rename_i p l' hl';cases he;obtain⟨hp0,rfl,htk,hroom⟩:=hp;obtain rfl:n=z.length:=by omega
  obtain⟨hrows',g1,ns,hnew,g2⟩:=rowsOf_sound (P:=P) hM h2 hl' hp0;obtain⟨_,_,_,_,_,hsp⟩:=h1.lst_inv;obtain⟨cap,hF,_,hrows⟩:=flat_lst (h1.data rfl);have hnl:ns.length=l'.length*z.length:=by rw [←hnew.len,flatten_len hrows']
  obtain⟨v,w',x',cap',hrun,hM',hF',hsp'⟩:=run_append (ty:=o.type) hM hd hu hu2 hn hby hzc hb0 hn0 hzl hF htk hsp g1 (fun w' hw'=>by have:=g2 l'.length (Nat.le_refl _) w' hw';rwa [←hnl,List.take_length]at this) hnl hnew hroom (d+100)
  simp only [St.app];have hd':o.dst.getD 0=d:=by rw [hdst];rfl
  rw [hd'];refine fin hrun hM' (.dat _ _ (lst_flat (cap:=cap') ?_ ?_) hsp')
  ·rw [List.length_append,List.flatten_append];exact hF'
  ·intro y hy
   rcases List.mem_append.1 hy with hy|hy
   ·exact hrows y hy
   ·exact hrows' y hy
 |_=>rw [hu']at he;simp at he
end Go.Sy
namespace Go.Sy
variable [LaidData]
variable {P : Program} {C : Ctx} {x : Sit} {s : St} {a : Act} {w : World} {o : Oper} {so : SOp} {e : Eff}
theorem Models.write (hM:Models C x s a w) {d off:Nat} {obj obj':SObj} (hl:s.look d=some obj) {vs:List Value} (hb:off+vs.length≤obj.size) (hsz:obj'.size=obj.size)
 (hnew:∀c:Array Value,(∀k,k<obj.size→cellRep x obj k (c.getD k Go.undef))→∀k,k<obj.size→cellRep x obj' k (if off≤k∧k<off+vs.length then vs.getD (k-off) Go.undef else c.getD k Go.undef)):
 Models C x (s.setO d obj') a (putCells w (x.β d) off vs)∧((∀v∈vs,v.oneCell'=true)→∀w':World,w'=w→(storeCells ⟨x.β d,off,none⟩ vs).run P w'= .ok () (putCells w (x.β d) off vs)):=by
 obtain⟨c,e,fl,fh,hO,hs,hr⟩:=look_obj hM hl;obtain⟨g1,g2,g3,g4,g5⟩:=putCells_same (x.β d) vs w off;obtain⟨c',hO',hcs,hck⟩:=putCells_owned vs w off c hO (by omega);refine⟨⟨hM.tm,hM.defers,hM.heap.block (look_mem hl) g1 g2 g3 g4 g5 ⟨c',e,fl,fh,hO',by omega,fun k hk=> ?_⟩⟩, ?_⟩
 ·rw [hck k]
  exact hnew c hr k (by omega)
 ·rintro hone w' rfl
  exact run_storeCells off vs w' c 0 hO (by omega) hone
theorem run_copy {t u el:TypeId} {n m k:Nat} {ty:TypeId} {bs:Addr} {cap:Nat} {Y:Value} {vs:List Value} {w1:World} (hd:P.underlying t=some (.slice el)) (hn:szOf P el=some n)
 (hlen:(Builtin.lenOf Y).run P w= .ok m w) (hcells:(Builtin.firstCells n (min m k) Y).run P w= .ok vs.toArray w) (hst:(storeCells bs vs).run P w= .ok () w1):
 (Builtin.copy_ #[t,u] ty #[.slice (some bs) k cap,Y]).run P w= .ok (.int .i64 (min m k:Nat)) w1:=by
 have e:(#[t,u]:Array TypeId)[0]? =some t:=rfl;have e2:(#[Value.slice (some bs) k cap,Y]:Array Value)[0]? =some (.slice (some bs) k cap):=rfl;have e3:(#[Value.slice (some bs) k cap,Y]:Array Value)[1]? =some Y:=rfl;have hc':(Builtin.firstCells n (Nat.min m k) Y).run P w= .ok vs.toArray w:=hcells;simp only [Builtin.copy_,e,e2,e3,Sem.run_bind,run_underlying hd,Result.andThen_ok,szOf_run hn,hlen,hc',hst,Sem.run_pure,goInt]
theorem eff_copy (hM:Models C x s a w) {cl:Call} (ho:o.op= .call cl) (hb:cl.callee= .builtin .copy) (hr:res1 P o=some so) (he:eff s o.dst so=some e) (hp:e.pre):Done P C o a w (s.app o.dst e):=by
 simp only [res1,ho,hb]at hr;split at hr<;>try (cases hr;done)
 rename_i X Y t u hX ht;split at hr<;>try (cases hr;done)
 rename_i el r q hd hra hrb;split at hr<;>try (cases hr;done)
 rename_i n hn;cases hr;have h1:=resArg_rep hM hra;have h2:=resArg_rep hM hrb;have ea:cl.args= #[X,Y]:=by apply Array.ext';simpa using hX
 have et:cl.argTypes= #[t,u]:=by apply Array.ext';simpa using ht
 have hex:=mkCall (a:=a) ho hb _ rfl;rw [ea,et]at hex;have em: #[X,Y].map a.eval= #[a.eval X,a.eval Y]:=by simp
 rw [em]at hex;simp only [eff]at he;cases hu:s.ev r with
 | psl d sz' off k cap=>
  rw [hu]at he h1;obtain⟨cap,hkc,_,off',hXe,hoff⟩:=h1.psl_inv
  try simp only at he
  split at he<;>try (cases he;done)
  ·rename_i l hl
   split at he<;>try (cases he;done)
   rename_i p l' hl';cases he;obtain⟨hp0,rfl,rfl,hbd⟩:=hp;obtain⟨g1,g2⟩:=bytesOf_sound (P:=P) hM h2 hl' hp0;have hvl:((l'.take (min l'.length k)).map fun b=>Value.int .u8 b.toNat).length=min l'.length k:=by simp
   have etk:l'.take (min l'.length k)=l'.take k:=by rw [Nat.min_comm,←List.take_take];simp
   have hoff':min l'.length k=0∨off'=off:=by
    rcases hoff with h|h
    ·left;omega
    ·right;rw [Nat.mul_one]at h;exact h
   have hlk:(l'.take k).length=min l'.length k:=by simp;omega
   simp only [St.app]
   obtain⟨hM',hst⟩:=hM.write (P:=P) (off:=off) (vs:=(l'.take (min l'.length k)).map fun b=>Value.int .u8 b.toNat) (obj':= .bar (l.take off++l'.take k++l.drop (off+(l'.take k).length))) hl (by simp only [SObj.size,hvl];omega)
    (by simp only [SObj.size,List.length_append,List.length_take,List.length_drop];omega) (by
     intro c hc i hi;have:=hc i hi;simp only [cellRep,SObj.cell,SObj.size]at this hi ⊢;have hsp:=splice_get l (l'.take k) off i (by rw [hlk];omega);rw [hvl]
     have e1:(l.take off++l'.take k++l.drop (off+(l'.take k).length)).getD i 0=if off≤i∧i<off+min l'.length k then(l'.take k).getD (i-off) 0 else l.getD i 0:=by simp only [List.getD_eq_getElem?_getD];rw [hsp,hlk];split<;>rfl
     rw [e1];split
     ·rename_i hin
      rw [etk]
      have e2:((l'.take k).map fun b=>Value.int .u8 b.toNat).getD (i-off) Go.undef= .int .u8 ((l'.take k).getD (i-off) 0).toNat:=by simp only [List.getD_eq_getElem?_getD,List.getElem?_map];rw [List.getElem?_eq_getElem (by rw [hlk];omega)];rfl
      rw [e2];exact .u8 _
     ·exact this)
   refine⟨.int .i64 (min l'.length k:Nat),_,x,.value _, ?_,.inl rfl,Models.put hM' o.dst (rep_int _ _)⟩;rw [hex,hXe]
   have hcp:=run_copy (P:=P) (w:=w) (t:=t) (u:=u) (ty:=o.type) (bs:=⟨x.β d,off',none⟩) (cap:=cap) (w1:=putCells w (x.β d) off ((l'.take (min l'.length k)).map fun b=>Value.int .u8 b.toNat)) hd hn (g1 w rfl) (g2 _ (Nat.min_le_left _ _) w rfl) (by
    rcases hoff' with h|h
    ·rw [h];rfl
    ·rw [h];exact hst (fun v hv=>by obtain⟨_,_,rfl⟩:=List.mem_map.1 hv;rfl) w rfl)
   simp [hcp]
  ·rename_i sz'' xs hl
   split at he<;>try (cases he;done)
   rename_i p l' hl';cases he;obtain⟨hp0,rfl,rfl,hbd,hrows⟩:=hp;obtain⟨hrows',g1,ns,hnew,g2⟩:=rowsOf_sound (P:=P) hM h2 hl' hp0;have hnl:ns.length=l'.length*n:=by rw [←hnew.len,flatten_len hrows']
   have hmk:(min l'.length k)*n≤ns.length:=by rw [hnl];exact Nat.mul_le_mul_right _ (Nat.min_le_left _ _)
   have hvl:(ns.take (min l'.length k*n)).length=min l'.length k*n:=by rw [List.length_take,Nat.min_eq_left hmk]
   have hlk:(l'.take k).length=min l'.length k:=by simp;omega
   have hrowsk:∀y∈l'.take k,y.length=n:=fun y hy=>hrows' y (List.mem_of_mem_take hy)
   have hflk:(l'.take k).flatten.length=min l'.length k*n:=by rw [flatten_len hrowsk,hlk]
   have hoff':min l'.length k=0∨off'=off*n:=by
    rcases hoff with h|h
    ·left;omega
    ·right;exact h
   have hbnd:off*n+min l'.length k*n≤xs.length*n:=by rw [←Nat.add_mul];exact Nat.mul_le_mul_right _ (by omega)
   have hrowsnew:∀y∈xs.take off++l'.take k++xs.drop (off+(l'.take k).length),y.length=n:=by
    intro y hy;rcases List.mem_append.1 hy with hy|hy
    ·rcases List.mem_append.1 hy with hy|hy
     ·exact hrows y (List.mem_of_mem_take hy)
     ·exact hrowsk y hy
    ·exact hrows y (List.mem_of_mem_drop hy)
   have hlnew:(xs.take off++l'.take k++xs.drop (off+(l'.take k).length)).length=xs.length:=by simp only [List.length_append,List.length_take,List.length_drop];omega
   simp only [St.app]
   obtain⟨hM',hst⟩:=hM.write (P:=P) (off:=off*n) (vs:=ns.take (min l'.length k*n)) (obj':= .arr n (xs.take off++l'.take k++xs.drop (off+(l'.take k).length))) hl (by simp only [SObj.size,hvl];exact hbnd)
    (by simp only [SObj.size];rw [hlnew]) (by
     intro c hc i hi;have:=hc i hi;simp only [cellRep,SObj.cell,SObj.size]at this hi ⊢;rw [←flatten_getD _ hrowsnew i (by rw [hlnew];exact hi)];rw [←flatten_getD _ hrows i hi]at this;rw [List.flatten_append,List.flatten_append,hvl];have ef:xs.flatten=(xs.take off).flatten++(xs.drop off).flatten:=by rw [←List.flatten_append,List.take_append_drop]
     have l1:(xs.take off).flatten.length=off*n:=by rw [flatten_len (fun y hy=>hrows y (List.mem_of_mem_take hy)),List.length_take,Nat.min_eq_left (by omega)]
     have e1:xs.flatten.take (off*n)=(xs.take off).flatten:=by rw [ef,List.take_append_of_le_length (by rw [l1];exact Nat.le_refl _),List.take_of_length_le (by rw [l1];exact Nat.le_refl _)]
     have e2:xs.flatten.drop (off*n+min l'.length k*n)=(xs.drop (off+(l'.take k).length)).flatten:=by
      have ef2:xs.flatten=(xs.take (off+(l'.take k).length)).flatten++(xs.drop (off+(l'.take k).length)).flatten:=by rw [←List.flatten_append,List.take_append_drop]
      have l2:(xs.take (off+(l'.take k).length)).flatten.length=off*n+min l'.length k*n:=by rw [flatten_len (fun y hy=>hrows y (List.mem_of_mem_take hy)),List.length_take,hlk,Nat.min_eq_left (by omega),Nat.add_mul]
      rw [ef2,List.drop_append,l2,Nat.sub_self,List.drop_zero,List.drop_eq_nil_of_le (by rw [l2];exact Nat.le_refl _),List.nil_append]
     rw [←e1,←e2,←hflk];have hsp:=splice_get xs.flatten (l'.take k).flatten (off*n) i (by rw [hflk,flatten_len hrows];exact hbnd);rw [List.getD_eq_getElem?_getD,hsp];split
     ·rename_i hin
      rw [←List.getD_eq_getElem?_getD];have hlt:i-off*n<(l'.take k).flatten.length:=by omega
      have hfl:(l'.take k).flatten.getD (i-off*n) .undef=l'.flatten.getD (i-off*n) .undef:=by
       have ef3:l'.flatten=(l'.take k).flatten++(l'.drop k).flatten:=by rw [←List.flatten_append,List.take_append_drop]
       rw [ef3];simp only [List.getD_eq_getElem?_getD];rw [List.getElem?_append_left hlt]
      rw [hfl]
      have e3:(ns.take (min l'.length k*n)).getD (i-off*n) Go.undef=ns.getD (i-off*n) Go.undef:=by simp only [List.getD_eq_getElem?_getD,List.getElem?_take];rw [if_pos (by omega)]
      rw [←hflk]at e3;rw [e3];exact hnew.rep _ (by rw [hnew.len];omega)
     ·rw [←List.getD_eq_getElem?_getD];exact this)
   refine⟨.int .i64 (min l'.length k:Nat),_,x,.value _, ?_,.inl rfl,Models.put hM' o.dst (rep_int _ _)⟩;rw [hex,hXe]
   have hcp:=run_copy (P:=P) (w:=w) (t:=t) (u:=u) (ty:=o.type) (bs:=⟨x.β d,off',none⟩) (cap:=cap) (w1:=putCells w (x.β d) (off*n) (ns.take (min l'.length k*n))) hd hn (g1 w rfl) (g2 _ (Nat.min_le_left _ _) w rfl) (by
    rcases hoff' with h|h
    ·rw [h];simp [storeCells,putCells]
    ·rw [h];exact hst (fun v hv=>hnew.one v (List.mem_of_mem_take hv)) w rfl)
   simp [hcp]
 |_=>rw [hu]at he;simp at he
theorem eff_sound (hM:Models C x s a w) (hr:res1 P o=some so) (hno:∀q r,so≠ .ovl q r) (he:eff s o.dst so=some e) (hp:e.pre):Done P C o a w (s.app o.dst e):=by
 have viaVal:(∀ {p c},val s so=some (p,c)→p→Done P C o a w (s.put o.dst c))→(∀d,eff s d so=match val s so with|some (p,v)=>some {pre:=p,val:=v}|none=>none)→Done P C o a w (s.app o.dst e):=by
  intro h1 h2;rw [h2]at he;cases hv:val s so with
  |none=>simp [hv]at he
  |some pc=>obtain⟨p,c⟩:=pc;simp only [hv,Option.some.injEq]at he;subst he;exact h1 hv hp
 cases ho:o.op with
 |move X=>exact viaVal (fun hv _=>val_move hM (.inl ho) hr hv) (by simp only [res1,ho]at hr;obtain⟨_,_,rfl⟩:=Option.map_eq_some_iff.1 hr;intro d;rfl)
 |assign X=>exact viaVal (fun hv _=>val_move hM (.inr ho) hr hv) (by simp only [res1,ho]at hr;obtain⟨_,_,rfl⟩:=Option.map_eq_some_iff.1 hr;intro d;rfl)
 |pick c X Y=>
  exfalso;simp only [res1,ho]at hr;split at hr<;>try (cases hr;done)
  cases hr;simp [eff]at he
 |alloc t=>exact eff_alloc hM ho hr he
 |box t X=>exact eff_box hM ho hr he
 | build t ps=>exact viaVal (fun hv _=>val_build hM ho hr hv) (by
  simp only [res1,ho]at hr;split at hr<;>try (cases hr;done)
  ·split at hr<;>try (cases hr;done)
   obtain⟨_,_,rfl⟩:=Option.map_eq_some_iff.1 hr;intro d;rfl
  ·split at hr<;>try (cases hr;done)
   obtain⟨_,_,rfl⟩:=Option.map_eq_some_iff.1 hr;intro d;rfl)
 |buildSlice t n ps=>exact viaVal (fun hv _=>val_buildSlice hM ho hr hv) (by
  simp only [res1,ho]at hr;split at hr<;>try (cases hr;done)
  split at hr<;>try (cases hr;done)
  split at hr<;>try (cases hr;done)
  obtain⟨_,_,rfl⟩:=Option.map_eq_some_iff.1 hr;intro d;split<;>rfl)
 |load t X=>exact viaVal (fun hv hp=>val_load hM ho hr hv hp) (by
  simp only [res1,ho]at hr;split at hr<;>try (cases hr;done)
  split at hr<;>try (cases hr;done)
  cases hr;intro d;rfl)
 |store t X Y=>exact eff_store hM ho hr he hp
 |nilCheck X=>exact viaVal (fun hv _=>val_nilCheck hM ho hr hv) (by simp only [res1,ho]at hr;obtain⟨_,_,rfl⟩:=Option.map_eq_some_iff.1 hr;intro d;rfl)
 | binOp op t X Y u=>
  by_cases hns:∃ne ts q r,so= .eqS ne ts q r
  ·obtain⟨ne,ts,q,r,rfl⟩:=hns
   exact viaVal (fun hv _=>val_eqS hM ho hr hv) (fun _=>rfl)
  ·exact viaVal (fun hv hp=>val_binOp hM ho hr (fun ne ts q r e=>hns ⟨ne,ts,q,r,e⟩) hv hp) (by
   simp only [res1,ho]at hr;split at hr<;>try (cases hr;done)
   ·split at hr<;>try (cases hr;done)
    all_goals (cases hr;intro d;rfl)
   ·cases hr;intro d;rfl
   ·cases hr;intro d;rfl
   ·split at hr<;>try (cases hr;done)
    split at hr<;>try (cases hr;done)
    split at hr<;>first|(cases hr;done)|(cases hr;intro d;rfl)
   ·split at hr<;>first|(cases hr;done)|(cases hr;simp [eff]at he)
   ·split at hr<;>first|(cases hr;done)|(cases hr;intro d;rfl))
 |unOp op t X=>exact viaVal (fun hv _=>val_unOp hM ho hr hv) (by simp only [res1,ho]at hr;obtain⟨_,_,rfl⟩:=Option.map_eq_some_iff.1 hr;intro d;rfl)
 | convert t u X=>exact viaVal (fun hv hp=>val_convert hM ho hr hv hp) (by
  simp only [res1,ho]at hr;split at hr<;>try (cases hr;done)
  ·cases hr;intro d;rfl
  ·cases hr;intro d;rfl
  ·split at hr<;>try (cases hr;done)
   cases hr;intro d;rfl
  ·split at hr<;>try (cases hr;done)
   cases hr;intro d;rfl
  ·split at hr<;>try (cases hr;done)
   cases hr;intro d;rfl)
 |makeFunc f X Y=>exact viaVal (fun hv _=>val_makeFunc hM ho hr hv) (by
  cases f<;>simp only [res1,ho,reduceCtorEq]at hr;split at hr<;>try (cases hr;done)
  cases hr;intro d;rfl)
 |makeSlice t X Y=>exact eff_makeSlice hM ho hr he hp
 | slice t X lo hi mx=>exact viaVal (fun hv hp=>val_slice hM ho hr hv hp) (by
  simp only [res1,ho]at hr;split at hr<;>try (cases hr;done)
  split at hr
  ·cases hr
  split at hr<;>try (cases hr;done)
  ·split at hr<;>try (cases hr;done)
   cases hr;intro d;rfl
  ·split at hr<;>try (cases hr;done)
   cases hr;intro d;rfl
  ·split at hr<;>try (cases hr;done)
   cases hr;intro d;rfl)
 |fieldAddr t X i=>exact viaVal (fun hv _=>val_fieldAddr hM ho hr hv) (by
  simp only [res1,ho]at hr;split at hr<;>try (cases hr;done)
  split at hr<;>try (cases hr;done)
  split at hr<;>try (cases hr;done)
  split at hr
  ·cases hr
  cases hr;intro d;rfl)
 |field t X i=>exact viaVal (fun hv hp=>val_field hM ho hr hv hp) (by
  simp only [res1,ho]at hr;split at hr<;>try (cases hr;done)
  split at hr<;>try (cases hr;done)
  split at hr<;>try (cases hr;done)
  split at hr<;>try (cases hr;done)
  cases hr;intro d;rfl)
 | indexAddr t X Y=>exact viaVal (fun hv hp=>val_indexAddr hM ho hr hv hp) (by
  simp only [res1,ho]at hr;split at hr<;>try (cases hr;done)
  ·split at hr<;>try (cases hr;done)
   cases hr;intro d;rfl
  ·split at hr<;>try (cases hr;done)
   cases hr;intro d;rfl)
 | index t X Y=>exact viaVal (fun hv hp=>val_index hM ho hr hv hp) (by
  simp only [res1,ho]at hr;split at hr<;>try (cases hr;done)
  ·split at hr<;>try (cases hr;done)
   split at hr<;>try (cases hr;done)
   cases hr;intro d;rfl
  ·cases hr;intro d;rfl)
 |extract X i=>exact viaVal (fun hv hp=>val_extract hM ho hr hv hp) (by simp only [res1,ho]at hr;obtain⟨_,_,rfl⟩:=Option.map_eq_some_iff.1 hr;intro d;rfl)
 | call cl=>
  cases hb:cl.callee with
  |invoke r m=>simp [res1,ho,hb]at hr
  | value f=>
   exfalso;simp only [res1,ho,hb]at hr;split at hr<;>try (cases hr;done)
   split at hr<;>try (cases hr;done)
   split at hr
   ·split at hr
    ·cases hr;exact hno _ _ rfl
    ·cases hr;simp [eff]at he
   ·cases hr;simp [eff]at he
  | builtin b=>
   cases b with
   |append=>exact eff_append hM ho hb hr he hp
   |copy=>exact eff_copy hM ho hb hr he hp
   |cap=>exact viaVal (fun hv _=>val_cap hM ho hb hr hv) (by
    simp only [res1,ho,hb]at hr;split at hr<;>try (cases hr;done)
    split at hr<;>try (cases hr;done)
    cases hr;intro d;rfl)
   | len=>exact viaVal (fun hv _=>val_len hM ho hb hr hv) (by
    simp only [res1,ho,hb]at hr;split at hr<;>try (cases hr;done)
    split at hr<;>try (cases hr;done)
    ·cases hr;intro d;rfl
    ·cases hr;intro d;rfl
    ·cases hr;intro d;rfl
    ·split at hr<;>try (cases hr;done)
     cases hr;intro d;rfl)
   |min=>exact viaVal (fun hv _=>val_minmax hM ho (.inl hb) hr hv) (by
    simp only [res1,ho,hb]at hr;split at hr<;>try (cases hr;done)
    split at hr<;>try (cases hr;done)
    cases hr;intro d;rfl)
   |max=>exact viaVal (fun hv _=>val_minmax hM ho (.inr hb) hr hv) (by
    simp only [res1,ho,hb]at hr;split at hr<;>try (cases hr;done)
    split at hr<;>try (cases hr;done)
    cases hr;intro d;rfl)
   |_=>simp [res1,ho,hb]at hr
 |_=>simp [res1,ho]at hr
end Go.Sy
namespace Go.Sy
variable [LaidData]
variable {P : Program} {C : Ctx} {x : Sit} {s : St} {a : Act} {w : World}
theorem ids_mem {cs:List SV} {i:Nat} (hi:i<cs.length):∀k∈(cs.getD i .undef).ids,k∈SV.idsL cs:=by
 induction cs generalizing i with
 |nil=>simp at hi
 |cons c r ih=>
  intro k hk;simp only [SV.idsL,List.mem_append];cases i with
  |zero=>exact .inl (by simpa using hk)
  |succ i=>exact .inr (ih (i:=i) (by simpa using hi) k (by simpa using hk))
theorem toks_mem {cs:List SV} {i:Nat} (hi:i<cs.length):∀k∈(cs.getD i .undef).toks,k∈SV.toksL cs:=by
 induction cs generalizing i with
 |nil=>simp at hi
 |cons c r ih=>
  intro k hk;simp only [SV.toksL,List.mem_append];cases i with
  |zero=>exact .inl (by simpa using hk)
  |succ i=>exact .inr (ih (i:=i) (by simpa using hi) k (by simpa using hk))
theorem Rep.renF {x x2:Sit} {mo mt:Nat→Nat} (hG:∀b o v,x.G b o=some v→x2.G b o=some v) {sv:SV} {v:Value} (h:Rep x sv v):(∀k∈sv.ids,x2.β (mo k)=x.β k)→(∀t∈sv.toks,x2.τ (mt t)=x.τ t)→Rep x2 (sv.ren mo mt) v:=by
 induction h with
 |undef v=>intro _ _;exact .undef v
 | dat s v h ht=>
  intro hβ hτ;have h':=h.mono hG
  have sp:∀(sz:Nat) (t:Tok),(∀u,t= .id u→x2.τ (mt u)=x.τ u)→spareOK x sz t v→spareOK x2 sz (t.ren mt) v:=by
   intro sz t ht hs;cases t with
   |no=>trivial
   |clip=>exact hs
   |id u=>obtain⟨ad,n,cap,hv,hc⟩:=hs;refine⟨ad,n,cap,hv,hc.imp id ?_⟩;rintro⟨b,off,he,hh⟩;exact⟨b,off,he,by rw [ht u rfl];exact hh⟩
  cases s with
  |byt l t=>simp only [SV.ren];exact .dat _ _ (h'.tok _ (.inl ⟨l,t,_,rfl,rfl⟩)) (sp 1 t (fun u hu=>hτ u (by subst hu;simp [SV.toks])) ht)
  |lst sz xs t=>simp only [SV.ren];exact .dat _ _ (h'.tok _ (.inr ⟨sz,xs,t,_,rfl,rfl⟩)) (sp sz t (fun u hu=>hτ u (by subst hu;simp [SV.toks])) ht)
  |undef=>exact .undef v
  |bool b=>simp only [SV.ren];exact .dat _ _ h' trivial
  |int k n=>simp only [SV.ren];exact .dat _ _ h' trivial
  |u8 b=>simp only [SV.ren];exact .dat _ _ h' trivial
  |str l=>simp only [SV.ren];exact .dat _ _ h' trivial
  |nilp=>simp only [SV.ren];exact .dat _ _ h' trivial
  |nili=>simp only [SV.ren];exact .dat _ _ h' trivial
  |pp cs=>simp only [SV.ren];exact .dat _ _ h' trivial
  |ptr o off=>cases h
  |ap o sz i j=>cases h
  |psl o sz off n cap=>cases h
  |agg cs=>cases h
  |tup cs=>cases h
  |fn f a b=>cases h
 |ptr o off=>intro hβ _;simp only [SV.ren];rw [←hβ o (by simp [SV.ids])];exact .ptr _ off
 |ap o sz i j=>intro hβ _;simp only [SV.ren];rw [←hβ o (by simp [SV.ids])];exact .ap _ sz i j
 |psl o sz off n cap off' cap' h hn hc=>intro hβ _;simp only [SV.ren];rw [←hβ o (by simp [SV.ids])];exact .psl _ sz off n cap off' cap' h hn hc
 | agg cs vs hl _ ih=>
  intro hβ hτ;simp only [SV.ren,renL_eq]
  exact .agg _ _ (by simpa using hl) fun i hi=>by
   rw [getD_map_undef _ (by simp)];have hi':i<cs.length:=by simpa using hi
   exact ih i hi' (fun k hk=>hβ k (by simp only [SV.ids];exact ids_mem hi' k hk)) (fun k hk=>hτ k (by simp only [SV.toks];exact toks_mem hi' k hk))
 | tup cs vs hl _ ih=>
  intro hβ hτ;simp only [SV.ren,renL_eq]
  exact .tup _ _ (by simpa using hl) fun i hi=>by
   rw [getD_map_undef _ (by simp)];have hi':i<cs.length:=by simpa using hi
   exact ih i hi' (fun k hk=>hβ k (by simp only [SV.ids];exact ids_mem hi' k hk)) (fun k hk=>hτ k (by simp only [SV.toks];exact toks_mem hi' k hk))
 | fn f c1 c2 v1 v2 hl1 _ hl2 _ ih1 ih2=>
  intro hβ hτ;simp only [SV.ren,renL_eq]
  exact .fn _ _ _ _ _ (by simpa using hl1) (fun i hi=>by
   rw [getD_map_undef _ (by simp)];have hi':i<c1.length:=by simpa using hi
   exact ih1 i hi' (fun k hk=>hβ k (by simp only [SV.ids,List.mem_append];exact .inl (ids_mem hi' k hk))) (fun k hk=>hτ k (by simp only [SV.toks,List.mem_append];exact .inl (toks_mem hi' k hk))))
   (by simpa using hl2) fun i hi=>by
    rw [getD_map_undef _ (by simp)];have hi':i<c2.length:=by simpa using hi
    exact ih2 i hi' (fun k hk=>hβ k (by simp only [SV.ids,List.mem_append];exact .inr (ids_mem hi' k hk))) (fun k hk=>hτ k (by simp only [SV.toks,List.mem_append];exact .inr (toks_mem hi' k hk)))
def Sit.back (x:Sit) (mo mt:Nat→Nat):Sit:=⟨x.G,fun k=>x.β (mo k),fun t=>x.τ (mt t)⟩
theorem spare_back {x:Sit} {mo mt:Nat→Nat} {sz:Nat} {t:Tok} {v:Value} (h:spareOK x sz (t.ren mt) v):spareOK (x.back mo mt) sz t v:=by
 cases t with
 |no=>trivial
 |clip=>exact h
 |id u=>exact h
theorem Rep.renB {x:Sit} {mo mt:Nat→Nat} (sv:SV):∀v,Rep x (sv.ren mo mt) v→Rep (x.back mo mt) sv v:=by
 refine SV.rec (motive_1:=fun sv=>∀v,Rep x (sv.ren mo mt) v→Rep (x.back mo mt) sv v) (motive_2:=fun _=>True) (motive_3:=fun l=>∀i,i<l.length→∀v,Rep x ((l.getD i .undef).ren mo mt) v→Rep (x.back mo mt) (l.getD i .undef) v)
  ?_ ?_ ?_ ?_ ?_ ?_ ?_ ?_ ?_ ?_ ?_ ?_ ?_ ?_ ?_ ?_ ?_ ?_ ?_ ?_ sv
 ·intro v _;exact .undef v
 ·intro b v h;rw [Rep.bool_inv h];exact rep_bool b
 ·intro k n v h;rw [Rep.int_inv h];exact rep_int k n
 ·intro b v h;rw [Rep.u8_inv h];exact rep_u8 b
 ·intro l v h;rw [Rep.str_inv h];exact rep_str l
 ·intro l t v h
  simp only [SV.ren]at h;cases h with
  |dat _ _ h ht=>exact .dat _ _ (h.tok _ (.inl ⟨l,_,t,rfl,rfl⟩)) (spare_back ht)
 ·intro sz xs t _ v h
  simp only [SV.ren]at h;cases h with
  |dat _ _ h ht=>exact .dat _ _ (h.tok _ (.inr ⟨sz,xs,_,t,rfl,rfl⟩)) (spare_back ht)
 ·intro v h;rw [Rep.nilp_inv h];exact .dat _ _ .nilp trivial
 ·intro v h;rw [Rep.nili_inv h];exact .dat _ _ .nili trivial
 ·intro cs _ v h
  simp only [SV.ren]at h;exact .dat _ _ (Rep.data (x:=x) h rfl) trivial
 ·intro o off v h;simp only [SV.ren]at h;rw [h.ptr_inv];exact .ptr o off
 ·intro o sz i j v h;simp only [SV.ren]at h;rw [h.ap_inv];exact .ap o sz i j
 ·intro o sz off n cap v h
  simp only [SV.ren]at h;obtain⟨cap',hn,hc,off',rfl,ho⟩:=h.psl_inv;exact .psl o sz off n cap off' cap' ho hn hc
 ·intro cs ih v h
  simp only [SV.ren,renL_eq]at h;obtain⟨vs,rfl,hl⟩:=h.agg_inv;refine .agg _ _ (by simpa using hl.1) fun i hi=>ih i hi _ ?_
  have:=hl.2 i (by simpa using hi);rwa [getD_map_undef _ (by simp)]at this
 ·intro cs ih v h
  simp only [SV.ren,renL_eq]at h;obtain⟨vs,rfl,hl⟩:=h.tup_inv;refine .tup _ _ (by simpa using hl.1) fun i hi=>ih i hi _ ?_
  have:=hl.2 i (by simpa using hi);rwa [getD_map_undef _ (by simp)]at this
 ·intro f c1 c2 ih1 ih2 v h
  simp only [SV.ren,renL_eq]at h;obtain⟨v1,v2,rfl,h1,h2⟩:=h.fn_inv;refine .fn _ _ _ _ _ (by simpa using h1.1) (fun i hi=>ih1 i hi _ ?_) (by simpa using h2.1) (fun i hi=>ih2 i hi _ ?_)
  ·have:=h1.2 i (by simpa using hi);rwa [getD_map_undef _ (by simp)]at this
  ·have:=h2.2 i (by simpa using hi);rwa [getD_map_undef _ (by simp)]at this
 ·trivial
 ·intros;trivial
 ·intro i hi;simp at hi
 ·intro c r ihc ihr i hi v h
  cases i with
  |zero=>exact ihc v (by simpa using h)
  |succ i=>simpa using ihr i (by simpa using hi) v (by simpa using h)
theorem RepL.renB {x:Sit} {mo mt:Nat→Nat} {cs:List SV} {vs:List Value} (h:RepL x (SV.renL mo mt cs) vs):RepL (x.back mo mt) cs vs:=by rw [renL_eq]at h;refine⟨by simpa using h.1,fun i hi=>Rep.renB _ _ ?_⟩;have:=h.2 i (by simpa using hi);rwa [getD_map_undef _ (by simp)]at this
theorem leL_rep {as bs:List SV} {vs:List Value} (h:leL as bs) (hr:RepL x as vs):RepL x bs vs:=
 ⟨h.1 ▸ hr.1,fun i hi=>h.2 i (by rw [h.1];exact hi) x _ (hr.2 i (by rw [h.1];exact hi))⟩
theorem ObjRep.renB {mo mt:Nat→Nat} {o:Nat} {obj:SObj} (h:ObjRep x w (mo o) (obj.ren mo mt)):ObjRep (x.back mo mt) w o obj:=by
 obtain⟨c,e,fl,fh,hO,hs,hr⟩:=h;refine⟨c,e,fl,fh,hO, ?_,fun k hk=> ?_⟩
 ·cases obj<;>simpa [SObj.ren,SObj.size,renL_eq]using hs
 ·cases obj with
  |rc cs=>have:=hr k (by simpa [SObj.ren,SObj.size,renL_eq]using hk);simp only [SObj.ren,cellRep,renL_eq]at this ⊢;rw [getD_map_undef _ (by simp)]at this;exact Rep.renB _ _ this
  |arr sz xs=>exact hr k hk
  |bar l=>exact hr k hk
theorem ObjRep.renF {x2:Sit} {w':World} {mo mt:Nat→Nat} {o:Nat} {obj:SObj} (h:ObjRep x w' o obj) (hG:∀b o v,x.G b o=some v→x2.G b o=some v) (ho:x2.β (mo o)=x.β o)
 (hβ:∀k∈obj.ids,x2.β (mo k)=x.β k) (hτ:∀t∈obj.toks,x2.τ (mt t)=x.τ t):ObjRep x2 w' (mo o) (obj.ren mo mt):=by
 obtain⟨c,e,fl,fh,hO,hs,hr⟩:=h;refine⟨c,e,fl,fh,by rw [ho];exact hO, ?_,fun k hk=> ?_⟩
 ·cases obj<;>simpa [SObj.ren,SObj.size,renL_eq]using hs
 ·cases obj with
  |rc cs=>
   have hk':k<cs.length:=by simpa [SObj.ren,SObj.size,renL_eq]using hk
   have:=hr k hk';simp only [SObj.ren,cellRep,renL_eq]at this ⊢;rw [getD_map_undef _ (by simp)];exact Rep.renF hG this (fun j hj=>hβ j (ids_mem hk' j hj)) (fun j hj=>hτ j (toks_mem hk' j hj))
  |arr sz xs=>exact(hr k hk).mono hG
  |bar l=>exact(hr k hk).mono hG
theorem mem_idx {os:List SObj} {p:Nat×SObj}:p∈idx os↔p.1<os.length∧p.2=os.getD p.1 (.rc []):=by
 unfold idx;rw [List.mem_map];constructor
 ·rintro⟨⟨ob,i⟩,h,rfl⟩
  have:=List.mem_zipIdx' h;exact⟨this.1,by rw [List.getD_eq_getElem?_getD,List.getElem?_eq_getElem this.1];exact this.2⟩
 ·rintro⟨h1,h2⟩
  refine⟨(p.2,p.1), ?_,rfl⟩;rw [List.mk_mem_zipIdx_iff_getElem?,h2,List.getD_eq_getElem?_getD,List.getElem?_eq_getElem h1];rfl
theorem nodup_idx (os:List SObj):((idx os).map Prod.fst).Nodup:=by
 unfold idx;rw [List.map_map];have:(Prod.fst∘fun p:SObj×Nat=>(p.2,p.1))=Prod.snd:=rfl;rw [this];have:os.zipIdx.map Prod.snd=List.range' 0 os.length:=by simp [List.zipIdx_map_snd]
 rw [this];exact List.nodup_range'
theorem nodup_inj {m:List Nat} (h:m.Nodup) {i j:Nat} (hi:i<m.length) (hj:j<m.length) (e:m[i]=m[j]):i=j:=by
 have hp:=List.pairwise_iff_getElem.1 h;rcases Nat.lt_trichotomy i j with hlt|heq|hgt
 ·exact absurd e (hp i j hi hj hlt)
 ·exact heq
 ·exact absurd e.symm (hp j i hj hi hgt)
def Ctx.callee (x:Sit) (w:World) (m:List Nat) (β0:Nat→Nat):Ctx:=⟨w,x.G,fun b=>w.heap.size≤b∨∃i,i<m.length∧x.β (m.getD i 0)=b,β0⟩
theorem heap_callee (hM:Models C x s a w) {m:List Nat} {os:List SObj} {mo mt:Nat→Nat} (hmo:∀i,i<m.length→mo i=m.getD i 0) (hl:m.length=os.length) (hnd:m.Nodup)
 (hlk:∀i,i<os.length→s.look (m.getD i 0)=some ((os.getD i (.rc [])).ren mo mt)):Heap (Ctx.callee x w m (x.back mo mt).β) (x.back mo mt) (idx os) [] w:=by
 have hb:∀i,i<os.length→(x.back mo mt).β i=x.β (m.getD i 0):=fun i hi=>by show x.β (mo i)=_;rw [hmo i (by omega)]
 refine⟨hM.heap.per,fun _ _ _ h=>h,fun _ _ _ h=> .inl h,fun b h=> .inl h, ?_,nodup_idx os, ?_,fun t h=>by simp at h,fun t h=>by simp at h,fun t h=>by simp at h,rfl,rfl,rfl,Nat.le_refl _,fun _ _=>rfl,fun _ _=>rfl,hM.heap.lay.mono hM.heap.g0⟩
 ·intro p hp
  obtain⟨h1,h2⟩:=mem_idx.1 hp;obtain⟨h3,h4,h5⟩:=hM.heap.obs _ (look_mem (hlk p.1 h1));refine⟨?_,.inr ⟨p.1,by omega,(hb p.1 h1).symm⟩,fun off=>by rw [hb p.1 h1];exact h5 off⟩;rw [h2];refine ObjRep.renB ?_;rw [hmo p.1 (by omega)];exact h3
 ·intro p hp q hq hpq
  obtain⟨h1,_⟩:=mem_idx.1 hp;obtain⟨h2,_⟩:=mem_idx.1 hq;rw [hb _ h1,hb _ h2]at hpq;have:=hM.heap.inj _ (look_mem (hlk p.1 h1)) _ (look_mem (hlk q.1 h2)) hpq;simp only at this;have e1:m.getD p.1 0=m[p.1]'(by omega):=by rw [List.getD_eq_getElem?_getD,List.getElem?_eq_getElem (by omega)];rfl
  have e2:m.getD q.1 0=m[q.1]'(by omega):=by rw [List.getD_eq_getElem?_getD,List.getElem?_eq_getElem (by omega)];rfl
  rw [e1,e2]at this;exact nodup_inj hnd _ _ this
end Go.Sy
namespace Go.Sy
variable [LaidData]
variable {P : Program} {C : Ctx} {x : Sit} {s : St} {a : Act} {w : World}
theorem mem_dropOs {m:List Nat} {l:List (Nat×SObj)} {p:Nat×SObj}:p∈dropOs m l↔p∈l∧p.1∉m:=by
 induction l with
 |nil=>simp [dropOs]
 | cons q r ih=>
  simp only [dropOs];split<;>rename_i hq
  ·rw [ih,List.mem_cons];constructor
   ·rintro⟨h1,h2⟩;exact⟨.inr h1,h2⟩
   ·rintro⟨rfl|h1,h2⟩
    ·exact absurd hq h2
    ·exact⟨h1,h2⟩
  ·rw [List.mem_cons,ih,List.mem_cons];constructor
   ·rintro(rfl|⟨h1,h2⟩)
    ·exact⟨.inl rfl,hq⟩
    ·exact⟨.inr h1,h2⟩
   ·rintro⟨rfl|h1,h2⟩
    ·exact .inl rfl
    ·exact .inr ⟨h1,h2⟩
theorem fst_dropOs_sub (m:List Nat) (l:List (Nat×SObj)):(dropOs m l).Sublist l:=by
 induction l with
 |nil=>exact List.Sublist.refl _
 |cons q r ih=>
  simp only [dropOs];split
  ·exact ih.cons q
  ·exact ih.cons_cons q
theorem heap_after (hM:Models C x s a w) {m:List Nat} {os:List SObj} {mo mt:Nat→Nat} {lo hi:Nat} (hl:m.length=os.length) (hlk:∀i,i<os.length→s.look (m.getD i 0)=some ((os.getD i (.rc [])).ren mo mt))
 {x':Sit} {w':World} {os':List (Nat×SObj)} {tks:List Nat} {β0:Nat→Nat} (hH:Heap (Ctx.callee x w m β0) x' os' tks w')
 (hmo:∀i,i<m.length→mo i=m.getD i 0) {β2:Nat→Nat} {τ2:Nat→Nat×Nat×Nat} (hlo100:∀i,i<100→¬(lo≤i∧i<hi)) (hβ2:∀o,¬(lo≤o∧o<hi)→β2 o=x.β o) (hτ2:∀o,¬(lo≤o∧o<hi)→τ2 o=x.τ o)
 (hids:∀p∈os',β2 (mo p.1)=x'.β p.1) (hcont:∀p∈os',∀k∈p.2.ids,β2 (mo k)=x'.β k) (htoks:∀p∈os',∀t∈p.2.toks,τ2 (mt t)=x'.τ t)
 (hrange:∀p∈os',p.1<m.length∨(lo≤mo p.1∧mo p.1<hi)) (htk:∀t∈tks,(lo≤mt t∧mt t<hi)∧τ2 (mt t)=x'.τ t):
 (∀b o v,x.G b o=some v→x'.G b o=some v)∧Heap C ⟨x'.G,β2,τ2⟩ (os'.map (fun p=>(mo p.1,p.2.ren mo mt))++dropOs m (purgeO lo hi s.ob)) (tks.map mt++dropT lo hi s.tk) w':=by
 have hG:∀b o v,x.G b o=some v→x'.G b o=some v:=hH.g0;have hold:=hM.heap;have hmblock:∀i,i<m.length→(∃ob,(m.getD i 0,ob)∈s.ob):=fun i hi=>⟨_,look_mem (hlk i (by omega))⟩
 have hmine:∀b,(Ctx.callee x w m β0).mine b→C.mine b:=by
  rintro b (h|⟨i,hi,rfl⟩)
  ·exact hold.new b (Nat.le_trans hold.size h)
  ·obtain⟨ob,hob⟩:=hmblock i hi
   exact(hold.obs _ hob).2.1
 have hmem:∀o∈m,∃i,i<m.length∧m.getD i 0=o:=by intro o ho;obtain⟨i,hi,rfl⟩:=List.getElem_of_mem ho;exact⟨i,hi,by rw [List.getD_eq_getElem?_getD,List.getElem?_eq_getElem hi];rfl⟩
 have hkeep:∀b,b<w.heap.size→(∀i,i<m.length→x.β (m.getD i 0)≠b)→w'.heap[b]? =w.heap[b]? ∧((∀off,x.G b off=none)→∀off,x'.G b off=none):=by
  intro b hb hne
  have hnm:¬(Ctx.callee x w m β0).mine b:=by
   rintro(h|⟨i,hi,h⟩)
   ·omega
   ·exact hne i hi h
  refine⟨hH.ext b hnm,fun h off=> ?_⟩;cases hg:x'.G b off with
  |none=>rfl
  |some v=>
   rcases hH.gm b off v hg with h1|h1
   ·change x.G b off=some v at h1;rw [h off]at h1;cases h1
   ·exact absurd h1 hnm
 have hlo:∀p∈dropOs m (purgeO lo hi s.ob),∃ob,(p.1,ob)∈s.ob∧p.2=ob.purge lo hi∧¬(lo≤p.1∧p.1<hi)∧p.1∉m∧(∀i,i<m.length→x.β (m.getD i 0)≠x.β p.1)∧x.β p.1<w.heap.size:=by
  intro p hp;obtain⟨h1,h2⟩:=mem_dropOs.1 hp;obtain⟨h3,ob,h4,h5⟩:=mem_purgeO h1;refine⟨ob,h4,h5,h3,h2,fun i hi e=> ?_, ?_⟩
  ·obtain⟨ob',hob'⟩:=hmblock i hi
   have:=hold.inj _ hob' _ h4 e;simp only at this;apply h2;rw [←this,List.getD_eq_getElem?_getD,List.getElem?_eq_getElem hi];exact List.getElem_mem _
  ·obtain⟨⟨c,e,fl,fh,hO,_⟩,_⟩:=hold.obs _ h4
   exact hO.lt
 have hnew:∀p∈os'.map (fun p=>(mo p.1,p.2.ren mo mt)),∃q∈os',p=(mo q.1,q.2.ren mo mt)∧β2 p.1=x'.β q.1:=by intro p hp;obtain⟨q,hq,rfl⟩:=List.mem_map.1 hp;exact⟨q,hq,rfl,hids q hq⟩
 have hnewmine:∀q∈os',w.heap.size≤x'.β q.1∨∃i,i<m.length∧x.β (m.getD i 0)=x'.β q.1:=fun q hq=>(hH.obs q hq).2.1
 have htold:∀t∈dropT lo hi s.tk,t∈s.tk∧¬(lo≤t∧t<hi):=fun t ht=>mem_dropT.1 ht
 have htblock:∀t∈s.tk,(x.τ t).2.1=(x.τ t).2.2∨((x.τ t).1<w.heap.size∧∀i,i<m.length→x.β (m.getD i 0)≠(x.τ t).1):=by
  intro t ht;rcases hold.tks t ht with h|⟨⟨c,e,fl,fh,hO,_⟩,_⟩
  ·exact .inl h
  ·by_cases he:(x.τ t).2.1=(x.τ t).2.2
   ·exact .inl he
   ·refine .inr ⟨hO.lt,fun i hi e'=> ?_⟩
    obtain⟨ob,hob⟩:=hmblock i hi;rcases hold.tko t ht _ hob with h|h
    ·exact h e'.symm
    ·exact he h
 refine⟨hG,⟨hH.per,fun b o v h=>hG _ _ _ (hold.g0 b o v h), ?_,hold.new, ?_, ?_, ?_, ?_, ?_, ?_,hH.os.trans hold.os,hH.tape.trans hold.tape,hH.output.trans hold.output,Nat.le_trans hold.size hH.size, ?_,fun i hi=>(hβ2 i (hlo100 i hi)).trans (hold.pin i hi),hold.lay⟩⟩
 ·intro b o v h
  rcases hH.gm b o v h with h1|h1
  ·exact hold.gm b o v h1
  ·exact .inr (hmine b h1)
 ·intro p hp
  rcases List.mem_append.1 hp with hp|hp
  ·obtain⟨q,hq,rfl,hb⟩:=hnew p hp
   obtain⟨h1,h2,h3⟩:=hH.obs q hq;refine⟨h1.renF (x2:=⟨x'.G,β2,τ2⟩) (fun _ _ _ h=>h) (hids q hq) (hcont q hq) (htoks q hq), ?_,fun off=> ?_⟩
   ·show C.mine (β2 (mo q.1));rw [hids q hq];exact hmine _ h2
   ·show x'.G (β2 (mo q.1)) off=none;rw [hids q hq];exact h3 off
  ·obtain⟨ob,h1,h2,h3,h4,h5,h6⟩:=hlo p hp
   obtain⟨g1,g2,g3⟩:=hold.obs _ h1;obtain⟨k1,k2⟩:=hkeep _ h6 h5;have hb:β2 p.1=x.β p.1:=hβ2 _ h3;refine⟨?_,by show C.mine (β2 p.1);rw [hb];exact g2,fun off=>by show x'.G (β2 p.1) off=none;rw [hb];exact k2 g3 off⟩;rw [h2];exact ObjRep.of_heap (x':=⟨x'.G,β2,τ2⟩) g1 k1 hG hβ2 hτ2 h3
 ·rw [List.map_append,List.nodup_append]
  refine⟨?_, ?_, ?_⟩
  ·rw [List.map_map]
   have hnd':=List.pairwise_map.1 hH.nd;refine List.pairwise_map.2 (List.Pairwise.imp_of_mem (fun {p q} hp hq hne=> ?_) hnd');intro e;simp only [Function.comp]at e;have:x'.β p.1=x'.β q.1:=by rw [←hids p hp,←hids q hq,e]
   exact hne (hH.inj p hp q hq this)
  ·have h1:(dropOs m (purgeO lo hi s.ob)).Sublist (purgeO lo hi s.ob):=fst_dropOs_sub _ _
   refine List.Nodup.sublist (h1.map Prod.fst) ?_;rw [fst_purgeO];exact hold.nd.filter _
  ·intro o1 h1 o2 h2 e
   subst e;obtain⟨p,hp,rfl⟩:=List.mem_map.1 h1;obtain⟨q,hq,hqe⟩:=List.mem_map.1 h2;obtain⟨r,hr,rfl⟩:=List.mem_map.1 hp;obtain⟨ob,k1,k2,k3,k4,k5,k6⟩:=hlo q hq;simp only at hqe;rcases hrange r hr with h|h
   ·apply k4;rw [hqe,hmo _ h,List.getD_eq_getElem?_getD,List.getElem?_eq_getElem h];exact List.getElem_mem _
   ·apply k3;rw [hqe];exact h
 ·intro p hp q hq hpq
  change β2 p.1=β2 q.1 at hpq;rcases List.mem_append.1 hp with hp|hp<;>rcases List.mem_append.1 hq with hq|hq
  ·obtain⟨p',hp',rfl,hb⟩:=hnew p hp
   obtain⟨q',hq',rfl,hb'⟩:=hnew q hq;rw [hb,hb']at hpq;have:=hH.inj p' hp' q' hq' hpq;simp only;rw [this]
  ·obtain⟨p',hp',rfl,hb⟩:=hnew p hp
   obtain⟨ob,k1,k2,k3,k4,k5,k6⟩:=hlo q hq;rw [hb,hβ2 _ k3]at hpq;rcases hnewmine p' hp' with h|⟨i,hi,h⟩
   ·omega
   ·exact absurd (h.trans hpq) (k5 i hi)
  ·obtain⟨q',hq',rfl,hb⟩:=hnew q hq
   obtain⟨ob,k1,k2,k3,k4,k5,k6⟩:=hlo p hp;rw [hb,hβ2 _ k3]at hpq;rcases hnewmine q' hq' with h|⟨i,hi,h⟩
   ·omega
   ·exact absurd (h.trans hpq.symm) (k5 i hi)
  ·obtain⟨ob,k1,k2,k3,k4,k5,k6⟩:=hlo p hp
   obtain⟨ob',k1',k2',k3',k4',k5',k6'⟩:=hlo q hq;rw [hβ2 _ k3,hβ2 _ k3']at hpq;exact hold.inj (p.1,ob) k1 (q.1,ob') k1' hpq
 ·intro t ht
  rcases List.mem_append.1 ht with ht|ht
  ·obtain⟨u,hu,rfl⟩:=List.mem_map.1 ht
   obtain⟨_,hτu⟩:=htk u hu;have:=hH.tks u hu;unfold TokRep at this ⊢;simp only [hτu];exact this.imp id fun⟨h1,h2,h3⟩=>⟨h1,hmine _ h2,h3⟩
  ·obtain⟨h1,h2⟩:=htold t ht
   have:=hold.tks t h1;unfold TokRep at this ⊢;simp only [hτ2 t h2];rcases this with h|⟨⟨c,e,fl,fh,hO,hc⟩,h4,h5⟩
   ·exact .inl h
   ·rcases htblock t h1 with h|⟨k1,k2⟩
    ·exact .inl h
    ·obtain⟨g1,_⟩:=hkeep _ k1 k2
     refine .inr ⟨⟨c,e,fl,fh,hO.of_heap g1,hc⟩,h4,fun o ho1 ho2=> ?_⟩;cases hg:x'.G (x.τ t).1 o with
     |none=>rfl
     | some v=>
      rcases hH.gm _ _ _ hg with q1|q1
      ·change x.G _ _=some v at q1;rw [h5 o ho1 ho2]at q1;cases q1
      ·rcases q1 with q1|⟨i,hi,q1⟩
       ·change w.heap.size≤_ at q1;omega
       ·exact absurd q1 (k2 i hi)
 ·intro t ht p hp
  rcases List.mem_append.1 ht with ht|ht<;>rcases List.mem_append.1 hp with hp|hp
  ·obtain⟨u,hu,rfl⟩:=List.mem_map.1 ht
   obtain⟨q,hq,rfl,hb⟩:=hnew p hp;show(τ2 (mt u)).1≠β2 (mo q.1)∨(τ2 (mt u)).2.1=(τ2 (mt u)).2.2;rw [(htk u hu).2,hids q hq];exact hH.tko u hu q hq
  ·obtain⟨u,hu,rfl⟩:=List.mem_map.1 ht
   obtain⟨ob,k1,k2,k3,k4,k5,k6⟩:=hlo p hp;show(τ2 (mt u)).1≠β2 p.1∨(τ2 (mt u)).2.1=(τ2 (mt u)).2.2;rw [(htk u hu).2,hβ2 _ k3];rcases hH.tks u hu with h|⟨_,h,_⟩
   ·exact .inr h
   ·left;intro e
    rcases h with h|⟨i,hi,h⟩
    ·change w.heap.size≤_ at h;omega
    ·exact k5 i hi (h.trans e)
  ·obtain⟨h1,h2⟩:=htold t ht
   obtain⟨q,hq,rfl,hb⟩:=hnew p hp;show(τ2 t).1≠β2 (mo q.1)∨(τ2 t).2.1=(τ2 t).2.2;rw [hτ2 t h2,hids q hq];rcases htblock t h1 with h|⟨k1,k2⟩
   ·exact .inr h
   ·left;intro e
    rcases hnewmine q hq with h|⟨i,hi,h⟩
    ·omega
    ·exact k2 i hi (h.trans e.symm)
  ·obtain⟨h1,h2⟩:=htold t ht
   obtain⟨ob,k1,k2,k3,k4,k5,k6⟩:=hlo p hp;show(τ2 t).1≠β2 p.1∨(τ2 t).2.1=(τ2 t).2.2;rw [hτ2 t h2,hβ2 _ k3];exact hold.tko t h1 (p.1,ob) k1
 ·intro t ht u hu htu
  show apartR (τ2 t) (τ2 u)∨(τ2 t).2.1=(τ2 t).2.2∨(τ2 u).2.1=(τ2 u).2.2;rcases List.mem_append.1 ht with ht|ht<;>rcases List.mem_append.1 hu with hu|hu
  ·obtain⟨t',ht',rfl⟩:=List.mem_map.1 ht
   obtain⟨u',hu',rfl⟩:=List.mem_map.1 hu;rw [(htk t' ht').2,(htk u' hu').2];exact hH.tkd t' ht' u' hu' (fun e=>htu (by rw [e]))
  ·obtain⟨t',ht',rfl⟩:=List.mem_map.1 ht
   obtain⟨h1,h2⟩:=htold u hu;rw [(htk t' ht').2,hτ2 u h2];rcases hH.tks t' ht' with h|⟨_,h,_⟩
   ·exact .inr (.inl h)
   ·rcases htblock u h1 with k|⟨k1,k2⟩
    ·exact .inr (.inr k)
    ·refine .inl (fun e=> ?_)
     rcases h with h|⟨i,hi,h⟩
     ·change w.heap.size≤_ at h;omega
     ·exact k2 i hi (h.trans e)
  ·obtain⟨u',hu',rfl⟩:=List.mem_map.1 hu
   obtain⟨h1,h2⟩:=htold t ht;rw [(htk u' hu').2,hτ2 t h2];rcases hH.tks u' hu' with h|⟨_,h,_⟩
   ·exact .inr (.inr h)
   ·rcases htblock t h1 with k|⟨k1,k2⟩
    ·exact .inr (.inl k)
    ·refine .inl (fun e=> ?_)
     rcases h with h|⟨i,hi,h⟩
     ·change w.heap.size≤_ at h;omega
     ·exact k2 i hi (h.trans e.symm)
  ·obtain⟨h1,h2⟩:=htold t ht
   obtain⟨h3,h4⟩:=htold u hu;rw [hτ2 t h2,hτ2 u h4];exact hold.tkd t h1 u h3 htu
 ·intro b hb
  have hnm:¬(Ctx.callee x w m β0).mine b:=fun h=>hb (hmine b h)
  exact(hH.ext b hnm).trans (hold.ext b hb)
theorem Heap.only {ob ob':List (Nat×SObj)} {tk tk':List Nat} (h:Heap C x ob tk w) (ho:∀p∈ob',p∈ob) (hn:(ob'.map Prod.fst).Nodup) (ht:∀t∈tk',t∈tk):Heap C x ob' tk' w:=
 ⟨h.per,h.g0,h.gm,h.new,fun p hp=>h.obs p (ho p hp),hn,fun p hp q hq=>h.inj p (ho p hp) q (ho q hq),fun t hu=>h.tks t (ht t hu),fun t hu p hp=>h.tko t (ht t hu) p (ho p hp),
  fun t hu u hv=>h.tkd t (ht t hu) u (ht u hv),h.os,h.tape,h.output,h.size,h.ext,h.pin,h.lay⟩
theorem renOs_eq (d:Nat) (m:List Nat) (os:List (Nat×SObj)):renOs d m os=os.map fun p=>(renO d m p.1,p.2.ren (renO d m) (renT d)):=by
 induction os with
 |nil=>rfl
 |cons p r ih=>simp [renOs,ih]
end Go.Sy
namespace Go.Sy
variable [LaidData]
variable {P : Program} {C : Ctx} {x : Sit} {s : St} {a : Act} {w : World} {o : Oper} {so : SOp}
def PostK (C:Ctx) (k:St→Prop):Act→World→Prop:=fun a w=>∃x s,Models C x s a w∧k s
theorem wp_of_done {K:Act→World→Prop} {Q:Exit→Act→World→Prop} {k:St→Prop} {s':St} (h:Done P C o a w s') (hk:k s') (hK:∀a w,PostK C k a w→K a w):o.wp P a w K Q:=by
 obtain⟨u,w',x',n,hrun,hn,hM⟩:=h;unfold Oper.wp;rw [hrun];rcases hn with rfl|⟨rfl,rfl⟩
 ·exact hK _ _ ⟨x',s',hM,hk⟩
 ·exact hK _ _ ⟨x',s',hM,hk⟩
theorem callFunc_run {f:Nat} (h:callableB P f=true) (args:Array Value) (w:World):(callFunc f args).run P w= .ok (.enter f args) w:=by
 unfold callableB at h;split at h
 ·rename_i fn hf
  simp only [Bool.and_eq_true,Bool.not_eq_true']at h;obtain⟨h1,h2⟩:=h;have h3:fn.body.isNone=false:=by cases hb:fn.body<;>simp [hb]at h1 ⊢
  simp only [callFunc,Sem.run_bind,run_program,Result.andThen_ok,hf,h2,Bool.false_eq_true,if_false,h3,Sem.run_pure]
 ·cases h
theorem exec_call (hM:Models C x s a w) {cl:Call} {F:Operand} (ho:o.op= .call cl) (hb:cl.callee= .value F) {f:Arg} {as:List Arg} (hf:resArg P 0 F=some f)
 (has:mapO (fun p=>resArg P p.2 p.1) (cl.args.toList.zip cl.argTypes.toList)=some as) (hsz:cl.args.size=cl.argTypes.size) {g:Nat} {c1 c2:List SV} (hg:s.ev f= .fn g c1 c2) (hc:callableB P g=true):
 ∃vs:List Value,(execOp a.eval o).run P w= .ok (.enter g ⟨vs⟩) w∧RepL x (c1++as.map s.ev++c2) vs:=by
 have hF:=resArg_rep hM hf;rw [hg]at hF;obtain⟨v1,v2,hFe,h1,h2⟩:=hF.fn_inv;obtain⟨hl,hget⟩:=mapO_get has;have hzl:(cl.args.toList.zip cl.argTypes.toList).length=cl.args.toList.length:=by simp [hsz]
 have hargs:RepL x (as.map s.ev) (cl.args.toList.map a.eval):=by
  refine⟨by simp only [List.length_map];rw [hl,hzl],fun i hi=> ?_⟩;have hi':i<as.length:=by simpa using hi
  have hiz:i<(cl.args.toList.zip cl.argTypes.toList).length:=by omega
  have:=resArg_rep hM (hget i hiz hi');have e1:(as.map s.ev).getD i .undef=s.ev as[i]:=by rw [List.getD_eq_getElem?_getD,List.getElem?_map,List.getElem?_eq_getElem hi'];rfl
  have e2:(cl.args.toList.map a.eval).getD i Go.undef=a.eval (cl.args.toList.zip cl.argTypes.toList)[i].1:=by
   have hia:i<cl.args.toList.length:=by omega
   rw [List.getD_eq_getElem?_getD,List.getElem?_map,List.getElem?_eq_getElem hia,List.getElem_zip];rfl
  rw [e1,e2];exact this
 refine⟨v1++cl.args.toList.map a.eval++v2, ?_,(h1.append hargs).append h2⟩
 have:(execOp a.eval o).run P w=(callFunc g ((⟨v1⟩:Array Value)++cl.args.map a.eval++⟨v2⟩)).run P w:=by simp only [execOp,ho,resolve,hb,hFe,Deferred.ofValue,Sem.run_bind,Sem.run_pure,Result.andThen_ok,invoke]
 rw [this,callFunc_run hc]
 congr 2
 apply Array.ext';simp
theorem getD_zip_fst {m:List Nat} {l:List SObj} (hl:m.length=l.length):∀p∈m.zip l,∃i,i<l.length∧p.1=m.getD i 0∧p.2=l.getD i (.rc []):=by
 intro p hp;obtain⟨i,hi,rfl⟩:=List.getElem_of_mem hp;have h1:i<m.length:=by simp at hi;omega
 have h2:i<l.length:=by simp at hi;omega
 refine⟨i,h2, ?_, ?_⟩
 ·rw [List.getElem_zip,List.getD_eq_getElem?_getD,List.getElem?_eq_getElem h1];rfl
 ·rw [List.getElem_zip,List.getD_eq_getElem?_getD,List.getElem?_eq_getElem h2];rfl
theorem mem_wr {wr:List (Nat×SObj)}:∀ {s:St} {p:Nat×SObj},(s.ob.map Prod.fst).Nodup→(wr.map Prod.fst).Nodup→p∈(s.wr wr).ob→p∈wr∨(p∈s.ob∧p.1∉wr.map Prod.fst):=by
 induction wr with
 |nil=>intro s p _ _ h;exact .inr ⟨h,by simp⟩
 | cons q r ih=>
  intro s p hnd hwr h;simp only [St.wr]at h;simp only [List.map_cons,List.nodup_cons]at hwr;have hnd':((s.setO q.1 q.2).ob.map Prod.fst).Nodup:=by show((setO q.1 q.2 s.ob).map Prod.fst).Nodup;rw [fst_setO];exact hnd
  rcases ih hnd' hwr.2 h with h1|⟨h1,h2⟩
  ·exact .inl (List.mem_cons_of_mem _ h1)
  ·rcases mem_setO hnd h1 with⟨rfl,_⟩|⟨h3,h4⟩
   ·exact .inl (List.mem_cons_self ..)
   ·refine .inr ⟨h3, ?_⟩
    simp only [List.map_cons,List.mem_cons,not_or];exact⟨h4,h2⟩
theorem fst_wr {wr:List (Nat×SObj)}:∀ {s:St},(s.wr wr).ob.map Prod.fst=s.ob.map Prod.fst:=by
 induction wr with
 |nil=>intro s;rfl
 |cons q r ih=>intro s;simp only [St.wr];rw [ih];exact fst_setO s.ob
theorem tm_wr {wr:List (Nat×SObj)}:∀ {s:St},(s.wr wr).tm=s.tm∧(s.wr wr).tk=s.tk:=by
 induction wr with
 |nil=>intro s;exact⟨rfl,rfl⟩
 |cons q r ih=>intro s;simp only [St.wr];exact ih
theorem wp_isCall (hM:Models C x s a w) {g:Nat} {as:List SV} {e:Eff} (h:IsCall P s g as e) {vs:List Value} (hvs:RepL x as vs):
 Calls P g ⟨vs⟩ w fun en w'=>∃v x',en= .returned v∧∀d,Models C x' (s.app d e) (a.put d v) w':=by
 obtain⟨m,args,os,r,os',⟨_,hS⟩,hl,hl',hos100,hnd,hle,hlk,hrt,hri,hos,rfl⟩:=h;have hargs:RepL (x.back (fun k=>m.getD k 0) id) args vs:=(leL_rep hle hvs).renB;refine(hS (Ctx.callee x w m (x.back (fun k=>m.getD k 0) id).β) (x.back (fun k=>m.getD k 0) id) w vs rfl rfl ?_ hos100 (heap_callee hM (fun i _=>rfl) hl hnd hlk) hargs).mono ?_
 ·rintro b (h|⟨i,hi,h⟩)
  ·exact .inl h
  ·exact .inr ⟨i,by omega,h⟩
 ·rintro en w' ⟨v,x',r',o',rfl,⟨rfl,rfl⟩,hr,hH,hgiven⟩
  have hg:∀i,i<os.length→x'.β i=x.β (m.getD i 0):=hgiven;rw [hrt]at hH
  obtain⟨hG,hA⟩:=heap_after (mo:=fun k=>m.getD k 0) (mt:=id) (lo:=0) (hi:=0) (β2:=x.β) (τ2:=x.τ) hM hl hlk hH (fun i _=>rfl) (fun i _=>by omega) (fun _ _=>rfl) (fun _ _=>rfl)
   (fun p hp=>by obtain⟨h1,_⟩:=mem_idx.1 hp;exact(hg p.1 (by omega)).symm)
   (fun p hp k hk=>by
    obtain⟨h1,h2⟩:=mem_idx.1 hp;have hm:p.2∈os':=by rw [h2,List.getD_eq_getElem?_getD,List.getElem?_eq_getElem h1];exact List.getElem_mem _
    exact(hg k ((hos _ hm).2 k hk)).symm)
   (fun p hp t ht=>by
    obtain⟨h1,h2⟩:=mem_idx.1 hp;have hm:p.2∈os':=by rw [h2,List.getD_eq_getElem?_getD,List.getElem?_eq_getElem h1];exact List.getElem_mem _
    rw [(hos _ hm).1]at ht;simp at ht)
   (fun p hp=> .inl (by obtain⟨h1,_⟩:=mem_idx.1 hp;omega)) (fun t ht=>by simp at ht)
  refine⟨v,⟨x'.G,x.β,x.τ⟩,rfl,fun d=> ?_⟩;simp only [St.app];refine Models.put (s:=s.wr (m.zip (os'.map (SObj.ren (fun k=>m.getD k 0) id)))) ⟨?_,hM.defers, ?_⟩ d ?_
  ·rw [tm_wr.1];exact RepL.grow (x:=x) (x':=⟨x'.G,x.β,x.τ⟩) hG rfl rfl hM.tm
  ·have hzl:m.length=(os'.map (SObj.ren (fun k=>m.getD k 0) id)).length:=by simp;omega
   have hzf:((m.zip (os'.map (SObj.ren (fun k=>m.getD k 0) id))).map Prod.fst)=m:=by rw [List.map_fst_zip];omega
   refine hA.only (fun p hp=> ?_) (by rw [fst_wr];exact hM.heap.nd) (fun t ht=> ?_)
   ·rw [List.mem_append]
    rcases mem_wr hM.heap.nd (by rw [hzf];exact hnd) hp with h|⟨h1,h2⟩
    ·left
     obtain⟨i,hi,h1,h2⟩:=getD_zip_fst hzl p h;rw [List.length_map]at hi;refine List.mem_map.2 ⟨(i,os'.getD i (.rc [])),mem_idx.2 ⟨hi,rfl⟩, ?_⟩;have:p=(p.1,p.2):=rfl;rw [this,h1,h2];simp only [List.getD_eq_getElem?_getD,List.getElem?_map];rw [List.getElem?_eq_getElem hi];rfl
    ·right
     rw [hzf]at h2;refine mem_dropOs.2 ⟨?_,h2⟩;rw [purgeO00];exact h1
   ·rw [tm_wr.2]at ht
    simp only [List.map_nil,List.nil_append];exact mem_dropT.2 ⟨ht,by omega⟩
  ·exact Rep.renF (x:=x') (x2:=⟨x'.G,x.β,x.τ⟩) (fun _ _ _ h=>h) hr (fun k hk=>(hg k (hri k hk)).symm) (fun t ht=>by rw [hrt]at ht;simp at ht)
end Go.Sy
namespace Go.Sy
variable [LaidData]
variable {P : Program} {C : Ctx} {x : Sit} {s : St} {a : Act} {w : World} {o : Oper} {so : SOp} {p : Prop} {c : SV}
theorem done_ovl (hM:Models C x s a w) {q r:Arg} (hr:res1 P o=some (.ovl q r)) {e:Eff} (he:eff s o.dst (.ovl q r)=some e) (hp:e.pre):Done P C o a w (s.app o.dst e):=by simp only [eff,val]at he;cases he
end Go.Sy
