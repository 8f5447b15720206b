/- An engine that steps through Go code with symbolic values: sound by proof. No condition. -/
import Derived.Test.YtdafipacemgcoaaGreatDoorEb
import Derived.Orders
set_option linter.unusedVariables false
set_option linter.unusedSimpArgs false
set_option linter.unnecessarySimpa false
set_option linter.unusedSectionVars false
namespace Go.Sy
variable [LaidData]
variable {P : Program} {C : Ctx} {x : Sit} {s : St} {a : Act} {w : World} {o : Oper} {so : SOp} {p : Prop} {c : SV}
theorem New.append {as bs:List Value} {A B:List SV} (h:New x as A) (k:New x bs B):New x (as++bs) (A++B):=by
 refine⟨by simp [h.len,k.len],fun i hi=> ?_,fun v hv=>(List.mem_append.1 hv).elim (h.one v) (k.one v)⟩;simp only [List.getD_eq_getElem?_getD]
 by_cases h1:i<A.length
 ·rw [List.getElem?_append_left h1,List.getElem?_append_left (by rw [←h.len];exact h1)]
  have:=h.rep i h1;simpa only [List.getD_eq_getElem?_getD]using this
 ·rw [List.getElem?_append_right (by omega),List.getElem?_append_right (by rw [←h.len];omega),h.len]
  have:=k.rep (i-A.length) (by simp only [List.length_append]at hi;omega);rw [h.len]at this;simpa only [List.getD_eq_getElem?_getD]using this
theorem new_zeros {zs:List Value} {z:List SV} {zc:Array Value} (hzc:zc.toList=zs) (hl:z.length=zs.length) (hz:∀(G:GM) i,i<z.length→RepD G (z.getD i .undef) (zs.getD i Go.undef)) (n:Nat):
 New x (Builtin.zeroCells zc n).toList (List.replicate n z).flatten:=by
 have hzs:zc.size=z.length:=by rw [←Array.length_toList,hzc,hl]
 have hrows:∀y∈List.replicate n z,y.length=z.length:=fun y hy=>by rw [(List.mem_replicate.1 hy).2]
 have hfl:(List.replicate n z).flatten.length=n*z.length:=by rw [flatten_len hrows,List.length_replicate]
 have hget:∀i,i<n*z.length→(Builtin.zeroCells zc n).toList.getD i Go.undef=zs.getD (i % z.length) Go.undef:=by
  intro i hi
  have hpos : 0 < z.length := by rcases Nat.eq_zero_or_pos z.length with h|h
                                 ·rw [h]at hi;omega
                                 ·exact h
  have hlt:i % zc.size<zc.size:=Nat.mod_lt _ (by omega);rw [List.getD_eq_getElem?_getD,Builtin.zeroCells];simp only [Array.toList_map,Array.toList_range,List.getElem?_map];rw [List.getElem?_range (by rw [hzs];exact hi)];simp only [Option.map_some,Option.getD_some];rw [getElem!_pos zc _ hlt,←hzc,List.getD_eq_getElem?_getD,←hzs,List.getElem?_eq_getElem (by simpa using hlt)];simp
 refine⟨by rw [hfl];simp [zeroCells_size,hzs],fun i hi=> ?_,fun v hv=> ?_⟩
 ·rw [hfl]at hi
  have hpos : 0 < z.length := by rcases Nat.eq_zero_or_pos z.length with h|h
                                 ·rw [h]at hi;omega
                                 ·exact h
  rw [hget i hi,flatten_getD _ hrows i (by simpa using hi),getD_replicate _ _ _ _ (Nat.div_lt_of_lt_mul (by rw [Nat.mul_comm];exact hi))];exact hz _ _ (Nat.mod_lt _ hpos)
 ·obtain⟨i,hi,rfl⟩:=List.mem_iff_getElem.1 hv
  have hi':i<n*z.length:=by simpa [zeroCells_size,hzs]using hi
  have hpos : 0 < z.length := by rcases Nat.eq_zero_or_pos z.length with h|h
                                 ·rw [h]at hi';omega
                                 ·exact h
  have h1:=hget i hi';rw [List.getD_eq_getElem?_getD,List.getElem?_eq_getElem hi,Option.getD_some]at h1;rw [h1];exact(hz (fun _ _=>none) _ (Nat.mod_lt _ hpos)).oneCell
theorem arr_cells {sz:Nat} {rs:List (List SV)} (hrows:∀y∈rs,y.length=sz) {cs:List Value} (h:New x cs rs.flatten) (k:Nat) (hk:k<rs.length*sz):cellRep x (.arr sz rs) k ((⟨cs⟩:Array Value).getD k Go.undef):=by
 simp only [cellRep,SObj.cell];rw [←flatten_getD rs hrows k hk];have:=h.rep k (by rw [flatten_len hrows];exact hk);have e:(⟨cs⟩:Array Value).getD k Go.undef=cs.getD k Go.undef:=by simp [Array.getD_eq_getD_getElem?,List.getD_eq_getElem?_getD]
 rw [e];exact this
theorem grown (hM:Models C x s a w) {d:Nat} {el:TypeId} {z:List SV} {R0 R1:List (List SV)} {os ns zr:List Value} {nc:Nat} (h0:New x os R0.flatten) (h1:New x ns R1.flatten) (hz:New x zr (List.replicate (nc-(R0.length+R1.length)) z).flatten)
 (g0:∀y∈R0,y.length=z.length) (g1:∀y∈R1,y.length=z.length) (hnc:R0.length+R1.length≤nc) (sl:Option Nat) (hsl:sl.getD 0=d):
 ∃x',Models C x' (s.app sl (growE d z R0 R1 nc)) (a.put sl (.slice (some ⟨w.heap.size,0,none⟩) (R0.length+R1.length) nc)) (w.drew.alloc (.cells (⟨os++ns++zr⟩:Array Value) el (0,0))):=by
 have hM2:Models C x s a w.drew:=⟨hM.tm,hM.defers,hM.heap.drew⟩
 have hrows:∀y∈R0++R1++List.replicate (nc-(R0.length+R1.length)) z,y.length=z.length:=by
  intro y hy;rcases List.mem_append.1 hy with hy|hy
  ·exact(List.mem_append.1 hy).elim (g0 y) (g1 y)
  ·rw [(List.mem_replicate.1 hy).2]
 have hN:=(h0.append h1).append hz;rw [←List.flatten_append,←List.flatten_append]at hN
 have hsize:(⟨os++ns++zr⟩:Array Value).size=(R0++R1++List.replicate (nc-(R0.length+R1.length)) z).length*z.length:=by show(os++ns++zr).length=_;rw [←hN.len,flatten_len hrows]
 have hv:Rep (x.newO (d+100) w.drew.heap.size) (.psl (d+100) z.length 0 (R0.length+R1.length) (some nc)) (.slice (some ⟨w.heap.size,0,none⟩) (R0.length+R1.length) nc):=by have:=Rep.psl (x:=x.newO (d+100) w.drew.heap.size) (d+100) z.length 0 (R0.length+R1.length) (some nc) 0 nc (.inr (by omega)) hnc (fun _ e=>by cases e;rfl);rw [newO_d]at this;exact this
 refine⟨x.newO (d+100) w.drew.heap.size, ?_⟩;have:=hM2.newObj (d:=d+100) sl (by omega) (t:=el) (cv:=⟨os++ns++zr⟩) (.arr z.length (R0++R1++List.replicate (nc-(R0.length+R1.length)) z)) (by simp only [SObj.size];omega) (fun k hk=>arr_cells hrows hN k hk) hv;simp only [St.app,growE,hsl];exact this
theorem splice_rows {n off:Nat} {xs l':List (List SV)} {ns:List Value} (hrows:∀y∈xs,y.length=n) (hrows':∀y∈l',y.length=n) (hnew:New x ns l'.flatten) (hbd:off+l'.length≤xs.length)
 (c:Array Value) (hc:∀k,k<xs.length*n→cellRep x (.arr n xs) k (c.getD k Go.undef)) (i:Nat) (hi:i<xs.length*n):
 (xs.take off++l'++xs.drop (off+l'.length)).length=xs.length∧
 cellRep x (.arr n (xs.take off++l'++xs.drop (off+l'.length))) i (if off*n≤i∧i<off*n+ns.length then ns.getD (i-off*n) Go.undef else c.getD i Go.undef):=by
 have hnl:ns.length=l'.length*n:=by rw [←hnew.len,flatten_len hrows']
 have hfl:l'.flatten.length=l'.length*n:=flatten_len hrows'
 have hrowsnew:∀y∈xs.take off++l'++xs.drop (off+l'.length),y.length=n:=by
  intro y hy;rcases List.mem_append.1 hy with hy|hy
  ·rcases List.mem_append.1 hy with hy|hy
   ·exact hrows y (List.mem_of_mem_take hy)
   ·exact hrows' y hy
  ·exact hrows y (List.mem_of_mem_drop hy)
 have hlnew:(xs.take off++l'++xs.drop (off+l'.length)).length=xs.length:=by simp only [List.length_append,List.length_take,List.length_drop];omega
 have hbnd:off*n+l'.length*n≤xs.length*n:=by rw [←Nat.add_mul];exact Nat.mul_le_mul_right _ hbd
 refine⟨hlnew, ?_⟩;have:=hc i hi;simp only [cellRep,SObj.cell]at this ⊢;rw [←flatten_getD _ hrowsnew i (by rw [hlnew];exact hi)];rw [←flatten_getD _ hrows i hi]at this;rw [List.flatten_append,List.flatten_append,hnl];have ef:xs.flatten=(xs.take off).flatten++(xs.drop off).flatten:=by rw [←List.flatten_append,List.take_append_drop]
 have l1:(xs.take off).flatten.length=off*n:=by rw [flatten_len (fun y hy=>hrows y (List.mem_of_mem_take hy)),List.length_take,Nat.min_eq_left (by omega)]
 have e1:xs.flatten.take (off*n)=(xs.take off).flatten:=by rw [ef,List.take_append_of_le_length (by rw [l1];exact Nat.le_refl _),List.take_of_length_le (by rw [l1];exact Nat.le_refl _)]
 have e2:xs.flatten.drop (off*n+l'.length*n)=(xs.drop (off+l'.length)).flatten:=by
  have ef2:xs.flatten=(xs.take (off+l'.length)).flatten++(xs.drop (off+l'.length)).flatten:=by rw [←List.flatten_append,List.take_append_drop]
  have l2:(xs.take (off+l'.length)).flatten.length=off*n+l'.length*n:=by rw [flatten_len (fun y hy=>hrows y (List.mem_of_mem_take hy)),List.length_take,Nat.min_eq_left (by omega),Nat.add_mul]
  rw [ef2,List.drop_append,l2,Nat.sub_self,List.drop_zero,List.drop_eq_nil_of_le (by rw [l2];exact Nat.le_refl _),List.nil_append]
 rw [←e1,←e2,←hfl];have hsp:=splice_get xs.flatten l'.flatten (off*n) i (by rw [hfl,flatten_len hrows];exact hbnd);rw [List.getD_eq_getElem?_getD,hsp];split
 ·rename_i hin
  rw [←List.getD_eq_getElem?_getD];exact hnew.rep _ (by omega)
 ·rw [←List.getD_eq_getElem?_getD];exact this
structure Src (P:Program) (n m:Nat) (w:World) (Y:Value) (ns:List Value):Prop where
 len:∀w':World,w'.heap=w.heap→(Builtin.lenOf Y).run P w'= .ok m w'
 cells:∀w':World,w'.heap=w.heap→(Builtin.firstCells n m Y).run P w'= .ok ns.toArray w'
theorem src_rows (hM:Models C x s a w) {n:Nat} {u:SV} {Y:Value} {p:Prop} {R:List (List SV)} (h:Rep x u Y) (hb:rowsOf s n u=some (p,R)) (hp:p):∃ns,(∀y∈R,y.length=n)∧New x ns R.flatten∧Src P n R.length w Y ns:=by
 obtain⟨hrows',g1,ns,hnew,g2⟩:=rowsOf_sound (P:=P) hM h hb hp;refine⟨ns,hrows',hnew,g1,fun w' hw'=> ?_⟩;have:=g2 R.length (Nat.le_refl _) w' hw';have hnl:ns.length=R.length*n:=by rw [←hnew.len,flatten_len hrows']
 rwa [←hnl,List.take_length]at this
theorem capOf_val {u:SV} {X:Value} {cap:Nat} (h:Rep x u X) (hc:capOf u=some cap):∃bs n,X= .slice bs n cap:=by
 unfold capOf at hc;split at hc<;>try (cases hc;done)
 ·subst hc;obtain⟨_,_,hcc,off',he,_⟩:=h.psl_inv;obtain rfl:=hcc _ rfl;exact⟨_,_,he⟩
 ·rename_i sz xs
  cases hc;obtain⟨b,cap,he,_,_,hsp⟩:=h.lst_inv;obtain⟨a',n',he'⟩:=hsp;rw [he]at he';simp only [Value.slice.injEq]at he';refine⟨b,xs.length, ?_⟩;rw [he];simp only [Value.slice.injEq,true_and];omega
theorem run_appz_out {t u el:TypeId} {k:IntKind} {n m len cap by_:Nat} {i:TypeInfo} {z:Value} (hd:P.underlying t=some (.slice el)) (hu:P.underlying u=some (.int k)) (hn:szOf P el=some n) (hn0:n≠0) {ty:TypeId} {bs:Option Addr} {os:List Value}
 (hi:P.info? el=some i) (hib:i.bytes=by_) (hb0:by_≠0) (hzr:∀w,(zeroValue el).run P w= .ok z w)
 (hold:∀w':World,w'.heap=w.heap→(Builtin.firstCells n len (.slice bs len cap)).run P w'= .ok os.toArray w')
 (hc:¬len+m≤cap) (hm:m≤140737488355328) (hroom:(len+m)*by_≤140737488355328) {k':IntKind} (hcap:m≠0):
 ∃nc,len+m≤nc∧(Builtin.append_ #[t,u] ty #[.slice bs len cap,.int k' m]).run P w= .ok (.slice (some ⟨w.heap.size,0,none⟩) (len+m) nc) (w.drew.alloc (.cells (os.toArray++Builtin.zeroCells z.cells m++Builtin.zeroCells z.cells (nc-(len+m))) el (0,0))):=by
 have e:(#[t,u]:Array TypeId)[0]? =some t:=rfl;have e':(#[t,u]:Array TypeId)[1]? =some u:=rfl;have e2:(#[Value.slice bs len cap,.int k' (m:Nat)]:Array Value)[0]? =some (.slice bs len cap):=rfl;have e3:(#[Value.slice bs len cap,.int k' (m:Nat)]:Array Value)[1]? =some (.int k' (m:Nat)):=rfl;have hf:(Question.appendCap (len+m) cap el).forced=false:=rfl
 have hfit:¬Builtin.nextslicecap (len+m) cap*i.bytes>2^48:=by have:=growslice_fits (need:=len+m) (old:=cap) (bytes:=by_) (by omega) hroom;rw [hib];omega
 have hw:IntKind.i64.wrap (m:Int)=m:=by rw [IntKind.wrap_i64];omega
 have hmb:m*by_≤(len+m)*by_:=Nat.mul_le_mul_right _ (by omega);have hby1:len+m≤(len+m)*by_:=Nat.le_mul_of_pos_right _ (by omega)
 have h48:¬((m:Int)*(i.bytes:Int)>2^48):=by rw [hib,←Int.natCast_mul];omega
 have hneg:¬((m:Int)<0):=by omega
 have hns:¬(m*n=0):=Nat.mul_ne_zero hcap hn0
 have hmax:¬(((len+m:Nat):Int)>IntKind.i64.max):=by show ¬(((len+m:Nat):Int)>9223372036854775807);omega
 refine⟨(Question.appendCap (len+m) cap el).cut (w.tape w.drawn (Question.appendCap (len+m) cap el)),by simp only [Question.cut];omega, ?_⟩;simp only [Builtin.append_,e,e',e2,e3,Sem.run_bind,run_underlying hd,Result.andThen_ok,szOf_run hn,run_underlying hu,Sem.run_pure,if_true,asInt,asIntOf,hw,if_neg hneg,run_typeInfo w hi,if_neg h48,Int.toNat_natCast,hc,if_false];rw [if_neg (by rintro⟨h,_⟩;exact hmax h)];simp only [Sem.run_bind,Sem.run_pure,Result.andThen_ok,run_typeInfo w hi];rw [if_neg hfit];simp only [Sem.run_bind,run_choose_drew,hf,Bool.false_eq_true,if_false,Result.andThen_ok,run_typeInfo w.drew hi,run_askRoom,hold w.drew rfl,Bool.not_true,if_neg hns,hzr,newRow,run_newObj_alloc,Sem.run_pure];rfl
theorem not_other {so:SOp} (hr:res1 P o=some so) (h1:(∃z b q r,so= .app z b q r)∨∃z b q r,so= .appM z b q r):∃cl,o.op= .call cl∧cl.callee= .builtin .append:=by
 cases ho:o.op with
 | call cl=>
  cases hb:cl.callee with
  |invoke r m=>simp [res1,ho,hb]at hr
  |value F=>
   exfalso;simp only [res1,ho,hb]at hr
   (repeat' split at hr)<;>first|(cases hr;done)|(cases hr;rcases h1 with⟨_,_,_,_,h⟩|⟨_,_,_,_,h⟩<;>cases h)
  |builtin b=>
   cases b<;>first|exact⟨cl,rfl,hb⟩|(exfalso;simp only [res1,ho,hb,reduceCtorEq]at hr<;>((repeat' split at hr)<;>first|(cases hr;done)|(cases hr;rcases h1 with⟨_,_,_,_,h⟩|⟨_,_,_,_,h⟩<;>cases h)))
 | _=>
  exfalso
  have:¬((∃z b q r,so= .app z b q r)∨∃z b q r,so= .appM z b q r):=by
   simp only [res1,ho]at hr
   first
    |(cases hr;done)
    |(obtain⟨_,_,rfl⟩:=Option.map_eq_some_iff.1 hr;rintro(⟨_,_,_,_,h⟩|⟨_,_,_,_,h⟩)<;>cases h;done)
    |(repeat' split at hr)<;>first|(cases hr;done)|contradiction|(cases hr;rintro(⟨_,_,_,_,h⟩|⟨_,_,_,_,h⟩)<;>cases h;done)|(obtain⟨_,_,rfl⟩:=Option.map_eq_some_iff.1 hr;rintro(⟨_,_,_,_,h⟩|⟨_,_,_,_,h⟩)<;>first|(cases h;done)|(split at h<;>cases h;done))
  exact this h1
structure AppI (P:Program) (o:Oper) (z:List SV) (by_:Nat) (q r:Arg) (a:Act) (X Y:Operand) (t u el:TypeId) (d2:TypeDesc) (zs:List Value):Prop where
 ex:execOp a.eval o=(do pure (.value (←Builtin.append_ #[t,u] o.type #[a.eval X,a.eval Y])))
 hd:P.underlying t=some (.slice el)
 hu:P.underlying u=some d2
 hX:resArg P t X=some q
 hY:resArg P u Y=some r
 hn:szOf P el=some z.length
 hby:byOf P el=some by_
 hz:zcells P el=some zs
 hzl:z.length=zs.length
 hzd:∀(G:GM) i,i<z.length→RepD G (z.getD i .undef) (zs.getD i Go.undef)
 hb0:by_≠0
 hn0:z.length≠0
theorem app_inv {so:SOp} (hr:res1 P o=some so) {z:List SV} {by_:Nat} {q r:Arg} (h1:so= .app z by_ q r∨so= .appM z by_ q r) (a:Act):∃X Y t u el d2 zs,AppI P o z by_ q r a X Y t u el d2 zs∧
 (so= .app z by_ q r→(∃e',d2= .slice e')∨d2= .string)∧(so= .appM z by_ q r→∃k,d2= .int k):=by
 obtain⟨cl,ho,hb⟩:=not_other hr (h1.imp (fun h=>⟨_,_,_,_,h⟩) (fun h=>⟨_,_,_,_,h⟩));simp only [res1,ho,hb]at hr;split at hr<;>try (cases hr;done)
 rename_i X Y t u hX ht;split at hr<;>try (cases hr;done)
 rename_i el d2 r' q' hd hu hra hrb;split at hr<;>try (cases hr;done)
 rename_i n b' z' hn hby hz;rw [Option.ite_none_right_eq_some]at hr;obtain⟨hcond,hr⟩:=hr;simp only [Bool.and_eq_true,decide_eq_true_eq]at hcond;obtain⟨⟨hb0,hn0⟩,hzl'⟩:=hcond;obtain⟨zs,hzc,hzl0,hzd⟩:=zeros_data hz;have ea:cl.args= #[X,Y]:=by apply Array.ext';simpa using hX
 have et:cl.argTypes= #[t,u]:=by apply Array.ext';simpa using ht
 have hex:=mkCall (a:=a) ho hb _ rfl;rw [ea,et]at hex;have em: #[X,Y].map a.eval= #[a.eval X,a.eval Y]:=by simp
 rw [em]at hex
 have key:z'=z∧b'=by_∧r'=q∧q'=r∧(so= .app z by_ q r→(∃e',d2= .slice e')∨d2= .string)∧(so= .appM z by_ q r→∃k,d2= .int k):=by
  split at hr<;>try (cases hr;done)
  ·cases hr;rcases h1 with h|h<;>cases h;exact⟨rfl,rfl,rfl,rfl,fun _=> .inl ⟨_,rfl⟩,fun h=>by cases h⟩
  ·rw [Option.ite_none_right_eq_some]at hr
   obtain⟨_,hr⟩:=hr;cases hr;rcases h1 with h|h<;>cases h;exact⟨rfl,rfl,rfl,rfl,fun _=> .inr rfl,fun h=>by cases h⟩
  ·cases hr;rcases h1 with h|h<;>cases h;exact⟨rfl,rfl,rfl,rfl,fun h=>(by cases h),fun _=>⟨_,rfl⟩⟩
 obtain⟨rfl,rfl,rfl,rfl,k1,k2⟩:=key;subst hzl';exact⟨X,Y,t,u,el,d2,zs,⟨hex,hd,hu,hra,hrb,hn,hby,hzc,hzl0,hzd,hb0,hn0⟩,k1,k2⟩
theorem byOf_info {t:TypeId} {b:Nat} (h:byOf P t=some b):∃i,P.info? t=some i∧i.bytes=b:=by
 unfold byOf at h;cases hi:P.info? t with
 |none=>simp [hi]at h
 |some i=>simp [hi]at h;exact⟨i,rfl,h⟩
theorem appP_sound (hM:Models C x s a w) {z:List SV} {by_:Nat} {q r:Arg} (hr:res1 P o=some (.app z by_ q r)) {k:St→Prop} (h:appP s o.dst z by_ (s.ev q) (rowsOf s z.length (s.ev r)) k):∃s',Done P C o a w s'∧k s':=by
 obtain⟨X,Y,t,u,el,d2,zs,I,hu2,_⟩:=app_inv hr (.inl rfl) a;have hu2:=hu2 rfl;have h1:=resArg_rep hM I.hX;have h2:=resArg_rep hM I.hY;unfold appP at h;split at h<;>try (exact h.elim)
 rename_i d0 cap p0 R0 p1 R1 hdst hcap hR0 hR1;obtain⟨hp0,hp1,hroom,hfit,hgrow⟩:=h;obtain⟨os,g0,n0,s0⟩:=src_rows (P:=P) hM h1 hR0 hp0;obtain⟨ns,g1,n1,s1⟩:=src_rows (P:=P) hM h2 hR1 hp1;obtain⟨bs,len,hXv⟩:=capOf_val h1 hcap
 have hlen:len=R0.length:=by have:=s0.len w rfl;rw [hXv]at this;simp only [Builtin.lenOf,Sem.run_pure,Result.ok.injEq]at this;exact this.1
 subst hlen;obtain⟨i,hi,hib⟩:=byOf_info I.hby;obtain⟨zv,hzc,hzr⟩:=zeroValue_run I.hz;have hnl:ns.length=R1.length*z.length:=by rw [←n1.len,flatten_len g1]
 by_cases hc:R0.length+R1.length≤cap
 ·have hk:=hfit hc
  cases hu:s.ev q with
  | psl o' sz off n cap'=>
   rw [hu]at hk h1 hR0 hcap;simp only [capOf]at hcap;subst hcap;simp only [fitP]at hk;split at hk<;>try (exact hk.elim)
   rename_i sz' xs hl;obtain⟨rfl,hrows,hbd,hk⟩:=hk;simp only [rowsOf,hl,Option.some.injEq,Prod.mk.injEq]at hR0;obtain⟨e1,e2⟩:=hR0;rw [←e1]at hp0;obtain⟨rfl,_,hb1,_⟩:=hp0;have hR0l:R0.length=n:=by rw [←e2];simp;omega
   obtain⟨cq,hnc,hcc,off',he',hoff⟩:=h1.psl_inv;obtain rfl:=hcc _ rfl;rw [hXv]at he';simp only [Value.slice.injEq]at he';obtain⟨rfl,_,_⟩:=he'
   obtain⟨hM',hst⟩:=hM.write (P:=P) (off:=(off+n)*z.length) (vs:=ns) (obj':= .arr z.length (xs.take (off+n)++R1++xs.drop (off+n+R1.length))) hl (by
    simp only [SObj.size];rw [hnl,←Nat.add_mul];exact Nat.mul_le_mul_right _ hbd) (by
    simp only [SObj.size,List.length_append,List.length_take,List.length_drop];congr 1;omega) (fun cc hcc i hi=>(splice_rows hrows g1 n1 hbd cc hcc i hi).2)
   refine⟨_,⟨.slice (some ⟨x.β o',off',none⟩) (n+R1.length) cap,putCells w (x.β o') ((off+n)*z.length) ns,x,.value _, ?_,.inl rfl, ?_⟩,hk⟩
   ·have hrun:=run_app_in (P:=P) (t:=t) (u:=u) (ty:=o.type) (bs:=some ⟨x.β o',off',none⟩) (len:=R0.length) (m:=R1.length) (cap:=cap) (w1:=putCells w (x.β o') ((off+n)*z.length) ns) I.hd I.hu hu2 I.hn (s1.len w rfl) (s1.cells w rfl) hc (by
     simp only [addr_add]
     by_cases hc0:cap=0
     ·have : ns = [] := List.length_eq_zero_iff.1 (by rw [hnl];have:R1.length=0:=by omega
                                                      rw [this,Nat.zero_mul])
      rw [this];simp [storeCells,putCells]
     ·rw [hoff.resolve_left hc0,hR0l,←Nat.add_mul]
      exact hst n1.one w rfl)
    rw [I.ex,hXv];simp only [Sem.run_bind,hrun,Result.andThen_ok,Sem.run_pure];rw [hR0l]
   ·simp only [St.app]
    refine Models.put hM' o.dst (.psl _ _ _ _ _ _ _ hoff (by omega) (fun _ e=>by cases e;rfl))
  | lst sz xs tk=>
   rw [hu]at hk h1 hcap hR0;simp only [fitP]at hk
   have hcx:cap=xs.length:=by
    cases tk<;>simp only [capOf,reduceCtorEq,Option.some.injEq]at hcap;exact hcap.symm
   simp only [rowsOf,Option.some.injEq,Prod.mk.injEq]at hR0;have hR1:R1.length=0:=by rw [←hR0.2]at hc;omega
   have hns:ns=[]:=List.length_eq_zero_iff.1 (by rw [hnl,hR1,Nat.zero_mul])
   have hrun:=run_app_in (P:=P) (t:=t) (u:=u) (ty:=o.type) (bs:=bs) (len:=R0.length) (m:=R1.length) (cap:=cap) (w1:=w) I.hd I.hu hu2 I.hn (s1.len w rfl) (s1.cells w rfl) hc (by rw [hns];cases bs<;>simp [storeCells])
   refine⟨_,⟨.slice bs (R0.length+R1.length) cap,w,x,.value _, ?_,.inl rfl, ?_⟩,hk⟩
   ·rw [I.ex,hXv];simp only [Sem.run_bind,hrun,Result.andThen_ok,Sem.run_pure]
   ·refine Models.put hM o.dst ?_
    rw [hR1,Nat.add_zero,←hXv];exact h1
  |_=>rw [hu]at hcap;simp [capOf]at hcap
 ·obtain⟨nc,hnc,hrun⟩:=run_app_out (P:=P) (t:=t) (u:=u) (ty:=o.type) (bs:=bs) (len:=R0.length) (m:=R1.length) (cap:=cap) (os:=os) (ns:=ns) I.hd I.hu hu2 I.hn hi hib I.hb0 hzr s1.len s1.cells (by rw [←hXv];exact s0.cells) hc hroom
  have hk:=hgrow (by omega) nc hnc;obtain⟨x',hM'⟩:=grown hM (d:=d0) (el:=el) (zr:=(Builtin.zeroCells zv.cells (nc-(R0.length+R1.length))).toList) n0 n1 (new_zeros hzc I.hzl I.hzd _) g0 g1 hnc o.dst (by rw [hdst];rfl);refine⟨_,⟨_,_,x',.value _, ?_,.inl rfl,hM'⟩,hk⟩;rw [I.ex,hXv];simp only [Sem.run_bind,hrun,Result.andThen_ok,Sem.run_pure]
  congr 4
  apply Array.ext';simp
theorem appZ_sound (hM:Models C x s a w) {z:List SV} {by_:Nat} {q r:Arg} (hr:res1 P o=some (.appM z by_ q r)) {k:St→Prop} (h:appZ s o.dst z by_ (s.ev q) (s.ev r) k):∃s',Done P C o a w s'∧k s':=by
 obtain⟨X,Y,t,u,el,d2,zs,I,_,hu2⟩:=app_inv hr (.inr rfl) a;obtain⟨kk,rfl⟩:=hu2 rfl;have h1:=resArg_rep hM I.hX;have h2:=resArg_rep hM I.hY;unfold appZ at h;split at h<;>try (exact h.elim)
 rename_i d0 cap p0 R0 k' n hdst hcap hR0 hn;obtain⟨hp0,hn0,hn1,hroom,hc,hgrow⟩:=h;obtain⟨os,g0,n0,s0⟩:=src_rows (P:=P) hM h1 hR0 hp0;obtain⟨bs,len,hXv⟩:=capOf_val h1 hcap
 have hlen:len=R0.length:=by have:=s0.len w rfl;rw [hXv]at this;simp only [Builtin.lenOf,Sem.run_pure,Result.ok.injEq]at this;exact this.1
 subst hlen;obtain⟨i,hi,hib⟩:=byOf_info I.hby;obtain⟨zv,hzc,hzr⟩:=zeroValue_run I.hz;rw [hn]at h2;have hYv:a.eval Y= .int k' (n.toNat:Nat):=by rw [h2.int_inv];congr 1;omega
 have hlc:R0.length≤cap:=by
  rw [hXv]at h1;unfold capOf at hcap;split at hcap<;>try (cases hcap;done)
  ·rename_i o' sz off n' c' hu
   rw [hu]at h1;obtain⟨cq,hnc,hcc,off',he',_⟩:=h1.psl_inv;obtain rfl:=hcc _ hcap;simp only [Value.slice.injEq]at he';omega
  ·rename_i sz xs hu
   rw [hu]at h1;obtain⟨_,_,he',hle,_⟩:=h1.lst_inv;simp only [Value.slice.injEq]at he';omega
 obtain⟨nc,hnc,hrun⟩:=run_appz_out (P:=P) (w:=w) (t:=t) (u:=u) (k:=kk) (k':=k') (n:=z.length) (m:=n.toNat) (ty:=o.type) (bs:=bs) (len:=R0.length) (cap:=cap) (os:=os) I.hd I.hu I.hn I.hn0 hi hib I.hb0 hzr (by rw [←hXv];exact s0.cells) (by omega) (by omega) hroom (by omega);have hk:=hgrow nc hnc;have hrep:(List.replicate n.toNat z).length=n.toNat:=List.length_replicate;obtain⟨x',hM'⟩:=grown hM (d:=d0) (el:=el) (R1:=List.replicate n.toNat z) (nc:=nc) (ns:=(Builtin.zeroCells zv.cells n.toNat).toList) (zr:=(Builtin.zeroCells zv.cells (nc-(R0.length+(List.replicate n.toNat z).length))).toList) n0 (new_zeros hzc I.hzl I.hzd _) (new_zeros hzc I.hzl I.hzd _) g0 (fun y hy=>by rw [(List.mem_replicate.1 hy).2]) (by rw [hrep];exact hnc) o.dst (by rw [hdst];rfl);refine⟨_,⟨_,_,x',.value _, ?_,.inl rfl,hM'⟩,hk⟩;rw [I.ex,hXv,hYv];simp only [Sem.run_bind,hrun,Result.andThen_ok,Sem.run_pure,hrep]
 congr 4
 apply Array.ext';simp
end Go.Sy
namespace Go.Sy
variable [LaidData]
variable {P : Program} {C : Ctx} {x : Sit} {s : St} {a : Act} {w : World} {o : Oper} {so : SOp}
def Given (C:Ctx) (P:Program) (g:Nat) (vs:List Value) (w:World) (d:Option Nat) (a:Act) (k:St→Prop):Prop:=
 Calls P g ⟨vs⟩ w fun en w'=>∃v,en= .returned v∧PostK C k (a.put d v) w'
theorem given_callP (hM:Models C x s a w) {g:Nat} {as:List SV} {d:Option Nat} {k:St→Prop} (h:callP P g as d k s) {vs:List Value} (hvs:RepL x as vs):Given C P g vs w d a k:=by
 rcases h with⟨e,he,hk⟩|⟨m,args,os,R,⟨_,hS⟩,hle,hl,hos100,hnd,hlk,hmr,hR⟩
 ·refine(wp_isCall hM he hvs).mono ?_
  rintro en w' ⟨v,x',rfl,hM'⟩;exact⟨v,rfl,x',_,hM' d,hk⟩
 ·let D:=d.getD 0
  have hmo:∀i,i<m.length→renO D m i=m.getD i 0:=fun i hi=>if_pos hi
  have hargs:RepL (x.back (renO D m) (renT D)) args vs:=(leL_rep hle hvs).renB;refine(hS (Ctx.callee x w m (x.back (renO D m) (renT D)).β) (x.back (renO D m) (renT D)) w vs rfl rfl ?_ hos100 (heap_callee hM hmo hl hnd hlk) hargs).mono ?_
  ·rintro b (h|⟨i,hi,h⟩)
   ·exact .inl h
   ·exact .inr ⟨i,by omega,by show x.β (renO D m i)=b;rw [hmo i hi];exact h⟩
  ·rintro en w' ⟨v,x',r,os',rfl,hrel,hr,hH,hgiven⟩
   obtain⟨hos,hri,hrt,hk⟩:=hR r os' hrel;have hg:∀i,i<os.length→x'.β i=x.β (m.getD i 0):=fun i hi=>by rw [hgiven i hi];show x.β (renO D m i)=_;rw [hmo i (by omega)]
   let β2:Nat→Nat:=fun q=>if inR D q then x'.β (q-(D+1)*1000)else x.β q
   let τ2:Nat→Nat×Nat×Nat:=fun q=>if inR D q then x'.τ (q-(D+1)*1000)else x.τ q
   have hin:∀q,q<1000→inR D ((D+1)*1000+q)=true:=by intro q hq;simp only [inR,Bool.and_eq_true,decide_eq_true_eq];omega
   have hβnew:∀q,q<1000→β2 (renO D m q)=x'.β q:=by
    intro q hq
    by_cases hqm:q<m.length
    ·have h1:renO D m q=m.getD q 0:=if_pos hqm
     have h2:m.getD q 0∈m:=by rw [List.getD_eq_getElem?_getD,List.getElem?_eq_getElem hqm];exact List.getElem_mem _
     simp only [β2];rw [h1,hmr _ h2,hg q (by omega)];rfl
    ·have h1:renO D m q=(D+1)*1000+q:=if_neg hqm
     simp only [β2];rw [h1,hin q hq,if_pos rfl];congr 1;omega
   have hτnew:∀q,q<1000→τ2 (renT D q)=x'.τ q:=by intro q hq;simp only [τ2,renT];rw [hin q hq,if_pos rfl];congr 1;omega
   have hout:∀q,¬((D+1)*1000≤q∧q<(D+2)*1000)→inR D q=false:=by intro q hq;rw [Bool.eq_false_iff];intro h;simp only [inR,Bool.and_eq_true,decide_eq_true_eq]at h;exact hq h
   obtain⟨hG,hA⟩:=heap_after (mo:=renO D m) (mt:=renT D) (lo:=(D+1)*1000) (hi:=(D+2)*1000) (β2:=β2) (τ2:=τ2) hM hl hlk hH hmo (fun i hi=>by omega) (fun q hq=>by simp only [β2];rw [hout q hq];rfl)
    (fun q hq=>by simp only [τ2];rw [hout q hq];rfl) (fun p hp=>hβnew _ (hos p hp).1) (fun p hp k hk=>hβnew k ((hos p hp).2.1 k hk)) (fun p hp t ht=>hτnew t ((hos p hp).2.2 t ht))
    (fun p hp=>by
     by_cases h:p.1<m.length
     ·exact .inl h
     ·right
      have h1:renO D m p.1=(D+1)*1000+p.1:=if_neg h;have:=(hos p hp).1;rw [h1];omega)
    (fun t ht=>⟨by have:=hrt t ht;unfold renT;omega,hτnew t (hrt t ht)⟩)
   refine⟨v,rfl,⟨x'.G,β2,τ2⟩,_, ?_,hk⟩;refine Models.put ⟨?_,hM.defers, ?_⟩ d ?_
   ·exact RepL.mono (x:=x) (x':=⟨x'.G,β2,τ2⟩) hG (fun q hq=>by show β2 q=_;simp only [β2];rw [hout q hq];rfl) (fun q hq=>by show τ2 q=_;simp only [τ2];rw [hout q hq];rfl) hM.tm
   ·rw [renOs_eq];exact hA
   ·exact Rep.renF (x:=x') (x2:=⟨x'.G,β2,τ2⟩) (fun _ _ _ h=>h) hr (fun k hk=>hβnew k (hri k hk)) (fun t ht=>hτnew t (hrt t ht))
theorem wp_of_given {K:Act→World→Prop} {Q:Exit→Act→World→Prop} {k:St→Prop} {g:Nat} {vs:List Value} (hrun:(execOp a.eval o).run P w= .ok (.enter g ⟨vs⟩) w) (h:Given C P g vs w o.dst a k)
 (hK:∀a w,PostK C k a w→K a w):o.wp P a w K Q:=by
 unfold Oper.wp;rw [hrun];refine Calls.mono h ?_;rintro en w' ⟨v,rfl,hp⟩;exact hK _ _ hp
theorem call_inv {f:Arg} {as:List Arg} (hr:res1 P o=some (.call f as)):∃cl F,o.op= .call cl∧cl.callee= .value F∧resArg P 0 F=some f∧mapO (fun p=>resArg P p.2 p.1) (cl.args.toList.zip cl.argTypes.toList)=some as∧cl.args.size=cl.argTypes.size:=by
 cases ho:o.op with
 | call cl=>
  cases hb:cl.callee with
  |invoke r m=>simp [res1,ho,hb]at hr
  | value F=>
   simp only [res1,ho,hb]at hr;split at hr<;>try (cases hr;done)
   rename_i f' as' h1 h2;split at hr<;>try (cases hr;done)
   rename_i h3;split at hr
   ·split at hr
    ·cases hr
    ·cases hr;exact⟨cl,F,rfl,hb,h1,h2,h3⟩
   ·cases hr;exact⟨cl,F,rfl,hb,h1,h2,h3⟩
  | builtin b=>
   exfalso;cases b<;>simp only [res1,ho,hb,reduceCtorEq]at hr
   all_goals
    (first|(cases hr;done)|(split at hr<;>(first|(cases hr;done)|(split at hr<;>(first|(cases hr;done)|(split at hr<;>(first|(cases hr;done)|(split at hr<;>(first|(cases hr;done)|(split at hr<;>(first|(cases hr;done)|(split at hr<;>((cases hr;done))))))))))))))
 |pick c X Y=>exfalso;simp only [res1,ho]at hr;split at hr<;>cases hr
 |move X=>exfalso;simp only [res1,ho]at hr;obtain⟨_,_,h⟩:=Option.map_eq_some_iff.1 hr;cases h
 |assign X=>exfalso;simp only [res1,ho]at hr;obtain⟨_,_,h⟩:=Option.map_eq_some_iff.1 hr;cases h
 |box t X=>exfalso;simp only [res1,ho]at hr;obtain⟨_,_,h⟩:=Option.map_eq_some_iff.1 hr;cases h
 |nilCheck X=>exfalso;simp only [res1,ho]at hr;obtain⟨_,_,h⟩:=Option.map_eq_some_iff.1 hr;cases h
 |unOp op t X=>exfalso;simp only [res1,ho]at hr;obtain⟨_,_,h⟩:=Option.map_eq_some_iff.1 hr;cases h
 |extract X i=>exfalso;simp only [res1,ho]at hr;obtain⟨_,_,h⟩:=Option.map_eq_some_iff.1 hr;cases h
 | build t ps=>
  exfalso;simp only [res1,ho]at hr;split at hr<;>try (cases hr;done)
  ·split at hr<;>try (cases hr;done)
   obtain⟨_,_,h⟩:=Option.map_eq_some_iff.1 hr;cases h
  ·split at hr<;>try (cases hr;done)
   obtain⟨_,_,h⟩:=Option.map_eq_some_iff.1 hr;cases h
 |buildSlice t n ps=>
  exfalso;simp only [res1,ho]at hr;split at hr<;>try (cases hr;done)
  split at hr<;>try (cases hr;done)
  split at hr<;>try (cases hr;done)
  obtain⟨_,_,h⟩:=Option.map_eq_some_iff.1 hr;split at h<;>cases h
 |makeFunc f X Y=>exfalso;cases f<;>simp only [res1,ho,reduceCtorEq]at hr;split at hr<;>cases hr
 |alloc t=>exfalso;simp only [res1,ho]at hr;first|(cases hr;done)|(split at hr<;>(first|(cases hr;done)|(split at hr<;>(first|(cases hr;done)|(split at hr<;>(first|(cases hr;done)|(split at hr<;>(first|(cases hr;done)|(split at hr<;>(first|(cases hr;done)|(split at hr<;>((cases hr;done)))))))))))))
 |load t X=>exfalso;simp only [res1,ho]at hr;first|(cases hr;done)|(split at hr<;>(first|(cases hr;done)|(split at hr<;>(first|(cases hr;done)|(split at hr<;>(first|(cases hr;done)|(split at hr<;>(first|(cases hr;done)|(split at hr<;>(first|(cases hr;done)|(split at hr<;>((cases hr;done)))))))))))))
 |store t X Y=>exfalso;simp only [res1,ho]at hr;first|(cases hr;done)|(split at hr<;>(first|(cases hr;done)|(split at hr<;>(first|(cases hr;done)|(split at hr<;>(first|(cases hr;done)|(split at hr<;>(first|(cases hr;done)|(split at hr<;>(first|(cases hr;done)|(split at hr<;>((cases hr;done)))))))))))))
 |binOp op t X Y u=>exfalso;simp only [res1,ho]at hr;first|(cases hr;done)|(split at hr<;>(first|(cases hr;done)|(split at hr<;>(first|(cases hr;done)|(split at hr<;>(first|(cases hr;done)|(split at hr<;>(first|(cases hr;done)|(split at hr<;>(first|(cases hr;done)|(split at hr<;>((cases hr;done)))))))))))))
 |convert t u X=>exfalso;simp only [res1,ho]at hr;first|(cases hr;done)|(split at hr<;>(first|(cases hr;done)|(split at hr<;>(first|(cases hr;done)|(split at hr<;>(first|(cases hr;done)|(split at hr<;>(first|(cases hr;done)|(split at hr<;>(first|(cases hr;done)|(split at hr<;>((cases hr;done)))))))))))))
 |makeSlice t X Y=>exfalso;simp only [res1,ho]at hr;first|(cases hr;done)|(split at hr<;>(first|(cases hr;done)|(split at hr<;>(first|(cases hr;done)|(split at hr<;>(first|(cases hr;done)|(split at hr<;>(first|(cases hr;done)|(split at hr<;>(first|(cases hr;done)|(split at hr<;>((cases hr;done)))))))))))))
 |slice t X lo hi mx=>exfalso;simp only [res1,ho]at hr;first|(cases hr;done)|(split at hr<;>(first|(cases hr;done)|(split at hr<;>(first|(cases hr;done)|(split at hr<;>(first|(cases hr;done)|(split at hr<;>(first|(cases hr;done)|(split at hr<;>(first|(cases hr;done)|(split at hr<;>((cases hr;done)))))))))))))
 |fieldAddr t X i=>exfalso;simp only [res1,ho]at hr;first|(cases hr;done)|(split at hr<;>(first|(cases hr;done)|(split at hr<;>(first|(cases hr;done)|(split at hr<;>(first|(cases hr;done)|(split at hr<;>(first|(cases hr;done)|(split at hr<;>(first|(cases hr;done)|(split at hr<;>((cases hr;done)))))))))))))
 |field t X i=>exfalso;simp only [res1,ho]at hr;first|(cases hr;done)|(split at hr<;>(first|(cases hr;done)|(split at hr<;>(first|(cases hr;done)|(split at hr<;>(first|(cases hr;done)|(split at hr<;>(first|(cases hr;done)|(split at hr<;>(first|(cases hr;done)|(split at hr<;>((cases hr;done)))))))))))))
 |indexAddr t X i=>exfalso;simp only [res1,ho]at hr;first|(cases hr;done)|(split at hr<;>(first|(cases hr;done)|(split at hr<;>(first|(cases hr;done)|(split at hr<;>(first|(cases hr;done)|(split at hr<;>(first|(cases hr;done)|(split at hr<;>(first|(cases hr;done)|(split at hr<;>((cases hr;done)))))))))))))
 |index t X i=>exfalso;simp only [res1,ho]at hr;first|(cases hr;done)|(split at hr<;>(first|(cases hr;done)|(split at hr<;>(first|(cases hr;done)|(split at hr<;>(first|(cases hr;done)|(split at hr<;>(first|(cases hr;done)|(split at hr<;>(first|(cases hr;done)|(split at hr<;>((cases hr;done)))))))))))))
 |_=>simp [res1,ho]at hr
theorem pick_inv {c q r:Arg} (hr:res1 P o=some (.pick c q r)):∃X Y Z,o.op= .pick X Y Z∧resArg P 0 X=some c∧resArg P o.type Y=some q∧resArg P o.type Z=some r:=by
 cases ho:o.op with
 |pick X Y Z=>
  simp only [res1,ho]at hr;split at hr<;>try (cases hr;done)
  rename_i a1 a2 a3 h1 h2 h3;simp only [Option.some.injEq,SOp.pick.injEq]at hr;obtain⟨rfl,rfl,rfl⟩:=hr;exact⟨X,Y,Z,rfl,h1,h2,h3⟩
 | call cl=>
  exfalso;cases hb:cl.callee with
  |invoke r m=>simp [res1,ho,hb]at hr
  |value F=>simp only [res1,ho,hb]at hr;first|(cases hr;done)|(split at hr<;>(first|(cases hr;done)|(split at hr<;>(first|(cases hr;done)|(split at hr<;>(first|(cases hr;done)|(split at hr<;>(first|(cases hr;done)|(split at hr<;>(first|(cases hr;done)|(split at hr<;>((cases hr;done)))))))))))))
  | builtin b=>
   cases b<;>simp only [res1,ho,hb,reduceCtorEq]at hr
   all_goals
    (first|(cases hr;done)|(split at hr<;>(first|(cases hr;done)|(split at hr<;>(first|(cases hr;done)|(split at hr<;>(first|(cases hr;done)|(split at hr<;>(first|(cases hr;done)|(split at hr<;>(first|(cases hr;done)|(split at hr<;>((cases hr;done))))))))))))))
 |move X=>exfalso;simp only [res1,ho]at hr;obtain⟨_,_,h⟩:=Option.map_eq_some_iff.1 hr;cases h
 |assign X=>exfalso;simp only [res1,ho]at hr;obtain⟨_,_,h⟩:=Option.map_eq_some_iff.1 hr;cases h
 |box t X=>exfalso;simp only [res1,ho]at hr;obtain⟨_,_,h⟩:=Option.map_eq_some_iff.1 hr;cases h
 |nilCheck X=>exfalso;simp only [res1,ho]at hr;obtain⟨_,_,h⟩:=Option.map_eq_some_iff.1 hr;cases h
 |unOp op t X=>exfalso;simp only [res1,ho]at hr;obtain⟨_,_,h⟩:=Option.map_eq_some_iff.1 hr;cases h
 |extract X i=>exfalso;simp only [res1,ho]at hr;obtain⟨_,_,h⟩:=Option.map_eq_some_iff.1 hr;cases h
 | build t ps=>
  exfalso;simp only [res1,ho]at hr;split at hr<;>try (cases hr;done)
  ·split at hr<;>try (cases hr;done)
   obtain⟨_,_,h⟩:=Option.map_eq_some_iff.1 hr;cases h
  ·split at hr<;>try (cases hr;done)
   obtain⟨_,_,h⟩:=Option.map_eq_some_iff.1 hr;cases h
 |buildSlice t n ps=>
  exfalso;simp only [res1,ho]at hr;split at hr<;>try (cases hr;done)
  split at hr<;>try (cases hr;done)
  split at hr<;>try (cases hr;done)
  obtain⟨_,_,h⟩:=Option.map_eq_some_iff.1 hr;split at h<;>cases h
 |makeFunc f X Y=>exfalso;cases f<;>simp only [res1,ho,reduceCtorEq]at hr;split at hr<;>cases hr
 |alloc t=>exfalso;simp only [res1,ho]at hr;first|(cases hr;done)|(split at hr<;>(first|(cases hr;done)|(split at hr<;>(first|(cases hr;done)|(split at hr<;>(first|(cases hr;done)|(split at hr<;>(first|(cases hr;done)|(split at hr<;>(first|(cases hr;done)|(split at hr<;>((cases hr;done)))))))))))))
 |load t X=>exfalso;simp only [res1,ho]at hr;first|(cases hr;done)|(split at hr<;>(first|(cases hr;done)|(split at hr<;>(first|(cases hr;done)|(split at hr<;>(first|(cases hr;done)|(split at hr<;>(first|(cases hr;done)|(split at hr<;>(first|(cases hr;done)|(split at hr<;>((cases hr;done)))))))))))))
 |store t X Y=>exfalso;simp only [res1,ho]at hr;first|(cases hr;done)|(split at hr<;>(first|(cases hr;done)|(split at hr<;>(first|(cases hr;done)|(split at hr<;>(first|(cases hr;done)|(split at hr<;>(first|(cases hr;done)|(split at hr<;>(first|(cases hr;done)|(split at hr<;>((cases hr;done)))))))))))))
 |binOp op t X Y u=>exfalso;simp only [res1,ho]at hr;first|(cases hr;done)|(split at hr<;>(first|(cases hr;done)|(split at hr<;>(first|(cases hr;done)|(split at hr<;>(first|(cases hr;done)|(split at hr<;>(first|(cases hr;done)|(split at hr<;>(first|(cases hr;done)|(split at hr<;>((cases hr;done)))))))))))))
 |convert t u X=>exfalso;simp only [res1,ho]at hr;first|(cases hr;done)|(split at hr<;>(first|(cases hr;done)|(split at hr<;>(first|(cases hr;done)|(split at hr<;>(first|(cases hr;done)|(split at hr<;>(first|(cases hr;done)|(split at hr<;>(first|(cases hr;done)|(split at hr<;>((cases hr;done)))))))))))))
 |makeSlice t X Y=>exfalso;simp only [res1,ho]at hr;first|(cases hr;done)|(split at hr<;>(first|(cases hr;done)|(split at hr<;>(first|(cases hr;done)|(split at hr<;>(first|(cases hr;done)|(split at hr<;>(first|(cases hr;done)|(split at hr<;>(first|(cases hr;done)|(split at hr<;>((cases hr;done)))))))))))))
 |slice t X lo hi mx=>exfalso;simp only [res1,ho]at hr;first|(cases hr;done)|(split at hr<;>(first|(cases hr;done)|(split at hr<;>(first|(cases hr;done)|(split at hr<;>(first|(cases hr;done)|(split at hr<;>(first|(cases hr;done)|(split at hr<;>(first|(cases hr;done)|(split at hr<;>((cases hr;done)))))))))))))
 |fieldAddr t X i=>exfalso;simp only [res1,ho]at hr;first|(cases hr;done)|(split at hr<;>(first|(cases hr;done)|(split at hr<;>(first|(cases hr;done)|(split at hr<;>(first|(cases hr;done)|(split at hr<;>(first|(cases hr;done)|(split at hr<;>(first|(cases hr;done)|(split at hr<;>((cases hr;done)))))))))))))
 |field t X i=>exfalso;simp only [res1,ho]at hr;first|(cases hr;done)|(split at hr<;>(first|(cases hr;done)|(split at hr<;>(first|(cases hr;done)|(split at hr<;>(first|(cases hr;done)|(split at hr<;>(first|(cases hr;done)|(split at hr<;>(first|(cases hr;done)|(split at hr<;>((cases hr;done)))))))))))))
 |indexAddr t X i=>exfalso;simp only [res1,ho]at hr;first|(cases hr;done)|(split at hr<;>(first|(cases hr;done)|(split at hr<;>(first|(cases hr;done)|(split at hr<;>(first|(cases hr;done)|(split at hr<;>(first|(cases hr;done)|(split at hr<;>(first|(cases hr;done)|(split at hr<;>((cases hr;done)))))))))))))
 |index t X i=>exfalso;simp only [res1,ho]at hr;first|(cases hr;done)|(split at hr<;>(first|(cases hr;done)|(split at hr<;>(first|(cases hr;done)|(split at hr<;>(first|(cases hr;done)|(split at hr<;>(first|(cases hr;done)|(split at hr<;>(first|(cases hr;done)|(split at hr<;>((cases hr;done)))))))))))))
 |_=>simp [res1,ho]at hr
theorem done_pick (hM:Models C x s a w) {c q r:Arg} (hr:res1 P o=some (.pick c q r)) {t:Bool} (ht:s.ev c= .bool t):Done P C o a w (s.put o.dst (if t then s.ev q else s.ev r)):=by
 obtain⟨X,Y,Z,ho,h1,h2,h3⟩:=pick_inv hr;have e1:=resArg_rep hM h1;rw [ht]at e1;refine Done.val hM (m:=do pure (if←asBool (a.eval X)then a.eval Y else a.eval Z)) (u:=if t then a.eval Y else a.eval Z) (by simp only [execOp,ho];simp) ?_ ?_
 ·rw [e1.bool_inv];rfl
 ·cases t
  ·exact resArg_rep hM h3
  ·exact resArg_rep hM h2
theorem eff_all (hM:Models C x s a w) (hr:res1 P o=some so) {e:Eff} (he:eff s o.dst so=some e) (hp:e.pre):Done P C o a w (s.app o.dst e):=by
 by_cases ho:∃q r,so= .ovl q r
 ·obtain⟨q,r,rfl⟩:=ho
  exact done_ovl hM hr he hp
 ·exact eff_sound hM hr (fun q r h=>ho ⟨q,r,h⟩) he hp
theorem sym_sound (hM:Models C x s a w) (hr:res1 P o=some so) {k:St→Prop} (h:sym P so o.dst k s) {K:Act→World→Prop} {Q:Exit→Act→World→Prop} (hK:∀a w,PostK C k a w→K a w):o.wp P a w K Q:=by
 by_cases hp:∃c q r,so= .pick c q r
 ·obtain⟨c,q,r,rfl⟩:=hp
  simp only [sym]at h;split at h<;>try (exact h.elim)
  rename_i t ht;have hd:=done_pick hM hr ht;cases t with
  |true=>exact wp_of_done hd (h.1 rfl) hK
  |false=>exact wp_of_done hd (h.2 rfl) hK
 by_cases hc:∃f as,so= .call f as
 ·obtain⟨f,as,rfl⟩:=hc
  simp only [sym]at h;split at h<;>try (exact h.elim)
  rename_i g c1 c2 hg;obtain⟨cl,F,ho,hb,h1,h2,h3⟩:=call_inv hr
  have hcb:callableB P g=true:=by
   rcases h with⟨e,he,_⟩|⟨m,args,os,R,hS,_⟩
   ·obtain⟨m,args,os,r,os',hS,_⟩:=he;exact hS.1
   ·exact hS.1
  obtain⟨vs,hrun,hvs⟩:=exec_call hM ho hb h1 h2 h3 hg hcb;exact wp_of_given hrun (given_callP hM h hvs) hK
 by_cases hn:∃ne q,so= .isnil ne q
 ·obtain⟨ne,q,rfl⟩:=hn
  obtain⟨b,hk,hd⟩:=done_isnil hM hr (K:=fun b=>k (s.put o.dst (.bool b))) h;exact wp_of_done hd hk hK
 by_cases hz:∃z by_ q r,so= .appM z by_ q r
 ·obtain⟨z,by_,q,r,rfl⟩:=hz
  obtain⟨s',hd,hk⟩:=appZ_sound hM hr h;exact wp_of_done hd hk hK
 by_cases ha:(∃z by_ q r,so= .app z by_ q r)∧s.tk.contains 99=true
 ·obtain⟨⟨z,by_,q,r,rfl⟩,h99⟩:=ha
  simp only [sym,h99,if_true]at h;obtain⟨s',hd,hk⟩:=appP_sound hM hr h;exact wp_of_done hd hk hK
 have hE:sym P so o.dst k s=(match eff s o.dst so with|some e=>e.pre∧k (s.app o.dst e)|none=>False):=by
  cases so with
  | app z by_ q r=>
   have:s.tk.contains 99=false:=by rw [←Bool.not_eq_true];exact fun h=>ha ⟨⟨_,_,_,_,rfl⟩,h⟩
   simp only [sym,this,Bool.false_eq_true,if_false];rfl
  |_=>first|rfl|(exfalso;exact hp ⟨_,_,_,rfl⟩)|(exfalso;exact hc ⟨_,_,rfl⟩)|(exfalso;exact hn ⟨_,_,rfl⟩)|(exfalso;exact hz ⟨_,_,_,_,rfl⟩)
 rw [hE]at h;split at h<;>try (exact h.elim)
 rename_i e he;exact wp_of_done (eff_all hM hr he h.1) h.2 hK
end Go.Sy
namespace Go.Sy
variable [LaidData]
variable {P : Program} {C : Ctx} {x : Sit} {s : St} {a : Act} {w : World}
theorem get_bool (hM:Models C x s a w) {g:Nat} {t:Bool} (h:s.get g= .bool t):g<s.tm.length∧a.tmps[g]? =some (.bool t)∧s.tm[g]? =some (.bool t):=by
 have hlt:g<s.tm.length:=by
  rcases Nat.lt_or_ge g s.tm.length with h'|h'
  ·exact h'
  ·unfold St.get at h;rw [List.getD_eq_getElem?_getD,List.getElem?_eq_none h']at h;cases h
 have h1:s.tm[g]? =some (.bool t):=by unfold St.get at h;rw [List.getD_eq_getElem?_getD,List.getElem?_eq_getElem hlt]at h;rw [List.getElem?_eq_getElem hlt];exact congrArg some h
 have hr:=hM.slot g;rw [h]at hr;have hv:=hr.bool_inv;have hs:g<a.tmps.size:=by rw [←Array.length_toList,←hM.tm.1];exact hlt
 refine⟨hlt, ?_,h1⟩;rw [Array.getElem?_eq_getElem hs];have:a.tmps.getD g Go.undef=a.tmps[g]:=by simp [Array.getD,hs]
 rw [←this,hv]
def ResOf (P:Program) (o:Oper) (so:SOp):Prop:=res1 P o=some so∨∃xs,so= .newB xs∧res1 P o=some (.litB xs)
theorem ResOf.fresh {ops:Array Oper} {o:Oper} {so:SOp} (d:Option Nat) (h:res1 P o=some so):ResOf P o (fresh1 ops d so):=by
 rcases fresh1_or ops d so with e|⟨xs,e1,e2⟩
 ·rw [e];exact .inl h
 ·rw [e2];exact .inr ⟨xs,rfl,e1 ▸ h⟩
theorem ResOf.old {o:Oper} {so:SOp} (h:ResOf P o so) (hn:∀xs,so≠ .newB xs):res1 P o=some so:=by
 rcases h with h|⟨xs,e,_⟩
 ·exact h
 ·exact absurd e (hn xs)
theorem resSI_inv {ops:Array Oper} {o:Oper} {i:SI} (h:resSI P ops o=some i):ResOf P o i.op∧i.dst=o.dst∧(i.g=none∧o.guard=none∨∃j b g,i.g=some (g,b)∧o.guard=some (j,b)∧(ops[j]?).bind (·.dst)=some g):=by
 unfold resSI at h;split at h<;>try (cases h;done)
 ·rename_i so h1 h2;cases h;exact⟨.fresh _ h1,rfl,.inl ⟨rfl,h2⟩⟩
 ·rename_i so j b h1 h2
  split at h<;>try (cases h;done)
  rename_i g hg;cases h;exact⟨.fresh _ h1,rfl,.inr ⟨j,b,g,rfl,h2,hg⟩⟩
theorem wanted_none {ops:Array Oper} {o:Oper} (h:o.guard=none):Region.wanted o (yielded ops a.tmps)=true:=by simp [Region.wanted,h]
theorem wanted_some {ops:Array Oper} {o:Oper} {j g:Nat} {b t:Bool} (h:o.guard=some (j,b)) (hg:(ops[j]?).bind (·.dst)=some g) (ht:a.tmps[g]? =some (.bool t)):Region.wanted o (yielded ops a.tmps)=(t==b):=by simp only [Region.wanted,h,yielded,hg,Option.bind_some,ht];cases t<;>cases b<;>rfl
end Go.Sy
namespace Go.Sy
variable [LaidData]
variable {P : Program} {C : Ctx} {x : Sit} {s : St} {a : Act} {w : World}
mutual
theorem purge_none {n:Nat}:∀v:SV,n∉v.ids→n∉v.toks→v.purge n (n+1)=v
 | .byt l t,_,h=>by
  cases t with
  |id t=>simp only [SV.toks,List.mem_singleton]at h;simp only [SV.purge,Tok.purge];rw [if_neg (by omega)]
  |_=>rfl
 | .lst sz xs t,_,h=>by
  cases t with
  |id t=>simp only [SV.toks,List.mem_singleton]at h;simp only [SV.purge,Tok.purge];rw [if_neg (by omega)]
  |_=>rfl
 | .ptr o off,h,_=>by simp only [SV.ids,List.mem_singleton]at h;simp only [SV.purge];rw [if_neg (by omega)]
 | .ap o sz i j,h,_=>by simp only [SV.ids,List.mem_singleton]at h;simp only [SV.purge];rw [if_neg (by omega)]
 | .psl o sz off k cap,h,_=>by simp only [SV.ids,List.mem_singleton]at h;simp only [SV.purge];rw [if_neg (by omega)]
 | .agg cs,h,k=>by simp only [SV.ids,SV.toks]at h k;simp only [SV.purge];rw [purgeL_none cs h k]
 | .tup cs,h,k=>by simp only [SV.ids,SV.toks]at h k;simp only [SV.purge];rw [purgeL_none cs h k]
 | .fn f p q,h,k=>by simp only [SV.ids,SV.toks,List.mem_append,not_or]at h k;simp only [SV.purge];rw [purgeL_none p h.1 k.1,purgeL_none q h.2 k.2]
 | .undef,_,_=>rfl
 | .bool _,_,_=>rfl
 | .int _ _,_,_=>rfl
 | .u8 _,_,_=>rfl
 | .str _,_,_=>rfl
 | .nilp,_,_=>rfl
 | .nili,_,_=>rfl
 | .pp _,_,_=>rfl
theorem purgeL_none {n:Nat}:∀l:List SV,n∉SV.idsL l→n∉SV.toksL l→SV.purgeL n (n+1) l=l
 |[],_,_=>rfl
 |v::r,h,k=>by simp only [SV.idsL,SV.toksL,List.mem_append,not_or]at h k;simp only [SV.purgeL];rw [purge_none v h.1 k.1,purgeL_none r h.2 k.2]
end
mutual
theorem ids_purge {lo hi n:Nat}:∀v:SV,n∈(v.purge lo hi).ids→n∈v.ids∧¬(lo≤n∧n<hi)
 | .byt l t,h=>by simp [SV.purge,SV.ids]at h
 | .lst sz xs t,h=>by simp [SV.purge,SV.ids]at h
 | .ptr o off,h=>by
  simp only [SV.purge]at h;split at h
  ·simp [SV.ids]at h
  ·simp only [SV.ids,List.mem_singleton]at h ⊢;subst h;exact⟨rfl,by assumption⟩
 | .ap o sz i j,h=>by
  simp only [SV.purge]at h;split at h
  ·simp [SV.ids]at h
  ·simp only [SV.ids,List.mem_singleton]at h ⊢;subst h;exact⟨rfl,by assumption⟩
 | .psl o sz off k cap,h=>by
  simp only [SV.purge]at h;split at h
  ·simp [SV.ids]at h
  ·simp only [SV.ids,List.mem_singleton]at h ⊢;subst h;exact⟨rfl,by assumption⟩
 | .agg cs,h=>by simp only [SV.purge,SV.ids]at h ⊢;exact idsL_purge cs h
 | .tup cs,h=>by simp only [SV.purge,SV.ids]at h ⊢;exact idsL_purge cs h
 | .fn f p q,h=>by
  simp only [SV.purge,SV.ids,List.mem_append]at h ⊢;rcases h with h|h
  ·exact⟨.inl (idsL_purge p h).1,(idsL_purge p h).2⟩
  ·exact⟨.inr (idsL_purge q h).1,(idsL_purge q h).2⟩
 | .undef,h=>by simp [SV.purge,SV.ids]at h
 | .bool _,h=>by simp [SV.purge,SV.ids]at h
 | .int _ _,h=>by simp [SV.purge,SV.ids]at h
 | .u8 _,h=>by simp [SV.purge,SV.ids]at h
 | .str _,h=>by simp [SV.purge,SV.ids]at h
 | .nilp,h=>by simp [SV.purge,SV.ids]at h
 | .nili,h=>by simp [SV.purge,SV.ids]at h
 | .pp _,h=>by simp [SV.purge,SV.ids]at h
theorem idsL_purge {lo hi n:Nat}:∀l:List SV,n∈SV.idsL (SV.purgeL lo hi l)→n∈SV.idsL l∧¬(lo≤n∧n<hi)
 |[],h=>by simp [SV.purgeL,SV.idsL]at h
 |v::r,h=>by
  simp only [SV.purgeL,SV.idsL,List.mem_append]at h ⊢;rcases h with h|h
  ·exact⟨.inl (ids_purge v h).1,(ids_purge v h).2⟩
  ·exact⟨.inr (idsL_purge r h).1,(idsL_purge r h).2⟩
end
theorem tok_purge {lo hi n:Nat} (t:Tok) (h:n∈(t.purge lo hi).ids):n∈t.ids∧¬(lo≤n∧n<hi):=by
 cases t with
 |id t=>
  simp only [Tok.purge]at h;split at h
  ·simp [Tok.ids]at h
  ·simp only [Tok.ids,List.mem_singleton]at h ⊢;subst h;exact⟨rfl,by assumption⟩
 |_=>simp [Tok.purge,Tok.ids]at h
theorem toks_byt (l:List UInt8) (t:Tok):(SV.byt l t).toks=t.ids:=by cases t<;>rfl
theorem toks_lst (sz:Nat) (xs:List (List SV)) (t:Tok):(SV.lst sz xs t).toks=t.ids:=by cases t<;>rfl
mutual
theorem toks_purge {lo hi n:Nat}:∀v:SV,n∈(v.purge lo hi).toks→n∈v.toks∧¬(lo≤n∧n<hi)
 | .byt l t,h=>by simp only [SV.purge,toks_byt]at h ⊢;exact tok_purge t h
 | .lst sz xs t,h=>by simp only [SV.purge,toks_lst]at h ⊢;exact tok_purge t h
 | .ptr o off,h=>by simp only [SV.purge]at h;split at h<;>simp [SV.toks]at h
 | .ap o sz i j,h=>by simp only [SV.purge]at h;split at h<;>simp [SV.toks]at h
 | .psl o sz off k cap,h=>by simp only [SV.purge]at h;split at h<;>simp [SV.toks]at h
 | .agg cs,h=>by simp only [SV.purge,SV.toks]at h ⊢;exact toksL_purge cs h
 | .tup cs,h=>by simp only [SV.purge,SV.toks]at h ⊢;exact toksL_purge cs h
 | .fn f p q,h=>by
  simp only [SV.purge,SV.toks,List.mem_append]at h ⊢;rcases h with h|h
  ·exact⟨.inl (toksL_purge p h).1,(toksL_purge p h).2⟩
  ·exact⟨.inr (toksL_purge q h).1,(toksL_purge q h).2⟩
 | .undef,h=>by simp [SV.purge,SV.toks]at h
 | .bool _,h=>by simp [SV.purge,SV.toks]at h
 | .int _ _,h=>by simp [SV.purge,SV.toks]at h
 | .u8 _,h=>by simp [SV.purge,SV.toks]at h
 | .str _,h=>by simp [SV.purge,SV.toks]at h
 | .nilp,h=>by simp [SV.purge,SV.toks]at h
 | .nili,h=>by simp [SV.purge,SV.toks]at h
 | .pp _,h=>by simp [SV.purge,SV.toks]at h
theorem toksL_purge {lo hi n:Nat}:∀l:List SV,n∈SV.toksL (SV.purgeL lo hi l)→n∈SV.toksL l∧¬(lo≤n∧n<hi)
 |[],h=>by simp [SV.purgeL,SV.toksL]at h
 |v::r,h=>by
  simp only [SV.purgeL,SV.toksL,List.mem_append]at h ⊢;rcases h with h|h
  ·exact⟨.inl (toks_purge v h).1,(toks_purge v h).2⟩
  ·exact⟨.inr (toksL_purge r h).1,(toksL_purge r h).2⟩
end
def namesL (l:List SV):List Nat:=SV.idsL l++SV.toksL l
theorem namesL_purge {lo hi n:Nat} {l:List SV} (h:n∈namesL (SV.purgeL lo hi l)):n∈namesL l∧¬(lo≤n∧n<hi):=by
 unfold namesL at*;rcases List.mem_append.1 h with h|h
 ·exact⟨List.mem_append.2 (.inl (idsL_purge l h).1),(idsL_purge l h).2⟩
 ·exact⟨List.mem_append.2 (.inr (toksL_purge l h).1),(toksL_purge l h).2⟩
theorem namesO_purge {lo hi n:Nat} {o:SObj} (h:n∈(o.purge lo hi).names):n∈o.names∧¬(lo≤n∧n<hi):=by
 cases o with
 |rc cs=>exact namesL_purge (l:=cs) h
 |_=>simp [SObj.purge,SObj.names,SObj.ids,SObj.toks]at h
theorem namesL_none {n:Nat} {l:List SV} (h:n∉namesL l):SV.purgeL n (n+1) l=l:=by simp only [namesL,List.mem_append,not_or]at h;exact purgeL_none l h.1 h.2
theorem objNames_none {n:Nat} {o:SObj} (h:n∉o.names):o.purge n (n+1)=o:=by
 cases o with
 |rc cs=>simp only [SObj.purge];rw [namesL_none h]
 |_=>rfl
theorem namesL_set {n d:Nat} {v:SV} {l:List SV} (h:n∈namesL (l.set d v)):n∈namesL l∨n∈v.names:=by
 induction l generalizing d with
 |nil=>exact .inl (by simpa using h)
 | cons c r ih=>
  cases d with
  |zero=>
   simp only [List.set_cons_zero,namesL,SV.idsL,SV.toksL,List.mem_append,SV.names]at h ⊢;rcases h with(h|h)|(h|h)
   ·exact .inr (.inl h)
   ·exact .inl (.inl (.inr h))
   ·exact .inr (.inr h)
   ·exact .inl (.inr (.inr h))
  | succ d=>
   have ih':= @ih d;simp only [List.set_cons_succ,namesL,SV.idsL,SV.toksL,List.mem_append,SV.names]at h ih' ⊢;rcases h with(h|h)|(h|h)
   ·exact .inl (.inl (.inl h))
   ·rcases ih' (.inl h)with(h|h)|h
    ·exact .inl (.inl (.inr h))
    ·exact .inl (.inr (.inr h))
    ·exact .inr h
   ·exact .inl (.inr (.inl h))
   ·rcases ih' (.inr h)with(h|h)|h
    ·exact .inl (.inl (.inr h))
    ·exact .inl (.inr (.inr h))
    ·exact .inr h
theorem lookup_purgeO {lo hi o:Nat}:∀ob:List (Nat×SObj),(purgeO lo hi ob).lookup o=if lo≤o∧o<hi then none else(ob.lookup o).map (SObj.purge lo hi)
 |[]=>by simp [purgeO]
 | p::r=>by
  simp only [purgeO]
  by_cases hp:lo≤p.1∧p.1<hi
  ·rw [if_pos hp,lookup_purgeO r]
   by_cases ho:lo≤o∧o<hi
   ·rw [if_pos ho,if_pos ho]
   ·rw [if_neg ho,if_neg ho]
    have:(o==p.1)=false:=by rw [beq_eq_false_iff_ne];rintro rfl;exact ho hp
    simp only [List.lookup,this]
  ·rw [if_neg hp]
   by_cases e:o=p.1
   ·subst e;rw [if_neg hp];simp [List.lookup]
   ·have:(o==p.1)=false:=by rw [beq_eq_false_iff_ne];exact e
    simp only [List.lookup,this];exact lookup_purgeO r
theorem lookup_setO {d o:Nat} {v:SObj}:∀ob:List (Nat×SObj),(setO d v ob).lookup o=if o=d then(ob.lookup d).map (fun _=>v)else ob.lookup o
 |[]=>by simp [setO]
 | p::r=>by
  simp only [setO]
  by_cases hp:p.1=d
  ·rw [if_pos hp]
   by_cases e:o=d
   ·subst e;subst hp;simp [List.lookup]
   ·have h1:(o==d)=false:=by rw [beq_eq_false_iff_ne];exact e
    have h2:(o==p.1)=false:=by rw [beq_eq_false_iff_ne,hp];exact e
    simp only [List.lookup,h1,h2,if_neg e]
  ·rw [if_neg hp]
   by_cases e:o=p.1
   ·subst e;simp only [List.lookup,beq_self_eq_true];rw [if_neg hp]
   ·have h2:(o==p.1)=false:=by rw [beq_eq_false_iff_ne];exact e
    simp only [List.lookup,h2];rw [lookup_setO r];have h3:(d==p.1)=false:=by rw [beq_eq_false_iff_ne];exact fun h=>hp h.symm
    simp only [h3]
structure St.Fresh (s:St) (n:Nat):Prop where
 tm:n∉namesL s.tm
 ob:∀o ob,s.look o=some ob→o≠n∧n∉ob.names
 tk:n∉s.tk
structure Eqv (s t:St):Prop where
 tm:s.tm=t.tm
 ob:∀o,s.look o=t.look o
 tk:∀n,n∈s.tk↔n∈t.tk
theorem Eqv.refl (s:St):Eqv s s:=⟨rfl,fun _=>rfl,fun _=>Iff.rfl⟩
theorem Eqv.symm {s t:St} (h:Eqv s t):Eqv t s:=⟨h.tm.symm,fun o=>(h.ob o).symm,fun n=>(h.tk n).symm⟩
theorem Eqv.trans {s t u:St} (h:Eqv s t) (k:Eqv t u):Eqv s u:=⟨h.tm.trans k.tm,fun o=>(h.ob o).trans (k.ob o),fun n=>(h.tk n).trans (k.tk n)⟩
theorem Eqv.fresh {s t:St} (h:Eqv s t) {n:Nat} (hf:s.Fresh n):t.Fresh n:=
 ⟨h.tm ▸ hf.tm,fun o ob ho=>hf.ob o ob (by rw [h.ob];exact ho),fun hn=>hf.tk ((h.tk n).2 hn)⟩
def Eff.num (e:Eff) (d:Option Nat):List Nat:=match e.new,e.tok with|none,false=> []|_,_=> [d.getD 0+100]
def wrAt (o:Nat):List (Nat×SObj)→Option SObj→Option SObj
 |[],c=>c
 |p::r,c=>wrAt o r (if o=p.1 then c.map (fun _=>p.2)else c)
def Eff.look (e:Eff) (d:Option Nat) (o:Nat) (c:Option SObj):Option SObj:=
 match e.new,e.tok with
 |some v,_=>if o=d.getD 0+100 then some (v.purge (d.getD 0+100) (d.getD 0+100+1))else c
 |none,true=>c
 |none,false=>wrAt o e.wr c
def Eff.tks (e:Eff) (d:Option Nat) (t:Nat) (c:Prop):Prop:=
 match e.new,e.tok with
 |some _,_=>c
 |none,true=>t=d.getD 0+100∨(c∧t∉e.eat.ids)
 |none,false=>c
theorem look_wr (o:Nat):∀(wr:List (Nat×SObj)) (s:St),(s.wr wr).look o=wrAt o wr (s.look o)
 |[],_=>rfl
 |p::r,s=>by
  simp only [St.wr,wrAt];rw [look_wr o r]
  congr 1
  simp only [St.look,St.setO];rw [lookup_setO];split
  ·rename_i e;rw [e]
  ·rfl
theorem wrAt_none {o:Nat}:∀ {wr:List (Nat×SObj)} {c:Option SObj},o∉wr.map Prod.fst→wrAt o wr c=c
 |[],_,_=>rfl
 |p::r,c,h=>by simp only [List.map_cons,List.mem_cons,not_or]at h;simp only [wrAt];rw [if_neg h.1];exact wrAt_none h.2
theorem Eff.look_none {e:Eff} {d:Option Nat} {o:Nat} {c:Option SObj} (h1:o∉e.wr.map Prod.fst) (h2:o∉e.num d):e.look d o c=c:=by
 unfold Eff.look;unfold Eff.num at h2;split
 ·rename_i v hv;simp only [hv,List.mem_singleton]at h2;rw [if_neg h2]
 ·rfl
 ·exact wrAt_none h1
theorem Eff.tks_none {e:Eff} {d:Option Nat} {t:Nat} {c:Prop} (h1:t∉e.eat.ids) (h2:t∉e.num d):e.tks d t c↔c:=by
 unfold Eff.tks;unfold Eff.num at h2;split
 ·exact Iff.rfl
 ·rename_i hv ht;simp only [hv,ht,List.mem_singleton]at h2
  exact⟨fun h=>(h.resolve_left h2).1,fun h=> .inr ⟨h,h1⟩⟩
 ·exact Iff.rfl
theorem app_tm {d:Option Nat} {e:Eff} (hf:∀n∈e.num d,s.Fresh n):(s.app d e).tm=(s.put d e.val).tm:=by
 unfold Eff.num at hf;unfold St.app;split
 ·rename_i v hv
  simp only [hv,List.mem_singleton,forall_eq]at hf;cases d<;>simp only [St.put,St.addO,St.purge,namesL_none hf.tm]
 ·rename_i hv ht
  simp only [hv,ht,List.mem_singleton,forall_eq]at hf;cases d<;>simp only [St.put,St.grew,namesL_none hf.tm]
 ·cases d<;>simp only [St.put,tm_wr]
theorem look_fresh {n:Nat} (hf:s.Fresh n) (o:Nat):(purgeO n (n+1) s.ob).lookup o=s.look o:=by
 rw [lookup_purgeO];show _=s.ob.lookup o;split
 ·rename_i h
  have:o=n:=by omega
  subst this;cases hl:s.ob.lookup o with
  |none=>rfl
  |some ob=>exact absurd rfl (hf.ob o ob hl).1
 ·cases hl:s.ob.lookup o with
  |none=>rfl
  |some ob=>rw [Option.map_some,objNames_none (hf.ob o ob hl).2]
theorem look_put (d:Option Nat) (v:SV) (o:Nat):(s.put d v).look o=s.look o:=by cases d<;>rfl
theorem tk_put (d:Option Nat) (v:SV):(s.put d v).tk=s.tk:=by cases d<;>rfl
theorem app_look {d:Option Nat} {e:Eff} (hf:∀n∈e.num d,s.Fresh n) (o:Nat):(s.app d e).look o=e.look d o (s.look o):=by
 unfold Eff.num at hf;unfold St.app Eff.look;split
 ·rename_i v hv
  simp only [hv,List.mem_singleton,forall_eq]at hf;simp only [hv];rw [look_put];simp only [St.addO,St.purge,St.look]
  by_cases e1:o=d.getD 0+100
  ·subst e1;simp [List.lookup]
  ·have:(o==d.getD 0+100)=false:=by rw [beq_eq_false_iff_ne];exact e1
   simp only [List.lookup,this,if_neg e1];exact look_fresh hf o
 ·rename_i hv ht
  simp only [hv,ht,List.mem_singleton,forall_eq]at hf;simp only [hv,ht];rw [look_put];exact look_fresh hf o
 ·rename_i hv ht
  simp only [hv,ht];rw [look_put,look_wr]
theorem mem_eat {t:Tok} {tk:List Nat} {n:Nat}:n∈t.eat tk↔n∈tk∧n∉t.ids:=by
 cases t with
 |id u=>simp only [Tok.eat,Tok.ids,mem_dropT,List.mem_singleton];constructor<;>rintro⟨h1,h2⟩<;>exact⟨h1,by omega⟩
 |_=>simp [Tok.eat,Tok.ids]
theorem app_tk {d : Option Nat} {e : Eff} (hf:∀n∈e.num d,s.Fresh n) (t:Nat):t∈(s.app d e).tk↔e.tks d t (t∈s.tk):=by
 unfold Eff.num at hf;unfold St.app Eff.tks;split
 ·rename_i v hv
  simp only [hv,List.mem_singleton,forall_eq]at hf;simp only [hv];rw [tk_put];simp only [St.addO,St.purge,mem_dropT];constructor
  ·exact fun h=>h.1
  ·exact fun h => ⟨h, fun hh => hf.tk (by have:t=d.getD 0+100:=by omega
                                          rw [←this];exact h)⟩
 ·rename_i hv ht
  simp only [hv,ht,List.mem_singleton,forall_eq]at hf;simp only [hv,ht];rw [tk_put];simp only [St.grew,List.mem_cons,mem_dropT,mem_eat];constructor
  ·rintro(h|h)
   ·exact .inl h
   ·exact .inr h.1
  ·rintro(h|h)
   ·exact .inl h
   ·exact .inr ⟨h, fun hh => hf.tk (by have:t=d.getD 0+100:=by omega
                                       rw [←this];exact h.1)⟩
 ·rename_i hv ht
  simp only [hv,ht];rw [tk_put,tm_wr.2]
end Go.Sy
namespace Go.Sy
variable [LaidData]
variable {P : Program} {C : Ctx} {x : Sit} {s s' : St} {a : Act} {w : World}
theorem wrAt_some {o:Nat} {v:SObj}:∀ {wr:List (Nat×SObj)} {c:Option SObj},wrAt o wr c=some v→c=some v∨(c.isSome=true∧(o,v)∈wr)
 |[],_,h=> .inl h
 | p ::r,c,h=>by
  simp only [wrAt]at h;rcases wrAt_some h with h|⟨h1,h2⟩
  ·split at h
   ·rename_i e
    cases c with
    |none=>cases h
    |some c=>simp only [Option.map_some,Option.some.injEq]at h;right;refine⟨rfl, ?_⟩;rw [←h,e];exact List.mem_cons_self ..
   ·exact .inl h
  ·right
   refine⟨?_,List.mem_cons_of_mem _ h2⟩;split at h1
   ·simpa using h1
   ·exact h1
theorem mem_namesO {n:Nat} {p:Nat×SObj}:∀ {l:List (Nat×SObj)},p∈l→n∈p.2.names→n∈namesO l
 |q::r,h,hn=>by
  simp only [namesO,List.mem_append];rcases List.mem_cons.1 h with h|h
  ·subst h;exact .inl hn
  ·exact .inr (mem_namesO h hn)
theorem fresh_app {d:Option Nat} {e:Eff} (hf:∀n∈e.num d,s.Fresh n) {k:Nat} (hk:s.Fresh k) (h1:k∉e.num d) (h2:k∉e.names):(s.app d e).Fresh k:=by
 simp only [Eff.names,List.mem_append,not_or]at h2;refine⟨?_, ?_, ?_⟩
 ·rw [app_tm hf]
  cases d with
  |none=>exact hk.tm
  |some d=>exact fun h=>(namesL_set h).elim hk.tm h2.1.1
 ·intro o ob ho
  rw [app_look hf]at ho;unfold Eff.look at ho;split at ho
  ·rename_i v hv
   simp only [hv]at h2;split at ho
   ·rename_i e1
    simp only [Option.some.injEq]at ho;refine⟨?_, ?_⟩
    ·intro hh
     apply h1;unfold Eff.num;rw [←hh,e1,hv];simp
    ·rw [←ho];exact fun h=>h2.2 (namesO_purge h).1
   ·exact hk.ob o ob ho
  ·exact hk.ob o ob ho
  ·rcases wrAt_some ho with h|⟨h3,h4⟩
   ·exact hk.ob o ob h
   ·refine⟨?_,fun h=>h2.1.2 (mem_namesO h4 h)⟩
    obtain⟨c,hc⟩:=Option.isSome_iff_exists.1 h3;exact(hk.ob o c hc).1
 ·rw [app_tk hf]
  unfold Eff.tks;split
  ·exact hk.tk
  ·rename_i hv ht
   rintro(h|h)
   ·apply h1;unfold Eff.num;rw [hv,ht,h];simp
   ·exact hk.tk h.1
  ·exact hk.tk
theorem mem_idsL {o:Nat} {v:SV}:∀ {l:List SV},v∈l→o∈v.ids→o∈SV.idsL l
 |q::r,h,hn=>by
  simp only [SV.idsL,List.mem_append];rcases List.mem_cons.1 h with h|h
  ·subst h;exact .inl hn
  ·exact .inr (mem_idsL h hn)
theorem loadSV_congr {n:Nat} {ag:Bool} {v:SV} (h:∀o∈v.ids,s'.look o=s.look o):loadSV s' n ag v=loadSV s n ag v:=by
 cases v with
 |ptr o off=>simp only [loadSV,h o (by simp [SV.ids])]
 |ap o sz i j=>simp only [loadSV,h o (by simp [SV.ids])]
 |_=>rfl
theorem storeE_congr {n:Nat} {v:List SV} {u:SV} (h:∀o∈u.ids,s'.look o=s.look o):storeE s' n v u=storeE s n v u:=by
 cases u with
 |ptr o off=>simp only [storeE,h o (by simp [SV.ids])]
 |ap o sz i j=>simp only [storeE,h o (by simp [SV.ids])]
 |_=>rfl
theorem bytesOf_congr {u:SV} (h:∀o∈u.ids,s'.look o=s.look o):bytesOf s' u=bytesOf s u:=by
 cases u with
 |psl o sz off n c=>simp only [bytesOf,h o (by simp [SV.ids])]
 |_=>rfl
theorem rowsOf_congr {sz:Nat} {u:SV} (h:∀o∈u.ids,s'.look o=s.look o):rowsOf s' sz u=rowsOf s sz u:=by
 cases u with
 |psl o sz off n c=>simp only [rowsOf,h o (by simp [SV.ids])]
 |_=>rfl
theorem optI_congr {l:Option Arg} {n:Int} (h:∀a∈l.toList,s'.ev a=s.ev a):optI s' l n=optI s l n:=by
 cases l with
 |none=>rfl
 |some a=>simp only [optI,h a (by simp)]
theorem slcSV_congr {sz:Nat} {v:SV} {lo hi mx:Option Arg} (h1:∀a∈lo.toList,s'.ev a=s.ev a) (h2:∀a∈hi.toList,s'.ev a=s.ev a) (h3:∀a∈mx.toList,s'.ev a=s.ev a):slcSV s' sz v lo hi mx=slcSV s sz v lo hi mx:=by
 cases v<;>simp only [slcSV,optI_congr h1,optI_congr h2,optI_congr h3]
theorem val_congr {so:SOp} (hev:∀a∈so.args,s'.ev a=s.ev a) (hl:∀o∈SV.idsL (so.args.map s.ev),s'.look o=s.look o):val s' so=val s so:=by
 have hl':∀a∈so.args,∀o∈(s.ev a).ids,s'.look o=s.look o:=fun a ha o ho=>hl o (mem_idsL (List.mem_map_of_mem ha) ho)
 cases so with
 |build z ps=>
  simp only [val]
  congr 2
  apply List.map_congr_left;rintro⟨o,n,q⟩ hq;simp only [hev q (by simp only [SOp.args,List.mem_map];exact⟨_,hq,rfl⟩)]
 |lit sz xs=>simp only [val];rw [List.map_congr_left (l:=xs) (f:=s'.ev) (g:=s.ev) (fun a ha=>hev a ha)]
 |litB xs=>simp only [val];rw [List.map_congr_left (l:=xs) (f:=s'.ev) (g:=s.ev) (fun a ha=>hev a ha)]
 |mkfn f p q=>simp only [val];rw [List.map_congr_left (l:=p) (f:=s'.ev) (g:=s.ev) (fun a ha=>hev a (by simp [SOp.args,ha])),List.map_congr_left (l:=q) (f:=s'.ev) (g:=s.ev) (fun a ha=>hev a (by simp [SOp.args,ha]))]
 |load n ag p=>simp only [val,hev p (by simp [SOp.args])];exact loadSV_congr (hl' p (by simp [SOp.args]))
 |slcS p lo hi=>
  simp only [val,hev p (by simp [SOp.args])];have h1:=fun n=>optI_congr (s:=s) (s':=s') (l:=lo) (n:=n) (fun a ha=>hev a (by simp only [SOp.args,List.mem_cons,List.mem_append];exact .inr (.inl ha)))
  have h2:=fun n=>optI_congr (s:=s) (s':=s') (l:=hi) (n:=n) (fun a ha=>hev a (by simp only [SOp.args,List.mem_cons,List.mem_append];exact .inr (.inr ha)))
  simp only [h1,h2]
 |slcL sz p lo hi mx=>simp only [val,hev p (by simp [SOp.args])];exact slcSV_congr (fun a ha=>hev a (by simp only [SOp.args,List.mem_cons,List.mem_append];exact .inr (.inl (.inl ha)))) (fun a ha=>hev a (by simp only [SOp.args,List.mem_cons,List.mem_append];exact .inr (.inl (.inr ha)))) (fun a ha=>hev a (by simp only [SOp.args,List.mem_cons,List.mem_append];exact .inr (.inr ha)))
 |slcA len sz p lo hi mx=>
  simp only [val,hev p (by simp [SOp.args])];have:=fun v=>slcSV_congr (s:=s) (s':=s') (sz:=sz) (v:=v) (fun a ha=>hev a (by simp only [SOp.args,List.mem_cons,List.mem_append];exact .inr (.inl (.inl ha)))) (fun a ha=>hev a (by simp only [SOp.args,List.mem_cons,List.mem_append];exact .inr (.inl (.inr ha)))) (fun a ha=>hev a (by simp only [SOp.args,List.mem_cons,List.mem_append];exact .inr (.inr ha)))
  simp only [this]
 |iaddrA len sz p i=>
  have h3:=hl' p (by simp [SOp.args]);simp only [val,hev p (by simp [SOp.args]),hev i (by simp [SOp.args])];split<;>try rfl
  rename_i o off n hp hi;rw [h3 o (by rw [hp];simp [SV.ids])]
 |b2s p=>
  have h3:=hl' p (by simp [SOp.args]);simp only [val,hev p (by simp [SOp.args])];cases hp:s.ev p with
  |psl o sz off n c=>simp only [b2sSV];rw [h3 o (by rw [hp];simp [SV.ids])]
  |_=>rfl
 |mov p=>simp only [val,hev p (by simp [SOp.args])]
 |nchk p=>simp only [val,hev p (by simp [SOp.args])]
 |un _ p=>simp only [val,hev p (by simp [SOp.args])]
 |toInt _ p=>simp only [val,hev p (by simp [SOp.args])]
 |toStr p=>simp only [val,hev p (by simp [SOp.args])]
 |s2b p=>simp only [val,hev p (by simp [SOp.args])]
 |faddr _ p=>simp only [val,hev p (by simp [SOp.args])]
 |fld _ _ _ p=>simp only [val,hev p (by simp [SOp.args])]
 |isnil _ p=>rfl
 |isni _ p=>simp only [val,hev p (by simp [SOp.args])]
 |slid p=>rfl
 |newB p=>rfl
 |eqS _ _ p q=>simp only [val,hev p (by simp [SOp.args]),hev q (by simp [SOp.args])]
 |ovl p q=>rfl
 |ext p _=>simp only [val,hev p (by simp [SOp.args])]
 |len _ p=>simp only [val,hev p (by simp [SOp.args])]
 |cap p=>simp only [val,hev p (by simp [SOp.args])]
 |bin _ p q=>simp only [val,hev p (by simp [SOp.args]),hev q (by simp [SOp.args])]
 |beq _ p q=>simp only [val,hev p (by simp [SOp.args]),hev q (by simp [SOp.args])]
 |iaddrL _ p q=>simp only [val,hev p (by simp [SOp.args]),hev q (by simp [SOp.args])]
 |idxA _ _ _ p q=>simp only [val,hev p (by simp [SOp.args]),hev q (by simp [SOp.args])]
 |idxS p q=>simp only [val,hev p (by simp [SOp.args]),hev q (by simp [SOp.args])]
 |mini p q=>simp only [val,hev p (by simp [SOp.args]),hev q (by simp [SOp.args])]
 |maxi p q=>simp only [val,hev p (by simp [SOp.args]),hev q (by simp [SOp.args])]
 |_=>rfl
theorem ready_congr {t:Tok} (h:∀u∈t.ids,(u∈s'.tk↔u∈s.tk)):t.ready s'=t.ready s:=by
 cases t with
 |id u=>have:=h u (by simp [Tok.ids]);simp only [Tok.ready,List.contains_eq_mem];exact decide_eq_decide.2 this
 |_=>rfl
theorem eff_congr {d:Option Nat} {so:SOp} (hev:∀a∈so.args,s'.ev a=s.ev a) (hl:∀o∈SV.idsL (so.args.map s.ev),s'.look o=s.look o)
 (ht:∀e,eff s d so=some e→∀t∈e.eat.ids,(t∈s'.tk↔t∈s.tk)):eff s' d so=eff s d so:=by
 have hl':∀a∈so.args,∀o∈(s.ev a).ids,s'.look o=s.look o:=fun a ha o ho=>hl o (mem_idsL (List.mem_map_of_mem ha) ho)
 have hv:=val_congr hev hl;cases so with
 |new o=>rfl
 |box p=>simp only [eff,hev p (by simp [SOp.args])]
 |mk z bytes n c=>simp only [eff,hev n (by simp [SOp.args]),hev c (by simp [SOp.args])]
 |mkB n c=>simp only [eff,hev n (by simp [SOp.args]),hev c (by simp [SOp.args])]
 |store n p q=>simp only [eff,hev p (by simp [SOp.args]),hev q (by simp [SOp.args]),storeE_congr (hl' p (by simp [SOp.args]))]
 |appM _ _ _ _=>rfl
 |isnil _ _=>rfl
 | app sz bytes p q=>
  have hp:=hev p (by simp [SOp.args]);have hq:=hev q (by simp [SOp.args]);cases d with
  |none=>simp only [eff]
  | some d=>
   simp only [eff]at ht ⊢;rw [hp];cases hx:s.ev p with
   | byt l t=>
    simp only [hx]at ht ⊢;rw [hq,bytesOf_congr (hl' q (by simp [SOp.args]))];cases hb:bytesOf s (s.ev q)with
    |none=>rfl
    |some r=>obtain⟨p1,l1⟩:=r;simp only [hb]at ht;rw [ready_congr (ht _ rfl)]
   | lst sz' l t=>
    simp only [hx]at ht ⊢;rw [hq,rowsOf_congr (hl' q (by simp [SOp.args]))];cases hb:rowsOf s sz.length (s.ev q)with
    |none=>rfl
    |some r=>obtain⟨p1,l1⟩:=r;simp only [hb]at ht;rw [ready_congr (ht _ rfl)]
   |_=>rfl
 |cpy sz p q=>
  have hp:=hev p (by simp [SOp.args]);have hq:=hev q (by simp [SOp.args]);simp only [eff];rw [hp,hq,bytesOf_congr (hl' q (by simp [SOp.args])),rowsOf_congr (hl' q (by simp [SOp.args]))];split<;>try rfl
  rename_i o sz' off n c hx;rw [hl' p (by simp [SOp.args]) o (by rw [hx];simp [SV.ids])]
 |pick _ _ _=>rfl
 |call _ _=>rfl
 |_=>simp only [eff];rw [hv]
theorem isCall_wr {g:Nat} {as:List SV} {e:Eff} (h:IsCall P s g as e):e.new=none∧e.tok=false∧e.eat= .no:=by obtain⟨m,args,os,r,os',_,_,_,_,_,_,_,_,_,_,he⟩:=h;rw [he];exact⟨rfl,rfl,rfl⟩
theorem isCall_congr {g:Nat} {as:List SV} {e:Eff} (h:IsCall P s g as e) (hl:∀o∈e.wr.map Prod.fst,s'.look o=s.look o):IsCall P s' g as e:=by
 obtain⟨m,args,os,r,os',h1,h2,h3,h4,h5,h6,h7,h8,h9,h10,he⟩:=h;refine⟨m,args,os,r,os',h1,h2,h3,h4,h5,h6,fun i hi=> ?_,h8,h9,h10,he⟩;rw [←h7 i hi];apply hl;rw [he];simp only;have:m.getD i 0∈m:=by rw [List.getD_eq_getElem?_getD,List.getElem?_eq_getElem (by omega)];exact List.getElem_mem _
 rw [List.map_fst_zip (by simp;omega)];exact this
def StepR (P:Program) (i:SI) (o:Option Eff) (s:St):Prop:=
 match i.g,o with
 |none,some e=>stepE P i s (fun e'=>e'=e)
 |some (g,b),some e=>s.get g= .bool b∧stepE P i s (fun e'=>e'=e)
 |some (g,b),none=>s.get g= .bool (!b)
 |none,none=>False
def St.appO (s:St) (d:Option Nat):Option Eff→St
 |some e=>s.app d e
 |none=>s.put d .undef
def footO (s:St) (i:SI):Option Eff→Foot
 |some e=>footOf s i.op i.dst e
 |none=>noFoot
def numO (d:Option Nat):Option Eff→List Nat
 |some e=>e.num d
 |none=> []
theorem stepE_congr {i:SI} {e:Eff} (hev:∀a∈i.op.args,s'.ev a=s.ev a) (hl:∀o,o∈(footOf s i.op i.dst e).l∨o∈(footOf s i.op i.dst e).w→s'.look o=s.look o)
 (ht:∀t∈(footOf s i.op i.dst e).t,(t∈s'.tk↔t∈s.tk)) (h:stepE P i s (fun e'=>e'=e)):stepE P i s' (fun e'=>e'=e):=by
 obtain⟨dst,g,op⟩:=i
 by_cases hp:∃c q r,op= .pick c q r
 ·obtain⟨c,q,r,rfl⟩:=hp
  simp only [stepE]at h ⊢;rw [hev c (by simp [SOp.args]),hev q (by simp [SOp.args]),hev r (by simp [SOp.args])];exact h
 by_cases hc:∃f as,op= .call f as
 ·obtain⟨f,as,rfl⟩:=hc
  simp only [stepE]at h ⊢;rw [hev f (by simp [SOp.args]),List.map_congr_left (f:=s'.ev) (g:=s.ev) (fun a ha=>hev a (by simp [SOp.args,ha]))];split at h<;>try (exact h.elim)
  rename_i g' c1 c2 hg;obtain⟨e',he,rfl⟩:=h
  skip
  exact⟨e',isCall_congr he (fun o ho=>hl o (.inr ho)),rfl⟩
 have hE:∀s:St,stepE P ⟨dst,g,op⟩ s (fun e'=>e'=e)=(match eff s dst op with|some e'=>e'.pre∧e'=e|none=>False):=by intro s;cases op<;>first|rfl|(exfalso;exact hp ⟨_,_,_,rfl⟩)|(exfalso;exact hc ⟨_,_,rfl⟩)
 rw [hE]at h ⊢;split at h<;>try (exact h.elim)
 rename_i e' he;obtain⟨h1,rfl⟩:=h
 by_cases hb:op.blind=true
 ·have:eff s' dst op=eff s dst op:=by
   cases op<;>first|(cases hb;done)|skip
   all_goals (simp only [eff,val];rw [hev _ (by simp [SOp.args])])
  rw [this,he];exact⟨h1,rfl⟩
 ·rw [eff_congr hev (fun o ho=>hl o (.inl (by simp only [footOf];rw [if_neg hb];exact ho))) (fun e2 he2 t ht2=>by
   rw [he]at he2;cases he2;exact ht t ht2),he]
  exact⟨h1,rfl⟩
theorem foot_sub (s:St) (i:SI) (o:Option Eff):∀n∈(footO s i o).l,n∈(footO s i o).r:=by
 intro n hn;cases o with
 |none=>exact hn
 |some e=>
  simp only [footO,footOf]at hn ⊢;split at hn
  ·simp at hn
  ·exact hn
theorem ev_of_reads {i:SI} (h:∀k∈i.reads,s'.get k=s.get k):∀a∈i.op.args,s'.ev a=s.ev a:=by
 intro a ha;cases a with
 |t n=>refine h n ?_;simp only [SI.reads,List.mem_append,List.mem_flatMap];exact .inl ⟨_,ha,by simp [Arg.tmps]⟩
 |_=>rfl
theorem foot_congr {i:SI} {o:Option Eff} (h:∀k∈i.reads,s'.get k=s.get k):footO s' i o=footO s i o:=by
 cases o with
 |none=>rfl
 |some e=>simp only [footO,footOf];rw [List.map_congr_left (f:=s'.ev) (g:=s.ev) (ev_of_reads h)]
theorem stepR_congr {i:SI} {o:Option Eff} (hr:∀k∈i.reads,s'.get k=s.get k) (hl:∀q,q∈(footO s i o).l∨q∈(footO s i o).w→s'.look q=s.look q)
 (ht:∀t∈(footO s i o).t,(t∈s'.tk↔t∈s.tk)) (h:StepR P i o s):StepR P i o s':=by
 unfold StepR at h ⊢;have hg:∀g b,i.g=some (g,b)→s'.get g=s.get g:=fun g b hg=>hr g (by simp [SI.reads,hg])
 split at h
 ·rename_i e hg0;exact stepE_congr (ev_of_reads hr) hl ht h
 ·rename_i g b e hg0
  exact⟨by rw [hg _ _ hg0];exact h.1,stepE_congr (ev_of_reads hr) hl ht h.2⟩
 ·rename_i g b hg0
  rw [hg _ _ hg0];exact h
 ·exact h.elim
theorem num_foot (s:St) (i:SI) (o:Option Eff):(footO s i o).n=numO i.dst o:=by cases o<;>rfl
end Go.Sy
namespace Go.Sy
variable [LaidData]
variable {P : Program} {C : Ctx} {x : Sit} {s s' : St} {a : Act} {w : World}
def valO:Option Eff→SV
 |some e=>e.val
 |none=> .undef
def lookO (d:Option Nat) (q:Nat) (c:Option SObj):Option Eff→Option SObj
 |some e=>e.look d q c
 |none=>c
def tksO (d:Option Nat) (t:Nat) (c:Prop):Option Eff→Prop
 |some e=>e.tks d t c
 |none=>c
theorem appO_tm {d:Option Nat} {o:Option Eff} (hf:∀n∈numO d o,s.Fresh n):(s.appO d o).tm=(s.put d (valO o)).tm:=by
 cases o with
 |none=>rfl
 |some e=>exact app_tm hf
theorem appO_look {d:Option Nat} {o:Option Eff} (hf:∀n∈numO d o,s.Fresh n) (q:Nat):(s.appO d o).look q=lookO d q (s.look q) o:=by
 cases o with
 |none=>exact look_put d _ q
 |some e=>exact app_look hf q
theorem appO_tk {d:Option Nat} {o:Option Eff} (hf:∀n∈numO d o,s.Fresh n) (t:Nat):t∈(s.appO d o).tk↔tksO d t (t∈s.tk) o:=by
 cases o with
 |none=>simp only [St.appO,tk_put,tksO]
 |some e=>exact app_tk hf t
theorem appO_fresh {i:SI} {o:Option Eff} (hf:∀n∈numO i.dst o,s.Fresh n) {k:Nat} (hk:s.Fresh k) {u:St} (h1:k∉(footO u i o).n) (h2:k∉(footO u i o).m):(s.appO i.dst o).Fresh k:=by
 cases o with
 |none=>
  refine⟨?_,fun q ob h=>hk.ob q ob (by simpa [St.appO,look_put]using h),by simpa [St.appO,tk_put]using hk.tk⟩;simp only [St.appO];cases hd:i.dst with
  |none=>exact hk.tm
  |some d=>exact fun h=>(namesL_set h).elim hk.tm (by simp [SV.names,SV.ids,SV.toks])
 |some e=>exact fresh_app hf hk h1 h2
theorem lookO_none {i:SI} {o:Option Eff} {q:Nat} {c:Option SObj} {u:St} (h1:q∉(footO u i o).w) (h2:q∉(footO u i o).n):lookO i.dst q c o=c:=by
 cases o with
 |none=>rfl
 |some e=>exact Eff.look_none h1 h2
theorem tksO_none {i:SI} {o:Option Eff} {t:Nat} {c:Prop} {u:St} (h1:t∉(footO u i o).t) (h2:t∉(footO u i o).n):tksO i.dst t c o↔c:=by
 cases o with
 |none=>exact Iff.rfl
 |some e=>exact Eff.tks_none h1 h2
theorem tksO_congr {d:Option Nat} {t:Nat} {c c':Prop} {o:Option Eff} (h:c↔c'):tksO d t c o↔tksO d t c' o:=by rw [propext h]
theorem put_get {d:Option Nat} {v:SV} {k:Nat} (h:d≠some k):(s.put d v).get k=s.get k:=by
 cases d with
 |none=>rfl
 |some d=>simp only [St.put,St.get,List.getD_eq_getElem?_getD];rw [List.getElem?_set_ne (by rintro rfl;exact h rfl)]
theorem appO_get {d:Option Nat} {o:Option Eff} (hf:∀n∈numO d o,s.Fresh n) {k:Nat} (h:d≠some k):(s.appO d o).get k=s.get k:=by show(s.appO d o).tm.getD k _=_;rw [appO_tm hf];exact put_get h
theorem meets_false {p q:List Nat} (h:meets p q=false):∀n∈p,n∉q:=by
 intro n hn hq
 have:meets p q=true:=by unfold meets;rw [List.any_eq_true];exact⟨n,hn,by simpa using hq⟩
 rw [h]at this;cases this
structure Peace (p q:Foot):Prop where
 ww:∀n∈p.w,n∉q.w
 wr:∀n∈p.w,n∉q.l
 rw:∀n∈q.w,n∉p.l
 tt:∀n∈p.t,n∉q.t
 n1:∀n∈p.n,n∉q.r∧n∉q.w∧n∉q.t∧n∉q.m∧n∉q.n
 n2:∀n∈q.n,n∉p.r∧n∉p.w∧n∉p.t∧n∉p.m
theorem peace {p q:Foot} (h:p.clash q=false):Peace p q:=by
 simp only [Foot.clash,Bool.or_eq_false_iff]at h;obtain⟨⟨⟨⟨⟨h1,h2⟩,h3⟩,h4⟩,h5⟩,h6⟩:=h;refine⟨meets_false h1,meets_false h2,meets_false h3,meets_false h4,fun n hn=> ?_,fun n hn=> ?_⟩
 ·have:=meets_false h5 n hn
  simp only [List.mem_append,not_or]at this;exact⟨this.1.1.1.1,this.1.1.1.2,this.1.1.2,this.1.2,this.2⟩
 ·have:=meets_false h6 n hn
  simp only [List.mem_append,not_or]at this;exact⟨this.1.1.1,this.1.1.2,this.1.2,this.2⟩
theorem swap {j i:SI} {oj oi:Option Eff} (hdj:∀d,j.dst=some d→d∉i.reads) (hdi:∀d,i.dst=some d→d∉j.reads) (hdd:∀d,j.dst=some d→i.dst≠some d)
 (hfj:∀n∈numO j.dst oj,s.Fresh n) (hfi:∀n∈numO i.dst oi,s.Fresh n)
 (hc:Peace (footO s j oj) (footO (s.appO j.dst oj) i oi)) (h1:StepR P j oj s) (h2:StepR P i oi (s.appO j.dst oj)):
 StepR P i oi s∧footO s i oi=footO (s.appO j.dst oj) i oi∧StepR P j oj (s.appO i.dst oi)∧footO (s.appO i.dst oi) j oj=footO s j oj∧
  Eqv ((s.appO j.dst oj).appO i.dst oi) ((s.appO i.dst oi).appO j.dst oj):=by
 have hri:∀k∈i.reads,s.get k=(s.appO j.dst oj).get k:=fun k hk=>(appO_get hfj (fun h=>hdj _ h hk)).symm
 have hrj:∀k∈j.reads,(s.appO i.dst oi).get k=s.get k:=fun k hk=>appO_get hfi (fun h=>hdi _ h hk)
 have f1:=foot_congr (o:=oi) hri;have f2:=foot_congr (o:=oj) hrj
 have hfi':∀n∈numO i.dst oi,(s.appO j.dst oj).Fresh n:=by
  intro n hn;have hn':n∈(footO (s.appO j.dst oj) i oi).n:=by rw [num_foot];exact hn
  exact appO_fresh hfj (hfi n hn) (u:=s) (fun h=>(hc.n1 n h).2.2.2.2 hn') (hc.n2 n hn').2.2.2
 have hfj':∀n∈numO j.dst oj,(s.appO i.dst oi).Fresh n:=by
  intro n hn;have hn':n∈(footO s j oj).n:=by rw [num_foot];exact hn
  exact appO_fresh hfi (hfj n hn) (u:=s.appO j.dst oj) (hc.n1 n hn').2.2.2.2 (hc.n1 n hn').2.2.2.1
 refine⟨stepR_congr hri ?_ ?_ h2,f1,stepR_congr hrj ?_ ?_ h1,f2, ?_, ?_, ?_⟩
 ·intro q hq
  rw [appO_look hfj];refine(lookO_none (u:=s) ?_ ?_).symm
  ·rcases hq with hq|hq
   ·exact fun h=>hc.wr q h hq
   ·exact fun h=>hc.ww q h hq
  ·rcases hq with hq|hq
   ·exact fun h=>(hc.n1 q h).1 (foot_sub _ _ _ _ hq)
   ·exact fun h=>(hc.n1 q h).2.1 hq
 ·intro t ht
  rw [appO_tk hfj];exact(tksO_none (u:=s) (fun h=>hc.tt t h ht) (fun h=>(hc.n1 t h).2.2.1 ht)).symm
 ·intro q hq
  rw [appO_look hfi];refine lookO_none (u:=s.appO j.dst oj) ?_ ?_
  ·rcases hq with hq|hq
   ·exact fun h=>hc.rw q h hq
   ·exact fun h=>hc.ww q hq h
  ·rcases hq with hq|hq
   ·exact fun h=>(hc.n2 q h).1 (foot_sub _ _ _ _ hq)
   ·exact fun h=>(hc.n2 q h).2.1 hq
 ·intro t ht
  rw [appO_tk hfi];exact tksO_none (u:=s.appO j.dst oj) (fun h=>hc.tt t ht h) (fun h=>(hc.n2 t h).2.2.1 ht)
 ·have key:∀(u:St) (d:Option Nat) (v:SV),(u.put d v).tm=(match d with|some d=>u.tm.set d v|none=>u.tm):=by
   intro u d v;cases d<;>rfl
  rw [appO_tm hfi',appO_tm hfj',key,key,appO_tm hfj,appO_tm hfi,key,key];cases hj:j.dst with
  |none=>rfl
  |some dj=>
   cases hi:i.dst with
   |none=>rfl
   |some di=>exact List.set_comm _ _ (by rintro rfl;exact hdd _ hj hi)
 ·intro q
  rw [appO_look hfi',appO_look hfj,appO_look hfj',appO_look hfi]
  by_cases hq:q∈(footO s j oj).w∨q∈(footO s j oj).n
  ·have h3:∀c,lookO i.dst q c oi=c:=by
    intro c;refine lookO_none (u:=s.appO j.dst oj) ?_ ?_
    ·rcases hq with hq|hq
     ·exact hc.ww q hq
     ·exact(hc.n1 q hq).2.1
    ·rcases hq with hq|hq
     ·exact fun h=>(hc.n2 q h).2.1 hq
     ·exact(hc.n1 q hq).2.2.2.2
   rw [h3,h3]
  ·have h3:∀c,lookO j.dst q c oj=c:=fun c=>lookO_none (u:=s) (fun h=>hq (.inl h)) (fun h=>hq (.inr h))
   rw [h3,h3]
 ·intro t
  rw [appO_tk hfi',appO_tk hfj'];rw [tksO_congr (appO_tk hfj t),tksO_congr (appO_tk hfi t)]
  by_cases hq:t∈(footO s j oj).t∨t∈(footO s j oj).n
  ·have h3:∀c,tksO i.dst t c oi↔c:=by
    intro c;refine tksO_none (u:=s.appO j.dst oj) ?_ ?_
    ·rcases hq with hq|hq
     ·exact hc.tt t hq
     ·exact(hc.n1 t hq).2.2.1
    ·rcases hq with hq|hq
     ·exact fun h=>(hc.n2 t h).2.2.1 hq
     ·exact(hc.n1 t hq).2.2.2.2
   rw [h3,tksO_congr (h3 _)]
  ·have h3:∀c,tksO j.dst t c oj↔c:=fun c=>tksO_none (u:=s) (fun h=>hq (.inl h)) (fun h=>hq (.inr h))
   exact(tksO_congr (h3 _)).trans (h3 _).symm
structure Itm where
 n:Nat
 i:SI
 o:Option Eff
 f:Foot
def RunL (P:Program):List Itm→St→St→Prop
 |[],s,t=>Eqv s t
 |it::r,s,t=>StepR P it.i it.o s∧footO s it.i it.o=it.f∧RunL P r (s.appO it.i.dst it.o) t
theorem eqv_appO {t:St} (h:Eqv s t) {d:Option Nat} {o:Option Eff} (hf:∀n∈numO d o,s.Fresh n):Eqv (s.appO d o) (t.appO d o):=by
 have hf':∀n∈numO d o,t.Fresh n:=fun n hn=>h.fresh (hf n hn)
 refine⟨?_,fun q=> ?_,fun n=> ?_⟩
 ·rw [appO_tm hf,appO_tm hf']
  cases d with
  |none=>exact h.tm
  |some d=>simp only [St.put];rw [h.tm]
 ·rw [appO_look hf,appO_look hf',h.ob]
 ·rw [appO_tk hf,appO_tk hf'];exact tksO_congr (h.tk n)
theorem stepR_eqv {t:St} (h:Eqv s t) {i:SI} {o:Option Eff} (hs:StepR P i o s):StepR P i o t∧footO t i o=footO s i o:=by
 have hg:∀k∈i.reads,t.get k=s.get k:=fun k _=>by unfold St.get;rw [h.tm]
 exact⟨stepR_congr hg (fun q _=>(h.ob q).symm) (fun n _=>(h.tk n).symm) hs,foot_congr hg⟩
def Numbered (r:List Itm) (s:St):Prop:=∀it∈r,∀n∈it.f.n,s.Fresh n
def Rising (r:List Itm):Prop:=r.Pairwise fun p q=>p.f.before q.f=true
theorem before_spec {p q:Foot} (h:p.before q=true):∀n∈q.n,n∉p.n∧n∉p.m:=by intro n hn;simp only [Foot.before,Bool.not_eq_true']at h;have:=meets_false h n hn;simp only [List.mem_append,not_or]at this;exact⟨this.2,this.1.2⟩
theorem numbered_step {it:Itm} {r:List Itm} (hN:Numbered (it::r) s) (hf:footO s it.i it.o=it.f) (hR:∀q∈r,it.f.before q.f=true):Numbered r (s.appO it.i.dst it.o):=by intro q hq n hn;obtain⟨h1,h2⟩:=before_spec (hR q hq) n hn;rw [←hf]at h1 h2;refine appO_fresh (fun k hk=>hN it (List.mem_cons_self ..) k ?_) (hN q (List.mem_cons_of_mem _ hq) n hn) h1 h2;rw [←hf,num_foot];exact hk
theorem runL_eqv:∀ {r:List Itm} {s s' t:St},Eqv s s'→Numbered r s→Rising r→RunL P r s t→RunL P r s' t
 |[],s,s',t,h,_,_,hr=>h.symm.trans hr
 |it::r,s,s',t,h,hN,hR,hr=>by obtain⟨h1,h2,h3⟩:=hr;obtain⟨h4,h5⟩:=stepR_eqv h h1;have hR':=List.pairwise_cons.1 hR;refine⟨h4,h5.trans h2,runL_eqv (eqv_appO h fun n hn=>hN it (List.mem_cons_self ..) n ?_) (numbered_step hN h2 hR'.1) hR'.2 h3⟩;rw [←h2,num_foot];exact hn
structure Free (j i:Itm):Prop where
 dj:∀d,j.i.dst=some d→d∉i.i.reads
 di:∀d,i.i.dst=some d→d∉j.i.reads
 dd:∀d,j.i.dst=some d→i.i.dst≠some d
 pc:Peace j.f i.f
theorem front {i:Itm}:∀ {pre post:List Itm} {s t:St},(∀j∈pre,Free j i)→Numbered (pre++i::post) s→Rising (pre++i::post)→RunL P (pre++i::post) s t→RunL P (i::(pre++post)) s t
 |[],_,_,_,_,_,_,h=>h
 | j ::pre,post,s,t,hF,hN,hR,h=>by
  obtain⟨h1,h2,h3⟩:=h;have hR':=List.pairwise_cons.1 hR;have hN':=numbered_step hN h2 hR'.1;obtain⟨h4,h5,h6⟩:=front (fun q hq=>hF q (List.mem_cons_of_mem _ hq)) hN' hR'.2 h3;have hFj:=hF j (List.mem_cons_self ..);have nj:∀n∈numO j.i.dst j.o,s.Fresh n:=fun n hn=>hN j (by simp) n (by rw [←h2,num_foot];exact hn)
  have ni:∀n∈numO i.i.dst i.o,s.Fresh n:=fun n hn=>hN i (by simp) n (by rw [←h5,num_foot];exact hn)
  obtain⟨k1,k2,k3,k4,k5⟩:=swap hFj.dj hFj.di hFj.dd nj ni (by rw [h2,h5];exact hFj.pc) h1 h4;refine⟨k1,k2.trans h5,k3,k4.trans h2, ?_⟩
  have ni':Numbered (pre++post) ((s.appO j.i.dst j.o).appO i.i.dst i.o):=by
   intro q hq n hn
   have hb:n∉i.f.n∧n∉i.f.m:=by
    rcases List.mem_append.1 hq with hq|hq
    ·have hp:=(hF q (List.mem_cons_of_mem _ hq)).pc.n1 n hn
     exact⟨hp.2.2.2.2,hp.2.2.2.1⟩
    ·have:=(List.pairwise_append.1 hR'.2).2.1
     exact before_spec ((List.pairwise_cons.1 this).1 q hq) n hn
   rw [←h5]at hb
   refine appO_fresh (fun k hk=>hN' i (by simp) k (by rw [←h5,num_foot];exact hk)) (hN' q (by
    rcases List.mem_append.1 hq with hq|hq
    ·exact List.mem_append.2 (.inl hq)
    ·exact List.mem_append.2 (.inr (List.mem_cons_of_mem _ hq))) n hn) hb.1 hb.2
  exact runL_eqv k5 ni' (hR'.2.sublist ((List.Sublist.refl pre).append (List.sublist_cons_self ..))) h6
end Go.Sy
namespace Go.Sy
variable [LaidData]
variable {P : Program} {C : Ctx} {x : Sit} {s : St} {a : Act} {w : World}
theorem Models.purge (hM:Models C x s a w) (lo hi:Nat):Models C x (s.purge lo hi) a w:=by
 have hH:=hM.heap;refine⟨hM.tm.mono (fun _ _ _ h=>h) (fun _ _=>rfl) (fun _ _=>rfl),hM.defers,⟨hH.per,hH.g0,hH.gm,hH.new, ?_, ?_, ?_, ?_, ?_, ?_,hH.os,hH.tape,hH.output,hH.size,hH.ext,hH.pin,hH.lay⟩⟩
 ·intro p hp
  obtain⟨h1,o,h2,h3⟩:=mem_purgeO hp;obtain⟨h4,h5⟩:=hH.obs _ h2;refine⟨?_,h5⟩;rw [h3];exact h4.of_heap rfl (fun _ _ _ h=>h) (fun _ _=>rfl) (fun _ _=>rfl) h1
 ·show((purgeO lo hi s.ob).map Prod.fst).Nodup
  rw [fst_purgeO];exact hH.nd.filter _
 ·intro p hp q hq
  obtain⟨_,o,h2,_⟩:=mem_purgeO hp;obtain⟨_,o',h3,_⟩:=mem_purgeO hq;exact hH.inj (p.1,o) h2 (q.1,o') h3
 ·intro t ht;exact hH.tks t (mem_dropT.1 ht).1
 ·intro t ht p hp
  obtain⟨_,o,h2,_⟩:=mem_purgeO hp;exact hH.tko t (mem_dropT.1 ht).1 (p.1,o) h2
 ·intro t ht u hu;exact hH.tkd t (mem_dropT.1 ht).1 u (mem_dropT.1 hu).1
theorem Models.forget:∀ {ds:List Nat} {s:St},Models C x s a w→Models C x (s.forget ds) a w
 |[],_,h=>h
 |d::r,s,h=>by simp only [St.forget];exact Models.forget (h.purge d (d+1))
theorem fresh_purge {n lo hi:Nat} (h:s.Fresh n∨(lo≤n∧n<hi)):(s.purge lo hi).Fresh n:=by
 refine⟨fun hn=> ?_,fun o ob ho=> ?_,fun hn=> ?_⟩
 ·obtain⟨h1,h2⟩:=namesL_purge hn
  exact h.elim (fun h=>h.tm h1) h2
 ·simp only [St.look,St.purge,lookup_purgeO]at ho
  split at ho<;>try (cases ho;done)
  rename_i hno;obtain⟨c,hc,rfl⟩:=Option.map_eq_some_iff.1 ho;refine⟨?_,fun hn=> ?_⟩
  ·rcases h with h|h
   ·exact(h.ob o c hc).1
   ·rintro rfl;exact hno h
  ·obtain⟨h1,h2⟩:=namesO_purge hn
   exact h.elim (fun h=>(h.ob o c hc).2 h1) h2
 ·obtain⟨h1,h2⟩:=mem_dropT.1 hn
  exact h.elim (fun h=>h.tk h1) h2
theorem fresh_forget {n:Nat}:∀ {ds:List Nat} {s:St},s.Fresh n∨n∈ds→(s.forget ds).Fresh n
 |[],s,h=>h.elim id (by simp)
 | d::r,s,h=>by
  simp only [St.forget];apply fresh_forget;rcases h with h|h
  ·exact .inl (fresh_purge (.inl h))
  ·rcases List.mem_cons.1 h with h|h
   ·subst h;exact .inl (fresh_purge (.inr (by omega)))
   ·exact .inr h
theorem eff_num {d:Option Nat} {so:SOp} {e:Eff} (h:eff s d so=some e) (hn:e.num d≠ []):makes so=true:=by
 cases so with
 |new o=>rfl
 |box p=>rfl
 |mk z b n c=>rfl
 |mkB n c=>rfl
 |app sz b p q=>rfl
 | store n p q=>
  exfalso;apply hn;simp only [eff]at h;split at h<;>try (cases h;done)
  cases hu:s.ev p with
  |ptr o off=>
   simp only [hu,storeE]at h;split at h<;>try (cases h;done)
   ·cases h;rfl
   ·cases h;rfl
   ·split at h<;>first|(cases h;done)|(cases h;rfl)
  |ap o sz i j=>
   simp only [hu,storeE]at h;split at h<;>try (cases h;done)
   ·cases h;rfl
   ·split at h<;>first|(cases h;done)|(cases h;rfl)
  |_=>simp [hu,storeE]at h
 |cpy sz p q=>
  exfalso;apply hn;simp only [eff]at h;split at h<;>try (cases h;done)
  split at h<;>try (cases h;done)
  ·split at h<;>first|(cases h;done)|(cases h;rfl)
  ·split at h<;>first|(cases h;done)|(cases h;rfl)
 |pick _ _ _=>cases h
 |call _ _=>cases h
 |appM _ _ _ _=>cases h
 |isnil _ _=>cases h
 |_=>exfalso;apply hn;simp only [eff]at h;split at h<;>first|(cases h;done)|(cases h;rfl)
theorem stepE_num {i:SI} {e:Eff} (h:stepE P i s (fun e'=>e'=e)):∀n∈e.num i.dst,makes i.op=true∧n=i.dst.getD 0+100:=by
 intro n hn;refine⟨?_,by unfold Eff.num at hn;split at hn<;>simp at hn<;>exact hn⟩;obtain⟨dst,g,op⟩:=i;have hne:e.num dst≠ []:=by intro h;simp only [h]at hn;cases hn
 by_cases hp:∃c q r,op= .pick c q r
 ·obtain⟨c,q,r,rfl⟩:=hp
  exfalso;apply hne;simp only [stepE]at h;split at h<;>try (exact h.elim)
  rename_i t ht;cases t with
  |true=>rw [←h.1 rfl];rfl
  |false=>rw [←h.2 rfl];rfl
 by_cases hc:∃f as,op= .call f as
 ·obtain⟨f,as,rfl⟩:=hc
  exfalso;apply hne;simp only [stepE]at h;split at h<;>try (exact h.elim)
  obtain⟨e',he,rfl⟩:=h;obtain⟨h1,h2,_⟩:=isCall_wr he;unfold Eff.num;rw [h1,h2]
 have hE:stepE P ⟨dst,g,op⟩ s (fun e'=>e'=e)=(match eff s dst op with|some e'=>e'.pre∧e'=e|none=>False):=by
  cases op<;>first|rfl|(exfalso;exact hp ⟨_,_,_,rfl⟩)|(exfalso;exact hc ⟨_,_,rfl⟩)
 rw [hE]at h;split at h<;>try (exact h.elim)
 rename_i e' he;obtain⟨_,rfl⟩:=h;exact eff_num he hne
theorem stepE_some {i:SI} {k:Eff→Prop} (h:stepE P i s k):∃e,stepE P i s (fun e'=>e'=e)∧k e:=by
 obtain⟨dst,g,op⟩:=i
 by_cases hp:∃c q r,op= .pick c q r
 ·obtain⟨c,q,r,rfl⟩:=hp
  simp only [stepE]at h ⊢;split at h<;>try (exact h.elim)
  rename_i t ht;cases t with
  |true=>exact⟨_,⟨fun _=>rfl,fun h=>(by cases h)⟩,h.1 rfl⟩
  |false=>exact⟨_,⟨(fun h=>(by cases h)),fun _=>rfl⟩,h.2 rfl⟩
 by_cases hc:∃f as,op= .call f as
 ·obtain⟨f,as,rfl⟩:=hc
  simp only [stepE]at h ⊢;split at h<;>try (exact h.elim)
  obtain⟨e,h1,h2⟩:=h;exact⟨e,⟨e,h1,rfl⟩,h2⟩
 have hE:∀k,stepE P ⟨dst,g,op⟩ s k=(match eff s dst op with|some e'=>e'.pre∧k e'|none=>False):=by intro k;cases op<;>first|rfl|(exfalso;exact hp ⟨_,_,_,rfl⟩)|(exfalso;exact hc ⟨_,_,rfl⟩)
 rw [hE]at h;split at h<;>try (exact h.elim)
 rename_i e' he;refine⟨e', ?_,h.2⟩;rw [hE,he];exact⟨h.1,rfl⟩
theorem nodup_app {d:Option Nat} {e:Eff} (h:(s.ob.map Prod.fst).Nodup):((s.app d e).ob.map Prod.fst).Nodup:=by
 have hput:∀(u:St) v,(u.put d v).ob=u.ob:=by intro u v;cases d<;>rfl
 unfold St.app;split
 ·rw [hput]
  simp only [St.addO,St.purge,List.map_cons,List.nodup_cons];rw [fst_purgeO];exact⟨by simp,h.filter _⟩
 ·rw [hput]
  simp only [St.grew];rw [fst_purgeO];exact h.filter _
 ·rw [hput,fst_wr];exact h
theorem vcD_items {b:List Nat} {k:St→Prop}:∀ {l:List SI} {fs:List Foot} {s:St},vcD P b l fs k s→(s.ob.map Prod.fst).Nodup→∃(its:List Itm) (t:St),its.map Itm.i=l∧its.map Itm.n=List.range' fs.length l.length∧
 (∀it∈its,∀n∈it.f.n,n∈dsOf l)∧((fs.reverse++its.map Itm.f).all Foot.quiet||drawOK b (fs.reverse++its.map Itm.f))=true∧RunL P its s t∧(t.ob.map Prod.fst).Nodup∧k t
 |[],fs,s,h,hnd=>by refine⟨[],s,rfl,by simp,by simp, ?_,Eqv.refl s,hnd,h.2⟩;simp only [List.map_nil,List.append_nil,List.all_reverse];exact h.1
 | i ::r,fs,s,h,hnd=>by
  have go:∀o:Option Eff,StepR P i o s→vcD P b r (footO s i o::fs) k (s.appO i.dst o)→((s.appO i.dst o).ob.map Prod.fst).Nodup→(∀n∈(footO s i o).n,n∈dsOf (i::r))→
   ∃ (its:List Itm) (t:St),its.map Itm.i=i::r∧its.map Itm.n=List.range' fs.length (i::r).length∧
     (∀it∈its,∀n∈it.f.n,n∈dsOf (i::r))∧((fs.reverse++its.map Itm.f).all Foot.quiet||drawOK b (fs.reverse++its.map Itm.f))=true∧RunL P its s t∧(t.ob.map Prod.fst).Nodup∧k t:=by
   intro o h1 h2 h3 h4;obtain⟨its,t,e1,e2,e3,e4,e5,e6,e7⟩:=vcD_items h2 h3;refine⟨⟨fs.length,i,o,footO s i o⟩::its,t,by simp [e1], ?_, ?_, ?_,⟨h1,rfl,e5⟩,e6,e7⟩
   ·simp only [List.map_cons,List.length_cons,e2];rfl
   ·intro it hit n hn
    rcases List.mem_cons.1 hit with rfl|hit
    ·exact h4 n hn
    ·have:=e3 it hit n hn
     simp only [dsOf,List.filterMap_cons];split
     ·exact this
     ·exact List.mem_cons_of_mem _ this
   ·simpa [List.append_assoc]using e4
  have hd:∀e,stepE P i s (fun e'=>e'=e)→∀n∈(footO s i (some e)).n,n∈dsOf (i::r):=by intro e he n hn;obtain⟨h1,h2⟩:=stepE_num he n (by rw [num_foot]at hn;exact hn);simp only [dsOf,List.filterMap_cons,h1,if_true];rw [h2];exact List.mem_cons_self ..
  simp only [vcD]at h;split at h
  ·rename_i hg
   obtain⟨e,he,hk⟩:=stepE_some h;exact go (some e) (by unfold StepR;rw [hg];exact he) hk (nodup_app hnd) (hd e he)
  ·rename_i g want hg
   split at h<;>try (exact h.elim)
   rename_i t ht
   by_cases htw:t=want
   ·obtain⟨e,he,hk⟩:=stepE_some (h.1 htw)
    exact go (some e) (by unfold StepR;rw [hg];exact⟨by rw [ht,htw],he⟩) hk (nodup_app hnd) (hd e he)
   ·have htw':t= !want:=by cases t<;>cases want<;>simp at htw ⊢
    refine go none (by unfold StepR;rw [hg];show s.get g=_;rw [ht,htw']) (h.2 htw') ?_ (by simp [footO,noFoot]);cases hdst:i.dst<;>exact hnd
theorem stepE_wp (hM:Models C x s a w) {o:Oper} {i:SI} (hr:res1 P o=some i.op) (hdst:i.dst=o.dst) {e:Eff} (h:stepE P i s (fun e'=>e'=e)) {K:Act→World→Prop} {Q:Exit→Act→World→Prop}
 (hK:∀a w,PostK C (fun s'=>s'=s.app i.dst e) a w→K a w):o.wp P a w K Q:=by
 obtain⟨dst,g,op⟩:=i;simp only at hr hdst hK;subst hdst
 by_cases hp:∃c q r,op= .pick c q r
 ·obtain⟨c,q,r,rfl⟩:=hp
  refine sym_sound hM hr ?_ hK;simp only [stepE]at h;simp only [sym];split at h<;>try (exact h.elim)
  exact⟨fun e1=>by rw [←h.1 e1];rfl,fun e1=>by rw [←h.2 e1];rfl⟩
 by_cases hc:∃f as,op= .call f as
 ·obtain⟨f,as,rfl⟩:=hc
  refine sym_sound hM hr ?_ hK;simp only [stepE]at h;simp only [sym];split at h<;>try (exact h.elim)
  obtain⟨e',he,rfl⟩:=h;exact .inl ⟨e',he,rfl⟩
 have hE:stepE P ⟨o.dst,g,op⟩ s (fun e'=>e'=e)=(match eff s o.dst op with|some e'=>e'.pre∧e'=e|none=>False):=by
  cases op<;>first|rfl|(exfalso;exact hp ⟨_,_,_,rfl⟩)|(exfalso;exact hc ⟨_,_,rfl⟩)
 rw [hE]at h;split at h<;>try (exact h.elim)
 rename_i e' he;obtain⟨h1,rfl⟩:=h;exact wp_of_done (k:=fun s'=>s'=s.app o.dst e') (eff_all hM hr he h1) rfl hK
theorem stepE_new {i:SI} {F:Eff→Prop} (h:stepE P i s F):∀xs,i.op≠ .newB xs:=by obtain⟨d,g,op⟩:=i;rintro xs rfl;simp [stepE,eff,val]at h
theorem stepR_wp (hM:Models C x s a w) {ops:Array Oper} {n:Nat} {o:Oper} {i:SI} (ho:ops[n]? =some o) (hr:resSI P ops o=some i) {oe:Option Eff} (h:StepR P i oe s) {K:Act→World→Prop} {Q:Exit→Act→World→Prop}
 (hK:∀a w,PostK C (fun s'=>s'=s.appO i.dst oe) a w→K a w):wpOp P ops Q n K a w:=by
 obtain⟨h1,h2,h3⟩:=resSI_inv hr;unfold wpOp;rw [ho];simp only;unfold StepR at h;rcases h3 with⟨hg,hog⟩|⟨j,b,g,hg,hog,hd⟩
 ·rw [hg]at h
  rw [wanted_none hog,if_pos rfl];cases oe with
  |none=>exact h.elim
  |some e=>exact .inl (stepE_wp hM (h1.old (stepE_new h)) h2 h hK)
 ·rw [hg]at h
  cases oe with
  |some e=>obtain⟨hlt,hv,hs⟩:=get_bool hM h.1;rw [wanted_some hog hd hv,if_pos (by simp)];exact .inl (stepE_wp hM (h1.old (stepE_new h.2)) h2 h.2 hK)
  |none=>obtain⟨hlt,hv,hs⟩:=get_bool hM h;rw [wanted_some hog hd hv,if_neg (by cases b<;>simp)];refine hK _ _ ⟨x,_, ?_,rfl⟩;rw [←h2];exact hM.put i.dst (.undef _)
theorem mem_lookup {ob:List (Nat×SObj)} (h:(ob.map Prod.fst).Nodup) {p:Nat×SObj} (hp:p∈ob):ob.lookup p.1=some p.2:=by
 induction ob with
 |nil=>cases hp
 | cons q r ih=>
  simp only [List.map_cons,List.nodup_cons]at h;rcases List.mem_cons.1 hp with rfl|hp
  ·simp [List.lookup]
  ·have:(p.1==q.1)=false:=by
    rw [beq_eq_false_iff_ne];intro e;apply h.1;rw [←e];exact List.mem_map_of_mem hp
   simp only [List.lookup,this];exact ih h.2 hp
theorem Models.eqv {t:St} (hM:Models C x s a w) (h:Eqv s t) (hn:(t.ob.map Prod.fst).Nodup):Models C x t a w:=by refine⟨h.tm ▸ hM.tm,hM.defers,hM.heap.only (fun p hp=> ?_) hn (fun n hn=>(h.tk n).2 hn)⟩;have:=mem_lookup hn hp;exact look_mem ((h.ob p.1).trans this)
section
variable {ops : Array Oper} {l : List SI} {its : List Itm} {b : List Nat}
def left (its:List Itm) (listed:Array Bool):List Itm:=its.filter fun it=> !listed.getD it.n true
theorem mem_left {listed:Array Bool} {it:Itm}:it∈left its listed↔it∈its∧listed.getD it.n true=false:=by simp [left]
theorem getD_set_same {listed:Array Bool} {i:Nat} (hi:i<listed.size):(listed.setIfInBounds i true).getD i true=true:=by simp [Array.getD,hi]
theorem getD_set {listed:Array Bool} {i j:Nat} (hi:i<listed.size):(listed.setIfInBounds i true).getD j true=if j=i then true else listed.getD j true:=by
 by_cases h:j=i
 ·subst h;rw [if_pos rfl];exact getD_set_same hi
 ·rw [if_neg h,getD_set_ne true (fun e=>h e.symm)]
theorem draw_loop (hl:mapO (resSI P ops) ops.toList=some l) (hi:its.map Itm.i=l) (hn:its.map Itm.n=List.range' 0 l.length)
 (hback:∀(i:Nat) (o:Oper),ops[i]? =some o→∀e∈o.after,Region.binds .any e=true→e.on<i)
 (hbit:∀(i:Nat) (o:Oper) (k:Nat),ops[i]? =some o→k<ops.size→(b.getD i 0).testBit k=true→∃e∈o.after,Region.binds .any e=true∧(e.on=k∨(b.getD e.on 0).testBit k=true))
 (hfree:∀p∈its,∀q∈its,p.n<q.n→(b.getD q.n 0).testBit p.n=false→Free p q)
 (hrise:∀p∈its,∀q∈its,p.n<q.n→p.f.before q.f=true)
 {sN:St} {Q:Exit→Act→World→Prop} (hQ:∀x t a w,Models C x t a w→Eqv t sN→Q .normal a w):
 ∀ (fuel:Nat) (listed:Array Bool) (x:Sit) (t:St) (a:Act) (w:World),(left its listed).length≤fuel→listed.size=ops.size→
   (∀(i:Nat) (o:Oper) (k:Nat),ops[i]? =some o→listed.getD i true=true→k<ops.size→(b.getD i 0).testBit k=true→listed.getD k true=true)→
   Models C x t a w→Numbered (left its listed) t→RunL P (left its listed) t sN→wpAny P .any ops Q fuel listed a w:=by
 obtain⟨hlen,hget⟩:=mapO_get hl;have hlen':its.length=ops.size:=by rw [←Array.length_toList,←hlen,←hi,List.length_map]
 have hnth:∀(j:Nat) (h:j<its.length),its[j].n=j:=by
  intro j h;have h1:(its.map Itm.n)[j]? =some its[j].n:=by rw [List.getElem?_map,List.getElem?_eq_getElem h];rfl
  rw [hn,List.getElem?_range' (by rw [hlen,Array.length_toList];omega)]at h1;simp at h1;omega
 have hex:∀j,j<ops.size→∃it∈its,it.n=j:=fun j hj=>⟨its[j]'(by omega),List.getElem_mem _,hnth j (by omega)⟩
 have hpw:its.Pairwise fun p q=>p.n<q.n:=by rw [List.pairwise_iff_getElem];intro i j hi' hj' hij;rw [hnth i hi',hnth j hj'];exact hij
 have hitem:∀it∈its,∃o,ops[it.n]? =some o∧resSI P ops o=some it.i∧it.n<ops.size:=by
  intro it hit;obtain⟨j,hj,rfl⟩:=List.mem_iff_getElem.1 hit;have hj2:j<ops.toList.length:=by rw [Array.length_toList];omega
  refine⟨ops.toList[j],by rw [hnth j hj,←Array.getElem?_toList,List.getElem?_eq_getElem hj2], ?_,by rw [hnth j hj];omega⟩;have:=hget j hj2 (by omega);rw [this]
  congr 1
  subst hi;simp
 have hd2:∀(listed:Array Bool),listed.size=ops.size→∀k,k<ops.size→listed.getD k false=listed.getD k true:=by intro listed hs k hk;simp [Array.getD,hs,hk]
 have done:∀(listed:Array Bool) (x:Sit) (t:St) (a:Act) (w:World),left its listed=[]→Models C x t a w→RunL P (left its listed) t sN→Region.ready .any ops listed=[]∧Q .normal a w:=by
  intro listed x t a w h0 hM hrun;constructor
  ·rw [List.eq_nil_iff_forall_not_mem]
   intro j hj;obtain⟨h1,o,h2,h3⟩:=mem_ready.1 hj;have hj':j<ops.size:=(Array.getElem?_eq_some_iff.1 h2).1;obtain⟨it,hit,rfl⟩:=hex j hj';have:it∈left its listed:=mem_left.2 ⟨hit,h1⟩;rw [h0]at this;cases this
  ·rw [h0]at hrun
   exact hQ x t a w hM hrun
 intro fuel;induction fuel with
 |zero=>intro listed x t a w hf hs hcl hM hN hrun;exact done listed x t a w (List.length_eq_zero_iff.1 (by omega)) hM hrun
 | succ fuel ih=>
  intro listed x t a w hf hs hcl hM hN hrun;constructor
  ·intro hnil
   cases hc:left its listed with
   |nil=>exact(done listed x t a w hc hM hrun).2
   | cons it r=>
    exfalso;have hin:it∈left its listed:=by rw [hc];exact List.mem_cons_self ..
    obtain⟨h1,h2⟩:=mem_left.1 hin;obtain⟨o,h3,_,h4⟩:=hitem it h1
    have:it.n∈Region.ready .any ops listed:=by
     refine mem_ready.2 ⟨h2,o,h3,fun e he hb=> ?_⟩;have hlt:=hback it.n o h3 e he hb;rw [hd2 listed hs _ (by omega)];rw [←Bool.not_eq_false];intro hfl;obtain⟨it',hit',hn'⟩:=hex e.on (by omega);have hin':it'∈left its listed:=mem_left.2 ⟨hit',by rw [hn'];exact hfl⟩;have hp:=(hpw.sublist (List.filter_sublist (p:=fun it=> !listed.getD it.n true)));change (left its listed).Pairwise _ at hp;rw [hc]at hp hin';rcases List.mem_cons.1 hin' with rfl|hin'
     ·omega
     ·have:=(List.pairwise_cons.1 hp).1 it' hin'
      omega
    rw [hnil]at this;cases this
  ·intro i hir
   obtain⟨h1,o,h2,h3⟩:=mem_ready.1 hir;have hi':i<ops.size:=(Array.getElem?_eq_some_iff.1 h2).1;obtain⟨it,hit,rfl⟩:=hex i hi';have hin:it∈left its listed:=mem_left.2 ⟨hit,h1⟩;obtain⟨pre,post,hsp⟩:=List.append_of_mem hin;obtain⟨o',ho',hres,_⟩:=hitem it hit;have hp:(left its listed).Pairwise fun p q=>p.n<q.n:=hpw.sublist List.filter_sublist
   have hrising:Rising (left its listed):=by refine List.Pairwise.imp_of_mem (fun {p q} hp1 hq1 hlt=> ?_) hp;exact hrise p (mem_left.1 hp1).1 q (mem_left.1 hq1).1 hlt
   have hpre:∀j∈pre,Free j it:=by
    intro j hj;have hj':j∈left its listed:=by rw [hsp];exact List.mem_append.2 (.inl hj)
    obtain⟨h4,h5⟩:=mem_left.1 hj'
    have hlt:j.n<it.n:=by rw [hsp]at hp;exact(List.pairwise_append.1 hp).2.2 j hj it (List.mem_cons_self ..)
    refine hfree j h4 it hit hlt ?_;rw [←Bool.not_eq_true];intro hb;obtain⟨e,he,hbd,hor⟩:=hbit it.n o j.n h2 (by omega) hb;have hon:=h3 e he hbd;have honlt:=hback it.n o h2 e he hbd;rw [hd2 listed hs _ (by omega)]at hon;rcases hor with h|h
    ·rw [h]at hon;rw [hon]at h5;cases h5
    ·have:=hcl e.on (ops[e.on]'(by omega)) j.n (by simp) hon (by omega) h
     rw [this]at h5;cases h5
   have hrun':=hrun;rw [hsp]at hrun' hN hrising;have hfr:=front hpre hN hrising hrun';obtain⟨k1,k2,k3⟩:=hfr
   have hleft:left its (listed.setIfInBounds it.n true)=pre++post:=by
    have:left its (listed.setIfInBounds it.n true)=(left its listed).filter fun q=> !decide (q.n=it.n):=by
     simp only [left,List.filter_filter];apply List.filter_congr;intro q hq;rw [getD_set (by omega)]
     by_cases h:q.n=it.n<;>simp [h]
    rw [this,hsp];rw [hsp]at hp;have hp1:=List.pairwise_append.1 hp;rw [List.filter_append,List.filter_cons];simp only [decide_true,Bool.not_true,Bool.false_eq_true,if_false]
    congr 1
    ·apply List.filter_eq_self.2
     intro q hq;have:=hp1.2.2 q hq it (List.mem_cons_self ..);simp;omega
    ·apply List.filter_eq_self.2
     intro q hq;have:=(List.pairwise_cons.1 hp1.2.1).1 q hq;simp;omega
   refine stepR_wp hM ho' hres k1 ?_;rintro a' w' ⟨x',s',hM',rfl⟩;refine ih _ x' _ a' w' ?_ ?_ ?_ hM' ?_ ?_
   ·rw [hleft]
    rw [hsp]at hf;simp only [List.length_append,List.length_cons]at hf ⊢;omega
   ·simpa using hs
   ·intro i2 o2 k2' ho2 hl2 hk2 hb2
    rw [getD_set (by omega)]at hl2 ⊢;split
    ·rfl
    ·split at hl2
     ·rename_i e1
      subst e1;obtain⟨e,he,hbd,hor⟩:=hbit it.n o2 k2' ho2 hk2 hb2;rw [h2]at ho2;cases ho2;have hon:=h3 e he hbd;have honlt:=hback it.n o h2 e he hbd;rw [hd2 listed hs _ (by omega)]at hon;rcases hor with h|h
      ·rw [←h];exact hon
      ·exact hcl e.on (ops[e.on]'(by omega)) k2' (by simp) hon hk2 h
     ·exact hcl i2 o2 k2' ho2 hl2 hk2 hb2
   ·rw [hleft]
    intro q hq n hn;have hnum:∀k∈numO it.i.dst it.o,t.Fresh k:=fun k hk=>hN it (by simp) k (by rw [←k2,num_foot];exact hk)
    have hb:n∉it.f.n∧n∉it.f.m:=by
     rcases List.mem_append.1 hq with hq|hq
     ·have hp:=(hpre q hq).pc.n1 n hn
      exact⟨hp.2.2.2.2,hp.2.2.2.1⟩
     ·have:=(List.pairwise_append.1 hrising).2.1
      exact before_spec ((List.pairwise_cons.1 this).1 q hq) n hn
    rw [←k2]at hb;refine appO_fresh hnum (hN q ?_ n hn) hb.1 hb.2;rcases List.mem_append.1 hq with hq|hq
    ·exact List.mem_append.2 (.inl hq)
    ·exact List.mem_append.2 (.inr (List.mem_cons_of_mem _ hq))
   ·rw [hleft];exact k3
end
theorem drawOK_spec {b:List Nat} {fs:List Foot} (h:drawOK b fs=true) {i j:Nat} (hj:j<fs.length) (hij:i<j):
 (fs.getD i noFoot).before (fs.getD j noFoot)=true∧((b.getD j 0).testBit i=false→(fs.getD i noFoot).clash (fs.getD j noFoot)=false):=by
 unfold drawOK at h;rw [List.all_eq_true]at h;have h1:=h j (List.mem_range.2 hj);rw [List.all_eq_true]at h1;have h2:=h1 i (List.mem_range.2 hij);rw [Bool.and_eq_true,Bool.or_eq_true]at h2;refine⟨h2.1,fun hb=> ?_⟩;rw [hb]at h2;simpa using h2.2
theorem quiet_spec {p q:Foot} (hp:p.quiet=true) (hq:q.quiet=true):p.before q=true∧p.clash q=false:=by simp only [Foot.quiet,Bool.and_eq_true,List.isEmpty_iff]at hp hq;obtain⟨⟨h1,h2⟩,h3⟩:=hp;obtain⟨⟨h4,h5⟩,h6⟩:=hq;simp [Foot.before,Foot.clash,meets,h1,h2,h3,h4,h5,h6]
theorem draw_sound {id:Nat} {ops:Array Oper} {l:List SI} (hl:mapO (resSI P ops) ops.toList=some l) (hd:drawn ops l=true) (hm:P.follows .mixedOrders=true) {k:St→Prop} {Q:Exit→Act→World→Prop} (hQ:∀a w,PostK C k a w→Q .normal a w)
 (hM:Models C x s a w) (h:vcD P (Region.before ops).toList l [] k (s.forget (dsOf l))):(Code.region id ops true).wp P Q a w:=by
 have hM0:Models C x (s.forget (dsOf l)) a w:=hM.forget;obtain⟨its,sN,e1,e2,e3,e4,e5,e6,e7⟩:=vcD_items h hM0.heap.nd;obtain⟨hlen,hget⟩:=mapO_get hl;have hsz:its.length=l.length:=by rw [←e1,List.length_map]
 have hsz2:l.length=ops.size:=by rw [hlen,Array.length_toList]
 simp only [drawn,Bool.and_eq_true,decide_eq_true_eq]at hd;obtain⟨⟨hc,ht⟩,hdst⟩:=hd
 have hnth:∀p∈its,p.n<its.length∧its[p.n]? =some p:=by
  intro p hp;obtain⟨j,hj,rfl⟩:=List.mem_iff_getElem.1 hp;have h1:(its.map Itm.n)[j]? =some its[j].n:=by rw [List.getElem?_map,List.getElem?_eq_getElem hj];rfl
  rw [e2,List.getElem?_range' (by omega)]at h1;simp at h1;have h2:its[j].n=j:=h1.symm;rw [h2];exact⟨hj,List.getElem?_eq_getElem hj⟩
 have hfoot:∀p∈its,(its.map Itm.f).getD p.n noFoot=p.f:=by intro p hp;rw [List.getD_eq_getElem?_getD,List.getElem?_map,(hnth p hp).2];rfl
 have hinst:∀p∈its,l.getD p.n ⟨none,none,.lenC 0⟩=p.i:=by intro p hp;rw [←e1,List.getD_eq_getElem?_getD,List.getElem?_map,(hnth p hp).2];rfl
 simp only [List.reverse_nil,List.nil_append,Bool.or_eq_true]at e4
 have hpair:∀p∈its,∀q∈its,p.n<q.n→p.f.before q.f=true∧(((Region.before ops).toList.getD q.n 0).testBit p.n=false→p.f.clash q.f=false):=by
  intro p hp q hq hlt;rcases e4 with e4|e4
  ·rw [List.all_eq_true]at e4
   have:=quiet_spec (e4 p.f (List.mem_map_of_mem hp)) (e4 q.f (List.mem_map_of_mem hq));exact⟨this.1,fun _=>this.2⟩
  ·have:=drawOK_spec e4 (i:=p.n) (j:=q.n) (by rw [List.length_map];exact(hnth q hq).1) hlt
   rw [hfoot p hp,hfoot q hq]at this;exact this
 have htemps:∀p∈its,∀q∈its,p.n≠q.n→((Region.before ops).toList.getD (max p.n q.n) 0).testBit (min p.n q.n)=false→∀d,p.i.dst=some d→d∉q.i.reads:=by
  intro p hp q hq hne hb d hd hr;unfold tempsOK at ht;rw [List.all_eq_true]at ht;have h1:=ht q.n (List.mem_range.2 (by rw [←hsz];exact(hnth q hq).1));rw [List.all_eq_true]at h1;have h2:=h1 p.n (List.mem_range.2 (by rw [←hsz];exact(hnth p hp).1));rw [hinst p hp,hinst q hq,hd,hb]at h2;simp only [Bool.or_eq_true,beq_iff_eq,Bool.not_eq_true',Bool.or_false]at h2;rcases h2 with h2|h2
  ·exact hne h2
  ·rw [List.contains_eq_mem]at h2
   simp only [decide_eq_false_iff_not]at h2;exact h2 hr
 have hdd:∀p∈its,∀q∈its,p.n<q.n→∀d,p.i.dst=some d→q.i.dst≠some d:=by
  intro p hp q hq hlt d h1 h2
  have hpl:l.Pairwise fun u v=>∀d,u.dst=some d→v.dst≠some d:=by rw [List.Nodup,List.pairwise_filterMap]at hdst;refine hdst.imp ?_;intro u v huv d hu hv;exact huv d hu d hv rfl
  rw [List.pairwise_iff_getElem]at hpl;have hp':=hnth p hp;have hq':=hnth q hq
  have g1:l[p.n]'(by omega)=p.i:=by have:=hinst p hp;rwa [List.getD_eq_getElem?_getD,List.getElem?_eq_getElem (by omega),Option.getD_some]at this
  have g2:l[q.n]'(by omega)=q.i:=by have:=hinst q hq;rwa [List.getD_eq_getElem?_getD,List.getElem?_eq_getElem (by omega),Option.getD_some]at this
  exact hpl p.n q.n (by omega) (by omega) hlt d (by rw [g1];exact h1) (by rw [g2];exact h2)
 have hclosed:∀(i:Nat) (o:Oper),ops[i]? =some o→(∀e∈o.after,Region.binds .any e=true→e.on<i)∧
  ∀k,k<ops.size→((Region.before ops).toList.getD i 0).testBit k=true→∃e∈o.after,Region.binds .any e=true∧(e.on=k∨((Region.before ops).toList.getD e.on 0).testBit k=true):=by
  intro i o ho;unfold closedOK at hc;rw [List.all_eq_true]at hc;have hi:i<ops.size:=(Array.getElem?_eq_some_iff.1 ho).1
  have h1:=hc (o,i) (by rw [List.mem_zipIdx_iff_getElem?];simpa using ho)
  simp only [Bool.and_eq_true,Array.all_eq_true_iff_forall_mem,List.all_eq_true,Bool.or_eq_true,Bool.not_eq_true',decide_eq_true_eq]at h1;refine⟨fun e he hb=>(h1.1 e he).resolve_left (by simp [hb]),fun k hk hb=> ?_⟩;have h2:=(h1.2 k (List.mem_range.2 hk)).resolve_left (by simp only [hb];simp);obtain⟨_,h3⟩:=h2;rw [←Array.any_toList,List.any_eq_true]at h3;obtain⟨e,he,h4⟩:=h3;rw [Array.mem_toList_iff]at he;simp only [Bool.and_eq_true,Bool.or_eq_true,beq_iff_eq]at h4;exact⟨e,he,h4.1,h4.2⟩
 refine wp_region_any hm ?_;have hM1:Models C x (s.forget (dsOf l)) a {w with drawn:=w.drawn+1}:=⟨hM0.tm,hM0.defers,hM0.heap.drawn _⟩
 have hleft:left its (Array.replicate ops.size false)=its:=by
  apply List.filter_eq_self.2;intro p hp;have:=(hnth p hp).1;have h2:p.n<ops.size:=by omega
  simp [Array.getD,h2]
 refine draw_loop (its:=its) (b:=(Region.before ops).toList) (sN:=sN) hl e1 (by simpa using e2) (fun i o ho=>(hclosed i o ho).1) (fun i o k ho hk hb=>(hclosed i o ho).2 k hk hb) ?_ (fun p hp q hq hlt=>(hpair p hp q hq hlt).1) ?_ ops.size _ x _ a _ ?_ (by simp) ?_ hM1 ?_ ?_
 ·intro p hp q hq hlt hb
  refine⟨htemps p hp q hq (by omega) ?_,htemps q hq p hp (by omega) ?_,hdd p hp q hq hlt,peace ((hpair p hp q hq hlt).2 hb)⟩
  ·rw [Nat.max_eq_right (by omega),Nat.min_eq_left (by omega)];exact hb
  ·rw [Nat.max_eq_left (by omega),Nat.min_eq_right (by omega)];exact hb
 ·intro x t a w hM heq
  exact hQ a w ⟨x,sN,hM.eqv heq e6,e7⟩
 ·rw [hleft];omega
 ·intro i o k ho hl _ _
  have hi:i<ops.size:=(Array.getElem?_eq_some_iff.1 ho).1;simp [Array.getD,hi]at hl
 ·rw [hleft]
  intro it hit n hn;exact fresh_forget (.inr (e3 it hit n hn))
 ·rw [hleft];exact e5
end Go.Sy
namespace Go.Sy
variable [LaidData]
variable {P : Program} {C : Ctx} {x : Sit} {s : St} {a : Act} {w : World}
theorem least (p:Nat→Prop) (h:∃n,p n):∃n,p n∧∀m,p m→n≤m:=by
 obtain⟨n,hn⟩:=h;induction n using Nat.strongRecOn with
 |_ n ih=>
  by_cases hex:∃m,m<n∧p m
  ·obtain⟨m,hm,hpm⟩:=hex;exact ih m hm hpm
  ·exact⟨n,hn,fun m hpm=>Nat.le_of_not_lt fun hlt=>hex ⟨m,hlt,hpm⟩⟩
def resV (P:Program) (s:St):List ResultVar→Option (Prop×List SV)
 |[]=>some (True,[])
 | .tmp t::r=>match resV P s r with
  |some (p,vs)=>some (p,s.get t::vs)
  |none=>none
 | .cell t ty::r=>match szOf P ty,isAg P ty,resV P s r with
  |some n,some ag,some (p,vs)=>match (if ag||n==1 then loadSV s n ag (s.get t)else none)with
   |some (q,v)=>some (q∧p,v::vs)
   |none=>none
  |_,_,_=>none
def oneSV:List SV→SV
 |[v]=>v
 |vs=> .tup vs
theorem loadVar_sound (hM:Models C x s a w) {t:TypeId} {n:Nat} {ag:Bool} {u c:SV} {v:Value} {p:Prop} (hn:szOf P t=some n) (hag:isAg P t=some ag) (hu:Rep x u v) (h:(if ag||n==1 then loadSV s n ag u else none)=some (p,c)) (hp:p):
 ∃ad r,v= .pointer (some ad)∧(loadVar t ad).run P w= .ok r w∧Rep x c r:=by
 split at h<;>try (cases h;done)
 rename_i h1;obtain⟨b,off,cs,rfl,rfl,hc⟩:=loadSV_sound hM hu h hp;obtain⟨r,hr,hrep⟩:=mkLoad_rep (P:=P) hc hn hag h1;exact⟨_,r,rfl,hr,hrep⟩
def resM (tmps:Array Value):ResultVar→Sem Value
 | .tmp t=>pure (tmps.getD t Go.undef)
 | .cell a t=>do loadVar t (←asAddr (tmps.getD a Go.undef))
theorem results_eq (fn:Func) (tmps:Array Value):results fn tmps=(do let vs←fn.results.mapM (resM tmps);pure (if h:vs.size=1 then vs[0]else .tuple vs)):=by
 unfold results
 congr 1
theorem results_sound (hM:Models C x s a w):∀ {rs:List ResultVar} {p:Prop} {vs:List SV},resV P s rs=some (p,vs)→p→
 ∃us,(rs.mapM (resM a.tmps)).run P w= .ok us w∧RepL x vs us:=by
 intro rs;induction rs with
 |nil=>intro p vs h _;simp only [resV,Option.some.injEq,Prod.mk.injEq]at h;obtain⟨_,rfl⟩:=h;exact⟨[],rfl,rfl,fun i hi=>by simp at hi⟩
 | cons r rs ih=>
  intro p vs h hp
  have cons:∀ {c:SV} {u:Value} {cs:List SV} {us:List Value},Rep x c u→RepL x cs us→RepL x (c::cs) (u::us):=by
   intro c u cs us h1 h2
   exact⟨by simp [h2.1],fun i hi=>by
    cases i with
    |zero=>exact h1
    |succ i=>simpa using h2.2 i (by simpa using hi)⟩
  cases r with
  |tmp t=>
   simp only [resV]at h;split at h<;>try (cases h;done)
   rename_i q vs' hq;simp only [Option.some.injEq,Prod.mk.injEq]at h;obtain⟨rfl,rfl⟩:=h;obtain⟨us,hrun,hl⟩:=ih hq hp;refine⟨_, ?_,cons (hM.slot t) hl⟩;simp only [List.mapM_cons,resM,Sem.run_bind,Sem.run_pure,Result.andThen_ok,hrun]
  |cell t ty=>
   simp only [resV]at h;split at h<;>try (cases h;done)
   rename_i n ag q vs' hn hag hq;split at h<;>try (cases h;done)
   rename_i q' v' hv;simp only [Option.some.injEq,Prod.mk.injEq]at h;obtain⟨rfl,rfl⟩:=h;obtain⟨us,hrun,hl⟩:=ih hq hp.2;obtain⟨ad,r,hadr,hlr,hrep⟩:=loadVar_sound hM hn hag (hM.slot t) hv hp.1;refine⟨_, ?_,cons hrep hl⟩;have hA:(asAddr (a.tmps.getD t Go.undef)).run P w= .ok ad w:=by rw [hadr];rfl
   simp only [List.mapM_cons,resM,Sem.run_bind,hA,Sem.run_pure,Result.andThen_ok,hlr,hrun]
end Go.Sy
namespace Go.Sy
variable [LaidData]
variable {P : Program}
end Go.Sy
namespace Go.Sy
variable [LaidData]
variable {P : Program} {C : Ctx} {x : Sit} {s : St} {a : Act} {w : World}
def leT (t:Nat) (a b:SV):Prop:=∀(x:Sit) (v:Value),Rep x a v→Rep (x.newT t 0 0 0) b v
theorem leT.keep (t:Nat) (a:SV):leT t a (a.purge t (t+1)):=fun x v h=>h.mono (x:=x) (x':=x.newT t 0 0 0) (lo:=t) (hi:=t+1) (fun _ _ _ h=>h) (fun _ _=>rfl) (Sit.newT_ne x t 0 0 0)
theorem leT.le {t:Nat} {a b:SV} (h:SVle a b) (hi:t∉b.ids) (ht:t∉b.toks):leT t a b:=fun x v hv=>by have:=leT.keep t b x v (h x v hv);rwa [purge_none b hi ht]at this
theorem leT.undef (t:Nat) (a:SV):leT t a .undef:=fun _ v _=> .undef v
theorem leT.lst (t sz:Nat) (xs:List (List SV)):leT t (.lst sz xs .clip) (.lst sz xs (.id t)):=fun x v hv=>by obtain⟨b,cap,he,_,hD,hsp⟩:=hv.lst_inv;obtain⟨a',n',he'⟩:=hsp;exact .dat _ _ (hD.tok (.lst sz xs (.id t)) (.inr ⟨sz,xs,_,_,rfl,rfl⟩)) ⟨a',n',n',he',.inl rfl⟩
theorem leT.byt (t:Nat) (l:List UInt8):leT t (.byt l .clip) (.byt l (.id t)):=fun x v hv=>by obtain⟨b,cap,he,_,hD,hsp⟩:=hv.byt_inv;obtain⟨a',n',he'⟩:=hsp;exact .dat _ _ (hD.tok (.byt l (.id t)) (.inl ⟨l,_,_,rfl,rfl⟩)) ⟨a',n',n',he',.inl rfl⟩
def leP (o sz:Nat) (xs:List (List SV)) (a b:SV):Prop:=∀(x x':Sit) (v:Value),x'.β=x.β→x'.τ=x.τ→(∀b i u,x.G b i=some u→x'.G b i=some u)→
 (∀k,k<xs.length*sz→∃u,x'.G (x.β o) k=some u∧RepD x'.G ((xs.getD (k/sz) []).getD (k % sz) .undef) u)→Rep x a v→Rep x' b v
theorem leP.le {o sz:Nat} {xs:List (List SV)} {a b:SV} (h:SVle a b):leP o sz xs a b:=fun x x' v hβ hτ hG _ hv=>(h x v hv).grow hG hβ hτ
theorem leP.undef (o sz:Nat) (xs:List (List SV)) (a:SV):leP o sz xs a .undef:=fun _ _ v _ _ _ _ _=> .undef v
theorem leP.psl {o sz off n:Nat} {cap:Option Nat} {xs:List (List SV)} (hb:off+n≤xs.length) (hrows:∀y∈xs,y.length=sz):leP o sz xs (.psl o sz off n cap) (.lst sz ((xs.drop off).take n) .no):=by
 intro x x' v hβ hτ hG hc hv;obtain⟨cap,hnc,_,off',he,hoff⟩:=hv.psl_inv;rw [he];have hlen:((xs.drop off).take n).length=n:=by simp;omega
 refine .dat _ _ ?_ trivial
 by_cases hn:n=0
 ·subst hn
  refine .lst _ _ _ _ _ _ _ (fun _ _=>Go.undef) hlen.symm hnc (fun i hi=>by omega) (fun i j hi=>by omega) (fun i j hi=>by omega)
 ·have hoff':off'=off*sz:=by omega
  have hrow:∀i,i<n→(((xs.drop off).take n).getD i [])=xs.getD (off+i) []:=fun i hi=>by simp only [List.getD_eq_getElem?_getD,List.getElem?_take,if_pos hi,List.getElem?_drop]
  have hl:∀i,i<n→(xs.getD (off+i) []).length=sz:=fun i hi=>by rw [List.getD_eq_getElem?_getD,List.getElem?_eq_getElem (by omega)];exact hrows _ (List.getElem_mem _)
  have hk:∀i j,i<n→j<sz→off*sz+i*sz+j<xs.length*sz:=fun i j hi hj=>by have:=Nat.mul_le_mul_right sz (show off+i+1≤xs.length by omega);simp only [Nat.add_mul,Nat.one_mul]at this;omega
  have hdm:∀i j,j<sz→(off*sz+i*sz+j)/sz=off+i∧(off*sz+i*sz+j) % sz=j:=fun i j hj=>by rw [←Nat.add_mul,Nat.mul_comm,Nat.mul_add_div (by omega),Nat.div_eq_of_lt hj,Nat.add_zero];exact⟨rfl,by rw [Nat.mul_add_mod,Nat.mod_eq_of_lt hj]⟩
  refine .lst _ _ _ _ _ _ _ (fun i j=>(x'.G (x.β o) (off*sz+i*sz+j)).getD Go.undef) hlen.symm hnc (fun i hi=>by rw [hrow i hi];exact hl i hi) (fun i j hi hj=> ?_) (fun i j hi hj=> ?_)
  ·obtain⟨u,hu,_⟩:=hc _ (hk i j hi hj)
   rw [hoff',hu];rfl
  ·obtain⟨u,hu,hr⟩:=hc _ (hk i j hi hj)
   rw [hu,hrow i hi];rw [(hdm i j hj).1,(hdm i j hj).2]at hr;exact hr
end Go.Sy
namespace Go.Sy
variable [LaidData]
structure CSt where
 tm:List (Nat×SV)
 ob:List (Nat×SObj)
 tk:List Nat
def getT:List (Nat×SV)→Nat→SV
 |[],_=> .undef
 |p::r,n=>if p.1=n then p.2 else getT r n
def putT:List (Nat×SV)→Nat→SV→List (Nat×SV)
 |[],n,v=> [(n,v)]
 |p::r,n,v=>if n<p.1 then(n,v)::p::r else if n=p.1 then(n,v)::r else p::putT r n v
def delT:List (Nat×SV)→List Nat→List (Nat×SV)
 |[],_=> []
 |p::r,l=>if l.contains p.1 then delT r l else p::delT r l
def getO:List (Nat×SObj)→Nat→Option SObj
 |[],_=>none
 |p::r,n=>if p.1=n then some p.2 else getO r n
def putO:List (Nat×SObj)→Nat→SObj→List (Nat×SObj)
 |[],n,v=> [(n,v)]
 |p::r,n,v=>if n<p.1 then(n,v)::p::r else if n=p.1 then(n,v)::r else p::putO r n v
def delO:List (Nat×SObj)→Nat→List (Nat×SObj)
 |[],_=> []
 |p::r,n=>if p.1=n then delO r n else p::delO r n
def putK:List Nat→Nat→List Nat
 |[],n=> [n]
 |p::r,n=>if n<p then n::p::r else if n=p then p::r else p::putK r n
def purgeT (lo hi:Nat):List (Nat×SV)→List (Nat×SV)
 |[]=> []
 |p::r=>(p.1,p.2.purge lo hi)::purgeT lo hi r
def CSt.get (c:CSt) (n:Nat):SV:=getT c.tm n
def CSt.ev (c:CSt):Arg→SV
 | .t n=>c.get n
 | .c v=>v
 | .f g=> .fn g [] []
def evL (c:CSt):List Arg→List SV
 |[]=> []
 |a::r=>c.ev a::evL c r
def CSt.put (c:CSt) (d:Option Nat) (v:SV):CSt:=
 match d with
 |some d=>⟨putT c.tm d v,c.ob,c.tk⟩
 |none=>c
def CSt.look (c:CSt) (o:Nat):Option SObj:=getO c.ob o
def CSt.purge (c:CSt) (lo hi:Nat):CSt:=⟨purgeT lo hi c.tm,purgeO lo hi c.ob,dropT lo hi c.tk⟩
def CSt.kill (c:CSt) (l:List Nat):CSt:=
 match l with
 |[]=>c
 |l=>⟨delT c.tm l,c.ob,c.tk⟩
def gd {α:Type} (p:Prop) [Decidable p] (v:α):Option α:=if p then some v else none
def ibinC (op:BinOp) (k:IntKind) (a b:Int):Option SV:=
 match op with
 | .add=>some (.int k (k.wrap (a+b)))
 | .sub=>some (.int k (k.wrap (a-b)))
 | .mul=>some (.int k (k.wrap (a*b)))
 | .quo=>gd (b≠0) (.int k (k.wrap (a.tdiv b)))
 | .rem=>gd (b≠0) (.int k (a.tmod b))
 | .and=>some (.int k (ibits .and k a b))
 | .or=>some (.int k (ibits .or k a b))
 | .xor=>some (.int k (ibits .xor k a b))
 | .andNot=>some (.int k (ibits .andNot k a b))
 | .shl=>gd (0≤b) (.int k (k.wrap (a*2^(min b.toNat k.bits))))
 | .shr=>gd (0≤b) (.int k (a.fdiv (2^(min b.toNat k.bits))))
 | .eql=>some (.bool (decide (a=b)))
 | .neq=>some (.bool (decide (a≠b)))
 | .lss=>some (.bool (decide (a<b)))
 | .leq=>some (.bool (decide (a≤b)))
 | .gtr=>some (.bool (decide (b<a)))
 | .geq=>some (.bool (decide (b≤a)))
def u8binC (op:BinOp) (a b:UInt8):Option SV:=
 match op with
 | .add=>some (.u8 (a+b))
 | .sub=>some (.u8 (a-b))
 | .mul=>some (.u8 (a*b))
 | .quo=>gd (b≠0) (.u8 (a/b))
 | .rem=>gd (b≠0) (.u8 (a % b))
 | .and=>some (.u8 (a&&&b))
 | .or=>some (.u8 (a|||b))
 | .xor=>some (.u8 (a^^^b))
 | .andNot=>some (.u8 (a&&& ~~~b))
 | .eql=>some (.bool (decide (a=b)))
 | .neq=>some (.bool (decide (a≠b)))
 | .lss=>some (.bool (decide (a<b)))
 | .leq=>some (.bool (decide (a≤b)))
 | .gtr=>some (.bool (decide (b<a)))
 | .geq=>some (.bool (decide (b≤a)))
 |_=>none
def sbinC (op:BinOp) (a b:List UInt8):Option SV:=
 match op with
 | .add=>gd (a.length+b.length≤9223372036854775807) (.str (a++b))
 | .eql=>some (.bool (decide (a=b)))
 | .neq=>some (.bool (decide (a≠b)))
 | .lss=>some (.bool (Op.bytesLess a b))
 | .leq=>some (.bool (Op.bytesLess a b||decide (a=b)))
 | .gtr=>some (.bool (!(Op.bytesLess a b||decide (a=b))))
 | .geq=>some (.bool (!Op.bytesLess a b))
 |_=>none
def isShift:BinOp→Bool
 | .shl| .shr=>true
 |_=>false
def binC (op:BinOp):SV→SV→Option SV
 | .int k a,.int k' b=>if isShift op=true∨k=k' then ibinC op k a b else none
 | .u8 a,.u8 b=>u8binC op a b
 | .str a,.str b=>sbinC op a b
 |_,_=>none
def loadC (c:CSt) (n:Nat) (ag:Bool):SV→Option SV
 | .pp cs=>gd (n≤cs.length) (mkLoad ag n (cs.map SV.data))
 | .ptr o off=>match c.look o with
  |some (.rc cs)=>gd (off+n≤cs.length) (mkLoad ag n (cs.drop off))
  |some (.arr _ xs)=>gd (off=0∧n≤xs.flatten.length) (mkLoad ag n (xs.flatten.map SV.data))
  |some (.bar l)=>gd (off=0∧n≤l.length) (mkLoad ag n (l.map .u8))
  |none=>none
 | .ap o sz i j=>match c.look o with
  |some (.arr sz' xs)=>gd (sz=sz'∧i<xs.length∧j+n≤sz) (mkLoad ag n (((xs.getD i []).drop j).map SV.data))
  |some (.bar l)=>gd (sz=1∧j=0∧n=1∧i<l.length) (mkLoad ag n [.u8 (l.getD i 0)])
  |_=>none
 |_=>none
def optC (c:CSt) (x:Option Arg) (dflt:Int):Option Int:=
 match x with
 |none=>some dflt
 |some a=>(c.ev a).num
def slcC (c:CSt) (sz:Nat) (x:SV) (lo hi mx:Option Arg):Option SV:=
 match x with
 | .byt l t=>
  match optC c lo 0,optC c hi l.length,optC c mx l.length with
  |some a,some b,some m=>gd (0≤a∧a≤b∧b≤m∧m≤l.length∧sz=1∧(mx.isSome=true→b=m)) (.byt ((l.take b.toNat).drop a.toNat) (slcTok t hi.isNone mx.isSome))
  |_,_,_=>none
 | .lst sz' l t=>
  match optC c lo 0,optC c hi l.length,optC c mx l.length with
  |some a,some b,some m=>gd (0≤a∧a≤b∧b≤m∧m≤l.length∧sz=sz'∧(mx.isSome=true→b=m)) (.lst sz ((l.take b.toNat).drop a.toNat) (slcTok t hi.isNone mx.isSome))
  |_,_,_=>none
 | .psl o sz' off n none=>
  match optC c lo 0,optC c hi n,mx with
  |some a,some b,none=>gd (0≤a∧a≤b∧b≤n∧sz=sz') (.psl o sz (off+a.toNat) (b.toNat-a.toNat) none)
  |_,_,_=>none
 | .psl o sz' off n (some cap)=>
  match optC c lo 0,optC c hi n,optC c mx cap with
  |some a,some b,some m=>gd (0≤a∧a≤b∧b≤m∧m≤cap∧sz=sz') (.psl o sz (off+a.toNat) (b.toNat-a.toNat) (some (m.toNat-a.toNat)))
  |_,_,_=>none
 |_=>none
def bytesC (c:CSt):SV→Option (List UInt8)
 | .byt l _=>some l
 | .str l=>some l
 | .psl o sz off n _=>match c.look o with
  |some (.bar l)=>gd (sz=1∧off+n≤l.length) ((l.drop off).take n)
  |_=>none
 |_=>none
def rowsC (c:CSt) (sz:Nat):SV→Option (List (List SV))
 | .lst sz' xs _=>gd (sz=sz') xs
 | .psl o sz' off n _=>match c.look o with
  |some (.arr sz'' xs)=>gd (sz=sz'∧sz=sz''∧off+n≤xs.length) ((xs.drop off).take n)
  |_=>none
 |_=>none
def psC (c:CSt):List (Nat×Nat×Arg)→List (Nat×Nat×SV)
 |[]=> []
 |(o,n,x)::r=>(o,n,c.ev x)::psC c r
def iteV (t:Bool) (a b:SV):SV:=if t=true then a else b
def valC (c:CSt):SOp→Option SV
 | .mov x=>some (c.ev x)
 | .build z ps=>(fillSV z (psC c ps)).map .agg
 | .lit sz xs=>(rows sz (evL c xs)).map fun r=> .lst sz r .clip
 | .litB xs=>(toB (evL c xs)).map fun r=> .byt r .clip
 | .load n ag a=>loadC c n ag (c.ev a)
 | .nchk x=>match c.ev x with
  | .ptr o off=>some (.ptr o off)
  | .ap o sz i j=>some (.ap o sz i j)
  | .pp cs=>some (.pp cs)
  | .fn f a b=>some (.fn f a b)
  |_=>none
 | .bin op x y=>binC op (c.ev x) (c.ev y)
 | .beq ne x y=>match c.ev x,c.ev y with
  | .bool a,.bool b=>some (.bool (if ne then decide (a≠b)else decide (a=b)))
  |_,_=>none
 | .eqS ne ts x y=>match c.ev x,c.ev y with
  | .agg cs,.agg ds=>(eqCells ts cs ds).map fun b=> .bool (if ne then !b else b)
  |_,_=>none
 | .un op x=>unSV op (c.ev x)
 | .toInt k x=>toIntSV k (c.ev x)
 | .toStr x=>match c.ev x with| .str l=>some (.str l)|_=>none
 | .slid _=>none
 | .newB _=>none
 | .isni ne x=>match c.ev x with| .nili=>some (.bool (!ne))|_=>none
 | .s2b x=>match c.ev x with| .str l=>some (.byt l .no)|_=>none
 | .b2s x=>match c.ev x with
  | .str _=>none
  |v=>(bytesC c v).map .str
 | .mkfn f a b=>some (.fn f (evL c a) (evL c b))
 | .slcS x lo hi=>match c.ev x with
  | .str l=>match optC c lo 0,optC c hi l.length with
   |some a,some b=>gd (0≤a∧a≤b∧b≤l.length) (.str ((l.take b.toNat).drop a.toNat))
   |_,_=>none
  |_=>none
 | .slcL sz x lo hi mx=>slcC c sz (c.ev x) lo hi mx
 | .slcA len sz x lo hi mx=>match c.ev x with
  | .ptr o off=>if off=0 then slcC c sz (.psl o sz 0 len (some len)) lo hi mx else none
  |_=>none
 | .faddr off x=>match c.ev x with
  | .ptr o k=>some (.ptr o (k+off))
  | .ap o sz i j=>some (.ap o sz i (j+off))
  | .pp cs=>some (.pp (cs.drop off))
  |_=>none
 | .fld off n ag x=>match c.ev x with
  | .agg cs=>gd (off+n≤cs.length) (mkLoad ag n (cs.drop off))
  |_=>none
 | .iaddrL sz x i=>match c.ev x,(c.ev i).num with
  | .byt l _,some n=>gd (0≤n∧n<l.length∧sz=1) (.pp [.u8 (l.getD n.toNat 0)])
  | .lst sz' xs _,some n=>gd (0≤n∧n<xs.length∧sz=sz') (.pp (xs.getD n.toNat []))
  | .psl o sz' off k _,some n=>gd (0≤n∧n<k∧sz=sz') (.ap o sz (off+n.toNat) 0)
  |_,_=>none
 | .iaddrA len sz x i=>match c.ev x,(c.ev i).num with
  | .ptr o off,some n=>match c.look o with
   |some (.rc _)=>gd (0≤n∧n<len) (.ptr o (off+n.toNat*sz))
   |some _=>gd (off=0∧0≤n∧n<len) (.ap o sz n.toNat 0)
   |none=>none
  | .pp cs,some n=>gd (0≤n∧n<len∧cs.length=len*sz) (.pp (cs.drop (n.toNat*sz)))
  |_,_=>none
 | .idxA len sz ag x i=>match c.ev x,(c.ev i).num with
  | .agg cs,some n=>gd (0≤n∧n<len∧cs.length=len*sz) (mkLoad ag sz (cs.drop (n.toNat*sz)))
  |_,_=>none
 | .idxS x i=>match c.ev x,(c.ev i).num with
  | .str l,some n=>gd (0≤n∧n<l.length) (.u8 (l.getD n.toNat 0))
  |_,_=>none
 | .ext x i=>match c.ev x with
  | .tup vs=>gd (i<vs.length) (vs.getD i .undef)
  |_=>none
 | .len b x=>(lenSV b (c.ev x)).map fun n=> .int .i64 (n:Nat)
 | .lenC n=>some (.int .i64 n)
 | .cap x=>match c.ev x with
  | .psl _ _ _ _ (some m)=>some (.int .i64 m)
  | .byt l t=>if t= .clip then some (.int .i64 l.length)else none
  | .lst _ xs t=>if t= .clip then some (.int .i64 xs.length)else none
  |_=>none
 | .mini x y=>match c.ev x,c.ev y with
  | .int k a,.int k' b=>if k=k' then some (.int k (if b<a then b else a))else none
  |_,_=>none
 | .maxi x y=>match c.ev x,c.ev y with
  | .int k a,.int k' b=>if k=k' then some (.int k (if a<b then b else a))else none
  |_,_=>none
 |_=>none
structure CEff where
 val:SV
 wr:List (Nat×SObj):=[]
 new:Option SObj:=none
 eat:Tok:= .no
 tok:Bool:=false
def Arg.isT:Arg→Bool
 | .t _=>true
 |_=>false
def SObj.wf:SObj→Bool
 | .arr sz xs=>xs.all fun x=>decide (x.length=sz)
 |_=>true
def storeC (c:CSt) (n:Nat) (v:List SV):SV→Option CEff
 | .ptr o off=>match c.look o with
  |some (.rc cs)=>gd (off+n≤cs.length∧v.length=n∧v.all SV.one=true) {val:= .undef,wr:=[(o,.rc (setCells cs off v))]}
  |some (.arr sz xs)=>gd (off=0∧n=xs.length*sz∧v.length=n∧v.all SV.isData=true) {val:= .undef,wr:=[(o,.arr sz (chunk sz xs.length (v.map SV.data)))]}
  |some (.bar l)=>match toB v with
   |some l'=>gd (off=0∧n=l.length∧l'.length=n) {val:= .undef,wr:=[(o,.bar l')]}
   |none=>none
  |_=>none
 | .ap o sz i j=>match c.look o with
  |some (.arr sz' xs)=>gd (sz=sz'∧i<xs.length∧j+n≤sz∧v.length=n∧v.all SV.isData=true) {val:= .undef,wr:=[(o,.arr sz' (setRow sz xs i j n (v.map SV.data)))]}
  |some (.bar l)=>match v with
   |[.u8 b]=>gd (sz=1∧j=0∧n=1∧i<l.length) {val:= .undef,wr:=[(o,.bar (l.set i b))]}
   |_=>none
  |_=>none
 |_=>none
def Tok.readyC (c:CSt):Tok→Bool
 | .no=>false
 | .clip=>true
 | .id t=>c.tk.contains t
def effC (c:CSt) (d:Option Nat):SOp→Option CEff
 | .new o=>match d with
  |some d=>gd (o.wf=true) {val:= .ptr (d+100) 0,new:=some o}
  |none=>none
 | .box x=>match d with
  |some d=>some {val:= .ptr (d+100) 0,new:=some (.rc (c.ev x).cells)}
  |none=>none
 | .mk z bytes n m=>match d,c.ev n,c.ev m with
  |some d,.int _ n,.int _ m=>gd (0≤n∧n≤m∧bytes*m≤140737488355328∧m≤9223372036854775807) {val:= .psl (d+100) z.length 0 n.toNat (some m.toNat),new:=some (.arr z.length (List.replicate m.toNat z))}
  |_,_,_=>none
 | .mkB n m=>match d,c.ev n,c.ev m with
  |some d,.int _ n,.int _ m=>gd (0≤n∧n≤m∧m≤140737488355328) {val:= .psl (d+100) 1 0 n.toNat (some m.toNat),new:=some (.bar (List.replicate m.toNat 0))}
  |_,_,_=>none
 | .store n a x=>if(c.ev x).isDef=true then storeC c n (c.ev x).cells (c.ev a)else none
 | .app z bytes x y=>match d with
  | some d=>match c.ev x with
   | .byt l t=>(bytesC c (c.ev y)).bind fun l'=>gd (z.length=1∧bytes=1∧t.readyC c=true∧l.length+l'.length≤140737488355328) {val:= .byt (l++l') (.id (d+100)),eat:=t,tok:=true}
   | .lst sz' l t=>(rowsC c z.length (c.ev y)).bind fun l'=>gd (z.length=sz'∧t.readyC c=true∧(l.length+l'.length)*bytes≤140737488355328) {val:= .lst z.length (l++l') (.id (d+100)),eat:=t,tok:=true}
   |_=>none
  |none=>none
 | .cpy sz x y=>match c.ev x with
  | .psl o sz' off n _=>match c.look o with
   |some (.bar l)=>(bytesC c (c.ev y)).bind fun l'=>gd (sz=1∧sz'=1∧off+n≤l.length) {val:= .int .i64 (min l'.length n:Nat),wr:=[(o,.bar (l.take off++l'.take n++l.drop (off+(l'.take n).length)))]}
   |some (.arr sz'' xs)=>(rowsC c sz (c.ev y)).bind fun l'=>gd (y.isT=true∧sz=sz'∧sz=sz''∧off+n≤xs.length) {val:= .int .i64 (min l'.length n:Nat),wr:=[(o,.arr sz (xs.take off++l'.take n++xs.drop (off+(l'.take n).length)))]}
   |_=>none
  |_=>none
 | .pick k a b=>match c.ev k with
  | .bool t=>some {val:=iteV t (c.ev a) (c.ev b)}
  |_=>none
 | .call _ _=>none
 | .isnil ne x=>match c.ev x with
  | .byt l _=>gd (l≠ []) {val:= .bool ne}
  | .lst _ xs _=>gd (xs≠ []) {val:= .bool ne}
  | .psl _ _ _ _ _=>some {val:= .bool ne}
  |_=>none
 |so=>match valC c so with
  |some v=>some {val:=v}
  |none=>none
def CSt.wr (c:CSt):List (Nat×SObj)→CSt
 |[]=>c
 |p::r=>CSt.wr ⟨c.tm,putO c.ob p.1 p.2,c.tk⟩ r
def CSt.app (c:CSt) (d:Option Nat) (e:CEff):CSt:=
 match e.new,e.tok with
 |some o,_=>CSt.put ⟨purgeT (d.getD 0+100) (d.getD 0+101) c.tm,putO (purgeO (d.getD 0+100) (d.getD 0+101) c.ob) (d.getD 0+100) (o.purge (d.getD 0+100) (d.getD 0+101)),dropT (d.getD 0+100) (d.getD 0+101) c.tk⟩ d e.val
 |none,true=>CSt.put ⟨purgeT (d.getD 0+100) (d.getD 0+101) c.tm,purgeO (d.getD 0+100) (d.getD 0+101) c.ob,putK (dropT (d.getD 0+100) (d.getD 0+101) (e.eat.eat c.tk)) (d.getD 0+100)⟩ d e.val
 |none,false=>(c.wr e.wr).put d e.val
end Go.Sy
