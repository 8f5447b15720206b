/- An engine that steps through Go code with symbolic values: sound by proof. No condition. -/
import Derived.Test.YtdafipacemgcoaaGreatDoorEc
set_option linter.unusedVariables false
set_option linter.unusedSimpArgs false
set_option linter.unnecessarySimpa false
set_option linter.unusedSectionVars false
namespace Go.Sy
variable [LaidData]
mutual
def SV.bare:SV→SV
 | .byt l _=> .byt l .no
 | .lst sz xs _=> .lst sz xs .no
 | .agg cs=> .agg (SV.bareL cs)
 | .tup cs=> .tup (SV.bareL cs)
 | .fn f a b=> .fn f (SV.bareL a) (SV.bareL b)
 |v=>v
def SV.bareL:List SV→List SV
 |[]=> []
 |v::r=>v.bare::SV.bareL r
end
def pubSl (obj:SObj) (sz off n:Nat) (cap:Option Nat):SV:=
 match obj with
 | .arr sz' xs=>if sz'=sz∧off+n≤xs.length then .lst sz ((xs.drop off).take n) (if cap=some n then .clip else .no)else .undef
 | .bar l=>if sz=1∧off+n≤l.length then .byt ((l.drop off).take n) (if cap=some n then .clip else .no)else .undef
 | .rc _=> .undef
mutual
def SV.pub (o:Nat) (obj:SObj):SV→SV
 | .psl o' sz off n cap=>if o'=o then pubSl obj sz off n cap else .psl o' sz off n cap
 | .ptr o' off=>if o'=o then .undef else .ptr o' off
 | .ap o' sz i j=>if o'=o then .undef else .ap o' sz i j
 | .agg cs=> .agg (SV.pubL o obj cs)
 | .tup cs=> .tup (SV.pubL o obj cs)
 | .fn f a b=> .fn f (SV.pubL o obj a) (SV.pubL o obj b)
 |v=>v
def SV.pubL (o:Nat) (obj:SObj):List SV→List SV
 |[]=> []
 |v::r=>v.pub o obj::SV.pubL o obj r
end
def pubT (o:Nat) (obj:SObj):List (Nat×SV)→List (Nat×SV)
 |[]=> []
 |p::r=>(p.1,p.2.pub o obj)::pubT o obj r
def obPub (o:Nat) (obj:SObj):SObj→SObj
 | .rc cs=> .rc (SV.pubL o obj cs)
 |ob=>ob
def pubO (o:Nat) (obj:SObj):List (Nat×SObj)→List (Nat×SObj)
 |[]=> []
 |p::r=>if p.1=o then pubO o obj r else(p.1,obPub o obj p.2)::pubO o obj r
def CSt.publish (c:CSt) (o:Nat) (vs:List SV):CSt×List SV:=
 match c.look o with
 |some (.arr sz xs)=>(⟨pubT o (.arr sz xs) c.tm,pubO o (.arr sz xs) c.ob,c.tk⟩,SV.pubL o (.arr sz xs) vs)
 |some (.bar l)=>(⟨pubT o (.bar l) c.tm,pubO o (.bar l) c.ob,c.tk⟩,SV.pubL o (.bar l) vs)
 |_=>(c,vs)
def slId1:SV→List Nat
 | .psl o _ _ _ _=> [o]
 |_=> []
def slAgg:List SV→List Nat
 |[]=> []
 |v::r=>slId1 v++slAgg r
def slId (raw:List Nat) (i:Nat):SV→List Nat
 | .psl o _ _ _ _=>if raw.contains i=true then []else [o]
 | .agg cs=>if raw.contains i=true then []else slAgg cs
 |_=> []
def slIds (raw:List Nat):Nat→List SV→List Nat
 |_,[]=> []
 |i,v::r=>slId raw i v++slIds raw (i+1) r
def pubAll (c:CSt) (vs:List SV):List Nat→CSt×List SV
 |[]=>(c,vs)
 |o::r=>pubAll (c.publish o vs).1 (c.publish o vs).2 r
def tokV (tk:List Nat) (j:Nat):SV→SV×List (Option Nat)
 | .byt l .no=>(.byt l .no,[])
 | .byt l .clip=>(.byt l (.id j),[none])
 | .byt l (.id t)=>if tk.contains t=true then(.byt l (.id j),[some t])else(.byt l .no,[])
 | .lst sz xs .no=>(.lst sz xs .no,[])
 | .lst sz xs .clip=>(.lst sz xs (.id j),[none])
 | .lst sz xs (.id t)=>if tk.contains t=true then(.lst sz xs (.id j),[some t])else(.lst sz xs .no,[])
 |v=>(v.bare,[])
def tokL (tk:List Nat) (own:List Nat):Nat→Nat→List SV→List SV×List (Option Nat)
 |_,_,[]=>([],[])
 | j,i,v::r=>
  if own.contains i=true then
   ((tokV tk j v).1::(tokL tk own (j+(tokV tk j v).2.length) (i+1) r).1,(tokV tk j v).2++(tokL tk own (j+(tokV tk j v).2.length) (i+1) r).2)
  else(v.bare::(tokL tk own j (i+1) r).1,(tokL tk own j (i+1) r).2)
def tokC (tk:List Nat):Nat→List SV→List SV×List (Option Nat)
 |_,[]=>([],[])
 |j,v::r=>((tokV tk j v).1::(tokC tk (j+(tokV tk j v).2.length) r).1,(tokV tk j v).2++(tokC tk (j+(tokV tk j v).2.length) r).2)
def tokOb (tk:List Nat) (j:Nat):SObj→SObj×List (Option Nat)
 | .rc cs=>(.rc (tokC tk j cs).1,(tokC tk j cs).2)
 |o=>(o,[])
def tokObs (tk:List Nat):Nat→List SObj→List SObj×List (Option Nat)
 |_,[]=>([],[])
 |j,v::r=>((tokOb tk j v).1::(tokObs tk (j+(tokOb tk j v).2.length) r).1,(tokOb tk j v).2++(tokObs tk (j+(tokOb tk j v).2.length) r).2)
def somes:List (Option Nat)→List Nat
 |[]=> []
 |none::r=>somes r
 |some t::r=>t::somes r
def reach (c:CSt):Nat→List Nat→List Nat→List Nat
 |0,acc,_=>acc
 |_+1,acc,[]=>acc
 | f+1,acc,o::t=>if acc.contains o=true then reach c f acc t else
   match c.look o with
   |some ob=>reach c f (acc++ [o]) (t++ob.ids)
   |none=>reach c f acc t
def looks (c:CSt):List Nat→Option (List SObj)
 |[]=>some []
 |o::r=>match c.look o,looks c r with
  |some ob,some l=>some (ob::l)
  |_,_=>none
def ixOf:List Nat→Nat→Nat
 |[],_=>0
 |p::r,o=>if p=o then 0 else ixOf r o+1
def obsIds:List SObj→List Nat
 |[]=> []
 |o::r=>o.ids++obsIds r
def nodupB:List Nat→Bool
 |[]=>true
 |a::r=> !r.contains a&&nodupB r
def subB (a b:List Nat):Bool:=a.all b.contains
def renObL (mo mt:Nat→Nat):List SObj→List SObj
 |[]=> []
 |o::r=>o.ren mo mt::renObL mo mt r
structure CRes where
 r:SV
 os:List (Nat×SObj)
 tk:List Nat
structure Sig where
 own:List Nat:=[]
 raw:List Nat:=[]
def putsO (ob:List (Nat×SObj)):List (Nat×SObj)→List (Nat×SObj)
 |[]=>ob
 |p::r=>putsO (putO ob p.1 p.2) r
def putsK (tk:List Nat):List Nat→List Nat
 |[]=>tk
 |t::r=>putsK (putK tk t) r
def dropK (l:List Nat):List Nat→List Nat
 |[]=> []
 |t::r=>if l.contains t=true then dropK l r else t::dropK l r
def renKs (d:Nat):List Nat→List Nat
 |[]=> []
 |t::r=>renT d t::renKs d r
def CRes.small (q:CRes):Bool:=q.os.all (fun p=>decide (p.1<1000)&&p.2.ids.all (fun k=>decide (k<1000))&&p.2.toks.all (fun k=>decide (k<1000)))&&q.r.ids.all (fun k=>decide (k<1000))&&q.r.toks.all (fun k=>decide (k<1000))&&q.tk.all (fun k=>decide (k<1000))
def afterC (c:CSt) (d:Option Nat) (m mt:List Nat) (q:CRes):CSt:=
 CSt.put ⟨purgeT ((d.getD 0+1)*1000) ((d.getD 0+2)*1000) c.tm,
  putsO (dropOs m (purgeO ((d.getD 0+1)*1000) ((d.getD 0+2)*1000) c.ob)) (renOs (d.getD 0) m q.os),
  putsK (dropK mt (dropT ((d.getD 0+1)*1000) ((d.getD 0+2)*1000) c.tk)) (renKs (d.getD 0) q.tk)⟩ d (q.r.ren (renO (d.getD 0) m) (renT (d.getD 0)))
abbrev CallF:=Nat→List SV→List SObj→Nat→Option CRes
def CRes.bare (q:CRes):Bool:=q.os.isEmpty&&q.tk.isEmpty&&q.r.ids.isEmpty&&q.r.toks.isEmpty
def fast3 (c:CSt) (d:Option Nat) (q:CRes):Bool→Option CSt
 |true=>some (afterC c d [] [] q)
 |false=>none
def fast2 (c:CSt) (d:Option Nat) (q:CRes):Bool→Option CSt
 |true=>some (c.put d q.r)
 |false=>fast3 c d q q.small
def fastC (c:CSt) (d:Option Nat):Option CRes→Option CSt
 |some q=>fast2 c d q q.bare
 |none=>none
def slow5 (c:CSt) (d:Option Nat) (m mt:List Nat) (q:CRes):Bool→Option CSt
 |true=>some (afterC c d m mt q)
 |false=>none
def slow4 (c:CSt) (d:Option Nat) (m mt:List Nat):Option CRes→Option CSt
 |some q=>slow5 c d m mt q q.small
 |none=>none
def slow3 (call:CallF) (c:CSt) (d:Option Nat) (g:Nat) (as:List SV) (mt1:List (Option Nat)) (m:List Nat) (os:List SObj) (mt2:List (Option Nat)):Bool→Option CSt
 |true=>slow4 c d m (somes (mt1++mt2)) (call g (SV.renL (ixOf m) id as) (renObL (ixOf m) id os) (mt1.length+mt2.length))
 |false=>none
def slow2 (call:CallF) (c:CSt) (d:Option Nat) (g:Nat) (as:List SV) (mt1:List (Option Nat)) (m:List Nat):List SObj×List (Option Nat)→Option CSt
 |(os,mt2)=>slow3 call c d g as mt1 m os mt2 (subB (SV.idsL as++obsIds os) m&&nodupB m&&nodupB (somes (mt1++mt2))&&decide (m.length≤40)&&m.all fun o=> !inR (d.getD 0) o)
def slow1 (call:CallF) (c:CSt) (d:Option Nat) (g:Nat) (as:List SV) (mt1:List (Option Nat)) (m:List Nat):Option (List SObj)→Option CSt
 |some os=>slow2 call c d g as mt1 m (tokObs c.tk (50+mt1.length) os)
 |none=>none
def slow0 (call:CallF) (c:CSt) (d:Option Nat) (g:Nat):List SV×List (Option Nat)→Option CSt
 |(as,mt1)=>slow1 call c d g as mt1 (reach c 60 [] (SV.idsL as)) (looks c (reach c 60 [] (SV.idsL as)))
def slowC (call:CallF) (sg:Sig) (d:Option Nat) (g:Nat):CSt×List SV→Option CSt
 |(c,as)=>slow0 call c d g (tokL c.tk sg.own 50 0 as)
def callK (call:CallF) (sg:Sig) (c:CSt) (d:Option Nat) (g:Nat) (as:List SV):Bool→Option CSt
 |true=>fastC c d (call g (SV.bareL as) [] 0)
 |false=>slowC call sg d g (pubAll c as (slIds sg.raw 0 as))
def callC (call:CallF) (sg:Sig) (c:CSt) (d:Option Nat) (g:Nat) (as:List SV):Option CSt:=
 callK call sg c d g as ((SV.idsL as).isEmpty&&sg.own.isEmpty)
inductive Dir where
 |kill (l:List Nat)
 |gc (l:List Nat)
 |gcr (lo hi:Nat)
 |pub (n:Nat)
 |pubo (o:Nat)
 |tok (n id:Nat)
inductive RI where
 |op (i:SI) (dead:List Nat)
 |grp (g:Nat) (b:Bool) (l:List SI) (dead:List Nat)
 |own (i:SI) (dead:List Nat)
 |tks (i:SI) (dead:List Nat)
 |dir (d:Dir)
structure FI where
 n:Nat
 q:Bool
 i:SI
inductive RC where
 |skip
 |ops (l:List RI)
 |drw (b ds:List Nat) (l:List SI) (dead:List Nat)
 |flt (b ds:List Nat) (l:List FI) (dead:List Nat)
 |fla (b ds:List Nat) (l:List FI) (ps:List (List Nat)) (dead:List Nat)
 |seq (a b:RC)
 |cond (c:Arg) (a b:RC)
 |block (id:Nat) (b:RC)
 |loop (b:RC)
 |exit (id:Nat)
 |ret
 |pre (ds:List Dir) (a:RC)
 |post (a:RC) (ds:List Dir)
 |bad
def erL:List RI→List SI
 |[]=> []
 | .op i _::r=>i::erL r
 | .grp _ _ l _::r=>l++erL r
 | .own i _::r=>i::erL r
 | .tks i _::r=>i::erL r
 | .dir _::r=>erL r
def findF:List FI→Nat→SI
 |[],_=>⟨none,none,.lenC 0⟩
 |f::r,k=>if f.n=k then f.i else findF r k
def unF (l:List FI):List SI:=(List.range l.length).map (findF l)
def RC.er:RC→SCode
 | .skip=> .skip
 | .ops l=> .ops (erL l)
 | .drw b ds l _=> .drw b ds l
 | .flt b ds l _=> .drw b ds (unF l)
 | .fla b ds l _ _=> .drw b ds (unF l)
 | .seq a b=> .seq a.er b.er
 | .cond c a b=> .cond c a.er b.er
 | .block id b=> .block id b.er
 | .loop b=> .loop b.er
 | .exit id=> .exit id
 | .ret=> .ret
 | .pre _ a=>a.er
 | .post a _=>a.er
 | .bad=> .bad
def gcC (c:CSt):List Nat→CSt
 |[]=>c
 |o::r=>gcC (c.purge o (o+1)) r
def pubtC (c:CSt) (n id o:Nat) (obj:SObj) (v:SV):CSt:=
 ⟨putT (purgeT id (id+1) (pubT o obj c.tm)) n v,purgeO id (id+1) (pubO o obj c.ob),putK (dropT id (id+1) c.tk) id⟩
def tokP (c:CSt) (n id o sz off k cp:Nat):Option SObj→Option CSt
 |some (.bar l)=>if sz=1∧off+cp≤l.length∧k≤cp then some (pubtC c n id o (.bar (l.take (off+k))) (.byt ((l.drop off).take k) (.id id)))else some c
 |some (.arr sz' xs)=>if sz'=sz∧off+cp≤xs.length∧k≤cp then some (pubtC c n id o (.arr sz' (xs.take (off+k))) (.lst sz ((xs.drop off).take k) (.id id)))else some c
 |_=>some c
def tokD (c:CSt) (n id:Nat):SV→Option CSt
 | .byt l t=>match t with
  | .no=>some c
  | .clip=>some ⟨putT (purgeT id (id+1) c.tm) n (.byt l (.id id)),purgeO id (id+1) c.ob,putK (dropT id (id+1) c.tk) id⟩
  | .id t=>if t=id then some c else if c.tk.contains t=true then some ⟨putT (purgeT id (id+1) c.tm) n (.byt l (.id id)),purgeO id (id+1) c.ob,putK (dropT id (id+1) (dropT t (t+1) c.tk)) id⟩else none
 | .lst sz xs t=>match t with
  | .no=>some c
  | .clip=>some ⟨putT (purgeT id (id+1) c.tm) n (.lst sz xs (.id id)),purgeO id (id+1) c.ob,putK (dropT id (id+1) c.tk) id⟩
  | .id t=>if t=id then some c else if c.tk.contains t=true then some ⟨putT (purgeT id (id+1) c.tm) n (.lst sz xs (.id id)),purgeO id (id+1) c.ob,putK (dropT id (id+1) (dropT t (t+1) c.tk)) id⟩else none
 | .psl o sz off k (some cp)=>tokP c n id o sz off k cp (c.look o)
 |_=>some c
def dirC (c:CSt):Dir→Option CSt
 | .kill l=>some (c.kill l)
 | .gc l=>some (gcC c l)
 | .gcr lo hi=>some (c.purge lo hi)
 | .pubo o=>some (c.publish o []).1
 | .pub n=>match c.get n with
  | .psl o _ _ _ _=>some (c.publish o []).1
  |_=>some c
 | .tok n id=>if id=99 then none else tokD c n id (c.get n)
def dirsC (c:CSt):List Dir→Option CSt
 |[]=>some c
 |d::r=>match dirC c d with
  |some c'=>dirsC c' r
  |none=>none
inductive Ex where
 |n
 |x (id:Nat)
 |r
abbrev RRes:=Option (Ex×CSt)
def effS (c:CSt) (d:Option Nat):Option CEff→Option CSt
 |some e=>some (c.app d e)
 |none=>none
def newBC (c:CSt):Option Nat→Option (List UInt8)→Option CSt
 |some k,some l=>some (c.app (some k) {val:= .psl (k+100) 1 0 l.length (some l.length),new:=some (.bar l)})
 |_,_=>none
def slid2 (c:CSt) (d:Option Nat) (o off n:Nat) (cap:Option Nat):Option SObj→Option CSt
 |some (.bar l)=>if off+n≤l.length∧cap=some n then some (((c.publish o []).1).put d (.byt ((l.drop off).take n) .clip))else none
 |_=>none
def slidC (c:CSt) (d:Option Nat):SV→Option CSt
 | .psl o 1 off n cap=>slid2 c d o off n cap (c.look o)
 |_=>none
def opC (call:CallF) (sg:Nat→Sig) (c:CSt) (d:Option Nat) (o:SOp):Option CSt:=
 match o with
 | .newB xs=>newBC c d (toB (evL c xs))
 | .slid x=>slidC c d (c.ev x)
 | .call f as=>match c.ev f with
  | .fn g a b=>callC call (sg g) c d g (a++evL c as++b)
  |_=>none
 |o=>effS c d (effC c d o)
def stepC (call:CallF) (sg:Nat→Sig) (c:CSt) (i:SI):Option CSt:=
 match i.g with
 |none=>opC call sg c i.dst i.op
 |some (g,b)=>match c.get g with
  | .bool t=>if t=b then opC call sg c i.dst i.op else some (c.put i.dst (.tup []))
  | .tup []=>some (c.put i.dst (.tup []))
  |_=>none
mutual
def plC (call:CallF) (sg:Nat→Sig):List SI→CSt→Option CSt
 |[],c=>some c
 |i::r,c=>nxP call sg r (opC call sg c i.dst i.op)
def nxP (call:CallF) (sg:Nat→Sig):List SI→Option CSt→Option CSt
 |r,some c=>plC call sg r c
 |_,none=>none
end
def unL (c:CSt):List SI→CSt
 |[]=>c
 |i::r=>unL (c.put i.dst (.tup [])) r
def grpC (call:CallF) (sg:Nat→Sig) (b:Bool) (l:List SI) (c:CSt):SV→Option CSt
 | .bool t=>if t=b then plC call sg l c else some (unL c l)
 | .tup []=>some (unL c l)
 |_=>none
def own1 (c:CSt):Option Nat→SV→Option CSt
 |some k,.str l=>some (c.app (some k) {val:= .psl (k+100) 1 0 l.length none,new:=some (.bar l)})
 |_,_=>none
def own3 (c:CSt) (z:List SV) (bytes:Nat) (l:List UInt8):Option Nat→Option (List UInt8)→Option CSt
 |some k,some l'=>if z.length≠1 then none else if l'=[]then some (c.put (some k) (.byt l .clip))else if bytes=1∧l.length+l'.length≤140737488355328 then some (c.app (some k) {val:= .psl (k+100) 1 0 (l.length+l'.length) none,new:=some (.bar (l++l'))})else none
 |_,_=>none
def own4 (c:CSt) (z:List SV) (bytes sz:Nat) (l:List (List SV)):Option Nat→Option (List (List SV))→Option CSt
 |some k,some l'=>if l'=[]then some (c.put (some k) (.lst sz l .clip))else if z.length=sz∧(l.length+l'.length)*bytes≤140737488355328 then some (c.app (some k) {val:= .psl (k+100) sz 0 (l.length+l'.length) none,new:=some (.arr sz (l++l'))})else none
 |_,_=>none
def own2 (c:CSt) (d:Option Nat) (z:List SV) (bytes:Nat) (y:Arg):SV→Option CSt
 | .byt l t=>if t= .clip then own3 c z bytes l d (bytesC c (c.ev y))else none
 | .lst sz l t=>if t= .clip then own4 c z bytes sz l d (rowsC c z.length (c.ev y))else none
 |_=>none
def own5 (c:CSt) (sz:Nat):Option Nat→Option (List (List SV))→Option CSt
 |some k,some xs=>some (c.app (some k) {val:= .psl (k+100) sz 0 xs.length (some xs.length),new:=some (.arr sz xs)})
 |_,_=>none
def ownC (c:CSt) (d:Option Nat):SOp→Option CSt
 | .lit sz xs=>own5 c sz d (rows sz (evL c xs))
 | .litB xs=>newBC c d (toB (evL c xs))
 | .s2b x=>own1 c d (c.ev x)
 | .app z bytes x y=>own2 c d z bytes y (c.ev x)
 |_=>none
def tks1 (c:CSt):Option Nat→SV→Option CSt
 |some k,.str l=>some (c.app (some k) {val:= .byt l (.id (k+100)),tok:=true})
 |_,_=>none
def tksP (c:CSt) (d:Option Nat):SOp→Option CSt
 | .s2b x=>tks1 c d (c.ev x)
 |_=>none
def tksS (c:CSt) (i:SI):Option CSt:=match i.g with
 |none=>tksP c i.dst i.op
 |some _=>none
def ownS (c:CSt) (i:SI):Option CSt:=match i.g with
 |none=>ownC c i.dst i.op
 |some _=>none
mutual
def opsC (call:CallF) (sg:Nat→Sig):List RI→CSt→Option CSt
 |[],c=>some c
 | .op i dead::r,c=>nxC call sg dead r (stepC call sg c i)
 | .grp g b l dead::r,c=>nxC call sg dead r (grpC call sg b l c (c.get g))
 | .own i dead::r,c=>nxC call sg dead r (ownS c i)
 | .tks i dead::r,c=>nxC call sg dead r (tksS c i)
 | .dir d::r,c=>nxC call sg [] r (dirC c d)
def nxC (call:CallF) (sg:Nat→Sig) (dead:List Nat):List RI→Option CSt→Option CSt
 |r,some c=>opsC call sg r (c.kill dead)
 |_,none=>none
end
def footC (c:CSt) (so:SOp) (d:Option Nat) (e:CEff):Foot:=
 ⟨SV.idsL (evL c so.args),e.wr.map Prod.fst,e.eat.ids,(match e.new,e.tok with|none,false=> []|_,_=> [d.getD 0+100]),e.val.names++namesO e.wr++(match e.new with|some o=>o.names|none=> []),if so.blind=true then []else SV.idsL (evL c so.args)⟩
def callE2 (q:CRes):Bool→Option CEff
 |true=>some {val:=q.r}
 |false=>none
def callE:Option CRes→Option CEff
 |some q=>callE2 q q.bare
 |none=>none
def callO4 (o:Nat) (r:SV) (cs:List SV):Bool→Option CEff
 |true=>some {val:=r,wr:=[(o,.rc cs)]}
 |false=>none
def callO3 (o:Nat):Option CRes→Option CEff
 |some ⟨r,[(0,.rc cs)],[]⟩=>callO4 o r cs (r.ids.isEmpty&&r.toks.isEmpty&&(SV.idsL cs).isEmpty&&(SV.toksL cs).isEmpty)
 |_=>none
def callO2 (call:CallF) (o g:Nat) (as:List SV) (ob:SObj):Bool→Option CEff
 |true=>callO3 o (call g (SV.renL (ixOf [o]) id as) [ob] 0)
 |false=>none
def callO1 (call:CallF) (o g:Nat) (as:List SV):Option SObj→Option CEff
 |some ob=>callO2 call o g as ob (ob.ids.isEmpty&&ob.toks.isEmpty&&(SV.idsL as).all (fun k=>decide (k=o))&&(SV.idsL (SV.renL (ixOf [o]) id as)).all (fun k=>decide (k=0)))
 |none=>none
def callO (call:CallF) (c:CSt) (g:Nat) (as:List SV):List Nat→Option CEff
 |o::_=>callO1 call o g as (c.look o)
 |[]=>none
def callOW (call:CallF) (c:CSt) (g:Nat) (as:List SV):Bool→Option CEff
 |true=>callO call c g (SV.bareL as) (SV.idsL as)
 |false=>none
def callEK (call:CallF) (c:CSt) (own:Bool) (g:Nat) (as:List SV):Bool→Option CEff
 |true=>callE (call g (SV.bareL as) [] 0)
 |false=>callOW call c g as own
def callEV (call:CallF) (sg:Nat→Sig) (c:CSt) (as:List SV):SV→Option CEff
 | .fn g a b=>callEK call c (sg g).own.isEmpty g (a++as++b) ((SV.idsL (a++as++b)).isEmpty&&(sg g).own.isEmpty)
 |_=>none
def effD (call:CallF) (sg:Nat→Sig) (c:CSt) (i:SI):Option CEff:=
 match i.op with
 | .call f as=>callEV call sg c (evL c as) (c.ev f)
 | .isnil _ _=>none
 | .cpy _ _ _=>none
 |so=>effC c i.dst so
mutual
def runD (call:CallF) (sg:Nat→Sig) (b:List Nat):List SI→List Foot→CSt→Option CSt
 |[],fs,c=>gd ((fs.all Foot.quiet||drawOK b fs.reverse)=true) c
 | i::r,fs,c=>match i.g with
  |none=>nxD call sg b i.op i.dst r fs c (effD call sg c i)
  |some (g,want)=>match c.get g with
   | .bool t=>if t=want then nxD call sg b i.op i.dst r fs c (effD call sg c i)else runD call sg b r (noFoot::fs) (c.put i.dst .undef)
   |_=>none
def nxD (call:CallF) (sg:Nat→Sig) (b:List Nat) (op:SOp) (d:Option Nat):List SI→List Foot→CSt→Option CEff→Option CSt
 |r,fs,c,some e=>runD call sg b r (footC c op d e::fs) (c.app d e)
 |_,_,_,none=>none
end
def qval (c:CSt):SOp→Option SV
 | .pick k a b=>match c.ev k with
  | .bool t=>some (iteV t (c.ev a) (c.ev b))
  |_=>none
 |so=>valC c so
def qg (c:CSt) (o:SOp) (b:Bool):SV→Option SV
 | .bool t=>if t=b then qval c o else some (.tup [])
 | .tup []=>some (.tup [])
 |_=>none
def qv (c:CSt) (i:SI):Option SV:=match i.g with
 |none=>qval c i.op
 |some (g,b)=>qg c i.op b (c.get g)
def fchk (m:Nat) (c:CSt):List FI→Prop
 |[]=>True
 |p::r=>(m/2^p.n % 2=1∨qv c p.i=some (c.get (p.i.dst.getD 0)))∧fchk m c r
open Classical in
noncomputable def gdP {α:Type} (p:Prop) (v:α):Option α:=if p then some v else none
mutual
noncomputable def fltC (call:CallF) (sg:Nat→Sig) (b:List Nat):List FI→List FI→CSt→Option CSt
 |[],_,c=>some c
 |⟨n,true,i⟩::r,ps,c=>fltQ call sg b r (⟨n,true,i⟩::ps) c i.dst (qv c i)
 |⟨n,false,i⟩::r,ps,c=>fltN call sg b r ps (b.getD n 0) (stepC call sg c i)
noncomputable def fltQ (call:CallF) (sg:Nat→Sig) (b:List Nat):List FI→List FI→CSt→Option Nat→Option SV→Option CSt
 |r,ps,c,d,some v=>fltC call sg b r ps (c.put d v)
 |_,_,_,_,none=>none
noncomputable def fltN (call:CallF) (sg:Nat→Sig) (b:List Nat):List FI→List FI→Nat→Option CSt→Option CSt
 |r,ps,m,some c=>fltG call sg b r ps (gdP (fchk m c ps) c)
 |_,_,_,none=>none
noncomputable def fltG (call:CallF) (sg:Nat→Sig) (b:List Nat):List FI→List FI→Option CSt→Option CSt
 |r,ps,some c=>fltC call sg b r ps c
 |_,_,none=>none
end
def pickF:List FI→Nat→FI
 |[],k=>⟨k,false,⟨none,none,.lenC 0⟩⟩
 |f::r,k=>if f.n=k then f else pickF r k
def ordF (l:List FI):List Nat→List FI
 |[]=> []
 |k::r=>pickF l k::ordF l r
noncomputable def agree:Option CSt→Option CSt→Option CSt
 |some a,some b=>gdP (a=b) a
 |_,_=>none
noncomputable def altC (call:CallF) (sg:Nat→Sig) (b:List Nat) (l:List FI):List (List Nat)→CSt→Option CSt
 |[],_=>none
 |[p],c=>fltC call sg b (ordF l p) [] c
 |p::q::r,c=>agree (fltC call sg b (ordF l p) [] c) (altC call sg b l (q::r) c)
def nrm (dead:List Nat):Option CSt→RRes
 |some c=>some (.n,c.kill dead)
 |none=>none
def sq (rn:RC→CSt→RRes) (b:RC):RRes→RRes
 |some (.n,c)=>rn b c
 |r=>r
def cnd (rn:RC→CSt→RRes) (a b:RC) (c:CSt):SV→RRes
 | .bool t=>if t=true then rn a c else rn b c
 |_=>none
def blk (id:Nat):RRes→RRes
 |some (.x id',c)=>if id'=id then some (.n,c)else some (.x id',c)
 |r=>r
def lp (rn:RC→CSt→RRes) (b:RC):RRes→RRes
 |some (.n,c)=>rn (.loop b) c
 |r=>r
def prD (rn:RC→CSt→RRes) (a:RC):Option CSt→RRes
 |some c=>rn a c
 |none=>none
def psD (ds:List Dir):RRes→RRes
 |some (.n,c)=>match dirsC c ds with
  |some c'=>some (.n,c')
  |none=>none
 |r=>r
noncomputable def stepR (rn:RC→CSt→RRes) (call:CallF) (sg:Nat→Sig):RC→CSt→RRes
 | .skip,c=>some (.n,c)
 | .ops l,c=>nrm [] (opsC call sg l c)
 | .drw b ds l dead,c=>nrm dead (runD call sg b l [] (gcC c ds))
 | .flt b _ l dead,c=>nrm dead (fltC call sg b l [] c)
 | .fla b _ l ps dead,c=>nrm dead (altC call sg b l ps c)
 | .seq a b,c=>sq rn b (rn a c)
 | .cond k a b,c=>cnd rn a b c (c.ev k)
 | .block id b,c=>blk id (rn b c)
 | .loop b,c=>lp rn b (rn b c)
 | .exit id,c=>some (.x id,c)
 | .ret,c=>some (.r,c)
 | .pre ds a,c=>prD rn a (dirsC c ds)
 | .post a ds,c=>psD ds (rn a c)
 | .bad,_=>none
def SI.ok (N:Nat) (i:SI):Bool:=match i.dst with
 |some d=>decide (d<N)
 |none=>true
def SI.okG (N g:Nat) (b:Bool) (i:SI):Bool:=i.ok N&&(match i.g with|some (g',b')=>decide (g'=g)&&(b'==b)|none=>false)&&decide (i.dst≠some g)
def RI.ok (N:Nat):RI→Bool
 | .op i _=>i.ok N
 | .grp g b l _=>l.all (SI.okG N g b)
 | .own i _=>i.ok N
 | .tks i _=>i.ok N
 | .dir _=>true
def fltO (b:List Nat) (i j:Nat):Bool:=(b.getD j 0).testBit i
def segOK (b:List Nat):Option Nat→List FI→Bool
 |_,[]=>true
 | s,f::r=>if f.q then(match s with|some s=>fltO b s f.n|none=>true)&&segOK b s r
   else(match s with|some s=>fltO b s f.n|none=>true)&&segOK b (some f.n) r
def pairOK (b:List Nat) (p q:FI):Bool:= !fltO b q.n p.n&&(p.q||q.q||fltO b p.n q.n)
def pairsOK (b:List Nat):List FI→Bool
 |[]=>true
 |p::r=>r.all (pairOK b p)&&pairsOK b r
def SI.rds (i:SI):List Nat:=i.op.args.filterMap (fun| .t n=>some n|_=>none)++(match i.g with|some (g,_)=> [g]|none=> [])
def fqOK (b:List Nat) (l:List FI):Bool:=l.all fun q=> !q.q||(match q.i.dst with|some d=>l.all fun p=> !p.i.rds.contains d||(fltO b q.n p.n&&decide (p.n≠q.n))|none=>false)
def fltOK (b:List Nat) (l:List FI):Bool:=segOK b none l&&pairsOK b l&&fqOK b l&&decide ((l.map FI.n).Nodup)&&l.all (fun f=>decide (f.n<l.length))&&(List.range l.length).all (l.map FI.n).contains
def segF (b:List Nat):Option Nat→List FI→Bool
 |_,[]=>true
 |s,f::r=>if f.q then(match s with|some s=>fltO b s f.n|none=>true)&&segF b s r else segF b (some f.n) r
def pairsF (b:List Nat):List FI→Bool
 |[]=>true
 |p::r=>r.all (fun q=> !fltO b q.n p.n)&&pairsF b r
def chgs (l:List FI):List Nat:=l.filterMap fun f=>if f.q then none else some f.n
def covOK (b:List Nat):Nat→List (List Nat)→Bool
 |_,[]=>false
 |_,[]::_=>true
 |0,_=>false
 |k+1,A@((h::t)::_)=>(h::t).all fun g=>(h::t).any (fun x=>decide (x≠g)&&fltO b x g)||covOK b k (A.filterMap fun p=>match p with|x::r=>if x=g then some r else none|[]=>none)
def altOK (b:List Nat) (l:List FI) (ps:List (List Nat)):Bool:=
 fqOK b l&&decide ((l.map FI.n).Nodup)&&l.all (fun f=>decide (f.n<l.length))&&(List.range l.length).all (l.map FI.n).contains&&
 ps.all (fun p=>decide p.Nodup&&p.all (l.map FI.n).contains&&(l.map FI.n).all p.contains&&segF b none (ordF l p)&&pairsF b (ordF l p))&&covOK b l.length (ps.map fun p=>chgs (ordF l p))
def RC.ok (N:Nat):RC→Bool
 | .ops l=>l.all (RI.ok N)
 | .drw _ _ l _=>l.all (SI.ok N)
 | .flt b _ l _=>l.all (fun f=>f.i.ok N)&&fltOK b l
 | .fla b _ l ps _=>l.all (fun f=>f.i.ok N)&&altOK b l ps
 | .seq a b=>a.ok N&&b.ok N
 | .cond _ a b=>a.ok N&&b.ok N
 | .block _ b=>b.ok N
 | .loop b=>b.ok N
 | .pre _ a=>a.ok N
 | .post a _=>a.ok N
 |_=>true
inductive RV where
 |tmp (t:Nat)
 |cell (t n:Nat) (ag:Bool)
structure FnC where
 code:RC
 n:Nat
 rs:List RV
 keep:List Nat:=[]
 raw:List Nat:=[]
inductive FnB where
 |code (F:FnC)
 |prim (f:List SV→List SObj→Nat→Option CRes)
structure Table where
 fn:Nat→Option FnB
 sg:Nat→Sig
def resC (c:CSt):List RV→Option (List SV)
 |[]=>some []
 | .tmp t::r=>match resC c r with
  |some vs=>some (c.get t::vs)
  |none=>none
 | .cell t n ag::r=>match (if ag=true∨n=1 then loadC c n ag (c.get t)else none),resC c r with
  |some v,some vs=>some (v::vs)
  |_,_=>none
def upto:Nat→List Nat
 |0=> []
 |n+1=>upto n++ [n]
def zipIx (k:Nat):List SObj→List (Nat×SObj)
 |[]=> []
 |o::r=>(k,o)::zipIx (k+1) r
def newIx (k:Nat) (m:List Nat) (o:Nat):Nat:=if o<k then o else 100+ixOf m o
def tks (b n:Nat):List Nat:=(upto n).map (b+ ·)
def fin5 (k:Nat) (vs:List SV) (mt1:List (Option Nat)) (m:List Nat) (os:List SObj) (mt2:List (Option Nat)):Bool→Option CRes
 |true=>some ⟨(oneSV vs).ren (newIx k m) id,(zipIx 0 (renObL (newIx k m) id (os.take k)))++(zipIx (100+k) (renObL (newIx k m) id (os.drop k))),tks 60 (mt1.length+mt2.length)⟩
 |false=>none
def fin4 (k:Nat) (vs:List SV) (mt1:List (Option Nat)) (m:List Nat):List SObj×List (Option Nat)→Option CRes
 |(os,mt2)=>fin5 k vs mt1 m os mt2 (subB (SV.idsL vs++obsIds os) m&&nodupB m&&nodupB (somes (mt1++mt2))&&decide (m.take k=upto k)&&(m.drop k).all fun o=>decide (k≤o))
def fin3 (k:Nat) (c:CSt) (vs:List SV) (mt1:List (Option Nat)) (m:List Nat):Option (List SObj)→Option CRes
 |some os=>fin4 k vs mt1 m (tokObs c.tk (60+mt1.length) os)
 |none=>none
def fin2 (k:Nat) (c:CSt):List SV×List (Option Nat)→Option CRes
 |(vs,mt1)=>fin3 k c vs mt1 (reach c 60 [] (upto k++SV.idsL vs)) (looks c (reach c 60 [] (upto k++SV.idsL vs)))
def fin1 (keep:List Nat) (k:Nat) (c:CSt) (vs:List SV):Bool→Option CRes
 |true=>some ⟨oneSV (SV.bareL vs),[],[]⟩
 |false=>fin2 k c (tokL c.tk keep 60 0 vs)
def finP (keep:List Nat) (k:Nat):CSt×List SV→Option CRes
 |(c,vs)=>fin1 keep k c vs (decide (k=0)&&(SV.idsL vs).isEmpty&&keep.isEmpty)
def fin0 (keep raw:List Nat) (k:Nat) (c:CSt):Option (List SV)→Option CRes
 |some vs=>finP keep k (pubAll c vs (slIds raw 0 vs))
 |none=>none
def finC (F:FnC) (k:Nat):RRes→Option CRes
 |some (.n,c)=>fin0 F.keep F.raw k c (resC c F.rs)
 |some (.r,c)=>fin0 F.keep F.raw k c (resC c F.rs)
 |_=>none
def initT:Nat→List SV→List (Nat×SV)
 |_,[]=> []
 |i,v::r=>(i,v)::initT (i+1) r
def initC (args:List SV) (os:List SObj) (k:Nat):CSt:=⟨initT 0 args,zipIx 0 os,tks 50 k⟩
def iniC (rn:RC→CSt→RRes) (F:FnC) (args:List SV) (os:List SObj) (k:Nat):RRes:=if args.length≤F.n then rn F.code (initC args os k)else none
def callB (rn:RC→CSt→RRes):Option FnB→List SV→List SObj→Nat→Option CRes
 |some (.code F),args,os,k=>finC F os.length (iniC rn F args os k)
 |some (.prim f),args,os,k=>f args os k
 |none,_,_,_=>none
noncomputable def runN (T:Table):Nat→RC→CSt→RRes
 |0,_,_=>none
 |n+1,r,c=>stepR (runN T n) (fun g args os k=>callB (runN T n) (T.fn g) args os k) T.sg r c
noncomputable def callN (T:Table) (n:Nat):CallF:=fun g args os k=>callB (runN T n) (T.fn g) args os k
noncomputable def lim {α:Type} (g:Nat→Option α):Option α:=open Classical in if h:∃n x,g n=some x then g (Classical.choose h)else none
noncomputable def run (T:Table) (r:RC) (c:CSt):RRes:=lim fun n=>runN T n r c
noncomputable def call (T:Table):CallF:=fun g args os k=>lim fun n=>callN T n g args os k
end Go.Sy
namespace Go.Sy
variable [LaidData]
def leR (f g:RC→CSt→RRes):Prop:=∀r c x,f r c=some x→g r c=some x
def leC (f g:CallF):Prop:=∀a b o k x,f a b o k=some x→g a b o k=some x
theorem fastC_mono {c:CSt} {d:Option Nat} {x:CSt} {a b:Option CRes} (h:∀q,a=some q→b=some q) (k:fastC c d a=some x):fastC c d b=some x:=by
 cases a with
 |none=>cases k
 |some q=>rw [h q rfl];exact k
theorem slow4_mono {c:CSt} {d:Option Nat} {m mt:List Nat} {x:CSt} {a b:Option CRes} (h:∀q,a=some q→b=some q) (k:slow4 c d m mt a=some x):slow4 c d m mt b=some x:=by
 cases a with
 |none=>cases k
 |some q=>rw [h q rfl];exact k
theorem slow1_mono {f g:CallF} (h:leC f g) {c:CSt} {d:Option Nat} {n:Nat} {as:List SV} {mt1:List (Option Nat)} {m:List Nat} {o:Option (List SObj)} {x:CSt}
 (k:slow1 f c d n as mt1 m o=some x):slow1 g c d n as mt1 m o=some x:=by
 cases o with
 |none=>cases k
 |some os=>
  simp only [slow1]at k ⊢;generalize tokObs c.tk (50+mt1.length) os=z at k ⊢;obtain⟨os',mt2⟩:=z;simp only [slow2]at k ⊢;generalize (subB (SV.idsL as++obsIds os') m&&nodupB m&&nodupB (somes (mt1++mt2))&&decide (m.length≤40)&&m.all fun o=> !inR (d.getD 0) o)=b at k ⊢;cases b with
  |false=>cases k
  |true=>simp only [slow3]at k ⊢;exact slow4_mono (fun q hq=>h _ _ _ _ _ hq) k
theorem slowC_mono {f g:CallF} (h:leC f g) {sg:Sig} {d:Option Nat} {n:Nat} {p:CSt×List SV} {x:CSt} (k:slowC f sg d n p=some x):slowC g sg d n p=some x:=by obtain⟨c,as⟩:=p;simp only [slowC]at k ⊢;generalize tokL c.tk sg.own 50 0 as=z at k ⊢;obtain⟨as',mt1⟩:=z;simp only [slow0]at k ⊢;exact slow1_mono h k
theorem callC_mono {f g:CallF} (h:leC f g) {sg:Sig} {c:CSt} {d:Option Nat} {n:Nat} {as:List SV} {x:CSt} (k:callC f sg c d n as=some x):callC g sg c d n as=some x:=by
 unfold callC at k ⊢;generalize ((SV.idsL as).isEmpty&&sg.own.isEmpty)=b at k ⊢;cases b with
 |true=>exact fastC_mono (fun q hq=>h _ _ _ _ _ hq) k
 |false=>exact slowC_mono h k
theorem opC_mono {f g:CallF} (h:leC f g) {sg:Nat→Sig} {c:CSt} {d:Option Nat} {o:SOp} {x:CSt} (k:opC f sg c d o=some x):opC g sg c d o=some x:=by
 cases o with
 |call a as=>simp only [opC]at k ⊢;split at k<;>first|exact callC_mono h k|cases k
 |_=>exact k
theorem stepC_mono {f g:CallF} (h:leC f g) {sg:Nat→Sig} {c:CSt} {i:SI} {x:CSt} (k:stepC f sg c i=some x):stepC g sg c i=some x:=by
 unfold stepC at k ⊢;split at k
 ·exact opC_mono h k
 ·split at k
  ·split at k
   ·rename_i hc;rw [if_pos hc];exact opC_mono h k
   ·rename_i hc;rw [if_neg hc];exact k
  ·exact k
  ·cases k
theorem plC_mono {f g:CallF} (h:leC f g) {sg:Nat→Sig}:∀ {l:List SI} {c x:CSt},plC f sg l c=some x→plC g sg l c=some x:=by
 intro l;induction l with
 |nil=>intro c x k;simpa [plC]using k
 | cons i r ih=>
  intro c x k;simp only [plC]at k ⊢;cases hs:opC f sg c i.dst i.op with
  |none=>rw [hs]at k;simp [nxP]at k
  |some c1=>rw [hs]at k;rw [opC_mono h hs];simp only [nxP]at k ⊢;exact ih k
theorem grpC_mono {f g:CallF} (h:leC f g) {sg:Nat→Sig} {b:Bool} {l:List SI} {c x:CSt} {v:SV} (k:grpC f sg b l c v=some x):grpC g sg b l c v=some x:=by
 unfold grpC at k ⊢;split at k
 ·split at k
  ·rename_i hc;rw [if_pos hc];exact plC_mono h k
  ·rename_i hc;rw [if_neg hc];exact k
 ·exact k
 ·cases k
theorem opsC_mono {f g:CallF} (h:leC f g) {sg:Nat→Sig}:∀ {l:List RI} {c x:CSt},opsC f sg l c=some x→opsC g sg l c=some x:=by
 intro l;induction l with
 |nil=>intro c x k;simpa [opsC]using k
 | cons i r ih=>
  intro c x k;cases i with
  | op i dead=>
   simp only [opsC]at k ⊢;cases hs:stepC f sg c i with
   |none=>rw [hs]at k;simp [nxC]at k
   |some c1=>rw [hs]at k;rw [stepC_mono h hs];simp only [nxC]at k ⊢;exact ih k
  | grp q b l dead=>
   simp only [opsC]at k ⊢;cases hs:grpC f sg b l c (c.get q)with
   |none=>rw [hs]at k;simp [nxC]at k
   |some c1=>rw [hs]at k;rw [grpC_mono h hs];simp only [nxC]at k ⊢;exact ih k
  | own i dead=>
   simp only [opsC]at k ⊢;cases hs:ownS c i with
   |none=>rw [hs]at k;simp [nxC]at k
   |some c1=>rw [hs]at k;simp only [nxC]at k ⊢;exact ih k
  | tks i dead=>
   simp only [opsC]at k ⊢;cases hs:tksS c i with
   |none=>rw [hs]at k;simp [nxC]at k
   |some c1=>rw [hs]at k;simp only [nxC]at k ⊢;exact ih k
  | dir d=>
   simp only [opsC]at k ⊢;cases hs:dirC c d with
   |none=>rw [hs]at k;simp [nxC]at k
   |some c1=>rw [hs]at k;simp only [nxC]at k ⊢;exact ih k
theorem callE_mono {x:CEff} {a b:Option CRes} (h:∀q,a=some q→b=some q) (k:callE a=some x):callE b=some x:=by
 cases a with
 |none=>cases k
 |some q=>rw [h q rfl];exact k
theorem callO_mono {f g:CallF} (h:leC f g) {c:CSt} {n:Nat} {as:List SV} {l:List Nat} {x:CEff} (k:callO f c n as l=some x):callO g c n as l=some x:=by
 cases l with
 |nil=>cases k
 | cons o r=>
  simp only [callO]at k ⊢;cases hl:c.look o with
  |none=>rw [hl]at k;cases k
  | some ob=>
   rw [hl]at k;simp only [callO1]at k ⊢;generalize (ob.ids.isEmpty&&ob.toks.isEmpty&&(SV.idsL as).all (fun k=>decide (k=o))&&(SV.idsL (SV.renL (ixOf [o]) id as)).all (fun k=>decide (k=0)))=q at k ⊢;cases q with
   |false=>cases k
   |true=>
    simp only [callO2]at k ⊢;cases hq:f n (SV.renL (ixOf [o]) id as) [ob] 0 with
    |none=>rw [hq]at k;cases k
    |some q=>rw [h _ _ _ _ _ hq];rw [hq]at k;exact k
theorem callEV_mono {f g:CallF} (h:leC f g) {sg:Nat→Sig} {c:CSt} {as:List SV} {v:SV} {x:CEff} (k:callEV f sg c as v=some x):callEV g sg c as v=some x:=by
 cases v with
 | fn n a b=>
  simp only [callEV]at k ⊢;generalize ((SV.idsL (a++as++b)).isEmpty&&(sg n).own.isEmpty)=q at k ⊢;cases q with
  |false=>
   simp only [callEK]at k ⊢;generalize (sg n).own.isEmpty=q at k ⊢;cases q with
   |false=>cases k
   |true=>exact callO_mono h k
  |true=>exact callE_mono (fun q hq=>h _ _ _ _ _ hq) k
 |_=>cases k
theorem effD_mono {f g:CallF} (h:leC f g) {sg:Nat→Sig} {c:CSt} {i:SI} {x:CEff} (k:effD f sg c i=some x):effD g sg c i=some x:=by
 unfold effD at k ⊢;split at k
 ·exact callEV_mono h k
 ·exact k
 ·exact k
 ·exact k
theorem fltC_mono {f g:CallF} (h:leC f g) {sg:Nat→Sig} {b:List Nat}:∀ {l ps:List FI} {c x:CSt},fltC f sg b l ps c=some x→fltC g sg b l ps c=some x:=by
 intro l;induction l with
 |nil=>intro ps c x k;simpa [fltC]using k
 | cons i r ih=>
  intro ps c x k;obtain⟨n,q,i⟩:=i;cases q with
  |true=>
   simp only [fltC]at k ⊢;cases hq:qv c i with
   |none=>rw [hq]at k;simp [fltQ]at k
   |some v=>rw [hq]at k;simp only [fltQ]at k ⊢;exact ih k
  | false=>
   simp only [fltC]at k ⊢;cases hs:stepC f sg c i with
   |none=>rw [hs]at k;simp [fltN]at k
   |some c1=>
    rw [hs]at k;rw [stepC_mono h hs];simp only [fltN]at k ⊢;cases hg:gdP (fchk (b.getD n 0) c1 ps) c1 with
    |none=>rw [hg]at k;simp [fltG]at k
    |some c2=>rw [hg]at k;simp only [fltG]at k ⊢;exact ih k
theorem altC_mono {f g:CallF} (h:leC f g) {sg:Nat→Sig} {b:List Nat} {l:List FI}:∀ {ps:List (List Nat)} {c x:CSt},altC f sg b l ps c=some x→altC g sg b l ps c=some x
 |[],c,x,k=>by simp [altC]at k
 |[p],c,x,k=>fltC_mono h k
 | p::q::r,c,x,k=>by
  simp only [altC]at k ⊢;cases h1:fltC f sg b (ordF l p) [] c with
  |none=>rw [h1]at k;simp [agree]at k
  |some y=>
   cases h2:altC f sg b l (q::r) c with
   |none=>rw [h1,h2]at k;simp [agree]at k
   |some z=>rw [h1,h2]at k;rw [fltC_mono h h1,altC_mono h h2];exact k
theorem runD_mono {f g:CallF} (h:leC f g) {sg:Nat→Sig} {b:List Nat}:∀ {l:List SI} {fs:List Foot} {c x:CSt},runD f sg b l fs c=some x→runD g sg b l fs c=some x:=by
 intro l;induction l with
 |nil=>intro fs c x k;simpa [runD]using k
 | cons i r ih=>
  intro fs c x k
  have nx:∀ {o:Option CEff} {o':Option CEff},(∀e,o=some e→o'=some e)→nxD f sg b i.op i.dst r fs c o=some x→nxD g sg b i.op i.dst r fs c o'=some x:=by
   intro o o' ho hk;cases o with
   |none=>simp [nxD]at hk
   |some e=>rw [ho e rfl];simp only [nxD]at hk ⊢;exact ih hk
  simp only [runD]at k ⊢;split at k
  ·exact nx (fun e he=>effD_mono h he) k
  ·split at k
   ·split at k
    ·rename_i hc;rw [if_pos hc];exact nx (fun e he=>effD_mono h he) k
    ·rename_i hc;rw [if_neg hc];exact ih k
   ·cases k
theorem stepR_mono {rn rn':RC→CSt→RRes} {f g:CallF} (hr:leR rn rn') (h:leC f g) {sg:Nat→Sig} {r:RC} {c:CSt} {x:Ex×CSt} (k:stepR rn f sg r c=some x):stepR rn' g sg r c=some x:=by
 cases r with
 |skip=>exact k
 |ret=>exact k
 |exit id=>exact k
 |ops l=>
  simp only [stepR]at k ⊢;cases hs:opsC f sg l c with
  |none=>rw [hs]at k;cases k
  |some c1=>rw [hs]at k;rw [opsC_mono h hs];exact k
 |drw b ds l dead=>
  simp only [stepR]at k ⊢;cases hs:runD f sg b l [] (gcC c ds)with
  |none=>rw [hs]at k;cases k
  |some c1=>rw [hs]at k;rw [runD_mono h hs];exact k
 |flt b ds l dead=>
  simp only [stepR]at k ⊢;cases hs:fltC f sg b l [] c with
  |none=>rw [hs]at k;simp [nrm]at k
  |some c1=>rw [hs]at k;rw [fltC_mono h hs];exact k
 |fla b ds l ps dead=>
  simp only [stepR]at k ⊢;cases hs:altC f sg b l ps c with
  |none=>rw [hs]at k;simp [nrm]at k
  |some c1=>rw [hs]at k;rw [altC_mono h hs];exact k
 | seq a b=>
  simp only [stepR]at k ⊢;cases hs:rn a c with
  |none=>rw [hs]at k;cases k
  |some p=>
   rw [hs]at k;rw [hr _ _ _ hs];obtain⟨e,c1⟩:=p;cases e with
   |n=>exact hr _ _ _ k
   |x id=>exact k
   |r=>exact k
 | cond a y z=>
  simp only [stepR]at k ⊢;unfold cnd at k ⊢;split at k
  ·split at k
   ·rename_i hc;rw [if_pos hc];exact hr _ _ _ k
   ·rename_i hc;rw [if_neg hc];exact hr _ _ _ k
  ·cases k
 |block id b=>
  simp only [stepR]at k ⊢;cases hs:rn b c with
  |none=>rw [hs]at k;cases k
  |some p=>rw [hs]at k;rw [hr _ _ _ hs];exact k
 | loop b=>
  simp only [stepR]at k ⊢;cases hs:rn b c with
  |none=>rw [hs]at k;cases k
  |some p=>
   rw [hs]at k;rw [hr _ _ _ hs];obtain⟨e,c1⟩:=p;cases e with
   |n=>exact hr _ _ _ k
   |x id=>exact k
   |r=>exact k
 |pre ds a=>
  simp only [stepR]at k ⊢;cases hs:dirsC c ds with
  |none=>rw [hs]at k;cases k
  |some c1=>rw [hs]at k;exact hr _ _ _ k
 |bad=>cases k
 |post a ds=>
  simp only [stepR]at k ⊢;cases hs:rn a c with
  |none=>rw [hs]at k;cases k
  |some p=>rw [hs]at k;rw [hr _ _ _ hs];exact k
theorem callB_mono {rn rn':RC→CSt→RRes} (hr:leR rn rn') {o:Option FnB} {a:List SV} {os:List SObj} {k:Nat} {x:CRes} (h:callB rn o a os k=some x):callB rn' o a os k=some x:=by
 cases o with
 |none=>cases h
 | some b=>
  cases b with
  |prim f=>exact h
  | code F=>
   simp only [callB,iniC]at h ⊢;split at h
   ·rename_i hc
    rw [if_pos hc];cases hs:rn F.code (initC a os k)with
    |none=>rw [hs]at h;cases h
    |some p=>rw [hs]at h;rw [hr _ _ _ hs];exact h
   ·cases h
variable {T : Table}
theorem runN_succ:∀n,leR (runN T n) (runN T (n+1))
 |0=>fun r c x h=>by simp [runN]at h
 |n+1=>fun r c x h=>by have ih:=runN_succ n;rw [runN]at h ⊢;exact stepR_mono ih (fun g a os k x h=>callB_mono ih h) h
theorem runN_mono {n m:Nat} (h:n≤m):leR (runN T n) (runN T m):=by
 induction m with
 | zero => have:n=0:=by omega
           subst this;exact fun _ _ _ h=>h
 | succ m ih=>
  rcases Nat.lt_or_ge n (m+1)with h1|h1
  ·exact fun r c x hx=>runN_succ m r c x (ih (by omega) r c x hx)
  ·have:n=m+1:=by omega
   subst this;exact fun _ _ _ h=>h
theorem callN_mono {n m:Nat} (h:n≤m):leC (callN T n) (callN T m):=fun _ _ _ _ _ hx=>callB_mono (runN_mono h) hx
theorem lim_some {α:Type} {g:Nat→Option α} (hm:∀n m x,n≤m→g n=some x→g m=some x) {n:Nat} {x:α} (h:g n=some x):lim g=some x:=by have hex:∃n x,g n=some x:=⟨n,x,h⟩;unfold lim;rw [dif_pos hex];obtain⟨y,hy⟩:=Classical.choose_spec hex;have h1:=hm _ (max n (Classical.choose hex)) _ (Nat.le_max_right _ _) hy;have h2:=hm _ (max n (Classical.choose hex)) _ (Nat.le_max_left _ _) h;rw [hy,←h1,h2]
theorem of_lim {α:Type} {g:Nat→Option α} {x:α} (h:lim g=some x):∃n,g n=some x:=by
 unfold lim at h;split at h
 ·exact⟨_,h⟩
 ·cases h
theorem run_of {n:Nat} {r:RC} {c:CSt} {x:Ex×CSt} (h:runN T n r c=some x):run T r c=some x:=lim_some (fun _ _ _ hnm h=>runN_mono hnm _ _ _ h) h
theorem of_run {r:RC} {c:CSt} {x:Ex×CSt} (h:run T r c=some x):∃n,runN T n r c=some x:=of_lim h
theorem call_of {n:Nat} {g:Nat} {a:List SV} {os:List SObj} {k:Nat} {x:CRes} (h:callN T n g a os k=some x):call T g a os k=some x:=lim_some (fun _ _ _ hnm h=>callN_mono hnm _ _ _ _ _ h) h
theorem of_call {g:Nat} {a:List SV} {os:List SObj} {k:Nat} {x:CRes} (h:call T g a os k=some x):∃n,callN T n g a os k=some x:=of_lim h
theorem run_le (n:Nat):leR (runN T n) (run T):=fun _ _ _ h=>run_of h
theorem call_le (n:Nat):leC (callN T n) (call T):=fun _ _ _ _ _ h=>call_of h
theorem callC_cont {sg:Sig} {c:CSt} {d:Option Nat} {g:Nat} {as:List SV} {x:CSt} (k:callC (call T) sg c d g as=some x):∃n,callC (callN T n) sg c d g as=some x:=by
 unfold callC at k ⊢;generalize ((SV.idsL as).isEmpty&&sg.own.isEmpty)=b at k ⊢;cases b with
 |true=>
  simp only [callK]at k ⊢;cases hq:call T g (SV.bareL as) [] 0 with
  |none=>rw [hq]at k;cases k
  |some q=>obtain⟨n,hn⟩:=of_call hq;exact⟨n,by rw [hn];rw [hq]at k;exact k⟩
 | false=>
  simp only [callK]at k ⊢;generalize pubAll c as (slIds sg.raw 0 as)=z at k ⊢;obtain⟨c1,as1⟩:=z;simp only [slowC]at k ⊢;generalize tokL c1.tk sg.own 50 0 as1=z at k ⊢;obtain⟨as',mt1⟩:=z;simp only [slow0]at k ⊢;cases ho:looks c1 (reach c1 60 [] (SV.idsL as'))with
  |none=>rw [ho]at k;cases k
  | some os=>
   rw [ho]at k;simp only [slow1]at k ⊢;generalize tokObs c1.tk (50+mt1.length) os=z at k ⊢;obtain⟨os',mt2⟩:=z;simp only [slow2]at k ⊢;generalize (subB (SV.idsL as'++obsIds os') (reach c1 60 [] (SV.idsL as'))&&nodupB (reach c1 60 [] (SV.idsL as'))&&nodupB (somes (mt1++mt2))&&decide ((reach c1 60 [] (SV.idsL as')).length≤40)&&(reach c1 60 [] (SV.idsL as')).all fun o=> !inR (d.getD 0) o)=b at k ⊢;cases b with
   |false=>cases k
   |true=>
    simp only [slow3]at k ⊢;cases hq:call T g (SV.renL (ixOf (reach c1 60 [] (SV.idsL as'))) id as') (renObL (ixOf (reach c1 60 [] (SV.idsL as'))) id os') (mt1.length+mt2.length)with
    |none=>rw [hq]at k;cases k
    |some q=>obtain⟨n,hn⟩:=of_call hq;exact⟨n,by rw [hn];rw [hq]at k;exact k⟩
theorem opC_cont {sg:Nat→Sig} {c:CSt} {d:Option Nat} {o:SOp} {x:CSt} (k:opC (call T) sg c d o=some x):∃n,opC (callN T n) sg c d o=some x:=by
 cases o with
 |call a as=>simp only [opC]at k ⊢;split at k<;>first|exact callC_cont k|cases k
 |_=>exact⟨0,k⟩
theorem stepC_cont {sg:Nat→Sig} {c:CSt} {i:SI} {x:CSt} (k:stepC (call T) sg c i=some x):∃n,stepC (callN T n) sg c i=some x:=by
 unfold stepC at k ⊢;split at k
 ·exact opC_cont k
 ·split at k
  ·split at k
   ·rename_i hc;simp only [if_pos hc];exact opC_cont k
   ·rename_i hc;simp only [if_neg hc];exact⟨0,k⟩
  ·exact⟨0,k⟩
  ·cases k
theorem plC_cont {sg:Nat→Sig}:∀ {l:List SI} {c x:CSt},plC (call T) sg l c=some x→∃n,plC (callN T n) sg l c=some x:=by
 intro l;induction l with
 |nil=>intro c x k;exact⟨0,by simpa [plC]using k⟩
 | cons i r ih=>
  intro c x k;simp only [plC]at k ⊢;cases hs:opC (call T) sg c i.dst i.op with
  |none=>rw [hs]at k;simp [nxP]at k
  |some c1=>rw [hs]at k;simp only [nxP]at k;obtain⟨n,hn⟩:=opC_cont hs;obtain⟨m,hm⟩:=ih k;refine⟨max n m, ?_⟩;rw [opC_mono (callN_mono (Nat.le_max_left n m)) hn];simp only [nxP];exact plC_mono (callN_mono (Nat.le_max_right n m)) hm
theorem grpC_cont {sg:Nat→Sig} {b:Bool} {l:List SI} {c x:CSt} {v:SV} (k:grpC (call T) sg b l c v=some x):∃n,grpC (callN T n) sg b l c v=some x:=by
 unfold grpC at k ⊢;split at k
 ·split at k
  ·rename_i hc;simp only [if_pos hc];exact plC_cont k
  ·rename_i hc;simp only [if_neg hc];exact⟨0,k⟩
 ·exact⟨0,k⟩
 ·cases k
theorem opsC_cont {sg:Nat→Sig}:∀ {l:List RI} {c x:CSt},opsC (call T) sg l c=some x→∃n,opsC (callN T n) sg l c=some x:=by
 intro l;induction l with
 |nil=>intro c x k;exact⟨0,by simpa [opsC]using k⟩
 | cons i r ih=>
  intro c x k;cases i with
  | op i dead=>
   simp only [opsC]at k ⊢;cases hs:stepC (call T) sg c i with
   |none=>rw [hs]at k;simp [nxC]at k
   |some c1=>rw [hs]at k;simp only [nxC]at k;obtain⟨n,hn⟩:=stepC_cont hs;obtain⟨m,hm⟩:=ih k;refine⟨max n m, ?_⟩;rw [stepC_mono (callN_mono (Nat.le_max_left n m)) hn];simp only [nxC];exact opsC_mono (callN_mono (Nat.le_max_right n m)) hm
  | grp q b l dead=>
   simp only [opsC]at k ⊢;cases hs:grpC (call T) sg b l c (c.get q)with
   |none=>rw [hs]at k;simp [nxC]at k
   |some c1=>rw [hs]at k;simp only [nxC]at k;obtain⟨n,hn⟩:=grpC_cont hs;obtain⟨m,hm⟩:=ih k;refine⟨max n m, ?_⟩;rw [grpC_mono (callN_mono (Nat.le_max_left n m)) hn];simp only [nxC];exact opsC_mono (callN_mono (Nat.le_max_right n m)) hm
  | own i dead=>
   simp only [opsC]at k ⊢;cases hs:ownS c i with
   |none=>rw [hs]at k;simp [nxC]at k
   |some c1=>rw [hs]at k;simp only [nxC]at k ⊢;exact ih k
  | tks i dead=>
   simp only [opsC]at k ⊢;cases hs:tksS c i with
   |none=>rw [hs]at k;simp [nxC]at k
   |some c1=>rw [hs]at k;simp only [nxC]at k ⊢;exact ih k
  | dir d=>
   simp only [opsC]at k ⊢;cases hs:dirC c d with
   |none=>rw [hs]at k;simp [nxC]at k
   |some c1=>rw [hs]at k;simp only [nxC]at k ⊢;exact ih k
theorem effD_cont {sg:Nat→Sig} {c:CSt} {i:SI} {x:CEff} (k:effD (call T) sg c i=some x):∃n,effD (callN T n) sg c i=some x:=by
 unfold effD at k ⊢;split at k
 ·rename_i f as _
  cases hv:c.ev f with
  | fn n a b=>
   rw [hv]at k;simp only [callEV]at k ⊢;generalize ((SV.idsL (a++evL c as++b)).isEmpty&&(sg n).own.isEmpty)=q at k ⊢;cases q with
   | false=>
    simp only [callEK]at k ⊢;generalize (sg n).own.isEmpty=q at k ⊢;cases q with
    |false=>cases k
    | true=>
     simp only [callOW]at k ⊢;generalize SV.idsL (a++evL c as++b)=ids at k ⊢;cases ids with
     |nil=>cases k
     | cons o r=>
      simp only [callO]at k ⊢;cases hl:c.look o with
      |none=>rw [hl]at k;cases k
      | some ob=>
       rw [hl]at k;simp only [callO1]at k ⊢;generalize (ob.ids.isEmpty&&ob.toks.isEmpty&&(SV.idsL (SV.bareL (a++evL c as++b))).all (fun k=>decide (k=o))&&(SV.idsL (SV.renL (ixOf [o]) id (SV.bareL (a++evL c as++b)))).all (fun k=>decide (k=0)))=q at k ⊢;cases q with
       |false=>cases k
       |true=>
        simp only [callO2]at k ⊢;cases hq:call T n (SV.renL (ixOf [o]) id (SV.bareL (a++evL c as++b))) [ob] 0 with
        |none=>rw [hq]at k;cases k
        |some q=>obtain⟨n,hn⟩:=of_call hq;exact⟨n,by rw [hn];rw [hq]at k;exact k⟩
   |true=>
    simp only [callEK]at k ⊢;cases hq:call T n (SV.bareL (a++evL c as++b)) [] 0 with
    |none=>rw [hq]at k;cases k
    |some q=>obtain⟨n,hn⟩:=of_call hq;exact⟨n,by rw [hn];rw [hq]at k;exact k⟩
  |_=>rw [hv]at k;cases k
 ·exact⟨0,k⟩
 ·exact⟨0,k⟩
 ·exact⟨0,k⟩
theorem fltC_cont {sg:Nat→Sig} {b:List Nat}:∀ {l ps:List FI} {c x:CSt},fltC (call T) sg b l ps c=some x→∃n,fltC (callN T n) sg b l ps c=some x:=by
 intro l;induction l with
 |nil=>intro ps c x k;exact⟨0,by simpa [fltC]using k⟩
 | cons i r ih=>
  intro ps c x k;obtain⟨n,q,i⟩:=i;cases q with
  |true=>
   simp only [fltC]at k ⊢;cases hq:qv c i with
   |none=>rw [hq]at k;simp [fltQ]at k
   |some v=>rw [hq]at k;simp only [fltQ]at k ⊢;exact ih k
  | false=>
   simp only [fltC]at k ⊢;cases hs:stepC (call T) sg c i with
   |none=>rw [hs]at k;simp [fltN]at k
   | some c1=>
    rw [hs]at k;simp only [fltN]at k;cases hg:gdP (fchk (b.getD n 0) c1 ps) c1 with
    |none=>rw [hg]at k;simp [fltG]at k
    |some c2=>rw [hg]at k;simp only [fltG]at k;obtain⟨m1,hm1⟩:=stepC_cont hs;obtain⟨m2,hm2⟩:=ih k;refine⟨max m1 m2, ?_⟩;rw [stepC_mono (callN_mono (Nat.le_max_left m1 m2)) hm1];simp only [fltN];rw [hg];simp only [fltG];exact fltC_mono (callN_mono (Nat.le_max_right m1 m2)) hm2
theorem altC_cont {sg:Nat→Sig} {b:List Nat} {l:List FI}:∀ {ps:List (List Nat)} {c x:CSt},altC (call T) sg b l ps c=some x→∃n,altC (callN T n) sg b l ps c=some x
 |[],c,x,k=>by simp [altC]at k
 |[p],c,x,k=>fltC_cont k
 | p::q::r,c,x,k=>by
  simp only [altC]at k ⊢;cases h1:fltC (call T) sg b (ordF l p) [] c with
  |none=>rw [h1]at k;simp [agree]at k
  | some y=>
   cases h2:altC (call T) sg b l (q::r) c with
   |none=>rw [h1,h2]at k;simp [agree]at k
   |some z=>rw [h1,h2]at k;obtain⟨n,hn⟩:=fltC_cont h1;obtain⟨m,hm⟩:=altC_cont h2;exact⟨max n m,by rw [fltC_mono (callN_mono (Nat.le_max_left n m)) hn,altC_mono (callN_mono (Nat.le_max_right n m)) hm];exact k⟩
theorem runD_cont {sg:Nat→Sig} {b:List Nat}:∀ {l:List SI} {fs:List Foot} {c x:CSt},runD (call T) sg b l fs c=some x→∃n,runD (callN T n) sg b l fs c=some x:=by
 intro l;induction l with
 |nil=>intro fs c x k;exact⟨0,by simpa [runD]using k⟩
 | cons i r ih=>
  intro fs c x k
  have nx:nxD (call T) sg b i.op i.dst r fs c (effD (call T) sg c i)=some x→∃n,nxD (callN T n) sg b i.op i.dst r fs c (effD (callN T n) sg c i)=some x:=by
   intro hk;cases ho:effD (call T) sg c i with
   |none=>rw [ho]at hk;simp [nxD]at hk
   |some e=>rw [ho]at hk;simp only [nxD]at hk;obtain⟨n,hn⟩:=effD_cont ho;obtain⟨m,hm⟩:=ih hk;refine⟨max n m, ?_⟩;rw [effD_mono (callN_mono (Nat.le_max_left n m)) hn];simp only [nxD];exact runD_mono (callN_mono (Nat.le_max_right n m)) hm
  simp only [runD]at k ⊢;split at k
  ·exact nx k
  ·split at k
   ·split at k
    ·rename_i hc;simp only [if_pos hc];exact nx k
    ·rename_i hc;simp only [if_neg hc];exact ih k
   ·cases k
theorem two {r s:RC} {c d:CSt} {x y:Ex×CSt} (h:run T r c=some x) (k:run T s d=some y):∃n,runN T n r c=some x∧runN T n s d=some y:=by obtain⟨n,hn⟩:=of_run h;obtain⟨m,hm⟩:=of_run k;exact⟨max n m,runN_mono (Nat.le_max_left n m) _ _ _ hn,runN_mono (Nat.le_max_right n m) _ _ _ hm⟩
theorem stepR_cont {r:RC} {c:CSt} {x:Ex×CSt} (k:stepR (run T) (call T) T.sg r c=some x):∃n,stepR (runN T n) (callN T n) T.sg r c=some x:=by
 cases r with
 |skip=>exact⟨0,k⟩
 |ret=>exact⟨0,k⟩
 |exit id=>exact⟨0,k⟩
 |ops l=>
  simp only [stepR]at k ⊢;cases hs:opsC (call T) T.sg l c with
  |none=>rw [hs]at k;cases k
  |some c1=>obtain⟨n,hn⟩:=opsC_cont hs;exact⟨n,by rw [hn];rw [hs]at k;exact k⟩
 |drw b ds l dead=>
  simp only [stepR]at k ⊢;cases hs:runD (call T) T.sg b l [] (gcC c ds)with
  |none=>rw [hs]at k;cases k
  |some c1=>obtain⟨n,hn⟩:=runD_cont hs;exact⟨n,by rw [hn];rw [hs]at k;exact k⟩
 |flt b ds l dead=>
  simp only [stepR]at k ⊢;cases hs:fltC (call T) T.sg b l [] c with
  |none=>rw [hs]at k;simp [nrm]at k
  |some c1=>obtain⟨n,hn⟩:=fltC_cont hs;exact⟨n,by rw [hn];rw [hs]at k;exact k⟩
 |fla b ds l ps dead=>
  simp only [stepR]at k ⊢;cases hs:altC (call T) T.sg b l ps c with
  |none=>rw [hs]at k;simp [nrm]at k
  |some c1=>obtain⟨n,hn⟩:=altC_cont hs;exact⟨n,by rw [hn];rw [hs]at k;exact k⟩
 | seq a b=>
  simp only [stepR]at k ⊢;cases hs:run T a c with
  |none=>rw [hs]at k;cases k
  |some p=>
   rw [hs]at k;obtain⟨e,c1⟩:=p;cases e with
   |n=>obtain⟨n,h1,h2⟩:=two hs k;exact⟨n,by rw [h1];exact h2⟩
   |x id=>obtain⟨n,hn⟩:=of_run hs;exact⟨n,by rw [hn];exact k⟩
   |r=>obtain⟨n,hn⟩:=of_run hs;exact⟨n,by rw [hn];exact k⟩
 | cond a y z=>
  simp only [stepR]at k ⊢;unfold cnd at k ⊢;split at k
  ·split at k
   ·rename_i hc;simp only [if_pos hc];exact of_run k
   ·rename_i hc;simp only [if_neg hc];exact of_run k
  ·cases k
 |block id b=>
  simp only [stepR]at k ⊢;cases hs:run T b c with
  |none=>rw [hs]at k;cases k
  |some p=>obtain⟨n,hn⟩:=of_run hs;exact⟨n,by rw [hn];rw [hs]at k;exact k⟩
 | loop b=>
  simp only [stepR]at k ⊢;cases hs:run T b c with
  |none=>rw [hs]at k;cases k
  |some p=>
   rw [hs]at k;obtain⟨e,c1⟩:=p;cases e with
   |n=>obtain⟨n,h1,h2⟩:=two hs k;exact⟨n,by rw [h1];exact h2⟩
   |x id=>obtain⟨n,hn⟩:=of_run hs;exact⟨n,by rw [hn];exact k⟩
   |r=>obtain⟨n,hn⟩:=of_run hs;exact⟨n,by rw [hn];exact k⟩
 |pre ds a=>
  simp only [stepR]at k ⊢;cases hs:dirsC c ds with
  |none=>rw [hs]at k;cases k
  |some c1=>rw [hs]at k;exact of_run k
 |bad=>cases k
 |post a ds=>
  simp only [stepR]at k ⊢;cases hs:run T a c with
  |none=>rw [hs]at k;cases k
  |some p=>obtain⟨n,hn⟩:=of_run hs;exact⟨n,by rw [hn];rw [hs]at k;exact k⟩
theorem opt_ext {α:Type} {a b:Option α} (h:∀x,a=some x→b=some x) (k:∀x,b=some x→a=some x):a=b:=by
 cases a with
 |none=>cases b with
  |none=>rfl
  |some x=>exact absurd (k x rfl) (by simp)
 |some x=>exact(h x rfl).symm
theorem run_eq (r:RC) (c:CSt):run T r c=stepR (run T) (call T) T.sg r c:=by
 refine opt_ext (fun x h=> ?_) (fun x h=> ?_)
 ·obtain⟨n,hn⟩:=of_run h
  cases n with
  |zero=>simp [runN]at hn
  |succ n=>rw [runN]at hn;exact stepR_mono (run_le n) (call_le n) hn
 ·obtain⟨n,hn⟩:=stepR_cont h
  exact run_of (n:=n+1) (by rw [runN];exact hn)
theorem call_eq (g:Nat) (a:List SV) (os:List SObj) (k:Nat):call T g a os k=callB (run T) (T.fn g) a os k:=by
 refine opt_ext (fun x h=> ?_) (fun x h=> ?_)
 ·obtain⟨n,hn⟩:=of_call h
  exact callB_mono (run_le n) hn
 ·cases hF:T.fn g with
  |none=>rw [hF]at h;cases h
  | some b=>
   cases b with
   |prim f=>exact call_of (n:=0) (by unfold callN;rw [hF];rw [hF]at h;exact h)
   | code F=>
    rw [hF]at h;simp only [callB,iniC]at h;split at h
    ·rename_i hc
     cases hs:run T F.code (initC a os k)with
     |none=>rw [hs]at h;cases h
     |some p=>obtain⟨n,hn⟩:=of_run hs;refine call_of (n:=n) ?_;unfold callN;rw [hF];simp only [callB,iniC,if_pos hc];rw [hn];rw [hs]at h;exact h
    ·cases h
theorem run_skip (c:CSt):run T .skip c=some (.n,c):=run_eq _ _
theorem run_ret (c:CSt):run T .ret c=some (.r,c):=run_eq _ _
theorem run_exit (id:Nat) (c:CSt):run T (.exit id) c=some (.x id,c):=run_eq _ _
theorem run_ops (l:List RI) (c:CSt):run T (.ops l) c=nrm [] (opsC (call T) T.sg l c):=run_eq _ _
theorem run_fla (b ds:List Nat) (l:List FI) (ps:List (List Nat)) (dead:List Nat) (c:CSt):run T (.fla b ds l ps dead) c=nrm dead (altC (call T) T.sg b l ps c):=run_eq _ _
theorem run_flt (b ds:List Nat) (l:List FI) (dead:List Nat) (c:CSt):run T (.flt b ds l dead) c=nrm dead (fltC (call T) T.sg b l [] c):=run_eq _ _
theorem run_drw (b ds:List Nat) (l:List SI) (dead:List Nat) (c:CSt):run T (.drw b ds l dead) c=nrm dead (runD (call T) T.sg b l [] (gcC c ds)):=run_eq _ _
theorem run_seq (a b:RC) (c:CSt):run T (.seq a b) c=sq (run T) b (run T a c):=run_eq _ _
theorem run_cond (k:Arg) (a b:RC) (c:CSt):run T (.cond k a b) c=cnd (run T) a b c (c.ev k):=run_eq _ _
theorem run_block (id:Nat) (b:RC) (c:CSt):run T (.block id b) c=blk id (run T b c):=run_eq _ _
theorem run_loop (b:RC) (c:CSt):run T (.loop b) c=lp (run T) b (run T b c):=run_eq _ _
theorem run_pre (ds:List Dir) (a:RC) (c:CSt):run T (.pre ds a) c=prD (run T) a (dirsC c ds):=run_eq _ _
theorem run_post (a:RC) (ds:List Dir) (c:CSt):run T (.post a ds) c=psD ds (run T a c):=run_eq _ _
theorem call_code {g:Nat} {F:FnC} (h:T.fn g=some (.code F)) (a:List SV) (os:List SObj) (k:Nat):call T g a os k=finC F os.length (iniC (run T) F a os k):=by rw [call_eq,h];rfl
theorem call_prim {g:Nat} {f:List SV→List SObj→Nat→Option CRes} (h:T.fn g=some (.prim f)) (a:List SV) (os:List SObj) (k:Nat):call T g a os k=f a os k:=by rw [call_eq,h];rfl
end Go.Sy
namespace Go.Sy
variable [LaidData]
variable {call : CallF} {sg : Nat → Sig} {c : CSt} {d : Option Nat} {k : Nat}
theorem gd_pos {α:Type} {p:Prop} [Decidable p] {v:α} (h:p):gd p v=some v:=if_pos h
def putS (c:CSt) (d:Option Nat):Option SV→Option CSt
 |some v=>some (c.put d v)
 |none=>none
theorem putS_some (v:SV):putS c d (some v)=some (c.put d v):=rfl
theorem putS_none:putS c d none=none:=rfl
theorem put_some (l:List (Nat×SV)) (o:List (Nat×SObj)) (t:List Nat) (v:SV):CSt.put ⟨l,o,t⟩ (some k) v=⟨putT l k v,o,t⟩:=rfl
theorem put_none (v:SV):CSt.put c none v=c:=rfl
theorem get_mk (l:List (Nat×SV)) (o:List (Nat×SObj)) (t:List Nat) (n:Nat):CSt.get ⟨l,o,t⟩ n=getT l n:=rfl
theorem look_mk (l:List (Nat×SV)) (o:List (Nat×SObj)) (t:List Nat) (n:Nat):CSt.look ⟨l,o,t⟩ n=getO o n:=rfl
theorem ev_t (n:Nat):c.ev (.t n)=c.get n:=rfl
theorem ev_c (v:SV):c.ev (.c v)=v:=rfl
theorem ev_f (g:Nat):c.ev (.f g)= .fn g [] []:=rfl
theorem kill_nil:c.kill []=c:=rfl
theorem kill_cons (l:List (Nat×SV)) (o:List (Nat×SObj)) (t:List Nat) (n:Nat) (r:List Nat):CSt.kill ⟨l,o,t⟩ (n::r)=⟨delT l (n::r),o,t⟩:=rfl
def valE:Option SV→Option CEff
 |some v=>some {val:=v}
 |none=>none
theorem valE_some (v:SV):valE (some v)=some {val:=v}:=rfl
theorem valE_none:valE none=none:=rfl
theorem effC_val {so:SOp} {o:Option SV} (h:effC c d so=valE o):effS c d (effC c d so)=putS c d o:=by rw [h];cases o<;>rfl
theorem valE_eq (o:Option SV):(match o with|some v=>some {val:=v}|none=>none:Option CEff)=valE o:=by cases o<;>rfl
def nchkC:SV→Option SV
 | .ptr o off=>some (.ptr o off)
 | .ap o sz i j=>some (.ap o sz i j)
 | .pp cs=>some (.pp cs)
 | .fn f a b=>some (.fn f a b)
 |_=>none
def beqC (ne:Bool):SV→SV→Option SV
 | .bool a,.bool b=>some (.bool (if ne then decide (a≠b)else decide (a=b)))
 |_,_=>none
def eqsC (ne:Bool) (ts:List Nat):SV→SV→Option SV
 | .agg cs,.agg ds=>(eqCells ts cs ds).map fun b=> .bool (if ne then !b else b)
 |_,_=>none
def toStrC:SV→Option SV
 | .str l=>some (.str l)
 |_=>none
def isniC (ne:Bool):SV→Option SV
 | .nili=>some (.bool (!ne))
 |_=>none
def s2bC:SV→Option SV
 | .str l=>some (.byt l .no)
 |_=>none
def b2sC (c:CSt):SV→Option SV
 | .str _=>none
 |v=>(bytesC c v).map .str
def slcSC2 (l:List UInt8):Option Int→Option Int→Option SV
 |some a,some b=>gd (0≤a∧a≤b∧b≤l.length) (.str ((l.take b.toNat).drop a.toNat))
 |_,_=>none
def slcSC (c:CSt) (lo hi:Option Arg):SV→Option SV
 | .str l=>slcSC2 l (optC c lo 0) (optC c hi l.length)
 |_=>none
def slcAC (c:CSt) (len sz:Nat) (lo hi mx:Option Arg):SV→Option SV
 | .ptr o off=>if off=0 then slcC c sz (.psl o sz 0 len (some len)) lo hi mx else none
 |_=>none
def faddrC (off:Nat):SV→Option SV
 | .ptr o k=>some (.ptr o (k+off))
 | .ap o sz i j=>some (.ap o sz i (j+off))
 | .pp cs=>some (.pp (cs.drop off))
 |_=>none
def fldC (off n:Nat) (ag:Bool):SV→Option SV
 | .agg cs=>gd (off+n≤cs.length) (mkLoad ag n (cs.drop off))
 |_=>none
def iaddrLC (sz:Nat):SV→Option Int→Option SV
 | .byt l _,some n=>gd (0≤n∧n<l.length∧sz=1) (.pp [.u8 (l.getD n.toNat 0)])
 | .lst sz' xs _,some n=>gd (0≤n∧n<xs.length∧sz=sz') (.pp (xs.getD n.toNat []))
 | .psl o sz' off k _,some n=>gd (0≤n∧n<k∧sz=sz') (.ap o sz (off+n.toNat) 0)
 |_,_=>none
def iaddrAC2 (len sz o off:Nat) (n:Int):Option SObj→Option SV
 |some (.rc _)=>gd (0≤n∧n<len) (.ptr o (off+n.toNat*sz))
 |some _=>gd (off=0∧0≤n∧n<len) (.ap o sz n.toNat 0)
 |none=>none
def iaddrAC (c:CSt) (len sz:Nat):SV→Option Int→Option SV
 | .ptr o off,some n=>iaddrAC2 len sz o off n (c.look o)
 | .pp cs,some n=>gd (0≤n∧n<len∧cs.length=len*sz) (.pp (cs.drop (n.toNat*sz)))
 |_,_=>none
def idxAC (len sz:Nat) (ag:Bool):SV→Option Int→Option SV
 | .agg cs,some n=>gd (0≤n∧n<len∧cs.length=len*sz) (mkLoad ag sz (cs.drop (n.toNat*sz)))
 |_,_=>none
def idxSC:SV→Option Int→Option SV
 | .str l,some n=>gd (0≤n∧n<l.length) (.u8 (l.getD n.toNat 0))
 |_,_=>none
def extC (i:Nat):SV→Option SV
 | .tup vs=>gd (i<vs.length) (vs.getD i .undef)
 |_=>none
def lenC:Option Nat→Option SV
 |some n=>some (.int .i64 (n:Nat))
 |none=>none
def capC:SV→Option SV
 | .psl _ _ _ _ (some m)=>some (.int .i64 m)
 | .byt l t=>if t= .clip then some (.int .i64 l.length)else none
 | .lst _ xs t=>if t= .clip then some (.int .i64 xs.length)else none
 |_=>none
def miniC:SV→SV→Option SV
 | .int k a,.int k' b=>if k=k' then some (.int k (if b<a then b else a))else none
 |_,_=>none
def maxiC:SV→SV→Option SV
 | .int k a,.int k' b=>if k=k' then some (.int k (if a<b then b else a))else none
 |_,_=>none
def buildC:Option (List SV)→Option SV
 |some l=>some (.agg l)
 |none=>none
def litC (sz:Nat):Option (List (List SV))→Option SV
 |some r=>some (.lst sz r .clip)
 |none=>none
def litBC:Option (List UInt8)→Option SV
 |some r=>some (.byt r .clip)
 |none=>none
theorem v_mov (x:Arg):valC c (.mov x)=some (c.ev x):=rfl
theorem v_build (z:List SV) (ps:List (Nat×Nat×Arg)):valC c (.build z ps)=buildC (fillSV z (psC c ps)):=by simp only [valC];cases fillSV z (psC c ps)<;>rfl
theorem v_lit (sz:Nat) (xs:List Arg):valC c (.lit sz xs)=litC sz (rows sz (evL c xs)):=by simp only [valC];cases rows sz (evL c xs)<;>rfl
theorem v_litB (xs:List Arg):valC c (.litB xs)=litBC (toB (evL c xs)):=by simp only [valC];cases toB (evL c xs)<;>rfl
theorem v_load (n:Nat) (ag:Bool) (a:Arg):valC c (.load n ag a)=loadC c n ag (c.ev a):=rfl
theorem v_nchk (x:Arg):valC c (.nchk x)=nchkC (c.ev x):=rfl
theorem v_bin (op:BinOp) (x y:Arg):valC c (.bin op x y)=binC op (c.ev x) (c.ev y):=rfl
theorem v_beq (ne:Bool) (x y:Arg):valC c (.beq ne x y)=beqC ne (c.ev x) (c.ev y):=rfl
theorem v_eqS (ne:Bool) (ts:List Nat) (x y:Arg):valC c (.eqS ne ts x y)=eqsC ne ts (c.ev x) (c.ev y):=rfl
theorem v_un (op:UnOp) (x:Arg):valC c (.un op x)=unSV op (c.ev x):=rfl
theorem v_toInt (q:IntKind) (x:Arg):valC c (.toInt q x)=toIntSV q (c.ev x):=rfl
theorem v_toStr (x:Arg):valC c (.toStr x)=toStrC (c.ev x):=rfl
theorem v_isni (ne:Bool) (x:Arg):valC c (.isni ne x)=isniC ne (c.ev x):=rfl
theorem v_s2b (x:Arg):valC c (.s2b x)=s2bC (c.ev x):=rfl
theorem v_b2s (x:Arg):valC c (.b2s x)=b2sC c (c.ev x):=rfl
theorem v_mkfn (f:Nat) (a b:List Arg):valC c (.mkfn f a b)=some (.fn f (evL c a) (evL c b)):=rfl
theorem v_slcS (x:Arg) (lo hi:Option Arg):valC c (.slcS x lo hi)=slcSC c lo hi (c.ev x):=by simp only [valC];cases c.ev x<;>rfl
theorem v_slcL (sz:Nat) (x:Arg) (lo hi mx:Option Arg):valC c (.slcL sz x lo hi mx)=slcC c sz (c.ev x) lo hi mx:=rfl
theorem v_slcA (len sz:Nat) (x:Arg) (lo hi mx:Option Arg):valC c (.slcA len sz x lo hi mx)=slcAC c len sz lo hi mx (c.ev x):=rfl
theorem v_faddr (off:Nat) (x:Arg):valC c (.faddr off x)=faddrC off (c.ev x):=rfl
theorem v_fld (off n:Nat) (ag:Bool) (x:Arg):valC c (.fld off n ag x)=fldC off n ag (c.ev x):=rfl
theorem v_iaddrL (sz:Nat) (x i:Arg):valC c (.iaddrL sz x i)=iaddrLC sz (c.ev x) (c.ev i).num:=rfl
theorem v_iaddrA (len sz:Nat) (x i:Arg):valC c (.iaddrA len sz x i)=iaddrAC c len sz (c.ev x) (c.ev i).num:=by simp only [valC];unfold iaddrAC iaddrAC2;rfl
theorem v_idxA (len sz:Nat) (ag:Bool) (x i:Arg):valC c (.idxA len sz ag x i)=idxAC len sz ag (c.ev x) (c.ev i).num:=rfl
theorem v_idxS (x i:Arg):valC c (.idxS x i)=idxSC (c.ev x) (c.ev i).num:=rfl
theorem v_ext (x:Arg) (i:Nat):valC c (.ext x i)=extC i (c.ev x):=rfl
theorem v_len (b:Bool) (x:Arg):valC c (.len b x)=lenC (lenSV b (c.ev x)):=by simp only [valC];cases lenSV b (c.ev x)<;>rfl
theorem v_lenC (n:Nat):valC c (.lenC n)=some (.int .i64 n):=rfl
theorem v_cap (x:Arg):valC c (.cap x)=capC (c.ev x):=rfl
theorem v_mini (x y:Arg):valC c (.mini x y)=miniC (c.ev x) (c.ev y):=rfl
theorem v_maxi (x y:Arg):valC c (.maxi x y)=maxiC (c.ev x) (c.ev y):=rfl
def SOp.pure:SOp→Bool
 | .new _| .box _| .mk _ _ _ _| .mkB _ _| .store _ _ _| .app _ _ _ _| .cpy _ _ _| .pick _ _ _| .call _ _| .isnil _ _| .newB _| .slid _=>false
 |_=>true
theorem effC_pure {so:SOp} (h:so.pure=true):effC c d so=valE (valC c so):=by
 cases so<;>first|cases h;done|rfl|exact valE_eq _
theorem opC_pure {so:SOp} (h:so.pure=true):opC call sg c d so=putS c d (valC c so):=by
 have h1:opC call sg c d so=effS c d (effC c d so):=by cases so<;>first|rfl|cases h
 rw [h1];exact effC_val (effC_pure h)
theorem o_mov (x:Arg):opC call sg c d (.mov x)=putS c d (some (c.ev x)):=opC_pure rfl
theorem o_build (z:List SV) (ps:List (Nat×Nat×Arg)):opC call sg c d (.build z ps)=putS c d (buildC (fillSV z (psC c ps))):=(opC_pure rfl).trans (by rw [v_build])
theorem o_lit (sz:Nat) (xs:List Arg):opC call sg c d (.lit sz xs)=putS c d (litC sz (rows sz (evL c xs))):=(opC_pure rfl).trans (by rw [v_lit])
theorem o_litB (xs:List Arg):opC call sg c d (.litB xs)=putS c d (litBC (toB (evL c xs))):=(opC_pure rfl).trans (by rw [v_litB])
theorem o_load (n:Nat) (ag:Bool) (a:Arg):opC call sg c d (.load n ag a)=putS c d (loadC c n ag (c.ev a)):=opC_pure rfl
theorem o_nchk (x:Arg):opC call sg c d (.nchk x)=putS c d (nchkC (c.ev x)):=opC_pure rfl
theorem o_bin (op:BinOp) (x y:Arg):opC call sg c d (.bin op x y)=putS c d (binC op (c.ev x) (c.ev y)):=opC_pure rfl
theorem o_beq (ne:Bool) (x y:Arg):opC call sg c d (.beq ne x y)=putS c d (beqC ne (c.ev x) (c.ev y)):=opC_pure rfl
theorem o_eqS (ne:Bool) (ts:List Nat) (x y:Arg):opC call sg c d (.eqS ne ts x y)=putS c d (eqsC ne ts (c.ev x) (c.ev y)):=opC_pure rfl
theorem o_un (op:UnOp) (x:Arg):opC call sg c d (.un op x)=putS c d (unSV op (c.ev x)):=opC_pure rfl
theorem o_toInt (q:IntKind) (x:Arg):opC call sg c d (.toInt q x)=putS c d (toIntSV q (c.ev x)):=opC_pure rfl
theorem o_toStr (x:Arg):opC call sg c d (.toStr x)=putS c d (toStrC (c.ev x)):=opC_pure rfl
theorem o_newB (xs:List Arg):opC call sg c d (.newB xs)=newBC c d (toB (evL c xs)):=rfl
theorem o_slid (x:Arg):opC call sg c d (.slid x)=slidC c d (c.ev x):=rfl
theorem newBC_some (k:Nat) (l:List UInt8):newBC c (some k) (some l)=some (CSt.app c (some k) {val:= .psl (k+100) 1 0 l.length (some l.length),new:=some (.bar l)}):=rfl
theorem slidC_psl (o off n:Nat) (cap:Option Nat):slidC c d (.psl o 1 off n cap)=slid2 c d o off n cap (c.look o):=rfl
theorem slid2_bar (o off n:Nat) (cap:Option Nat) (l:List UInt8):slid2 c d o off n cap (some (.bar l))=if off+n≤l.length∧cap=some n then some (((c.publish o []).1).put d (.byt ((l.drop off).take n) .clip))else none:=rfl
theorem o_isni (ne:Bool) (x:Arg):opC call sg c d (.isni ne x)=putS c d (isniC ne (c.ev x)):=opC_pure rfl
theorem o_s2b (x:Arg):opC call sg c d (.s2b x)=putS c d (s2bC (c.ev x)):=opC_pure rfl
theorem o_b2s (x:Arg):opC call sg c d (.b2s x)=putS c d (b2sC c (c.ev x)):=opC_pure rfl
theorem o_mkfn (f:Nat) (a b:List Arg):opC call sg c d (.mkfn f a b)=putS c d (some (.fn f (evL c a) (evL c b))):=opC_pure rfl
theorem o_slcS (x:Arg) (lo hi:Option Arg):opC call sg c d (.slcS x lo hi)=putS c d (slcSC c lo hi (c.ev x)):=(opC_pure rfl).trans (by rw [v_slcS])
theorem o_slcL (sz:Nat) (x:Arg) (lo hi mx:Option Arg):opC call sg c d (.slcL sz x lo hi mx)=putS c d (slcC c sz (c.ev x) lo hi mx):=opC_pure rfl
theorem o_slcA (len sz:Nat) (x:Arg) (lo hi mx:Option Arg):opC call sg c d (.slcA len sz x lo hi mx)=putS c d (slcAC c len sz lo hi mx (c.ev x)):=opC_pure rfl
theorem o_faddr (off:Nat) (x:Arg):opC call sg c d (.faddr off x)=putS c d (faddrC off (c.ev x)):=opC_pure rfl
theorem o_fld (off n:Nat) (ag:Bool) (x:Arg):opC call sg c d (.fld off n ag x)=putS c d (fldC off n ag (c.ev x)):=opC_pure rfl
theorem o_iaddrL (sz:Nat) (x i:Arg):opC call sg c d (.iaddrL sz x i)=putS c d (iaddrLC sz (c.ev x) (c.ev i).num):=opC_pure rfl
theorem o_iaddrA (len sz:Nat) (x i:Arg):opC call sg c d (.iaddrA len sz x i)=putS c d (iaddrAC c len sz (c.ev x) (c.ev i).num):=(opC_pure rfl).trans (by rw [v_iaddrA])
theorem o_idxA (len sz:Nat) (ag:Bool) (x i:Arg):opC call sg c d (.idxA len sz ag x i)=putS c d (idxAC len sz ag (c.ev x) (c.ev i).num):=opC_pure rfl
theorem o_idxS (x i:Arg):opC call sg c d (.idxS x i)=putS c d (idxSC (c.ev x) (c.ev i).num):=opC_pure rfl
theorem o_ext (x:Arg) (i:Nat):opC call sg c d (.ext x i)=putS c d (extC i (c.ev x)):=opC_pure rfl
theorem o_len (b:Bool) (x:Arg):opC call sg c d (.len b x)=putS c d (lenC (lenSV b (c.ev x))):=(opC_pure rfl).trans (by rw [v_len])
theorem o_lenC (n:Nat):opC call sg c d (.lenC n)=putS c d (some (.int .i64 n)):=opC_pure rfl
theorem o_cap (x:Arg):opC call sg c d (.cap x)=putS c d (capC (c.ev x)):=opC_pure rfl
theorem o_mini (x y:Arg):opC call sg c d (.mini x y)=putS c d (miniC (c.ev x) (c.ev y)):=opC_pure rfl
theorem o_maxi (x y:Arg):opC call sg c d (.maxi x y)=putS c d (maxiC (c.ev x) (c.ev y)):=opC_pure rfl
def pickC (a b:SV):SV→Option SV
 | .bool t=>some (iteV t a b)
 |_=>none
theorem e_pick (q a b:Arg):effC c d (.pick q a b)=valE (pickC (c.ev a) (c.ev b) (c.ev q)):=by simp only [effC];cases c.ev q<;>rfl
theorem o_pick (q a b:Arg):opC call sg c d (.pick q a b)=putS c d (pickC (c.ev a) (c.ev b) (c.ev q)):=effC_val (e_pick q a b)
def isnilC (ne:Bool):SV→Option SV
 | .byt l _=>gd (l≠ []) (.bool ne)
 | .lst _ xs _=>gd (xs≠ []) (.bool ne)
 | .psl _ _ _ _ _=>some (.bool ne)
 |_=>none
theorem e_isnil (ne:Bool) (x:Arg):effC c d (.isnil ne x)=valE (isnilC ne (c.ev x)):=by simp only [effC];cases c.ev x<;>first|rfl|(simp only [isnilC];unfold gd;split<;>rfl)
theorem o_isnil (ne:Bool) (x:Arg):opC call sg c d (.isnil ne x)=putS c d (isnilC ne (c.ev x)):=effC_val (e_isnil ne x)
def addN (c:CSt) (k:Nat) (o:SObj) (v:SV):CSt:=CSt.app c (some k) {val:=v,new:=some o}
theorem addN_eq (l:List (Nat×SV)) (ob:List (Nat×SObj)) (t:List Nat) (o:SObj) (v:SV):
 addN ⟨l,ob,t⟩ k o v=⟨putT (purgeT (k+100) (k+101) l) k v,putO (purgeO (k+100) (k+101) ob) (k+100) (o.purge (k+100) (k+101)),dropT (k+100) (k+101) t⟩:=rfl
def addS (c:CSt) (k:Nat) (v:SV):Option SObj→Option CSt
 |some o=>some (addN c k o v)
 |none=>none
theorem addS_some (v:SV) (o:SObj):addS c k v (some o)=some (addN c k o v):=rfl
theorem o_new (o:SObj):opC call sg c (some k) (.new o)=addS c k (.ptr (k+100) 0) (gd (o.wf=true) o):=by show effS c (some k) (gd _ _)=_;unfold gd;split<;>rfl
theorem o_box (x:Arg):opC call sg c (some k) (.box x)=some (addN c k (.rc (c.ev x).cells) (.ptr (k+100) 0)):=rfl
def mkE (bytes:Nat):SV→SV→Option (Nat×Nat)
 | .int _ n,.int _ m=>gd (0≤n∧n≤m∧bytes*m≤140737488355328∧m≤9223372036854775807) (n.toNat,m.toNat)
 |_,_=>none
def mkS (c:CSt) (k:Nat) (z:List SV):Option (Nat×Nat)→Option CSt
 |some p=>some (addN c k (.arr z.length (List.replicate p.2 z)) (.psl (k+100) z.length 0 p.1 (some p.2)))
 |none=>none
theorem o_mk (z:List SV) (bytes:Nat) (n m:Arg):opC call sg c (some k) (.mk z bytes n m)=mkS c k z (mkE bytes (c.ev n) (c.ev m)):=by show effS c (some k) (effC c (some k) (.mk z bytes n m))=_;simp only [effC];cases h1:c.ev n<;>cases h2:c.ev m<;>first|rfl|(simp only [mkE];unfold gd;split<;>rfl)
def mkBE:SV→SV→Option (Nat×Nat)
 | .int _ n,.int _ m=>gd (0≤n∧n≤m∧m≤140737488355328) (n.toNat,m.toNat)
 |_,_=>none
def mkBS (c:CSt) (k:Nat):Option (Nat×Nat)→Option CSt
 |some p=>some (addN c k (.bar (List.replicate p.2 0)) (.psl (k+100) 1 0 p.1 (some p.2)))
 |none=>none
theorem o_mkB (n m:Arg):opC call sg c (some k) (.mkB n m)=mkBS c k (mkBE (c.ev n) (c.ev m)):=by show effS c (some k) (effC c (some k) (.mkB n m))=_;simp only [effC];cases h1:c.ev n<;>cases h2:c.ev m<;>first|rfl|(simp only [mkBE];unfold gd;split<;>rfl)
def stC (c:CSt) (n:Nat) (v:List SV):SV→Option (Nat×SObj)
 | .ptr o off=>match c.look o with
  |some (.rc cs)=>gd (off+n≤cs.length∧v.length=n∧v.all SV.one=true) (o,.rc (setCells cs off v))
  |some (.arr sz xs)=>gd (off=0∧n=xs.length*sz∧v.length=n∧v.all SV.isData=true) (o,.arr sz (chunk sz xs.length (v.map SV.data)))
  |some (.bar l)=>match toB v with
   |some l'=>gd (off=0∧n=l.length∧l'.length=n) (o,.bar l')
   |none=>none
  |_=>none
 | .ap o sz i j=>match c.look o with
  |some (.arr sz' xs)=>gd (sz=sz'∧i<xs.length∧j+n≤sz∧v.length=n∧v.all SV.isData=true) (o,.arr sz' (setRow sz xs i j n (v.map SV.data)))
  |some (.bar l)=>match v with
   |[.u8 b]=>gd (sz=1∧j=0∧n=1∧i<l.length) (o,.bar (l.set i b))
   |_=>none
  |_=>none
 |_=>none
def stS (c:CSt):Option (Nat×SObj)→Option CSt
 |some p=>some ⟨c.tm,putO c.ob p.1 p.2,c.tk⟩
 |none=>none
theorem stS_some (l:List (Nat×SV)) (ob:List (Nat×SObj)) (t:List Nat) (p:Nat×SObj):stS ⟨l,ob,t⟩ (some p)=some ⟨l,putO ob p.1 p.2,t⟩:=rfl
theorem storeC_eq (n:Nat) (v:List SV) (a:SV):storeC c n v a=(stC c n v a).map fun p=> {val:= .undef,wr:=[p]}:=by
 cases a with
 | ptr o off=>
  simp only [storeC,stC];cases c.look o with
  |none=>rfl
  |some ob=>
   cases ob with
   |rc cs=>simp only;unfold gd;split<;>rfl
   |arr sz' xs=>simp only;unfold gd;split<;>rfl
   |bar l=>simp only;cases toB v<;>first|rfl|(simp only;unfold gd;split<;>rfl)
 | ap o sz i j=>
  simp only [storeC,stC];cases c.look o with
  |none=>rfl
  | some ob=>
   cases ob with
   |rc cs=>rfl
   |arr sz' xs=>simp only;unfold gd;split<;>rfl
   |bar l=>
    rcases v with _|⟨u,_|⟨u2,r⟩⟩
    ·rfl
    ·cases u<;>first|rfl|(simp only;unfold gd;split<;>rfl)
    ·cases u<;>rfl
 |_=>rfl
theorem o_store (n:Nat) (a x:Arg):opC call sg c none (.store n a x)=if(c.ev x).isDef=true then stS c (stC c n (c.ev x).cells (c.ev a))else none:=by
 show effS c none (effC c none (.store n a x))=_;simp only [effC];split
 ·rw [storeC_eq];cases stC c n (c.ev x).cells (c.ev a)<;>rfl
 ·rfl
def apB (c:CSt) (k:Nat) (l:List UInt8) (t:Tok) (z:List SV) (bytes:Nat):Option (List UInt8)→Option CSt
 |some l'=>if z.length=1∧bytes=1∧t.readyC c=true∧l.length+l'.length≤140737488355328 then some (CSt.app c (some k) {val:= .byt (l++l') (.id (k+100)),eat:=t,tok:=true})else none
 |none=>none
def apL (c:CSt) (k:Nat) (sz':Nat) (l:List (List SV)) (t:Tok) (z:List SV) (bytes:Nat):Option (List (List SV))→Option CSt
 |some l'=>if z.length=sz'∧t.readyC c=true∧(l.length+l'.length)*bytes≤140737488355328 then some (CSt.app c (some k) {val:= .lst z.length (l++l') (.id (k+100)),eat:=t,tok:=true})else none
 |none=>none
theorem appT_eq (l:List (Nat×SV)) (ob:List (Nat×SObj)) (t:List Nat) (v:SV) (e:Tok):
 CSt.app ⟨l,ob,t⟩ (some k) {val:=v,eat:=e,tok:=true}=⟨putT (purgeT (k+100) (k+101) l) k v,purgeO (k+100) (k+101) ob,putK (dropT (k+100) (k+101) (e.eat t)) (k+100)⟩:=rfl
def apS (c:CSt) (k:Nat) (z:List SV) (bytes:Nat) (y:SV):SV→Option CSt
 | .byt l t=>apB c k l t z bytes (bytesC c y)
 | .lst sz' l t=>apL c k sz' l t z bytes (rowsC c z.length y)
 |_=>none
theorem o_app (z:List SV) (bytes:Nat) (x y:Arg):opC call sg c (some k) (.app z bytes x y)=apS c k z bytes (c.ev y) (c.ev x):=by
 show effS c (some k) (effC c (some k) (.app z bytes x y))=_;simp only [effC];cases c.ev x<;>try rfl
 ·simp only [apS]
  cases bytesC c (c.ev y)with
  |none=>rfl
  |some l'=>simp only [Option.bind_some,apB];unfold gd;split<;>rfl
 ·simp only [apS]
  cases rowsC c z.length (c.ev y)with
  |none=>rfl
  |some l'=>simp only [Option.bind_some,apL];unfold gd;split<;>rfl
def cpB (o off n:Nat) (sz sz':Nat) (l:List UInt8):Option (List UInt8)→Option (SV×Nat×SObj)
 |some l'=>gd (sz=1∧sz'=1∧off+n≤l.length) (.int .i64 (min l'.length n:Nat),o,.bar (l.take off++l'.take n++l.drop (off+(l'.take n).length)))
 |none=>none
def cpL (b:Bool) (o off n:Nat) (sz sz' sz'':Nat) (xs:List (List SV)):Option (List (List SV))→Option (SV×Nat×SObj)
 |some l'=>gd (b=true∧sz=sz'∧sz=sz''∧off+n≤xs.length) (.int .i64 (min l'.length n:Nat),o,.arr sz (xs.take off++l'.take n++xs.drop (off+(l'.take n).length)))
 |none=>none
def cp2 (b:Bool) (c:CSt) (sz o sz' off n:Nat) (y:SV):Option SObj→Option (SV×Nat×SObj)
 |some (.bar l)=>cpB o off n sz sz' l (bytesC c y)
 |some (.arr sz'' xs)=>cpL b o off n sz sz' sz'' xs (rowsC c sz y)
 |_=>none
def cpC (b:Bool) (c:CSt) (sz:Nat) (y:SV):SV→Option (SV×Nat×SObj)
 | .psl o sz' off n _=>cp2 b c sz o sz' off n y (c.look o)
 |_=>none
def cpS (c:CSt) (d:Option Nat):Option (SV×Nat×SObj)→Option CSt
 |some p=>some (CSt.put ⟨c.tm,putO c.ob p.2.1 p.2.2,c.tk⟩ d p.1)
 |none=>none
theorem o_cpy (sz:Nat) (x y:Arg):opC call sg c d (.cpy sz x y)=cpS c d (cpC y.isT c sz (c.ev y) (c.ev x)):=by
 show effS c d (effC c d (.cpy sz x y))=_;simp only [effC];cases c.ev x<;>try rfl
 rename_i o sz' off n cap;simp only [cpC];cases c.look o with
 |none=>rfl
 | some ob=>
  cases ob with
  |rc cs=>rfl
  |bar l=>
   simp only [cp2];cases bytesC c (c.ev y)with
   |none=>rfl
   |some l'=>simp only [Option.bind_some,cpB];unfold gd;split<;>rfl
  |arr sz'' xs=>
   simp only [cp2];cases rowsC c sz (c.ev y)with
   |none=>rfl
   |some l'=>simp only [Option.bind_some,cpL];unfold gd;split<;>rfl
def callV (call:CallF) (sg:Nat→Sig) (c:CSt) (d:Option Nat) (as:List SV):SV→Option CSt
 | .fn g a b=>callC call (sg g) c d g (a++as++b)
 |_=>none
theorem o_call (f:Arg) (as:List Arg):opC call sg c d (.call f as)=callV call sg c d (evL c as) (c.ev f):=by simp only [opC];unfold callV;rfl
theorem s_none (o:SOp):stepC call sg c ⟨d,none,o⟩=opC call sg c d o:=rfl
theorem p_cons (g:Option (Nat×Bool)) (o:SOp) (r:List SI):plC call sg (⟨d,g,o⟩::r) c=nxP call sg r (opC call sg c d o):=by rw [plC]
theorem ops_nil:opsC call sg [] c=some c:=by rw [opsC]
theorem ops_op (i:SI) (dead:List Nat) (r:List RI):opsC call sg (.op i dead::r) c=nxC call sg dead r (stepC call sg c i):=by rw [opsC]
theorem ops_grp (g:Nat) (b:Bool) (l:List SI) (dead:List Nat) (r:List RI):opsC call sg (.grp g b l dead::r) c=nxC call sg dead r (grpC call sg b l c (c.get g)):=by rw [opsC]
theorem ops_tks (i:SI) (dead:List Nat) (r:List RI):opsC call sg (.tks i dead::r) c=nxC call sg dead r (tksS c i):=by rw [opsC]
theorem tks_s2b (d:Option Nat) (x:Arg):tksS c ⟨d,none,.s2b x⟩=tks1 c d (c.ev x):=rfl
theorem tks1_s (k:Nat) (l:List UInt8):tks1 c (some k) (.str l)=some (CSt.app c (some k) {val:= .byt l (.id (k+100)),tok:=true}):=rfl
theorem ops_own (i:SI) (dead:List Nat) (r:List RI):opsC call sg (.own i dead::r) c=nxC call sg dead r (ownS c i):=by rw [opsC]
theorem own_s2b (d:Option Nat) (x:Arg):ownS c ⟨d,none,.s2b x⟩=own1 c d (c.ev x):=rfl
theorem own_lit (d:Option Nat) (sz:Nat) (xs:List Arg):ownS c ⟨d,none,.lit sz xs⟩=own5 c sz d (rows sz (evL c xs)):=rfl
theorem own_litB (d:Option Nat) (xs:List Arg):ownS c ⟨d,none,.litB xs⟩=newBC c d (toB (evL c xs)):=rfl
theorem own_app (d:Option Nat) (z:List SV) (b:Nat) (x y:Arg):ownS c ⟨d,none,.app z b x y⟩=own2 c d z b y (c.ev x):=rfl
theorem ops_dir (q:Dir) (r:List RI):opsC call sg (.dir q::r) c=nxC call sg [] r (dirC c q):=by rw [opsC]
theorem nx_some (dead:List Nat) (r:List RI):nxC call sg dead r (some c)=opsC call sg r (c.kill dead):=by rw [nxC]
theorem nx_none (dead:List Nat) (r:List RI):nxC call sg dead r none=none:=by rw [nxC]
theorem pl_nil:plC call sg [] c=some c:=by rw [plC]
theorem np_some (r:List SI):nxP call sg r (some c)=plC call sg r c:=by rw [nxP]
theorem np_none (r:List SI):nxP call sg r none=none:=by rw [nxP]
theorem un_nil:unL c []=c:=rfl
theorem un_cons (g:Option (Nat×Bool)) (o:SOp) (r:List SI):unL c (⟨d,g,o⟩::r)=unL (c.put d (.tup [])) r:=rfl
theorem grp_n (b:Bool) (l:List SI):grpC call sg b l c (.tup [])=some (unL c l):=rfl
theorem grp_b (b t:Bool) (l:List SI):grpC call sg b l c (.bool t)=if t=b then plC call sg l c else some (unL c l):=rfl
theorem nx_ite (dead:List Nat) (r:List RI) (p:Prop) [Decidable p] (a b:Option CSt):nxC call sg dead r (if p then a else b)=if p then nxC call sg dead r a else nxC call sg dead r b:=by split<;>rfl
theorem ite_mk (p:Prop) [Decidable p] (l l':List (Nat×SV)) (o:List (Nat×SObj)) (t:List Nat):(if p then some (CSt.mk l o t)else some (CSt.mk l' o t))=some (CSt.mk (if p then l else l') o t):=by split<;>rfl
theorem ite_tm (p:Prop) [Decidable p] (n:Nat) (v w:SV) (l l':List (Nat×SV)):(if p then(n,v)::l else(n,w)::l')=(n,if p then v else w)::(if p then l else l'):=by split<;>rfl
theorem ite_nil (p:Prop) [Decidable p]:(if p then([]:List (Nat×SV))else [])=[]:=by split<;>rfl
theorem ite_same {α:Type} (p:Prop) [Decidable p] (a:α):(if p then a else a)=a:=by split<;>rfl
theorem ite_sint (p:Prop) [Decidable p] (q:IntKind) (a b:Int):(if p then SV.int q a else SV.int q b)= .int q (if p then a else b):=by split<;>rfl
theorem ite_sbool (p:Prop) [Decidable p] (a b:Bool):(if p then SV.bool a else SV.bool b)= .bool (if p then a else b):=by split<;>rfl
theorem ite_su8 (p:Prop) [Decidable p] (a b:UInt8):(if p then SV.u8 a else SV.u8 b)= .u8 (if p then a else b):=by split<;>rfl
theorem iteV_bool (t a b:Bool):iteV t (.bool a) (.bool b)= .bool (if t=true then a else b):=by cases t<;>rfl
theorem iteV_int (t:Bool) (q:IntKind) (a b:Int):iteV t (.int q a) (.int q b)= .int q (if t=true then a else b):=by cases t<;>rfl
theorem iteV_u8 (t:Bool) (a b:UInt8):iteV t (.u8 a) (.u8 b)= .u8 (if t=true then a else b):=by cases t<;>rfl
theorem iteV_true (a b:SV):iteV true a b=a:=rfl
theorem iteV_false (a b:SV):iteV false a b=b:=rfl
variable {rn : RC → CSt → RRes}
theorem nrm_some (dead:List Nat):nrm dead (some c)=some (.n,c.kill dead):=rfl
theorem nrm_none (dead:List Nat):nrm dead none=none:=rfl
theorem nrm_ite (dead:List Nat) (p:Prop) [Decidable p] (a b:Option CSt):nrm dead (if p then a else b)=if p then nrm dead a else nrm dead b:=by split<;>rfl
theorem sq_n (b:RC):sq rn b (some (.n,c))=rn b c:=rfl
theorem sq_x (b:RC) (id:Nat):sq rn b (some (.x id,c))=some (.x id,c):=rfl
theorem sq_r (b:RC):sq rn b (some (.r,c))=some (.r,c):=rfl
theorem sq_none (b:RC):sq rn b none=none:=rfl
theorem sq_ite (b:RC) (p:Prop) [Decidable p] (x y:RRes):sq rn b (if p then x else y)=if p then sq rn b x else sq rn b y:=by split<;>rfl
theorem cnd_b (a b:RC) (t:Bool):cnd rn a b c (.bool t)=if t=true then rn a c else rn b c:=rfl
theorem blk_n (id:Nat):blk id (some (.n,c))=some (.n,c):=rfl
theorem blk_r (id:Nat):blk id (some (.r,c))=some (.r,c):=rfl
theorem blk_x (id id':Nat):blk id (some (.x id',c))=if id'=id then some (.n,c)else some (.x id',c):=rfl
theorem blk_none (id:Nat):blk id none=none:=rfl
theorem blk_ite (id:Nat) (p:Prop) [Decidable p] (x y:RRes):blk id (if p then x else y)=if p then blk id x else blk id y:=by split<;>rfl
theorem lp_n (b:RC):lp rn b (some (.n,c))=rn (.loop b) c:=rfl
theorem lp_x (b:RC) (id:Nat):lp rn b (some (.x id,c))=some (.x id,c):=rfl
theorem lp_r (b:RC):lp rn b (some (.r,c))=some (.r,c):=rfl
theorem lp_none (b:RC):lp rn b none=none:=rfl
theorem lp_ite (b:RC) (p:Prop) [Decidable p] (x y:RRes):lp rn b (if p then x else y)=if p then lp rn b x else lp rn b y:=by split<;>rfl
theorem prD_some (a:RC):prD rn a (some c)=rn a c:=rfl
theorem psD_n (ds:List Dir):psD ds (some (.n,c))=prD (fun _ c=>some (.n,c)) .skip (dirsC c ds):=by simp only [psD];cases dirsC c ds<;>rfl
theorem psD_x (ds:List Dir) (id:Nat):psD ds (some (.x id,c))=some (.x id,c):=rfl
theorem psD_r (ds:List Dir):psD ds (some (.r,c))=some (.r,c):=rfl
theorem psD_none (ds:List Dir):psD ds none=none:=rfl
theorem psD_ite (ds:List Dir) (p:Prop) [Decidable p] (x y:RRes):psD ds (if p then x else y)=if p then psD ds x else psD ds y:=by split<;>rfl
theorem dirs_nil:dirsC c []=some c:=rfl
def dirN (ds:List Dir):Option CSt→Option CSt
 |some c=>dirsC c ds
 |none=>none
theorem dirs_cons (q:Dir) (ds:List Dir):dirsC c (q::ds)=dirN ds (dirC c q):=by simp only [dirsC];cases dirC c q<;>rfl
theorem dirN_some (ds:List Dir):dirN ds (some c)=dirsC c ds:=rfl
theorem fin_n (F:FnC) (n:Nat):finC F n (some (.n,c))=fin0 F.keep F.raw n c (resC c F.rs):=rfl
theorem fin_r (F:FnC) (n:Nat):finC F n (some (.r,c))=fin0 F.keep F.raw n c (resC c F.rs):=rfl
theorem fin_ite (F:FnC) (n:Nat) (p:Prop) [Decidable p] (x y:RRes):finC F n (if p then x else y)=if p then finC F n x else finC F n y:=by split<;>rfl
theorem callC_eq (sg:Sig) (g:Nat) (as:List SV):callC call sg c d g as=callK call sg c d g as ((SV.idsL as).isEmpty&&sg.own.isEmpty):=rfl
theorem callK_t (sg:Sig) (g:Nat) (as:List SV):callK call sg c d g as true=fastC c d (call g (SV.bareL as) [] 0):=rfl
theorem callK_f (sg:Sig) (g:Nat) (as:List SV):callK call sg c d g as false=slowC call sg d g (pubAll c as (slIds sg.raw 0 as)):=rfl
theorem fastC_s (q:CRes):fastC c d (some q)=fast2 c d q q.bare:=rfl
theorem fast2_t (q:CRes):fast2 c d q true=some (c.put d q.r):=rfl
theorem fast2_f (q:CRes):fast2 c d q false=fast3 c d q q.small:=rfl
theorem fast3_t (q:CRes):fast3 c d q true=some (afterC c d [] [] q):=rfl
theorem bare_mk (r:SV) (os:List (Nat×SObj)) (tk:List Nat):(CRes.mk r os tk).bare=(os.isEmpty&&tk.isEmpty&&r.ids.isEmpty&&r.toks.isEmpty):=rfl
theorem small_mk (r:SV) (os:List (Nat×SObj)) (tk:List Nat):(CRes.mk r os tk).small=(os.all (fun p=>decide (p.1<1000)&&p.2.ids.all (fun k=>decide (k<1000))&&p.2.toks.all (fun k=>decide (k<1000)))&&r.ids.all (fun k=>decide (k<1000))&&r.toks.all (fun k=>decide (k<1000))&&tk.all (fun k=>decide (k<1000))):=rfl
theorem slowC_p (sg:Sig) (g:Nat) (as:List SV):slowC call sg d g (c,as)=slow0 call c d g (tokL c.tk sg.own 50 0 as):=rfl
theorem slow0_p (g:Nat) (as:List SV) (mt1:List (Option Nat)):slow0 call c d g (as,mt1)=slow1 call c d g as mt1 (reach c 60 [] (SV.idsL as)) (looks c (reach c 60 [] (SV.idsL as))):=rfl
theorem slow1_s (g:Nat) (as:List SV) (mt1:List (Option Nat)) (m:List Nat) (os:List SObj):slow1 call c d g as mt1 m (some os)=slow2 call c d g as mt1 m (tokObs c.tk (50+mt1.length) os):=rfl
theorem slow2_p (g:Nat) (as:List SV) (mt1:List (Option Nat)) (m:List Nat) (os:List SObj) (mt2:List (Option Nat)):slow2 call c d g as mt1 m (os,mt2)=
 slow3 call c d g as mt1 m os mt2 (subB (SV.idsL as++obsIds os) m&&nodupB m&&nodupB (somes (mt1++mt2))&&decide (m.length≤40)&&m.all fun o=> !inR (d.getD 0) o):=rfl
theorem slow3_t (g:Nat) (as:List SV) (mt1:List (Option Nat)) (m:List Nat) (os:List SObj) (mt2:List (Option Nat)):slow3 call c d g as mt1 m os mt2 true=
 slow4 c d m (somes (mt1++mt2)) (call g (SV.renL (ixOf m) id as) (renObL (ixOf m) id os) (mt1.length+mt2.length)):=rfl
theorem slow4_s (m mt:List Nat) (q:CRes):slow4 c d m mt (some q)=slow5 c d m mt q q.small:=rfl
theorem slow5_t (m mt:List Nat) (q:CRes):slow5 c d m mt q true=some (afterC c d m mt q):=rfl
theorem fin0_s (keep raw:List Nat) (vs:List SV):fin0 keep raw k c (some vs)=finP keep k (pubAll c vs (slIds raw 0 vs)):=rfl
theorem finP_p (keep:List Nat) (vs:List SV):finP keep k (c,vs)=fin1 keep k c vs (decide (k=0)&&(SV.idsL vs).isEmpty&&keep.isEmpty):=rfl
theorem fin1_t (keep:List Nat) (vs:List SV):fin1 keep k c vs true=some ⟨oneSV (SV.bareL vs),[],[]⟩:=rfl
theorem fin1_f (keep:List Nat) (vs:List SV):fin1 keep k c vs false=fin2 k c (tokL c.tk keep 60 0 vs):=rfl
theorem fin2_p (vs:List SV) (mt1:List (Option Nat)):fin2 k c (vs,mt1)=fin3 k c vs mt1 (reach c 60 [] (upto k++SV.idsL vs)) (looks c (reach c 60 [] (upto k++SV.idsL vs))):=rfl
theorem fin3_s (vs:List SV) (mt1:List (Option Nat)) (m:List Nat) (os:List SObj):fin3 k c vs mt1 m (some os)=fin4 k vs mt1 m (tokObs c.tk (60+mt1.length) os):=rfl
theorem fin4_p (vs:List SV) (mt1:List (Option Nat)) (m:List Nat) (os:List SObj) (mt2:List (Option Nat)):fin4 k vs mt1 m (os,mt2)=
 fin5 k vs mt1 m os mt2 (subB (SV.idsL vs++obsIds os) m&&nodupB m&&nodupB (somes (mt1++mt2))&&decide (m.take k=upto k)&&(m.drop k).all fun o=>decide (k≤o)):=rfl
theorem fin5_t (vs:List SV) (mt1:List (Option Nat)) (m:List Nat) (os:List SObj) (mt2:List (Option Nat)):fin5 k vs mt1 m os mt2 true=
 some ⟨(oneSV vs).ren (newIx k m) id,(zipIx 0 (renObL (newIx k m) id (os.take k)))++(zipIx (100+k) (renObL (newIx k m) id (os.drop k))),tks 60 (mt1.length+mt2.length)⟩:=rfl
theorem oneSV_1 (v:SV):oneSV [v]=v:=rfl
theorem oneSV_2 (v w:SV) (r:List SV):oneSV (v::w::r)= .tup (v::w::r):=rfl
theorem oneSV_0:oneSV []= .tup []:=rfl
theorem callE_s (q:CRes):callE (some q)=callE2 q q.bare:=rfl
theorem callE2_t (q:CRes):callE2 q true=some {val:=q.r}:=rfl
theorem callEK_t (b:Bool) (g:Nat) (as:List SV):callEK call c b g as true=callE (call g (SV.bareL as) [] 0):=rfl
theorem callEK_f (b:Bool) (g:Nat) (as:List SV):callEK call c b g as false=callOW call c g as b:=rfl
theorem callOW_t (g:Nat) (as:List SV):callOW call c g as true=callO call c g (SV.bareL as) (SV.idsL as):=rfl
theorem callO_c (g:Nat) (as:List SV) (o:Nat) (r:List Nat):callO call c g as (o::r)=callO1 call o g as (c.look o):=rfl
theorem callO1_s (o g:Nat) (as:List SV) (ob:SObj):callO1 call o g as (some ob)=callO2 call o g as ob (ob.ids.isEmpty&&ob.toks.isEmpty&&(SV.idsL as).all (fun k=>decide (k=o))&&(SV.idsL (SV.renL (ixOf [o]) id as)).all (fun k=>decide (k=0))):=rfl
theorem callO2_t (o g:Nat) (as:List SV) (ob:SObj):callO2 call o g as ob true=callO3 o (call g (SV.renL (ixOf [o]) id as) [ob] 0):=rfl
theorem callO3_s (o:Nat) (r:SV) (cs:List SV):callO3 o (some ⟨r,[(0,.rc cs)],[]⟩)=callO4 o r cs (r.ids.isEmpty&&r.toks.isEmpty&&(SV.idsL cs).isEmpty&&(SV.toksL cs).isEmpty):=rfl
theorem callO4_t (o:Nat) (r:SV) (cs:List SV):callO4 o r cs true=some {val:=r,wr:=[(o,.rc cs)]}:=rfl
theorem callEV_f (sg:Nat→Sig) (g:Nat) (a as b:List SV):callEV call sg c as (.fn g a b)=callEK call c (sg g).own.isEmpty g (a++as++b) ((SV.idsL (a++as++b)).isEmpty&&(sg g).own.isEmpty):=rfl
theorem slId_int (raw:List Nat) (i:Nat) (q:IntKind) (n:Int):slId raw i (.int q n)=[]:=rfl
theorem slId_bool (raw:List Nat) (i:Nat) (b:Bool):slId raw i (.bool b)=[]:=rfl
theorem slId_u8 (raw:List Nat) (i:Nat) (b:UInt8):slId raw i (.u8 b)=[]:=rfl
theorem slId_str (raw:List Nat) (i:Nat) (l:List UInt8):slId raw i (.str l)=[]:=rfl
theorem slId_byt (raw:List Nat) (i:Nat) (l:List UInt8) (t:Tok):slId raw i (.byt l t)=[]:=rfl
theorem slId_lst (raw:List Nat) (i sz:Nat) (l:List (List SV)) (t:Tok):slId raw i (.lst sz l t)=[]:=rfl
theorem slId_nilp (raw:List Nat) (i:Nat):slId raw i .nilp=[]:=rfl
theorem slId_nili (raw:List Nat) (i:Nat):slId raw i .nili=[]:=rfl
theorem slId_undef (raw:List Nat) (i:Nat):slId raw i .undef=[]:=rfl
theorem slId_pp (raw:List Nat) (i:Nat) (l:List SV):slId raw i (.pp l)=[]:=rfl
theorem slId_ptr (raw:List Nat) (i o off:Nat):slId raw i (.ptr o off)=[]:=rfl
theorem slId_ap (raw:List Nat) (i o sz a b:Nat):slId raw i (.ap o sz a b)=[]:=rfl
theorem slId_agg (raw:List Nat) (i:Nat) (l:List SV):slId raw i (.agg l)=if raw.contains i=true then []else slAgg l:=rfl
theorem slAgg_nil:slAgg []=[]:=rfl
theorem slAgg_cons (v:SV) (r:List SV):slAgg (v::r)=slId1 v++slAgg r:=rfl
theorem slId1_int (q:IntKind) (n:Int):slId1 (.int q n)=[]:=rfl
theorem slId1_bool (b:Bool):slId1 (.bool b)=[]:=rfl
theorem slId1_u8 (b:UInt8):slId1 (.u8 b)=[]:=rfl
theorem slId1_str (l:List UInt8):slId1 (.str l)=[]:=rfl
theorem slId1_byt (l:List UInt8) (t:Tok):slId1 (.byt l t)=[]:=rfl
theorem slId1_lst (sz:Nat) (l:List (List SV)) (t:Tok):slId1 (.lst sz l t)=[]:=rfl
theorem slId1_nilp:slId1 .nilp=[]:=rfl
theorem slId1_nili:slId1 .nili=[]:=rfl
theorem slId1_undef:slId1 .undef=[]:=rfl
theorem slId1_pp (l:List SV):slId1 (.pp l)=[]:=rfl
theorem slId1_ptr (o off:Nat):slId1 (.ptr o off)=[]:=rfl
theorem slId1_ap (o sz a b:Nat):slId1 (.ap o sz a b)=[]:=rfl
theorem slId1_agg (l:List SV):slId1 (.agg l)=[]:=rfl
theorem slId1_tup (l:List SV):slId1 (.tup l)=[]:=rfl
theorem slId1_fn (f:Nat) (a b:List SV):slId1 (.fn f a b)=[]:=rfl
theorem slId1_psl (o sz off n:Nat) (m:Option Nat):slId1 (.psl o sz off n m)=[o]:=rfl
theorem slId_tup (raw:List Nat) (i:Nat) (l:List SV):slId raw i (.tup l)=[]:=rfl
theorem slId_fn (raw:List Nat) (i f:Nat) (a b:List SV):slId raw i (.fn f a b)=[]:=rfl
theorem slId_psl (raw:List Nat) (i o sz off n:Nat) (m:Option Nat):slId raw i (.psl o sz off n m)=if raw.contains i=true then []else [o]:=rfl
theorem iteV_dl (p:Prop) [Decidable p] (a b v:SV):iteV (decide p) (if p then a else b) v=iteV (decide p) a v:=by by_cases h:p<;>simp [iteV,h]
theorem iteV_dr (p:Prop) [Decidable p] (a b v:SV):iteV (decide p) v (if ¬p then a else b)=iteV (decide p) v a:=by by_cases h:p<;>simp [iteV,h]
theorem iteV_tl (t:Bool) (a b v:SV):iteV t (if t=true then a else b) v=iteV t a v:=by cases t<;>simp [iteV]
theorem iteV_tr (t:Bool) (a b v:SV):iteV t v (if t=false then a else b)=iteV t v a:=by cases t<;>simp [iteV]
theorem iteV_nl (t:Bool) (a b v:SV):iteV (!t) (if t=false then a else b) v=iteV (!t) a v:=by cases t<;>simp [iteV]
theorem iteV_nr (t:Bool) (a b v:SV):iteV (!t) v (if t=true then a else b)=iteV (!t) v a:=by cases t<;>simp [iteV]
theorem bif_and (p q:Prop) [Decidable p] [Decidable q]:(if p then decide q else false)=decide (p∧q):=by by_cases h:p<;>simp [h]
theorem bif_or (p q:Prop) [Decidable p] [Decidable q]:(if p then true else decide q)=decide (p∨q):=by by_cases h:p<;>simp [h]
theorem effD_pure {so:SOp} (g:Option (Nat×Bool)) (h:so.pure=true) (hc:∀q y z,so≠ .cpy q y z):effD call sg c ⟨d,g,so⟩=valE (valC c so):=by
 have:effD call sg c ⟨d,g,so⟩=effC c d so:=by cases so<;>first|rfl|(cases h;done)
 rw [this];exact effC_pure h
theorem d_mov (g:Option (Nat×Bool)) (x:Arg):effD call sg c ⟨d,g,.mov x⟩=valE ((some (c.ev x))):=(effD_pure g rfl (fun _ _ _ e=>by cases e)).trans (by rw [v_mov])
theorem d_build (g:Option (Nat×Bool)) (z:List SV) (ps:List (Nat×Nat×Arg)):effD call sg c ⟨d,g,.build z ps⟩=valE ((buildC (fillSV z (psC c ps)))):=(effD_pure g rfl (fun _ _ _ e=>by cases e)).trans (by rw [v_build])
theorem d_lit (g:Option (Nat×Bool)) (sz:Nat) (xs:List Arg):effD call sg c ⟨d,g,.lit sz xs⟩=valE ((litC sz (rows sz (evL c xs)))):=(effD_pure g rfl (fun _ _ _ e=>by cases e)).trans (by rw [v_lit])
theorem d_litB (g:Option (Nat×Bool)) (xs:List Arg):effD call sg c ⟨d,g,.litB xs⟩=valE ((litBC (toB (evL c xs)))):=(effD_pure g rfl (fun _ _ _ e=>by cases e)).trans (by rw [v_litB])
theorem d_load (g:Option (Nat×Bool)) (n:Nat) (ag:Bool) (a:Arg):effD call sg c ⟨d,g,.load n ag a⟩=valE ((loadC c n ag (c.ev a))):=(effD_pure g rfl (fun _ _ _ e=>by cases e)).trans (by rw [v_load])
theorem d_nchk (g:Option (Nat×Bool)) (x:Arg):effD call sg c ⟨d,g,.nchk x⟩=valE ((nchkC (c.ev x))):=(effD_pure g rfl (fun _ _ _ e=>by cases e)).trans (by rw [v_nchk])
theorem d_bin (g:Option (Nat×Bool)) (op:BinOp) (x y:Arg):effD call sg c ⟨d,g,.bin op x y⟩=valE ((binC op (c.ev x) (c.ev y))):=(effD_pure g rfl (fun _ _ _ e=>by cases e)).trans (by rw [v_bin])
theorem d_beq (g:Option (Nat×Bool)) (ne:Bool) (x y:Arg):effD call sg c ⟨d,g,.beq ne x y⟩=valE ((beqC ne (c.ev x) (c.ev y))):=(effD_pure g rfl (fun _ _ _ e=>by cases e)).trans (by rw [v_beq])
theorem d_eqS (g:Option (Nat×Bool)) (ne:Bool) (ts:List Nat) (x y:Arg):effD call sg c ⟨d,g,.eqS ne ts x y⟩=valE ((eqsC ne ts (c.ev x) (c.ev y))):=(effD_pure g rfl (fun _ _ _ e=>by cases e)).trans (by rw [v_eqS])
theorem d_un (g:Option (Nat×Bool)) (op:UnOp) (x:Arg):effD call sg c ⟨d,g,.un op x⟩=valE ((unSV op (c.ev x))):=(effD_pure g rfl (fun _ _ _ e=>by cases e)).trans (by rw [v_un])
theorem d_toInt (g:Option (Nat×Bool)) (q:IntKind) (x:Arg):effD call sg c ⟨d,g,.toInt q x⟩=valE ((toIntSV q (c.ev x))):=(effD_pure g rfl (fun _ _ _ e=>by cases e)).trans (by rw [v_toInt])
theorem d_toStr (g:Option (Nat×Bool)) (x:Arg):effD call sg c ⟨d,g,.toStr x⟩=valE ((toStrC (c.ev x))):=(effD_pure g rfl (fun _ _ _ e=>by cases e)).trans (by rw [v_toStr])
theorem d_isni (g:Option (Nat×Bool)) (ne:Bool) (x:Arg):effD call sg c ⟨d,g,.isni ne x⟩=valE (isniC ne (c.ev x)):=(effD_pure g rfl (fun _ _ _ e=>by cases e)).trans (by rw [v_isni])
theorem d_s2b (g:Option (Nat×Bool)) (x:Arg):effD call sg c ⟨d,g,.s2b x⟩=valE ((s2bC (c.ev x))):=(effD_pure g rfl (fun _ _ _ e=>by cases e)).trans (by rw [v_s2b])
theorem d_b2s (g:Option (Nat×Bool)) (x:Arg):effD call sg c ⟨d,g,.b2s x⟩=valE ((b2sC c (c.ev x))):=(effD_pure g rfl (fun _ _ _ e=>by cases e)).trans (by rw [v_b2s])
theorem d_mkfn (g:Option (Nat×Bool)) (f:Nat) (a b:List Arg):effD call sg c ⟨d,g,.mkfn f a b⟩=valE ((some (.fn f (evL c a) (evL c b)))):=(effD_pure g rfl (fun _ _ _ e=>by cases e)).trans (by rw [v_mkfn])
theorem d_slcS (g:Option (Nat×Bool)) (x:Arg) (lo hi:Option Arg):effD call sg c ⟨d,g,.slcS x lo hi⟩=valE ((slcSC c lo hi (c.ev x))):=(effD_pure g rfl (fun _ _ _ e=>by cases e)).trans (by rw [v_slcS])
theorem d_slcL (g:Option (Nat×Bool)) (sz:Nat) (x:Arg) (lo hi mx:Option Arg):effD call sg c ⟨d,g,.slcL sz x lo hi mx⟩=valE ((slcC c sz (c.ev x) lo hi mx)):=(effD_pure g rfl (fun _ _ _ e=>by cases e)).trans (by rw [v_slcL])
theorem d_slcA (g:Option (Nat×Bool)) (len sz:Nat) (x:Arg) (lo hi mx:Option Arg):effD call sg c ⟨d,g,.slcA len sz x lo hi mx⟩=valE ((slcAC c len sz lo hi mx (c.ev x))):=(effD_pure g rfl (fun _ _ _ e=>by cases e)).trans (by rw [v_slcA])
theorem d_faddr (g:Option (Nat×Bool)) (off:Nat) (x:Arg):effD call sg c ⟨d,g,.faddr off x⟩=valE ((faddrC off (c.ev x))):=(effD_pure g rfl (fun _ _ _ e=>by cases e)).trans (by rw [v_faddr])
theorem d_fld (g:Option (Nat×Bool)) (off n:Nat) (ag:Bool) (x:Arg):effD call sg c ⟨d,g,.fld off n ag x⟩=valE ((fldC off n ag (c.ev x))):=(effD_pure g rfl (fun _ _ _ e=>by cases e)).trans (by rw [v_fld])
theorem d_iaddrL (g:Option (Nat×Bool)) (sz:Nat) (x i:Arg):effD call sg c ⟨d,g,.iaddrL sz x i⟩=valE ((iaddrLC sz (c.ev x) (c.ev i).num)):=(effD_pure g rfl (fun _ _ _ e=>by cases e)).trans (by rw [v_iaddrL])
theorem d_iaddrA (g:Option (Nat×Bool)) (len sz:Nat) (x i:Arg):effD call sg c ⟨d,g,.iaddrA len sz x i⟩=valE ((iaddrAC c len sz (c.ev x) (c.ev i).num)):=(effD_pure g rfl (fun _ _ _ e=>by cases e)).trans (by rw [v_iaddrA])
theorem d_idxA (g:Option (Nat×Bool)) (len sz:Nat) (ag:Bool) (x i:Arg):effD call sg c ⟨d,g,.idxA len sz ag x i⟩=valE ((idxAC len sz ag (c.ev x) (c.ev i).num)):=(effD_pure g rfl (fun _ _ _ e=>by cases e)).trans (by rw [v_idxA])
theorem d_idxS (g:Option (Nat×Bool)) (x i:Arg):effD call sg c ⟨d,g,.idxS x i⟩=valE ((idxSC (c.ev x) (c.ev i).num)):=(effD_pure g rfl (fun _ _ _ e=>by cases e)).trans (by rw [v_idxS])
theorem d_ext (g:Option (Nat×Bool)) (x:Arg) (i:Nat):effD call sg c ⟨d,g,.ext x i⟩=valE ((extC i (c.ev x))):=(effD_pure g rfl (fun _ _ _ e=>by cases e)).trans (by rw [v_ext])
theorem d_len (g:Option (Nat×Bool)) (b:Bool) (x:Arg):effD call sg c ⟨d,g,.len b x⟩=valE ((lenC (lenSV b (c.ev x)))):=(effD_pure g rfl (fun _ _ _ e=>by cases e)).trans (by rw [v_len])
theorem d_lenC (g:Option (Nat×Bool)) (n:Nat):effD call sg c ⟨d,g,.lenC n⟩=valE ((some (.int .i64 n))):=(effD_pure g rfl (fun _ _ _ e=>by cases e)).trans (by rw [v_lenC])
theorem d_cap (g:Option (Nat×Bool)) (x:Arg):effD call sg c ⟨d,g,.cap x⟩=valE ((capC (c.ev x))):=(effD_pure g rfl (fun _ _ _ e=>by cases e)).trans (by rw [v_cap])
theorem d_mini (g:Option (Nat×Bool)) (x y:Arg):effD call sg c ⟨d,g,.mini x y⟩=valE ((miniC (c.ev x) (c.ev y))):=(effD_pure g rfl (fun _ _ _ e=>by cases e)).trans (by rw [v_mini])
theorem d_maxi (g:Option (Nat×Bool)) (x y:Arg):effD call sg c ⟨d,g,.maxi x y⟩=valE ((maxiC (c.ev x) (c.ev y))):=(effD_pure g rfl (fun _ _ _ e=>by cases e)).trans (by rw [v_maxi])
theorem d_pick (g:Option (Nat×Bool)) (q a b:Arg):effD call sg c ⟨d,g,.pick q a b⟩=valE (pickC (c.ev a) (c.ev b) (c.ev q)):=e_pick (d:=d) q a b
theorem d_new (g:Option (Nat×Bool)) (o:SObj):effD call sg c ⟨some k,g,.new o⟩=gd (o.wf=true) {val:= .ptr (k+100) 0,new:=some o}:=rfl
theorem d_box (g:Option (Nat×Bool)) (x:Arg):effD call sg c ⟨some k,g,.box x⟩=some {val:= .ptr (k+100) 0,new:=some (.rc (c.ev x).cells)}:=rfl
theorem d_store (g:Option (Nat×Bool)) (n:Nat) (a x:Arg):effD call sg c ⟨d,g,.store n a x⟩=if(c.ev x).isDef=true then storeC c n (c.ev x).cells (c.ev a)else none:=rfl
def apE (c:CSt) (k:Nat) (z:List SV) (bytes:Nat) (y:SV):SV→Option CEff
 | .byt l t=>(bytesC c y).bind fun l'=>gd (z.length=1∧bytes=1∧t.readyC c=true∧l.length+l'.length≤140737488355328) {val:= .byt (l++l') (.id (k+100)),eat:=t,tok:=true}
 | .lst sz' l t=>(rowsC c z.length y).bind fun l'=>gd (z.length=sz'∧t.readyC c=true∧(l.length+l'.length)*bytes≤140737488355328) {val:= .lst z.length (l++l') (.id (k+100)),eat:=t,tok:=true}
 |_=>none
theorem d_app (g:Option (Nat×Bool)) (z:List SV) (bytes:Nat) (x y:Arg):effD call sg c ⟨some k,g,.app z bytes x y⟩=apE c k z bytes (c.ev y) (c.ev x):=by show effC c (some k) (.app z bytes x y)=_;simp only [effC];cases c.ev x<;>rfl
theorem d_mk (g:Option (Nat×Bool)) (z:List SV) (bytes:Nat) (n m:Arg):effD call sg c ⟨some k,g,.mk z bytes n m⟩=(mkE bytes (c.ev n) (c.ev m)).map fun p=> {val:= .psl (k+100) z.length 0 p.1 (some p.2),new:=some (.arr z.length (List.replicate p.2 z))}:=by show effC c (some k) (.mk z bytes n m)=_;simp only [effC];cases h1:c.ev n<;>cases h2:c.ev m<;>first|rfl|(simp only [mkE];unfold gd;split<;>rfl)
theorem d_mkB (g:Option (Nat×Bool)) (n m:Arg):effD call sg c ⟨some k,g,.mkB n m⟩=(mkBE (c.ev n) (c.ev m)).map fun p=> {val:= .psl (k+100) 1 0 p.1 (some p.2),new:=some (.bar (List.replicate p.2 0))}:=by show effC c (some k) (.mkB n m)=_;simp only [effC];cases h1:c.ev n<;>cases h2:c.ev m<;>first|rfl|(simp only [mkBE];unfold gd;split<;>rfl)
theorem d_call (g:Option (Nat×Bool)) (f:Arg) (as:List Arg):effD call sg c ⟨d,g,.call f as⟩=callEV call sg c (evL c as) (c.ev f):=rfl
theorem rd_nil (b:List Nat) (fs:List Foot):runD call sg b [] fs c=gd ((fs.all Foot.quiet||drawOK b fs.reverse)=true) c:=by rw [runD]
theorem rd_none (b:List Nat) (o:SOp) (r:List SI) (fs:List Foot):runD call sg b (⟨d,none,o⟩::r) fs c=nxD call sg b o d r fs c (effD call sg c ⟨d,none,o⟩):=by rw [runD]
def gdD (call:CallF) (sg:Nat→Sig) (b:List Nat) (i:SI) (want:Bool) (r:List SI) (fs:List Foot) (c:CSt):SV→Option CSt
 | .bool t=>if t=want then nxD call sg b i.op i.dst r fs c (effD call sg c i)else runD call sg b r (noFoot::fs) (c.put i.dst .undef)
 |_=>none
theorem rd_some (b:List Nat) (g:Nat) (want:Bool) (o:SOp) (r:List SI) (fs:List Foot):runD call sg b (⟨d,some (g,want),o⟩::r) fs c=gdD call sg b ⟨d,some (g,want),o⟩ want r fs c (c.get g):=by rw [runD];unfold gdD;rfl
theorem gdD_b (b:List Nat) (i:SI) (want t:Bool) (r:List SI) (fs:List Foot):gdD call sg b i want r fs c (.bool t)=if t=want then nxD call sg b i.op i.dst r fs c (effD call sg c i)else runD call sg b r (noFoot::fs) (c.put i.dst .undef):=rfl
theorem nd_some (b:List Nat) (o:SOp) (r:List SI) (fs:List Foot) (e:CEff):nxD call sg b o d r fs c (some e)=runD call sg b r (footC c o d e::fs) (c.app d e):=by rw [nxD]
theorem nd_none (b:List Nat) (o:SOp) (r:List SI) (fs:List Foot):nxD call sg b o d r fs c none=none:=by rw [nxD]
theorem app_val (v:SV):c.app d {val:=v}=c.put d v:=rfl
theorem app_new (l:List (Nat×SV)) (ob:List (Nat×SObj)) (t:List Nat) (o:SObj) (v:SV):
 CSt.app ⟨l,ob,t⟩ (some k) {val:=v,new:=some o}=⟨putT (purgeT (k+100) (k+101) l) k v,putO (purgeO (k+100) (k+101) ob) (k+100) (o.purge (k+100) (k+101)),dropT (k+100) (k+101) t⟩:=rfl
theorem app_wr (l:List (Nat×SV)) (ob:List (Nat×SObj)) (t:List Nat) (v:SV) (p:Nat×SObj):CSt.app ⟨l,ob,t⟩ d {val:=v,wr:=[p]}=CSt.put ⟨l,putO ob p.1 p.2,t⟩ d v:=rfl
theorem foot_val (o:SOp) (v:SV):footC c o d {val:=v}=⟨SV.idsL (evL c o.args),[],[],[],v.names,if o.blind=true then []else SV.idsL (evL c o.args)⟩:=by simp only [footC,List.map_nil,namesO,List.append_nil];rfl
theorem foot_new (o:SOp) (v:SV) (ob:SObj):footC c o (some k) {val:=v,new:=some ob}=⟨SV.idsL (evL c o.args),[],[],[k+100],v.names++ob.names,if o.blind=true then []else SV.idsL (evL c o.args)⟩:=by simp only [footC,List.map_nil,namesO,List.append_nil];rfl
theorem foot_tok (o:SOp) (v:SV) (t:Tok):footC c o (some k) {val:=v,eat:=t,tok:=true}=⟨SV.idsL (evL c o.args),[],t.ids,[k+100],v.names,if o.blind=true then []else SV.idsL (evL c o.args)⟩:=by simp only [footC,List.map_nil,namesO,List.append_nil];rfl
theorem foot_wr (o:SOp) (v:SV) (p:Nat×SObj):footC c o d {val:=v,wr:=[p]}=⟨SV.idsL (evL c o.args),[p.1],[],[],v.names++p.2.names,if o.blind=true then []else SV.idsL (evL c o.args)⟩:=by simp only [footC,List.map_cons,List.map_nil,namesO,List.append_nil];rfl
@[congr] theorem nxD_congr {b:List Nat} {o:SOp} {r:List SI} {fs fs':List Foot} {c c':CSt} {e e':Option CEff} (h:c=c') (h2:e=e') (h3:fs=fs'):nxD call sg b o d r fs c e=nxD call sg b o d r fs' c' e':=by rw [h,h2,h3]
theorem cpS_some (l:List (Nat×SV)) (ob:List (Nat×SObj)) (t:List Nat) (p:SV×Nat×SObj):cpS ⟨l,ob,t⟩ d (some p)=some (CSt.put ⟨l,putO ob p.2.1 p.2.2,t⟩ d p.1):=rfl
theorem mkS_some (z:List SV) (p:Nat×Nat):mkS c k z (some p)=some (addN c k (.arr z.length (List.replicate p.2 z)) (.psl (k+100) z.length 0 p.1 (some p.2))):=rfl
theorem mkBS_some (p:Nat×Nat):mkBS c k (some p)=some (addN c k (.bar (List.replicate p.2 0)) (.psl (k+100) 1 0 p.1 (some p.2))):=rfl
theorem w_mov (x:Arg):qval c (.mov x)=some (c.ev x):=by simp only [qval];rw [v_mov]
theorem w_build (z:List SV) (ps:List (Nat×Nat×Arg)):qval c (.build z ps)=buildC (fillSV z (psC c ps)):=by simp only [qval];rw [v_build]
theorem w_lit (sz:Nat) (xs:List Arg):qval c (.lit sz xs)=litC sz (rows sz (evL c xs)):=by simp only [qval];rw [v_lit]
theorem w_litB (xs:List Arg):qval c (.litB xs)=litBC (toB (evL c xs)):=by simp only [qval];rw [v_litB]
theorem w_load (n:Nat) (ag:Bool) (a:Arg):qval c (.load n ag a)=loadC c n ag (c.ev a):=by simp only [qval];rw [v_load]
theorem w_nchk (x:Arg):qval c (.nchk x)=nchkC (c.ev x):=by simp only [qval];rw [v_nchk]
theorem w_bin (op:BinOp) (x y:Arg):qval c (.bin op x y)=binC op (c.ev x) (c.ev y):=by simp only [qval];rw [v_bin]
theorem w_beq (ne:Bool) (x y:Arg):qval c (.beq ne x y)=beqC ne (c.ev x) (c.ev y):=by simp only [qval];rw [v_beq]
theorem w_eqS (ne:Bool) (ts:List Nat) (x y:Arg):qval c (.eqS ne ts x y)=eqsC ne ts (c.ev x) (c.ev y):=by simp only [qval];rw [v_eqS]
theorem w_un (op:UnOp) (x:Arg):qval c (.un op x)=unSV op (c.ev x):=by simp only [qval];rw [v_un]
theorem w_toInt (q:IntKind) (x:Arg):qval c (.toInt q x)=toIntSV q (c.ev x):=by simp only [qval];rw [v_toInt]
theorem w_toStr (x:Arg):qval c (.toStr x)=toStrC (c.ev x):=by simp only [qval];rw [v_toStr]
theorem w_isni (ne:Bool) (x:Arg):qval c (.isni ne x)=isniC ne (c.ev x):=by simp only [qval];rw [v_isni]
theorem w_s2b (x:Arg):qval c (.s2b x)=s2bC (c.ev x):=by simp only [qval];rw [v_s2b]
theorem w_b2s (x:Arg):qval c (.b2s x)=b2sC c (c.ev x):=by simp only [qval];rw [v_b2s]
theorem w_mkfn (f:Nat) (a b:List Arg):qval c (.mkfn f a b)=some (.fn f (evL c a) (evL c b)):=by simp only [qval];rw [v_mkfn]
theorem w_slcS (x:Arg) (lo hi:Option Arg):qval c (.slcS x lo hi)=slcSC c lo hi (c.ev x):=by simp only [qval];rw [v_slcS]
theorem w_slcL (sz:Nat) (x:Arg) (lo hi mx:Option Arg):qval c (.slcL sz x lo hi mx)=slcC c sz (c.ev x) lo hi mx:=by simp only [qval];rw [v_slcL]
theorem w_slcA (len sz:Nat) (x:Arg) (lo hi mx:Option Arg):qval c (.slcA len sz x lo hi mx)=slcAC c len sz lo hi mx (c.ev x):=by simp only [qval];rw [v_slcA]
theorem w_faddr (off:Nat) (x:Arg):qval c (.faddr off x)=faddrC off (c.ev x):=by simp only [qval];rw [v_faddr]
theorem w_fld (off n:Nat) (ag:Bool) (x:Arg):qval c (.fld off n ag x)=fldC off n ag (c.ev x):=by simp only [qval];rw [v_fld]
theorem w_iaddrL (sz:Nat) (x i:Arg):qval c (.iaddrL sz x i)=iaddrLC sz (c.ev x) (c.ev i).num:=by simp only [qval];rw [v_iaddrL]
theorem w_iaddrA (len sz:Nat) (x i:Arg):qval c (.iaddrA len sz x i)=iaddrAC c len sz (c.ev x) (c.ev i).num:=by simp only [qval];rw [v_iaddrA]
theorem w_idxA (len sz:Nat) (ag:Bool) (x i:Arg):qval c (.idxA len sz ag x i)=idxAC len sz ag (c.ev x) (c.ev i).num:=by simp only [qval];rw [v_idxA]
theorem w_idxS (x i:Arg):qval c (.idxS x i)=idxSC (c.ev x) (c.ev i).num:=by simp only [qval];rw [v_idxS]
theorem w_ext (x:Arg) (i:Nat):qval c (.ext x i)=extC i (c.ev x):=by simp only [qval];rw [v_ext]
theorem w_len (b:Bool) (x:Arg):qval c (.len b x)=lenC (lenSV b (c.ev x)):=by simp only [qval];rw [v_len]
theorem w_lenC (n:Nat):qval c (.lenC n)=some (.int .i64 n):=by simp only [qval];rw [v_lenC]
theorem w_cap (x:Arg):qval c (.cap x)=capC (c.ev x):=by simp only [qval];rw [v_cap]
theorem w_mini (x y:Arg):qval c (.mini x y)=miniC (c.ev x) (c.ev y):=by simp only [qval];rw [v_mini]
theorem w_maxi (x y:Arg):qval c (.maxi x y)=maxiC (c.ev x) (c.ev y):=by simp only [qval];rw [v_maxi]
theorem w_pick (q a b:Arg):qval c (.pick q a b)=pickC (c.ev a) (c.ev b) (c.ev q):=by simp only [qval];cases c.ev q<;>rfl
theorem qv_n (o:SOp):qv c ⟨d,none,o⟩=qval c o:=rfl
theorem qv_s (g:Nat) (b:Bool) (o:SOp):qv c ⟨d,some (g,b),o⟩=qg c o b (c.get g):=rfl
theorem qg_b (b t:Bool) (o:SOp):qg c o b (.bool t)=if t=b then qval c o else some (.tup []):=rfl
theorem qg_n (b:Bool) (o:SOp):qg c o b (.tup [])=some (.tup []):=rfl
def stG (call:CallF) (sg:Nat→Sig) (c:CSt) (d:Option Nat) (o:SOp) (b:Bool):SV→Option CSt
 | .bool t=>if t=b then opC call sg c d o else some (c.put d (.tup []))
 | .tup []=>some (c.put d (.tup []))
 |_=>none
theorem s_some (g:Nat) (b:Bool) (o:SOp):stepC call sg c ⟨d,some (g,b),o⟩=stG call sg c d o b (c.get g):=by unfold stepC stG;rfl
theorem stG_b (b t:Bool) (o:SOp):stG call sg c d o b (.bool t)=if t=b then opC call sg c d o else some (c.put d (.tup [])):=rfl
theorem stG_n (b:Bool) (o:SOp):stG call sg c d o b (.tup [])=some (c.put d (.tup [])):=rfl
theorem fl_nil (b:List Nat) (ps:List FI):fltC call sg b [] ps c=some c:=by rw [fltC]
theorem fl_q (b:List Nat) (n:Nat) (i:SI) (r ps:List FI):fltC call sg b (⟨n,true,i⟩::r) ps c=fltQ call sg b r (⟨n,true,i⟩::ps) c i.dst (qv c i):=by rw [fltC]
theorem fl_n (b:List Nat) (n:Nat) (i:SI) (r ps:List FI):fltC call sg b (⟨n,false,i⟩::r) ps c=fltN call sg b r ps (b.getD n 0) (stepC call sg c i):=by rw [fltC]
theorem fq_s (b:List Nat) (r ps:List FI) (v:SV):fltQ call sg b r ps c d (some v)=fltC call sg b r ps (c.put d v):=by rw [fltQ]
theorem fn_s (b:List Nat) (r ps:List FI) (m:Nat):fltN call sg b r ps m (some c)=fltG call sg b r ps (gdP (fchk m c ps) c):=by rw [fltN]
theorem fg_s (b:List Nat) (r ps:List FI):fltG call sg b r ps (some c)=fltC call sg b r ps c:=by rw [fltG]
theorem gdP_pos {α:Type} {p:Prop} (v:α) (h:p):gdP p v=some v:=by unfold gdP;exact if_pos h
theorem alt_1 (b:List Nat) (l:List FI) (p:List Nat):altC call sg b l [p] c=fltC call sg b (ordF l p) [] c:=by rw [altC]
theorem alt_2 (b:List Nat) (l:List FI) (p q:List Nat) (r:List (List Nat)):altC call sg b l (p::q::r) c=agree (fltC call sg b (ordF l p) [] c) (altC call sg b l (q::r) c):=by rw [altC]
theorem ag_s (a a':CSt):agree (some a) (some a')=gdP (a=a') a:=rfl
theorem fk_nil (m:Nat):fchk m c []=True:=rfl
theorem fk_cons (m:Nat) (p:FI) (r:List FI):fchk m c (p::r)=((m/2^p.n % 2=1∨qv c p.i=some (c.get (p.i.dst.getD 0)))∧fchk m c r):=rfl
end Go.Sy
namespace Go.Sy
variable [LaidData]
theorem getT_none {n:Nat}:∀ {l:List (Nat×SV)},(∀p∈l,p.1≠n)→getT l n= .undef
 |[],_=>rfl
 |p::r,h=>by simp only [getT];rw [if_neg (h p (List.mem_cons_self ..))];exact getT_none fun q hq=>h q (List.mem_cons_of_mem _ hq)
theorem getT_put (n:Nat) (v:SV) (m:Nat):∀l:List (Nat×SV),getT (putT l n v) m=if m=n then v else getT l m
 |[]=>by simp only [putT,getT];by_cases h:n=m<;>simp [h,eq_comm]
 | p::r=>by
  simp only [putT];split
  ·simp only [getT]
   by_cases h:n=m
   ·simp [h]
   ·rw [if_neg h,if_neg (Ne.symm h)]
  ·split
   ·rename_i h1 h2
    simp only [getT]
    by_cases h:n=m
    ·simp [h]
    ·rw [if_neg h,if_neg (Ne.symm h),if_neg (by omega)]
   ·rename_i h1 h2
    simp only [getT,getT_put n v m r]
    by_cases h:p.1=m
    ·rw [if_pos h,if_pos h,if_neg (by omega)]
    ·rw [if_neg h,if_neg h]
theorem mem_putT {n:Nat} {v:SV} {p:Nat×SV}:∀ {l:List (Nat×SV)},p∈putT l n v→p=(n,v)∨p∈l
 |[],h=>by simpa [putT]using h
 | q ::r,h=>by
  simp only [putT]at h;split at h
  ·rcases List.mem_cons.1 h with h|h
   ·exact .inl h
   ·exact .inr h
  ·split at h
   ·rcases List.mem_cons.1 h with h|h
    ·exact .inl h
    ·exact .inr (List.mem_cons_of_mem _ h)
   ·rcases List.mem_cons.1 h with h|h
    ·exact .inr (h ▸ List.mem_cons_self ..)
    ·rcases mem_putT h with h|h
     ·exact .inl h
     ·exact .inr (List.mem_cons_of_mem _ h)
theorem getT_purge (lo hi n:Nat):∀l:List (Nat×SV),getT (purgeT lo hi l) n=(getT l n).purge lo hi
 |[]=>by simp [purgeT,getT,SV.purge]
 |p::r=>by
  simp only [purgeT,getT];split
  ·rfl
  ·exact getT_purge lo hi n r
theorem mem_purgeT {lo hi:Nat} {p:Nat×SV}:∀ {l:List (Nat×SV)},p∈purgeT lo hi l→∃q∈l,p.1=q.1
 | q::r,h=>by
  simp only [purgeT]at h;rcases List.mem_cons.1 h with h|h
  ·exact⟨q,List.mem_cons_self ..,by rw [h]⟩
  ·obtain⟨u,h1,h2⟩:=mem_purgeT h
   exact⟨u,List.mem_cons_of_mem _ h1,h2⟩
theorem mem_delT {k:List Nat} {p:Nat×SV}:∀ {l:List (Nat×SV)},p∈delT l k→p∈l
 | q::r,h=>by
  simp only [delT]at h;split at h
  ·exact List.mem_cons_of_mem _ (mem_delT h)
  ·rcases List.mem_cons.1 h with h|h
   ·exact h ▸ List.mem_cons_self ..
   ·exact List.mem_cons_of_mem _ (mem_delT h)
theorem getT_del (k:List Nat) (n:Nat):∀l:List (Nat×SV),getT (delT l k) n=if k.contains n=true then .undef else getT l n
 |[]=>by simp [delT,getT]
 | p::r=>by
  simp only [delT,getT];split
  ·rename_i h
   rw [getT_del k n r]
   by_cases hp:p.1=n
   ·subst hp;rw [if_pos h,if_pos h]
   ·rw [if_neg hp]
  ·rename_i h
   simp only [getT,getT_del k n r]
   by_cases hp:p.1=n
   ·subst hp;rw [if_pos rfl,if_neg h,if_pos rfl]
   ·rw [if_neg hp,if_neg hp]
theorem getO_put (n:Nat) (v:SObj) (m:Nat):∀l:List (Nat×SObj),getO (putO l n v) m=if m=n then some v else getO l m
 |[]=>by simp only [putO,getO];by_cases h:n=m<;>simp [h,eq_comm]
 | p::r=>by
  simp only [putO];split
  ·simp only [getO]
   by_cases h:n=m
   ·simp [h]
   ·rw [if_neg h,if_neg (Ne.symm h)]
  ·split
   ·rename_i h1 h2
    simp only [getO]
    by_cases h:n=m
    ·simp [h]
    ·rw [if_neg h,if_neg (Ne.symm h),if_neg (by omega)]
   ·rename_i h1 h2
    simp only [getO,getO_put n v m r]
    by_cases h:p.1=m
    ·rw [if_pos h,if_pos h,if_neg (by omega)]
    ·rw [if_neg h,if_neg h]
theorem mem_putO {n:Nat} {v:SObj} {p:Nat×SObj}:∀ {l:List (Nat×SObj)},p∈putO l n v→p=(n,v)∨p∈l
 |[],h=>by simpa [putO]using h
 | q ::r,h=>by
  simp only [putO]at h;split at h
  ·rcases List.mem_cons.1 h with h|h
   ·exact .inl h
   ·exact .inr h
  ·split at h
   ·rcases List.mem_cons.1 h with h|h
    ·exact .inl h
    ·exact .inr (List.mem_cons_of_mem _ h)
   ·rcases List.mem_cons.1 h with h|h
    ·exact .inr (h ▸ List.mem_cons_self ..)
    ·rcases mem_putO h with h|h
     ·exact .inl h
     ·exact .inr (List.mem_cons_of_mem _ h)
theorem so_put {n:Nat} {v:SObj}:∀ {l:List (Nat×SObj)},(l.map Prod.fst).Pairwise (· < ·)→((putO l n v).map Prod.fst).Pairwise (· < ·)
 |[],_=>by simp [putO]
 | p::r,h=>by
  have h0:=h;simp only [List.map_cons,List.pairwise_cons]at h;simp only [putO];split
  ·rename_i h1
   rw [List.map_cons,List.pairwise_cons];refine⟨fun k hk=> ?_,h0⟩;rw [List.map_cons]at hk;rcases List.mem_cons.1 hk with e|e
   ·omega
   ·have:=h.1 k e;omega
  ·split
   ·rename_i h1 h2
    rw [List.map_cons,List.pairwise_cons];exact⟨fun k hk=>by have:=h.1 k hk;omega,h.2⟩
   ·rename_i h1 h2
    rw [List.map_cons,List.pairwise_cons];refine⟨fun k hk=> ?_,so_put h.2⟩;obtain⟨q,hq,rfl⟩:=List.mem_map.1 hk;rcases mem_putO hq with e|e
    ·rw [e];show p.1<n;omega
    ·exact h.1 _ (List.mem_map_of_mem e)
theorem getO_mem {l:List (Nat×SObj)} {n:Nat} {v:SObj} (h:getO l n=some v):(n,v)∈l:=by
 induction l with
 |nil=>cases h
 | cons p r ih=>
  simp only [getO]at h;split at h
  ·rename_i hp
   cases h;subst hp;exact List.mem_cons_self ..
  ·exact List.mem_cons_of_mem _ (ih h)
theorem mem_getO:∀ {l:List (Nat×SObj)},(l.map Prod.fst).Nodup→∀ {p:Nat×SObj},p∈l→getO l p.1=some p.2
 | q::r,hn,p,h=>by
  simp only [List.map_cons,List.nodup_cons]at hn;simp only [getO];rcases List.mem_cons.1 h with e|e
  ·subst e;rw [if_pos rfl]
  ·rw [if_neg (fun e2=>hn.1 (by rw [e2];exact List.mem_map_of_mem e))]
   exact mem_getO hn.2 e
theorem so_nodup {l:List (Nat×SObj)} (h:(l.map Prod.fst).Pairwise (· < ·)):(l.map Prod.fst).Nodup:=h.imp fun h=>Nat.ne_of_lt h
theorem lookup_getO (o:Nat):∀l:List (Nat×SObj),l.lookup o=getO l o
 |[]=>rfl
 | p::r=>by
  simp only [List.lookup,getO]
  by_cases h:o=p.1
  ·rw [if_pos h.symm];simp [h]
  ·have:(o==p.1)=false:=by simpa using h
   rw [this,if_neg (Ne.symm h)];exact lookup_getO o r
theorem getO_purge (lo hi o:Nat):∀l:List (Nat×SObj),getO (purgeO lo hi l) o=if lo≤o∧o<hi then none else(getO l o).map (SObj.purge lo hi)
 |[]=>by simp [purgeO,getO]
 | p::r=>by
  simp only [purgeO,getO];split
  ·rename_i hp
   rw [getO_purge lo hi o r]
   by_cases h:p.1=o
   ·subst h;rw [if_pos hp,if_pos hp]
   ·rw [if_neg h]
  ·rename_i hp
   simp only [getO,getO_purge lo hi o r]
   by_cases h:p.1=o
   ·subst h;rw [if_pos rfl,if_neg hp,if_pos rfl];rfl
   ·rw [if_neg h,if_neg h]
theorem so_purge {lo hi:Nat} {l:List (Nat×SObj)} (h:(l.map Prod.fst).Pairwise (· < ·)):((purgeO lo hi l).map Prod.fst).Pairwise (· < ·):=by rw [fst_purgeO];exact h.filter _
theorem mem_putK {n t:Nat}:∀ {l:List Nat},t∈putK l n↔t=n∨t∈l
 |[]=>by simp [putK]
 | p ::r=>by
  simp only [putK];split
  ·simp
  ·split
   ·rename_i h;subst h;simp
   ·simp only [List.mem_cons,mem_putK]
    constructor
    ·rintro(h|h|h)
     ·exact .inr (.inl h)
     ·exact .inl h
     ·exact .inr (.inr h)
    ·rintro(h|h|h)
     ·exact .inr (.inl h)
     ·exact .inl h
     ·exact .inr (.inr h)
theorem wf_purge {lo hi:Nat} {o:SObj} (h:o.wf=true):(o.purge lo hi).wf=true:=by cases o<;>simpa [SObj.purge,SObj.wf]using h
def CSt.st (N:Nat) (c:CSt):St:=⟨(List.range N).map c.get,c.ob,c.tk⟩
structure Inv (N:Nat) (c:CSt):Prop where
 dom:∀p∈c.tm,p.1<N
 so:(c.ob.map Prod.fst).Pairwise (· < ·)
 wf:∀p∈c.ob,p.2.wf=true
structure Sim (N:Nat) (c:CSt) (s:St):Prop where
 inv:Inv N c
 tm:s.tm=(List.range N).map c.get
 look:∀o,s.look o=c.look o
 tk:∀t,t∈s.tk↔t∈c.tk
variable {N : Nat} {c : CSt} {s : St}
theorem Inv.get (h:Inv N c) {n:Nat} (hn:N≤n):c.get n= .undef:=getT_none fun p hp e=>by have:=h.dom p hp;omega
theorem Sim.of (h:Inv N c):Sim N c (c.st N):=⟨h,rfl,fun o=>lookup_getO o c.ob,fun _=>Iff.rfl⟩
theorem Sim.get (h:Sim N c s) (n:Nat):s.get n=c.get n:=by
 unfold St.get;rw [h.tm,List.getD_eq_getElem?_getD,List.getElem?_map];rcases Nat.lt_or_ge n N with hn|hn
 ·rw [List.getElem?_range hn];rfl
 ·rw [List.getElem?_eq_none (by simpa using hn),h.inv.get hn];rfl
theorem Sim.ev (h:Sim N c s) (a:Arg):s.ev a=c.ev a:=by
 cases a with
 |t n=>exact h.get n
 |c v=>rfl
 |f g=>rfl
theorem Sim.evL (h:Sim N c s) (l:List Arg):Sy.evL c l=l.map s.ev:=by
 induction l with
 |nil=>rfl
 |cons a r ih=>simp only [Sy.evL,List.map_cons,ih,h.ev]
theorem Sim.lookmem (h:Sim N c s) {o:Nat} {ob:SObj} (hl:c.look o=some ob):ob.wf=true:=h.inv.wf _ (getO_mem hl)
theorem Sim.rows (h:Sim N c s) {o sz:Nat} {xs:List (List SV)} (hl:c.look o=some (.arr sz xs)):∀x∈xs,x.length=sz:=by have:=h.lookmem hl;simpa [SObj.wf]using this
theorem Inv.put (h:Inv N c) {d:Option Nat} (hd:∀k,d=some k→k<N) (v:SV):Inv N (c.put d v):=by
 cases d with
 |none=>exact h
 |some k=>
  refine⟨fun p hp=> ?_,h.so,h.wf⟩;rcases mem_putT hp with e|e
  ·rw [e];exact hd k rfl
  ·exact h.dom p e
theorem cput_get (c:CSt) (k:Nat) (v:SV) (n:Nat):(c.put (some k) v).get n=if n=k then v else c.get n:=getT_put k v n c.tm
theorem Sim.put (h:Sim N c s) {d:Option Nat} (hd:∀k,d=some k→k<N) (v:SV):Sim N (c.put d v) (s.put d v):=by
 cases d with
 |none=>exact h
 | some k=>
  refine⟨h.inv.put hd v, ?_,h.look,h.tk⟩;show s.tm.set k v=_;rw [h.tm];apply List.ext_getElem?;intro i;rw [List.getElem?_set,List.getElem?_map,List.getElem?_map];rcases Nat.lt_or_ge i N with hi|hi
  ·rw [List.getElem?_range hi]
   simp only [Option.map_some,cput_get,List.length_map,List.length_range]
   by_cases hk:k=i
   ·rw [if_pos hk,if_pos (by omega),if_pos hk.symm]
   ·rw [if_neg hk,if_neg (Ne.symm hk)]
  ·rw [List.getElem?_eq_none (l:=List.range N) (by simpa using hi)]
   have:=hd k rfl;rw [if_neg (by omega)];rfl
theorem gd_some {α:Type} {p:Prop} [Decidable p] {v u:α} (h:gd p v=some u):p∧v=u:=by
 unfold gd at h;split at h
 ·rename_i hp;cases h;exact⟨hp,rfl⟩
 ·cases h
theorem ibinC_of {op:BinOp} {k:IntKind} {a b:Int} {v:SV} (h:ibinC op k a b=some v) (hs:isShift op=false):∃p,ibin op k a b=some (p,v)∧p:=by
 cases op<;>simp only [ibinC]at h<;>first
  |(cases hs;done)
  |(obtain⟨h1,rfl⟩:=gd_some h;exact⟨_,rfl,h1⟩)
  |(cases h;exact⟨True,rfl,trivial⟩)
theorem binC_of {op:BinOp} {a b v:SV} (h:binC op a b=some v):∃p,binSV op a b=some (p,v)∧p:=by
 unfold binC at h;split at h
 ·rename_i k a k' b
  split at h
  ·rename_i hc
   by_cases hs:isShift op=true
   ·cases op<;>first
    |(cases hs;done)
    |(simp only [ibinC]at h;obtain⟨h1,rfl⟩:=gd_some h;exact⟨_,rfl,h1⟩)
   ·have hs':isShift op=false:=by simpa using hs
    have hk:k=k':=hc.resolve_left hs;obtain⟨p,h1,h2⟩:=ibinC_of h hs';refine⟨p, ?_,h2⟩;subst hk;cases op<;>first|(cases hs';done)|(simp only [binSV,if_true];exact h1)
  ·cases h
 ·rename_i a b
  show ∃p,u8bin op a b=some (p,v)∧p
  cases op<;>simp only [u8binC]at h<;>first
   |(cases h;done)
   |(obtain⟨h1,rfl⟩:=gd_some h;exact⟨_,rfl,h1⟩)
   |(cases h;exact⟨True,rfl,trivial⟩)
 ·rename_i a b
  show ∃p,sbin op a b=some (p,v)∧p
  cases op<;>simp only [sbinC]at h<;>first
   |(cases h;done)
   |(obtain⟨h1,rfl⟩:=gd_some h;exact⟨_,rfl,h1⟩)
   |(cases h;exact⟨True,rfl,trivial⟩)
 ·cases h
theorem loadC_of (hS:Sim N c s) {n:Nat} {ag:Bool} {u v:SV} (h:loadC c n ag u=some v):∃p,loadSV s n ag u=some (p,v)∧p:=by
 cases u with
 |pp cs=>obtain⟨h1,rfl⟩:=gd_some h;exact⟨_,rfl,h1⟩
 |ptr o off=>
  simp only [loadC]at h;simp only [loadSV,hS.look];split at h
  ·rename_i cs hl;rw [hl];obtain⟨h1,rfl⟩:=gd_some h;exact⟨_,rfl,h1⟩
  ·rename_i sz xs hl;rw [hl];obtain⟨⟨h1,h2⟩,rfl⟩:=gd_some h;subst h1;exact⟨_,rfl,h2,hS.rows hl⟩
  ·rename_i l hl;rw [hl];obtain⟨⟨h1,h2⟩,rfl⟩:=gd_some h;subst h1;exact⟨_,rfl,h2⟩
  ·cases h
 | ap o sz i j=>
  simp only [loadC]at h;simp only [loadSV,hS.look];split at h
  ·rename_i sz' xs hl
   rw [hl];obtain⟨⟨h1,h2,h3⟩,rfl⟩:=gd_some h;refine⟨_,rfl,h1,h2,h3, ?_⟩;rw [List.getD_eq_getElem?_getD,List.getElem?_eq_getElem h2,h1];exact hS.rows hl _ (List.getElem_mem _)
  ·rename_i l hl;rw [hl];obtain⟨h1,rfl⟩:=gd_some h;exact⟨_,rfl,h1⟩
  ·cases h
 |_=>cases h
theorem optC_of (hS:Sim N c s) (x:Option Arg) (n:Int):optI s x n=optC c x n:=by
 cases x with
 |none=>rfl
 |some a=>simp only [optI,optC,hS.ev]
theorem slcC_of (hS:Sim N c s) {sz:Nat} {u v:SV} {lo hi mx:Option Arg} (h:slcC c sz u lo hi mx=some v):∃p,slcSV s sz u lo hi mx=some (p,v)∧p:=by
 cases u with
 |byt l t=>
  simp only [slcC]at h;simp only [slcSV,optC_of hS];split at h<;>try (cases h;done)
  rename_i a b m h1 h2 h3;rw [h1,h2,h3];obtain⟨h4,rfl⟩:=gd_some h;exact⟨_,rfl,h4⟩
 |lst sz' l t=>
  simp only [slcC]at h;simp only [slcSV,optC_of hS];split at h<;>try (cases h;done)
  rename_i a b m h1 h2 h3;rw [h1,h2,h3];obtain⟨h4,rfl⟩:=gd_some h;exact⟨_,rfl,h4⟩
 | psl o sz' off n cap=>
  cases cap with
  |none=>
   simp only [slcC]at h;simp only [slcSV,optC_of hS];split at h<;>try (cases h;done)
   rename_i a b h1 h2;rw [h1,h2];obtain⟨h4,rfl⟩:=gd_some h;exact⟨_,rfl,h4⟩
  |some cap=>
   simp only [slcC]at h;simp only [slcSV,optC_of hS];split at h<;>try (cases h;done)
   rename_i a b m h1 h2 h3;rw [h1,h2,h3];obtain⟨h4,rfl⟩:=gd_some h;exact⟨_,rfl,h4⟩
 |_=>cases h
theorem bytesC_of (hS:Sim N c s) {u:SV} {l:List UInt8} (h:bytesC c u=some l):∃p,bytesOf s u=some (p,l)∧p:=by
 cases u with
 |byt l t=>cases h;exact⟨True,rfl,trivial⟩
 |str l=>cases h;exact⟨True,rfl,trivial⟩
 |psl o sz off n cap=>
  simp only [bytesC]at h;simp only [bytesOf,hS.look];split at h
  ·rename_i l' hl;rw [hl];obtain⟨h1,rfl⟩:=gd_some h;exact⟨_,rfl,h1⟩
  ·cases h
 |_=>cases h
theorem rowsC_of (hS:Sim N c s) {u:SV} {sz:Nat} {l:List (List SV)} (h:rowsC c sz u=some l):∃p,rowsOf s sz u=some (p,l)∧p:=by
 cases u with
 |lst sz' l t=>obtain⟨h1,rfl⟩:=gd_some h;exact⟨_,rfl,h1⟩
 | psl o sz' off n cap=>
  simp only [rowsC]at h;simp only [rowsOf,hS.look];split at h
  ·rename_i sz'' xs hl
   rw [hl];obtain⟨⟨h1,h2,h3⟩,rfl⟩:=gd_some h;exact⟨_,rfl,h1,h2,h3,by rw [h2];exact hS.rows hl⟩
  ·cases h
 |_=>cases h
theorem psC_eq (hS:Sim N c s) (ps:List (Nat×Nat×Arg)):psC c ps=ps.map fun(o,n,x)=>(o,n,s.ev x):=by
 induction ps with
 |nil=>rfl
 |cons p r ih=>obtain⟨o,n,x⟩:=p;simp only [psC,List.map_cons,ih,hS.ev]
theorem valC_of (hS:Sim N c s) {so:SOp} {v:SV} (h:valC c so=some v):∃p,val s so=some (p,v)∧p:=by
 cases so with
 |mov x=>cases h;exact⟨True,by simp only [val,hS.ev],trivial⟩
 |build z ps=>simp only [valC,psC_eq hS]at h;obtain⟨l,h1,rfl⟩:=Option.map_eq_some_iff.1 h;exact⟨True,by simp only [val,h1,Option.map_some],trivial⟩
 |lit sz xs=>simp only [valC,hS.evL]at h;obtain⟨l,h1,rfl⟩:=Option.map_eq_some_iff.1 h;exact⟨True,by simp only [val,h1,Option.map_some],trivial⟩
 |litB xs=>simp only [valC,hS.evL]at h;obtain⟨l,h1,rfl⟩:=Option.map_eq_some_iff.1 h;exact⟨True,by simp only [val,h1,Option.map_some],trivial⟩
 |load n ag a=>simp only [val,hS.ev];exact loadC_of hS h
 |nchk x=>simp only [valC]at h;simp only [val,hS.ev];cases hx:c.ev x<;>rw [hx]at h<;>first|(cases h;done)|(cases h;exact⟨True,rfl,trivial⟩)
 |bin op x y=>simp only [val,hS.ev];exact binC_of h
 |beq ne x y=>
  simp only [valC]at h;simp only [val,hS.ev];split at h<;>try (cases h;done)
  rename_i a b h1 h2;cases h;rw [h1,h2];exact⟨True,rfl,trivial⟩
 |eqS ne ts x y=>
  simp only [valC]at h;simp only [val,hS.ev];split at h<;>try (cases h;done)
  rename_i a b h1 h2;obtain⟨l,h3,rfl⟩:=Option.map_eq_some_iff.1 h;rw [h1,h2];exact⟨True,by simp only [h3,Option.map_some],trivial⟩
 |un op x=>simp only [valC]at h;exact⟨True,by simp only [val,hS.ev,h,Option.map_some],trivial⟩
 |toInt k x=>simp only [valC]at h;exact⟨True,by simp only [val,hS.ev,h,Option.map_some],trivial⟩
 | toStr x=>
  simp only [valC]at h;simp only [val,hS.ev];split at h<;>try (cases h;done)
  all_goals
   rename_i h1;cases h;rw [h1];exact⟨True,rfl,trivial⟩
 |slid x=>simp only [valC]at h;cases h
 |newB x=>simp only [valC]at h;cases h
 |isni ne x=>
  simp only [valC]at h;simp only [val,hS.ev];split at h<;>try (cases h;done)
  rename_i h1;cases h;rw [h1];exact⟨True,rfl,trivial⟩
 |s2b x=>
  simp only [valC]at h;simp only [val,hS.ev];split at h<;>try (cases h;done)
  rename_i l h1;cases h;rw [h1];exact⟨True,rfl,trivial⟩
 | b2s x=>
  simp only [valC]at h;simp only [val,hS.ev];cases hx:c.ev x with
  |byt l t=>rw [hx]at h;cases h;exact⟨True,rfl,trivial⟩
  |psl o sz off n cap=>
   rw [hx]at h;simp only [bytesC]at h;simp only [b2sSV,hS.look];obtain⟨l,h1,rfl⟩:=Option.map_eq_some_iff.1 h;split at h1
   ·rename_i l' hl;rw [hl];obtain⟨h2,rfl⟩:=gd_some h1;exact⟨_,rfl,h2⟩
   ·cases h1
  |_=>rw [hx]at h;cases h
 |mkfn f a b=>simp only [valC,hS.evL]at h;cases h;exact⟨True,rfl,trivial⟩
 |slcS x lo hi=>
  simp only [valC]at h;simp only [val,hS.ev];split at h<;>try (cases h;done)
  rename_i l hx;rw [hx];simp only [optC_of hS];split at h<;>try (cases h;done)
  rename_i a b h1 h2;rw [h1,h2];obtain⟨h4,rfl⟩:=gd_some h;exact⟨_,rfl,h4⟩
 |slcL sz x lo hi mx=>simp only [val,hS.ev];exact slcC_of hS h
 |slcA len sz x lo hi mx=>
  simp only [valC]at h;simp only [val,hS.ev];split at h<;>try (cases h;done)
  rename_i o off hx;split at h<;>try (cases h;done)
  rename_i ho;subst ho;rw [hx];exact slcC_of hS h
 |faddr off x=>simp only [valC]at h;simp only [val,hS.ev];cases hx:c.ev x<;>rw [hx]at h<;>first|(cases h;done)|(cases h;exact⟨True,rfl,trivial⟩)
 |fld off n ag x=>
  simp only [valC]at h;simp only [val,hS.ev];split at h<;>try (cases h;done)
  rename_i cs hx;rw [hx];obtain⟨h4,rfl⟩:=gd_some h;exact⟨_,rfl,h4⟩
 | iaddrL sz x i=>
  simp only [valC]at h;simp only [val,hS.ev];split at h<;>try (cases h;done)
  all_goals
   rename_i h1 h2;rw [h1,h2];obtain⟨h4,rfl⟩:=gd_some h;exact⟨_,rfl,h4⟩
 | iaddrA len sz x i=>
  simp only [valC]at h;simp only [val,hS.ev,hS.look];split at h<;>try (cases h;done)
  ·rename_i o off n h1 h2
   rw [h1,h2];simp only;split at h<;>try (cases h;done)
   ·rename_i cs hl
    rw [hl];obtain⟨h4,rfl⟩:=gd_some h;exact⟨_,rfl,h4⟩
   ·rename_i ob hno hl
    rw [hl];obtain⟨⟨h4,h5⟩,rfl⟩:=gd_some h;cases ob with
    |rc cs=>exact absurd rfl (hno cs)
    |_=>simp only [h4,if_true];exact⟨_,rfl,h5⟩
  ·rename_i cs n h1 h2
   rw [h1,h2];obtain⟨h4,rfl⟩:=gd_some h;exact⟨_,rfl,h4⟩
 |idxA len sz ag x i=>
  simp only [valC]at h;simp only [val,hS.ev];split at h<;>try (cases h;done)
  rename_i h1 h2;rw [h1,h2];obtain⟨h4,rfl⟩:=gd_some h;exact⟨_,rfl,h4⟩
 |idxS x i=>
  simp only [valC]at h;simp only [val,hS.ev];split at h<;>try (cases h;done)
  rename_i h1 h2;rw [h1,h2];obtain⟨h4,rfl⟩:=gd_some h;exact⟨_,rfl,h4⟩
 |ext x i=>
  simp only [valC]at h;simp only [val,hS.ev];split at h<;>try (cases h;done)
  rename_i vs hx;rw [hx];obtain⟨h4,rfl⟩:=gd_some h;exact⟨_,rfl,h4⟩
 |len b x=>simp only [valC]at h;obtain⟨n,h1,rfl⟩:=Option.map_eq_some_iff.1 h;exact⟨True,by simp only [val,hS.ev,h1],trivial⟩
 |lenC n=>cases h;exact⟨True,rfl,trivial⟩
 | cap x=>
  simp only [valC]at h;simp only [val,hS.ev];cases hx:c.ev x with
  |psl o sz off n m=>cases m<;>rw [hx]at h<;>cases h;exact⟨True,rfl,trivial⟩
  |byt l t=>rw [hx]at h;simp only at h;split at h<;>cases h;rename_i ht;subst ht;exact⟨True,rfl,trivial⟩
  |lst sz l t=>rw [hx]at h;simp only at h;split at h<;>cases h;rename_i ht;subst ht;exact⟨True,rfl,trivial⟩
  |_=>rw [hx]at h;cases h
 |mini x y=>
  simp only [valC]at h;simp only [val,hS.ev];split at h<;>try (cases h;done)
  rename_i h1 h2;rw [h1,h2];simp only;split at h<;>cases h;rename_i hk;exact⟨True,by rw [if_pos hk],trivial⟩
 |maxi x y=>
  simp only [valC]at h;simp only [val,hS.ev];split at h<;>try (cases h;done)
  rename_i h1 h2;rw [h1,h2];simp only;split at h<;>cases h;rename_i hk;exact⟨True,by rw [if_pos hk],trivial⟩
 |_=>cases h
end Go.Sy
namespace Go.Sy
variable [LaidData]
variable {P : Program} {C : Ctx} {x : Sit} {a : Act} {w : World} {o : Oper} {so : SOp} {N : Nat} {c c' : CSt} {s : St} {d : Option Nat}
def M (C:Ctx) (N:Nat) (c:CSt):Act→World→Prop:=PostK C (Sim N c)
theorem Sim.purge (h:Sim N c s) (lo hi:Nat):Sim N (c.purge lo hi) (s.purge lo hi):=by
 refine⟨⟨fun p hp=> ?_,so_purge h.inv.so,fun p hp=> ?_⟩, ?_,fun o=> ?_,fun t=> ?_⟩
 ·obtain⟨q,hq,e⟩:=mem_purgeT hp
  rw [e];exact h.inv.dom q hq
 ·obtain⟨_,ob,h1,h2⟩:=mem_purgeO hp
  rw [h2];exact wf_purge (h.inv.wf _ h1)
 ·show SV.purgeL lo hi s.tm=_
  rw [h.tm,purgeL_eq,List.map_map];apply List.map_congr_left;intro i _;exact(getT_purge lo hi i c.tm).symm
 ·show(purgeO lo hi s.ob).lookup o=getO (purgeO lo hi c.ob) o
  have:=h.look o;unfold St.look CSt.look at this;rw [lookup_getO]at this ⊢;rw [getO_purge,getO_purge,this]
 ·show t∈dropT lo hi s.tk↔t∈dropT lo hi c.tk
  rw [mem_dropT,mem_dropT,h.tk]
theorem Sim.addO (h:Sim N c s) (k:Nat) {ob:SObj} (hw:ob.wf=true):Sim N ⟨c.tm,putO c.ob k ob,c.tk⟩ (s.addO k ob):=by
 refine⟨⟨h.inv.dom,so_put h.inv.so,fun p hp=> ?_⟩,h.tm,fun o=> ?_,h.tk⟩
 ·rcases mem_putO hp with e|e
  ·rw [e];exact hw
  ·exact h.inv.wf p e
 ·show((k,ob)::s.ob).lookup o=getO (putO c.ob k ob) o
  have:=h.look o;unfold St.look CSt.look at this;rw [getO_put];simp only [List.lookup]
  by_cases he:o=k
  ·subst he;simp
  ·have:(o==k)=false:=by simpa using he
   rw [this,if_neg he];exact h.look o
theorem lookup_setC (k:Nat) (ob:SObj) (o:Nat):∀l:List (Nat×SObj),(Sy.setO k ob l).lookup o=if o=k∧(l.lookup k).isSome=true then some ob else l.lookup o
 |[]=>by simp [Sy.setO]
 | p::r=>by
  simp only [Sy.setO]
  by_cases hp:p.1=k
  ·rw [if_pos hp]
   subst hp;simp only [List.lookup]
   by_cases ho:o=p.1
   ·subst ho;simp
   ·have:(o==p.1)=false:=by simpa using ho
    simp [this,ho]
  ·rw [if_neg hp]
   have h1:(k==p.1)=false:=by simpa using Ne.symm hp
   simp only [List.lookup,h1,lookup_setC k ob o r]
   by_cases ho:o=p.1
   ·subst ho;simp [hp]
   ·have:(o==p.1)=false:=by simpa using ho
    simp [this]
theorem Sim.setO (h:Sim N c s) {k:Nat} {ob:SObj} (hl:(c.look k).isSome=true) (hw:ob.wf=true):Sim N ⟨c.tm,putO c.ob k ob,c.tk⟩ (s.setO k ob):=by
 refine⟨⟨h.inv.dom,so_put h.inv.so,fun p hp=> ?_⟩,h.tm,fun o=> ?_,h.tk⟩
 ·rcases mem_putO hp with e|e
  ·rw [e];exact hw
  ·exact h.inv.wf p e
 ·show(Sy.setO k ob s.ob).lookup o=getO (putO c.ob k ob) o
  rw [getO_put,lookup_setC]
  have h1:(s.ob.lookup k).isSome=true:=by have:=h.look k;unfold St.look at this;rw [this];exact hl
  by_cases he:o=k
  ·rw [if_pos ⟨he,h1⟩,if_pos he]
  ·rw [if_neg (fun e=>he e.1),if_neg he];exact h.look o
theorem Sim.tks (h:Sim N c s) {l k:List Nat} (hlk:∀t,t∈l↔t∈k):Sim N ⟨c.tm,c.ob,k⟩ ⟨s.tm,s.ob,l⟩:=⟨⟨h.inv.dom,h.inv.so,h.inv.wf⟩,h.tm,h.look,hlk⟩
theorem mem_eatK {t:Tok} {l k:List Nat} (h:∀t,t∈l↔t∈k) (n:Nat):n∈t.eat l↔n∈t.eat k:=by
 cases t with
 |id t=>simp only [Tok.eat,mem_dropT,h]
 |_=>exact h n
structure Same (e:CEff) (f:Eff):Prop where
 val:f.val=e.val
 wr:f.wr=e.wr
 new:f.new=e.new
 eat:f.eat=e.eat
 tok:f.tok=e.tok
structure Good (c:CSt) (e:CEff):Prop where
 new:∀ob,e.new=some ob→ob.wf=true
 wr:e.wr=[]∨∃k ob,e.wr=[(k,ob)]∧(c.look k).isSome=true∧ob.wf=true
theorem Sim.app (h:Sim N c s) (hd:∀k,d=some k→k<N) {e:CEff} {f:Eff} (hs:Same e f) (hg:Good c e):Sim N (c.app d e) (s.app d f):=by
 unfold CSt.app St.app;rw [hs.new,hs.tok,hs.val,hs.wr,hs.eat];cases hn:e.new with
 |some ob=>exact((h.purge _ _).addO _ (wf_purge (hg.new ob hn))).put hd _
 | none=>
  cases ht:e.tok with
  |true=>refine Sim.put (c:=⟨_,_,_⟩) ?_ hd _;refine((h.purge (d.getD 0+100) (d.getD 0+100+1)).tks (fun t=> ?_));rw [mem_putK,List.mem_cons,mem_dropT,mem_dropT,mem_eatK h.tk]
  |false=>
   rcases hg.wr with hw|⟨k,ob,hw,h1,h2⟩
   ·rw [hw];exact h.put hd _
   ·rw [hw];exact(h.setO h1 h2).put hd _
theorem Same.v (v:SV) (p:Prop):Same {val:=v} {pre:=p,val:=v}:=⟨rfl,rfl,rfl,rfl,rfl⟩
theorem Good.v (v:SV):Good c {val:=v}:=⟨fun ob h=>(by cases h),.inl rfl⟩
theorem wf_rep (n:Nat) (z:List SV):(SObj.arr z.length (List.replicate n z)).wf=true:=by simp only [SObj.wf,List.all_eq_true,decide_eq_true_eq];intro y hy;rw [(List.mem_replicate.1 hy).2]
theorem wf_arr {sz:Nat} {xs:List (List SV)}:(SObj.arr sz xs).wf=true↔∀y∈xs,y.length=sz:=by simp only [SObj.wf,List.all_eq_true,decide_eq_true_eq]
theorem chunk_wf (sz:Nat):∀(m:Nat) (v:List SV),v.length=m*sz→∀y∈chunk sz m v,y.length=sz
 |0,_,_,y,hy=>by cases hy
 |m+1,v,h,y,hy=>by
  rw [Nat.succ_mul]at h;simp only [chunk]at hy;rcases List.mem_cons.1 hy with rfl|hy
  ·rw [List.length_take];omega
  ·exact chunk_wf sz m (v.drop sz) (by rw [List.length_drop];omega) y hy
theorem setRow_wf {sz:Nat} {xs:List (List SV)} {i j n:Nat} {v:List SV} (h:∀y∈xs,y.length=sz) (hi:i<xs.length) (hj:j+n≤sz) (hv:v.length=n):∀y∈setRow sz xs i j n v,y.length=sz:=by
 intro y hy;unfold setRow at hy;split at hy
 ·rename_i hc
  rcases List.mem_or_eq_of_mem_set hy with h1|h1
  ·exact h y h1
  ·rw [h1,hv];exact hc.2
 ·rcases List.mem_or_eq_of_mem_set hy with h1|h1
  ·exact h y h1
  ·have:(xs.getD i []).length=sz:=by
    rw [List.getD_eq_getElem?_getD,List.getElem?_eq_getElem hi];exact h _ (List.getElem_mem _)
   rw [h1];simp only [List.length_append,List.length_take,List.length_drop,this,hv];omega
theorem readyC_of (h:Sim N c s) {t:Tok} (hr:t.readyC c=true):t.ready s=true:=by
 cases t with
 |no=>cases hr
 |clip=>rfl
 |id t=>simp only [Tok.readyC,List.contains_eq_mem,decide_eq_true_eq]at hr;simp only [Tok.ready,List.contains_eq_mem,decide_eq_true_eq];exact(h.tk t).2 hr
theorem slotRep (hM:Models C x s a w) {y:Arg} (hy:y.isT=true):Rep x (s.ev y) (match y with| .t n=>a.tmps.getD n Go.undef|_=>Go.undef):=by
 cases y with
 |t n=>exact hM.slot n
 |_=>cases hy
theorem effC_of0 (h:Sim N c s) {e:CEff} (he:effC c d so=some e) (hp:∀q y z,so≠ .pick q y z) (hn:∀ne q,so≠ .isnil ne q) (hcp:∀sz q y,so≠ .cpy sz q y):∃f,eff s d so=some f∧f.pre∧Same e f∧Good c e:=by
 have plain:∀ {so:SOp},effC c d so=valE (valC c so)→(eff s d so=match val s so with|some (p,v)=>some {pre:=p,val:=v}|none=>none)→effC c d so=some e→∃f,eff s d so=some f∧f.pre∧Same e f∧Good c e:=by
  intro so h1 h2 h3;rw [h1]at h3;cases hv:valC c so with
  |none=>rw [hv]at h3;cases h3
  |some v=>rw [hv]at h3;cases h3;obtain⟨p,h4,h5⟩:=valC_of h hv;exact⟨{pre:=p,val:=v},by rw [h2,h4],h5,Same.v v p,Good.v v⟩
 cases so with
 |pick q y z=>exact absurd rfl (hp q y z)
 |isnil ne q=>exact absurd rfl (hn ne q)
 |call _ _=>cases he
 |newB _=>cases he
 |slid _=>cases he
 |new ob=>
  simp only [effC]at he;split at he<;>try (cases he;done)
  obtain⟨h1,rfl⟩:=gd_some he;exact⟨_,rfl,trivial,⟨rfl,rfl,rfl,rfl,rfl⟩,⟨fun ob' e=>(by cases e;exact h1),.inl rfl⟩⟩
 |box q=>simp only [effC]at he;split at he<;>cases he;exact⟨_,rfl,trivial,⟨rfl,rfl,by simp only [h.ev],rfl,rfl⟩,⟨fun ob' e=>(by cases e;rfl),.inl rfl⟩⟩
 |mk z bytes n m=>
  simp only [effC]at he;simp only [eff,h.ev];split at he<;>try (cases he;done)
  rename_i h1 h2;rw [h1,h2];obtain⟨h1,rfl⟩:=gd_some he;exact⟨_,rfl,h1,⟨rfl,rfl,rfl,rfl,rfl⟩,⟨fun ob' e=>(by cases e;exact wf_rep _ z),.inl rfl⟩⟩
 |mkB n m=>
  simp only [effC]at he;simp only [eff,h.ev];split at he<;>try (cases he;done)
  rename_i h1 h2;rw [h1,h2];obtain⟨h1,rfl⟩:=gd_some he;exact⟨_,rfl,h1,⟨rfl,rfl,rfl,rfl,rfl⟩,⟨fun ob' e=>(by cases e;rfl),.inl rfl⟩⟩
 | store n q y=>
  simp only [effC]at he;simp only [eff,h.ev];split at he<;>try (cases he;done)
  rename_i hdef;rw [hdef];simp only;unfold storeC at he;unfold storeE;split at he
  ·rename_i o' off hq
   rw [hq];simp only [h.look];split at he<;>try (cases he;done)
   ·rename_i cs hl
    rw [hl];obtain⟨h1,rfl⟩:=gd_some he;exact⟨_,rfl,h1,⟨rfl,rfl,rfl,rfl,rfl⟩,⟨fun ob' e=>(by cases e),.inr ⟨_,_,rfl,by rw [hl];rfl,rfl⟩⟩⟩
   ·rename_i sz xs hl
    rw [hl];obtain⟨⟨h1,h2,h3,h4⟩,rfl⟩:=gd_some he
    exact⟨_,rfl,⟨h1,h2,h3,h4⟩,⟨rfl,rfl,rfl,rfl,rfl⟩,
     ⟨fun ob' e=>(by cases e),.inr ⟨_,_,rfl,by rw [hl];rfl,wf_arr.2 (chunk_wf sz _ _ (by rw [List.length_map];omega))⟩⟩⟩
   ·rename_i l hl
    rw [hl];simp only at he ⊢;split at he<;>try (cases he;done)
    rename_i l' hv;rw [hv];obtain⟨h1,rfl⟩:=gd_some he;exact⟨_,rfl,h1,⟨rfl,rfl,rfl,rfl,rfl⟩,⟨fun ob' e=>(by cases e),.inr ⟨_,_,rfl,by rw [hl];rfl,rfl⟩⟩⟩
  ·rename_i o' sz i j hq
   rw [hq];simp only [h.look];split at he<;>try (cases he;done)
   ·rename_i sz' xs hl
    rw [hl];obtain⟨⟨h1,h2,h3,h4,h5⟩,rfl⟩:=gd_some he
    exact⟨_,rfl,⟨h1,h2,h3,h4,by rw [h1];exact h.rows hl,h5⟩,⟨rfl,rfl,rfl,rfl,rfl⟩,
     ⟨fun ob' e=>(by cases e),.inr ⟨_,_,rfl,by rw [hl];rfl,wf_arr.2 (by subst h1;exact setRow_wf (h.rows hl) h2 h3 (by simpa using h4))⟩⟩⟩
   ·rename_i l hl
    rw [hl];simp only at he ⊢;split at he<;>try (cases he;done)
    rename_i b hv;rw [hv];obtain⟨h1,rfl⟩:=gd_some he;exact⟨_,rfl,h1,⟨rfl,rfl,rfl,rfl,rfl⟩,⟨fun ob' e=>(by cases e),.inr ⟨_,_,rfl,by rw [hl];rfl,rfl⟩⟩⟩
  ·cases he
 | app z bytes q y=>
  simp only [effC]at he;simp only [eff,h.ev];split at he<;>try (cases he;done)
  split at he<;>try (cases he;done)
  ·rename_i l t hq
   rw [hq];obtain⟨l',h1,h2⟩:=Option.bind_eq_some_iff.1 he;obtain⟨p,h3,h4⟩:=bytesC_of h h1;obtain⟨⟨g1,g2,g3,g4⟩,rfl⟩:=gd_some h2;simp only [h3];exact⟨_,rfl,⟨h4,g1,g2,readyC_of h g3,g4⟩,⟨rfl,rfl,rfl,rfl,rfl⟩,⟨fun ob' e=>(by cases e),.inl rfl⟩⟩
  ·rename_i sz' l t hq
   rw [hq];obtain⟨l',h1,h2⟩:=Option.bind_eq_some_iff.1 he;obtain⟨p,h3,h4⟩:=rowsC_of h h1;obtain⟨⟨g1,g3,g4⟩,rfl⟩:=gd_some h2;simp only [h3];exact⟨_,rfl,⟨h4,g1,readyC_of h g3,g4⟩,⟨rfl,rfl,rfl,rfl,rfl⟩,⟨fun ob' e=>(by cases e),.inl rfl⟩⟩
 |cpy sz q y=>exact absurd rfl (hcp sz q y)
 |appM z bytes q y=>cases he
 |ovl q y=>cases he
 |_=>exact plain (effC_pure rfl) rfl he
theorem effC_of (P:Program) (h:Sim N c s) (hM:Models C x s a w) {e:CEff} (he:effC c d so=some e) (hp:∀q y z,so≠ .pick q y z) (hn:∀ne q,so≠ .isnil ne q):∃f,eff s d so=some f∧f.pre∧Same e f∧Good c e:=by
 by_cases hcp:∃sz q y,so= .cpy sz q y
 ·obtain⟨sz,q,y,rfl⟩:=hcp
  simp only [effC]at he;simp only [eff,h.ev];split at he<;>try (cases he;done)
  rename_i o' sz' off n cap hq;rw [hq];simp only [h.look];split at he<;>try (cases he;done)
  ·rename_i l hl
   rw [hl];obtain⟨l',h1,h2⟩:=Option.bind_eq_some_iff.1 he;obtain⟨p,h3,h4⟩:=bytesC_of h h1;obtain⟨⟨g1,g2,g3⟩,rfl⟩:=gd_some h2;simp only [h3];exact⟨_,rfl,⟨h4,g1,g2,g3⟩,⟨rfl,rfl,rfl,rfl,rfl⟩,⟨fun ob' e=>(by cases e),.inr ⟨_,_,rfl,by rw [hl];rfl,rfl⟩⟩⟩
  ·rename_i sz'' xs hl
   rw [hl];obtain⟨l',h1,h2⟩:=Option.bind_eq_some_iff.1 he;obtain⟨p,h3,h4⟩:=rowsC_of h h1;obtain⟨⟨g0,g1,g2,g3⟩,rfl⟩:=gd_some h2;simp only [h3];have hrows:=h.rows hl;obtain⟨_,hl',_⟩:=src_rows (P:=P) hM (slotRep hM g0) (by rw [h.ev];exact h3) h4;refine⟨_,rfl,⟨h4,g1,g2,g3,by rw [g2];exact hrows⟩,⟨rfl,rfl,rfl,rfl,rfl⟩,⟨fun ob' e=>(by cases e),.inr ⟨_,_,rfl,by rw [hl];rfl,wf_arr.2 ?_⟩⟩⟩;intro r hr;rcases List.mem_append.1 hr with hr|hr
   ·rcases List.mem_append.1 hr with hr|hr
    ·rw [g2];exact hrows r (List.mem_of_mem_take hr)
    ·exact hl' r (List.mem_of_mem_take hr)
   ·rw [g2];exact hrows r (List.mem_of_mem_drop hr)
 ·exact effC_of0 h he hp hn (fun sz q y e=>hcp ⟨sz,q,y,e⟩)
theorem op_wp (h:M C N c a w) (hr:res1 P o=some so) (hd:∀k,o.dst=some k→k<N) (hc:effS c o.dst (effC c o.dst so)=some c') {K:Act→World→Prop} {Q:Exit→Act→World→Prop} (hK:∀a w,M C N c' a w→K a w):o.wp P a w K Q:=by
 obtain⟨x,s,hM,hS⟩:=h;cases he:effC c o.dst so with
 |none=>rw [he]at hc;cases hc
 | some e=>
  rw [he]at hc;simp only [effS,Option.some.injEq]at hc;subst hc
  by_cases hp:∃q y z,so= .pick q y z
  ·obtain⟨q,y,z,rfl⟩:=hp
   simp only [effC]at he;split at he<;>cases he;rename_i t ht;have hd':=done_pick hM hr (t:=t) (by rw [hS.ev];exact ht);refine wp_of_done hd' (k:=Sim N (c.app o.dst {val:=iteV t (c.ev y) (c.ev z)})) ?_ hK;have:(if t=true then s.ev y else s.ev z)=iteV t (c.ev y) (c.ev z):=by rw [hS.ev,hS.ev];rfl
   rw [this];exact hS.put hd _
  ·by_cases hn:∃ne q,so= .isnil ne q
   ·obtain⟨ne,q,rfl⟩:=hn
    have key:∃b,b=ne∧Done P C o a w (s.put o.dst (.bool b)):=by
     refine done_isnil hM hr (K:=fun b=>b=ne) ?_;rw [hS.ev];simp only [effC]at he;split at he<;>try (cases he;done)
     ·rename_i l t hl
      obtain⟨h1,_⟩:=gd_some he;rw [hl];intro b hb;cases b
      ·cases ne<;>rfl
      ·exact absurd (hb rfl) h1
     ·rename_i sz l t hl
      obtain⟨h1,_⟩:=gd_some he;rw [hl];intro b hb;cases b
      ·cases ne<;>rfl
      ·exact absurd (hb rfl) h1
     ·rename_i hl
      rw [hl]
    obtain⟨b,rfl,hd'⟩:=key;refine wp_of_done hd' (k:=Sim N (c.app o.dst e)) ?_ hK
    have:e= {val:= .bool b}:=by
     simp only [effC]at he;split at he
     ·obtain⟨_,h2⟩:=gd_some he;exact h2.symm
     ·obtain⟨_,h2⟩:=gd_some he;exact h2.symm
     ·exact(Option.some.inj he).symm
     ·cases he
    rw [this];exact hS.put hd _
   ·obtain⟨f,h1,h2,h3,h4⟩:=effC_of P hS hM he (fun q y z e=>hp ⟨q,y,z,e⟩) (fun ne q e=>hn ⟨ne,q,e⟩)
    exact wp_of_done (eff_all hM hr h1 h2) (k:=Sim N (c.app o.dst e)) (hS.app hd h3 h4) hK
end Go.Sy
