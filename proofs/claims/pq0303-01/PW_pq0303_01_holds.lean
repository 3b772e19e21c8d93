import PyProof.Rows.All
import Wide.All
import OpenK.AllK
import Wide.FinOn
import Lean
import PySem.Challenge.RW_pq0303_01
set_option Elab.async false
set_option linter.all false
set_option genInjectivity false
set_option genSizeOf false
set_option bootstrap.genMatcherCode false
set_option genCtorIdx false
open PySem PySem.W PySem.Calls PyProof.Rows
namespace Mine
noncomputable abbrev LL:OpenLaw:=PySem.Challenge.rw_pq0303_01
noncomputable abbrev LBd:List Stmt:=LL.row.prog.main.body
theorem said1:sreFenced LL.row.prog.main=true:=by rw[Fast.te11788848310118352699];kernel_rfl
theorem said2:((moduleNames LBd).isEmpty||lookedIntoSs (moduleNames LBd) LBd)=true:=by rw[Fast.te12862048085361865435];kernel_rfl
theorem said3:namesResolve LL.row.prog=true:=by rw[Fast.te8377067652309620493];kernel_rfl
theorem said4:noRoadLSs {strict:= !(importedModules LBd).all cThrough.contains,foot:=none,bare:=(["vars","dir","locals"]:List Str).filter (readsOut LL.row.prog LBd)} LBd=true:=by
 delta readsOut;rw[Fast.te17119622794617984870,Fast.te8326940854005059898];kernel_rfl
theorem said5:(namesMeet LL.row.prog LBd fun _ n=>attrL n)=true:=by rw[Fast.te17119622794617984870];kernel_rfl
theorem said6:(LL.bound'.all (fun n=> !builtinNamed n||LL.about==[n]|| !LL.reads n))=true:=by
 delta OpenLaw.reads readsOut;rw[Fast.te17119622794617984870];kernel_rfl
theorem said7:(LL.prog.main.body.flatMap importedNames).all (fun n=> !LL.reads n||(drawsOf n LL.prog.main.body).all fun mn=>mn.2 !=("attrgetter":Str)&&mn.2 !=("methodcaller":Str))=true:=by
 delta OpenLaw.reads readsOut;rw[Fast.te17119622794617984870];kernel_rfl
theorem said8:LL.namesIt=true:=by delta OpenLaw.namesIt OpenLaw.reads readsOut;rw[Fast.te17119622794617984870];kernel_rfl
theorem said9:(namesMeet LL.prog LL.above (fun _ n=> !LL.own.contains n))=true:=by rw[Fast.te17119622794617984870];kernel_rfl
theorem said0:OpenLaw.wellSaid LL=true:=by
 delta OpenLaw.wellSaid OpenRow.wellSaid OpenRow.partSaid looksOpen
 repeat' with_reducible refine look_both ?_ ?_
 all_goals first|with_reducible exact said1|with_reducible exact said2|with_reducible exact said3|with_reducible exact said4|with_reducible exact said5|with_reducible exact said6|with_reducible exact said7|with_reducible exact said8|with_reducible exact said9|skip
 all_goals try rw[Fast.te17119622794617984870]
 all_goals try rw[Fast.te8326940854005059898]
 all_goals try rw[Fast.te8179353310426384613]
 all_goals kernel_rfl
noncomputable def fnames:List Str:=List.map Str.ofString ["codes","first","text","tab_width","has_carets","truncates","wraps_words","hscroll","rows","after","reach","view","table",
 "place","number","here","start","column","end","next_column","glyphs","is_line_end","is_break","is_end","mark","room","cells","gap_start","gap_end",
 "advances","buffer","position","name","markers","point","begv","zv","is_live","is_read_only","ticks","codes_ticks","saved_ticks","listeners","undo","props",
 "overlays","locals","syntax","file","symbol","data","parts","parents","by_name","looks","numbers","low","high","marks",
 "begin","code_at","faces_at","hidden_at","shown_at","strings_at","settle","sign","step","spot","stop","cut_back","size","code","move_gap","widen_gap","insert","delete","put","drop","within",
 "inserted","deleted","replaced","goto","touch","number_of","merged"]
noncomputable def clss:List Addr:=[39,138,180,199,279,314,454,531,599,705,841,888]
noncomputable def lsC:Addr:=724
noncomputable def fname(k:Nat):Str:=match fnames[k]? with
 |some s=>s
 |none=>⟨Array.replicate (k+100) 0⟩
set_option genCtorIdx true in
inductive V where
 |none|bool (b:Bool)|int (i:Int)|str (s:Str)|ref (a:Addr)|opq|exc (sym:Str)
 |tup (xs:List V)|lst (xs:List V)|obj (C:Addr) (fs:List (Nat×V))|scr (is:List Int)
noncomputable def look(k:Nat):List (Nat×V)→Option V
 |[]=>Option.none
 |(j,u)::r=>if k=j then some u else look k r
set_option genCtorIdx true in
inductive AObj where
 |inst (C dx:Addr) (fs:List (Nat×V))
 |list (xs:List V)
 |idict (es:List (Int×V))
 |sdict (es:List (Nat×V))
noncomputable abbrev Hp:=Addr→Option AObj
noncomputable def foot(H:Hp)(b:Addr):Prop:=(∃o,H b=some o)∨∃a C fs,H a=some (.inst C b fs)
noncomputable def IsInst(h:Heap)(a C dx:Addr):Prop:=h.get? a=some (instObj C dx)
inductive RV (h:Heap) (P:Addr→Prop):Value→V→Prop
 |none:RV h P .none .none
 |bool (b:Bool):RV h P (.bool b) (.bool b)
 |int (i:Int) (t:Tok):RV h P (.int i t) (.int i)
 |str (x:Str) (t:Tok):RV h P (.str x t) (.str x)
 |ref (a:Addr):RV h P (.ref a) (.ref a)
 |opq (v:Value):RV h P v .opq
 |tup {a:Addr} {vs:List Value} {xs:List V}:P a→h.IsTuple a vs.toArray→vs.length=xs.length→(∀(i:Nat) (v:Value) (x:V),vs[i]? =some v→xs[i]? =some x→RV h P v x)→RV h P (.ref a) (.tup xs)
 |lst {a:Addr} {vs:List Value} {xs:List V}:P a→h.PlainList a vs.toArray→vs.length=xs.length→(∀(i:Nat) (v:Value) (x:V),vs[i]? =some v→xs[i]? =some x→RV h P v x)→RV h P (.ref a) (.lst xs)
 |scr {a:Addr} {vs:List Value} {is:List Int}:P a→h.IsList a vs.toArray→vs.length=is.length→(∀(i:Nat) (v:Value) (j:Int),vs[i]? =some v→is[i]? =some j→∃t,v=.int j t)→RV h P (.ref a) (.scr is)
 |exc {a dx:Addr} {o:Obj} {m:Str→Option Value} {sym:Str} {t:Tok}:P a→P dx→h.get? a=some o→o.cls=.ref lsC→notCls o=true→o.dict=some dx→h.Ns dx m→m (Str.ofString "symbol")=some (.str sym t)→RV h P (.ref a) (.exc sym)
 |obj {a C dx:Addr} {m:Str→Option Value} {fs:List (Nat×V)} {val:Nat→Value}:P a→P dx→C∈clss→IsInst h a C dx→h.Ns dx m→(∀(k:Nat) (u:V),look k fs=some u→m (fname k)=some (val k))→
   (∀(k:Nat) (u:V),look k fs=some u→RV h P (val k) u)→(∀x,(∀k,(look k fs).isSome=true→fname k≠x)→m x=Option.none)→RV h P (.ref a) (.obj C fs)
noncomputable def RVs(h:Heap)(P:Addr→Prop)(vs:List Value)(xs:List V):Prop:=vs.length=xs.length∧∀(i:Nat) (v:Value) (x:V),vs[i]? =some v→xs[i]? =some x→RV h P v x
structure FR(h:Heap)(P:Addr→Prop)(m:Str→Option Value)(fs:List (Nat×V)):Prop where
 hit:∀(k:Nat) (u:V),look k fs=some u→∃v,m (fname k)=some v∧RV h P v u
 miss:∀x,(∀k,(look k fs).isSome=true→fname k≠x)→m x=Option.none
noncomputable def DNs(h:Heap)(dx:Addr)(m:Str→Option Value)(N:Nat):Prop:=∃es n,h.get? dx=some ⟨.type "dict",none,.dict es n,#[]⟩∧StrKeys es∧(∀x,nsFind es x=m x)∧es.size≤N
noncomputable abbrev pw:Program:=PySem.Challenge.pw_pq0303_01
noncomputable abbrev MM(w:World):Model:=model pw w
noncomputable def Pu(H:Hp)(Z:Addr→Prop):Addr→Prop:=fun b=>¬foot H b∧¬Z b
noncomputable def OR(w:World)(h:Heap)(P:Addr→Prop)(a:Addr):AObj→Prop
 |.inst C dx fs=>C∈clss∧IsInst h a C dx∧∃m,DNs h dx m fs.length∧FR h P m fs
 |.list xs=>∃vs,h.PlainList a vs.toArray∧RVs h P vs xs
 |.idict es=>∃kvs:List (Int×Value),h.DictOf (intKind pw w) a kvs∧kvs.map (·.1)=es.map (·.1)∧RVs h P (kvs.map (·.2)) (es.map (·.2))
 |.sdict es=>∃kvs:List (Str×Value),h.DictOf (strKind pw w) a kvs∧kvs.map (·.1)=es.map (fun e=>fname e.1)∧RVs h P (kvs.map (·.2)) (es.map (·.2))
structure HRep(w:World)(h0:Heap)(Z:Addr→Prop)(H:Hp)(h:Heap):Prop where
 keep:∀b o,h0.get? b=some o→h.get? b=some o
 fresh:∀b,foot H b→h0.get? b=none
 notZ:∀b,foot H b→¬Z b
 inH:∀b,Z b→∃o,h.get? b=some o
 zf:∀b,Z b→h0.get? b=none
 obj:∀a o,H a=some o→OR w h (Pu H Z) a o
 apart:∀a C dx fs,H a=some (.inst C dx fs)→H dx=none∧∀a' C' fs',H a'=some (.inst C' dx fs')→a'=a
noncomputable def Fx(d:Data):Prop:=(∃vs,d=.fields vs)∨(∃xs k,d=.seq xs k)∨d=.plain
noncomputable def SlK(h':Heap)(b:Addr)(o:Obj):Prop:=∃sl,h'.get? b=some {o with slots:=sl}∧(Fx o.data→sl=o.slots)
noncomputable def Ex(h base:Heap)(e dx:Addr):Prop:=
 ∃oe vs,h.get? e=some oe∧oe.cls=.ref lsC∧oe.dict=some dx∧oe.data=.fields vs∧1< vs.size∧base.get? e=none∧
  (vs[1]? =some .none∨∃T oT ts,vs[1]? =some (.ref T)∧base.get? T=none∧T≠e∧h.get? T=some oT∧oT.data=.fields ts∧3< ts.size)
structure St(w:World)(h0:Heap)(Z:Addr→Prop)(H H':Hp)(s s':Shared):Prop where
 hr:HRep w h0 Z H' s'.heap
 keep:∀b o,s.heap.get? b=some o→¬foot H b→¬Z b→s'.heap.get? b=some o
 keepZ:∀b o,Z b→s.heap.get? b=some o→SlK s'.heap b o
 new:∀b,foot H' b→foot H b∨s.heap.get? b=none
 gens:s'.gens=s.gens
 os:s'.os=s.os
open Classical in
noncomputable def entE(h:Heap)(H:Hp):Addr→Option Obj:=fun b=>if foot H b then none else h.get? b
structure ExcD(w:World)(h0:Heap)(A:Around)(Z F:Addr→Prop)(e:Addr→Option Obj)(H:Hp)(a:Addr)(h:Heap)(l:List Env)(base:Heap)(dx:Addr)(m:Str→Option Value)(t:Tok)(g:Heap)(Zr:Addr→Prop):Prop where
 frames:A.frames=some l
 stays:base.StaysIn h
 funs:h.FunFrames base l
 ex:Ex h base a dx
 ns:h.Ns dx m
 sym:m (Str.ofString "symbol")=some (.str (Str.ofString "args-out-of-range") t)
 rep:HRep w h0 Zr H g
 dn:g.get? dx=none
 zz:∀b,Z b→Zr b
 zn:∀b,Zr b→Z b∨e b=none
 gb:∀b o,g.get? b=some o→(Zr b→Fx o.data)→base.get? b=some o
 gs:∀b o,g.get? b=some o→SlK h b o
 old:∀b o,e b=some o→¬F b→¬Z b→g.get? b=some o
 oldZ:∀b o,e b=some o→Z b→SlK g b o
 new:∀b,foot H b→F b∨e b=none
noncomputable def ExcAt(w:World)(h0:Heap)(A:Around)(Z F:Addr→Prop)(e:Addr→Option Obj)(H:Hp)(a:Addr)(h g:Heap):Prop:=∃l base dx m t Zr,ExcD w h0 A Z F e H a h l base dx m t g Zr
noncomputable def clsOK(K:Frag)(C:Addr):Bool:=
 findIn K (.ref C) "__getattribute__"==some (some (.builtin "object.__getattribute__"))&&findIn K (.ref C) "__getattr__"==some none&&
 findIn K (.ref C) "__setattr__"==some (some (.builtin "object.__setattr__"))&&plainOver K C&&hasDictIn K C
noncomputable def fldOK(K:Frag)(C:Addr)(x:Str):Bool:=takerIn K C x==some none&&(match findIn K (.ref C) x with
 |some none=>true
 |some (some a)=>(specialIn K a "__get__").isSome&&takesIn K a==some false
 |none=>false)
structure KOK(K:Frag):Prop where
 cls:∀C∈clss,clsOK K C=true
 fld:∀C∈clss,∀k,k< 87→fldOK K C (fname k)=true
set_option genCtorIdx true in
inductive Tg where
 |nm (k:Nat)|tp (ks:List Nat)
set_option genCtorIdx true in
inductive B1 where
 |len|abs|sum|sorted|list
set_option genCtorIdx true in
inductive B2 where
 |min|max
noncomputable def B1.name:B1→Str
 |.len=>"len"|.abs=>"abs"|.sum=>"sum"|.sorted=>"sorted"|.list=>"list"
noncomputable def B2.name:B2→Str
 |.min=>"min"|.max=>"max"
mutual
inductive E where
 |int (i:Int)|str (x:Str)|bool (b:Bool)|none
 |var (k:Nat)|glob (x:Str) (u:V)
 |neg (e:E)|not (e:E)
 |bin (op:Operator) (a b:E)|addM (a b:E)
 |cmp (op:CmpOp) (a b:E)|cmp2 (o₁ o₂:CmpOp) (a b c:E)|cmp3 (o₁ o₂ o₃:CmpOp) (a b c d:E)|cmpD (op:CmpOp) (a b:E)
 |and (a b:E)|or (a b:E)|ite (c a b:E)
 |attr (e:E) (k:Nat)|excSym (e:E)
 |sub (e i:E)|subK (e:E) (k:Nat)|slice (e lo hi:E)
 |tup (es:Es)|lst (es:Es)|lstM (es:Es)|dict0|dictK (ks:List Nat) (es:Es)|dict1 (k e:E)
 |call (f:Addr) (x:Str) (es:Es)|callV (f:E) (es:Es)
 |meth (e:E) (C:Addr) (k:Nat) (f:Addr) (es:Es)|clsM (C:Addr) (x:Str) (k:Nat) (f:Addr) (es:Es)
 |new (C f:Addr) (x:Str) (es:Es)
 |b1 (b:B1) (e:E)|b2 (b:B2) (e₁ e₂:E)
 |app (e x:E)|ext (e x:E)
 |comp (nv:Nat) (cap:List (Option Nat)) (t:Tg) (r:Bool) (it:E) (cond elt:E)
 |flat (nv:Nat) (e:E)
 |frz (e:E)
 |stop
inductive Es where
 |nil|cons (e:E) (r:Es)
end
inductive T where
 |nm (k:Nat)|at(o:E) (k:Nat)|it (o i:E)|itK (o:E) (k:Nat)
mutual
inductive S where
 |expr (e:E)|ret (e:E)|retN
 |set (k:Nat) (e:E)|setA (o:E) (k:Nat) (e:E)|setI (o i e:E)|setK (o:E) (k:Nat) (e:E)|setSl (o lo hi e:E)
 |setT (ts:List T) (e:E)|setR (ks:List Nat) (e:E)|setC (k:Nat) (e:E)
 |ite (c:E) (a b:Ss)|whl (c:E) (b:Ss)|for_ (t:Tg) (r:Bool) (lo hi:E) (b:Ss)
 |raise (x:Str) (e₁ e₂:E)|try_ (b:Ss) (k:Nat) (h:Ss)
 |frz (k:Nat)|stop
inductive Ss where
 |nil|cons (s:S) (r:Ss)
end
mutual
noncomputable def toD:V→Option Dat
 |.int i=>some (.int i)
 |.str x=>some (.str x)
 |.none=>some .none
 |.tup xs=>(toDs xs).map .tuple
 |.lst xs=>(toDs xs).map .list
 |_=>none
noncomputable def toDs:List V→Option (List Dat)
 |[]=>some []
 |x::r=>(toD x).bind fun d=>(toDs r).map (d::·)
end
structure Room(A:Around)(n:Nat)(Z:Addr→Prop)(h:Heap):Prop where
 handled:A.handled=none
 depth:A.depth+4*n≤900
 units:A.units+20*n≤9000
 frames:∃l,A.frames=some l∧∀env∈l,env.scope.kind≠.module∧∃L o,env.frame=some L∧Z L∧h.get? L=some o∧¬Fx o.data
noncomputable def Fn(w:World)(h0:Heap)(n:Nat)(f:Addr)(xs:List V)(H:Hp)(Q:V→Hp→Prop)(X:Hp→Prop):Prop:=
 ∀(A:Around) (Z:Addr→Prop) (s:Shared) (R:Result→Shared→Prop) (vs:List Value),Room A n Z s.heap→HRep w h0 Z H s.heap→s.gens=#[]→RVs s.heap (Pu H Z) vs xs→
  (∀v s' x H',RV s'.heap (Pu H' Z) v x→St w h0 Z H H' s s'→Q x H'→R (.ok (.ret v)) s')→
  (∀a s' H' g,St w h0 Z H H' s s'→ExcAt w h0 A Z (foot H) (entE s.heap H) H' a s'.heap g→X H'→R (.error (.ref a)) s')→codeAny (MM w) A (.call (.ref f) ⟨vs,[]⟩) R s
noncomputable def isStar(e:Expr):Bool:=match e with|.Starred _ _=>true|_=>false
noncomputable def noStar:List Expr→Bool
 |[]=>true
 |e::r=> !isStar e&&noStar r
noncomputable def isNm(e:Expr):Bool:=match e with|.Name _ _=>true|_=>false
noncomputable def plainBase(e:Expr):Bool:=match e with
 |.Call f as ks _=> !(isNm f&&(as.isEmpty&&ks.isEmpty))
 |_=>true
structure Top'(K:Frag)(h0:Heap):Prop where
 X:K.In h0
 OK:KOK K
 T:∃p loose mg mb,TopRead p loose mg mb h0
 S:∃o,h0.get? sysModules=some o
noncomputable def vI(v:Value)(k:Int→Bool):Bool:=match v with|.int i _=>k i|_=>false
noncomputable def intsAre:List Value→List V→Bool
 |[],us=>us.isEmpty
 |v::r,us=>(match us with|[]=>false|u::q=>(match u with|.int j=>vI v fun i=>decide (i=j)|_=>false)&&intsAre r q)
noncomputable def vS(v:Value)(k:Str→Bool):Bool:=match v with|.str i _=>k i|_=>false
noncomputable def vR(v:Value)(k:Addr→Bool):Bool:=match v with|.ref i=>k i|_=>false
noncomputable def tupAt(o:Option Obj)(k:List Value→Bool):Bool:=match o with|some o=>decide (o.cls=.type "tuple")&&(match o.data with|.seq items _=>k items.toList|_=>false)|none=>false
noncomputable def gvOK(K:Frag)(v:Value)(u:V):Bool:=match u with
 |.int j=>vI v fun i=>decide (i=j)
 |.str y=>vS v fun x=>decide (x=y)
 |.ref b=>vR v fun a=>decide (a=b)
 |.tup us=>vR v fun a=>tupAt (K.lookup a) fun items=>intsAre items us
 |_=>false
noncomputable def B2.id:B2→String
 |.min=>"min"
 |.max=>"max"
structure FnOK(K:Frag)(f:Addr)(body:List Stmt)(sc:Scope)(ps:List Str)(ds:List Value):Prop where
 ex:∃oc od fd osl,K.lookup f=some ⟨oc,od,.func fd,osl⟩∧fd.body=.stmts body∧fd.scope=sc∧fd.globals=mainGlobals∧fd.closure=[]∧fd.builtins=builtinsNs∧codeIn K fd.code fd.qualname=true∧
  fd.params.posonlyargs=[]∧fd.params.kwonlyargs=[]∧fd.params.vararg=none∧fd.params.kwarg=none∧fd.params.args.map (·.arg)=ps∧
  ((fd.defaults=.none∧ds=[])∨∃T c d k sl items,fd.defaults=.ref T∧K.lookup T=some ⟨c,d,.seq items k,sl⟩∧items.toList=ds)
 nd:ps.Nodup
 kinds:∀x∈ps,sc.names.lookup x=some .local∨sc.names.lookup x=some .cell
 fun_:sc.kind=.function
 noco:sc.isCoroutine=false
 nogen:sc.isGenerator=false
noncomputable def vB(v:Value)(k:Bool→Bool):Bool:=match v with|.bool i=>k i|_=>false
noncomputable def vN(v:Value):Bool:=match v with|.none=>true|_=>false
noncomputable def dvOK(v:Value)(u:V):Bool:=match u with
 |.int j=>vI v fun i=>decide (i=j)
 |.bool b=>vB v fun a=>decide (a=b)
 |.none=>vN v
 |.opq=>true
 |_=>false
noncomputable def compScope(scope:Scope)(env:Env):Scope:={scope with names:=scope.names.map fun(n,k)=>if(k==.free&&env.scope.kind==.function&&env.kindOf n==some .cell) then(n,.cell) else(n,k)}
noncomputable def tgLt(nv:Nat):Tg→Bool
 |.nm k=>k< nv
 |.tp ks=>ks.all (·< nv)
noncomputable def bmE:List Value:=[.type "Exception",.type "BaseException",.type "object"]
noncomputable def sSelf:Str:="self"
noncomputable def sSym:Str:="symbol"
noncomputable def sData:Str:="data"
noncomputable def lsPs:List Str:=[sSelf,sSym,sData]
structure LsOK(K:Frag):Prop where
 obj:∃nm q N bs sn sub ab col dd k0 k1 k2 k3 k5,K.lookup lsC=some (excClassObj nm q lsC N bs bmE true sn sub ab col dd k0 k1 k2 k3 k5 "Exception.__new__")∧nsOkIn K N=true∧nsIn K N "__init__"=some (some (.ref 721))
 set_:findIn K (.ref lsC) "__setattr__"=some (some (.builtin "object.__setattr__"))
 get_:findIn K (.ref lsC) "__getattribute__"=some (some (.builtin "BaseException.__getattribute__"))
 ga:findIn K (.ref lsC) "__getattr__"=some none
 sym:findIn K (.ref lsC) sSym=some none
 dat:findIn K (.ref lsC) sData=some none
 glob:nsIn K mainGlobals "LispSignal"=some (some (.ref lsC))
 ini:∃p1 p2 p3 p4 p5 p6 p7 p8 sc,FnOK K 721 [.Assign [.Attribute (.Name sSelf p1) sSym p2] (.Name sSym p3) p4,.Assign [.Attribute (.Name sSelf p5) sData p6] (.Name sData p7) p8] sc lsPs []∧
  sc.names.lookup sSelf=some .local∧sc.names.lookup sSym=some .local∧sc.names.lookup sData=some .local
 fn:typeIn K (.ref 721)=some (.type "function")
 keep:keepIn K (.ref lsC)=true
noncomputable def kids(pa:Expr):List Expr:=match pa with
 |.BoolOp _ xs _=>xs
 |.BinOp x _ y _=>[x,y]
 |.UnaryOp _ x _=>[x]
 |.IfExp q x y _=>[q,x,y]
 |.Dict ks vs _=>ks.filterMap id++vs
 |.ListComp e gs _ _=>e::gs.flatMap fun g=>g.target::g.iter::g.ifs
 |.Compare x _ ys _=>x::ys
 |.Call f xs _ _=>f::xs
 |.Attribute x _ _=>[x]
 |.Subscript x y _=>[x,y]
 |.List xs _=>xs
 |.Tuple xs _ _=>xs
 |.Slice x y _ _=>[x.getD default,y.getD default]
 |_=>[]
noncomputable def hd(xs:List Expr):Expr:=xs.headD default
noncomputable def kd(i:Nat)(pa:Expr):Expr:=hd ((kids pa).drop i)
noncomputable def num(pa:Expr):Nat:=match pa with
 |.Constant _ k _=>k
 |.Tuple _ k _=>k
 |_=>0
noncomputable def idOf(pa:Expr):Str:=match pa with
 |.Name x _=>x
 |_=>default
noncomputable def scp(pa:Expr):Scope:=match pa with
 |.ListComp _ _ sc _=>sc
 |_=>default
noncomputable def nm(vs:List Str)(k:Nat):Str:=(vs[k]?).getD default
noncomputable def cst(c:Const)(pa:Expr):Expr:=.Constant c (num pa) pa.pos
noncomputable def two(pa:Expr):Bool:=(kids pa).length==2
noncomputable def restB(o:BoolOp)(pa:Expr):Expr:=bif two pa then kd 1 pa else .BoolOp o (kids pa).tail pa.pos
noncomputable def boolE(o:BoolOp)(x y pa:Expr):Expr:=.BoolOp o (x::(bif two pa then[y] else kids y)) pa.pos
noncomputable def isB(o:BoolOp)(p:Pos)(pa:Expr):Bool:=match pa with
 |.BoolOp o' xs p'=>(decide (o'=o)&&decide (p'=p))&& !xs.isEmpty
 |_=>false
noncomputable def isNoneE:E→Bool
 |.none=>true
 |_=>false
noncomputable def isTrueE:E→Bool
 |.bool b=>b
 |_=>false
noncomputable def isVarE:E→Bool
 |.var _=>true
 |_=>false
noncomputable def part(e:E)(q:Expr):Option Expr:=bif isNoneE e then none else some q
noncomputable def isSlice(pa:Expr):Bool:=match pa with|.Slice _ _ _ _=>true|_=>false
noncomputable def isSet(pa:Expr):Bool:=match pa with|.Set _ _ _=>true|_=>false
noncomputable def rebT(vs:List Str)(t:Tg)(pt:Expr):Expr:=match t with
 |.nm k=>.Name (nm vs k) pt.pos
 |.tp ks=>.Tuple ((ks.mapIdx fun i k=>(nm vs k,(kd i pt).pos)).map fun q=>.Name q.1 q.2) (num pt) pt.pos
noncomputable def rebKs:List Nat→List Expr→List (Option Expr)
 |[],_=>[]
 |k::ks,xs=>some (cst (.str (fname k)) (hd xs))::rebKs ks xs.tail
noncomputable def ownNames(scope:Scope):List Str:=(scope.names.filter fun p=>decide (p.2=.local)).map (·.1)
noncomputable def freeNames(scope:Scope):List Str:=(scope.names.filter fun p=>decide (p.2=.free)).map (·.1)
noncomputable def nms(scope:Scope):List Str:=ownNames scope++freeNames scope
noncomputable def callN(x:Str)(xs:List Expr)(pa:Expr):Expr:=.Call (.Name x (kd 0 pa).pos) xs [] pa.pos
noncomputable def callA(x:Str)(b:Expr)(xs:List Expr)(pa:Expr):Expr:=.Call (.Attribute b x (kd 0 pa).pos) xs [] pa.pos
noncomputable def itP(r:Bool)(pa:Expr):Expr:=bif r then kd 1 (kd 2 pa) else kd 2 pa
noncomputable def itT(r:Bool)(x q:Expr):Expr:=bif r then callN "range" [x] q else x
noncomputable def ifsT(cond:E)(q:Expr):List Expr:=bif isTrueE cond then[] else[q]
mutual
noncomputable def reb:E→List Str→Expr→Expr
 |.int i,_,pa=>cst (.int i) pa
 |.str x,_,pa=>cst (.str x) pa
 |.bool b,_,pa=>cst (.bool b) pa
 |.none,_,pa=>cst .none pa
 |.var k,vs,pa=>.Name (nm vs k) pa.pos
 |.glob y _,_,pa=>.Name y pa.pos
 |.neg e,vs,pa=>.UnaryOp .USub (reb e vs (kd 0 pa)) pa.pos
 |.not e,vs,pa=>.UnaryOp .Not (reb e vs (kd 0 pa)) pa.pos
 |.bin op a b,vs,pa=>.BinOp (reb a vs (kd 0 pa)) op (reb b vs (kd 1 pa)) pa.pos
 |.addM a b,vs,pa=>.BinOp (reb a vs (kd 0 pa)) .Add (reb b vs (kd 1 pa)) pa.pos
 |.cmp op a b,vs,pa=>.Compare (reb a vs (kd 0 pa)) [op] [reb b vs (kd 1 pa)] pa.pos
 |.cmp2 o₁ o₂ a b d,vs,pa=>.Compare (reb a vs (kd 0 pa)) [o₁,o₂] [reb b vs (kd 1 pa),reb d vs (kd 2 pa)] pa.pos
 |.cmp3 o₁ o₂ o₃ a b d e,vs,pa=>.Compare (reb a vs (kd 0 pa)) [o₁,o₂,o₃] [reb b vs (kd 1 pa),reb d vs (kd 2 pa),reb e vs (kd 3 pa)] pa.pos
 |.cmpD op a b,vs,pa=>.Compare (reb a vs (kd 0 pa)) [op] [reb b vs (kd 1 pa)] pa.pos
 |.and a b,vs,pa=>boolE .And (reb a vs (kd 0 pa)) (reb b vs (restB .And pa)) pa
 |.or a b,vs,pa=>boolE .Or (reb a vs (kd 0 pa)) (reb b vs (restB .Or pa)) pa
 |.ite d a b,vs,pa=>.IfExp (reb d vs (kd 0 pa)) (reb a vs (kd 1 pa)) (reb b vs (kd 2 pa)) pa.pos
 |.attr e k,vs,pa=>.Attribute (reb e vs (kd 0 pa)) (fname k) pa.pos
 |.excSym e,vs,pa=>.Attribute (reb e vs (kd 0 pa)) sSym pa.pos
 |.sub e i,vs,pa=>.Subscript (reb e vs (kd 0 pa)) (reb i vs (kd 1 pa)) pa.pos
 |.subK e k,vs,pa=>.Subscript (reb e vs (kd 0 pa)) (cst (.str (fname k)) (kd 1 pa)) pa.pos
 |.slice e lo hi,vs,pa=>.Subscript (reb e vs (kd 0 pa)) (.Slice (part lo (reb lo vs (kd 0 (kd 1 pa)))) (part hi (reb hi vs (kd 1 (kd 1 pa)))) none (kd 1 pa).pos) pa.pos
 |.tup es,vs,pa=>.Tuple (rebEs es vs (kids pa)) (num pa) pa.pos
 |.lst es,vs,pa=>.List (rebEs es vs (kids pa)) pa.pos
 |.lstM es,vs,pa=>.List (rebEs es vs (kids pa)) pa.pos
 |.dict0,_,pa=>.Dict [] [] pa.pos
 |.dictK ks es,vs,pa=>.Dict (rebKs ks (kids pa)) (rebEs es vs ((kids pa).drop ks.length)) pa.pos
 |.dict1 k e,vs,pa=>.Dict [some (reb k vs (kd 0 pa))] [reb e vs (kd 1 pa)] pa.pos
 |.call _ y es,vs,pa=>callN y (rebEs es vs (kids pa).tail) pa
 |.callV f es,vs,pa=>.Call (reb f vs (kd 0 pa)) (rebEs es vs (kids pa).tail) [] pa.pos
 |.meth e _ k _ es,vs,pa=>callA (fname k) (reb e vs (kd 0 (kd 0 pa))) (rebEs es vs (kids pa).tail) pa
 |.clsM _ y _ _ es,vs,pa=>callA "__init__" (.Name y (kd 0 (kd 0 pa)).pos) (rebEs es vs (kids pa).tail) pa
 |.new _ _ y es,vs,pa=>callN y (rebEs es vs (kids pa).tail) pa
 |.b1 b e,vs,pa=>callN b.name [reb e vs (kd 1 pa)] pa
 |.b2 b a d,vs,pa=>callN b.name [reb a vs (kd 1 pa),reb d vs (kd 2 pa)] pa
 |.app e x,vs,pa=>callA (Str.ofString "append") (reb e vs (kd 0 (kd 0 pa))) [reb x vs (kd 1 pa)] pa
 |.ext e x,vs,pa=>callA (Str.ofString "extend") (reb e vs (kd 0 (kd 0 pa))) [reb x vs (kd 1 pa)] pa
 |.comp _ _ t r it cond elt,vs,pa=>.ListComp (reb elt (nms (scp pa)) (kd 0 pa)) [⟨rebT (nms (scp pa)) t (kd 1 pa),itT r (reb it vs (itP r pa)) (kd 2 pa),ifsT cond (reb cond (nms (scp pa)) (kd 3 pa)),0⟩] (scp pa) pa.pos
 |.flat _ a,vs,pa=>.ListComp (.Name (idOf (kd 0 pa)) (kd 0 pa).pos) [⟨.Name (idOf (kd 1 pa)) (kd 1 pa).pos,reb a vs (kd 2 pa),[],0⟩,⟨.Name (idOf (kd 0 pa)) (kd 3 pa).pos,.Name (idOf (kd 1 pa)) (kd 4 pa).pos,[],0⟩] (scp pa) pa.pos
 |.frz e,vs,pa=>reb e vs pa
 |.stop,_,pa=>pa
noncomputable def rebEs:Es→List Str→List Expr→List Expr
 |.nil,_,_=>[]
 |.cons e r,vs,xs=>reb e vs (hd xs)::rebEs r vs xs.tail
end
noncomputable def knd(sc:Scope)(x:Str)(k:NameKind):Bool:=decide (sc.names.lookup x=some k)
noncomputable def nodebug(x:Str):Bool:= !(x==("__debug__":Str))
noncomputable def gvAt(K:Frag)(sc:Scope)(x:Str)(v:Value):Bool:=(knd sc x .globalImplicit&&nodebug x)&&nsIn K mainGlobals x==some (some v)
noncomputable def gvsAt(K:Frag)(sc:Scope)(x:Str)(p:Value→Bool):Bool:=match nsIn K mainGlobals x with
 |some (some v)=>gvAt K sc x v&&p v
 |_=>false
noncomputable def bltAt(K:Frag)(sc:Scope)(x:Str)(v:Value):Bool:=((knd sc x .globalImplicit&&nodebug x)&&nsIn K mainGlobals x==some none)&&((bootBuiltins x==some v)&& !(x==("__name__":Str)))
noncomputable def b1Val:B1→Value
 |.len=>.builtin "len"|.abs=>.builtin "abs"|.sum=>.builtin "sum"|.sorted=>.builtin "sorted"|.list=>.type "list"
noncomputable def methAt(K:Frag)(C:Addr)(k:Nat)(f:Addr):Bool:=(findIn K (.ref C) (fname k)==some (some (.ref f))&&typeIn K (.ref f)==some (.type "function"))&&keepIn K (.ref f)
noncomputable def clsMAt(K:Frag)(C:Addr)(k:Str)(f:Addr):Bool:=(specialIn K (.ref C) "__getattribute__"==some (some (.builtin "type.__getattribute__"))&&readsIn K C (.type "type"))&&((match findCls K (.ref C) (.type "type") k with|some (.val (.ref g))=>decide (g=f)|_=>false)&&keepIn K (.ref f))
noncomputable def newAt(K:Frag)(C f:Addr):Bool:=((decide (C∈clss)&&makesIn K C)&&(findIn K (.ref C) "__init__"==some (some (.ref f))&&typeIn K (.ref f)==some (.type "function")))&&keepIn K (.ref C)
noncomputable def compSc(scope sc:Scope):Scope:={scope with names:=scope.names.map fun(n,k)=>if(k==.free&&sc.kind==.function&&sc.names.lookup n==some .cell) then(n,.cell) else(n,k)}
noncomputable def capsAre(vs:List Str):List Str→List (Option Nat)→Bool
 |[],[]=>true
 |x::r,some i::cs=>decide (vs[i]? =some x)&&capsAre vs r cs
 |_,_=>false
noncomputable def compAt(sc:Scope)(vs:List Str)(scope:Scope)(nv:Nat)(cap:List (Option Nat)):Bool:=
 (decide (scope.kind=.function)&&decide (sc.kind=.function))&&((decide ((ownNames scope++freeNames scope).Nodup)&&decide ((ownNames scope).length=nv))&&(capsAre vs (freeNames scope) cap&&
  scope.names.all fun p=>(decide (p.2=.local)&&decide ((compSc scope sc).names.lookup p.1=some .local))||((decide (p.2=.free)&&(decide (sc.names.lookup p.1=some .cell)&&decide ((compSc scope sc).names.lookup p.1=some .cell)))||decide (p.2=.globalImplicit))))
noncomputable def okL(sc:Scope)(vs:List Str)(k:Nat):Bool:=decide (vs[k]? =some (nm vs k))&&decide (sc.names.lookup (nm vs k)=some .local)
noncomputable def tgAt(sc:Scope)(vs:List Str)(t:Tg):Bool:=match t with
 |.nm k=>okL sc vs k
 |.tp ks=>ks.all (okL sc vs)
noncomputable def isNmT(t:Tg):Bool:=match t with
 |.nm _=>true
 |.tp _=>false
noncomputable def lineOk(pa:Expr):Bool:=(kd 0 pa).pos.endLine==pa.pos.line
mutual
noncomputable def ck(K:Frag):E→Bool→Scope→List Str→Expr→Bool
 |.int _,_,_,_,_=>true
 |.str _,_,_,_,_=>true
 |.bool _,_,_,_,_=>true
 |.none,_,_,_,_=>true
 |.var k,_,_,vs,_=>decide (vs[k]? =some (nm vs k))&&nodebug (nm vs k)
 |.glob y u,_,sc,_,_=>gvsAt K sc y fun v=>gvOK K v u
 |.neg e,_,sc,vs,pa=>ck K e false sc vs (kd 0 pa)
 |.not e,t,sc,vs,pa=>ck K e t sc vs (kd 0 pa)
 |.bin _ a b,_,sc,vs,pa=>ck K a false sc vs (kd 0 pa)&&ck K b false sc vs (kd 1 pa)
 |.addM a b,_,sc,vs,pa=>ck K a false sc vs (kd 0 pa)&&ck K b false sc vs (kd 1 pa)
 |.cmp op a b,_,sc,vs,pa=>(ck K a false sc vs (kd 0 pa)&&ck K b false sc vs (kd 1 pa))&& !behindInMarks op (reb b vs (kd 1 pa))
 |.cmp2 o₁ o₂ a b d,_,sc,vs,pa=>((ck K a false sc vs (kd 0 pa)&&ck K b false sc vs (kd 1 pa))&&ck K d false sc vs (kd 2 pa))&& !lastMarks [o₁,o₂] [reb b vs (kd 1 pa),reb d vs (kd 2 pa)]
 |.cmp3 o₁ o₂ o₃ a b d e,_,sc,vs,pa=>(((ck K a false sc vs (kd 0 pa)&&ck K b false sc vs (kd 1 pa))&&ck K d false sc vs (kd 2 pa))&&ck K e false sc vs (kd 3 pa))&& !lastMarks [o₁,o₂,o₃] [reb b vs (kd 1 pa),reb d vs (kd 2 pa),reb e vs (kd 3 pa)]
 |.cmpD op a b,_,sc,vs,pa=>(ck K a false sc vs (kd 0 pa)&&ck K b false sc vs (kd 1 pa))&& !behindInMarks op (reb b vs (kd 1 pa))
 |.and a b,t,sc,vs,pa=>(ck K a t sc vs (kd 0 pa)&&ck K b t sc vs (restB .And pa))&&(two pa||isB .And pa.pos (reb b vs (restB .And pa)))
 |.or a b,t,sc,vs,pa=>(ck K a t sc vs (kd 0 pa)&&ck K b t sc vs (restB .Or pa))&&(two pa||isB .Or pa.pos (reb b vs (restB .Or pa)))
 |.ite d a b,t,sc,vs,pa=>(ck K d true sc vs (kd 0 pa)&&ck K a t sc vs (kd 1 pa))&&ck K b t sc vs (kd 2 pa)
 |.attr e k,_,sc,vs,pa=>(ck K e false sc vs (kd 0 pa)&&decide (k< 87))&&plainBase (reb e vs (kd 0 pa))
 |.excSym _,_,_,_,_=>false
 |.sub e i,_,sc,vs,pa=>(ck K e false sc vs (kd 0 pa)&&ck K i false sc vs (kd 1 pa))&& !isSlice (reb i vs (kd 1 pa))
 |.subK e _,_,sc,vs,pa=>ck K e false sc vs (kd 0 pa)
 |.slice e lo hi,_,sc,vs,pa=>(ck K e false sc vs (kd 0 pa)&&ck K lo false sc vs (kd 0 (kd 1 pa)))&&ck K hi false sc vs (kd 1 (kd 1 pa))
 |.tup es,_,sc,vs,pa=>ckEs K es sc vs (kids pa)
 |.lst es,_,sc,vs,pa=>ckEs K es sc vs (kids pa)
 |.lstM es,_,sc,vs,pa=>ckEs K es sc vs (kids pa)
 |.dict0,_,_,_,_=>true
 |.dictK ks es,_,sc,vs,pa=>((!ks.isEmpty&&decide (ks.length≤15))&&decide (ks.length=(rebEs es vs ((kids pa).drop ks.length)).length))&&ckEs K es sc vs ((kids pa).drop ks.length)
 |.dict1 k e,_,sc,vs,pa=>ck K k false sc vs (kd 0 pa)&&ck K e false sc vs (kd 1 pa)
 |.call f y es,_,sc,vs,pa=>(gvAt K sc y (.ref f)&&keepIn K (.ref f))&&ckEs K es sc vs (kids pa).tail
 |.callV f es,_,sc,vs,pa=>((keepIn K (.ref 968)&&keepIn K (.ref 975))&&isVarE f)&&(ck K f false sc vs (kd 0 pa)&&ckEs K es sc vs (kids pa).tail)
 |.meth e C k f es,_,sc,vs,pa=>((plainBase (reb e vs (kd 0 (kd 0 pa)))&&lineOk pa)&&(decide ((rebEs es vs (kids pa).tail).length< 30)&&methAt K C k f))&&(ck K e false sc vs (kd 0 (kd 0 pa))&&ckEs K es sc vs (kids pa).tail)
 |.clsM C y _ f es,_,sc,vs,pa=>((gvAt K sc y (.ref C)&&lineOk pa)&&(decide ((rebEs es vs (kids pa).tail).length< 30)&&clsMAt K C "__init__" f))&&ckEs K es sc vs (kids pa).tail
 |.new C f y es,_,sc,vs,pa=>(gvAt K sc y (.ref C)&&newAt K C f)&&ckEs K es sc vs (kids pa).tail
 |.b1 b e,_,sc,vs,pa=>(bltAt K sc b.name (b1Val b)&&noStar [reb e vs (kd 1 pa)])&&ck K e false sc vs (kd 1 pa)
 |.b2 b a d,_,sc,vs,pa=>(bltAt K sc b.name (.builtin b.id)&&noStar [reb a vs (kd 1 pa),reb d vs (kd 2 pa)])&&(ck K a false sc vs (kd 1 pa)&&ck K d false sc vs (kd 2 pa))
 |.app e x,_,sc,vs,pa=>((plainBase (reb e vs (kd 0 (kd 0 pa)))&&lineOk pa)&&noStar [reb x vs (kd 1 pa)])&&(ck K e false sc vs (kd 0 (kd 0 pa))&&ck K x false sc vs (kd 1 pa))
 |.ext e x,_,sc,vs,pa=>((plainBase (reb e vs (kd 0 (kd 0 pa)))&&lineOk pa)&&noStar [reb x vs (kd 1 pa)])&&(ck K e false sc vs (kd 0 (kd 0 pa))&&ck K x false sc vs (kd 1 pa))
 |.comp nv cap t r it cond elt,_,sc,vs,pa=>((compAt sc vs (scp pa) nv cap&&(tgLt nv t&&tgAt (compSc (scp pa) sc) (nms (scp pa)) t))&&(ck K cond true (compSc (scp pa) sc) (nms (scp pa)) (kd 3 pa)&&ck K elt false (compSc (scp pa) sc) (nms (scp pa)) (kd 0 pa)))&&
   ((bif r then isNmT t&&(bltAt K sc "range" (.type "range")&&noStar [reb it vs (itP r pa)]) else !isSet (reb it vs (itP r pa)))&&ck K it false sc vs (itP r pa))
 |.flat _ _,_,_,_,_=>false
 |.frz e,t,sc,vs,pa=> !t&&ck K e false sc vs pa
 |.stop,_,_,_,_=>true
noncomputable def ckEs(K:Frag):Es→Scope→List Str→List Expr→Bool
 |.nil,_,_,_=>true
 |.cons e r,sc,vs,xs=> !isStar (reb e vs (hd xs))&&(ck K e false sc vs (hd xs)&&ckEs K r sc vs xs.tail)
end
noncomputable def swNames(sc:Scope)(ts:List Expr):List Str:=ts.filterMap fun
 |.Name id pos=>if sc.names.lookup id==some .local&&pos.line==(ts.head?.map (·.pos.line)).getD 0 then some id else none
 |_=>none
noncomputable def swA(ts vs:List Expr):Bool:= !(ts.length==2||ts.length==3)||vs.length !=ts.length
noncomputable def swB(vs:List Expr):Bool:=vs.any fun|.Starred .. =>true|_=>false
noncomputable def swC(ts:List Expr)(ns:List Str):Bool:=ns.length !=ts.length||ns.eraseDups.length !=ns.length
noncomputable def swTup(ts vs:List Expr)(ns:List Str):Option (Option (List Str)):=
 if swA ts vs then some none else if swB vs then some none else if swC ts ns then some none else if vs.all (foldedForSure 8) then some none else if vs.all (constantsAlone 8) then none else some (some ns)
noncomputable def swPure(sc:Scope)(ts:List Expr)(pv:Expr):Option (Option (List Str)):=match pv with
 |.Tuple vs _ _=>swTup ts vs (swNames sc ts)
 |_=>some none
noncomputable def sE(st:Stmt):List Expr:=match st with
 |.Expr e _=>[e]
 |.Return e _=>e.toList
 |.Assign ts e _=>e::ts
 |.If q _ _ _=>[q]
 |.While q _ _ _=>[q]
 |.For t i _ _ _=>[i,t]
 |.Raise e _ _=>e.toList
 |.Try _ hs _ _ _=>hs.flatMap fun g=>match g with|ExceptHandler.ExceptHandler t _ _ _=>t.toList
 |_=>[]
noncomputable def sB(i:Nat)(st:Stmt):List Stmt:=((match st with
 |.If _ a b _=>[a,b]
 |.While _ a _ _=>[a]
 |.For _ _ a _ _=>[a]
 |.Try a hs _ _ _=>a::hs.map fun g=>match g with|ExceptHandler.ExceptHandler _ _ b _=>b
 |_=>[]).drop i).headD []
noncomputable def hpos(st:Stmt):Pos:=match st with
 |.Try _ [ExceptHandler.ExceptHandler _ _ _ p] _ _ _=>p
 |_=>st.pos
noncomputable def sk(i:Nat)(st:Stmt):Expr:=hd ((sE st).drop i)
noncomputable def rebTg(vs:List Str)(t:T)(pt:Expr):Expr:=match t with
 |.nm k=>.Name (nm vs k) pt.pos
 |.at o k=>.Attribute (reb o vs (kd 0 pt)) (fname k) pt.pos
 |.it o i=>.Subscript (reb o vs (kd 0 pt)) (reb i vs (kd 1 pt)) pt.pos
 |.itK o k=>.Subscript (reb o vs (kd 0 pt)) (cst (.str (fname k)) (kd 1 pt)) pt.pos
noncomputable def rebTgs(vs:List Str):List T→List Expr→List Expr
 |[],_=>[]
 |t::ts,xs=>rebTg vs t (hd xs)::rebTgs vs ts xs.tail
noncomputable def asg(t e:Expr)(st:Stmt):Stmt:=.Assign [t] e st.pos
noncomputable def forT(vs:List Str)(t:Tg)(pt:Expr):Expr:=match t with
 |.nm k=>.Name (nm vs k) pt.pos
 |.tp _=>pt
noncomputable def bodyT(t:Tg)(x y:List Stmt):List Stmt:=match t with
 |.nm _=>x
 |.tp _=>y
noncomputable def isInt0(e:E):Bool:=match e with
 |.int i=>decide (i=0)
 |_=>false
noncomputable def isDead(b:Ss):Bool:=match b with
 |.cons s r=>(match s with|.stop=>(match r with|.nil=>true|_=>false)|_=>false)
 |_=>false
noncomputable def isF(s:S):Bool:=match s with
 |.frz _=>true
 |_=>false
noncomputable def lsCall(x:Str)(y pa:Expr):Expr:=callN "LispSignal" [cst (.str x) (kd 1 pa),y] pa
mutual
noncomputable def rebS:S→List Str→Stmt→Stmt
 |.expr e,vs,st=>.Expr (reb e vs (sk 0 st)) st.pos
 |.ret e,vs,st=>.Return (some (reb e vs (sk 0 st))) st.pos
 |.retN,_,st=>.Return none st.pos
 |.set k e,vs,st=>asg (rebTg vs (.nm k) (sk 1 st)) (reb e vs (sk 0 st)) st
 |.setA o k e,vs,st=>asg (rebTg vs (.at o k) (sk 1 st)) (reb e vs (sk 0 st)) st
 |.setI o i e,vs,st=>asg (rebTg vs (.it o i) (sk 1 st)) (reb e vs (sk 0 st)) st
 |.setK o k e,vs,st=>asg (rebTg vs (.itK o k) (sk 1 st)) (reb e vs (sk 0 st)) st
 |.setSl o lo hi e,vs,st=>asg (reb (.slice o lo hi) vs (sk 1 st)) (reb e vs (sk 0 st)) st
 |.setT ts e,vs,st=>asg (.Tuple (rebTgs vs ts (kids (sk 1 st))) (num (sk 1 st)) (sk 1 st).pos) (reb e vs (sk 0 st)) st
 |.setR _ e,vs,st=>asg (.Tuple (kids (sk 1 st)) (num (sk 1 st)) (sk 1 st).pos) (reb e vs (sk 0 st)) st
 |.setC k e,vs,st=>asg (rebTg vs (.nm k) (sk 1 st)) (reb e vs (sk 0 st)) st
 |.ite q a b,vs,st=>.If (reb q vs (sk 0 st)) (rebSs a vs (sB 0 st)) (rebSs b vs (sB 1 st)) st.pos
 |.whl q b,vs,st=>.While (reb q vs (sk 0 st)) (rebSs b vs (sB 0 st)) [] st.pos
 |.for_ t r lo hi b,vs,st=>.For (forT vs t (sk 1 st)) (bif r then callN "range" (bif isInt0 lo then[reb hi vs (kd 1 (sk 0 st))] else[reb lo vs (kd 1 (sk 0 st)),reb hi vs (kd 2 (sk 0 st))]) (sk 0 st) else reb lo vs (sk 0 st)) (bodyT t (rebSs b vs (sB 0 st)) (sB 0 st)) [] st.pos
 |.raise x _ e,vs,st=>.Raise (some (lsCall x (reb e vs (kd 2 (sk 0 st))) (sk 0 st))) none st.pos
 |.try_ b k h,vs,st=>.Try (rebSs b vs (sB 0 st)) [.ExceptHandler (some (.Name "LispSignal" (sk 0 st).pos)) (some (nm vs k)) (rebSs h vs (sB 1 st)) (hpos st)] [] [] st.pos
 |.frz _,_,st=>st
 |.stop,_,st=>st
noncomputable def rebSs:Ss→List Str→List Stmt→List Stmt
 |.nil,_,_=>[]
 |.cons s r,vs,xs=>bif isF s then rebSs r vs xs else rebS s vs (xs.headD default)::rebSs r vs xs.tail
end
noncomputable def notComp(pa:Expr):Bool:=match pa with|.ListComp _ _ _ _=>false|.SetComp _ _ _ _=>false|.DictComp _ _ _ _ _=>false|_=>true
noncomputable def storeAt(sc:Scope)(vs:List Str)(k:Nat):Bool:=decide (vs[k]? =some (nm vs k))&&(knd sc (nm vs k) .local||knd sc (nm vs k) .cell)
noncomputable def ckTg(K:Frag)(sc:Scope)(vs:List Str)(t:T)(pt:Expr):Bool:=match t with
 |.nm k=>storeAt sc vs k
 |.at o k=>decide (k< 87)&&ck K o false sc vs (kd 0 pt)
 |.it o i=>ck K o false sc vs (kd 0 pt)&&ck K i false sc vs (kd 1 pt)
 |.itK o k=>ck K o false sc vs (kd 0 pt)
noncomputable def ckTgs(K:Frag)(sc:Scope)(vs:List Str):List T→List Expr→Bool
 |[],_=>true
 |t::ts,xs=>ckTg K sc vs t (hd xs)&&ckTgs K sc vs ts xs.tail
noncomputable def bindAre(sc:Scope)(vs:List Str):List Nat→List Str→Bool
 |[],xs=>xs.isEmpty
 |k::ks,xs=>(decide (xs.head? =some (nm vs k))&&storeAt sc vs k)&&bindAre sc vs ks xs.tail
noncomputable def ckQ(sc:Scope):E→List Str→Expr→Bool
 |.str _,_,_=>true
 |.var k,vs,_=>decide (vs[k]? =some (nm vs k))&&nodebug (nm vs k)
 |.excSym e,vs,pa=>ckQ sc e vs (kd 0 pa)&&plainBase (reb e vs (kd 0 pa))
 |.subK e _,vs,pa=>ckQ sc e vs (kd 0 pa)
 |.cmp op a b,vs,pa=>(ckQ sc a vs (kd 0 pa)&&ckQ sc b vs (kd 1 pa))&& !behindInMarks op (reb b vs (kd 1 pa))
 |.cmp3 o₁ o₂ o₃ a b d e,vs,pa=>(((ckQ sc a vs (kd 0 pa)&&ckQ sc b vs (kd 1 pa))&&ckQ sc d vs (kd 2 pa))&&ckQ sc e vs (kd 3 pa))&& !lastMarks [o₁,o₂,o₃] [reb b vs (kd 1 pa),reb d vs (kd 2 pa),reb e vs (kd 3 pa)]
 |.and a b,vs,pa=>(ckQ sc a vs (kd 0 pa)&&ckQ sc b vs (restB .And pa))&&two pa
 |.not e,vs,pa=>ckQ sc e vs (kd 0 pa)
 |_,_,_=>false
noncomputable def ckH(sc:Scope)(vs:List Str)(b:Ss)(sts:List Stmt):Bool:=match b with
 |.cons s r=>(match s with|.ret e=>(match r with|.nil=>ckQ sc e vs (sk 0 (sts.headD default))|_=>false)|_=>false)
 |_=>false
noncomputable def flatAt(sc scope:Scope)(cx sx:Str):Bool:=((decide (scope.kind=.function)&&(nodebug cx&&nodebug sx))&&(scope.names.all fun p=>decide (p.2=.local)&&decide ((compSc scope sc).names.lookup p.1=some .local)))&&(decide ((compSc scope sc).names.lookup cx=some .local)&&decide ((compSc scope sc).names.lookup sx=some .local))
noncomputable def freeOf(x:Str)(scope:Scope):Bool:= !(scope.names.any fun(n,k)=>n==x&&(k==.local||k==.cell))
noncomputable def lineC(st:Stmt):Bool:=decide ((sk 1 st).pos.line=(sk 0 st).pos.line)
noncomputable def ckC(K:Frag)(sc:Scope)(vs:List Str)(e:E)(pa:Expr):Bool:=match e with
 |.flat _ a=>flatAt sc (scp pa) (idOf (kd 0 pa)) (idOf (kd 1 pa))&&(!isSet (reb a vs (kd 2 pa))&&ck K a false sc vs (kd 2 pa))
 |.comp nv cap t r it cond elt=> !r&&ck K (.comp nv cap t r it cond elt) false sc vs pa
 |_=>false
noncomputable def isStrE(x:Str)(e:E):Bool:=match e with
 |.str y=>decide (y=x)
 |_=>false
noncomputable def frK(m:Nat)(s:S):Bool:=match s with
 |.frz k=>decide (k< m)
 |_=>false
mutual
noncomputable def ckS(K:Frag):S→Bool→Scope→List Str→Stmt→Bool
 |.expr e,_,sc,vs,st=>notComp (reb e vs (sk 0 st))&&ck K e false sc vs (sk 0 st)
 |.ret e,_,sc,vs,st=>ck K e false sc vs (sk 0 st)
 |.retN,_,_,_,_=>true
 |.set k e,_,sc,vs,st=>storeAt sc vs k&&(notComp (reb e vs (sk 0 st))&&ck K e false sc vs (sk 0 st))
 |.setA o k e,_,sc,vs,st=>ckTg K sc vs (.at o k) (sk 1 st)&&(notComp (reb e vs (sk 0 st))&&ck K e false sc vs (sk 0 st))
 |.setI o i e,_,sc,vs,st=>ckTg K sc vs (.it o i) (sk 1 st)&&(notComp (reb e vs (sk 0 st))&&ck K e false sc vs (sk 0 st))
 |.setK o k e,_,sc,vs,st=>ckTg K sc vs (.itK o k) (sk 1 st)&&(notComp (reb e vs (sk 0 st))&&ck K e false sc vs (sk 0 st))
 |.setSl o lo hi e,_,sc,vs,st=>((ck K o false sc vs (kd 0 (sk 1 st))&&ck K lo false sc vs (kd 0 (kd 1 (sk 1 st))))&&ck K hi false sc vs (kd 1 (kd 1 (sk 1 st))))&&(notComp (reb e vs (sk 0 st))&&ck K e false sc vs (sk 0 st))
 |.setT ts e,_,sc,vs,st=>(ckTgs K sc vs ts (kids (sk 1 st))&&(noStar (rebTgs vs ts (kids (sk 1 st)))&&(match swPure sc (rebTgs vs ts (kids (sk 1 st))) (reb e vs (sk 0 st)) with|some none=>true|_=>false)))&&(notComp (reb e vs (sk 0 st))&&ck K e false sc vs (sk 0 st))
 |.setR ks e,_,sc,vs,st=>(match swPure sc (kids (sk 1 st)) (reb e vs (sk 0 st)) with|some (some ns)=>bindAre sc vs ks.reverse ns.reverse&&decide (ks.length=ns.length)|_=>false)&&(notComp (reb e vs (sk 0 st))&&ck K e false sc vs (sk 0 st))
 |.setC k e,_,sc,vs,st=>((decide (vs[k]? =some (nm vs k))&&knd sc (nm vs k) .local)&&(freeOf (nm vs k) (scp (sk 0 st))&&lineC st))&&ckC K sc vs e (sk 0 st)
 |.ite q a b,f,sc,vs,st=>(ck K q true sc vs (sk 0 st)&&ckSs K a f sc vs (sB 0 st))&&ckSs K b f sc vs (sB 1 st)
 |.whl q b,_,sc,vs,st=>ck K q true sc vs (sk 0 st)&&ckSs K b false sc vs (sB 0 st)
 |.for_ t r lo hi b,_,sc,vs,st=>match r,t with
   |true,.nm k=>((storeAt sc vs k&&bltAt K sc "range" (.type "range"))&&(bif isInt0 lo then noStar [reb hi vs (kd 1 (sk 0 st))]&&ck K hi false sc vs (kd 1 (sk 0 st)) else noStar [reb lo vs (kd 1 (sk 0 st)),reb hi vs (kd 2 (sk 0 st))]&&(ck K lo false sc vs (kd 1 (sk 0 st))&&ck K hi false sc vs (kd 2 (sk 0 st)))))&&ckSs K b false sc vs (sB 0 st)
   |true,.tp _=>false
   |false,.nm k=>((storeAt sc vs k&&isNoneE hi)&&(!isSet (reb lo vs (sk 0 st))&&ck K lo false sc vs (sk 0 st)))&&ckSs K b false sc vs (sB 0 st)
   |false,.tp ks=>((ks.isEmpty&&isDead b)&&isNoneE hi)&&(!isSet (reb lo vs (sk 0 st))&&ck K lo false sc vs (sk 0 st))
 |.raise x e₁ e₂,_,sc,vs,st=>((knd sc "LispSignal" .globalImplicit&&isStrE x e₁)&&noStar [cst (.str x) (kd 1 (sk 0 st)),reb e₂ vs (kd 2 (sk 0 st))])&&ck K e₂ false sc vs (kd 2 (sk 0 st))
 |.try_ b k h,f,sc,vs,st=>((f&&knd sc "LispSignal" .globalImplicit)&&(decide (vs[k]? =some (nm vs k))&&knd sc (nm vs k) .local))&&(ckSs K b f sc vs (sB 0 st)&&ckH sc vs h (sB 1 st))
 |.frz _,_,_,_,_=>false
 |.stop,_,_,_,_=>true
noncomputable def ckSs(K:Frag):Ss→Bool→Scope→List Str→List Stmt→Bool
 |.nil,_,_,_,_=>true
 |.cons s r,f,sc,vs,xs=>bif isF s then frK vs.length s&&ckSs K r f sc vs xs else ckS K s f sc vs (xs.headD default)&&ckSs K r f sc vs xs.tail
end
noncomputable def dvsOK:List Value→List V→Bool
 |[],us=>us.isEmpty
 |v::vs,us=>(match us with|u::us=>dvOK v u&&dvsOK vs us|[]=>false)
noncomputable def dfl(K:Frag)(d:Value)(k:List Value→Bool):Bool:=match d with
 |.none=>k []
 |.ref T=>(match K.lookup T with|some o=>(match o.data with|.seq items _=>k items.toList|_=>false)|none=>false)
 |_=>false
noncomputable def stm(b:FuncBody):List Stmt:=match b with|.stmts x=>x|_=>[]
noncomputable def isStm(b:FuncBody):Bool:=match b with|.stmts _=>true|_=>false
noncomputable def fdOf(K:Frag)(f:Addr):Option FuncData:=match K.lookup f with
 |some o=>(match o.data with|.func fd=>some fd|_=>none)
 |none=>none
noncomputable def bodyIn(K:Frag)(f:Addr):List Stmt:=match fdOf K f with
 |some fd=>stm fd.body
 |none=>[]
noncomputable def fdAt(K:Frag)(fd:FuncData)(ps vars:List Str)(us:List V)(b:Ss):Bool:=
 (((isStm fd.body&&ckSs K b true fd.scope vars (stm fd.body))&&(decide (fd.globals=mainGlobals)&&(fd.closure.isEmpty&&decide (fd.builtins=builtinsNs))))&&((codeIn K fd.code fd.qualname&&(fd.params.posonlyargs.isEmpty&&fd.params.kwonlyargs.isEmpty))&&(fd.params.vararg.isNone&&fd.params.kwarg.isNone)))&&
  (((decide (fd.params.args.map (·.arg)=ps)&&(decide ps.Nodup&&decide vars.Nodup))&&(ps.all fun x=>knd fd.scope x .local||knd fd.scope x .cell))&&((decide (fd.scope.kind=.function)&&(!fd.scope.isCoroutine&& !fd.scope.isGenerator))&&dfl K fd.defaults fun ds=>dvsOK ds us))
noncomputable def fnAt(K:Frag)(f:Addr)(ps vars:List Str)(us:List V)(b:Ss):Bool:=match fdOf K f with
 |some fd=>fdAt K fd ps vars us b
 |none=>false
section
open E Es T S Ss
structure FnRow where
 f:Addr
 ps:List Str
 vars:List Str
 us:List V
 b:Ss
noncomputable def b_Options_init:Ss:=
 (.cons (.setA (.var 0) 3 (.var 1))
 (.cons (.setA (.var 0) 4 (.var 2))
 (.cons (.setA (.var 0) 5 (.var 3))
 (.cons (.setA (.var 0) 6 (.var 4))
 (.cons (.setA (.var 0) 7 (.var 5))
 .nil)))))
noncomputable def b_is_control:Ss:=
 (.cons (.ret (.or (.and (.cmp2 .LtE .Lt (.int 0) (.var 0) (.glob "BLANK" (.int 32))) (.and (.cmp .NotEq (.var 0) (.glob "NEWLINE" (.int 10))) (.cmp .NotEq (.var 0) (.glob "TAB" (.int 9))))) (.cmp .Eq (.var 0) (.glob "DELETE" (.int 127)))))
 .nil)
noncomputable def b_is_raw:Ss:=
 (.cons (.ret (.cmp2 .LtE .Lt (.int 128) (.var 0) (.int 160)))
 .nil)
noncomputable def b_shown_codes:Ss:=
 (.cons (.ite (.cmp .Eq (.var 0) (.glob "NEWLINE" (.int 10))) (.cons (.ret (.lst .nil))
 .nil) .nil)
 (.cons (.ite (.cmp .Eq (.var 0) (.glob "TAB" (.int 9))) (.cons .stop
 .nil) .nil)
 (.cons (.ite (.or (.call 57 "is_raw" (.cons (.var 0) .nil)) (.and (.call 50 "is_control" (.cons (.var 0) .nil)) (.not (.attr (.var 2) 4)))) (.cons .stop
 .nil) .nil)
 (.cons (.ite (.call 50 "is_control" (.cons (.var 0) .nil)) (.cons (.ret (.lst (.cons (.glob "CARET" (.int 94)) (.cons (.ite (.cmp .Eq (.var 0) (.glob "DELETE" (.int 127))) (.int 63) (.bin .Add (.var 0) (.int 64))) .nil))))
 .nil) .nil)
 (.cons (.ret (.lst (.cons (.var 0) .nil)))
 .nil)))))
noncomputable def b_View_init:Ss:=
 (.cons (.setA (.var 0) 0 (.var 1))
 (.cons (.setA (.var 0) 1 (.var 2))
 .nil))
noncomputable def b_View_faces_at:Ss:=
 (.cons (.ret (.tup .nil))
 .nil)
noncomputable def b_View_hidden_at:Ss:=
 (.cons (.ret (.glob "SHOWN" (.int 0)))
 .nil)
noncomputable def b_View_shown_at:Ss:=
 (.cons (.ret .none)
 .nil)
noncomputable def b_View_strings_at:Ss:=
 (.cons (.ret (.tup .nil))
 .nil)
noncomputable def b_TextView_init:Ss:=
 (.cons (.expr (.clsM 138 "View" 0 86 (.cons (.var 0) (.cons (.lst .nil) .nil))))
 (.cons (.setA (.var 0) 2 (.var 1))
 .nil))
noncomputable def b_TextView_begin:Ss:=
 (.cons (.ret (.meth (.attr (.var 0) 2) 705 59 639 .nil))
 .nil)
noncomputable def b_TextView_end:Ss:=
 (.cons (.ret (.meth (.attr (.var 0) 2) 705 18 646 .nil))
 .nil)
noncomputable def b_TextView_code_at:Ss:=
 (.cons (.ret (.meth (.attr (.var 0) 2) 705 60 660 (.cons (.var 1) .nil)))
 .nil)
noncomputable def b_Signs_init:Ss:=
 (.cons (.setA (.var 0) 8 (.var 1))
 (.cons (.setA (.var 0) 9 (.var 2))
 (.cons (.setA (.var 0) 10 (.var 3))
 .nil)))
noncomputable def b_is_break:Ss:=
 (.cons (.ret (.and (.cmp .Eq (.meth (.var 0) 180 60 177 (.cons (.var 1) .nil)) (.glob "NEWLINE" (.int 10))) (.and (.cmp .Eq (.meth (.var 0) 180 62 121 (.cons (.var 1) .nil)) (.glob "SHOWN" (.int 0))) (.cmp .Is (.meth (.var 0) 180 63 128 (.cons (.var 1) .nil)) .none))))
 .nil)
noncomputable def b_string_signs:Ss:=
 (.cons (.set 3 (.lst .nil))
 (.cons (.for_ (.tp []) false (.meth (.var 0) 180 64 135 (.cons (.var 2) .nil)) .none (.cons .stop .nil))
 (.cons (.ret (.var 3))
 .nil)))
noncomputable def b_signs_at:Ss:=
 (.cons (.set 3 (.call 222 "string_signs" (.cons (.var 0) (.cons (.var 1) (.cons (.var 2) .nil)))))
 (.cons (.ite (.cmp .GtE (.var 2) (.meth (.var 0) 180 18 170 .nil)) (.cons (.ret (.frz (.new 199 196 "Signs" (.cons (.var 3) (.cons (.var 2) (.cons (.bin .Add (.var 2) (.int 1)) .nil))))))
 .nil) .nil)
 (.cons (.ite (.cmp .NotEq (.meth (.var 0) 180 62 121 (.cons (.var 2) .nil)) (.glob "SHOWN" (.int 0))) (.cons .stop
 .nil) .nil)
 (.cons (.set 4 (.meth (.var 0) 180 63 128 (.cons (.var 2) .nil)))
 (.cons (.ite (.cmp .IsNot (.var 4) .none) (.cons .stop
 (.cons .stop
 (.cons .stop
 .nil))) .nil)
 (.cons (.set 8 (.meth (.var 1) 888 85 878 (.cons (.meth (.var 0) 180 61 114 (.cons (.var 2) .nil)) .nil)))
 (.cons (.ret (.frz (.new 199 196 "Signs" (.cons (.bin .Add (.var 3) (.lst (.cons (.tup (.cons (.meth (.var 0) 180 60 177 (.cons (.var 2) .nil)) (.cons (.var 8) (.cons (.var 2) .nil)))) .nil))) (.cons (.bin .Add (.var 2) (.int 1)) (.cons (.bin .Add (.var 2) (.int 1)) .nil))))))
 .nil)))))))
noncomputable def b_Walk_init:Ss:=
 (.cons (.setA (.var 0) 11 (.var 1))
 (.cons (.setA (.var 0) 12 (.var 2))
 (.cons (.setT [.at (.var 0) 13,.at (.var 0) 14] (.var 3))
 (.cons (.setA (.var 0) 15 (.call 234 "signs_at" (.cons (.var 1) (.cons (.var 2) (.cons (.attr (.var 0) 13) .nil)))))
 (.cons (.setA (.var 0) 10 (.attr (.attr (.var 0) 15) 10))
 .nil)))))
noncomputable def b_Walk_settle:Ss:=
 (.cons (.whl (.cmp .GtE (.attr (.var 0) 14) (.b1 .len (.attr (.attr (.var 0) 15) 8))) (.cons (.ite (.cmp .GtE (.attr (.var 0) 13) (.meth (.attr (.var 0) 11) 180 18 170 .nil)) (.cons (.ret (.bool false))
 .nil) .nil)
 (.cons (.setA (.var 0) 13 (.attr (.attr (.var 0) 15) 9))
 (.cons (.setA (.var 0) 14 (.bin .Sub (.attr (.var 0) 14) (.b1 .len (.attr (.attr (.var 0) 15) 8))))
 (.cons (.setA (.var 0) 15 (.call 234 "signs_at" (.cons (.attr (.var 0) 11) (.cons (.attr (.var 0) 12) (.cons (.attr (.var 0) 13) .nil)))))
 (.cons (.setA (.var 0) 10 (.b2 .max (.attr (.var 0) 10) (.attr (.attr (.var 0) 15) 10)))
 .nil))))))
 (.cons (.ret (.bool true))
 .nil))
noncomputable def b_Walk_sign:Ss:=
 (.cons (.ret (.ite (.meth (.var 0) 279 65 255 .nil) (.sub (.attr (.attr (.var 0) 15) 8) (.attr (.var 0) 14)) .none))
 .nil)
noncomputable def b_Walk_step:Ss:=
 (.cons (.setA (.var 0) 14 (.bin .Add (.attr (.var 0) 14) (.int 1)))
 .nil)
noncomputable def b_Walk_spot:Ss:=
 (.cons (.expr (.meth (.var 0) 279 65 255 .nil))
 (.cons (.ret (.tup (.cons (.attr (.var 0) 13) (.cons (.attr (.var 0) 14) .nil))))
 .nil))
noncomputable def b_Row_init:Ss:=
 (.cons (.setA (.var 0) 16 (.var 1))
 (.cons (.setA (.var 0) 17 (.var 2))
 (.cons (.setA (.var 0) 18 (.var 1))
 (.cons (.setA (.var 0) 19 (.var 2))
 (.cons (.setA (.var 0) 20 (.lstM .nil))
 (.cons (.setA (.var 0) 21 (.bool false))
 (.cons (.setA (.var 0) 22 (.bool false))
 (.cons (.setA (.var 0) 23 (.bool false))
 (.cons (.setA (.var 0) 24 (.glob "BLANK" (.int 32)))
 (.cons (.setA (.var 0) 10 (.sub (.var 1) (.int 0)))
 .nil))))))))))
noncomputable def b_Row_stop:Ss:=
 (.cons (.setA (.var 0) 18 (.meth (.var 1) 279 68 276 .nil))
 (.cons (.setA (.var 0) 19 (.var 2))
 (.cons (.setA (.var 0) 10 (.b2 .max (.attr (.var 0) 10) (.attr (.var 1) 10)))
 .nil)))
noncomputable def b_put_sign:Ss:=
 (.cons (.for_ (.nm 3) false (.var 2) .none (.cons (.expr (.app (.attr (.var 0) 20) (.tup (.cons (.var 3) (.cons (.sub (.var 1) (.int 1)) (.cons (.sub (.var 1) (.int 2)) .nil))))))
 .nil))
 .nil)
noncomputable def b_end_of_line:Ss:=
 (.cons (.ite (.cmp .Is (.var 2) .none) (.cons (.setA (.var 0) 23 (.bool true))
 (.cons (.expr (.meth (.var 0) 314 69 304 (.cons (.var 1) (.cons (.var 3) .nil))))
 .nil)) (.cons (.expr (.meth (.var 1) 279 67 269 .nil))
 (.cons (.setA (.var 0) 21 (.bool true))
 (.cons (.setA (.var 0) 22 (.and (.cmp .NotEq (.sub (.var 2) (.int 2)) (.glob "NOWHERE" (.int (-1)))) (.call 210 "is_break" (.cons (.attr (.var 1) 11) (.cons (.sub (.var 2) (.int 2)) .nil)))))
 (.cons (.expr (.meth (.var 0) 314 69 304 (.cons (.var 1) (.cons (.int 0) .nil))))
 .nil)))))
 .nil)
noncomputable def b_overflow:Ss:=
 (.cons (.set 7 (.b1 .len (.attr (.var 0) 20)))
 (.cons (.ite (.or (.and (.cmp .Eq (.sub (.var 2) (.int 0)) (.glob "TAB" (.int 9))) (.cmp .Lt (.var 7) (.var 5))) (.cmp .Eq (.var 7) (.int 0))) (.cons (.expr (.call 325 "put_sign" (.cons (.var 0) (.cons (.var 2) (.cons (.slice (.var 3) .none (.bin .Sub (.var 5) (.var 7))) .nil)))))
 (.cons (.expr (.meth (.var 1) 279 67 269 .nil))
 (.cons (.expr (.meth (.var 0) 314 69 304 (.cons (.var 1) (.cons (.bin .Add (.var 4) (.b1 .len (.var 3))) .nil))))
 .nil))) (.cons (.expr (.meth (.var 0) 314 69 304 (.cons (.var 1) (.cons (.var 4) .nil))))
 (.cons (.ite (.cmp .IsNot (.var 6) .none) (.cons .stop
 .nil) .nil)
 .nil)))
 .nil))
noncomputable def b_folded_row:Ss:=
 (.cons (.setR [6,7,8] (.tup (.cons (.new 279 248 "Walk" (.cons (.var 0) (.cons (.var 1) (.cons (.var 2) .nil)))) (.cons (.bin .Sub (.var 4) (.int 1)) (.cons .none .nil)))))
 (.cons (.set 9 (.new 314 297 "Row" (.cons (.meth (.var 6) 279 68 276 .nil) (.cons (.var 3) .nil))))
 (.cons (.whl (.bool true) (.cons (.set 10 (.meth (.var 6) 279 66 262 .nil))
 (.cons (.ite (.or (.cmp .Is (.var 10) .none) (.cmp .Eq (.sub (.var 10) (.int 0)) (.glob "NEWLINE" (.int 10)))) (.cons (.expr (.call 332 "end_of_line" (.cons (.var 9) (.cons (.var 6) (.cons (.var 10) (.cons (.var 3) .nil))))))
 (.cons (.ret (.frz (.var 9)))
 .nil)) .nil)
 (.cons (.set 11 (.call 71 "shown_codes" (.cons (.sub (.var 10) (.int 0)) (.cons (.var 3) (.cons (.var 5) .nil)))))
 (.cons (.ite (.cmp .Gt (.bin .Add (.b1 .len (.attr (.var 9) 20)) (.b1 .len (.var 11))) (.var 7)) (.cons (.expr (.call 339 "overflow" (.cons (.var 9) (.cons (.var 6) (.cons (.var 10) (.cons (.var 11) (.cons (.var 3) (.cons (.var 7) (.cons (.var 8) .nil)))))))))
 (.cons (.setA (.var 9) 24 (.ite (.attr (.var 5) 6) (.glob "BLANK" (.int 32)) (.glob "BACKSLASH" (.int 92))))
 (.cons (.ret (.frz (.var 9)))
 .nil))) .nil)
 (.cons (.expr (.call 325 "put_sign" (.cons (.var 9) (.cons (.var 10) (.cons (.var 11) .nil)))))
 (.cons (.set 3 (.bin .Add (.var 3) (.b1 .len (.var 11))))
 (.cons (.expr (.meth (.var 6) 279 67 269 .nil))
 (.cons (.ite (.and (.attr (.var 5) 6) .stop) (.cons .stop
 .nil) .nil)
 .nil)))))))))
 .nil)))
noncomputable def b_cut_row:Ss:=
 (.cons (.setR [5,6,7] (.tup (.cons (.new 279 248 "Walk" (.cons (.var 0) (.cons (.var 1) (.cons (.var 2) .nil)))) (.cons (.int 0) (.cons (.attr (.var 4) 7) .nil)))))
 (.cons (.setR [8,9] (.tup (.cons (.new 314 297 "Row" (.cons (.meth (.var 5) 279 68 276 .nil) (.cons (.int 0) .nil))) (.cons (.bin .Sub (.bin .Add (.var 7) (.var 3)) (.int 1)) .nil))))
 (.cons (.set 10 (.meth (.var 5) 279 66 262 .nil))
 (.cons (.whl (.and (.cmp .IsNot (.var 10) .none) (.cmp .NotEq (.sub (.var 10) (.int 0)) (.glob "NEWLINE" (.int 10)))) (.cons (.set 11 (.call 71 "shown_codes" (.cons (.sub (.var 10) (.int 0)) (.cons (.var 6) (.cons (.var 4) .nil)))))
 (.cons (.expr (.call 325 "put_sign" (.cons (.var 8) (.cons (.var 10) (.cons (.slice (.var 11) (.b2 .max (.int 0) (.bin .Sub (.var 7) (.var 6))) (.b2 .max (.int 0) (.bin .Sub (.var 9) (.var 6)))) .nil)))))
 (.cons (.set 6 (.bin .Add (.var 6) (.b1 .len (.var 11))))
 (.cons (.expr (.meth (.var 5) 279 67 269 .nil))
 (.cons (.set 10 (.meth (.var 5) 279 66 262 .nil))
 .nil))))))
 (.cons (.expr (.call 332 "end_of_line" (.cons (.var 8) (.cons (.var 5) (.cons (.var 10) (.cons (.int 0) .nil))))))
 (.cons (.ite (.cmp .Gt (.var 6) (.var 9)) (.cons (.setA (.var 8) 24 (.glob "DOLLAR" (.int 36)))
 .nil) .nil)
 (.cons (.ite (.and (.cmp .Gt (.var 7) (.int 0)) .stop) (.cons .stop
 .nil) .nil)
 (.cons (.ret (.frz (.var 8)))
 .nil))))))))
noncomputable def b_laid_row:Ss:=
 (.cons (.ite (.attr (.var 5) 5) (.cons (.ret (.call 353 "cut_row" (.cons (.var 0) (.cons (.var 1) (.cons (.var 2) (.cons (.var 4) (.cons (.var 5) .nil)))))))
 .nil) .nil)
 (.cons (.ret (.call 346 "folded_row" (.cons (.var 0) (.cons (.var 1) (.cons (.var 2) (.cons (.var 3) (.cons (.var 4) (.cons (.var 5) .nil))))))))
 .nil))
noncomputable def b_laid_rows:Ss:=
 (.cons (.set 7 (.lstM .nil))
 (.cons (.whl (.cmp .Lt (.b1 .len (.var 7)) (.var 4)) (.cons (.set 8 (.call 360 "laid_row" (.cons (.var 0) (.cons (.var 1) (.cons (.var 2) (.cons (.var 3) (.cons (.var 5) (.cons (.var 6) .nil))))))))
 (.cons (.expr (.app (.var 7) (.var 8)))
 (.cons (.ite (.attr (.var 8) 23) (.cons (.ret (.frz (.var 7)))
 .nil) .nil)
 (.cons (.setR [2,3] (.tup (.cons (.attr (.var 8) 18) (.cons (.attr (.var 8) 19) .nil))))
 .nil)))))
 (.cons (.ret (.frz (.var 7)))
 .nil)))
noncomputable def b_GapText_init:Ss:=
 (.cons (.setA (.var 0) 25 (.var 2))
 (.cons (.setA (.var 0) 26 (.addM (.b1 .list (.var 1)) (.bin .Mult (.lst (.cons (.int 0) .nil)) (.var 2))))
 (.cons (.setA (.var 0) 27 (.b1 .len (.var 1)))
 (.cons (.setA (.var 0) 28 (.bin .Add (.b1 .len (.var 1)) (.var 2)))
 .nil))))
noncomputable def b_GapText_size:Ss:=
 (.cons (.ret (.bin .Add (.bin .Sub (.b1 .len (.attr (.var 0) 26)) (.attr (.var 0) 28)) (.attr (.var 0) 27)))
 .nil)
noncomputable def b_GapText_code:Ss:=
 (.cons (.ite (.cmp .Lt (.var 1) (.attr (.var 0) 27)) (.cons (.ret (.sub (.attr (.var 0) 26) (.var 1)))
 .nil) .nil)
 (.cons (.ret (.sub (.attr (.var 0) 26) (.bin .Add (.bin .Sub (.var 1) (.attr (.var 0) 27)) (.attr (.var 0) 28))))
 .nil))
noncomputable def b_GapText_codes:Ss:=
 (.cons (.set 3 (.bin .Sub (.attr (.var 0) 28) (.attr (.var 0) 27)))
 (.cons (.ite (.cmp .LtE (.var 2) (.attr (.var 0) 27)) (.cons (.ret (.slice (.attr (.var 0) 26) (.var 1) (.var 2)))
 .nil) .nil)
 (.cons (.ite (.cmp .GtE (.var 1) (.attr (.var 0) 27)) (.cons (.ret (.slice (.attr (.var 0) 26) (.bin .Add (.var 1) (.var 3)) (.bin .Add (.var 2) (.var 3))))
 .nil) .nil)
 (.cons (.ret (.bin .Add (.slice (.attr (.var 0) 26) (.var 1) (.attr (.var 0) 27)) (.slice (.attr (.var 0) 26) (.attr (.var 0) 28) (.bin .Add (.var 2) (.var 3)))))
 .nil))))
noncomputable def b_GapText_move_gap:Ss:=
 (.cons (.ite (.cmp .Lt (.var 1) (.attr (.var 0) 27)) (.cons (.set 2 (.slice (.attr (.var 0) 26) (.var 1) (.attr (.var 0) 27)))
 (.cons (.setSl (.attr (.var 0) 26) (.bin .Sub (.attr (.var 0) 28) (.b1 .len (.var 2))) (.attr (.var 0) 28) (.var 2))
 (.cons (.setA (.var 0) 28 (.bin .Sub (.attr (.var 0) 28) (.b1 .len (.var 2))))
 .nil))) (.cons (.set 2 (.slice (.attr (.var 0) 26) (.attr (.var 0) 28) (.bin .Sub (.bin .Add (.attr (.var 0) 28) (.var 1)) (.attr (.var 0) 27))))
 (.cons (.setSl (.attr (.var 0) 26) (.attr (.var 0) 27) (.bin .Add (.attr (.var 0) 27) (.b1 .len (.var 2))) (.var 2))
 (.cons (.setA (.var 0) 28 (.bin .Add (.attr (.var 0) 28) (.b1 .len (.var 2))))
 .nil))))
 (.cons (.setA (.var 0) 27 (.var 1))
 .nil))
noncomputable def b_GapText_widen_gap:Ss:=
 (.cons (.set 2 (.bin .Sub (.var 1) (.bin .Sub (.attr (.var 0) 28) (.attr (.var 0) 27))))
 (.cons (.ite (.cmp .Gt (.var 2) (.int 0)) (.cons (.setSl (.attr (.var 0) 26) (.attr (.var 0) 28) (.attr (.var 0) 28) (.bin .Mult (.lst (.cons (.int 0) .nil)) (.bin .Add (.var 2) (.attr (.var 0) 25))))
 (.cons (.setA (.var 0) 28 (.bin .Add (.bin .Add (.attr (.var 0) 28) (.var 2)) (.attr (.var 0) 25)))
 .nil)) .nil)
 .nil))
noncomputable def b_GapText_insert:Ss:=
 (.cons (.expr (.meth (.var 0) 454 74 416 (.cons (.b1 .len (.var 2)) .nil)))
 (.cons (.expr (.meth (.var 0) 454 73 409 (.cons (.var 1) .nil)))
 (.cons (.setSl (.attr (.var 0) 26) (.var 1) (.bin .Add (.var 1) (.b1 .len (.var 2))) (.var 2))
 (.cons (.setA (.var 0) 27 (.bin .Add (.var 1) (.b1 .len (.var 2))))
 .nil))))
noncomputable def b_GapText_delete:Ss:=
 (.cons (.set 3 (.meth (.var 0) 454 0 402 (.cons (.var 1) (.cons (.var 2) .nil))))
 (.cons (.ite (.cmp .Lt (.var 2) (.attr (.var 0) 27)) (.cons (.expr (.meth (.var 0) 454 73 409 (.cons (.var 2) .nil)))
 .nil) .nil)
 (.cons (.ite (.cmp .Gt (.var 1) (.attr (.var 0) 27)) (.cons (.expr (.meth (.var 0) 454 73 409 (.cons (.var 1) .nil)))
 .nil) .nil)
 (.cons (.setA (.var 0) 28 (.bin .Sub (.bin .Add (.attr (.var 0) 28) (.var 2)) (.attr (.var 0) 27)))
 (.cons (.setA (.var 0) 27 (.var 1))
 (.cons (.ret (.var 3))
 .nil))))))
noncomputable def b_Marker_init:Ss:=
 (.cons (.setA (.var 0) 14 (.var 1))
 (.cons (.setA (.var 0) 29 (.var 2))
 (.cons (.setA (.var 0) 30 .none)
 (.cons (.setA (.var 0) 31 (.int 0))
 .nil))))
noncomputable def b_Markers_init:Ss:=
 (.cons (.setA (.var 0) 8 .dict0)
 .nil)
noncomputable def b_Markers_numbers:Ss:=
 (.cons (.ret (.b1 .sorted (.attr (.var 0) 8)))
 .nil)
noncomputable def b_Markers_put:Ss:=
 (.cons (.setI (.attr (.var 0) 8) (.attr (.var 1) 14) (.var 1))
 (.cons (.setA (.var 1) 31 (.var 2))
 .nil))
noncomputable def b_Markers_inserted:Ss:=
 (.cons (.for_ (.nm 4) false (.meth (.var 0) 599 55 554 .nil) .none (.cons (.set 5 (.sub (.attr (.var 0) 8) (.var 4)))
 (.cons (.ite (.or (.cmp .Gt (.attr (.var 5) 31) (.var 1)) (.and (.cmp .Eq (.attr (.var 5) 31) (.var 1)) (.or (.var 3) (.attr (.var 5) 29)))) (.cons (.setA (.var 5) 31 (.bin .Sub (.bin .Add (.attr (.var 5) 31) (.var 2)) (.var 1)))
 .nil) .nil)
 .nil)))
 .nil)
noncomputable def b_Markers_deleted:Ss:=
 (.cons (.for_ (.nm 3) false (.meth (.var 0) 599 55 554 .nil) .none (.cons (.set 4 (.sub (.attr (.var 0) 8) (.var 3)))
 (.cons (.ite (.cmp .Gt (.attr (.var 4) 31) (.var 2)) (.cons (.setA (.var 4) 31 (.bin .Sub (.attr (.var 4) 31) (.bin .Sub (.var 2) (.var 1))))
 .nil) (.cons (.ite (.cmp .Gt (.attr (.var 4) 31) (.var 1)) (.cons (.setA (.var 4) 31 (.var 1))
 .nil) .nil)
 .nil))
 .nil)))
 .nil)
noncomputable def b_Markers_replaced:Ss:=
 (.cons (.for_ (.nm 4) false (.meth (.var 0) 599 55 554 .nil) .none (.cons (.set 5 (.sub (.attr (.var 0) 8) (.var 4)))
 (.cons (.ite (.cmp .GtE (.attr (.var 5) 31) (.var 2)) (.cons (.setA (.var 5) 31 (.bin .Sub (.bin .Add (.attr (.var 5) 31) (.var 3)) (.bin .Sub (.var 2) (.var 1))))
 .nil) (.cons (.ite (.cmp .Gt (.attr (.var 5) 31) (.var 1)) (.cons (.setA (.var 5) 31 (.var 1))
 .nil) .nil)
 .nil))
 .nil)))
 .nil)
noncomputable def b_Buffer_init:Ss:=
 (.cons (.setA (.var 0) 14 (.var 1))
 (.cons (.setA (.var 0) 32 (.var 2))
 (.cons (.setA (.var 0) 2 (.new 454 381 "GapText" (.cons (.lst .nil) (.cons (.var 3) .nil))))
 (.cons (.setA (.var 0) 33 (.new 599 547 "Markers" .nil))
 (.cons (.setA (.var 0) 34 (.int 1))
 (.cons (.setA (.var 0) 35 (.int 1))
 (.cons (.setA (.var 0) 36 (.int 1))
 (.cons (.setA (.var 0) 24 .none)
 (.cons (.setA (.var 0) 37 (.bool true))
 (.cons (.setA (.var 0) 38 (.bool false))
 (.cons (.setA (.var 0) 39 (.int 1))
 (.cons (.setA (.var 0) 40 (.int 1))
 (.cons (.setA (.var 0) 41 (.int 1))
 (.cons (.setA (.var 0) 42 (.lst .nil))
 (.cons (.setA (.var 0) 43 .none)
 (.cons (.setA (.var 0) 44 .none)
 (.cons (.setA (.var 0) 45 .none)
 (.cons (.setA (.var 0) 46 .none)
 (.cons (.setA (.var 0) 47 .none)
 (.cons (.setA (.var 0) 48 .none)
 .nil))))))))))))))))))))
noncomputable def b_Buffer_begin:Ss:=
 (.cons (.ret (.attr (.var 0) 35))
 .nil)
noncomputable def b_Buffer_end:Ss:=
 (.cons (.ret (.attr (.var 0) 36))
 .nil)
noncomputable def b_Buffer_size:Ss:=
 (.cons (.ret (.meth (.attr (.var 0) 2) 454 71 388 .nil))
 .nil)
noncomputable def b_Buffer_code_at:Ss:=
 (.cons (.ite (.or (.cmp .Lt (.var 1) (.attr (.var 0) 35)) (.cmp .GtE (.var 1) (.attr (.var 0) 36))) (.cons (.ret (.neg (.int 1)))
 .nil) .nil)
 (.cons (.ret (.meth (.attr (.var 0) 2) 454 72 395 (.cons (.bin .Sub (.var 1) (.int 1)) .nil)))
 .nil))
noncomputable def b_Buffer_codes:Ss:=
 (.cons (.ret (.meth (.attr (.var 0) 2) 454 0 402 (.cons (.bin .Sub (.var 1) (.int 1)) (.cons (.bin .Sub (.var 2) (.int 1)) .nil))))
 .nil)
noncomputable def b_Buffer_goto:Ss:=
 (.cons (.setA (.var 0) 34 (.b2 .min (.b2 .max (.var 1) (.attr (.var 0) 35)) (.attr (.var 0) 36)))
 (.cons (.ret (.attr (.var 0) 34))
 .nil))
noncomputable def b_Buffer_touch:Ss:=
 (.cons (.setA (.var 0) 39 (.bin .Add (.attr (.var 0) 39) (.int 1)))
 (.cons (.ite (.var 1) (.cons (.setA (.var 0) 40 (.attr (.var 0) 39))
 .nil) .nil)
 .nil))
noncomputable def b_need_writable:Ss:=
 (.cons (.ite (.attr (.var 0) 38) (.cons .stop
 .nil) .nil)
 .nil)
noncomputable def b_need_room:Ss:=
 (.cons (.ite (.cmp .Gt (.bin .Add (.meth (.var 0) 705 71 653 .nil) (.var 1)) (.glob "LONGEST" (.int 4194304))) (.cons .stop
 .nil) .nil)
 .nil)
noncomputable def b_reached:Ss:=
 (.cons (.setR [3,4] (.tup (.cons (.b2 .min (.var 1) (.var 2)) (.cons (.b2 .max (.var 1) (.var 2)) .nil))))
 (.cons (.ite (.or (.cmp .Lt (.var 3) (.attr (.var 0) 35)) (.cmp .Gt (.var 4) (.attr (.var 0) 36))) (.cons (.raise "args-out-of-range" (.str "args-out-of-range") (.lst (.cons (.var 1) (.cons (.var 2) .nil))))
 .nil) .nil)
 (.cons (.ret (.tup (.cons (.var 3) (.cons (.var 4) .nil))))
 .nil)))
noncomputable def b_tell_ahead:Ss:=
 (.cons (.for_ (.tp []) false (.b1 .list (.attr (.var 0) 42)) .none (.cons .stop .nil))
 .nil)
noncomputable def b_tell_behind:Ss:=
 (.cons (.expr (.meth (.var 0) 705 84 702 (.cons (.bool true) .nil)))
 (.cons (.for_ (.tp []) false (.b1 .list (.attr (.var 0) 42)) .none (.cons .stop .nil))
 .nil))
noncomputable def b_text_out:Ss:=
 (.cons (.ite (.cmp .IsNot (.attr (.var 0) 43) .none) (.cons .stop
 .nil) .nil)
 (.cons (.set 3 (.meth (.attr (.var 0) 2) 454 76 430 (.cons (.bin .Sub (.var 1) (.int 1)) (.cons (.bin .Sub (.var 2) (.int 1)) .nil))))
 (.cons (.setA (.var 0) 36 (.bin .Sub (.attr (.var 0) 36) (.bin .Sub (.var 2) (.var 1))))
 (.cons (.ite (.cmp .Gt (.attr (.var 0) 34) (.var 1)) (.cons (.setA (.var 0) 34 (.b2 .max (.var 1) (.bin .Sub (.attr (.var 0) 34) (.bin .Sub (.var 2) (.var 1)))))
 .nil) .nil)
 (.cons (.ret (.var 3))
 .nil)))))
noncomputable def b_text_in:Ss:=
 (.cons (.ite (.cmp .IsNot (.attr (.var 0) 43) .none) (.cons .stop
 .nil) .nil)
 (.cons (.expr (.meth (.attr (.var 0) 2) 454 75 423 (.cons (.bin .Sub (.var 1) (.int 1)) (.cons (.var 2) .nil))))
 (.cons (.setA (.var 0) 36 (.bin .Add (.attr (.var 0) 36) (.b1 .len (.var 2))))
 (.cons (.ite (.cmp .Gt (.attr (.var 0) 34) (.var 1)) (.cons (.setA (.var 0) 34 (.bin .Add (.attr (.var 0) 34) (.b1 .len (.var 2))))
 .nil) .nil)
 .nil))))
noncomputable def b_hung_out:Ss:=
 (.cons (.ite (.cmp .IsNot (.attr (.var 0) 44) .none) (.cons .stop
 .nil) .nil)
 (.cons (.ite (.cmp .IsNot (.attr (.var 0) 45) .none) (.cons .stop
 .nil) .nil)
 .nil))
noncomputable def b_hung_in:Ss:=
 (.cons (.ite (.cmp .IsNot (.attr (.var 0) 44) .none) (.cons .stop
 .nil) .nil)
 (.cons (.ite (.cmp .IsNot (.attr (.var 0) 45) .none) (.cons .stop
 .nil) .nil)
 .nil))
noncomputable def b_put_in:Ss:=
 (.cons (.expr (.call 734 "need_writable" (.cons (.var 0) .nil)))
 (.cons (.expr (.call 748 "reached" (.cons (.var 0) (.cons (.var 1) (.cons (.var 1) .nil)))))
 (.cons (.ite (.cmp .Eq (.b1 .len (.var 2)) (.int 0)) (.cons .retN
 .nil) .nil)
 (.cons (.expr (.call 741 "need_room" (.cons (.var 0) (.cons (.b1 .len (.var 2)) .nil))))
 (.cons (.expr (.call 755 "tell_ahead" (.cons (.var 0) (.cons (.var 1) (.cons (.var 1) .nil)))))
 (.cons (.expr (.call 776 "text_in" (.cons (.var 0) (.cons (.var 1) (.cons (.var 2) .nil)))))
 (.cons (.ite (.var 4) (.cons .stop
 .nil) .nil)
 (.cons (.expr (.meth (.attr (.var 0) 33) 599 80 582 (.cons (.var 1) (.cons (.bin .Add (.var 1) (.b1 .len (.var 2))) (.cons (.var 3) .nil)))))
 (.cons (.expr (.call 790 "hung_in" (.cons (.var 0) (.cons (.var 1) (.cons (.b1 .len (.var 2)) (.cons (.var 3) .nil))))))
 (.cons (.expr (.call 762 "tell_behind" (.cons (.var 0) (.cons (.var 1) (.cons (.bin .Add (.var 1) (.b1 .len (.var 2))) (.cons (.int 0) .nil))))))
 .nil))))))))))
noncomputable def b_insert_at:Ss:=
 (.cons (.expr (.call 797 "put_in" (.cons (.var 0) (.cons (.var 1) (.cons (.var 2) (.cons (.var 3) (.cons (.bool false) .nil)))))))
 .nil)
noncomputable def b_delete:Ss:=
 (.cons (.expr (.call 734 "need_writable" (.cons (.var 0) .nil)))
 (.cons (.setT [.nm 3,.nm 4] (.call 748 "reached" (.cons (.var 0) (.cons (.var 1) (.cons (.var 2) .nil)))))
 (.cons (.ite (.cmp .Eq (.var 3) (.var 4)) (.cons (.ret (.lst .nil))
 .nil) .nil)
 (.cons (.expr (.call 755 "tell_ahead" (.cons (.var 0) (.cons (.var 3) (.cons (.var 4) .nil)))))
 (.cons (.set 5 (.call 769 "text_out" (.cons (.var 0) (.cons (.var 3) (.cons (.var 4) .nil)))))
 (.cons (.expr (.meth (.attr (.var 0) 33) 599 81 589 (.cons (.var 3) (.cons (.var 4) .nil))))
 (.cons (.expr (.call 783 "hung_out" (.cons (.var 0) (.cons (.var 3) (.cons (.var 4) .nil)))))
 (.cons (.expr (.call 762 "tell_behind" (.cons (.var 0) (.cons (.var 3) (.cons (.var 3) (.cons (.bin .Sub (.var 4) (.var 3)) .nil))))))
 (.cons (.ret (.var 5))
 .nil)))))))))
noncomputable def b_replace:Ss:=
 (.cons (.expr (.call 734 "need_writable" (.cons (.var 0) .nil)))
 (.cons (.setT [.nm 5,.nm 6] (.call 748 "reached" (.cons (.var 0) (.cons (.var 1) (.cons (.var 2) .nil)))))
 (.cons (.ite (.cmp .Eq (.var 5) (.var 6)) (.cons (.expr (.call 805 "insert_at" (.cons (.var 0) (.cons (.var 5) (.cons (.var 3) .nil)))))
 (.cons (.ret (.lst .nil))
 .nil)) .nil)
 (.cons (.ite (.cmp .Eq (.b1 .len (.var 3)) (.int 0)) (.cons (.ret (.call 812 "delete" (.cons (.var 0) (.cons (.var 5) (.cons (.var 6) .nil)))))
 .nil) .nil)
 (.cons (.expr (.call 741 "need_room" (.cons (.var 0) (.cons (.bin .Sub (.b1 .len (.var 3)) (.bin .Sub (.var 6) (.var 5))) .nil))))
 (.cons (.set 7 (.attr (.var 0) 34))
 (.cons (.expr (.call 755 "tell_ahead" (.cons (.var 0) (.cons (.var 5) (.cons (.var 6) .nil)))))
 (.cons (.set 8 (.call 769 "text_out" (.cons (.var 0) (.cons (.var 5) (.cons (.var 6) .nil)))))
 (.cons (.expr (.call 776 "text_in" (.cons (.var 0) (.cons (.var 5) (.cons (.var 3) .nil)))))
 (.cons (.ite (.cmp .GtE (.var 7) (.var 6)) (.cons (.setA (.var 0) 34 (.bin .Sub (.bin .Add (.var 7) (.b1 .len (.var 3))) (.bin .Sub (.var 6) (.var 5))))
 .nil) .nil)
 (.cons (.expr (.meth (.attr (.var 0) 33) 599 82 596 (.cons (.var 5) (.cons (.var 6) (.cons (.b1 .len (.var 3)) .nil)))))
 (.cons (.expr (.call 790 "hung_in" (.cons (.var 0) (.cons (.var 6) (.cons (.b1 .len (.var 3)) (.cons (.bool true) .nil))))))
 (.cons (.expr (.call 783 "hung_out" (.cons (.var 0) (.cons (.var 5) (.cons (.var 6) .nil)))))
 (.cons (.ite (.cmp .IsNot (.var 4) .none) (.cons .stop
 .nil) .nil)
 (.cons (.expr (.call 762 "tell_behind" (.cons (.var 0) (.cons (.var 5) (.cons (.bin .Add (.var 5) (.b1 .len (.var 3))) (.cons (.bin .Sub (.var 6) (.var 5)) .nil))))))
 (.cons (.ret (.var 8))
 .nil))))))))))))))))
noncomputable def b_Face_init:Ss:=
 (.cons (.setA (.var 0) 51 (.var 1))
 (.cons (.setA (.var 0) 52 (.var 2))
 .nil))
noncomputable def b_FaceTable_init:Ss:=
 (.cons (.setA (.var 0) 53 (.dict1 (.glob "DEFAULT" (.str "default")) (.new 841 838 "Face" (.cons (.glob "PLAIN" (.tup [.int 0,.int 0,.int 0,.int 0,.int 0,.int 0])) .nil))))
 (.cons (.setA (.var 0) 54 (.lst (.cons (.glob "PLAIN" (.tup [.int 0,.int 0,.int 0,.int 0,.int 0,.int 0])) .nil)))
 (.cons (.setA (.var 0) 55 (.dict1 (.glob "PLAIN" (.tup [.int 0,.int 0,.int 0,.int 0,.int 0,.int 0])) (.int 0)))
 .nil)))
noncomputable def b_FaceTable_number_of:Ss:=
 (.cons (.ite (.cmpD .Eq (.var 1) (.tup .nil)) (.cons (.ret (.int 0))
 .nil) .nil)
 (.cons .stop
 (.cons .stop
 (.cons .stop
 .nil))))
noncomputable def b_narrow:Ss:=
 (.cons (.setR [3,4] (.tup (.cons (.b2 .min (.var 1) (.var 2)) (.cons (.b2 .max (.var 1) (.var 2)) .nil))))
 (.cons (.ite (.or (.cmp .Lt (.var 3) (.int 1)) (.cmp .Gt (.var 4) (.bin .Add (.meth (.var 0) 705 71 653 .nil) (.int 1)))) (.cons .stop
 .nil) .nil)
 (.cons (.setT [.at (.var 0) 35,.at (.var 0) 36] (.tup (.cons (.var 3) (.cons (.var 4) .nil))))
 (.cons (.expr (.meth (.var 0) 705 83 674 (.cons (.attr (.var 0) 34) .nil)))
 .nil))))
noncomputable def b_widen:Ss:=
 (.cons (.setT [.at (.var 0) 35,.at (.var 0) 36] (.tup (.cons (.int 1) (.cons (.bin .Add (.meth (.var 0) 705 71 653 .nil) (.int 1)) .nil))))
 .nil)
noncomputable def b_set_marker:Ss:=
 (.cons (.ite (.and (.cmp .IsNot (.attr (.var 0) 30) .none) (.cmp .IsNot (.attr (.var 0) 30) (.var 1))) (.cons .stop
 .nil) .nil)
 (.cons (.setA (.var 0) 30 (.var 1))
 (.cons (.ite (.cmp .Is (.var 1) .none) (.cons .stop
 .nil) (.cons (.expr (.meth (.attr (.var 1) 33) 599 77 561 (.cons (.var 0) (.cons (.b2 .min (.b2 .max (.var 2) (.int 1)) (.bin .Add (.meth (.var 1) 705 71 653 .nil) (.int 1))) .nil))))
 .nil))
 .nil)))
noncomputable def b_line_begin:Ss:=
 (.cons (.whl (.and (.cmp .Gt (.var 1) (.meth (.var 0) 180 59 163 .nil)) (.not (.call 210 "is_break" (.cons (.var 0) (.cons (.bin .Sub (.var 1) (.int 1)) .nil))))) (.cons (.set 1 (.bin .Sub (.var 1) (.int 1)))
 .nil))
 (.cons (.ret (.var 1))
 .nil))
noncomputable def b_law_pot:Ss:=
 (.cons (.setC 1 (.comp 2 [] (.nm 1) false (.slice (.var 0) .none (.int 48)) (.bool true) (.bin .Mod (.b1 .abs (.var 1)) (.int 1000003))))
 (.cons (.ret (.lstM (.cons (.var 1) (.cons (.int 0) (.cons (.bin .Add (.int 251) (.bin .Mod (.b1 .sum (.var 1)) (.int 65519))) .nil)))))
 .nil))
noncomputable def b_law_dip:Ss:=
 (.cons (.set 2 (.sub (.var 0) (.int 1)))
 (.cons (.setI (.var 0) (.int 1) (.bin .Add (.var 2) (.int 1)))
 (.cons (.ite (.cmp .Lt (.var 2) (.b1 .len (.sub (.var 0) (.int 0)))) (.cons (.ret (.bin .Mod (.sub (.sub (.var 0) (.int 0)) (.var 2)) (.var 1)))
 .nil) .nil)
 (.cons (.setI (.var 0) (.int 2) (.bin .Mod (.bin .Add (.bin .Mult (.sub (.var 0) (.int 2)) (.int 75)) (.int 74)) (.int 65537)))
 (.cons (.ret (.bin .Mod (.sub (.var 0) (.int 2)) (.var 1)))
 .nil)))))
noncomputable def b_law_codes:Ss:=
 (.cons (.ret (.comp 2 [some 0] (.nm 1) true (.var 1) (.bool true) (.sub (.lst (.cons (.int 97) (.cons (.int 98) (.cons (.int 10) (.cons (.int 32) (.cons (.int 1) .nil)))))) (.call 932 "_law_dip" (.cons (.var 2) (.cons (.int 5) .nil))))))
 .nil)
noncomputable def b_law_rows:Ss:=
 (.cons (.setR [5,6] (.tup (.cons (.lstM .nil) (.cons (.var 1) .nil))))
 (.cons (.whl (.bool true) (.cons (.set 7 (.var 6))
 (.cons (.whl (.and (.cmp .Lt (.var 7) (.var 2)) (.cmp .NotEq (.sub (.var 0) (.bin .Sub (.var 7) (.int 1))) (.int 10))) (.cons (.set 7 (.bin .Add (.var 7) (.int 1)))
 .nil))
 (.cons (.set 8 (.lstM .nil))
 (.cons (.for_ (.nm 9) true (.var 6) (.var 7) (.cons (.expr (.app (.var 8) (.ite (.cmp .Eq (.sub (.var 0) (.bin .Sub (.var 9) (.int 1))) (.int 1)) (.lst (.cons (.tup (.cons (.int 94) (.cons (.var 9) .nil))) (.cons (.tup (.cons (.int 65) (.cons (.var 9) .nil))) .nil))) (.lst (.cons (.tup (.cons (.sub (.var 0) (.bin .Sub (.var 9) (.int 1))) (.cons (.var 9) .nil))) .nil)))))
 .nil))
 (.cons (.frz 8)
 (.cons (.ite (.var 4) (.cons (.setC 10 (.flat 0 (.var 8)))
 (.cons (.expr (.app (.var 5) (.tup (.cons (.var 6) (.cons (.slice (.var 10) .none (.bin .Sub (.var 3) (.int 1))) (.cons (.ite (.cmp .GtE (.b1 .len (.var 10)) (.var 3)) (.int 36) (.int 32)) .nil))))))
 .nil)) (.cons (.expr (.ext (.var 5) (.call 949 "_law_folded_rows" (.cons (.var 8) (.cons (.var 6) (.cons (.bin .Sub (.var 3) (.int 1)) .nil))))))
 .nil))
 (.cons (.ite (.cmp .GtE (.var 7) (.var 2)) (.cons (.ret (.frz (.var 5)))
 .nil) .nil)
 (.cons (.set 6 (.bin .Add (.var 7) (.int 1)))
 .nil)))))))))
 .nil))
noncomputable def b_law_folded_rows:Ss:=
 (.cons (.setR [3,4,5] (.tup (.cons (.lstM .nil) (.cons (.lst .nil) (.cons (.var 1) .nil)))))
 (.cons (.for_ (.nm 6) false (.var 0) .none (.cons (.ite (.cmp .Gt (.bin .Add (.b1 .len (.var 4)) (.b1 .len (.var 6))) (.var 2)) (.cons (.expr (.app (.var 3) (.tup (.cons (.var 5) (.cons (.var 4) (.cons (.int 92) .nil))))))
 (.cons (.setR [4,5] (.tup (.cons (.lst .nil) (.cons (.sub (.sub (.var 6) (.int 0)) (.int 1)) .nil))))
 .nil)) .nil)
 (.cons (.set 4 (.bin .Add (.var 4) (.var 6)))
 .nil)))
 (.cons (.ret (.frz (.bin .Add (.var 3) (.lst (.cons (.tup (.cons (.var 5) (.cons (.var 4) (.cons (.int 32) .nil)))) .nil)))))
 .nil)))
noncomputable def b_law_moved:Ss:=
 (.cons (.ite (.or (.cmp .Gt (.var 0) (.var 2)) (.and (.cmp .Eq (.var 0) (.var 2)) (.or (.cmp .Gt (.var 2) (.var 1)) (.var 4)))) (.cons (.ret (.bin .Sub (.bin .Add (.var 0) (.var 3)) (.bin .Sub (.var 2) (.var 1))))
 .nil) .nil)
 (.cons (.ret (.ite (.cmp .Gt (.var 0) (.var 1)) (.b2 .min (.var 0) (.var 1)) (.var 0)))
 .nil))
noncomputable def b_law_shown_right:Ss:=
 (.cons (.setT [.nm 3,.nm 4,.nm 5] (.var 2))
 (.cons (.setR [6,7,8] (.tup (.cons (.subK (.var 1) 0) (.cons (.subK (.var 1) 56) (.cons (.subK (.var 1) 57) .nil)))))
 (.cons (.set 9 (.b2 .min (.b2 .max (.sub (.subK (.var 1) 58) (.attr (.var 3) 14)) (.var 7)) (.var 8)))
 (.cons (.whl (.and (.cmp .Gt (.var 9) (.var 7)) (.cmp .NotEq (.sub (.var 6) (.bin .Sub (.var 9) (.int 2))) (.int 10))) (.cons (.set 9 (.bin .Sub (.var 9) (.int 1)))
 .nil))
 (.cons (.set 10 (.new 180 156 "TextView" (.cons (.var 0) .nil)))
 (.cons (.ite (.cmp .NotEq (.call 920 "line_begin" (.cons (.var 10) (.cons (.b2 .min (.b2 .max (.attr (.var 3) 31) (.meth (.var 10) 180 59 163 .nil)) (.meth (.var 10) 180 18 170 .nil)) .nil))) (.var 9)) (.cons (.ret (.bool false))
 .nil) .nil)
 (.cons (.set 11 (.new 39 36 "Options" (.cons (.int 4) (.cons (.bool true) (.cons (.var 5) (.cons (.bool false) (.cons (.int 0) .nil)))))))
 (.cons (.set 12 (.slice (.comp 2 [some 9] (.nm 1) false (.call 942 "_law_rows" (.cons (.var 6) (.cons (.var 7) (.cons (.var 8) (.cons (.var 4) (.cons (.var 5) .nil)))))) (.cmp .GtE (.sub (.var 1) (.int 0)) (.var 2)) (.var 1)) .none (.int 3)))
 (.cons (.set 13 (.call 367 "laid_rows" (.cons (.var 10) (.cons (.new 888 859 "FaceTable" .nil) (.cons (.tup (.cons (.var 9) (.cons (.int 0) .nil))) (.cons (.int 0) (.cons (.int 3) (.cons (.var 4) (.cons (.var 11) .nil)))))))))
 (.cons (.ret (.cmpD .Eq (.comp 2 [] (.nm 1) false (.var 13) (.bool true) (.tup (.cons (.sub (.attr (.var 1) 16) (.int 0)) (.cons (.comp 4 [] (.tp [1,2,3]) false (.attr (.var 1) 20) (.bool true) (.tup (.cons (.var 1) (.cons (.var 3) .nil)))) (.cons (.attr (.var 1) 24) .nil))))) (.var 12)))
 .nil))))))))))
noncomputable def b_law_edit:Ss:=
 (.cons (.set 3 (.b1 .len (.subK (.var 2) 0)))
 (.cons (.setR [4,5] (.tup (.cons (.bin .Add (.int 1) (.call 932 "_law_dip" (.cons (.var 1) (.cons (.bin .Add (.var 3) (.int 1)) .nil)))) (.cons (.bin .Add (.int 1) (.call 932 "_law_dip" (.cons (.var 1) (.cons (.bin .Add (.var 3) (.int 1)) .nil)))) .nil))))
 (.cons (.setR [6,7] (.tup (.cons (.call 932 "_law_dip" (.cons (.var 1) (.cons (.int 3) .nil))) (.cons (.call 937 "_law_codes" (.cons (.var 1) (.cons (.bin .Add (.int 1) (.call 932 "_law_dip" (.cons (.var 1) (.cons (.int 3) .nil)))) .nil))) .nil))))
 (.cons (.set 5 (.ite (.cmp .Eq (.var 6) (.int 0)) (.var 4) (.b2 .max (.var 4) (.var 5))))
 (.cons (.setR [4,7] (.tup (.cons (.b2 .min (.var 4) (.var 5)) (.cons (.ite (.cmp .NotEq (.var 6) (.int 1)) (.var 7) (.lst .nil)) .nil))))
 (.cons (.try_ (.cons (.ite (.cmp .Eq (.var 6) (.int 0)) (.cons (.expr (.call 805 "insert_at" (.cons (.var 0) (.cons (.var 4) (.cons (.var 7) .nil)))))
 .nil) (.cons (.ite (.cmp .Eq (.var 6) (.int 1)) (.cons (.expr (.call 812 "delete" (.cons (.var 0) (.cons (.var 4) (.cons (.var 5) .nil)))))
 .nil) (.cons (.expr (.call 820 "replace" (.cons (.var 0) (.cons (.var 4) (.cons (.var 5) (.cons (.var 7) .nil))))))
 .nil))
 .nil))
 .nil) 8 (.cons (.ret (.and (.cmp .Eq (.excSym (.var 8)) (.str "args-out-of-range")) (.not (.cmp3 .LtE .LtE .LtE (.subK (.var 2) 56) (.var 4) (.var 5) (.subK (.var 2) 57)))))
 .nil))
 (.cons (.ite (.not (.cmp3 .LtE .LtE .LtE (.subK (.var 2) 56) (.var 4) (.var 5) (.subK (.var 2) 57))) (.cons (.ret (.bool false))
 .nil) .nil)
 (.cons (.setK (.var 2) 0 (.bin .Add (.bin .Add (.slice (.subK (.var 2) 0) .none (.bin .Sub (.var 4) (.int 1))) (.var 7)) (.slice (.subK (.var 2) 0) (.bin .Sub (.var 5) (.int 1)) .none)))
 (.cons (.setK (.var 2) 57 (.bin .Sub (.bin .Add (.subK (.var 2) 57) (.b1 .len (.var 7))) (.bin .Sub (.var 5) (.var 4))))
 (.cons (.for_ (.nm 9) false (.tup (.cons (.int 1) (.cons (.int 2) .nil))) .none (.cons (.setI (.subK (.var 2) 58) (.var 9) (.call 956 "_law_moved" (.cons (.sub (.subK (.var 2) 58) (.var 9)) (.cons (.var 4) (.cons (.var 5) (.cons (.b1 .len (.var 7)) (.cons (.cmp .Eq (.var 9) (.int 2)) .nil)))))))
 .nil))
 (.cons (.ret (.bool true))
 .nil)))))))))))
noncomputable def b_law_bounded:Ss:=
 (.cons (.set 3 (.b1 .len (.subK (.var 2) 0)))
 (.cons (.ite (.cmp .Eq (.call 932 "_law_dip" (.cons (.var 1) (.cons (.int 3) .nil))) (.int 0)) (.cons (.expr (.call 906 "widen" (.cons (.var 0) .nil)))
 (.cons (.setT [.itK (.var 2) 56,.itK (.var 2) 57] (.tup (.cons (.int 1) (.cons (.bin .Add (.var 3) (.int 1)) .nil))))
 .nil)) (.cons (.set 4 (.b1 .sorted (.lst (.cons (.bin .Add (.int 1) (.call 932 "_law_dip" (.cons (.var 1) (.cons (.bin .Add (.var 3) (.int 1)) .nil)))) (.cons (.bin .Add (.int 1) (.call 932 "_law_dip" (.cons (.var 1) (.cons (.bin .Add (.var 3) (.int 1)) .nil)))) .nil)))))
 (.cons (.expr (.call 899 "narrow" (.cons (.var 0) (.cons (.sub (.var 4) (.int 1)) (.cons (.sub (.var 4) (.int 0)) .nil)))))
 (.cons (.setT [.itK (.var 2) 56,.itK (.var 2) 57] (.tup (.cons (.sub (.var 4) (.int 0)) (.cons (.sub (.var 4) (.int 1)) .nil))))
 .nil))))
 (.cons (.ret (.bool true))
 .nil)))
noncomputable def b_law:Ss:=
 (.cons (.setR [1,2] (.tup (.cons (.call 925 "_law_pot" (.cons (.var 0) .nil)) (.cons (.new 705 618 "Buffer" (.cons (.int 1) (.cons (.str "b") (.cons (.int 4) .nil)))) .nil))))
 (.cons (.set 3 (.dictK [0,56,57,58] (.cons (.call 937 "_law_codes" (.cons (.var 1) (.cons (.call 932 "_law_dip" (.cons (.var 1) (.cons (.int 10) .nil))) .nil))) (.cons (.int 1) (.cons (.int 1) (.cons .dict0 .nil))))))
 (.cons (.expr (.call 805 "insert_at" (.cons (.var 2) (.cons (.int 1) (.cons (.subK (.var 3) 0) .nil)))))
 (.cons (.setK (.var 3) 57 (.bin .Add (.int 1) (.b1 .len (.subK (.var 3) 0))))
 (.cons (.set 4 (.lstM .nil))
 (.cons (.for_ (.nm 5) false (.tup (.cons (.int 1) (.cons (.int 2) .nil))) .none (.cons (.set 6 (.new 531 507 "Marker" (.cons (.var 5) (.cons (.cmp .Eq (.var 5) (.int 2)) .nil))))
 (.cons (.setI (.subK (.var 3) 58) (.var 5) (.bin .Add (.int 1) (.call 932 "_law_dip" (.cons (.var 1) (.cons (.bin .Add (.b1 .len (.subK (.var 3) 0)) (.int 1)) .nil)))))
 (.cons (.expr (.call 913 "set_marker" (.cons (.var 6) (.cons (.var 2) (.cons (.sub (.subK (.var 3) 58) (.var 5)) .nil)))))
 (.cons (.expr (.app (.var 4) (.tup (.cons (.var 6) (.cons (.bin .Add (.int 3) (.call 932 "_law_dip" (.cons (.var 1) (.cons (.int 4) .nil)))) (.cons (.cmp .Eq (.call 932 "_law_dip" (.cons (.var 1) (.cons (.int 3) .nil))) (.int 0)) .nil))))))
 .nil)))))
 (.cons (.frz 4)
 (.cons (.for_ (.nm 7) true (.int 0) (.bin .Add (.int 1) (.call 932 "_law_dip" (.cons (.var 1) (.cons (.int 4) .nil)))) (.cons (.set 8 (.ite (.cmp .Eq (.call 932 "_law_dip" (.cons (.var 1) (.cons (.int 3) .nil))) (.int 0)) (.glob "_law_bounded" (.ref 975)) (.glob "_law_edit" (.ref 968))))
 (.cons (.ite (.not (.callV (.var 8) (.cons (.var 2) (.cons (.var 1) (.cons (.var 3) .nil))))) (.cons (.ret (.bool false))
 .nil) .nil)
 (.cons (.ite (.cmpD .NotEq (.lst (.cons (.meth (.var 2) 705 59 639 .nil) (.cons (.meth (.var 2) 705 18 646 .nil) (.cons (.meth (.var 2) 705 71 653 .nil) .nil)))) (.lst (.cons (.subK (.var 3) 56) (.cons (.subK (.var 3) 57) (.cons (.b1 .len (.subK (.var 3) 0)) .nil))))) (.cons (.ret (.bool false))
 .nil) .nil)
 (.cons (.ite (.cmpD .NotEq (.meth (.var 2) 705 0 667 (.cons (.int 1) (.cons (.bin .Add (.meth (.var 2) 705 71 653 .nil) (.int 1)) .nil))) (.subK (.var 3) 0)) (.cons (.ret (.bool false))
 .nil) .nil)
 (.cons (.for_ (.nm 9) false (.var 4) .none (.cons (.ite (.cmp .NotEq (.attr (.sub (.var 9) (.int 0)) 31) (.sub (.subK (.var 3) 58) (.attr (.sub (.var 9) (.int 0)) 14))) (.cons (.ret (.bool false))
 .nil) .nil)
 (.cons (.ite (.not (.call 961 "_law_shown_right" (.cons (.var 2) (.cons (.var 3) (.cons (.var 9) .nil))))) (.cons (.ret (.bool false))
 .nil) .nil)
 .nil)))
 .nil))))))
 (.cons (.ret (.bool true))
 .nil)))))))))
noncomputable def t_Options_init:FnRow:=⟨36,["self","tab_width","has_carets","truncates","wraps_words","hscroll"],["self","tab_width","has_carets","truncates","wraps_words","hscroll"],[V.int 8,V.bool true,V.bool false,V.bool false,V.int 0],b_Options_init⟩
noncomputable def t_is_control:FnRow:=⟨50,["code"],["code"],[],b_is_control⟩
noncomputable def t_is_raw:FnRow:=⟨57,["code"],["code"],[],b_is_raw⟩
noncomputable def t_shown_codes:FnRow:=⟨71,["code","column","options"],["code","column","options"],[],b_shown_codes⟩
noncomputable def t_View_init:FnRow:=⟨86,["self","codes","begin"],["self","codes","begin"],[V.int 1],b_View_init⟩
noncomputable def t_View_faces_at:FnRow:=⟨114,["self","place"],["self","place"],[],b_View_faces_at⟩
noncomputable def t_View_hidden_at:FnRow:=⟨121,["self","place"],["self","place"],[],b_View_hidden_at⟩
noncomputable def t_View_shown_at:FnRow:=⟨128,["self","place"],["self","place"],[],b_View_shown_at⟩
noncomputable def t_View_strings_at:FnRow:=⟨135,["self","place"],["self","place"],[],b_View_strings_at⟩
noncomputable def t_TextView_init:FnRow:=⟨156,["self","text"],["self","text"],[],b_TextView_init⟩
noncomputable def t_TextView_begin:FnRow:=⟨163,["self"],["self"],[],b_TextView_begin⟩
noncomputable def t_TextView_end:FnRow:=⟨170,["self"],["self"],[],b_TextView_end⟩
noncomputable def t_TextView_code_at:FnRow:=⟨177,["self","place"],["self","place"],[],b_TextView_code_at⟩
noncomputable def t_Signs_init:FnRow:=⟨196,["self","rows","after","reach"],["self","rows","after","reach"],[],b_Signs_init⟩
noncomputable def t_is_break:FnRow:=⟨210,["view","place"],["view","place"],[],b_is_break⟩
noncomputable def t_string_signs:FnRow:=⟨222,["view","table","place"],["view","table","place","found","codes","faces","face"],[],b_string_signs⟩
noncomputable def t_signs_at:FnRow:=⟨234,["view","table","place"],["view","table","place","ahead","shown","codes","faces","end","face"],[],b_signs_at⟩
noncomputable def t_Walk_init:FnRow:=⟨248,["self","view","table","spot"],["self","view","table","spot"],[],b_Walk_init⟩
noncomputable def t_Walk_settle:FnRow:=⟨255,["self"],["self"],[],b_Walk_settle⟩
noncomputable def t_Walk_sign:FnRow:=⟨262,["self"],["self"],[],b_Walk_sign⟩
noncomputable def t_Walk_step:FnRow:=⟨269,["self"],["self"],[],b_Walk_step⟩
noncomputable def t_Walk_spot:FnRow:=⟨276,["self"],["self"],[],b_Walk_spot⟩
noncomputable def t_Row_init:FnRow:=⟨297,["self","start","column"],["self","start","column"],[],b_Row_init⟩
noncomputable def t_Row_stop:FnRow:=⟨304,["self","walk","column"],["self","walk","column"],[],b_Row_stop⟩
noncomputable def t_put_sign:FnRow:=⟨325,["row","sign","codes"],["row","sign","codes","code"],[],b_put_sign⟩
noncomputable def t_end_of_line:FnRow:=⟨332,["row","walk","sign","column"],["row","walk","sign","column"],[],b_end_of_line⟩
noncomputable def t_overflow:FnRow:=⟨339,["row","walk","sign","codes","column","room","last_break"],["row","walk","sign","codes","column","room","last_break","used"],[],b_overflow⟩
noncomputable def t_folded_row:FnRow:=⟨346,["view","table","spot","column","width","options"],["view","table","spot","column","width","options","walk","room","last_break","row","sign","codes"],[],b_folded_row⟩
noncomputable def t_cut_row:FnRow:=⟨353,["view","table","spot","width","options"],["view","table","spot","width","options","walk","column","left","row","right","sign","codes"],[],b_cut_row⟩
noncomputable def t_laid_row:FnRow:=⟨360,["view","table","spot","column","width","options"],["view","table","spot","column","width","options"],[],b_laid_row⟩
noncomputable def t_laid_rows:FnRow:=⟨367,["view","table","spot","column","height","width","options"],["view","table","spot","column","height","width","options","found","row"],[],b_laid_rows⟩
noncomputable def t_GapText_init:FnRow:=⟨381,["self","codes","room"],["self","codes","room"],[],b_GapText_init⟩
noncomputable def t_GapText_size:FnRow:=⟨388,["self"],["self"],[],b_GapText_size⟩
noncomputable def t_GapText_code:FnRow:=⟨395,["self","at"],["self","at"],[],b_GapText_code⟩
noncomputable def t_GapText_codes:FnRow:=⟨402,["self","start","end"],["self","start","end","shift"],[],b_GapText_codes⟩
noncomputable def t_GapText_move_gap:FnRow:=⟨409,["self","at"],["self","at","moved"],[],b_GapText_move_gap⟩
noncomputable def t_GapText_widen_gap:FnRow:=⟨416,["self","wanted"],["self","wanted","lack"],[],b_GapText_widen_gap⟩
noncomputable def t_GapText_insert:FnRow:=⟨423,["self","at","codes"],["self","at","codes"],[],b_GapText_insert⟩
noncomputable def t_GapText_delete:FnRow:=⟨430,["self","start","end"],["self","start","end","gone"],[],b_GapText_delete⟩
noncomputable def t_Marker_init:FnRow:=⟨507,["self","number","advances"],["self","number","advances"],[],b_Marker_init⟩
noncomputable def t_Markers_init:FnRow:=⟨547,["self"],["self"],[],b_Markers_init⟩
noncomputable def t_Markers_numbers:FnRow:=⟨554,["self"],["self"],[],b_Markers_numbers⟩
noncomputable def t_Markers_put:FnRow:=⟨561,["self","marker","position"],["self","marker","position"],[],b_Markers_put⟩
noncomputable def t_Markers_inserted:FnRow:=⟨582,["self","start","end","is_before"],["self","start","end","is_before","number","marker"],[],b_Markers_inserted⟩
noncomputable def t_Markers_deleted:FnRow:=⟨589,["self","start","end"],["self","start","end","number","marker"],[],b_Markers_deleted⟩
noncomputable def t_Markers_replaced:FnRow:=⟨596,["self","start","end","many"],["self","start","end","many","number","marker"],[],b_Markers_replaced⟩
noncomputable def t_Buffer_init:FnRow:=⟨618,["self","number","name","room"],["self","number","name","room"],[V.int 8],b_Buffer_init⟩
noncomputable def t_Buffer_begin:FnRow:=⟨639,["self"],["self"],[],b_Buffer_begin⟩
noncomputable def t_Buffer_end:FnRow:=⟨646,["self"],["self"],[],b_Buffer_end⟩
noncomputable def t_Buffer_size:FnRow:=⟨653,["self"],["self"],[],b_Buffer_size⟩
noncomputable def t_Buffer_code_at:FnRow:=⟨660,["self","place"],["self","place"],[],b_Buffer_code_at⟩
noncomputable def t_Buffer_codes:FnRow:=⟨667,["self","start","end"],["self","start","end"],[],b_Buffer_codes⟩
noncomputable def t_Buffer_goto:FnRow:=⟨674,["self","place"],["self","place"],[],b_Buffer_goto⟩
noncomputable def t_Buffer_touch:FnRow:=⟨702,["self","are_codes"],["self","are_codes"],[],b_Buffer_touch⟩
noncomputable def t_need_writable:FnRow:=⟨734,["buffer"],["buffer"],[],b_need_writable⟩
noncomputable def t_need_room:FnRow:=⟨741,["buffer","growth"],["buffer","growth"],[],b_need_room⟩
noncomputable def t_reached:FnRow:=⟨748,["buffer","start","end"],["buffer","start","end","low","high"],[],b_reached⟩
noncomputable def t_tell_ahead:FnRow:=⟨755,["buffer","start","end"],["buffer","start","end","listener"],[],b_tell_ahead⟩
noncomputable def t_tell_behind:FnRow:=⟨762,["buffer","start","end","old_length"],["buffer","start","end","old_length","listener"],[],b_tell_behind⟩
noncomputable def t_text_out:FnRow:=⟨769,["buffer","start","end"],["buffer","start","end","gone"],[],b_text_out⟩
noncomputable def t_text_in:FnRow:=⟨776,["buffer","place","codes"],["buffer","place","codes"],[],b_text_in⟩
noncomputable def t_hung_out:FnRow:=⟨783,["buffer","start","end"],["buffer","start","end"],[],b_hung_out⟩
noncomputable def t_hung_in:FnRow:=⟨790,["buffer","place","many","before_markers"],["buffer","place","many","before_markers"],[],b_hung_in⟩
noncomputable def t_put_in:FnRow:=⟨797,["buffer","place","codes","before_markers","is_point_behind"],["buffer","place","codes","before_markers","is_point_behind"],[],b_put_in⟩
noncomputable def t_insert_at:FnRow:=⟨805,["buffer","place","codes","before_markers"],["buffer","place","codes","before_markers"],[V.bool false],b_insert_at⟩
noncomputable def t_delete:FnRow:=⟨812,["buffer","start","end"],["buffer","start","end","low","high","gone"],[],b_delete⟩
noncomputable def t_replace:FnRow:=⟨820,["buffer","start","end","codes","rows"],["buffer","start","end","codes","rows","low","high","point","gone"],[V.none],b_replace⟩
noncomputable def t_Face_init:FnRow:=⟨838,["self","parts","parents"],["self","parts","parents"],[V.opq],b_Face_init⟩
noncomputable def t_FaceTable_init:FnRow:=⟨859,["self"],["self"],[],b_FaceTable_init⟩
noncomputable def t_FaceTable_number_of:FnRow:=⟨878,["self","names"],["self","names","look"],[],b_FaceTable_number_of⟩
noncomputable def t_narrow:FnRow:=⟨899,["buffer","start","end"],["buffer","start","end","low","high"],[],b_narrow⟩
noncomputable def t_widen:FnRow:=⟨906,["buffer"],["buffer"],[],b_widen⟩
noncomputable def t_set_marker:FnRow:=⟨913,["marker","buffer","place"],["marker","buffer","place"],[],b_set_marker⟩
noncomputable def t_line_begin:FnRow:=⟨920,["view","place"],["view","place"],[],b_line_begin⟩
noncomputable def t_law_pot:FnRow:=⟨925,["script"],["script","cells"],[],b_law_pot⟩
noncomputable def t_law_dip:FnRow:=⟨932,["pot","many"],["pot","many","at"],[],b_law_dip⟩
noncomputable def t_law_codes:FnRow:=⟨937,["pot","many"],["pot","many"],[],b_law_codes⟩
noncomputable def t_law_rows:FnRow:=⟨942,["codes","low","high","width","is_cut"],["codes","low","high","width","is_cut","found","begin","end","signs","place","cells"],[],b_law_rows⟩
noncomputable def t_law_folded_rows:FnRow:=⟨949,["signs","begin","room"],["signs","begin","room","found","glyphs","first","sign"],[],b_law_folded_rows⟩
noncomputable def t_law_moved:FnRow:=⟨956,["place","start","end","many","advances"],["place","start","end","many","advances"],[],b_law_moved⟩
noncomputable def t_law_shown_right:FnRow:=⟨961,["buffer","model","window"],["buffer","model","window","marker","width","is_cut","codes","low","high","begin","view","options","due","laid"],[],b_law_shown_right⟩
noncomputable def t_law_edit:FnRow:=⟨968,["buffer","pot","model"],["buffer","pot","model","size","start","end","way","fresh","signal_here","number"],[],b_law_edit⟩
noncomputable def t_law_bounded:FnRow:=⟨975,["buffer","pot","model"],["buffer","pot","model","size","ends"],[],b_law_bounded⟩
noncomputable def t_law:FnRow:=⟨982,["script"],["script","pot","buffer","model","windows","number","marker","nth","deed","window"],[],b_law⟩
noncomputable def fnTab:List FnRow:=[t_Options_init,t_is_control,t_is_raw,t_shown_codes,t_View_init,t_View_faces_at,t_View_hidden_at,t_View_shown_at,t_View_strings_at,t_TextView_init,t_TextView_begin,t_TextView_end,t_TextView_code_at,t_Signs_init,t_is_break,t_string_signs,t_signs_at,t_Walk_init,t_Walk_settle,t_Walk_sign,t_Walk_step,t_Walk_spot,t_Row_init,t_Row_stop,t_put_sign,t_end_of_line,t_overflow,t_folded_row,t_cut_row,t_laid_row,t_laid_rows,t_GapText_init,t_GapText_size,t_GapText_code,t_GapText_codes,t_GapText_move_gap,t_GapText_widen_gap,t_GapText_insert,t_GapText_delete,t_Marker_init,t_Markers_init,t_Markers_numbers,t_Markers_put,t_Markers_inserted,t_Markers_deleted,t_Markers_replaced,t_Buffer_init,t_Buffer_begin,t_Buffer_end,t_Buffer_size,t_Buffer_code_at,t_Buffer_codes,t_Buffer_goto,t_Buffer_touch,t_need_writable,t_need_room,t_reached,t_tell_ahead,t_tell_behind,t_text_out,t_text_in,t_hung_out,t_hung_in,t_put_in,t_insert_at,t_delete,t_replace,t_Face_init,t_FaceTable_init,t_FaceTable_number_of,t_narrow,t_widen,t_set_marker,t_line_begin,t_law_pot,t_law_dip,t_law_codes,t_law_rows,t_law_folded_rows,t_law_moved,t_law_shown_right,t_law_edit,t_law_bounded,t_law]
end
noncomputable def b_ls_init:Ss:=.cons (.setA (.var 0) 49 (.var 1)) (.cons (.setA (.var 0) 50 (.var 2)) .nil)
noncomputable def t_ls_init:FnRow:=⟨721,lsPs,lsPs,[],b_ls_init⟩
noncomputable def cdOf(o:Option Obj):ClassData:=match o with
 |some o=>(match o.data with|.cls cd=>cd|_=>default)
 |none=>default
noncomputable def slOf(o:Option Obj)(i:Nat):Option Value:=match o with
 |some o=>(o.slots.toList[i]?).getD none
 |none=>none
noncomputable def dcOf(o:Option Obj):Option Addr:=match o with
 |some o=>o.dict
 |none=>none
noncomputable def lsReb(o:Option Obj):Obj:=excClassObj (cdOf o).name (cdOf o).qualname lsC (cdOf o).ns (cdOf o).bases bmE true (cdOf o).slotNames (cdOf o).subclasses (cdOf o).abstract (cdOf o).collection (dcOf o) (slOf o 0) (slOf o 1) (slOf o 2) (slOf o 3) (slOf o 5) "Exception.__new__"
noncomputable def rowAt(K:Frag)(r:FnRow):Bool:=fnAt K r.f r.ps r.vars r.us r.b
noncomputable def seenL(K:Frag):List (List Stmt)×Option Obj:=((t_ls_init::fnTab).map fun r=>bodyIn K r.f,K.lookup lsC)
noncomputable def seenR(K:Frag):List (List Stmt)×Option Obj:=((t_ls_init::fnTab).map fun r=>rebSs r.b r.vars (bodyIn K r.f),some (lsReb (K.lookup lsC)))
structure TX(K:Frag)(h0:Heap):Prop where
 G:Top' K h0
 LS:LsOK K
 F:fnTab.all (rowAt K)=true
 E:seenL K=seenR K
noncomputable def kokAt(K:Frag):Bool:=clss.all fun C=>clsOK K C&&(List.range 87).all fun k=>fldOK K C (fname k)
noncomputable def lsObj(K:Frag):Bool:=nsOkIn K (cdOf (K.lookup lsC)).ns&&nsIn K (cdOf (K.lookup lsC)).ns "__init__"==some (some (.ref 721))
noncomputable def lsIni(K:Frag):Bool:=fnAt K 721 lsPs lsPs [] b_ls_init&&(match fdOf K 721 with
 |some fd=>knd fd.scope sSelf .local&&(knd fd.scope sSym .local&&knd fd.scope sData .local)
 |none=>false)
noncomputable def lsAt(K:Frag):Bool:=((lsObj K&&lsIni K)&&((findIn K (.ref lsC) "__setattr__"==some (some (.builtin "object.__setattr__"))&&(findIn K (.ref lsC) "__getattribute__"==some (some (.builtin "BaseException.__getattribute__"))&&findIn K (.ref lsC) "__getattr__"==some none))&&
 (findIn K (.ref lsC) sSym==some none&&findIn K (.ref lsC) sData==some none)))&&((nsIn K mainGlobals "LispSignal"==some (some (.ref lsC))&&typeIn K (.ref 721)==some (.type "function"))&&keepIn K (.ref lsC))
noncomputable def lawAt(K:Frag):Bool:=nsIn K mainGlobals "law"==some (some (.ref 982))
noncomputable def allAt(K:Frag):Bool:=(kokAt K&&(lsAt K&&lawAt K))&&fnTab.all (rowAt K)
section
set_option maxRecDepth 1000000
set_option maxHeartbeats 0
noncomputable def hoA:Obj:={cls:=.type "tuple",data:=.seq #[]}
noncomputable def hoB:Obj:={cls:=.none,data:=.fields #[]}
noncomputable def hoC:Obj:={cls:=.type "code",data:=.fields #[.str (Str.ofString "<module>") 182,.str (Str.ofString "<module>") 183,.str (Str.ofString "/claim/cut.py") 184,.int 1 0,.int 0 0,.int 0 0,.int 0 0,.int 0 0,.ref 11,.bool false,.int 181 0,.ref 12,.none,.none,.none,.none,.int 185 0,.int 1 0,.str (Str.ofString "/claim/cut.py") 186]}
noncomputable def hoD:Obj:={cls:=.type "frame",slots:=#[some (.ref 13),some (.ref 3),some (.ref 3),none,some (.str (Str.ofString "__main__") 164),none,some (.ref 0)]}
noncomputable def tree0(P:Params):BT:=.node (boot_o_0 P) (.node (boot_o_1 P) (.node (boot_o_3 P) (.node (boot_o_7 P) .nil .nil) (.node hoA .nil .nil)) (.node (boot_o_5 P) (.node (boot_o_9 P) .nil .nil) (.node hoC .nil .nil)))
 (.node (boot_o_2 P) (.node (boot_o_4 P) (.node (boot_o_8 P) .nil .nil) (.node hoB .nil .nil)) (.node (boot_o_6 P) (.node (boot_o_10 P) .nil .nil) (.node hoD .nil .nil)))
noncomputable def env0:Env:={scope:=pw.main.scope,locals:=mainNs,globals:=mainNs,cells:=[],code:=.ref 13,frame:=some 14}
noncomputable def cd0:Code:=.body (behindTheImports pw) env0
noncomputable def pos0:Pos:=⟨0,0,0,0⟩
noncomputable def posE:Pos:=⟨695,0,719,15⟩
noncomputable def st0(w:World)(os:OsState):SharedT:=⟨tree0 w.params,15,{},#[],{},187,os⟩
noncomputable abbrev th0:Thread:=piecesOf (behindTheImports pw) env0 cd0 pos0 [topFrame pos0]
noncomputable abbrev annE:Option Value:=some (.ref 6)
noncomputable def S0(w:World)(os:OsState):Shared:=⟨boot_heap w.params,Array.mk [],boot_drawn,boot_toks,os⟩
noncomputable def thA:Thread:=⟨denote treeTable (.body (behindTheImports pw) env0),cd0,pos0,[topFrame pos0]⟩
theorem pre0:∀(w:World) (os:OsState),topGo treeTable pw w 11 annE 12 (S0 w os) (topStub pw)=some ((st0 w os).abs,thA):=fun w os=>by
 delta thA
 rw[Fast.te15667345088766844465,Fast.te11892475500146522536,Fast.te14364793385576792824];kernel_rfl
theorem blk0:∀(w:World) (os:OsState),segRun treeTable pw w 11 annE 1 1 (st0 w os).abs (blockOf (behindTheImports pw) env0 cd0 pos0 [topFrame pos0])=some (.next,(st0 w os).abs,cd0,pos0):=fun w os=>by
 rw[Fast.te14374325043358763698];kernel_rfl
theorem fin0(w:World)(s:Shared):topRun treeTable pw w 11 annE 2 s ⟨doneF .next,cd0,posE,[topFrame pos0]⟩=some s:=by rfl
theorem open0:∀w:World,(fencedOpening treeTable pw w 7000).map (fun s=>(s.heap,s.gens,s.drawn,s.toks))=some (boot_heap w.params,Array.mk [],boot_drawn,boot_toks):=boot_open (p:=pw) (N:=7000) (by kernel_rfl) (by rfl) (fun s=>by rfl)
theorem size0:∀w:World,((boot_heap w.params).isNs mainGlobals&&(Array.mk []:Array GenState).size==0,(boot_heap w.params).objs.size,(boot_heap w.params).nsMap mainGlobals "__annotations__")=(true,11,annE):=fun w=>by kernel_rfl
noncomputable def allA:List Addr:=(List.range 983).filter fun a=>(0x70e1c39c38739c39c3870e01a870a50e000370803c3c387870e1c3870e1c38701b800370a142870e1c3870e142870800dc3870a143870e000d42850e000350a140006a142870e1c3870e1c3800e1c3870e1c3806a1c38000dc3870e1c00728728700dc001b870e1c0006e1c3870a14287080e1438700dc2028000c).testBit a
noncomputable def fragT(t:BT)(as:List Addr):Frag:=as.filterMap fun a=>(t.get a).map (a,·)
noncomputable def aliveT(o:Option Obj):Bool:=match o with
 |some o=>(match o.data with|.freed=>false|_=>true)
 |none=>false
noncomputable def qv:Program:=view pw [87]
noncomputable def looseN:List Str:=(pw.main.scope.names.map (·.1)).filter fun n=> !(n==("law":Str))
noncomputable def mods0:List Str:=importedModules pw.main.body
theorem runA:∀(w:World) (os:OsState),(segRunT treeTable pw w 11 annE 1 6800 (st0 w os) th0).map (fun r=>((r.1,r.2.2.1,r.2.2.2),(staticsOk mods0 (boot_heap w.params) r.2.1.abs.heap&&namesBound pw r.2.1.abs.heap&&gensDone r.2.1.abs&&laidKept (boot_heap w.params) r.2.1.abs.heap),openSeen qv looseN mods0 (fun _=>true) true r.2.1.abs))=some ((Flow.next,cd0,posE),true,openGood qv looseN):=fun w os=>by
 rw[Fast.te10110043849684766642,Fast.te14364793385576792824,Fast.te4187177175401517315];kernel_rfl
theorem runB:∀(w:World) (os:OsState),(segRunT treeTable pw w 11 annE 1 6800 (st0 w os) th0).map (fun r=>fnTab.all (rowAt (fragT r.2.1.tree allA)))=some true:=fun w os=>by
 rw[Fast.te10110043849684766642,Fast.te14364793385576792824];kernel_rfl
theorem runD:∀(w:World) (os:OsState),(segRunT treeTable pw w 11 annE 1 6800 (st0 w os) th0).map (fun r=>seenL (fragT r.2.1.tree allA))=(segRunT treeTable pw w 11 annE 1 6800 (st0 w os) th0).map (fun r=>seenR (fragT r.2.1.tree allA)):=fun w os=>by
 rw[Fast.te10110043849684766642,Fast.te14364793385576792824];kernel_rfl
theorem runC:∀(w:World) (os:OsState),(segRunT treeTable pw w 11 annE 1 6800 (st0 w os) th0).map (fun r=>(kokAt (fragT r.2.1.tree allA)&&(lsAt (fragT r.2.1.tree allA)&&lawAt (fragT r.2.1.tree allA)))&&(sysModules::allA).all fun a=>decide (a< r.2.1.n)&&aliveT (r.2.1.tree.get a))=some true:=fun w os=>by
 rw[Fast.te10110043849684766642,Fast.te14364793385576792824];kernel_rfl
end
variable{n:Nat}{A:Around}{c:Cx}{M:Model}{env:Env}{X Y:Hp→Prop}{E' Post:Value→Shared→Prop}{Z:Addr→Prop}{H:Hp}{s:Shared}{l:Loc}{σ:Bs}{R:Hp}{a C dx:Addr}{fs:List (Nat×V)}{r:List Expr}{W dW:Addr}{v:Value}{ft:Addr}{op:CmpOp}{lo hi:Int}{p:Pos}{Q:V→Hp→Prop}{q:V→Prop}{P Z' Zr:Addr→Prop}{A0 A1 A2 A3 A4 A5 A6 A7 A8 A9 A10 A11 B:Prop}{b I L f lA aa sl rg rd dm gl dr mk md ms pot wl:Addr}{d k N kk kn tk nv g' m₀ k₀:Nat}{ρ:Nat→Int}{x cx sx:Str}{y u y0 y1 y2 y3 y4 here wy:V}{pes values elts ifs:List Expr}{xs us cs rows:List V}{ys G is T':List Int}{p' apos kp p'' py p3 tp cp cp2 sp sp2 pos' np hp pp:Pos}{m:Str→Option Value}{gs:List (Nat×V)}{wd i e z bv zv ct ge mm col reach st place m1 m2:Int}{l' l0:Loc}{h h' base h₂ h₃:Heap}{head vl vu kv mc:Value}{vs ws ops vs' ds:List Value}{H' D H₁:Hp}{o o' wk:AObj}{s₁ s':Shared}{outer fl:List Env}{oe oI:Obj}{ts:List (Bool×Sem Value)}{hadNext adv g0:Bool}{o₁ o₂ o₃:CmpOp}{ks:List Nat}{pa pb pd pe slice pt elt target iter it1 pv:Expr}{t tg:Tg}{plo phi:Option Expr}{es:List (Int×V)}{items:Array Value}{bb sa:Ss}{keys:List (Option Expr)}{pl:Sem Bool}{pbb pxs hs sts:List Stmt}{px h₀:Stmt}{fp as:List Addr}{St':Nat→Heap→Prop}{pts:List (Value→Sem Unit)}{fd:FuncData}{ps vars loose:List Str}{sc scope:Scope}{clos:List (Str×Addr)}{use:Option (Value→Sem Unit)}{cap:List (Option Nat)}{acc:List (Int×Int)}{It:Value→Heap→Prop}{wss:List (List Value)}{od:Option Obj}{q' XX Kk:Loc→Hp→Prop}{ql:List V→Prop}{x5 x4 x0 x1 x2 x3 x6 x7 x8 x9:Option V}{QQ:Fl→Loc→Hp→Prop}{x':RS}{ss:List (List (Int×Int))}{Xt:Shared→Bool}{ann:Option Value}{H₀:Params→Heap}
theorem bc{p:Prop}(h:¬p→False):p:=Classical.byContradiction h
theorem sj{α:Type _}{a b:α}(h:some a=some b):a=b:=Option.some.inj h
theorem bl{a b:Nat}(h:Nat.ble a b=true):a≤b:=Nat.le_of_ble_eq_true h
theorem xe1{T0:Sort _}{A:T0→Prop}{P:Prop}(h:∃x0,A x0)(k:∀x0,A x0→P):P:=h.elim k
theorem xe2{T0:Sort _}{T1:Sort _}{A:T0→T1→Prop}{P:Prop}(h:∃x0 x1,A x0 x1)(k:∀x0 x1,A x0 x1→P):P:=h.elim fun x0 h=>xe1 h (k x0)
theorem xe3{T0:Sort _}{T1:Sort _}{T2:Sort _}{A:T0→T1→T2→Prop}{P:Prop}(h:∃x0 x1 x2,A x0 x1 x2)(k:∀x0 x1 x2,A x0 x1 x2→P):P:=h.elim fun x0 h=>xe2 h (k x0)
theorem xe4{T0:Sort _}{T1:Sort _}{T2:Sort _}{T3:Sort _}{A:T0→T1→T2→T3→Prop}{P:Prop}(h:∃x0 x1 x2 x3,A x0 x1 x2 x3)(k:∀x0 x1 x2 x3,A x0 x1 x2 x3→P):P:=h.elim fun x0 h=>xe3 h (k x0)
theorem xe5{T0:Sort _}{T1:Sort _}{T2:Sort _}{T3:Sort _}{T4:Sort _}{A:T0→T1→T2→T3→T4→Prop}{P:Prop}(h:∃x0 x1 x2 x3 x4,A x0 x1 x2 x3 x4)(k:∀x0 x1 x2 x3 x4,A x0 x1 x2 x3 x4→P):P:=h.elim fun x0 h=>xe4 h (k x0)
theorem xe6{T0:Sort _}{T1:Sort _}{T2:Sort _}{T3:Sort _}{T4:Sort _}{T5:Sort _}{A:T0→T1→T2→T3→T4→T5→Prop}{P:Prop}(h:∃x0 x1 x2 x3 x4 x5,A x0 x1 x2 x3 x4 x5)(k:∀x0 x1 x2 x3 x4 x5,A x0 x1 x2 x3 x4 x5→P):P:=h.elim fun x0 h=>xe5 h (k x0)
theorem xe7{T0:Sort _}{T1:Sort _}{T2:Sort _}{T3:Sort _}{T4:Sort _}{T5:Sort _}{T6:Sort _}{A:T0→T1→T2→T3→T4→T5→T6→Prop}{P:Prop}(h:∃x0 x1 x2 x3 x4 x5 x6,A x0 x1 x2 x3 x4 x5 x6)(k:∀x0 x1 x2 x3 x4 x5 x6,A x0 x1 x2 x3 x4 x5 x6→P):P:=h.elim fun x0 h=>xe6 h (k x0)
theorem xe8{T0:Sort _}{T1:Sort _}{T2:Sort _}{T3:Sort _}{T4:Sort _}{T5:Sort _}{T6:Sort _}{T7:Sort _}{A:T0→T1→T2→T3→T4→T5→T6→T7→Prop}{P:Prop}(h:∃x0 x1 x2 x3 x4 x5 x6 x7,A x0 x1 x2 x3 x4 x5 x6 x7)(k:∀x0 x1 x2 x3 x4 x5 x6 x7,A x0 x1 x2 x3 x4 x5 x6 x7→P):P:=h.elim fun x0 h=>xe7 h (k x0)
theorem xe9{T0:Sort _}{T1:Sort _}{T2:Sort _}{T3:Sort _}{T4:Sort _}{T5:Sort _}{T6:Sort _}{T7:Sort _}{T8:Sort _}{A:T0→T1→T2→T3→T4→T5→T6→T7→T8→Prop}{P:Prop}(h:∃x0 x1 x2 x3 x4 x5 x6 x7 x8,A x0 x1 x2 x3 x4 x5 x6 x7 x8)(k:∀x0 x1 x2 x3 x4 x5 x6 x7 x8,A x0 x1 x2 x3 x4 x5 x6 x7 x8→P):P:=h.elim fun x0 h=>xe8 h (k x0)
theorem xe10{T0:Sort _}{T1:Sort _}{T2:Sort _}{T3:Sort _}{T4:Sort _}{T5:Sort _}{T6:Sort _}{T7:Sort _}{T8:Sort _}{T9:Sort _}{A:T0→T1→T2→T3→T4→T5→T6→T7→T8→T9→Prop}{P:Prop}(h:∃x0 x1 x2 x3 x4 x5 x6 x7 x8 x9,A x0 x1 x2 x3 x4 x5 x6 x7 x8 x9)(k:∀x0 x1 x2 x3 x4 x5 x6 x7 x8 x9,A x0 x1 x2 x3 x4 x5 x6 x7 x8 x9→P):P:=h.elim fun x0 h=>xe9 h (k x0)
theorem xe11{T0:Sort _}{T1:Sort _}{T2:Sort _}{T3:Sort _}{T4:Sort _}{T5:Sort _}{T6:Sort _}{T7:Sort _}{T8:Sort _}{T9:Sort _}{T10:Sort _}{A:T0→T1→T2→T3→T4→T5→T6→T7→T8→T9→T10→Prop}{P:Prop}(h:∃x0 x1 x2 x3 x4 x5 x6 x7 x8 x9 x10,A x0 x1 x2 x3 x4 x5 x6 x7 x8 x9 x10)(k:∀x0 x1 x2 x3 x4 x5 x6 x7 x8 x9 x10,A x0 x1 x2 x3 x4 x5 x6 x7 x8 x9 x10→P):P:=h.elim fun x0 h=>xe10 h (k x0)
theorem xe12{T0:Sort _}{T1:Sort _}{T2:Sort _}{T3:Sort _}{T4:Sort _}{T5:Sort _}{T6:Sort _}{T7:Sort _}{T8:Sort _}{T9:Sort _}{T10:Sort _}{T11:Sort _}{A:T0→T1→T2→T3→T4→T5→T6→T7→T8→T9→T10→T11→Prop}{P:Prop}(h:∃x0 x1 x2 x3 x4 x5 x6 x7 x8 x9 x10 x11,A x0 x1 x2 x3 x4 x5 x6 x7 x8 x9 x10 x11)(k:∀x0 x1 x2 x3 x4 x5 x6 x7 x8 x9 x10 x11,A x0 x1 x2 x3 x4 x5 x6 x7 x8 x9 x10 x11→P):P:=h.elim fun x0 h=>xe11 h (k x0)
theorem xe13{T0:Sort _}{T1:Sort _}{T2:Sort _}{T3:Sort _}{T4:Sort _}{T5:Sort _}{T6:Sort _}{T7:Sort _}{T8:Sort _}{T9:Sort _}{T10:Sort _}{T11:Sort _}{T12:Sort _}{A:T0→T1→T2→T3→T4→T5→T6→T7→T8→T9→T10→T11→T12→Prop}{P:Prop}(h:∃x0 x1 x2 x3 x4 x5 x6 x7 x8 x9 x10 x11 x12,A x0 x1 x2 x3 x4 x5 x6 x7 x8 x9 x10 x11 x12)(k:∀x0 x1 x2 x3 x4 x5 x6 x7 x8 x9 x10 x11 x12,A x0 x1 x2 x3 x4 x5 x6 x7 x8 x9 x10 x11 x12→P):P:=h.elim fun x0 h=>xe12 h (k x0)
theorem xe14{T0:Sort _}{T1:Sort _}{T2:Sort _}{T3:Sort _}{T4:Sort _}{T5:Sort _}{T6:Sort _}{T7:Sort _}{T8:Sort _}{T9:Sort _}{T10:Sort _}{T11:Sort _}{T12:Sort _}{T13:Sort _}{A:T0→T1→T2→T3→T4→T5→T6→T7→T8→T9→T10→T11→T12→T13→Prop}{P:Prop}(h:∃x0 x1 x2 x3 x4 x5 x6 x7 x8 x9 x10 x11 x12 x13,A x0 x1 x2 x3 x4 x5 x6 x7 x8 x9 x10 x11 x12 x13)(k:∀x0 x1 x2 x3 x4 x5 x6 x7 x8 x9 x10 x11 x12 x13,A x0 x1 x2 x3 x4 x5 x6 x7 x8 x9 x10 x11 x12 x13→P):P:=h.elim fun x0 h=>xe13 h (k x0)
theorem xa2{P:Prop}(h:A0∧A1)(k:A0→A1→P):P:=k h.1 h.2
theorem xa3{P:Prop}(h:A0∧A1∧A2)(k:A0→A1→A2→P):P:=xa2 h.2 (k h.1)
theorem xa4{P:Prop}(h:A0∧A1∧A2∧A3)(k:A0→A1→A2→A3→P):P:=xa3 h.2 (k h.1)
theorem xa5{P:Prop}(h:A0∧A1∧A2∧A3∧A4)(k:A0→A1→A2→A3→A4→P):P:=xa4 h.2 (k h.1)
theorem xa6{P:Prop}(h:A0∧A1∧A2∧A3∧A4∧A5)(k:A0→A1→A2→A3→A4→A5→P):P:=xa5 h.2 (k h.1)
theorem xa7{P:Prop}(h:A0∧A1∧A2∧A3∧A4∧A5∧A6)(k:A0→A1→A2→A3→A4→A5→A6→P):P:=xa6 h.2 (k h.1)
theorem xa8{P:Prop}(h:A0∧A1∧A2∧A3∧A4∧A5∧A6∧A7)(k:A0→A1→A2→A3→A4→A5→A6→A7→P):P:=xa7 h.2 (k h.1)
theorem xa9{P:Prop}(h:A0∧A1∧A2∧A3∧A4∧A5∧A6∧A7∧A8)(k:A0→A1→A2→A3→A4→A5→A6→A7→A8→P):P:=xa8 h.2 (k h.1)
theorem xa10{P:Prop}(h:A0∧A1∧A2∧A3∧A4∧A5∧A6∧A7∧A8∧A9)(k:A0→A1→A2→A3→A4→A5→A6→A7→A8→A9→P):P:=xa9 h.2 (k h.1)
theorem xa11{P:Prop}(h:A0∧A1∧A2∧A3∧A4∧A5∧A6∧A7∧A8∧A9∧A10)(k:A0→A1→A2→A3→A4→A5→A6→A7→A8→A9→A10→P):P:=xa10 h.2 (k h.1)
theorem xa12{P:Prop}(h:A0∧A1∧A2∧A3∧A4∧A5∧A6∧A7∧A8∧A9∧A10∧A11)(k:A0→A1→A2→A3→A4→A5→A6→A7→A8→A9→A10→A11→P):P:=xa11 h.2 (k h.1)
theorem xa13{A12 P:Prop}(h:A0∧A1∧A2∧A3∧A4∧A5∧A6∧A7∧A8∧A9∧A10∧A11∧A12)(k:A0→A1→A2→A3→A4→A5→A6→A7→A8→A9→A10→A11→A12→P):P:=xa12 h.2 (k h.1)
inductive NT where
 |v (k:Nat)|c (k:Nat)|a (x y:NT)|m (k:Nat) (x:NT)
inductive IT where
 |v (k:Nat)|c (k:Int)|a (x y:IT)|s (x y:IT)|g (x:IT)|n (x:NT)|m (k:Int) (x:IT)
inductive LF where
 |le (x y:IT)|eq (x y:IT)|nle (x y:NT)|neq (x y:NT)|no (f:LF)|or (f g:LF)|and (f g:LF)|ff
noncomputable def I0:IT:=.c 0
noncomputable def I1:IT:=.c 1
noncomputable def I2:IT:=.c 2
noncomputable def J0:IT:=.v 0
noncomputable def J1:IT:=.v 1
noncomputable def J2:IT:=.v 2
noncomputable def J3:IT:=.v 3
noncomputable def J4:IT:=.v 4
noncomputable def J5:IT:=.v 5
noncomputable def O0:NT:=.c 0
noncomputable def O1:NT:=.c 1
noncomputable def O2:NT:=.c 2
noncomputable def U0:NT:=.v 0
noncomputable def U1:NT:=.v 1
noncomputable def U2:NT:=.v 2
noncomputable def U3:NT:=.v 3
noncomputable def U4:NT:=.v 4
noncomputable def U5:NT:=.v 5
noncomputable def LF.sb(a b c:NT):LF:=.or (.and (.nle b a) (.neq (.a c b) a)) (.and (.nle a b) (.neq c (.c 0)))
noncomputable def LF.tn(x:IT)(n:NT):LF:=.or (.and (.le (.c 0) x) (.eq (.n n) x)) (.and (.le x (.c 0)) (.neq n (.c 0)))
noncomputable def LF.lt(a b:IT):LF:=.le (.a a (.c 1)) b
noncomputable def LF.nlt(a b:NT):LF:=.nle (.a a (.c 1)) b
noncomputable def LF.nmn(a b c:NT):LF:=.or (.and (.nle a b) (.neq c a)) (.and (.nle b a) (.neq c b))
noncomputable def LF.nmx(a b c:NT):LF:=.or (.and (.nle a b) (.neq c b)) (.and (.nle b a) (.neq c a))
noncomputable def LF.mn(a b c:IT):LF:=.or (.and (.le a b) (.eq c a)) (.and (.le b a) (.eq c b))
noncomputable def LF.mx(a b c:IT):LF:=.or (.and (.le a b) (.eq c b)) (.and (.le b a) (.eq c a))
noncomputable def LF.ok5(x:IT):LF:=.or (.eq x (.c 97)) (.or (.eq x (.c 98)) (.or (.eq x (.c 10)) (.or (.eq x (.c 32)) (.eq x (.c 1)))))
noncomputable def nthN:List Nat→Nat→Nat
 |[],_=>0
 |x::_,0=>x
 |_::r,k+1=>nthN r k
noncomputable def nthI:List Int→Nat→Int
 |[],_=>0
 |x::_,0=>x
 |_::r,k+1=>nthI r k
noncomputable def NT.den(N:List Nat):NT→Nat
 |.v k=>nthN N k
 |.c k=>k
 |.a x y=>x.den N+y.den N
 |.m k x=>k*x.den N
noncomputable def IT.den(I:List Int)(N:List Nat):IT→Int
 |.v k=>nthI I k
 |.c k=>k
 |.a x y=>x.den I N+y.den I N
 |.s x y=>x.den I N-y.den I N
 |.g x=> -x.den I N
 |.n x=>(x.den N:Int)
 |.m k x=>k*x.den I N
noncomputable def LF.den(I:List Int)(N:List Nat):LF→Prop
 |.le x y=>x.den I N≤y.den I N
 |.eq x y=>x.den I N=y.den I N
 |.nle x y=>x.den N≤y.den N
 |.neq x y=>x.den N=y.den N
 |.no f=>¬f.den I N
 |.or f g=>f.den I N∨g.den I N
 |.and f g=>f.den I N∧g.den I N
 |.ff=>False
structure Ln where
 l:List Int
 k:Int
noncomputable def lAdd:List Int→List Int→List Int
 |[],ys=>ys
 |x::xs,ys=>(match ys with|[]=>x::xs|y::ys=>(x+y)::lAdd xs ys)
noncomputable def lMul(k:Int):List Int→List Int
 |[]=>[]
 |x::xs=>(k*x)::lMul k xs
noncomputable def Ln.add(x y:Ln):Ln:=⟨lAdd x.l y.l,x.k+y.k⟩
noncomputable def Ln.mul(k:Int)(x:Ln):Ln:=⟨lMul k x.l,k*x.k⟩
noncomputable def unit:Nat→List Int
 |0=>[1]
 |k+1=>0::unit k
noncomputable def dbl:Nat→Nat
 |0=>0
 |k+1=>dbl k+2
noncomputable def NT.ln:NT→Ln
 |.v k=>⟨unit (dbl k),0⟩
 |.c k=>⟨[],k⟩
 |.a x y=>x.ln.add y.ln
 |.m k x=>x.ln.mul k
noncomputable def IT.ln:IT→Ln
 |.v k=>⟨unit (dbl k+1),0⟩
 |.c k=>⟨[],k⟩
 |.a x y=>x.ln.add y.ln
 |.s x y=>x.ln.add (y.ln.mul (-1))
 |.g x=>x.ln.mul (-1)
 |.n x=>x.ln
 |.m k x=>x.ln.mul k
noncomputable def dif(x y:Ln):Ln:=x.add (y.mul (-1))
noncomputable def dif1(x y:Ln):Ln:=(dif x y).add ⟨[],1⟩
noncomputable def prod(xs ys:List (List Ln)):List (List Ln):=xs.flatMap fun a=>ys.map fun b=>a++b
noncomputable def LF.pos:LF→Bool→List (List Ln)
 |.le x y,b=>(match b with|true=>[[dif x.ln y.ln]]|false=>[[dif1 y.ln x.ln]])
 |.eq x y,b=>(match b with|true=>[[dif x.ln y.ln,dif y.ln x.ln]]|false=>[[dif1 x.ln y.ln],[dif1 y.ln x.ln]])
 |.nle x y,b=>(match b with|true=>[[dif x.ln y.ln]]|false=>[[dif1 y.ln x.ln]])
 |.neq x y,b=>(match b with|true=>[[dif x.ln y.ln,dif y.ln x.ln]]|false=>[[dif1 x.ln y.ln],[dif1 y.ln x.ln]])
 |.no f,b=>f.pos (!b)
 |.or f g,b=>(match b with|true=>f.pos true++g.pos true|false=>prod (f.pos false) (g.pos false))
 |.and f g,b=>(match b with|true=>prod (f.pos true) (g.pos true)|false=>f.pos false++g.pos false)
 |.ff,b=>(match b with|true=>[]|false=>[[]])
noncomputable def hd0(c:Ln):Int:=match c.l with
 |[]=>0
 |x::_=>x
noncomputable def tl0(c:Ln):Ln:=⟨c.l.tail,c.k⟩
noncomputable def comb(p q:Ln):Ln:=((tl0 p).mul (-hd0 q)).add ((tl0 q).mul (hd0 p))
noncomputable def keep(c:Ln):Bool:=decide (0< c.k)||c.l.any fun x=> !decide (x=0)
noncomputable def fm:Nat→List Ln→Bool
 |0,cs=>cs.any fun c=>c.l.isEmpty&&decide (0< c.k)
 |n+1,cs=>fm n ((((cs.filter fun c=>decide (hd0 c=0)).map tl0)++(cs.filter fun c=>decide (0< hd0 c)).flatMap fun p=>(cs.filter fun c=>decide (hd0 c< 0)).map fun q=>comb p q).filter keep)
noncomputable def nns:Nat→List Ln
 |0=>[]
 |k+1=>⟨lMul (-1) (unit (dbl k)),0⟩::nns k
noncomputable def run(m:Nat)(cs:List Ln):List LF→Bool
 |[]=>fm (dbl m) cs
 |f::r=>(f.pos true).all fun a=>run m (a++cs) r
noncomputable def chk(m:Nat)(fs:List LF)(g:LF):Bool:=run m (nns m) (.no g::fs)
noncomputable def rho:List Int→List Nat→Nat→Int
 |_,N,0=>(nthN N 0:Int)
 |I,_,1=>nthI I 0
 |I,N,k+2=>rho I.tail N.tail k
noncomputable def ev(ρ:Nat→Int):List Int→Int
 |[]=>0
 |c::cs=>c*ρ 0+ev (fun j=>ρ (j+1)) cs
noncomputable def Ln.ev(ρ:Nat→Int)(x:Ln):Int:=Mine.ev ρ x.l+x.k
theorem aac{a b c d:Int}:(a+b)+(c+d)=(a+c)+(b+d):=by rw[Int.add_assoc,Int.add_left_comm b,←Int.add_assoc]
theorem lev_add:∀(xs ys:List Int) (ρ:Nat→Int),ev ρ (lAdd xs ys)=ev ρ xs+ev ρ ys
 |[],ys,ρ=>(Int.zero_add _).symm
 |x::xs,[],ρ=>(Int.add_zero _).symm
 |x::xs,y::ys,ρ=>by
  show(x+y)*ρ 0+ev _ (lAdd xs ys)=(x*ρ 0+ev _ xs)+(y*ρ 0+ev _ ys)
  rw[lev_add xs ys,Int.add_mul];exact aac
theorem lev_mul(k:Int):∀(xs:List Int) (ρ:Nat→Int),ev ρ (lMul k xs)=k*ev ρ xs
 |[],ρ=>(Int.mul_zero _).symm
 |x::xs,ρ=>by
  show(k*x)*ρ 0+ev _ (lMul k xs)=k*(x*ρ 0+ev _ xs)
  rw[lev_mul k xs,Int.mul_add,Int.mul_assoc]
section
variable{x y:Ln}{k:Int}{I:List Int}{N:List Nat}
theorem Ln.lev_add:(x.add y).ev ρ=x.ev ρ+y.ev ρ:=(congrArg (·+(x.k+y.k)) (Mine.lev_add x.l y.l ρ)).trans aac
theorem Ln.lev_mul:(x.mul k).ev ρ=k*x.ev ρ:=(congrArg (·+k*x.k) (Mine.lev_mul k x.l ρ)).trans (Int.mul_add _ _ _).symm
theorem lev_unit:∀(k:Nat) (ρ:Nat→Int),ev ρ (unit k)=ρ k
 |0,ρ=>(Int.add_zero _).trans (Int.one_mul _)
 |k+1,ρ=>(congrArg (·+ev (fun j=>ρ (j+1)) (unit k)) (Int.zero_mul _)).trans ((Int.zero_add _).trans (lev_unit k _))
theorem Ln.lev_unit{j:Nat}:Ln.ev ρ ⟨unit j,0⟩=ρ j:=(Int.add_zero _).trans (Mine.lev_unit j ρ)
theorem nthN_tl:∀(N:List Nat) (k:Nat),nthN N.tail k=nthN N (k+1)
 |[],_=>rfl
 |_::_,_=>rfl
theorem nthI_tl:∀(N:List Int) (k:Nat),nthI N.tail k=nthI N (k+1)
 |[],_=>rfl
 |_::_,_=>rfl
theorem rhoN:∀(k:Nat) (I:List Int) (N:List Nat),rho I N (dbl k)=(nthN N k:Int)
 |0,_,_=>rfl
 |k+1,I,N=>(rhoN k I.tail N.tail).trans (congrArg Nat.cast (nthN_tl N k))
theorem rhoI:∀(k:Nat) (I:List Int) (N:List Nat),rho I N (dbl k+1)=nthI I k
 |0,_,_=>rfl
 |k+1,I,N=>(rhoI k I.tail N.tail).trans (nthI_tl I k)
theorem NT.ln_ev:∀{x:NT},x.ln.ev (rho I N)=(x.den N:Int)
 |.v k=>Ln.lev_unit.trans (rhoN k I N)
 |.c k=>Int.zero_add _
 |.a x y=>Ln.lev_add.trans ((congr (congrArg HAdd.hAdd NT.ln_ev) NT.ln_ev).trans (Int.natCast_add _ _).symm)
 |.m k x=>Ln.lev_mul.trans ((congrArg _ NT.ln_ev).trans (Int.natCast_mul _ _).symm)
theorem neg1:x.ev ρ+(y.mul (-1)).ev ρ=x.ev ρ-y.ev ρ:=by rw[Ln.lev_mul,Int.neg_one_mul];rfl
theorem dif_ev:(dif x y).ev ρ=x.ev ρ-y.ev ρ:=Ln.lev_add.trans neg1
theorem IT.ln_ev:∀{x:IT},x.ln.ev (rho I N)=x.den I N
 |.v k=>Ln.lev_unit.trans (rhoI k I N)
 |.c k=>Int.zero_add _
 |.a x y=>Ln.lev_add.trans (congr (congrArg HAdd.hAdd IT.ln_ev) IT.ln_ev)
 |.s x y=>dif_ev.trans (congr (congrArg HSub.hSub IT.ln_ev) IT.ln_ev)
 |.g x=>Ln.lev_mul.trans ((Int.neg_one_mul _).trans (congrArg Neg.neg IT.ln_ev))
 |.n x=>NT.ln_ev
 |.m k x=>Ln.lev_mul.trans (congrArg _ IT.ln_ev)
theorem dif_le{a b:Int}(ha:x.ev ρ=a)(hb:y.ev ρ=b)(h:a≤b):(dif x y).ev ρ≤0:=by subst ha hb;rw[dif_ev];exact Int.sub_nonpos_of_le h
theorem dif1_le{a b:Int}(ha:x.ev ρ=a)(hb:y.ev ρ=b)(h:¬b≤a):(dif1 x y).ev ρ≤0:=by
 subst ha hb;delta dif1;rw[Ln.lev_add,dif_ev]
 exact Int.add_one_le_of_lt (Int.sub_neg_of_lt (Int.not_le.mp h))
noncomputable def Nq(ρ:Nat→Int)(cs:List Ln):Prop:=∀c∈cs,c.ev ρ≤0
theorem Nq.one(h:x.ev ρ≤0):Nq ρ [x]:=fun c hc=>List.mem_singleton.mp hc▸h
theorem Nq.two(h:x.ev ρ≤0)(g:y.ev ρ≤0):Nq ρ [x,y]:=fun c hc=>(List.mem_cons.mp hc).elim (fun e=>e▸h) (Nq.one g c)
theorem Nq.app{a b:List Ln}(h:Nq ρ a)(g:Nq ρ b):Nq ρ (a++b):=fun c hc=>(List.mem_append.mp hc).elim (h c) (g c)
theorem natN{a b:Nat}(h:a≤b):(a:Int)≤b:=Int.ofNat_le.mpr h
theorem no_both{a b:Int}(h:¬a=b)(k:b≤a):¬a≤b:=fun q=>h (Int.le_antisymm q k)
noncomputable def Som(ρ:Nat→Int)(xs:List (List Ln)):Prop:=∃a∈xs,Nq ρ a
theorem Som.hd{a:List Ln}{r:List (List Ln)}(h:Nq ρ a):Som ρ (a::r):=⟨a,.head _,h⟩
theorem Som.inl{xs ys:List (List Ln)}:Som ρ xs→Som ρ (xs++ys):=fun⟨a,h,k⟩=>⟨a,List.mem_append_left _ h,k⟩
theorem Som.inr{xs ys:List (List Ln)}:Som ρ ys→Som ρ (xs++ys):=fun⟨a,h,k⟩=>⟨a,List.mem_append_right _ h,k⟩
theorem Som.prod{xs ys:List (List Ln)}:Som ρ xs→Som ρ ys→Som ρ (prod xs ys):=fun⟨a,h,k⟩ ⟨b,h',k'⟩=>⟨a++b,List.mem_flatMap.mpr ⟨a,h,List.mem_map.mpr ⟨b,h',rfl⟩⟩,k.app k'⟩
theorem le_som{a b:Int}(hx:x.ev ρ=a)(hy:y.ev ρ=b):(a≤b→Som ρ [[dif x y]])∧(¬a≤b→Som ρ [[dif1 y x]]):=
 ⟨fun h=>.hd (.one (dif_le hx hy h)),fun h=>.hd (.one (dif1_le hy hx h))⟩
theorem eq_som{a b:Int}(hx:x.ev ρ=a)(hy:y.ev ρ=b):(a=b→Som ρ [[dif x y,dif y x]])∧(¬a=b→Som ρ [[dif1 x y],[dif1 y x]]):=
 ⟨fun h=>.hd (.two (dif_le hx hy (Int.le_of_eq h)) (dif_le hy hx (Int.le_of_eq h.symm))),fun h=>(Classical.em (a≤b)).elim
  (fun q=>.hd (.one (dif1_le hx hy (no_both (fun e=>h e.symm) q)))) fun q=>.inr (xs:=[_]) (.hd (.one (dif1_le hy hx q)))⟩
theorem LF.pos_ok:∀(f:LF),(f.den I N→Som (rho I N) (f.pos true))∧(¬f.den I N→Som (rho I N) (f.pos false))
 |.le x y=>le_som IT.ln_ev IT.ln_ev
 |.eq x y=>eq_som IT.ln_ev IT.ln_ev
 |.nle x y=>⟨fun h=>(le_som NT.ln_ev NT.ln_ev).1 (natN h),fun h=>(le_som NT.ln_ev NT.ln_ev).2 fun q=>h (Int.ofNat_le.mp q)⟩
 |.neq x y=>⟨fun h=>(eq_som NT.ln_ev NT.ln_ev).1 (congrArg Nat.cast h),fun h=>(eq_som NT.ln_ev NT.ln_ev).2 fun q=>h (Int.ofNat_inj.mp q)⟩
 |.no f=>⟨(pos_ok f).2,fun h=>(pos_ok f).1 (Classical.not_not.mp h)⟩
 |.or f g=>⟨fun h=>h.elim (fun q=>((pos_ok f).1 q).inl) fun q=>((pos_ok g).1 q).inr,fun h=>((pos_ok f).2 fun q=>h (.inl q)).prod ((pos_ok g).2 fun q=>h (.inr q))⟩
 |.and f g=>⟨fun h=>((pos_ok f).1 h.1).prod ((pos_ok g).1 h.2),fun h=>(Classical.em (f.den I N)).elim (fun q=>((pos_ok g).2 fun p=>h ⟨q,p⟩).inr) fun q=>((pos_ok f).2 q).inl⟩
 |.ff=>⟨False.elim,fun _=>.hd fun c hc=>nomatch hc⟩
theorem hd_tl:∀{c:Ln},c.ev ρ=hd0 c*ρ 0+(tl0 c).ev (fun j=>ρ (j+1))
 |⟨[],k⟩=>by show 0+k=0*ρ 0+(0+k);rw[Int.zero_mul,Int.zero_add,Int.zero_add]
 |⟨x::xs,k⟩=>Int.add_assoc _ _ _
theorem comb_ok{p q:Ln}(hp:0< hd0 p)(hq:hd0 q< 0)(h1:p.ev ρ≤0)(h2:q.ev ρ≤0):(comb p q).ev (fun j=>ρ (j+1))≤0:=by
 rw[hd_tl] at h1 h2
 delta comb;rw[Ln.lev_add,Ln.lev_mul,Ln.lev_mul]
 have a1:=Int.mul_nonpos_of_nonneg_of_nonpos (Int.neg_nonneg_of_nonpos (Int.le_of_lt hq)) h1
 have a2:=Int.mul_nonpos_of_nonneg_of_nonpos (Int.le_of_lt hp) h2
 rw[Int.mul_add] at a1 a2
 have a3:=Int.add_nonpos a1 a2
 rw[aac] at a3
 have e:(-hd0 q)*(hd0 p*ρ 0)+hd0 p*(hd0 q*ρ 0)=0:=by
  rw[Int.neg_mul,Int.mul_left_comm,Int.add_left_neg]
 rw[e,Int.zero_add] at a3;exact a3
theorem fm_ok:∀{n:Nat} {cs:List Ln} {ρ:Nat→Int},fm n cs=true→Nq ρ cs→False
 |0,cs,ρ,h,hc=>by
  obtain⟨⟨l,k⟩,h1,h2⟩:=List.any_eq_true.mp h
  have h3:=(Bool.and_eq_true_iff.mp h2)
  have e:l=[]:=List.isEmpty_iff.mp h3.1
  subst e
  exact absurd (Int.le_trans (Int.le_of_eq (Int.zero_add k).symm) (hc _ h1)) (Int.not_le.mpr (of_decide_eq_true h3.2))
 |n+1,cs,ρ,h,hc=>by
  refine fm_ok (n:=n) (ρ:=fun j=>ρ (j+1)) h fun c hm=>?_
  refine(List.mem_append.mp (List.mem_filter.mp hm).1).elim (fun hm=>?_) fun hm=>?_
  ·refine xe1 (List.mem_map.mp hm) ?_
   intro d qz1
   refine xa2 qz1 ?_
   clear qz1
   rintro h1 rfl
   have h2:=List.mem_filter.mp h1
   have:=hc d h2.1
   rw[hd_tl,of_decide_eq_true h2.2,Int.zero_mul,Int.zero_add] at this
   exact this
  ·refine xe1 (List.mem_flatMap.mp hm) ?_
   intro p qz2
   refine xa2 qz2 ?_
   clear qz2
   rintro h1 hm
   refine xe1 (List.mem_map.mp hm) ?_
   intro q qz3
   refine xa2 qz3 ?_
   clear qz3
   rintro h4 rfl
   have h2:=List.mem_filter.mp h1
   have h5:=List.mem_filter.mp h4
   exact comb_ok (of_decide_eq_true h2.2) (of_decide_eq_true h5.2) (hc p h2.1) (hc q h5.1)
theorem nns_ok:∀{m:Nat},Nq (rho I N) (nns m)
 |0,c,h=>nomatch h
 |m+1,c,h=>(List.mem_cons.mp h).elim (fun e=>by
   subst e
   refine Int.le_trans (Int.le_of_eq ((Int.add_zero _).trans ((lev_mul (-1) _ _).trans ((Int.neg_one_mul _).trans (congrArg Neg.neg ((lev_unit _ _).trans (rhoN m I N))))))) ?_
   exact Int.neg_nonpos_of_nonneg (Int.natCast_nonneg _)) fun h=>nns_ok c h
noncomputable def Hs(I:List Int)(N:List Nat):List LF→Prop
 |[]=>True
 |f::r=>f.den I N∧Hs I N r
theorem run_ok{m:Nat}:∀{fs:List LF} {cs:List Ln},run m cs fs=true→Nq (rho I N) cs→Hs I N fs→False
 |[],cs,h,hc,_=>fm_ok h hc
 |f::r,cs,h,hc,hf=>match(LF.pos_ok f).1 hf.1 with
  |⟨a,h1,h2⟩=>run_ok (List.all_eq_true.mp h a h1) (h2.app hc) hf.2
theorem chk_ok{m:Nat}{fs:List LF}{g:LF}(h:true=chk m fs g)(hf:Hs I N fs):g.den I N:=
 bc fun hg=>run_ok h.symm nns_ok ⟨hg,hf⟩
end
section
variable(m:Nat)(I:List Int)(N:List Nat)
theorem li0(g:LF)(k:true=chk m [] g):g.den I N:=chk_ok k trivial
theorem li1(a g:LF)(k:true=chk m [a] g)(ha:a.den I N):g.den I N:=chk_ok k ⟨ha,trivial⟩
theorem li2(a b g:LF)(k:true=chk m [a,b] g)(ha:a.den I N)(hb:b.den I N):g.den I N:=chk_ok k ⟨ha,hb,trivial⟩
theorem li3(a b c g:LF)(k:true=chk m [a,b,c] g)(ha:a.den I N)(hb:b.den I N)(hc:c.den I N):g.den I N:=chk_ok k ⟨ha,hb,hc,trivial⟩
theorem li4(a b c d g:LF)(k:true=chk m [a,b,c,d] g)(ha:a.den I N)(hb:b.den I N)(hc:c.den I N)(hd:d.den I N):g.den I N:=chk_ok k ⟨ha,hb,hc,hd,trivial⟩
theorem li5(a b c d e g:LF)(k:true=chk m [a,b,c,d,e] g)(ha:a.den I N)(hb:b.den I N)(hc:c.den I N)(hd:d.den I N)(he:e.den I N):g.den I N:=chk_ok k ⟨ha,hb,hc,hd,he,trivial⟩
theorem li6(a b c d e f g:LF)(k:true=chk m [a,b,c,d,e,f] g)(ha:a.den I N)(hb:b.den I N)(hc:c.den I N)(hd:d.den I N)(he:e.den I N)(hf:f.den I N):g.den I N:=chk_ok k ⟨ha,hb,hc,hd,he,hf,trivial⟩
theorem li7(a b c d e f f' g:LF)(k:true=chk m [a,b,c,d,e,f,f'] g)(ha:a.den I N)(hb:b.den I N)(hc:c.den I N)(hd:d.den I N)(he:e.den I N)(hf:f.den I N)(hf':f'.den I N):g.den I N:=chk_ok k ⟨ha,hb,hc,hd,he,hf,hf',trivial⟩
theorem li8(a b c d e f f' f'' g:LF)(k:true=chk m [a,b,c,d,e,f,f',f''] g)(ha:a.den I N)(hb:b.den I N)(hc:c.den I N)(hd:d.den I N)(he:e.den I N)(hf:f.den I N)(hf':f'.den I N)(hf'':f''.den I N):g.den I N:=chk_ok k ⟨ha,hb,hc,hd,he,hf,hf',hf'',trivial⟩
end
theorem tn(x:Int):(0≤x∧(x.toNat:Int)=x)∨(x≤0∧x.toNat=0):=(Int.le_total 0 x).elim (fun h=>.inl ⟨h,Int.toNat_of_nonneg h⟩) fun h=>.inr ⟨h,Int.toNat_of_nonpos h⟩
theorem ns(a b:Nat):(b≤a∧a-b+b=a)∨(a≤b∧a-b=0):=(Nat.le_total b a).elim (fun h=>.inl ⟨h,Nat.sub_add_cancel h⟩) fun h=>.inr ⟨h,Nat.sub_eq_zero_of_le h⟩
theorem mN(a b:Nat):(a≤b∧min a b=a)∨(b≤a∧min a b=b):=(Nat.le_total a b).elim (fun h=>.inl ⟨h,Nat.min_eq_left h⟩) fun h=>.inr ⟨h,Nat.min_eq_right h⟩
theorem mI(a b:Int):(a≤b∧min a b=a)∨(b≤a∧min a b=b):=(Int.le_total a b).elim (fun h=>.inl ⟨h,Int.min_eq_left h⟩) fun h=>.inr ⟨h,Int.min_eq_right h⟩
theorem xN(a b:Nat):(a≤b∧max a b=b)∨(b≤a∧max a b=a):=(Nat.le_total a b).elim (fun h=>.inl ⟨h,Nat.max_eq_right h⟩) fun h=>.inr ⟨h,Nat.max_eq_left h⟩
theorem xI(a b:Int):(a≤b∧max a b=b)∨(b≤a∧max a b=a):=(Int.le_total a b).elim (fun h=>.inl ⟨h,Int.max_eq_right h⟩) fun h=>.inr ⟨h,Int.max_eq_left h⟩
theorem lv{m:Nat}(h:m≤n)(hk:Nat.ble (k+2) m=true):k≤n-2:=Nat.le_sub_of_add_le (Nat.le_trans (bl hk) h)
theorem lv0{m:Nat}(h:m≤n)(hk:Nat.ble k m=true):k≤n:=Nat.le_trans (bl hk) h
theorem lv2{m:Nat}(h:m≤n)(hk:Nat.ble (k+4) m=true):k≤n-2-2:=Nat.le_sub_of_add_le (Nat.le_sub_of_add_le (Nat.le_trans (bl hk) h))
theorem a_ite{a b:Nat}{p:Prop}[Decidable p](h:a≤if p then b else b+1):a≤b+1:=by
 split at h
 ·exact Nat.le_succ_of_le h
 ·exact h
theorem a_ite'{a b:Nat}{p:Prop}[Decidable p](h:a≤b):a≤if p then b else b+1:=by
 split
 ·exact h
 ·exact Nat.le_succ_of_le h
theorem a_cut{a b:Nat}(h:wd≤100):min (wd-1).toNat a+min ((wd-1).toNat-a) b≤100000:=
 have q:(wd-1).toNat≤50000:=Int.toNat_le.mpr (Int.le_trans (Int.sub_le_self wd (by decide)) (Int.le_trans h (by decide)))
 Nat.add_le_add (Nat.le_trans (Nat.min_le_left _ _) q) (Nat.le_trans (Nat.min_le_left _ _) (Nat.le_trans (Nat.sub_le _ _) q))
theorem a_mvh{l h v:Nat}(h1:l≤h):min l v+(v-h)≤v:=
 (Nat.le_total h v).elim (fun q=>Nat.le_trans (Nat.add_le_add_right (Nat.le_trans (Nat.min_le_left l v) h1) _) (Nat.le_of_eq (Nat.add_sub_cancel' q))) fun q=>by rw[Nat.sub_eq_zero_of_le q];exact Nat.min_le_right l v
theorem a_slc{l h v w:Nat}(h1:l≤h)(hv:v≤100000)(hw:w≤100000):min l v+(w+(v-h))≤200001:=
 Nat.le_trans (Nat.le_of_eq (Nat.add_left_comm _ _ _)) (Nat.le_trans (Nat.add_le_add hw (Nat.le_trans (a_mvh h1) hv)) (bl rfl))
theorem a_miss{p v:Nat}(h:p≤v+d):p-(d-(d-p))≤v:=
 (Nat.le_total p d).elim (fun q=>by rw[Nat.sub_sub_self q,Nat.sub_self];exact Nat.zero_le _) fun q=>by rw[Nat.sub_eq_zero_of_le q,Nat.sub_zero];exact Nat.sub_le_iff_le_add.mpr h
theorem a_nb{b:Int}(h:b.natAbs≤2^40):-2^64< b∧b< 2^64:=
 have q:(b.natAbs:Int)< 2^64:=Int.lt_of_le_of_lt (Int.ofNat_le.mpr h) (by decide)
 ⟨Int.neg_lt_of_neg_lt (Int.lt_of_le_of_lt (by rw[←Int.natAbs_neg];exact Int.le_natAbs) q),Int.lt_of_le_of_lt Int.le_natAbs q⟩
theorem a_abs(i:Int):(if i< 0 then-i else i)=(i.natAbs:Int):=by
 by_cases h:i< 0
 ·rw[if_pos h];exact(Int.ofNat_natAbs_of_nonpos (Int.le_of_lt h)).symm
 ·rw[if_neg h];exact(Int.natAbs_of_nonneg (Int.not_lt.mp h)).symm
theorem a_tn{x y:Int}(h:x< y):y-x-1+1=((y-x).toNat:Int):=by rw[Int.sub_add_cancel];exact(Int.toNat_of_nonneg (Int.sub_nonneg_of_le (Int.le_of_lt h))).symm
theorem a_t0{x y:Int}(h:¬x< y):0=((y-x).toNat:Int):=by rw[Int.toNat_of_nonpos (Int.sub_nonpos_of_le (Int.not_lt.mp h))];rfl
theorem a_del{a b g G:Nat}(h1:a≤g)(h2:g≤b):g-a+G+(b-g)=G+(b-a):=by
 refine bc fun ng=>?_
 refine xe1 (Nat.exists_eq_add_of_le h1) ?_
 rintro x rfl
 refine xe1 (Nat.exists_eq_add_of_le h2) ?_
 rintro y rfl
 refine ng ?_
 rw[Nat.add_sub_cancel_left,Nat.add_sub_cancel_left,Nat.add_assoc a x y,Nat.add_sub_cancel_left,Nat.add_comm x G,Nat.add_assoc]
theorem a_ad{a:Nat}(G t y:Nat):a+t+(G+d)+y=a+d+t+G+y:=by rw[←Nat.add_assoc (a+t) G d,Nat.add_right_comm (a+t) G d,Nat.add_right_comm a t d]
theorem a_sum{a b T G y c g:Nat}(hab:a≤b)(hb:b≤T)(lc:c=a+(T-b))(hG:g=G+(b-a))(hl:T+G+y≤N):c+g+y≤N:=by
 refine bc fun ng=>?_
 refine xe1 (Nat.exists_eq_add_of_le hab) ?_
 rintro d rfl
 refine xe1 (Nat.exists_eq_add_of_le hb) ?_
 rintro t rfl
 refine ng ?_
 rw[lc,hG,Nat.add_sub_cancel_left,Nat.add_sub_cancel_left,a_ad];exact hl
theorem a_ed{a b T G y c g:Nat}(hab:a≤b)(hb:b≤T)(hy:y≤3)(lc:c=a+y+(T-b))(hG:g≤G+(b-a)+4)(hl:T+G≤N):c+g≤N+10:=
 have q:c+(G+(b-a))≤N+y:=by
  have:=a_sum (y:=y) hab hb (c:=a+(T-b)) rfl rfl (Nat.add_le_add_right hl y)
  rw[lc,Nat.add_right_comm a y,Nat.add_right_comm];exact this
 Nat.le_trans (Nat.add_le_add_left hG c) (Nat.le_trans (Nat.add_le_add_right q 4) (Nat.le_trans (Nat.add_le_add_right (Nat.add_le_add_left hy N) 4) (Nat.add_le_add_left (bl rfl:3+4≤10) N)))
theorem a_mil{a b T y:Nat}(hT:T≤5000)(hy:y≤3):min a T+y+(T-b)≤1000000:=
 Nat.le_trans (Nat.add_le_add (Nat.add_le_add (Nat.le_trans (Nat.min_le_right _ _) hT) hy) (Nat.le_trans (Nat.sub_le _ _) hT)) (bl rfl)
theorem a_pos{p b:Int}(h:p< b)(k:0=(b-p).toNat):False:=absurd (Int.le_of_sub_nonpos (Int.toNat_eq_zero.mp k.symm)) (Int.not_le.mpr h)
theorem a_na{r:Int}(h2:0≤r)(h3:r≤100000):r.natAbs≤2^40:=by
 have:(r.natAbs:Int)≤100000:=by rw[Int.natAbs_of_nonneg h2];exact h3
 exact Nat.le_trans (Int.ofNat_le.mp this) (by decide)
noncomputable def Bad(p:World×Heap×Frag):Prop:=TX p.2.2 p.2.1∧∃is:List Int,is.length≤63∧¬Fn p.1 p.2.1 100 982 [.scr is] (fun _=>none) (fun v _=>v=.bool true) (fun _=>False)
theorem some_w:Nonempty (World×Heap×Frag):=⟨⟨{draws:=fun _ _=>0,params:={strHash:=fun _=>0,shareClass:=fun _=>0,mergeTok:=id,idOf:=fun _=>0,idOfShared:=fun _ _=>0,followText:=fun _=>false,idOfImm:=fun _=>0}},default,[]⟩⟩
@[irreducible] noncomputable def w:World:=(@Classical.epsilon _ some_w Bad).1
@[irreducible] noncomputable def h0:Heap:=(@Classical.epsilon _ some_w Bad).2.1
@[irreducible] noncomputable def K:Frag:=(@Classical.epsilon _ some_w Bad).2.2
theorem fnames_nodup:fnames.Nodup:=by decide+kernel
theorem fnames_short:∀s∈fnames,s.cps.size< 100:=by decide+kernel
theorem fname_inj{i j:Nat}(h:fname i=fname j):i=j:=by
 delta fname at h
 split at h
 ·rename_i s hs
  split at h
  ·rename_i t ht
   subst h
   have hi:=(List.getElem?_eq_some_iff.mp hs)
   have hj:=(List.getElem?_eq_some_iff.mp ht)
   refine bc fun ng=>?_
   refine xe1 (hi) ?_
   try clear hi
   rintro hi ei
   refine xe1 (hj) ?_
   try clear hj
   rintro hj ej
   refine ng ?_
   exact(List.getElem_inj fnames_nodup).mp (ei.trans ej.symm)
  ·have:=fnames_short s (List.mem_of_getElem? hs)
   rw[h] at this;simp at this;(exact li1 2 [] [_,_] (.nlt (.a U0 (.c 100)) (.c 100)) (.neq U1 U0) rfl this)
 ·split at h
  ·rename_i t ht
   have:=fnames_short t (List.mem_of_getElem? ht)
   rw[←h] at this;simp at this;(exact li1 2 [] [_,_] (.nlt (.a U0 (.c 100)) (.c 100)) (.neq U0 U1) rfl this)
  ·have:=congrArg (fun s:Str=>s.cps.size) h
   simp at this;(exact li1 2 [] [_,_] (.neq U0 U1) (.neq U0 U1) rfl this)
theorem nope1{α:Type}{a:α}{P:Prop}(h:(none:Option α)=some a):P:=(noConfusion_of_Nat Option.ctorIdx h:False).elim
theorem nope2{α:Type}{a:α}{P:Prop}(h:some a=(none:Option α)):P:=(noConfusion_of_Nat Option.ctorIdx h:False).elim
theorem nope3{P:Prop}(h:false=true):P:=absurd h Bool.false_ne_true
theorem nope4{P:Prop}(h:true=false):P:=absurd h.symm Bool.false_ne_true
noncomputable def Hp.set(H:Hp)(a:Addr)(o:AObj):Hp:=fun b=>if b=a then some o else H b
theorem Hp.set_self(H:Hp)(a:Addr)(o:AObj):(H.set a o) a=some o:=if_pos rfl
theorem Hp.set_ne(H:Hp)(o:AObj)(h:b≠a):(H.set a o) b=H b:=if_neg h
noncomputable def Agr(P:Addr→Prop)(h h':Heap):Prop:=∀b o,P b→h.get? b=some o→h'.get? b=some o
theorem Agr.refl(P:Addr→Prop)(h:Heap):Agr P h h:=fun _ _ _ e=>e
theorem Agr.list(g:Agr P h h'){vs:Array Value}(hp:P a)(x:h.PlainList a vs):h'.PlainList a vs:=let⟨n,ho⟩:=x;⟨n,g a _ hp ho⟩
theorem Agr.tuple(g:Agr P h h'){vs:Array Value}(hp:P a)(x:h.IsTuple a vs):h'.IsTuple a vs:=let⟨o,ho,r⟩:=x;⟨o,g a o hp ho,r⟩
theorem Agr.inst(g:Agr P h h')(hp:P a)(x:IsInst h a C dx):IsInst h' a C dx:=g a _ hp x
theorem Agr.ns(g:Agr P h h')(hp:P a)(x:h.Ns a m):h'.Ns a m:=let⟨o,es,ep,ho,r⟩:=x;⟨o,es,ep,g a o hp ho,r⟩
theorem RV.mono{P':Addr→Prop}(g:Agr P h h')(hP:∀b,P b→(∃o,h.get? b=some o)→P' b){x:V}(r:RV h P v x):RV h' P' v x:=by
 induction r with
 |none=>exact .none
 |bool b=>exact .bool b
 |int i t=>exact .int i t
 |str x t=>exact .str x t
 |ref a=>exact .ref a
 |opq v=>exact .opq v
 |tup hp ht hl _ ih=>exact .tup (hP _ hp (let⟨o,ho,_⟩:=ht;⟨o,ho⟩)) (g.tuple hp ht) hl ih
 |lst hp ht hl _ ih=>exact .lst (hP _ hp (let⟨_,ho⟩:=ht;⟨_,ho⟩)) (g.list hp ht) hl ih
 |scr hp ht hl hv=>exact .scr (hP _ hp (let⟨o,ho,_⟩:=ht;⟨o,ho⟩)) (let⟨o,ho,r⟩:=ht;⟨o,g _ _ hp ho,r⟩) hl hv
 |exc hp hq ho hc hnc hd hn hm=>exact .exc (hP _ hp ⟨_,ho⟩) (hP _ hq (let⟨o,_,_,ho,_⟩:=hn;⟨o,ho⟩)) (g _ _ hp ho) hc hnc hd (g.ns hq hn) hm
 |obj hp hq hC hi hn hm _ hx ih=>exact .obj (hP _ hp ⟨_,hi⟩) (hP _ hq (let⟨o,_,_,ho,_⟩:=hn;⟨o,ho⟩)) hC (g.inst hp hi) (g.ns hq hn) hm ih hx
theorem RVs.mono{P':Addr→Prop}(g:Agr P h h')(hP:∀b,P b→(∃o,h.get? b=some o)→P' b)(r:RVs h P vs xs):RVs h' P' vs xs:=
 ⟨r.1,fun i v x hv hx=>(r.2 i v x hv hx).mono g hP⟩
theorem RVs.nil:RVs h P [] []:=⟨rfl,fun i v x hv _=>by simp at hv⟩
theorem RVs.cons{x:V}(a:RV h P v x)(r:RVs h P vs xs):RVs h P (v::vs) (x::xs):=by
 refine⟨by simp[r.1],fun i w y hw hy=>?_⟩
 cases i with
 |zero=>simp at hw hy;subst hw;subst hy;exact a
 |succ i=>simp at hw hy;exact r.2 i w y hw hy
theorem RVs.uncons{x:V}(r:RVs h P vs (x::xs)):∃v vs',vs=v::vs'∧RV h P v x∧RVs h P vs' xs:=by
 cases vs with
 |nil=>have:=r.1;simp at this
 |cons v vs'=>
  refine⟨v,vs',rfl,r.2 0 v x rfl rfl,by have:=r.1;simp at this;exact this,fun i w y hw hy=>r.2 (i+1) w y (by simpa using hw) (by simpa using hy)⟩
theorem RVs.unnil(r:RVs h P vs []):vs=[]:=by
 have:=r.1;simpa using this
theorem RVs.append{ys:List V}(r:RVs h P vs xs)(q:RVs h P ws ys):RVs h P (vs++ws) (xs++ys):=by
 induction xs generalizing vs with
 |nil=>rw[r.unnil];exact q
 |cons x xs ih=>
  refine bc fun ng=>?_
  refine xe2 (r.uncons) ?_
  intro v vs' qz4
  refine xa3 qz4 ?_
  clear qz4
  rintro rfl a r'
  refine ng ?_
  exact .cons a (ih r')
theorem RVs.get(r:RVs h P vs xs){i:Nat}{x:V}(hx:xs[i]? =some x):∃v,vs[i]? =some v∧RV h P v x:=by
 refine bc fun ng=>?_
 refine xe1 (List.getElem?_eq_some_iff.mp hx) ?_
 rintro hi _
 refine ng ?_
 have hv:i< vs.length:=by rw[r.1];exact hi
 exact⟨vs[i],List.getElem?_eq_getElem hv,r.2 i _ x (List.getElem?_eq_getElem hv) hx⟩
theorem RVs.take(r:RVs h P vs xs)(n:Nat):RVs h P (vs.take n) (xs.take n):=by
 refine⟨by simp[r.1],fun i v x hv hx=>?_⟩
 rw[List.getElem?_take] at hv hx
 split at hv
 ·rename_i hi;rw[if_pos hi] at hx;exact r.2 i v x hv hx
 ·exact nope1 hv
theorem RVs.drop(r:RVs h P vs xs)(n:Nat):RVs h P (vs.drop n) (xs.drop n):=by
 refine⟨by simp[r.1],fun i v x hv hx=>?_⟩
 rw[List.getElem?_drop] at hv hx
 exact r.2 _ v x hv hx
theorem FR.mono{P':Addr→Prop}(g:Agr P h h')(hP:∀b,P b→(∃o,h.get? b=some o)→P' b)(r:FR h P m fs):FR h' P' m fs:=
 ⟨fun k u hk=>let⟨v,a,b⟩:=r.hit k u hk;⟨v,a,b.mono g hP⟩,r.miss⟩
theorem RV.obj_iff:RV h P v (.obj C fs)↔∃a dx m,v=.ref a∧P a∧P dx∧C∈clss∧IsInst h a C dx∧h.Ns dx m∧FR h P m fs:=by
 constructor
 ·intro r
  cases r with
  |obj hp hq hC hi hn hm hv hx=>exact⟨_,_,_,rfl,hp,hq,hC,hi,hn,fun k u hk=>⟨_,hm k u hk,hv k u hk⟩,hx⟩
 ·rintro⟨a,dx,m,rfl,hp,hq,hC,hi,hn,r⟩
  have:∀k:Nat,∃v,∀u,look k fs=some u→m (fname k)=some v∧RV h P v u:=fun k=>by
   cases e:look k fs with
   |none=>exact⟨.none,fun u q=>by exact nope1 q⟩
   |some u=>obtain⟨v,a,b⟩:=r.hit k u e;exact⟨v,fun u' q=>by obtain rfl:=sj q;exact⟨a,b⟩⟩
  refine bc fun ng=>?_
  refine xe1 (Classical.axiomOfChoice this) ?_
  rintro val hval
  refine ng ?_
  exact .obj hp hq hC hi hn (fun k u hk=>(hval k u hk).1) (fun k u hk=>(hval k u hk).2) r.miss
theorem RV.lst_iff:RV h P v (.lst xs)↔∃a vs,v=.ref a∧P a∧h.PlainList a vs.toArray∧RVs h P vs xs:=by
 constructor
 ·intro r;cases r with
  |lst hp ht hl hv=>exact⟨_,_,rfl,hp,ht,hl,hv⟩
 ·rintro⟨a,vs,rfl,hp,ht,hl,hv⟩;exact .lst hp ht hl hv
theorem RV.tup_iff:RV h P v (.tup xs)↔∃a vs,v=.ref a∧P a∧h.IsTuple a vs.toArray∧RVs h P vs xs:=by
 constructor
 ·intro r;cases r with
  |tup hp ht hl hv=>exact⟨_,_,rfl,hp,ht,hl,hv⟩
 ·rintro⟨a,vs,rfl,hp,ht,hl,hv⟩;exact .tup hp ht hl hv
theorem RV.int_iff(r:RV h P v (.int i)):∃t,v=.int i t:=by cases r;exact⟨_,rfl⟩
theorem RV.bool_iff{b:Bool}(r:RV h P v (.bool b)):v=.bool b:=by cases r;rfl
theorem RV.str_iff(r:RV h P v (.str x)):∃t,v=.str x t:=by cases r;exact⟨_,rfl⟩
theorem RV.none_iff(r:RV h P v .none):v=.none:=by cases r;rfl
theorem RV.ref_iff(r:RV h P v (.ref a)):v=.ref a:=by cases r;rfl
theorem DNs.ns(d:DNs h dx m N):h.Ns dx m:=let⟨es,n,e,k,f,_⟩:=d;⟨_,es,n,e,rfl,k,f⟩
theorem DNs.put(d:DNs h dx m N)(name:Str)(hash:Int)(tk:Tok)(v:Value):
  DNs (h.update dx (Obj.putName name hash (.str name tk) v)) dx (fun x=>if x=name then some v else m x) (if(m name).isSome then N else N+1):=by
 refine bc fun ng=>?_
 obtain⟨es,n,ho,hk,hm,hN⟩:=d
 refine ng ?_
 cases hi:es.findIdx? (·.key.isStr name) with
 |some i=>
  refine⟨_,n,Heap.get?_update_self _ ho (by simp only[Obj.putName_eq,Obj.putNameByArray,hi];rfl)|>.trans (by simp only[Obj.putName_eq,Obj.putNameByArray,hi]),hk.modify i v,fun x=>?_,?_⟩
  ·show _=if x=name then some v else m x
   rw[←hm];exact findBy_modify (fun n v=>v.isStr n) Value.isStr_inj es name x v i hi
  ·rw[Array.size_modify];exact a_ite' hN
 |none=>
  refine⟨_,n+1,Heap.get?_update_self _ ho (by simp only[Obj.putName_eq,Obj.putNameByArray,hi];rfl)|>.trans (by simp only[Obj.putName_eq,Obj.putNameByArray,hi]),hk.push hash name tk v,fun x=>?_,?_⟩
  ·show _=if x=name then some v else m x
   rw[←hm]
   exact findBy_push (fun n v=>v.isStr n) es name x _ _ v (fun y=>by
    show(name==y)=decide (y=name)
    by_cases h:y=name
    ·subst h;simp
    ·have:¬name=y:=fun e=>h e.symm
     simp[h,this]) hi
  ·have:m name=none:=by
    rw[←hm]
    show(es.find? (fun e=>e.key.isStr name)).map (·.val)=none
    rw[Option.map_eq_none_iff,Array.find?_eq_none]
    intro e he
    simpa using(Array.findIdx?_eq_none_iff.mp hi) e he
   rw[this,Array.size_push];simp;(exact li1 2 [] [_,_] (.nle U0 U1) (.nle U0 U1) rfl hN)
noncomputable def setF(k:Nat)(v:V):List (Nat×V)→List (Nat×V)
 |[]=>[(k,v)]
 |(j,u)::r=>if k=j then(j,v)::r else(j,u)::setF k v r
theorem look_c{k j:Nat}{u:V}{r:List (Nat×V)}:look k ((j,u)::r)=if k=j then some u else look k r:=rfl
theorem setF_c{k j:Nat}{v u:V}{r:List (Nat×V)}:setF k v ((j,u)::r)=if k=j then(j,v)::r else(j,u)::setF k v r:=rfl
theorem setF_lookup(k:Nat)(v:V):∀(fs:List (Nat×V)) (j:Nat),look j (setF k v fs)=if j=k then some v else look j fs
 |[],j=>rfl
 |(i,u)::r,j=>by
  rw[setF_c]
  by_cases h:k=i
  ·subst h
   rw[if_pos rfl]
   by_cases q:j=k
   ·subst q;simp[look_c]
   ·simp[look_c,q]
  ·rw[if_neg h,look_c,look_c,setF_lookup k v r j]
   by_cases q:j=i
   ·subst q;simp[Ne.symm h]
   ·simp[q]
theorem setF_length(k:Nat)(v:V):∀fs:List (Nat×V),(setF k v fs).length=if(look k fs).isSome then fs.length else fs.length+1
 |[]=>rfl
 |(i,u)::r=>by
  rw[setF_c]
  by_cases h:k=i
  ·subst h;simp[look_c]
  ·rw[if_neg h,look_c,if_neg h,List.length_cons,List.length_cons,setF_length k v r]
   split<;>rfl
theorem FR.isSome(r:FR h P m fs)(k:Nat):(m (fname k)).isSome=(look k fs).isSome:=by
 cases e:look k fs with
 |some u=>obtain⟨v,hv,_⟩:=r.hit k u e;rw[hv];rfl
 |none=>
  rw[r.miss (fname k) fun j hj q=>by rw[fname_inj q,e] at hj;cases hj];rfl
theorem FR.set(r:FR h P m fs)(k:Nat)(rv:RV h P v u):FR h P (fun x=>if x=fname k then some v else m x) (setF k u fs):=by
 refine⟨fun j y hj=>?_,fun x hx=>?_⟩
 ·rw[setF_lookup] at hj
  by_cases q:j=k
  ·subst q;rw[if_pos rfl] at hj;obtain rfl:=sj hj;exact⟨v,if_pos rfl,rv⟩
  ·rw[if_neg q] at hj
   refine bc fun ng=>?_
   refine xe1 (r.hit j y hj) ?_
   intro z qz5
   refine xa2 qz5 ?_
   clear qz5
   rintro hz hr
   refine ng ?_
   exact⟨z,(if_neg fun e=>q (fname_inj e)).trans hz,hr⟩
 ·have hk:fname k≠x:=hx k (by rw[setF_lookup,if_pos rfl];rfl)
  show(if x=fname k then some v else m x)=none
  rw[if_neg (Ne.symm hk)]
  refine r.miss x fun j hj=>hx j ?_
  rw[setF_lookup];split
  ·rfl
  ·exact hj
theorem FR.nil:FR h P (fun _=>none) []:=⟨fun k u hk=>((by exact nope1 hk)),fun _ _=>rfl⟩
noncomputable def Own(a:Addr):AObj→Addr→Prop
 |.inst _ dx _,b=>b=a∨b=dx
 |_,b=>b=a
theorem Own.foot(e:H a=some o)(h:Own a o b):foot H b:=by
 cases o with
 |inst C dx fs=>
  rcases h with rfl|rfl
  ·exact .inl ⟨_,e⟩
  ·exact .inr ⟨a,C,fs,e⟩
 |_=>cases h;exact .inl ⟨_,e⟩
theorem dictOf_at{K:Type}[DecidableEq K]{knd:KeyKind pw w K}{kvs:List (K×Value)}(x:h.DictOf knd a kvs)(e:h'.get? a=h.get? a):h'.DictOf knd a kvs:=by
 refine bc fun ng=>?_
 obtain⟨o,es,ep,ho,r⟩:=x
 refine ng ?_
 exact⟨o,es,ep,e.trans ho,r⟩
theorem list_at{vs:Array Value}(x:h.PlainList a vs)(e:h'.get? a=h.get? a):h'.PlainList a vs:=by
 obtain⟨n,ho⟩:=x;exact⟨n,e.trans ho⟩
theorem dns_at(x:DNs h a m N)(e:h'.get? a=h.get? a):DNs h' a m N:=by
 obtain⟨es,n,ho,r⟩:=x;exact⟨es,n,e.trans ho,r⟩
theorem OR.mono{P':Addr→Prop}(g:Agr P h h')(hP:∀b,P b→(∃o,h.get? b=some o)→P' b)(hown:∀b,Own a o b→h'.get? b=h.get? b)
  (x:OR w h P a o):OR w h' P' a o:=by
 cases o with
 |inst C dx fs=>
  refine bc fun ng=>?_
  obtain⟨hC,hi,m,hn,hf⟩:=x
  refine ng ?_
  exact⟨hC,(hown a (.inl rfl)).trans hi,m,dns_at hn (hown dx (.inr rfl)),hf.mono g hP⟩
 |list xs=>obtain⟨vs,hl,hv⟩:=x;exact⟨vs,list_at hl (hown a rfl),hv.mono g hP⟩
 |idict es=>obtain⟨kvs,hl,he,hv⟩:=x;exact⟨kvs,dictOf_at hl (hown a rfl),he,hv.mono g hP⟩
 |sdict es=>obtain⟨kvs,hl,he,hv⟩:=x;exact⟨kvs,dictOf_at hl (hown a rfl),he,hv.mono g hP⟩
theorem OR.there(x:OR w h P a o)(hb:Own a o b):∃ob,h.get? b=some ob:=by
 cases o with
 |inst C dx fs=>
  refine bc fun ng=>?_
  obtain⟨_,hi,m,⟨_,_,hn,_⟩,hf⟩:=x
  refine ng ?_
  rcases hb with rfl|rfl
  ·exact⟨_,hi⟩
  ·exact⟨_,hn⟩
 |list xs=>cases hb;obtain⟨vs,⟨n,ho⟩,hv⟩:=x;exact⟨_,ho⟩
 |idict es=>cases hb;obtain⟨kvs,⟨o,_,_,ho,_⟩,_⟩:=x;exact⟨_,ho⟩
 |sdict es=>cases hb;obtain⟨kvs,⟨o,_,_,ho,_⟩,_⟩:=x;exact⟨_,ho⟩
section
variable{h0:Heap}
theorem HRep.foot_there(r:HRep w h0 Z H h)(hb:foot H b):∃o,h.get? b=some o:=by
 rcases hb with⟨o,e⟩|⟨a,C,fs,e⟩
 ·refine(r.obj b o e).there ?_
  cases o<;>first|exact .inl rfl|rfl
 ·exact(r.obj a _ e).there (.inr rfl)
theorem HRep.own_apart(r:HRep w h0 Z H h){a':Addr}(e:H a=some o)(e':H a'=some o')(hne:a'≠a)(hb:Own a o b):¬Own a' o' b:=by
 intro hb'
 have key:∀{x y:Addr} {p q:AObj},H x=some p→H y=some q→y≠x→∀b,Own x p b→Own y q b→b=x→False:=by
  intro x y p q ex ey hxy b hx hy hbx
  subst hbx
  cases q with
  |inst C dx fs=>
   rcases hy with rfl|rfl
   ·exact hxy rfl
   ·have:=(r.apart y C b fs ey).1;rw[ex] at this;exact nope2 this
  |_=>cases hy;exact hxy rfl
 by_cases h1:b=a
 ·exact key e e' hne b hb hb' h1
 by_cases h2:b=a'
 ·exact key e' e (Ne.symm hne) b hb' hb h2
 cases o with
 |inst C dx fs=>
  rcases hb with rfl|rfl
  ·exact h1 rfl
  cases o' with
  |inst C' dx' fs'=>
   rcases hb' with rfl|rfl
   ·exact h2 rfl
   exact hne ((r.apart a C b fs e).2 a' C' fs' e')
  |_=>cases hb';exact h2 rfl
 |_=>cases hb;exact h1 rfl
theorem HRep.grow(r:HRep w h0 Z H h)(k:∀b o,h.get? b=some o→h'.get? b=some o):HRep w h0 Z H h' where
 keep:=fun b o e=>k _ _ (r.keep b o e)
 fresh:=r.fresh
 notZ:=r.notZ
 inH:=fun b hb=>let⟨o,e⟩:=r.inH b hb;⟨o,k _ _ e⟩
 zf:=r.zf
 obj:=fun a o e=>(r.obj a o e).mono (fun b o _ e=>k b o e) (fun _ hb _=>hb) fun b hb=>by
  refine bc fun ng=>?_
  refine xe1 ((r.obj a o e).there hb) ?_
  rintro ob eb
  refine ng ?_
  rw[eb,k _ _ eb]
 apart:=r.apart
theorem HRep.atZ(r:HRep w h0 Z H h)(k:∀b,¬Z b→h'.get? b=h.get? b)(kz:∀b,Z b→∃o,h'.get? b=some o):HRep w h0 Z H h' where
 keep:=fun b o e=>(k b fun z=>by rw[r.zf b z] at e;exact nope1 e).trans (r.keep b o e)
 fresh:=r.fresh
 notZ:=r.notZ
 inH:=kz
 zf:=r.zf
 obj:=fun a o e=>(r.obj a o e).mono (fun b o hp e=>(k b hp.2).trans e) (fun _ hb _=>hb) fun b hb=>k b (r.notZ b (hb.foot e))
 apart:=r.apart
theorem foot_of_some(e:H a=some o):foot H a:=.inl ⟨o,e⟩
theorem foot_set_same(e:H a=some o)(hs:∀b,Own a o' b↔Own a o b)(b:Addr):foot (H.set a o') b↔foot H b:=by
 constructor
 ·rintro(⟨p,q⟩|⟨c,C,fs,q⟩)
  ·by_cases hb:b=a
   ·subst hb;exact .inl ⟨o,e⟩
   ·rw[Hp.set_ne _ _ hb] at q;exact .inl ⟨p,q⟩
  ·by_cases hc:c=a
   ·subst hc;rw[Hp.set_self] at q;obtain rfl:=sj q
    exact Own.foot e ((hs b).mp (.inr rfl))
   ·rw[Hp.set_ne _ _ hc] at q;exact .inr ⟨c,C,fs,q⟩
 ·rintro(⟨p,q⟩|⟨c,C,fs,q⟩)
  ·by_cases hb:b=a
   ·subst hb;exact .inl ⟨o',Hp.set_self ..⟩
   ·exact .inl ⟨p,(Hp.set_ne _ _ hb).trans q⟩
  ·by_cases hc:c=a
   ·subst hc;rw[e] at q;obtain rfl:=sj q
    exact Own.foot (Hp.set_self H c o') ((hs b).mpr (.inr rfl))
   ·exact .inr ⟨c,C,fs,(Hp.set_ne _ _ hc).trans q⟩
theorem HRep.put(r:HRep w h0 Z H h)(e:H a=some o)(hs:∀b,Own a o' b↔Own a o b)(k:∀b,¬Own a o b→h'.get? b=h.get? b)
  (x:OR w h' (Pu H Z) a o'):HRep w h0 Z (H.set a o') h':=by
 have hf:∀b,foot (H.set a o') b↔foot H b:=foot_set_same e hs
 have hp:∀b,Pu H Z b→(∃o,h'.get? b=some o)→Pu (H.set a o') Z b:=fun b hb _=>⟨fun q=>hb.1 ((hf b).mp q),hb.2⟩
 refine⟨fun b ob eb=>(k b fun ho=>?_).trans (r.keep b ob eb),fun b hb=>r.fresh b ((hf b).mp hb),fun b hb=>r.notZ b ((hf b).mp hb),fun b hb=>?_,r.zf,fun a' p q=>?_,fun a' C dx fs q=>?_⟩
 ·rw[r.fresh b (ho.foot e)] at eb;exact nope1 eb
 ·refine bc fun ng=>?_
  refine xe1 (r.inH b hb) ?_
  rintro ob eb
  refine ng ?_
  exact⟨ob,(k b fun ho=>r.notZ b (ho.foot e) hb).trans eb⟩
 ·by_cases ha:a'=a
  ·subst ha;rw[Hp.set_self] at q;obtain rfl:=sj q
   exact x.mono (Agr.refl _ _) hp fun _ _=>rfl
  ·rw[Hp.set_ne _ _ ha] at q
   exact(r.obj a' p q).mono (fun b ob hb eb=>(k b fun ho=>hb.1 (ho.foot e)).trans eb) (fun b hb _=>⟨fun q=>hb.1 ((hf b).mp q),hb.2⟩) fun b hb=>k b (r.own_apart q e (Ne.symm ha) hb)
 ·have cases2:∀{a' C dx fs},(H.set a o') a'=some (.inst C dx fs)→∃C' fs',H a'=some (.inst C' dx fs'):=by
   intro a' C dx fs q
   by_cases ha:a'=a
   ·subst ha;rw[Hp.set_self] at q;obtain rfl:=sj q
    have:Own a' o dx:=(hs dx).mp (.inr rfl)
    have hne:dx≠a':=by
     intro q2;subst q2
     cases o with
     |inst C2 dx2 fs2=>
      have h1:=(r.apart _ _ _ _ e).1
      have h2:Own dx (.inst C2 dx2 fs2) dx2:=.inr rfl
      have h3:=(hs dx2).mpr h2
      rcases h3 with h3|h3<;>(subst h3;rw[e] at h1;exact nope2 h1)
     |list _=>
      refine bc fun ng=>?_
      refine xe1 ((r.obj dx _ e).there (b:=dx) rfl) ?_
      rintro o1 ho1
      obtain⟨_,hi,m,⟨_,_,hn,_⟩,_⟩:=x
      refine ng ?_
      rw[hi] at hn;cases hn
     |idict _=>
      refine bc fun ng=>?_
      obtain⟨_,hi,m,⟨_,_,hn,_⟩,_⟩:=x
      refine ng ?_
      rw[hi] at hn;cases hn
     |sdict _=>
      refine bc fun ng=>?_
      obtain⟨_,hi,m,⟨_,_,hn,_⟩,_⟩:=x
      refine ng ?_
      rw[hi] at hn;cases hn
    cases o with
    |inst C2 dx2 fs2=>
     rcases this with h|h
     ·exact absurd h hne
     ·subst h;exact⟨_,_,e⟩
    |_=>exact absurd this hne
   ·rw[Hp.set_ne _ _ ha] at q;exact⟨_,_,q⟩
  refine bc fun ng=>?_
  refine xe2 (cases2 q) ?_
  rintro C1 fs1 q1
  refine xa2 (r.apart _ _ _ _ q1) ?_
  rintro n1 n2
  refine ng ?_
  refine⟨?_,fun a2 C2 fs2 q2=>?_⟩
  ·by_cases hd:dx=a
   ·subst hd;rw[e] at n1;exact nope2 n1
   ·rw[Hp.set_ne _ _ hd];exact n1
  ·refine bc fun ng=>?_
   refine xe2 (cases2 q2) ?_
   rintro C3 fs3 q3
   refine ng ?_
   exact n2 a2 C3 fs3 q3
theorem foot_set_new(hn:∀b,Own a o b→¬foot H b)(b:Addr):foot (H.set a o) b↔foot H b∨Own a o b:=by
 constructor
 ·rintro(⟨p,q⟩|⟨c,C,fs,q⟩)
  ·by_cases hb:b=a
   ·subst hb;right;cases o<;>first|exact .inl rfl|rfl
   ·rw[Hp.set_ne _ _ hb] at q;exact .inl (.inl ⟨p,q⟩)
  ·by_cases hc:c=a
   ·subst hc;rw[Hp.set_self] at q;obtain rfl:=sj q;exact .inr (.inr rfl)
   ·rw[Hp.set_ne _ _ hc] at q;exact .inl (.inr ⟨c,C,fs,q⟩)
 ·rintro(h|h)
  ·have ha:¬foot H a:=hn a (by cases o<;>first|exact .inl rfl|rfl)
   rcases h with⟨p,q⟩|⟨c,C,fs,q⟩
   ·have hb:b≠a:=by rintro rfl;exact ha (.inl ⟨p,q⟩)
    exact .inl ⟨p,(Hp.set_ne _ _ hb).trans q⟩
   ·have hc:c≠a:=by rintro rfl;exact ha (.inl ⟨_,q⟩)
    exact .inr ⟨c,C,fs,(Hp.set_ne _ _ hc).trans q⟩
  ·exact Own.foot (Hp.set_self H a o) h
theorem HRep.alloc(r:HRep w h0 Z H h)(k:∀b ob,h.get? b=some ob→h'.get? b=some ob)(hn:∀b,Own a o b→h.get? b=none)
  (hd:∀C dx fs,o=.inst C dx fs→dx≠a) (x:OR w h' (fun b=>Pu H Z b∧∃ob,h.get? b=some ob) a o):HRep w h0 Z (H.set a o) h':=by
 have hnf:∀b,Own a o b→¬foot H b:=fun b hb hf=>by
  refine bc fun ng=>?_
  refine xe1 (r.foot_there hf) ?_
  rintro ob e
  refine ng ?_;clear ng
  rw[hn b hb] at e;exact nope1 e
 have hf:=foot_set_new hnf
 have r':=r.grow k
 refine⟨r'.keep,fun b hb=>?_,fun b hb hz=>?_,r'.inH,r.zf,fun a' p q=>?_,fun a' C dx fs q=>?_⟩
 ·rcases(hf b).mp hb with hb|hb
  ·exact r.fresh b hb
  ·cases e:h0.get? b with
   |none=>rfl
   |some ob=>have:=hn b hb;rw[r.keep b ob e] at this;exact nope2 this
 ·rcases(hf b).mp hb with hb|hb
  ·exact r.notZ b hb hz
  ·refine bc fun ng=>?_
   refine xe1 (r.inH b hz) ?_
   rintro ob e
   refine ng ?_;clear ng
   rw[hn b hb] at e;exact nope1 e
 ·by_cases ha:a'=a
  ·subst ha;rw[Hp.set_self] at q;obtain rfl:=sj q
   refine x.mono (Agr.refl _ _) (fun b hb _=>⟨fun hf'=>?_,hb.1.2⟩) fun _ _=>rfl
   rcases(hf b).mp hf' with h1|h1
   ·exact hb.1.1 h1
   ·obtain⟨ob,e⟩:=hb.2;rw[hn b h1] at e;exact nope1 e
  ·rw[Hp.set_ne _ _ ha] at q
   refine(r.obj a' p q).mono (fun b ob _ eb=>k b ob eb) (fun b hb he=>⟨fun hf'=>?_,hb.2⟩) fun b hb=>?_
   ·rcases(hf b).mp hf' with h1|h1
    ·exact hb.1 h1
    ·obtain⟨ob,e⟩:=he;rw[hn b h1] at e;exact nope1 e
   ·refine bc fun ng=>?_
    refine xe1 ((r.obj a' p q).there hb) ?_
    rintro ob e
    refine ng ?_;clear ng
    rw[e,k b ob e]
 ·by_cases ha:a'=a
  ·subst ha;rw[Hp.set_self] at q;obtain rfl:=sj q
   have hda:=hd C dx fs rfl
   refine⟨?_,fun a2 C2 fs2 q2=>?_⟩
   ·rw[Hp.set_ne _ _ hda]
    cases e:H dx with
    |none=>rfl
    |some p=>exact absurd (foot_of_some e) (hnf dx (.inr rfl))
   ·by_cases h2:a2=a'
    ·exact h2
    ·rw[Hp.set_ne _ _ h2] at q2
     exact absurd (.inr ⟨a2,C2,fs2,q2⟩) (hnf dx (.inr rfl))
  ·rw[Hp.set_ne _ _ ha] at q
   refine bc fun ng=>?_
   refine xa2 (r.apart a' C dx fs q) ?_
   rintro n1 n2
   refine ng ?_;clear ng
   have hdf:foot H dx:=.inr ⟨a',C,fs,q⟩
   refine⟨?_,fun a2 C2 fs2 q2=>?_⟩
   ·have hne:dx≠a:=by
     rintro rfl;exact hnf dx (by cases o<;>first|exact .inl rfl|rfl) hdf
    rw[Hp.set_ne _ _ hne];exact n1
   ·by_cases h2:a2=a
    ·subst h2;rw[Hp.set_self] at q2;obtain rfl:=sj q2
     exact absurd hdf (hnf dx (.inr rfl))
    ·rw[Hp.set_ne _ _ h2] at q2;exact n2 a2 C2 fs2 q2
noncomputable def Sub(H' H:Hp):Prop:=∀a o,H' a=some o→H a=some o
theorem Sub.foot(s:Sub H' H)(hb:foot H' b):foot H b:=by
 rcases hb with⟨o,e⟩|⟨a,C,fs,e⟩
 ·exact .inl ⟨o,s b o e⟩
 ·exact .inr ⟨a,C,fs,s a _ e⟩
theorem HRep.sub(r:HRep w h0 Z H h)(s:Sub H' H):HRep w h0 Z H' h where
 keep:=r.keep
 fresh:=fun b hb=>r.fresh b (s.foot hb)
 notZ:=fun b hb=>r.notZ b (s.foot hb)
 inH:=r.inH
 zf:=r.zf
 obj:=fun a o e=>(r.obj a o (s a o e)).mono (Agr.refl _ _) (fun b hb _=>⟨fun q=>hb.1 (s.foot q),hb.2⟩) fun _ _=>rfl
 apart:=fun a C dx fs e=>by
  refine bc fun ng=>?_
  refine xa2 (r.apart a C dx fs (s _ _ e)) ?_
  rintro n1 n2
  refine ng ?_
  refine⟨?_,fun a' C' fs' e'=>n2 a' C' fs' (s _ _ e')⟩
  cases q:H' dx with
  |none=>rfl
  |some p=>rw[s _ _ q] at n1;exact nope2 n1
inductive Pr (D:Hp):V→V→Prop
 |same (x:V):Pr D x x
 |opq (x:V):Pr D x .opq
 |lst {a:Addr} {xs ys:List V}:D a=some (.list xs)→xs.length=ys.length→(∀(i:Nat) (x y:V),xs[i]? =some x→ys[i]? =some y→Pr D x y)→Pr D (.ref a) (.lst ys)
 |tup {xs ys:List V}:xs.length=ys.length→(∀(i:Nat) (x y:V),xs[i]? =some x→ys[i]? =some y→Pr D x y)→Pr D (.tup xs) (.tup ys)
 |lst' {xs ys:List V}:xs.length=ys.length→(∀(i:Nat) (x y:V),xs[i]? =some x→ys[i]? =some y→Pr D x y)→Pr D (.lst xs) (.lst ys)
 |obj {a C dx:Addr} {fs gs:List (Nat×V)}:D a=some (.inst C dx fs)→(∀k,(look k fs).isSome=(look k gs).isSome)→(∀(k:Nat) (x y:V),look k fs=some x→look k gs=some y→Pr D x y)→Pr D (.ref a) (.obj C gs)
theorem HRep.pr(r:HRep w h0 Z H h)(s:Sub H' H)(hD:∀a o,D a=some o→H a=some o∧H' a=none){x:V}(p:Pr D x y):∀{v:Value},RV h (Pu H Z) v x→RV h (Pu H' Z) v y:=by
 have mo:∀b,Pu H Z b→Pu H' Z b:=fun b hb=>⟨fun q=>hb.1 (s.foot q),hb.2⟩
 have off:∀{a o},D a=some o→∀b,Own a o b→Pu H' Z b:=fun {a o} e b hb=>by
  refine bc fun ng=>?_
  refine xa2 (hD a o e) ?_
  rintro e1 e2
  refine ng ?_
  refine⟨fun q=>?_,r.notZ b (hb.foot e1)⟩
  rcases q with⟨p,q⟩|⟨c,C,fs,q⟩
  ·have hba:b≠a:=by rintro rfl;rw[e2] at q;exact nope1 q
   exact r.own_apart e1 (s _ _ q) hba hb (by cases p<;>first|exact .inl rfl|rfl)
  ·have hca:c≠a:=by rintro rfl;rw[e2] at q;exact nope1 q
   exact r.own_apart e1 (s _ _ q) hca hb (.inr rfl)
 induction p with
 |same x=>exact fun hv=>hv.mono (Agr.refl _ _) fun b hb _=>mo b hb
 |opq x=>exact fun _=>.opq _
 |lst e hl _ ih=>
  intro v hv
  cases hv.ref_iff
  refine bc fun ng=>?_
  obtain⟨vs,hls,hvs⟩:=r.obj _ _ (hD _ _ e).1
  refine ng ?_
  refine .lst (off e _ rfl) hls (hvs.1.trans hl) fun i v y h1 h2=>?_
  obtain⟨x,hx⟩:∃x,_=some x:=⟨_,List.getElem?_eq_getElem (by have:=(List.getElem?_eq_some_iff.mp h2).1;rw[←hl] at this;exact this)⟩
  exact ih i x y hx h2 (hvs.2 i v x h1 hx)
 |tup hl _ ih=>
  intro v hv
  refine bc fun ng=>?_
  refine xe2 (RV.tup_iff.mp hv) ?_
  intro a vs qz6
  refine xa4 qz6 ?_
  clear qz6
  rintro rfl hp ht hvs
  refine ng ?_
  refine .tup (mo _ hp) ht (hvs.1.trans hl) fun i v y h1 h2=>?_
  obtain⟨x,hx⟩:∃x,_=some x:=⟨_,List.getElem?_eq_getElem (by have:=(List.getElem?_eq_some_iff.mp h2).1;rw[←hl] at this;exact this)⟩
  exact ih i x y hx h2 (hvs.2 i v x h1 hx)
 |lst' hl _ ih=>
  intro v hv
  refine bc fun ng=>?_
  refine xe2 (RV.lst_iff.mp hv) ?_
  intro a vs qz7
  refine xa4 qz7 ?_
  clear qz7
  rintro rfl hp ht hvs
  refine ng ?_
  refine .lst (mo _ hp) ht (hvs.1.trans hl) fun i v y h1 h2=>?_
  obtain⟨x,hx⟩:∃x,_=some x:=⟨_,List.getElem?_eq_getElem (by have:=(List.getElem?_eq_some_iff.mp h2).1;rw[←hl] at this;exact this)⟩
  exact ih i x y hx h2 (hvs.2 i v x h1 hx)
 |obj e hl _ ih=>
  intro v hv
  cases hv.ref_iff
  refine bc fun ng=>?_
  obtain⟨hC,hi,m,hn,hf⟩:=r.obj _ _ (hD _ _ e).1
  refine ng ?_
  refine RV.obj_iff.mpr ⟨_,_,m,rfl,off e _ (.inl rfl),off e _ (.inr rfl),hC,hi,hn.ns,fun k u hk=>?_,fun x hx=>hf.miss x fun k hk=>hx k (by rw[←hl k];exact hk)⟩
  obtain⟨x,hx⟩:=Option.isSome_iff_exists.mp ((hl k).trans (by rw[hk];rfl))
  refine bc fun ng=>?_
  refine xe1 (hf.hit k x hx) ?_
  intro v qz8
  refine xa2 qz8 ?_
  clear qz8
  rintro h1 h2
  refine ng ?_
  exact⟨v,h1,ih k x u hx hk h2⟩
end
theorem SlK.trans{o:Obj}(x:SlK h b o)(k:∀o',h.get? b=some o'→o'.data=o.data→SlK h' b o'):SlK h' b o:=by
 refine bc fun ng=>?_
 obtain⟨sl,e,f⟩:=x
 obtain⟨sl2,e2,f2⟩:=k _ e rfl
 refine ng ?_
 exact⟨sl2,e2,fun q=>(f2 q).trans (f q)⟩
section
variable{E:Value→Shared→Prop}{e:Addr}
theorem flight_go{Q:Unit→Shared→Prop}{T:Addr}{oT:Obj}{vs ts:Array Value}(he:s.heap.get? e=some oe)(hd:oe.data=.fields vs)(h1:vs[1]? =some (.ref T))(hT:s.heap.get? T=some oT)(hdT:oT.data=.fields ts)(h3:3< ts.size){f:Option Addr}
  (h:∀h' oT' ts',h'.get? T=some oT'→oT'.data=.fields ts'→ts'.size=ts.size→ts'[3]? =some (f.elim Value.none fun f=>rawInt f)→(∀b,b≠T→h'.get? b=s.heap.get? b)→Q () {s with heap:=h'}):wpAny M A (setFlight (.ref e) f) Q E s:=by
 delta setFlight
 refine wpAny_bind (wpAny_field he hd h1 ?_)
 rw[if_pos (show(Value.ref T !=Value.none)=true from by simp)]
 refine wpAny_setField hT hdT h3 (h _ _ _ (Heap.get?_update_self _ hT (Obj.isFreed_of_fields (Obj.data_mapFields hdT _))) (Obj.data_mapFields hdT _) (by simp) (by simp[h3]) fun b hb=>Heap.get?_update_other _ _ (Ne.symm hb))
theorem entry_go{Q:Unit→Shared→Prop}{vs:Array Value}{fl:Value}(hfr:A.frames=some (env::outer))(hl:s.heap.FunFrames base (env::outer))(hf:env.frame=some L)
  (hkb:base.StaysIn s.heap) (he:s.heap.get? e=some oe) (hen:base.get? e=none) (hd:oe.data=.fields vs) (hsz:1< vs.size)
  (h:∀h' oe' vs' T oT ts,base.StaysIn h'→h'.FunFrames base (env::outer)→h'.get? e=some oe'→oe'.cls=oe.cls→oe'.dict=oe.dict→oe'.data=.fields vs'→vs'.size=vs.size→vs'[1]? =some (.ref T)→base.get? T=none→T≠e→s.heap.get? T=none→h'.get? T=some oT→oT.data=.fields ts→3< ts.size→ts[3]? =some fl→
   (∀b o,b≠e→s.heap.get? b=some o→(Fx o.data→base.get? b=some o)→SlK h' b o)→Q () {s with heap:=h'}):
  wpAny M A (do let a←frameOf env;let pl←entryPlaceOf L hadNext;let b←EntryCells.newEntry head a .none fl .none pl;setField (.ref e) 1 b) Q E s:=by
 have hene:e∉(env::outer).filterMap (·.frame):=fun hm=>by
  refine bc fun ng=>?_
  obtain⟨_,o,ho,hnf⟩:=hl.mem hm
  refine ng ?_
  rw[he] at ho;obtain rfl:=sj ho;exact hnf vs hd
 refine wpAny_bind (wpAny_frameOf_fun hfr hl hf fun h₁ hs₁=>?_)
 refine wpAny_bind (wpAny_entryPlaceOf fun pl hpl=>?_)
 delta EntryCells.newEntry newFields
 refine wpAny_bind (wpAny_newObj_type ?_ (hpl.sizeOk5 _ _ _ _ _))
 have he₁:h₁.get? e=some oe:=(hs₁.2.1 e hene).trans he
 have kb₁:base.StaysIn h₁:=fun b o hbo=>(hs₁.2.1 b fun hm=>by rw[(hl.mem hm).1] at hbo;exact nope1 hbo).trans (hkb b o hbo)
 have hsl:∀b o,s.heap.get? b=some o→(Fx o.data→base.get? b=some o)→SlK h₁ b o:=fun b o hb hk=>by
  by_cases hm:b∈(env::outer).filterMap (·.frame)
  ·refine bc fun ng=>?_
   refine xe1 (hs₁.2.2 b o hb) ?_
   rintro sl e1
   refine xa2 (hl.mem hm) ?_
   rintro hn _
   refine ng ?_
   exact⟨sl,e1,fun q=>by have:=hk q;rw[hn] at this;exact nope1 this⟩
  ·exact⟨o.slots,(hs₁.2.1 b hm).trans hb,fun _=>rfl⟩
 have hne:∀{b:Addr} {o:Obj},h₁.get? b=some o→h₁.objs.size≠b:=fun hb=>Nat.ne_of_gt (Heap.lt_size hb)
 generalize htb:([head,Value.ref L,.none,fl,.none]++(if pl.isEmpty then List.replicate 6 Value.none else pl)).toArray=tb
 have htb3:3< tb.size∧tb[3]? =some fl:=by subst htb;simp
 have he₂:=Heap.get?_push_of_some (h:=h₁) {cls:=.type "traceback",dict:=none,data:=.fields tb} he₁
 refine wpAny_setField he₂ hd hsz ?_
 have hd₃:=Obj.data_mapFields hd (·.setIfInBounds 1 (Value.ref h₁.objs.size))
 have he₃:=Heap.get?_update_self (Obj.mapFields (·.setIfInBounds 1 (Value.ref h₁.objs.size))) he₂ (Obj.isFreed_of_fields hd₃)
 have keep:∀b o,b≠e→h₁.get? b=some o→((h₁.push {cls:=.type "traceback",dict:=none,data:=.fields tb}).update e (Obj.mapFields (·.setIfInBounds 1 (Value.ref h₁.objs.size)))).get? b=some o:=fun b o hbe hb=>by
  rw[Heap.get?_update_other _ _ (Ne.symm hbe)];exact Heap.get?_push_of_some _ hb
 refine h _ _ _ h₁.objs.size _ tb (fun b o hbo=>keep b o (fun q=>by rw[q,hen] at hbo;exact nope1 hbo) (kb₁ b o hbo)) (hl.of_keeps fun b o hb hnf=>?_) he₃ (Obj.cls_mapFields _ _) ?_ hd₃ (by simp) (by simp[hsz]) kb₁.fresh (hne he₁) ?_
  ((Heap.get?_update_other _ _ (Ne.symm (hne he₁))).trans (Heap.get?_push_size h₁ rfl)) rfl htb3.1 htb3.2 fun b o hbe hb hk=>?_
 ·refine bc fun ng=>?_
  refine xe1 (hs₁.2.2 b o hb) ?_
  rintro sl hs
  refine ng ?_
  exact⟨_,keep b _ (fun q=>by rw[q,he] at hb;obtain rfl:=sj hb;exact hnf vs hd) hs,rfl⟩
 ·cases oe with|mk c d dt sl=>cases dt<;>rfl
 ·cases q:s.heap.get? h₁.objs.size with
  |none=>rfl
  |some o=>obtain⟨sl,e1⟩:=hs₁.2.2 _ _ q;exact absurd rfl (hne e1)
 ·refine bc fun ng=>?_
  obtain⟨sl,e1,f1⟩:=hsl b o hb hk
  refine ng ?_
  exact⟨sl,keep b _ hbe e1,f1⟩
noncomputable abbrev Noted(base:Heap)(l:List Env)(e dx:Addr)(h h':Heap):Prop:=base.StaysIn h'∧h'.FunFrames base l∧Ex h' base e dx∧∀b o,h.get? b=some o→(Fx o.data→base.get? b=some o)→SlK h' b o
theorem note_go{Q:Unit→Shared→Prop}(hfr:A.frames=some (env::outer))(hl:s.heap.FunFrames base (env::outer))(hf:env.frame=some L)(hkb:base.StaysIn s.heap)(k4:Ex s.heap base e dx)
  (h:∀h',Noted base (env::outer) e dx s.heap h'→(∃oe vs T oT ts,h'.get? e=some oe∧oe.data=.fields vs∧vs[1]? =some (.ref T)∧h'.get? T=some oT∧oT.data=.fields ts∧3< ts.size)→Q () {s with heap:=h'}):wpAny M A (noteFrame (.ref e) env) Q E s:=by
 refine bc fun ng=>?_
 obtain⟨oe,vs,he,hcls,hdx,hd,hsz,hen,hv⟩:=k4
 refine ng ?_
 delta noteFrame
 simp only[hf]
 have hbe:∀{b:Addr} {o:Obj},s.heap.get? b=some o→(Fx o.data→base.get? b=some o)→b≠e:=fun hb hk q=>by
  subst q;rw[he] at hb;obtain rfl:=sj hb;have:=hk (.inl ⟨vs,hd⟩);rw[hen] at this;exact nope1 this
 rcases hv with hv|⟨T,oT,ts,hv,hnT,hTe,hT,hdT,h3⟩
 ·refine wpAny_bind (wpAny_field he hd hv ?_)
  rw[if_neg (by decide)]
  refine entry_go hfr hl hf hkb he hen hd hsz fun h' oe' vs' T oT ts a1 a2 a3 a4 a5 a6 a7 a8 a9 a10 a11 a12 a13 a14 _ a15=>?_
  exact h h' ⟨a1,a2,⟨oe',vs',a3,a4.trans hcls,a5.trans hdx,a6,by rw[a7];exact hsz,hen,.inr ⟨T,oT,ts,a8,a9,a10,a12,a13,a14⟩⟩,fun b o hb hk=>a15 b o (hbe hb hk) hb hk⟩ ⟨oe',vs',T,oT,ts,a3,a6,a8,a12,a13,a14⟩
 ·refine wpAny_bind (wpAny_field he hd hv ?_)
  rw[if_pos (show(Value.ref T !=Value.none)=true from by simp)]
  refine wpAny_bind (wpAny_field hT hdT (Array.getElem?_eq_getElem h3) ?_)
  have hbT:∀{b:Addr} {o:Obj},s.heap.get? b=some o→(Fx o.data→base.get? b=some o)→b≠T:=fun hb hk q=>by
   subst q;rw[hT] at hb;obtain rfl:=sj hb;have:=hk (.inl ⟨ts,hdT⟩);rw[hnT] at this;exact nope1 this
  split
  ·exact wpAny_pure (h _ ⟨hkb,hl,⟨oe,vs,he,hcls,hdx,hd,hsz,hen,.inr ⟨T,oT,ts,hv,hnT,hTe,hT,hdT,h3⟩⟩,fun b o hb _=>⟨o.slots,hb,fun _=>rfl⟩⟩ ⟨oe,vs,T,oT,ts,he,hd,hv,hT,hdT,h3⟩)
  ·refine wpAny_bind (wpAny_setField hT hdT h3 ?_)
   have other:∀b,b≠T→(s.heap.update T (Obj.mapFields (·.setIfInBounds 3 Value.none))).get? b=s.heap.get? b:=fun b hb=>Heap.get?_update_other _ _ (Ne.symm hb)
   refine entry_go hfr (hl.of_keeps fun b o hb hnf=>⟨o,(other b fun q=>by subst q;rw[hT] at hb;obtain rfl:=sj hb;exact hnf ts hdT).trans hb,rfl⟩) hf (fun b o hbo=>(other b fun q=>by rw[q,hnT] at hbo;exact nope1 hbo).trans (hkb b o hbo)) ((other e (Ne.symm hTe)).trans he) hen hd hsz
    fun h' oe' vs' T' oT' ts' a1 a2 a3 a4 a5 a6 a7 a8 a9 a10 a11 a12 a13 a14 _ a15=>?_
   exact h h' ⟨a1,a2,⟨oe',vs',a3,a4.trans hcls,a5.trans hdx,a6,by rw[a7];exact hsz,hen,.inr ⟨T',oT',ts',a8,a9,a10,a12,a13,a14⟩⟩,fun b o hb hk=>a15 b o (hbe hb hk) ((other b (hbT hb hk)).trans hb) hk⟩ ⟨oe',vs',T',oT',ts',a3,a6,a8,a12,a13,a14⟩
theorem flight_no{Q:Unit→Shared→Prop}{f:Option Addr}{l:List Env}(hl:s.heap.FunFrames base l)(hkb:base.StaysIn s.heap)(k4:Ex s.heap base e dx)
  (k5:∃oe vs T oT ts,s.heap.get? e=some oe∧oe.data=.fields vs∧vs[1]? =some (.ref T)∧s.heap.get? T=some oT∧oT.data=.fields ts∧3< ts.size)
  (h:∀h',Noted base l e dx s.heap h'→(∃oe vs T oT ts,h'.get? e=some oe∧oe.data=.fields vs∧vs[1]? =some (.ref T)∧h'.get? T=some oT∧oT.data=.fields ts∧3< ts.size∧ts[3]? =some (f.elim Value.none fun f=>rawInt f))→Q () {s with heap:=h'}):wpAny M A (setFlight (.ref e) f) Q E s:=by
 refine bc fun ng=>?_
 obtain⟨oe,vs,he,hcls,hdx,hd,hsz,hen,hv⟩:=k4
 refine xe5 (k5) ?_
 try clear k5
 intro oe2 vs2 T oT ts qz9
 refine xa6 qz9 ?_
 clear qz9
 rintro he2 hd2 hv2 hT hdT h3
 refine ng ?_
 obtain rfl:oe=oe2:=sj (he.symm.trans he2)
 have:Data.fields vs=Data.fields vs2:=hd.symm.trans hd2
 cases this
 have hTe:base.get? T=none∧T≠e:=by
  rcases hv with hv|⟨T',oT',ts',hv,hnT,hTe,_⟩
  ·rw[hv2] at hv;cases hv
  ·rw[hv2] at hv;cases hv;exact⟨hnT,hTe⟩
 have hbT:∀{b:Addr} {o:Obj},s.heap.get? b=some o→(Fx o.data→base.get? b=some o)→b≠T:=fun hb hk q=>by
  subst q;rw[hT] at hb;obtain rfl:=sj hb;have:=hk (.inl ⟨ts,hdT⟩);rw[hTe.1] at this;exact nope1 this
 refine flight_go he hd hv2 hT hdT h3 fun h' oT' ts' a1 a2 a3 a4 a5=>?_
 have he':h'.get? e=some oe:=(a5 e (Ne.symm hTe.2)).trans he
 refine h h' ⟨fun b o hb=>(a5 b fun q=>by rw[q,hTe.1] at hb;exact nope1 hb).trans (hkb b o hb),hl.of_keeps fun b o hb hnf=>⟨o,(a5 b fun q=>by subst q;rw[hT] at hb;obtain rfl:=sj hb;exact hnf ts hdT).trans hb,rfl⟩,
  ⟨oe,vs,he',hcls,hdx,hd,hsz,hen,.inr ⟨T,oT',ts',hv2,hTe.1,hTe.2,a1,a2,by rw[a3];exact h3⟩⟩,fun b o hb hk=>⟨o.slots,(a5 b (hbT hb hk)).trans hb,fun _=>rfl⟩⟩ ⟨oe,vs,T,oT',ts',he',hd,hv2,a1,a2,by rw[a3];exact h3,a4⟩
theorem leave_go{Q:Unit→Shared→Prop}(hfr:A.frames=some (env::outer))(hl:s.heap.FunFrames base (env::outer))(hf:env.frame=some L)(hkb:base.StaysIn s.heap)(k4:Ex s.heap base e dx)
  (h:∀h',Noted base (env::outer) e dx s.heap h'→Q () {s with heap:=h'}):wpAny M A (leaving env (.ref e)) Q E s:=by
 delta leaving
 refine wpAny_bind (note_go hfr hl hf hkb k4 fun h₁ n₁ x₁=>?_)
 refine flight_no (s:={s with heap:=h₁}) n₁.2.1 n₁.1 n₁.2.2.1 x₁ fun h₂ n₂ _=>h h₂ ⟨n₂.1,n₂.2.1,n₂.2.2.1,fun b o hb hk=>?_⟩
 refine(n₁.2.2.2 b o hb hk).trans fun o' e1 hd=>n₂.2.2.2 b o' e1 fun q=>?_
 have:=hk (hd▸q)
 exact this▸(sj ((n₁.1 b o this).symm.trans e1))▸rfl
end
section
variable{H₂:Hp}{s₂:Shared}
theorem St.pu(st:St w h0 Z H H₁ s s₁):∀b,Pu H Z b→(∃o,s.heap.get? b=some o)→Pu H₁ Z b:=fun b hb ⟨o,e⟩=>by
 refine⟨fun q=>?_,hb.2⟩
 rcases st.new b q with q|q
 ·exact hb.1 q
 ·rw[e] at q;exact nope2 q
theorem St.agr(st:St w h0 Z H H₁ s s₁):Agr (Pu H Z) s.heap s₁.heap:=fun b o hb e=>st.keep b o e hb.1 hb.2
theorem St.rv(st:St w h0 Z H H₁ s s₁){x:V}(r:RV s.heap (Pu H Z) v x):RV s₁.heap (Pu H₁ Z) v x:=r.mono st.agr st.pu
theorem St.rvs(st:St w h0 Z H H₁ s s₁)(r:RVs s.heap (Pu H Z) vs xs):RVs s₁.heap (Pu H₁ Z) vs xs:=r.mono st.agr st.pu
theorem St.trans(a:St w h0 Z H H₁ s s₁)(b:St w h0 Z H₁ H₂ s₁ s₂):St w h0 Z H H₂ s s₂ where
 hr:=b.hr
 keep:=fun x o e hf hz=>b.keep x o (a.keep x o e hf hz) (fun q=>by
  rcases a.new x q with q|q
  ·exact hf q
  ·rw[e] at q;exact nope2 q) hz
 keepZ:=fun x o hz e=>by
  refine bc fun ng=>?_
  obtain⟨sl,e₁,f₁⟩:=a.keepZ x o hz e
  obtain⟨sl₂,e₂,f₂⟩:=b.keepZ x _ hz e₁
  refine ng ?_
  exact⟨sl₂,e₂,fun q=>(f₂ q).trans (f₁ q)⟩
 new:=fun x hf=>by
  rcases b.new x hf with q|q
  ·exact a.new x q
  ·by_cases h:foot H x
   ·exact .inl h
   ·right
    cases e:s.heap.get? x with
    |none=>rfl
    |some o=>
     by_cases hz:Z x
     ·refine bc fun ng=>?_
      obtain⟨sl,e₁,_⟩:=a.keepZ x o hz e
      refine ng ?_
      rw[e₁] at q;exact nope2 q
     ·rw[a.keep x o e h hz] at q;exact nope2 q
 gens:=b.gens.trans a.gens
 os:=b.os.trans a.os
theorem St.refl(hr:HRep w h0 Z H s.heap):St w h0 Z H H s s:=⟨hr,fun _ _ e _ _=>e,fun _ o _ e=>⟨o.slots,e,fun _=>rfl⟩,fun _ h=>.inl h,rfl,rfl⟩
theorem St.grow(hr:HRep w h0 Z H s.heap)(k:∀b o,s.heap.get? b=some o→s₁.heap.get? b=some o)(hg:s₁.gens=s.gens)(ho:s₁.os=s.os):St w h0 Z H H s s₁:=
 ⟨hr.grow k,fun b o e _ _=>k b o e,fun b o _ e=>⟨o.slots,k b o e,fun _=>rfl⟩,fun _ h=>.inl h,hg,ho⟩
theorem St.sub(st:St w h0 Z H H₁ s s₁)(q:Sub H₂ H₁):St w h0 Z H H₂ s s₁:=⟨st.hr.sub q,st.keep,st.keepZ,fun b hb=>st.new b (q.foot hb),st.gens,st.os⟩
end
structure Cx where
 env:Env
 vars:List Str
 Z:Addr→Prop
 e:Addr→Option Obj
 F:Addr→Prop
 os:OsState
 kind:env.scope.kind=.function
 glob:env.globals=mainGlobals
 blt:env.builtins=builtinsNs
 nd:vars.Nodup
 zl:Z env.locals
 zc:∀x a,env.cells.lookup x=some a→Z a
 cl:∀x a,env.cells.lookup x=some a→a≠env.locals
 ci:∀x y a,env.cells.lookup x=some a→env.cells.lookup y=some a→x=y
 el:e env.locals=none
 ec:∀x a,env.cells.lookup x=some a→e a=none
 ef:∀b o,e b=some o→¬F b
noncomputable abbrev Loc:=List (Option V)
noncomputable def VarAt(c:Cx)(m:Str→Option Value)(h:Heap)(P:Addr→Prop)(x:Str)(u:V):Prop:=
 (c.env.kindOf x=some .local∧∃v,m x=some v∧RV h P v u)∨
 ((c.env.kindOf x=some .cell∨(c.env.kindOf x=some .free∧(x==("__classdict__":Str))=false))∧∃a o v,c.env.cells.lookup x=some a∧h.get? a=some o∧o.data=.cell (some v)∧RV h P v u)
structure LR(c:Cx)(l:Loc)(h:Heap)(P:Addr→Prop):Prop where
 ns:∃m,h.Ns c.env.locals m∧∀(k:Nat) (x:Str) (u:V),c.vars[k]? =some x→l[k]? =some (some u)→VarAt c m h P x u
 len:l.length=c.vars.length
 cells:∀x a,c.env.cells.lookup x=some a→∃o v,h.get? a=some o∧o.data=.cell v
structure Rep(w:World)(h0:Heap)(c:Cx)(l:Loc)(H:Hp)(s:Shared):Prop where
 hr:HRep w h0 c.Z H s.heap
 lr:LR c l s.heap (Pu H c.Z)
 old:∀b o,c.e b=some o→¬c.F b→¬c.Z b→s.heap.get? b=some o
 oldZ:∀b o,c.e b=some o→c.Z b→SlK s.heap b o
 new:∀b,foot H b→c.F b∨c.e b=none
 gens:s.gens=#[]
 os:s.os=c.os
noncomputable def UpS(h h':Heap)(b:Addr):Prop:=∀o,h.get? b=some o→∃sl,h'.get? b=some {o with slots:=sl}
theorem UpS.of_eq(e:h'.get? b=h.get? b):UpS h h' b:=fun o ho=>⟨o.slots,e.trans ho⟩
theorem UpS.ns(u:UpS h h' b)(x:h.Ns b m):h'.Ns b m:=by
 refine bc fun ng=>?_
 obtain⟨o,es,ep,ho,r⟩:=x
 refine xe1 (u o ho) ?_
 rintro sl e
 refine ng ?_
 exact⟨_,es,ep,e,r⟩
theorem VarAt.mono{P':Addr→Prop}(g:Agr P h h')(hP:∀b,P b→(∃o,h.get? b=some o)→P' b)(hc:∀a,c.env.cells.lookup x=some a→UpS h h' a)
  (v:VarAt c m h P x u):VarAt c m h' P' x u:=by
 rcases v with⟨hk,v,hm,hr⟩|⟨hk,a,o,v,ha,ho,hd,hr⟩
 ·exact .inl ⟨hk,v,hm,hr.mono g hP⟩
 ·refine bc fun ng=>?_
  refine xe1 (hc a ha o ho) ?_
  rintro sl e
  refine ng ?_
  exact .inr ⟨hk,a,_,v,ha,e,hd,hr.mono g hP⟩
theorem LR.mono{P':Addr→Prop}(r:LR c l h P)(g:Agr P h h')(hP:∀b,P b→(∃o,h.get? b=some o)→P' b)(hl:UpS h h' c.env.locals)
  (hc:∀x a,c.env.cells.lookup x=some a→UpS h h' a):LR c l h' P':=by
 refine bc fun ng=>?_
 obtain⟨⟨m,hn,hv⟩,hlen,hcs⟩:=r
 refine ng ?_
 refine⟨⟨m,hl.ns hn,fun k x u hk hu=>(hv k x u hk hu).mono g hP (hc x)⟩,hlen,fun x a ha=>?_⟩
 refine bc fun ng=>?_
 refine xe2 (hcs x a ha) ?_
 intro o v qz10
 refine xa2 qz10 ?_
 clear qz10
 rintro ho hd
 refine xe1 (hc x a ha o ho) ?_
 rintro sl e
 refine ng ?_
 exact⟨_,v,e,hd⟩
theorem Rep.after(r:Rep w h0 c l H s)(st:St w h0 c.Z H H' s s'):Rep w h0 c l H' s':=by
 have same:∀b,c.Z b→UpS s.heap s'.heap b:=fun b hb o e=>let⟨sl,e₁,_⟩:=st.keepZ b o hb e;⟨sl,e₁⟩
 refine⟨st.hr,r.lr.mono st.agr st.pu (same _ c.zl) (fun x a ha=>same a (c.zc x a ha)),fun b o e hf hz=>?_,fun b o e hz=>?_,fun b hb=>?_,st.gens.trans r.gens,st.os.trans r.os⟩
 ·refine st.keep b o (r.old b o e hf hz) (fun q=>?_) hz
  rcases r.new b q with q|q
  ·exact hf q
  ·rw[e] at q;exact nope2 q
 ·refine bc fun ng=>?_
  obtain⟨sl,e₁,f₁⟩:=r.oldZ b o e hz
  obtain⟨sl₂,e₂,f₂⟩:=st.keepZ b _ hz e₁
  refine ng ?_
  exact⟨sl₂,e₂,fun q=>(f₂ q).trans (f₁ q)⟩
 ·rcases st.new b hb with q|q
  ·exact r.new b q
  ·by_cases hF:c.F b
   ·exact .inl hF
   ·right
    cases e:c.e b with
    |none=>rfl
    |some o=>
     by_cases hz:c.Z b
     ·refine bc fun ng=>?_
      obtain⟨sl,e₁,_⟩:=r.oldZ b o e hz
      refine ng ?_
      rw[e₁] at q;exact nope2 q
     ·rw[r.old b o e hF hz] at q;exact nope2 q
set_option genCtorIdx true in
inductive Fl|next|brk|cont|ret (x:V)
noncomputable def FlR(h:Heap)(P:Addr→Prop):Flow→Fl→Prop
 |.next,.next=>True
 |.brk,.brk=>True
 |.cont,.cont=>True
 |.ret v,.ret x=>RV h P v x
 |_,_=>False
theorem entE_some{o:Obj}(e:h.get? b=some o)(hF:¬foot H b):entE h H b=some o:=(if_neg hF).trans e
theorem entE_get{o:Obj}(e:entE h H b=some o):h.get? b=some o∧¬foot H b:=by
 delta entE at e
 split at e
 ·exact nope1 e
 ·rename_i q;exact⟨e,q⟩
theorem entE_none(e:entE h H b=none):foot H b∨h.get? b=none:=by
 delta entE at e
 split at e
 ·rename_i q;exact .inl q
 ·exact .inr e
noncomputable def HE(w:World)(h0:Heap)(c:Cx)(A:Around)(X:Hp→Prop)(l:Loc)(E:Value→Shared→Prop):Prop:=
 ∀a s' H' g,Rep w h0 c l H' {s' with heap:=g}→ExcAt w h0 A c.Z c.F c.e H' a s'.heap g→X H'→E (.ref a) s'
noncomputable def HS(w:World)(h0:Heap)(c:Cx)(A:Around)(X:Loc→Hp→Prop)(E:Value→Shared→Prop):Prop:=
 ∀a s' l' H' g,Rep w h0 c l' H' {s' with heap:=g}→ExcAt w h0 A c.Z c.F c.e H' a s'.heap g→X l' H'→E (.ref a) s'
noncomputable def J{α β:Type}(w:World)(h0:Heap)(rel:Heap→(Addr→Prop)→α→β→Prop)(c:Cx)(A:Around)(X:Hp→Prop)(t:Sem α)(l:Loc)(H:Hp)(Q:β→Hp→Prop):Prop:=
 ∀(s:Shared) (E:Value→Shared→Prop),Rep w h0 c l H s→HE w h0 c A X l E→
  wpAny (MM w) A t (fun v s'=>∃x H',rel s'.heap (Pu H' c.Z) v x∧St w h0 c.Z H H' s s'∧Q x H') E s
noncomputable abbrev JE(w:World)(h0:Heap)(c:Cx)(A:Around)(X:Hp→Prop)(e:Expr)(l:Loc)(H:Hp)(Q:V→Hp→Prop):Prop:=J w h0 RV c A X (eval e c.env) l H Q
noncomputable abbrev JV(w:World)(h0:Heap)(c:Cx)(A:Around)(X:Hp→Prop)(t:Sem Value)(l:Loc)(H:Hp)(Q:V→Hp→Prop):Prop:=J w h0 RV c A X t l H Q
noncomputable def EqR{α:Type}(_:Heap)(_:Addr→Prop)(a b:α):Prop:=a=b
noncomputable abbrev JT(w:World)(h0:Heap)(c:Cx)(A:Around)(X:Hp→Prop)(e:Expr)(l:Loc)(H:Hp)(Q:Bool→Hp→Prop):Prop:=J w h0 EqR c A X (isTrue e c.env (eval e c.env)) l H Q
noncomputable def JS(w:World)(h0:Heap)(c:Cx)(A:Around)(X:Loc→Hp→Prop)(t:Sem Flow)(l:Loc)(H:Hp)(Q:Fl→Loc→Hp→Prop):Prop:=
 ∀(s:Shared) (E:Value→Shared→Prop),Rep w h0 c l H s→HS w h0 c A X E→
  wpAny (MM w) A t (fun f s'=>∃f' l' H',FlR s'.heap (Pu H' c.Z) f f'∧Rep w h0 c l' H' s'∧Q f' l' H') E s
section
variable{α β α' β':Type}{rel:Heap→(Addr→Prop)→α→β→Prop}{rel':Heap→(Addr→Prop)→α'→β'→Prop}
theorem J.pure'{v:α}{x:β}{Q:β→Hp→Prop}(hr:∀s,Rep w h0 c l H s→rel s.heap (Pu H c.Z) v x)(h:Q x H):J w h0 rel c A X (pure v) l H Q:=fun s _ r _=>
 wpAny_pure ⟨x,H,hr s r,St.refl r.hr,h⟩
end
theorem St.toks(hr:HRep w h0 Z H s.heap)(n:Nat):St w h0 Z H H s {s with toks:=n}:=St.grow hr (fun _ _ e=>e) rfl rfl
theorem je_int{pos:Pos}(h:Q (.int i) H):JE w h0 c A X (.Constant (.int i) k pos) l H Q:=fun _ _ r _=>
 wpAny_Constant_int ⟨_,H,.int i _,St.toks r.hr _,h⟩
theorem je_str{pos:Pos}(h:Q (.str x) H):JE w h0 c A X (.Constant (.str x) k pos) l H Q:=fun _ _ r _=>
 Constant_str ⟨_,H,.str x _,St.toks r.hr _,h⟩
theorem je_bool{b:Bool}{pos:Pos}(h:Q (.bool b) H):JE w h0 c A X (.Constant (.bool b) k pos) l H Q:=fun _ _ r _=>
 wpAny_Constant_bool ⟨_,H,.bool b,St.refl r.hr,h⟩
theorem je_none{pos:Pos}(h:Q .none H):JE w h0 c A X (.Constant .none k pos) l H Q:=fun _ _ r _=>
 wpAny_Constant_none ⟨_,H,.none,St.refl r.hr,h⟩
theorem je_var{pos:Pos}(hx:c.vars[k]? =some x)(hu:l[k]? =some (some u))(hd:(x==("__debug__":Str))=false)(h:Q u H):JE w h0 c A X (.Name x pos) l H Q:=fun _ _ r _=>by
 refine bc fun ng=>?_
 refine xe1 (r.lr.ns) ?_
 intro m qz11
 refine xa2 qz11 ?_
 clear qz11
 rintro hn hv
 refine ng ?_
 rcases hv k x u hx hu with⟨hk,v,hm,hr⟩|⟨hk,a,o,v,ha,ho,hd',hr⟩
 ·exact wpAny_Name (wpAny_loadName_local c.kind hk hn hm ⟨u,H,hr,St.refl r.hr,h⟩) hd
 ·rcases hk with hk|⟨hk,hcd⟩
  ·exact wpAny_Name (wpAny_loadName_cell c.kind hk ha ⟨o,ho,hd'⟩ ⟨u,H,hr,St.refl r.hr,h⟩) hd
  ·exact wpAny_Name (wpAny_loadName_free c.kind hk ha ⟨o,ho,hd'⟩ ⟨u,H,hr,St.refl r.hr,h⟩ hcd) hd
section
variable{E:Value→Shared→Prop}
noncomputable abbrev En(w:World)(h0:Heap)(Z:Addr→Prop)(H:Hp)(s:Shared)(Q:V→Hp→Prop):Value→Shared→Prop:=fun v s'=>∃x H',RV s'.heap (Pu H' Z) v x∧St w h0 Z H H' s s'∧Q x H'
theorem HRep.fresh_at(hr:HRep w h0 Z H s.heap):Pu H Z s.heap.objs.size∧s.heap.get? s.heap.objs.size=none:=by
 have hn:s.heap.get? s.heap.objs.size=none:=by
  cases e:s.heap.get? s.heap.objs.size with
  |none=>rfl
  |some o=>exact absurd (Heap.lt_size e) (Nat.lt_irrefl _)
 refine⟨⟨fun q=>?_,fun q=>?_⟩,hn⟩
 ·obtain⟨o,e⟩:=hr.foot_there q;rw[hn] at e;exact nope1 e
 ·obtain⟨o,e⟩:=hr.inH _ q;rw[hn] at e;exact nope1 e
theorem HRep.none_at(hr:HRep w h0 Z H s.heap)(h:s.heap.get? a=none):¬foot H a:=fun q=>by
 obtain⟨o,e⟩:=hr.foot_there q;rw[h] at e;exact nope1 e
theorem St.push(hr:HRep w h0 Z H s.heap)(o:Obj)(n:Nat):St w h0 Z H H s {s with heap:=s.heap.push o,toks:=n}:=St.grow hr (fun _ _ e=>Heap.get?_push_of_some o e) rfl rfl
noncomputable def asL(H:Hp):V→Option (List V)
 |.lst xs=>some xs
 |.ref a=>match H a with
  |some (.list xs)=>some xs
  |_=>none
 |_=>none
theorem asL_of(hr:HRep w h0 Z H s.heap){x:V}(r:RV s.heap (Pu H Z) v x)(e:asL H x=some xs):
  ∃a vs,v=.ref a∧s.heap.PlainList a vs.toArray∧RVs s.heap (Pu H Z) vs xs:=by
 delta asL at e
 split at e
 ·obtain rfl:=sj e
  refine bc fun ng=>?_
  refine xe2 (RV.lst_iff.mp r) ?_
  intro a vs qz12
  refine xa4 qz12 ?_
  clear qz12
  rintro rfl _ hl hv
  refine ng ?_
  exact⟨a,vs,rfl,hl,hv⟩
 ·rename_i a
  split at e
  ·rename_i q;obtain rfl:=sj e
   refine bc fun ng=>?_
   obtain⟨vs,hl,hv⟩:=hr.obj _ _ q
   refine ng ?_
   exact⟨a,vs,r.ref_iff,hl,hv⟩
  ·exact nope1 e
 ·exact nope1 e
noncomputable def newL(xs:List V)(H:Hp)(Q:V→Hp→Prop):Prop:=Q (.lst xs) H∨∀a,H a=none→Q (.ref a) (H.set a (.list xs))
theorem newL_at(hr:HRep w h0 Z H s.heap)(ha:s.heap.get? a=none)(k:∀b o,s.heap.get? b=some o→h'.get? b=some o)
  (hl:h'.PlainList a vs.toArray) (rv:RVs s.heap (Pu H Z) vs xs) (h:newL xs H Q):En w h0 Z H s Q (.ref a) {s with heap:=h',toks:=n}:=by
 have hp:Pu H Z a:=⟨hr.none_at ha,fun q=>by obtain⟨o,e⟩:=hr.inH _ q;rw[ha] at e;exact nope1 e⟩
 have st:St w h0 Z H H s {s with heap:=h',toks:=n}:=St.grow hr k rfl rfl
 rcases h with h|h
 ·exact⟨.lst xs,H,.lst hp hl rv.1 (st.rvs rv).2,st,h⟩
 ·have hHa:H a=none:=by
   cases e:H a with
   |none=>rfl
   |some o=>exact absurd (foot_of_some e) hp.1
  refine⟨.ref a,H.set a (.list xs),.ref a,⟨hr.alloc k (fun b hb=>by cases hb;exact ha) (fun C dx fs q=>by cases q) ⟨vs,hl,rv.mono (fun b o _ e=>k b o e) (fun b hb he=>⟨hb,he⟩)⟩,
   fun b o e _ _=>k b o e,fun b o _ e=>⟨o.slots,k b o e,fun _=>rfl⟩,fun b hb=>?_,rfl,rfl⟩,h a hHa⟩
  rcases(foot_set_new (o:=.list xs) (fun b hb=>by cases hb;exact hp.1) b).mp hb with q|q
  ·exact .inl q
  ·cases q;exact .inr ha
theorem newList_J(hr:HRep w h0 Z H s.heap)(rv:RVs s.heap (Pu H Z) vs xs)(hsz:xs.length≤1000000)(h:newL xs H Q):
  wpAny (MM w) A (newList vs) (En w h0 Z H s Q) E s:=by
 refine wpAny_newObj_type ?_ (by show vs.toArray.size≤sizeLine;rw[List.size_toArray,rv.1];exact Nat.le_trans hsz (by decide))
 exact newL_at (n:=s.toks) hr hr.fresh_at.2 (fun _ _ e=>Heap.get?_push_of_some _ e) ⟨_,Heap.get?_push_size _ rfl⟩ rv h
theorem newTuple_J(hr:HRep w h0 Z H s.heap)(rv:RVs s.heap (Pu H Z) vs xs)(hsz:xs.length≤1000000)(h:Q (.tup xs) H):
  wpAny (MM w) A (newTuple vs) (En w h0 Z H s Q) E s:=by
 refine wpAny_newObj_type ?_ (by show vs.toArray.size≤sizeLine;rw[List.size_toArray,rv.1];exact Nat.le_trans hsz (by decide))
 have st:St w h0 Z H H s {s with heap:=s.heap.push {cls:=.type "tuple",data:=.seq vs.toArray}}:=St.grow hr (fun _ _ e=>Heap.get?_push_of_some _ e) rfl rfl
 exact⟨.tup xs,H,.tup hr.fresh_at.1 ⟨_,Heap.get?_push_size _ rfl,rfl,_,rfl⟩ rv.1 (st.rvs rv).2,st,h⟩
noncomputable def bothI(x y:V)(k:Int→Int→Prop)(d:Prop):Prop:=match x with|.int a=>(match y with|.int b=>k a b|_=>d)|_=>d
theorem bothI_ex{x:V}{k:Int→Int→Prop}{d:Prop}(h:bothI x y k d):(∃a b,x=.int a∧y=.int b∧k a b)∨d:=by
 cases x<;>first|exact .inr h|skip
 cases y<;>first|exact .inr h|exact .inl ⟨_,_,rfl,rfl,h⟩
noncomputable def isIntV(y:V)(k:Int→Prop):Prop:=match y with|.int a=>k a|_=>False
theorem isIntV_ex{k:Int→Prop}(h:isIntV y k):∃a,y=.int a∧k a:=by
 cases y<;>first|exact h.elim|exact⟨_,rfl,h⟩
noncomputable def binV(op:Operator)(x y:V)(H:Hp)(Q:V→Hp→Prop):Prop:=match op with
 |.Add=>bothI x y (fun a b=>Q (.int (a+b)) H) (∃xs ys,asL H x=some xs∧asL H y=some ys∧xs.length+ys.length≤1000000∧newL (xs++ys) H Q)
 |.Sub=>bothI x y (fun a b=>Q (.int (a-b)) H) False
 |.Mod=>bothI x y (fun a b=>b≠0∧Q (.int (a.fmod b)) H) False
 |.Mult=>bothI x y (fun a b=>(a.natAbs≤2^40∧b.natAbs≤2^40)∧Q (.int (a*b)) H) (isIntV y fun k=>∃xs,asL H x=some xs∧0≤k∧k≤1000∧xs.length≤1000∧newL (List.replicate k.toNat xs).flatten H Q)
 |_=>False
theorem mul_list_J{l:Addr}{k:Int}{u:Tok}{Q:Value→Shared→Prop}(hl:s.heap.PlainList l vs.toArray)(h0:0≤k)(h1:k≤1000)(h2:vs.length≤1000)
  (h:Q (.ref s.heap.objs.size) {s with heap:=s.heap.push {cls:=.type "list",data:=.seq (List.replicate k.toNat vs).flatten.toArray}}):
  wpAny (MM w) A (binaryOp .Mult (.ref l) (.int k u)) Q E s:=by
 refine bc fun ng=>?_
 obtain⟨n,ho⟩:=id hl
 refine ng ?_
 have h3:vs.length*k.toNat≤1000*1000:=Nat.mul_le_mul h2 (li2 1 [_] [_] (.tn J0 U0) (.le J0 (.c 1000)) (.nle U0 (.c 1000)) rfl (tn (k)) h1)
 have e:∀m:Nat,List.foldl (fun x1 x2:Array Value=>x1++x2) #[] (List.replicate m vs.toArray)=(List.replicate m vs).flatten.toArray:=by
  have gen:∀(m:Nat) (acc:List Value),List.foldl (fun x1 x2:Array Value=>x1++x2) acc.toArray (List.replicate m vs.toArray)=(acc++(List.replicate m vs).flatten).toArray:=by
   intro m
   induction m with
   |zero=>intro acc;simp
   |succ m ih=>
    intro acc
    rw[List.replicate_succ,List.replicate_succ,List.foldl_cons,List.flatten_cons,←List.append_assoc,←ih]
    simp
  intro m
  exact(gen m []).trans (by simp)
 have e2:List.foldl (fun x1 x2:Array Value=>x1++x2) #[] (List.replicate (if vs.toArray.isEmpty=true then 0 else k.toNat) vs.toArray)=(List.replicate k.toNat vs).flatten.toArray:=by
  split
  ·rename_i hv
   have:vs=[]:=by simpa using hv
   subst this;simp
  ·exact e _
 rw[←e2] at h
 exact wpAny_binaryOp_repeat_ref (T:="list") (U:="int") (by decide) ⟨_,ho,rfl⟩ (fun s'=>typeIs_int s' k u) noFill_list_mul F.fills_int_mul F.slot_int_rmul repeat_list F.slot_int_index.lookup
  (call_meets F.slot_int_rmul (typeIs_int s k u) F.entry_int_rmul (F.args_int_rmul_2 _ _) (int___rmul___int_list k u l vs.toArray n) ⟨ho,rfl,⟨_,ho,rfl⟩,call_meets F.slot_list_mul ⟨_,ho,rfl⟩ F.entry_list_mul (F.args_list_mul_2 _ _)
   (AutoListH.list___mul___list_int_3 l vs.toArray n k u (by simp[Builtin.List.listFitsIndex];(exact li2 1 [_] [] (.le I0 J0) (.le J0 (.c 1000)) (.and (.le (.c (-9223372036854775808)) J0) (.lt J0 (.c (2^63)))) rfl h0 h1)) (by rw[List.size_toArray];exact Nat.not_lt.mpr (Nat.le_trans h3 (by decide))/-(first|lia|omega)-/) (by simp[Builtin.List.listTooLong,sizeLine];(exact li1 1 [] [_] (.nle U0 (.m 1000 (.c 1000))) (.nle U0 (.c 16777216)) rfl h3))) ⟨ho,h⟩⟩)
theorem add_lists_J{l:Addr}{Q:Value→Shared→Prop}(hl:s.heap.PlainList l vs.toArray)(hb:s.heap.PlainList b ws.toArray)
  (h:Q (.ref s.heap.objs.size) {s with heap:=s.heap.push {cls:=.type "list",data:=.seq (vs++ws).toArray}}) (hsz:vs.length+ws.length≤1000000):
  wpAny (MM w) A (binaryOp .Add (.ref l) (.ref b)) Q E s:=by
 refine bc fun ng=>?_
 obtain⟨n,ho⟩:=id hl
 obtain⟨n2,ho2⟩:=id hb
 refine ng ?_
 have hz:vs.toArray.size+ws.toArray.size≤sizeLine:=by
  have:(1000000:Nat)≤sizeLine:=by decide
  rw[List.size_toArray,List.size_toArray];(exact li2 3 [] [_,_,_] (.nle (.a U0 U1) (.c 1000000)) (.nle (.c 1000000) U2) (.nle (.a U0 U1) U2) rfl hsz this)
 refine concat_meets ⟨_,ho,rfl⟩ ⟨_,ho2,rfl⟩ noFill_list_add seq_list_add PySem.F.slot_list_add PySem.F.entry_list_add (PySem.F.args_list_add_2 _ _)
  (list_addW l b vs.toArray ws.toArray n n2 none none #[] #[] hz) ⟨ho,ho2,?_⟩
 have e:vs.toArray++ws.toArray=(vs++ws).toArray:=by simp
 rw[e];exact h
theorem RVs.flatten(r:RVs h P vs xs):∀n:Nat,RVs h P (List.replicate n vs).flatten (List.replicate n xs).flatten
 |0=>by simpa using RVs.nil
 |n+1=>by rw[List.replicate_succ,List.replicate_succ,List.flatten_cons,List.flatten_cons];exact r.append (r.flatten n)
theorem bin_J{op:Operator}{v₁ v₂:Value}{x:V}(hA:A.handled=none)(hr:HRep w h0 Z H s.heap)(r₁:RV s.heap (Pu H Z) v₁ x)(r₂:RV s.heap (Pu H Z) v₂ y)(h:binV op x y H Q):
  wpAny (MM w) A (binaryOp op v₁ v₂) (En w h0 Z H s Q) E s:=by
 have two:∀{k:Int→Int→Prop} {d:Prop},bothI x y k d→(∀a t b t',k a b→v₁=.int a t→v₂=.int b t'→wpAny (MM w) A (binaryOp op v₁ v₂) (En w h0 Z H s Q) E s)→(d→wpAny (MM w) A (binaryOp op v₁ v₂) (En w h0 Z H s Q) E s)→wpAny (MM w) A (binaryOp op v₁ v₂) (En w h0 Z H s Q) E s:=fun e k kd=>by
  rcases bothI_ex e with⟨a,b,rfl,rfl,e⟩|e
  ·refine bc fun ng=>?_
   refine xe1 (r₁.int_iff) ?_
   rintro t h1
   refine xe1 (r₂.int_iff) ?_
   rintro t' h2
   refine ng ?_
   exact k a t b t' e h1 h2
  ·exact kd e
 cases op<;>first|exact h.elim|skip
 ·refine two h (fun a t b t' e h1 h2=>by subst h1 h2;exact P.add_int ⟨_,H,.int _ _,St.toks hr _,e⟩) fun⟨xs,ys,e₁,e₂,hsz,h⟩=>?_
  refine bc fun ng=>?_
  refine xe2 (asL_of hr r₁ e₁) ?_
  intro a vs qz13
  refine xa3 qz13 ?_
  clear qz13
  rintro rfl hl rv
  refine xe2 (asL_of hr r₂ e₂) ?_
  intro b ws qz14
  refine xa3 qz14 ?_
  clear qz14
  rintro rfl hl₂ rv₂
  refine ng ?_
  exact add_lists_J hl hl₂ (newL_at (n:=s.toks) hr hr.fresh_at.2 (fun _ _ e=>Heap.get?_push_of_some _ e) ⟨_,Heap.get?_push_size _ rfl⟩ (rv.append rv₂) h) (by rw[rv.1,rv₂.1];exact hsz)
 ·exact two h (fun a t b t' e h1 h2=>by subst h1 h2;exact P.sub_int ⟨_,H,.int _ _,St.toks hr _,e⟩) fun h=>h.elim
 ·refine two h (fun a t b t' e h1 h2=>by subst h1 h2;exact P.mul_int ⟨_,H,.int _ _,St.toks hr _,e.2⟩ (IntMulOk.of_right (intBits_le_64 (a_nb e.1.2).1/-(first|lia|omega)-/(a_nb e.1.2).2/-(first|lia|omega)-/))) fun h=>?_
  refine bc fun ng=>?_
  obtain⟨k,rfl,xs,e₁,k0,k1,hsz,h⟩:=isIntV_ex h
  refine xe2 (asL_of hr r₁ e₁) ?_
  intro a vs qz15
  refine xa3 qz15 ?_
  clear qz15
  rintro rfl hl rv
  refine xe1 (r₂.int_iff) ?_
  rintro u rfl
  refine ng ?_
  exact mul_list_J hl k0 k1 (by rw[rv.1];exact hsz) (newL_at (n:=s.toks) hr hr.fresh_at.2 (fun _ _ e=>Heap.get?_push_of_some _ e) ⟨_,Heap.get?_push_size _ rfl⟩ (rv.flatten _) h)
 ·exact two h (fun a t b t' e h1 h2=>by subst h1 h2;exact mod_int e.1 ⟨_,H,.int _ _,St.toks hr _,e.2⟩) fun h=>h.elim
end
theorem RV.handed{x:V}(r:RV h P v x)(hx:x≠.opq):handedIn v=true:=by
 cases r<;>first|rfl|exact absurd rfl hx
section
variable{E:Value→Shared→Prop}
theorem instAt_of(hi:IsInst s.heap a C dx)(hn:s.heap.Ns dx m):∃od,InstAt s.heap a (instObj C dx) C (some od)∧∀x,lookIn x od=some (m x):=by
 refine bc fun ng=>?_
 obtain⟨o,es,ep,ho,hd,hk,hm⟩:=hn
 refine ng ?_
 refine⟨o,⟨hi,rfl,rfl,ho⟩,fun x=>?_⟩
 delta lookIn
 rw[hd]
 dsimp only
 rw[←hm x]
 delta nsFind findBy
 rw[←Array.find?_toList]
 cases e:List.find? (fun e=>e.key.isStr x) es.toList with
 |some en=>simp
 |none=>
  have:es.toList.any (·.refKey)=false:=by
   rw[List.any_eq_false]
   intro e' he'
   refine bc fun ng=>?_
   refine xe2 (hk e' (Array.mem_toList_iff.mp he')) ?_
   rintro n t q
   refine ng ?_
   simp[DictEntry.refKey,q]
  simp[this]
theorem attr_w{ex:Bool}{Q:Value→Shared→Prop}(X:K.In s.heap)(hC:clsOK K C=true)(hf:fldOK K C x=true)(hi:IsInst s.heap a C dx)(hn:s.heap.Ns dx m)(hv:m x=some v)(hh:handedIn v=true)
  (h:Q v {s with toks:=s.toks+1}):wpAny (MM w) A (getAttr (.ref a) x ex) Q E s:=by
 refine bc fun ng=>?_
 refine xe1 (instAt_of hi hn) ?_
 intro od qz16
 refine xa2 qz16 ?_
 clear qz16
 rintro I hl
 refine ng ?_
 delta clsOK at hC;simp-iota only[Bool.and_eq_true,beq_iff_eq] at hC
 refine bc fun ng=>?_
 refine xa2 (hC) ?_
 try clear hC
 rintro⟨⟨⟨c1,c2⟩,c3⟩,c4⟩ c5
 refine ng ?_
 refine get_value X I c1 ?_ hh h
 refine bc fun ng=>?_
 refine xe1 (any_some c5) ?_
 intro cd qz17
 refine xa2 qz17 ?_
 clear qz17
 rintro hc hd
 refine ng ?_
 delta fldOK at hf;simp-iota only[Bool.and_eq_true,beq_iff_eq] at hf
 have ho:W.ownOf cd (some od) x=some (some v):=by delta W.ownOf;rw[if_pos hd];show lookIn x od=_;rw[hl,hv]
 delta findObj
 rw[hc,Option.bind_some]
 cases e:findIn K (.ref C) x with
 |none=>rw[e] at hf;exact nope3 hf.2
 |some attr=>
  rw[e] at hf
  cases attr with
  |none=>show(W.ownOf cd (some od) x).bind _=_;rw[ho];rfl
  |some at'=>
   have hf:=Bool.and_eq_true_iff.mp hf.2
   refine bc fun ng=>?_
   refine xe1 (Option.isSome_iff_exists.mp hf.1) ?_
   rintro g hg
   refine ng ?_
   cases g with
   |none=>show(specialIn K at' _).bind _=_;rw[hg];show(W.ownOf cd (some od) x).bind _=_;rw[ho];rfl
   |some g=>show(specialIn K at' _).bind _=_;rw[hg];show(takesIn K at').bind _=_;rw[eq_of_beq hf.2];show(W.ownOf cd (some od) x).bind _=_;rw[ho];rfl
theorem setattr_w{Q:Unit→Shared→Prop}(X:K.In s.heap)(hC:clsOK K C=true)(hf:fldOK K C x=true)(hi:IsInst s.heap a C dx)(hn:DNs s.heap dx m N)(hN:N≤900)
  (h:∀hash tk,Q () {s with heap:=s.heap.update dx (Obj.putName x hash (.str x tk) v),toks:=s.toks+2}):wpAny (MM w) A (setAttr (.ref a) x v) Q E s:=by
 refine bc fun ng=>?_
 refine xe1 (instAt_of hi hn.ns) ?_
 intro od qz18
 refine xa2 qz18 ?_
 clear qz18
 rintro I hl
 refine ng ?_
 delta clsOK at hC;simp-iota only[Bool.and_eq_true,beq_iff_eq] at hC
 refine bc fun ng=>?_
 refine xa2 (hC) ?_
 try clear hC
 rintro⟨⟨⟨c1,c2⟩,c3⟩,c4⟩ c5
 refine ng ?_
 delta fldOK at hf;simp-iota only[Bool.and_eq_true,beq_iff_eq] at hf
 refine set_plain X I c3 (osa_open (s:={s with toks:=s.toks+1}) X I c4 hf.1 fun b=>?_)
 refine bc fun ng=>?_
 refine xe1 (any_some c5) ?_
 intro cd qz19
 refine xa2 qz19 ?_
 clear qz19
 rintro hc hd
 refine ng ?_
 have D:=hn.put x (PyData.keyHash w.params x) (s.toks+1) v
 refine bc fun ng=>?_
 obtain⟨es',n',ho',hk',hm',hN'⟩:=D
 obtain⟨es,n,ho,hk,hm,hN2⟩:=hn
 refine ng ?_
 refine wpAny_bind (wpAny_pure (wpAny_bind (wpAny_bind (wpAny_loadPart hi (wpAny_bind (looks_clsIn X hc _ _ _ _ (fun _ _ e=>e) ?_))))))
 rw[hd]
 refine wpAny_pure (a:=some dx) (wpAny_bind (wpAny_pure (wpAny_bind ?_)))
 delta nsSet
 refine wpAny_bind (wpAny_bind (wpAny_askSetting (wpAny_pure (wpAny_bind (wpAny_mkText (wpAny_bind (wpAny_loadPart ho ?_)))))))
 have hany:es.any (·.refKey)=false:=by
  rw[Array.any_eq_false'];intro e he;obtain⟨n,t,h⟩:=hk e he;simp[DictEntry.refKey,h]
 dsimp only
 rw[aRefKeyMayBeTheName_eq]
 simp-iota only[aRefKeyMayBeTheNameByArray,hany,Bool.and_false,Bool.false_eq_true,if_false]
 refine wpAny_updatePart ho ?_
 refine wpAny_bind (wpAny_lookBehind ho' (pastItsLine_dict ?_) ?_)
 ·have:(2000:Nat)≤sizeLine+1:=by decide
  exact Nat.le_trans (a_ite hN') (Nat.le_trans (Nat.le_trans (Nat.succ_le_succ hN) (bl rfl)) this)
 ·exact wpAny_pure (h _ _)
noncomputable def getF(H:Hp)(k:Nat):V→Option V
 |.obj _ fs=>look k fs
 |.ref a=>match H a with
  |some (.inst _ _ fs)=>look k fs
  |_=>none
 |_=>none
noncomputable def isOpq:V→Bool
 |.opq=>true
 |_=>false
theorem getF_J{x:V}{ex:Bool}(X:K.In h0)(OK:KOK K)(hr:HRep w h0 Z H s.heap)(rv:RV s.heap (Pu H Z) v x)(hk:k< 87)(e:getF H k x=some u)(hu:isOpq u=false)(h:Q u H):
  wpAny (MM w) A (getAttr v (fname k) ex) (En w h0 Z H s Q) E s:=by
 have X':=X.keeps hr.keep
 have fin:∀{a C dx m} {fs:List (Nat×V)},C∈clss→IsInst s.heap a C dx→s.heap.Ns dx m→FR s.heap (Pu H Z) m fs→look k fs=some u→wpAny (MM w) A (getAttr (.ref a) (fname k) ex) (En w h0 Z H s Q) E s:=by
  intro a C dx m fs hC hi hn hf hl
  refine bc fun ng=>?_
  refine xe1 (hf.hit k u hl) ?_
  intro v qz20
  refine xa2 qz20 ?_
  clear qz20
  rintro hm r
  refine ng ?_
  exact attr_w X' (OK.cls C hC) (OK.fld C hC k hk) hi hn hm (r.handed (by rintro rfl;exact nope4 hu)) ⟨u,H,r,St.toks hr _,h⟩
 delta getF at e
 split at e
 ·refine bc fun ng=>?_
  refine xe3 (RV.obj_iff.mp rv) ?_
  intro a dx m qz21
  refine xa7 qz21 ?_
  clear qz21
  rintro rfl _ _ hC hi hn hf
  refine ng ?_
  exact fin hC hi hn hf e
 ·rename_i a
  cases rv.ref_iff
  split at e
  ·rename_i q
   refine bc fun ng=>?_
   obtain⟨hC,hi,m,hn,hf⟩:=hr.obj _ _ q
   refine ng ?_
   exact fin hC hi hn.ns hf e
  ·exact nope1 e
 ·exact nope1 e
noncomputable def putF(H:Hp)(k:Nat)(x y:V)(Q:Hp→Prop):Prop:=match x with
 |.ref a=>match H a with
  |some (.inst C dx fs)=>fs.length≤900∧Q (H.set a (.inst C dx (setF k y fs)))
  |_=>False
 |_=>False
theorem putF_J{u:Value}{x:V}{Q:Hp→Prop}(X:K.In h0)(OK:KOK K)(hr:HRep w h0 Z H s.heap)(rv:RV s.heap (Pu H Z) v x)(ru:RV s.heap (Pu H Z) u y)(hk:k< 87)(h:putF H k x y Q):
  wpAny (MM w) A (setAttr v (fname k) u) (fun _ s'=>∃H',St w h0 Z H H' s s'∧Q H') E s:=by
 delta putF at h
 split at h
 ·rename_i a
  cases rv.ref_iff
  split at h
  ·rename_i C dx fs q
   refine bc fun ng=>?_
   refine xa2 (h) ?_
   try clear h
   rintro hl h
   obtain⟨hC,hi,m,hn,hf⟩:=hr.obj _ _ q
   refine ng ?_
   refine setattr_w (X.keeps hr.keep) (OK.cls C hC) (OK.fld C hC k hk) hi hn hl fun hash tk=>?_
   have hdf:foot H dx:=.inr ⟨_,_,_,q⟩
   have hne:a≠dx:=by
    rintro rfl
    have:=(hr.apart _ _ _ _ q).1;rw[q] at this;exact nope2 this
   have other:∀b,b≠dx→(s.heap.update dx (Obj.putName (fname k) hash (.str (fname k) tk) u)).get? b=s.heap.get? b:=fun b hb=>Heap.get?_update_ne _ _ _ _ hb
   have hD:DNs (s.heap.update dx (Obj.putName (fname k) hash (.str (fname k) tk) u)) dx (fun z=>if z=fname k then some u else m z) (setF k y fs).length:=by
    have:=hn.put (fname k) hash tk u
    rw[hf.isSome] at this
    rw[setF_length];exact this
   have hF:FR (s.heap.update dx (Obj.putName (fname k) hash (.str (fname k) tk) u)) (Pu H Z) (fun z=>if z=fname k then some u else m z) (setF k y fs):=
    (hf.set k ru).mono (fun b o hb e=>(other b fun q'=>hb.1 (q'▸hdf)).trans e) fun b hb _=>hb
   refine⟨H.set a (.inst C dx (setF k y fs)),⟨hr.put (h':=s.heap.update dx (Obj.putName (fname k) hash (.str (fname k) tk) u)) q (fun b=>Iff.rfl) (fun b hb=>other b fun e=>hb (.inr e)) ⟨hC,(other a hne).trans hi,_,hD,hF⟩,fun b o e hfb _=>(other b fun q'=>hfb (q'▸hdf)).trans e,
    fun b o hz e=>⟨o.slots,(other b fun q'=>hr.notZ dx hdf (q'▸hz)).trans e,fun _=>rfl⟩,fun b hb=>.inl ((foot_set_same (o':=.inst C dx (setF k y fs)) q (fun b=>Iff.rfl) b).mp hb),rfl,rfl⟩,h⟩
  ·exact h.elim
 ·exact h.elim
end
noncomputable def OptP{α:Type}:Option α→(α→Prop)→Prop
 |some u,Q=>Q u
 |none,_=>False
theorem OptP.ex{α:Type}{o:Option α}{Q:α→Prop}(h:OptP o Q):∃u,o=some u∧Q u:=by cases o with
 |none=>exact h.elim
 |some u=>exact⟨u,rfl,h⟩
noncomputable def BoolP:V→(Bool→Prop)→Prop
 |.bool b,Q=>Q b
 |_,_=>False
theorem BoolP.ex{v:V}{Q:Bool→Prop}(h:BoolP v Q):∃b,v=.bool b∧Q b:=by cases v with
 |bool b=>exact⟨b,rfl,h⟩
 |_=>exact h.elim
noncomputable def IntP:V→(Int→Prop)→Prop
 |.int b,Q=>Q b
 |_,_=>False
noncomputable def LstP:V→(List V→Prop)→Prop
 |.lst b,Q=>Q b
 |_,_=>False
theorem LstP.ex{v:V}{Q:List V→Prop}(h:LstP v Q):∃b,v=.lst b∧Q b:=by cases v with
 |lst b=>exact⟨b,rfl,h⟩
 |_=>exact h.elim
noncomputable def TupP:V→(List V→Prop)→Prop
 |.tup b,Q=>Q b
 |_,_=>False
theorem TupP.ex{v:V}{Q:List V→Prop}(h:TupP v Q):∃b,v=.tup b∧Q b:=by cases v with
 |tup b=>exact⟨b,rfl,h⟩
 |_=>exact h.elim
noncomputable def SeqP:V→(List V→Prop)→Prop
 |.lst b,Q=>Q b
 |.tup b,Q=>Q b
 |_,_=>False
noncomputable def getL:Loc→Nat→Option V
 |[],_=>none
 |x::_,0=>x
 |_::r,k+1=>getL r k
noncomputable def setL:Loc→Nat→V→Loc
 |[],_,_=>[]
 |_::r,0,v=>some v::r
 |x::r,k+1,v=>x::setL r k v
noncomputable def unL:Loc→Nat→Loc
 |[],_=>[]
 |_::r,0=>none::r
 |x::r,k+1=>x::unL r k
noncomputable def isNoneV:V→Option Bool
 |.none=>some true
 |.opq=>none
 |_=>some false
noncomputable def twoI(x y:V)(f:Int→Int→Bool):Option Bool:=match x with|.int a=>(match y with|.int b=>some (f a b)|_=>none)|_=>none
theorem twoI_ex{x:V}{f:Int→Int→Bool}{p:Bool}(h:twoI x y f=some p):∃a b,x=.int a∧y=.int b∧f a b=p:=by
 cases x<;>first|exact nope1 h|skip
 cases y<;>first|exact nope1 h|exact⟨_,_,rfl,rfl,sj h⟩
noncomputable def eqV(x y:V):Option Bool:=match x with|.str a=>(match y with|.str b=>some (decide (a=b))|_=>none)|_=>twoI x y fun a b=>decide (a=b)
theorem eqV_ex{x:V}{p:Bool}(h:eqV x y=some p):(∃a b,x=.str a∧y=.str b∧decide (a=b)=p)∨twoI x y (fun a b=>decide (a=b))=some p:=by
 cases x<;>first|exact .inr h|skip
 cases y<;>first|exact nope1 h|exact .inl ⟨_,_,rfl,rfl,sj h⟩
theorem str_beq(a b:Str):(a==b)=decide (a=b):=by
 cases q:a==b with
 |true=>exact(decide_eq_true (eq_of_beq q)).symm
 |false=>exact(decide_eq_false (ne_of_beq_false q)).symm
noncomputable def isV(x y:V)(f:Bool→Bool):Option Bool:=match y with|.none=>(isNoneV x).map f|_=>none
noncomputable def cmpV(op:CmpOp)(x y:V):Option Bool:=match op with
 |.Eq=>eqV x y
 |.NotEq=>twoI x y fun a b=> !decide (a=b)
 |.Lt=>twoI x y fun a b=>decide (a< b)
 |.LtE=>twoI x y fun a b=>decide (a≤b)
 |.Gt=>twoI x y fun a b=>decide (b< a)
 |.GtE=>twoI x y fun a b=>decide (b≤a)
 |.Is=>isV x y id
 |.IsNot=>isV x y (!·)
 |_=>none
theorem toDs_n:toDs []=some []:=rfl
theorem toDs_c(x:V)(r:List V):toDs (x::r)=(toD x).bind fun d=>(toDs r).map (d::·):=rfl
theorem toD_l(xs:List V):toD (.lst xs)=(toDs xs).map .list:=rfl
theorem toD_t(xs:List V):toD (.tup xs)=(toDs xs).map .tuple:=rfl
noncomputable def instOf(H:Hp):V→Option (Addr×List (Nat×V))
 |.obj C fs=>some (C,fs)
 |.ref a=>match H a with
  |some (.inst C _ fs)=>some (C,fs)
  |_=>none
 |_=>none
noncomputable def seqOf(H:Hp):V→Option (List V)
 |.tup xs=>some xs
 |x=>asL H x
noncomputable def find2{α:Type}[DecidableEq α](k:α):List (α×V)→Option V
 |[]=>none
 |(j,u)::r=>if k=j then some u else find2 k r
noncomputable def subV(H:Hp)(x:V)(i:V):Option V:=match i with
 |.int k=>match x with
  |.ref a=>match H a with
   |some (.list xs)=>if 0≤k∧k< 2^60 then xs[k.toNat]? else none
   |some (.idict es)=>find2 k es
   |_=>none
  |.lst xs=>if 0≤k∧k< 2^60 then xs[k.toNat]? else none
  |.tup xs=>if 0≤k∧k< 2^60 then xs[k.toNat]? else none
  |_=>none
 |_=>none
noncomputable def subK(H:Hp)(x:V)(k:Nat):Option V:=match x with
 |.ref a=>match H a with
  |some (.sdict es)=>find2 k es
  |_=>none
 |_=>none
noncomputable def putD{α:Type}[DecidableEq α](k:α)(v:V):List (α×V)→List (α×V)
 |[]=>[(k,v)]
 |(j,u)::r=>if k=j then(j,v)::r else(j,u)::putD k v r
noncomputable def putI(H:Hp)(x i v:V)(Q:Hp→Prop):Prop:=match i with
 |.int k=>match x with
  |.ref a=>match H a with
   |some (.list xs)=>(0≤k∧k< 2^60∧k< xs.length)∧Q (H.set a (.list (xs.set k.toNat v)))
   |some (.idict es)=>es.length≤1000∧Q (H.set a (.idict (putD k v es)))
   |_=>False
  |_=>False
 |_=>False
noncomputable def putK(H:Hp)(x:V)(k:Nat)(v:V)(Q:Hp→Prop):Prop:=match x with
 |.ref a=>match H a with
  |some (.sdict es)=>es.length≤1000∧Q (H.set a (.sdict (putD k v es)))
  |_=>False
 |_=>False
noncomputable def partV:V→Option (Option Int)
 |.none=>some none
 |.int k=>if 0≤k∧k< 2^60 then some (some k) else none
 |_=>none
noncomputable def cutV(xs:List V)(lo hi:Option Int):List V:=((match hi with|some h=>xs.take h.toNat|none=>xs).drop (match lo with|some l=>l.toNat|none=>0))
noncomputable def asS(H:Hp):V→Option (List V)
 |.scr is=>some (is.map .int)
 |x=>asL H x
noncomputable def sliceV(H:Hp)(x lo hi:V)(Q:List V→Prop):Prop:=OptP (asS H x) fun xs=>OptP (partV lo) fun l=>OptP (partV hi) fun h=>xs.length≤1000000∧Q (cutV xs l h)
noncomputable def putSl(H:Hp)(x lo hi y:V)(Q:Hp→Prop):Prop:=match x,lo,hi with
 |.ref a,.int l,.int h=>match H a with
  |some (.list xs)=>OptP (asL H y) fun ys=>(0≤l∧l≤h∧h≤xs.length∧xs.length≤100000∧ys.length≤100000)∧Q (H.set a (.list (xs.take l.toNat++ys++xs.drop h.toNat)))
  |_=>False
 |_,_,_=>False
noncomputable def appV(H:Hp)(x y:V)(Q:Hp→Prop):Prop:=match x with
 |.ref a=>match H a with
  |some (.list xs)=>xs.length≤100000∧Q (H.set a (.list (xs++[y])))
  |_=>False
 |_=>False
noncomputable def extV(H:Hp)(x y:V)(Q:Hp→Prop):Prop:=match x with
 |.ref a=>match H a with
  |some (.list xs)=>LstP y fun ys=>(xs.length≤100000∧ys.length≤100000)∧Q (H.set a (.list (xs++ys)))
  |_=>False
 |_=>False
noncomputable def negV:V→(V→Prop)→Prop
 |.int i,Q=>Q (.int (-i))
 |_,_=>False
noncomputable def notV:V→(V→Prop)→Prop
 |.bool i,Q=>Q (.bool (!i))
 |_,_=>False
noncomputable def intsOf:List V→Option (List Int)
 |[]=>some []
 |.int i::r=>(intsOf r).map (i::·)
 |_::_=>none
noncomputable def b1V(H:Hp):B1→V→(V→Prop)→Prop
 |.len,x,Q=>OptP (seqOf H x) fun xs=>xs.length< 2^60∧Q (.int xs.length)
 |.abs,.int i,Q=>Q (.int i.natAbs)
 |.sum,.lst xs,Q=>OptP (intsOf xs) fun is=>Q (.int is.sum)
 |.sorted,.lst xs,Q=>OptP (intsOf xs) fun is=>is.length< 64∧∀ys:List Int,ys.Perm is→ys.Pairwise (·≤·)→Q (.lst (ys.map .int))
 |.sorted,.ref a,Q=>match H a with
  |some (.idict es)=>es.length< 64∧∀ys:List Int,ys.Perm (es.map (·.1))→ys.Pairwise (·≤·)→Q (.lst (ys.map .int))
  |_=>False
 |.list,.lst xs,Q=>xs.length≤100000∧Q (.lst xs)
 |_,_,_=>False
noncomputable def b2V:B2→V→V→(V→Prop)→Prop
 |.min,.int a,.int b,Q=>Q (.int (min a b))
 |.max,.int a,.int b,Q=>Q (.int (max a b))
 |_,_,_,_=>False
noncomputable def Frz(x:V)(H:Hp)(Q:V→Hp→Prop):Prop:=∃y H' D,Sub H' H∧(∀a o,D a=some o→H a=some o∧H' a=none)∧Pr D x y∧Q y H'
noncomputable def bindT:Tg→V→Loc→Option Loc
 |.nm k,v,l=>some (setL l k v)
 |.tp ks,.tup xs,l=>if ks.length=xs.length then some ((ks.zip xs).foldl (fun l p=>setL l p.1 p.2) l) else none
 |_,_,_=>none
theorem bindT_tp(h:bindT (.tp ks) u l=some l'):∃xs,u=.tup xs∧ks.length=xs.length∧(ks.zip xs).foldl (fun l p=>setL l p.1 p.2) l=l':=by
 cases u<;>first|exact nope1 h|skip
 rename_i xs
 have h:(if ks.length=xs.length then some ((ks.zip xs).foldl (fun l p=>setL l p.1 p.2) l) else none)=some l':=h
 by_cases q:ks.length=xs.length
 ·rw[if_pos q] at h;exact⟨xs,rfl,q,sj h⟩
 ·rw[if_neg q] at h;exact nope1 h
noncomputable def rangeV(a b:Int):List V:=(List.range (b-a).toNat).map fun(i:Nat)=>.int (a+(i:Int))
structure Act(c:Cx)(A:Around)(n:Nat):Prop where
 handled:A.handled=none
 depth:A.depth+4*n≤900
 units:A.units+20*n≤9000
 frames:∃l,A.frames=some l∧∀env∈l,env.scope.kind≠.module∧∃L,env.frame=some L∧c.Z L∧(L=c.env.locals∨∃o,c.e L=some o∧¬Fx o.data)
theorem fx_dict{d:Data}{es:Array DictEntry}(h:d=.dict es n):¬Fx d:=by
 rintro(⟨vs,q⟩|⟨vs,k,q⟩|q)<;>(rw[h] at q;cases q)
theorem Act.room(a:Act c A n)(r:Rep w h0 c l H s):Room A n c.Z s.heap:=by
 refine bc fun ng=>?_
 obtain⟨h1,h2,h3,fl,h4,h5⟩:=a
 refine ng ?_
 refine⟨h1,h2,h3,fl,h4,fun env he=>?_⟩
 refine bc fun ng=>?_
 obtain⟨hk,L,hL,hZ,hL2⟩:=h5 env he
 refine ng ?_
 refine⟨hk,L,?_⟩
 rcases hL2 with rfl|⟨o,ho,hd⟩
 ·refine bc fun ng=>?_
  refine xe1 (r.lr.ns) ?_
  intro m qz22
  refine xa2 qz22 ?_
  clear qz22
  rintro⟨o,es,ep,ho,hd,_⟩ _
  refine ng ?_
  exact⟨o,hL,hZ,ho,fx_dict hd⟩
 ·refine bc fun ng=>?_
  obtain⟨sl,e,_⟩:=r.oldZ L o ho hZ
  refine ng ?_
  exact⟨_,hL,hZ,e,hd⟩
theorem Act.le{m:Nat}(r:Act c A n)(hm:m≤n):Act c A m:=⟨r.handled,by have:=r.depth;(exact li2 3 [] [_,_,_] (.nle U0 U1) (.nle (.a U2 (.m 4 U1)) (.c 900)) (.nle (.a U2 (.m 4 U0)) (.c 900)) rfl hm this),by have:=r.units;(exact li2 3 [] [_,_,_] (.nle U0 U1) (.nle (.a U2 (.m 20 U1)) (.c 9000)) (.nle (.a U2 (.m 20 U0)) (.c 9000)) rfl hm this),r.frames⟩
theorem Fn.wp{w:World}{h0:Heap}(h:Fn w h0 n f xs H Q X){E:Value→Shared→Prop}(r:Room A n Z s.heap)(hr:HRep w h0 Z H s.heap)(hg:s.gens=#[])(rv:RVs s.heap (Pu H Z) vs xs)
  (hE:∀a s' H' g,St w h0 Z H H' s s'→ExcAt w h0 A Z (foot H) (entE s.heap H) H' a s'.heap g→X H'→E (.ref a) s'):wpAny (MM w) A (call (.ref f) vs) (En w h0 Z H s Q) E s:=
 wpAny_call (h A Z s _ vs r hr hg rv (fun v s' x H' a b q=>⟨x,H',a,b,q⟩) hE)
section
variable(w:World)(h0:Heap)(n:Nat)
noncomputable def compV(body:V→Hp→(Option V→Hp→Prop)→Prop):List V→List V→Hp→(List V→Hp→Prop)→Prop
 |[],acc,H,Q=>Q acc H
 |x::r,acc,H,Q=>body x H fun o H'=>compV body r (match o with|some v=>acc++[v]|none=>acc) H' Q
noncomputable def flatV:List V→Option (List V)
 |[]=>some []
 |.lst ys::r=>(flatV r).map (ys++·)
 |_::_=>none
noncomputable def Hp.del(H:Hp)(a:Addr):Hp:=fun b=>if b=a then none else H b
noncomputable def zeros:Nat→List V→Bool
 |0,xs=>xs.isEmpty
 |n+1,xs=>(match xs with|x::r=>(match x with|.int i=>decide (i=0)&&zeros n r|_=>false)|[]=>false)
noncomputable def keyV:V→Bool
 |.str _=>true
 |.tup xs=>zeros 6 xs
 |_=>false
noncomputable def itemsP:Bool→V→(List V→Prop)→Prop
 |true,.int b,Q=> -100000≤b∧Q (rangeV 0 b)
 |false,.lst xs,Q=>Q xs
 |_,_,_=>False
theorem items_f{v:V}{Q:List V→Prop}(h:itemsP false v Q):∃xs,v=.lst xs∧Q xs:=by cases v with
 |lst b=>exact⟨b,rfl,h⟩
 |_=>exact h.elim
theorem items_t{v:V}{Q:List V→Prop}(h:itemsP true v Q):∃b,v=.int b∧-100000≤b∧Q (rangeV 0 b):=by cases v with
 |int b=>exact⟨b,rfl,h⟩
 |_=>exact h.elim
noncomputable def capOf(l:Loc):Option Nat→Option V
 |some k=>getL l k
 |none=>none
noncomputable def capL(nv:Nat)(cap:List (Option Nat))(l:Loc):Loc:=List.replicate nv none++cap.map (capOf l)
mutual
noncomputable def vcE(X:Hp→Prop):E→Loc→Hp→(V→Hp→Prop)→Prop
 |.int i,l,H,Q=>Q (.int i) H
 |.str x,l,H,Q=>Q (.str x) H
 |.bool b,l,H,Q=>Q (.bool b) H
 |.none,l,H,Q=>Q .none H
 |.var k,l,H,Q=>OptP (getL l k) fun u=>Q u H
 |.glob _ u,l,H,Q=>Q u H
 |.neg e,l,H,Q=>vcE X e l H fun v H'=>negV v fun u=>Q u H'
 |.not e,l,H,Q=>vcE X e l H fun v H'=>notV v fun u=>Q u H'
 |.bin op a b,l,H,Q=>vcE X a l H fun v H₁=>vcE X b l H₁ fun u H₂=>binV op v u H₂ Q
 |.addM a b,l,H,Q=>vcE X a l H fun v H₁=>vcE X b l H₁ fun u H₂=>OptP (asL H₂ v) fun xs=>OptP (asL H₂ u) fun ys=>xs.length+ys.length≤1000000∧∀c,H₂ c=none→Q (.ref c) (H₂.set c (.list (xs++ys)))
 |.cmp op a b,l,H,Q=>vcE X a l H fun v H₁=>vcE X b l H₁ fun u H₂=>OptP (cmpV op v u) fun p=>Q (.bool p) H₂
 |.cmp2 o₁ o₂ a b c,l,H,Q=>vcE X a l H fun x H₁=>vcE X b l H₁ fun y H₂=>OptP (cmpV o₁ x y) fun p=>(p=true→vcE X c l H₂ fun z H₃=>OptP (cmpV o₂ y z) fun q=>Q (.bool q) H₃)∧(p=false→Q (.bool false) H₂)
 |.cmp3 o₁ o₂ o₃ a b c d,l,H,Q=>vcE X a l H fun x H₁=>vcE X b l H₁ fun y H₂=>OptP (cmpV o₁ x y) fun p=>(p=true→vcE X c l H₂ fun z H₃=>OptP (cmpV o₂ y z) fun q=>
   (q=true→vcE X d l H₃ fun u H₄=>OptP (cmpV o₃ z u) fun r=>Q (.bool r) H₄)∧(q=false→Q (.bool false) H₃))∧(p=false→Q (.bool false) H₂)
 |.cmpD op a b,l,H,Q=>vcE X a l H fun v H₁=>vcE X b l H₁ fun u H₂=>∃d e,toD v=some d∧toD u=some e∧kqdOk 8 d=true∧kqdOk 8 e=true∧
   match op with|.Eq=>∀p:Bool,(p=true↔d=e)→Q (.bool p) H₂|.NotEq=>∀p:Bool,(p=true↔d≠e)→Q (.bool p) H₂|_=>False
 |.and a b,l,H,Q=>vcE X a l H fun v H₁=>BoolP v fun p=>(p=true→vcE X b l H₁ Q)∧(p=false→Q (.bool false) H₁)
 |.or a b,l,H,Q=>vcE X a l H fun v H₁=>BoolP v fun p=>(p=false→vcE X b l H₁ Q)∧(p=true→Q (.bool true) H₁)
 |.ite c a b,l,H,Q=>vcE X c l H fun v H₁=>BoolP v fun p=>(p=true→vcE X a l H₁ Q)∧(p=false→vcE X b l H₁ Q)
 |.attr e k,l,H,Q=>vcE X e l H fun v H₁=>OptP (getF H₁ k v) fun u=>isOpq u=false∧Q u H₁
 |.excSym e,l,H,Q=>vcE X e l H fun v H₁=>match v with|.exc x=>Q (.str x) H₁|_=>False
 |.sub e i,l,H,Q=>vcE X e l H fun v H₁=>vcE X i l H₁ fun j H₂=>OptP (subV H₂ v j) fun u=>Q u H₂
 |.subK e k,l,H,Q=>vcE X e l H fun v H₁=>OptP (subK H₁ v k) fun u=>Q u H₁
 |.slice e lo hi,l,H,Q=>vcE X e l H fun v H₁=>vcE X lo l H₁ fun a H₂=>vcE X hi l H₂ fun b H₃=>sliceV H₃ v a b fun xs=>Q (.lst xs) H₃
 |.tup es,l,H,Q=>vcEs X es l H fun xs H₁=>xs.length≤1000∧Q (.tup xs) H₁
 |.lst es,l,H,Q=>vcEs X es l H fun xs H₁=>xs.length≤1000∧Q (.lst xs) H₁
 |.lstM es,l,H,Q=>vcEs X es l H fun xs H₁=>xs.length≤1000∧∀c,H₁ c=none→Q (.ref c) (H₁.set c (.list xs))
 |.dict0,l,H,Q=>∀c,H c=none→Q (.ref c) (H.set c (.idict []))
 |.dictK ks es,l,H,Q=>∀c,H c=none→vcEs X es l (H.set c (.sdict [])) fun xs H₁=>H₁ c=some (.sdict [])∧(ks.Nodup∧ks.length=xs.length)∧Q (.ref c) (H₁.set c (.sdict (ks.zip xs)))
 |.dict1 k e,l,H,Q=>∀c,H c=none→vcE X k l (H.set c (.sdict [])) fun x H₁=>vcE X e l H₁ fun _ H₂=>H₂ c=some (.sdict [])∧keyV x=true∧Q .opq (H₂.del c)
 |.call f _ es,l,H,Q=>vcEs X es l H fun xs H₁=>Fn w h0 n f xs H₁ Q X
 |.callV f es,l,H,Q=>vcE X f l H fun v H₁=>(v=.ref 968∨v=.ref 975)∧(v=.ref 968→vcEs X es l H₁ fun xs H₂=>Fn w h0 n 968 xs H₂ Q X)∧(v=.ref 975→vcEs X es l H₁ fun xs H₂=>Fn w h0 n 975 xs H₂ Q X)
 |.meth e C k f es,l,H,Q=>vcE X e l H fun v H₁=>(OptP (instOf H₁ v) fun p=>p.1=C∧look k p.2=none)∧vcEs X es l H₁ fun xs H₂=>Fn w h0 n f (v::xs) H₂ Q X
 |.clsM C _ _ f es,l,H,Q=>vcEs X es l H fun xs H₁=>Fn w h0 n f xs H₁ Q X
 |.new C f _ es,l,H,Q=>vcEs X es l H fun xs H₁=>∀a dx,H₁ a=none→Fn w h0 n f (.ref a::xs) (H₁.set a (.inst C dx [])) (fun v H₂=>v=.none∧Q (.ref a) H₂) X
 |.b1 b e,l,H,Q=>vcE X e l H fun v H₁=>b1V H₁ b v fun u=>Q u H₁
 |.b2 b a c,l,H,Q=>vcE X a l H fun v H₁=>vcE X c l H₁ fun u H₂=>b2V b v u fun r=>Q r H₂
 |.app e x,l,H,Q=>vcE X e l H fun v H₁=>(asL H₁ v).isSome=true∧vcE X x l H₁ fun u H₂=>appV H₂ v u fun H₃=>Q .none H₃
 |.ext e x,l,H,Q=>vcE X e l H fun v H₁=>(asL H₁ v).isSome=true∧vcE X x l H₁ fun u H₂=>extV H₂ v u fun H₃=>Q .none H₃
 |.comp nv cap t r it cond elt,l,H,Q=>vcE X it l H fun v H₁=>itemsP r v fun xs=>xs.length≤100000∧
   compV (fun x H₂ K=>OptP (bindT t x (capL nv cap l)) fun l'=>vcE (fun _=>False) cond l' H₂ fun p H₃=>BoolP p fun b=>(b=true→vcE (fun _=>False) elt l' H₃ fun u H₄=>K (some u) H₄)∧(b=false→K none H₃)) xs [] H₁ fun ys H₂=>Q (.lst ys) H₂
 |.flat _ e,l,H,Q=>vcE X e l H fun v H₁=>LstP v fun xs=>OptP (flatV xs) fun ys=>(xs.length≤10000∧ys.length≤100000)∧Q (.lst ys) H₁
 |.frz e,l,H,Q=>vcE X e l H fun v H₁=>Frz v H₁ Q
 |.stop,l,H,Q=>False
noncomputable def vcEs(X:Hp→Prop):Es→Loc→Hp→(List V→Hp→Prop)→Prop
 |.nil,l,H,Q=>Q [] H
 |.cons e r,l,H,Q=>vcE X e l H fun v H₁=>vcEs X r l H₁ fun vs H₂=>Q (v::vs) H₂
end
end
section
variable(w:World)(h0:Heap)(n:Nat)
noncomputable def nextK(K:Loc→Hp→Prop)(Q:Fl→Loc→Hp→Prop):Fl→Loc→Hp→Prop
 |.next,l,H=>K l H
 |f,l,H=>Q f l H
noncomputable def turnK(K:Loc→Hp→Prop)(Q:Fl→Loc→Hp→Prop):Fl→Loc→Hp→Prop
 |.next,l,H=>K l H
 |.cont,l,H=>K l H
 |.brk,l,H=>Q .next l H
 |.ret v,l,H=>Q (.ret v) l H
noncomputable def forV(body:Loc→Hp→(Fl→Loc→Hp→Prop)→Prop)(t:Tg):List V→Loc→Hp→(Fl→Loc→Hp→Prop)→Prop
 |[],l,H,Q=>Q .next l H
 |x::r,l,H,Q=>OptP (bindT t x l) fun l'=>body l' H (turnK (fun l₁ H₁=>forV body t r l₁ H₁ Q) Q)
noncomputable def vcT(X:Hp→Prop):T→V→Loc→Hp→(Loc→Hp→Prop)→Prop
 |.nm k,v,l,H,Q=>Q (setL l k v) H
 |.at o k,v,l,H,Q=>vcE w h0 n X o l H fun x H₁=>putF H₁ k x v fun H₂=>Q l H₂
 |.it o i,v,l,H,Q=>vcE w h0 n X o l H fun x H₁=>vcE w h0 n X i l H₁ fun j H₂=>putI H₂ x j v fun H₃=>Q l H₃
 |.itK o k,v,l,H,Q=>vcE w h0 n X o l H fun x H₁=>putK H₁ x k v fun H₂=>Q l H₂
noncomputable def vcTs(X:Loc→Hp→Prop):List T→List V→Loc→Hp→(Loc→Hp→Prop)→Prop
 |[],[],l,H,Q=>Q l H
 |t::ts,v::vs,l,H,Q=>vcT w h0 n (X l) t v l H fun l' H'=>vcTs X ts vs l' H' Q
 |_,_,_,_,_=>False
noncomputable def iterP:Bool→V→V→(List V→Prop)→Prop
 |true,.int x,.int y,K=>(-100000≤x∧x≤100000∧-100000≤y∧y≤100000)∧K (rangeV x y)
 |false,.lst xs,_,K=>K xs
 |false,.tup xs,_,K=>K xs
 |_,_,_,_=>False
theorem iter_f{v:V}{K:List V→Prop}(h:iterP false v u K):∃xs,K xs∧(v=.tup xs∨v=.lst xs):=by cases v with
 |tup xs=>exact⟨xs,h,.inl rfl⟩
 |lst xs=>exact⟨xs,h,.inr rfl⟩
 |_=>exact h.elim
theorem iter_0{a:Int}{K:List V→Prop}(h:iterP true (.int a) y K):∃b,y=.int b∧(-100000≤a∧a≤100000∧-100000≤b∧b≤100000)∧K (rangeV a b):=by cases y with
 |int b=>exact⟨b,rfl,h⟩
 |_=>exact h.elim
theorem iter_t{x:V}{K:List V→Prop}(h:iterP true x y K):∃a b,x=.int a∧y=.int b∧(-100000≤a∧a≤100000∧-100000≤b∧b≤100000)∧K (rangeV a b):=by cases x with
 |int a=>obtain⟨b,e,p⟩:=iter_0 h;exact⟨a,b,rfl,e,p⟩
 |_=>exact h.elim
mutual
noncomputable def vcS(X:Loc→Hp→Prop):S→Loc→Hp→(Fl→Loc→Hp→Prop)→Prop
 |.expr e,l,H,Q=>vcE w h0 n (X l) e l H fun _ H₁=>Q .next l H₁
 |.ret e,l,H,Q=>vcE w h0 n (X l) e l H fun v H₁=>Q (.ret v) l H₁
 |.retN,l,H,Q=>Q (.ret .none) l H
 |.set k e,l,H,Q=>vcE w h0 n (X l) e l H fun v H₁=>Q .next (setL l k v) H₁
 |.setC k e,l,H,Q=>vcE w h0 n (X l) e l H fun v H₁=>Q .next (setL l k v) H₁
 |.setA o k e,l,H,Q=>vcE w h0 n (X l) e l H fun v H₁=>vcE w h0 n (X l) o l H₁ fun x H₂=>putF H₂ k x v fun H₃=>Q .next l H₃
 |.setI o i e,l,H,Q=>vcE w h0 n (X l) e l H fun v H₁=>vcE w h0 n (X l) o l H₁ fun x H₂=>vcE w h0 n (X l) i l H₂ fun j H₃=>putI H₃ x j v fun H₄=>Q .next l H₄
 |.setK o k e,l,H,Q=>vcE w h0 n (X l) e l H fun v H₁=>vcE w h0 n (X l) o l H₁ fun x H₂=>putK H₂ x k v fun H₃=>Q .next l H₃
 |.setSl o lo hi e,l,H,Q=>vcE w h0 n (X l) e l H fun v H₁=>vcE w h0 n (X l) o l H₁ fun x H₂=>vcE w h0 n (X l) lo l H₂ fun a H₃=>vcE w h0 n (X l) hi l H₃ fun b H₄=>putSl H₄ x a b v fun H₅=>Q .next l H₅
 |.setT ts e,l,H,Q=>vcE w h0 n (X l) e l H fun v H₁=>TupP v fun xs=>xs.length=ts.length∧vcTs w h0 n X ts xs l H₁ fun l' H'=>Q .next l' H'
 |.setR ks e,l,H,Q=>vcE w h0 n (X l) e l H fun v H₁=>TupP v fun xs=>xs.length=ks.length∧vcTs w h0 n X (ks.reverse.map T.nm) xs.reverse l H₁ fun l' H'=>Q .next l' H'
 |.ite c a b,l,H,Q=>vcE w h0 n (X l) c l H fun v H₁=>BoolP v fun p=>(p=true→vcSs X a l H₁ Q)∧(p=false→vcSs X b l H₁ Q)
 |.whl c b,l,H,Q=>∃I:Nat→Loc→Hp→Prop,(∃m,I m l H)∧∀m l₁ H₁,I m l₁ H₁→vcE w h0 n (fun _=>False) c l₁ H₁ fun v H₂=>BoolP v fun p=>
   (p=true→vcSs (fun _ _=>False) b l₁ H₂ (turnK (fun l₂ H₃=>∃m'< m,I m' l₂ H₃) Q))∧(p=false→Q .next l₁ H₂)
 |.for_ t r lo hi b,l,H,Q=>vcE w h0 n (X l) lo l H fun u H₁=>vcE w h0 n (X l) hi l H₁ fun v H₂=>
   iterP r u v fun xs=>xs.length≤100000∧forV (fun l' H' K=>vcSs (fun _ _=>False) b l' H' K) t xs l H₂ Q
 |.raise x e₁ e₂,l,H,Q=>vcE w h0 n (X l) e₁ l H fun _ H₁=>vcE w h0 n (X l) e₂ l H₁ fun _ H₂=>x=Str.ofString "args-out-of-range"∧X l H₂
 |.try_ b k h,l,H,Q=>vcSs (fun l' H'=>vcSs (fun _ _=>False) h (setL l' k (.exc (Str.ofString "args-out-of-range"))) H' fun f l₁ H₁=>Q f (unL l₁ k) H₁) b l H Q
 |.frz k,l,H,Q=>OptP (getL l k) fun u=>Frz u H fun v H₁=>Q .next (setL l k v) H₁
 |.stop,l,H,Q=>False
noncomputable def vcSs(X:Loc→Hp→Prop):Ss→Loc→Hp→(Fl→Loc→Hp→Prop)→Prop
 |.nil,l,H,Q=>Q .next l H
 |.cons s r,l,H,Q=>vcS X s l H (nextK (fun l' H'=>vcSs X r l' H' Q) Q)
end
end
section
theorem J.run{α β:Type}{rel:Heap→(Addr→Prop)→α→β→Prop}{t:Sem α}{P:β→Hp→Prop}{Post:α→Shared→Prop}(h:J w h0 rel c A X t l H P)(r:Rep w h0 c l H s)(hE:HE w h0 c A X l E')
  (k:∀v x H₁ s₁,P x H₁→Rep w h0 c l H₁ s₁→rel s₁.heap (Pu H₁ c.Z) v x→St w h0 c.Z H H₁ s s₁→Post v s₁):wpAny (MM w) A t Post E' s:=
 wpAny_mono (h s E' r hE) (fun v s₁ ⟨x,H₁,a,b,d⟩=>k v x H₁ s₁ d (r.after b) a b) fun _ _ e=>e
noncomputable abbrev EnR{α β:Type}(rel:Heap→(Addr→Prop)→α→β→Prop)(w:World)(h0:Heap)(Z:Addr→Prop)(H:Hp)(s:Shared)(Q:β→Hp→Prop):α→Shared→Prop:=fun v s'=>∃x H',rel s'.heap (Pu H' Z) v x∧St w h0 Z H H' s s'∧Q x H'
theorem EnR.up{α β:Type}{rel:Heap→(Addr→Prop)→α→β→Prop}{Q:β→Hp→Prop}{v:α}(st:St w h0 Z H H₁ s s₁)(e:EnR rel w h0 Z H₁ s₁ Q v s'):EnR rel w h0 Z H s Q v s':=
 let⟨x,H',a,b,d⟩:=e;⟨x,H',a,st.trans b,d⟩
theorem up{α β:Type}{rel:Heap→(Addr→Prop)→α→β→Prop}{Q:β→Hp→Prop}{t:Sem α}(st:St w h0 Z H H₁ s s₁)(h:wpAny (MM w) A t (EnR rel w h0 Z H₁ s₁ Q) E' s₁):
  wpAny (MM w) A t (EnR rel w h0 Z H s Q) E' s₁:=wpAny_mono h (fun _ _ e=>e.up st) fun _ _ e=>e
section
variable(w:World)(h0:Heap)(n:Nat)
noncomputable def So(c:Cx)(A:Around)(X:Hp→Prop)(l:Loc)(a:E)(pa:Expr):Prop:=∀H Q,vcE w h0 n X a l H Q→JE w h0 c A X pa l H Q
noncomputable def SoT(c:Cx)(A:Around)(X:Hp→Prop)(l:Loc)(a:E)(pa:Expr):Prop:=∀H (Q:Bool→Hp→Prop),(vcE w h0 n X a l H fun v H'=>BoolP v fun b=>Q b H')→JT w h0 c A X pa l H Q
noncomputable def SoEs(c:Cx)(A:Around)(X:Hp→Prop)(l:Loc)(a:Es)(pa:List Expr):Prop:=∀(pos:Pos) H Q,vcEs w h0 n X a l H Q→J w h0 RVs c A X (spliced (backTo pos (starEach pa c.env))) l H Q
end
theorem SoT.plain{a:E}(h:So w h0 n c A X l a pa)(e:PySem.isTrue pa c.env (eval pa c.env)=(do let v←eval pa c.env;standAt pa.pos;holding [v] (truthy v))):SoT w h0 n c A X l a pa:=fun H Q hq s E' r hE=>by
 refine isTrue_plain (J.run (h H _ hq) r hE fun v x H₁ s₁ p r₁ rv st=>?_) e
 refine bc fun ng=>?_
 refine xe1 (BoolP.ex p) ?_
 intro b qz23
 refine xa2 qz23 ?_
 clear qz23
 rintro rfl p
 refine ng ?_
 cases rv.bool_iff
 exact wpAny_truthy_bool ⟨b,H₁,rfl,st,p⟩
variable{a b d e:E}{pos:Pos}
theorem so_bin{op:Operator}(hA:A.handled=none)(ha:So w h0 n c A X l a pa)(hb:So w h0 n c A X l b pb):So w h0 n c A X l (.bin op a b) (.BinOp pa op pb pos):=fun H Q h s E' r hE=>
 wpAny_BinOp (J.run (ha H _ h) r hE fun v x H₁ s₁ p r₁ rv st=>J.run (hb H₁ _ p) r₁ hE fun u y H₂ s₂ p₂ r₂ ru st₂=>up (st.trans st₂) (bin_J hA r₂.hr (st₂.rv rv) ru p₂))
theorem so_addM(ha:So w h0 n c A X l a pa)(hb:So w h0 n c A X l b pb):So w h0 n c A X l (.addM a b) (.BinOp pa .Add pb pos):=fun H Q h s E' r hE=>
 wpAny_BinOp (J.run (ha H _ h) r hE fun v x H₁ s₁ p r₁ rv st=>J.run (hb H₁ _ p) r₁ hE fun u y H₂ s₂ p₂ r₂ ru st₂=>by
  refine bc fun ng=>?_
  refine xe1 (OptP.ex p₂) ?_
  intro xs qz24
  refine xa2 qz24 ?_
  clear qz24
  rintro e₁ p₂
  refine xe1 (OptP.ex p₂) ?_
  intro ys qz25
  refine xa3 qz25 ?_
  clear qz25
  rintro e₂ hsz p₂
  refine xe2 (asL_of r₂.hr (st₂.rv rv) e₁) ?_
  intro aa vs qz26
  refine xa3 qz26 ?_
  clear qz26
  rintro rfl hl rvs
  refine xe2 (asL_of r₂.hr ru e₂) ?_
  intro bb ws qz27
  refine xa3 qz27 ?_
  clear qz27
  rintro rfl hl₂ rv₂
  refine ng ?_
  exact up (st.trans st₂) (add_lists_J hl hl₂ (newL_at (n:=s₂.toks) r₂.hr r₂.hr.fresh_at.2 (fun _ _ e=>Heap.get?_push_of_some _ e) ⟨_,Heap.get?_push_size _ rfl⟩ (rvs.append rv₂) (.inr p₂)) (by rw[rvs.1,rv₂.1];exact hsz)))
theorem so_neg(ha:So w h0 n c A X l a pa):So w h0 n c A X l (.neg a) (.UnaryOp .USub pa pos):=fun H Q h s E' r hE=>
 UnaryOp_ (J.run (ha H _ h) r hE fun v x H₁ s₁ p r₁ rv st=>by
  cases x<;>try exact p.elim
  refine bc fun ng=>?_
  refine xe1 (rv.int_iff) ?_
  rintro t rfl
  refine ng ?_
  exact PyProof.Rows.neg_int (EnR.up st ⟨_,H₁,.int _ _,St.toks r₁.hr _,p⟩))
theorem so_not(ha:So w h0 n c A X l a pa):So w h0 n c A X l (.not a) (.UnaryOp .Not pa pos):=fun H Q h s E' r hE=>
 UnaryOp_ (J.run (ha H _ h) r hE fun v x H₁ s₁ p r₁ rv st=>by
  cases x<;>try exact p.elim
  cases rv.bool_iff
  exact not_of (wpAny_truthy_bool ⟨_,H₁,.bool _,st,p⟩))
theorem sot_not(ha:SoT w h0 n c A X l a pa):SoT w h0 n c A X l (.not a) (.UnaryOp .Not pa pos):=fun H Q h s E' r hE=>
 isTrue_not (J.run (ha H (fun b H'=>Q (!b) H') (by
  have e:(fun(v:V) (H':Hp)=>notV v fun u=>BoolP u fun b=>Q b H')=fun v H'=>BoolP v fun b=>Q (!b) H':=by
   funext v H';cases v<;>rfl
  have h':vcE w h0 n X a l H (fun v H'=>notV v fun u=>BoolP u fun b=>Q b H'):=h
  rw[e] at h';exact h')) r hE fun v x H₁ s₁ p r₁ rv st=>by cases rv;exact⟨_,H₁,rfl,st,p⟩)
theorem qs{p q:Bool}{Q:Value→Shared→Prop}(h:Q (.bool p) s)(e:q=p):Q (.bool q) s:=e▸h
theorem cmp2_J{u:Value}{x:V}{p:Bool}{Q:Value→Shared→Prop}{f:Int→Int→Bool}(rv:RV s.heap (Pu H Z) v x)(ru:RV s.heap (Pu H Z) u y)(e:twoI x y f=some p)
  (k:∀a t b t',f a b=p→wpAny (MM w) A (compareOp op (.int a t) (.int b t')) Q E' s):wpAny (MM w) A (compareOp op v u) Q E' s:=by
 refine bc fun ng=>?_
 refine xe2 (twoI_ex e) ?_
 intro a b qz28
 refine xa3 qz28 ?_
 clear qz28
 rintro rfl rfl e'
 refine xe1 (rv.int_iff) ?_
 rintro t rfl
 refine xe1 (ru.int_iff) ?_
 rintro t' rfl
 refine ng ?_
 exact k a t b t' e'
theorem isn_J{u:Value}{x:V}{p:Bool}{Q:Value→Shared→Prop}{f:Bool→Bool}(rv:RV s.heap (Pu H Z) v x)(ru:RV s.heap (Pu H Z) u y)(e:isV x y f=some p)
  (k:f (v==.none)=p→wpAny (MM w) A (compareOp op v .none) Q E' s):wpAny (MM w) A (compareOp op v u) Q E' s:=by
 cases y<;>first|exact nope1 e|skip
 rw[ru.none_iff]
 refine k ?_
 cases rv<;>first|exact sj e|exact nope1 e
theorem cmp_J{u:Value}{x:V}{p:Bool}{Q:Value→Shared→Prop}(rv:RV s.heap (Pu H Z) v x)(ru:RV s.heap (Pu H Z) u y)(e:cmpV op x y=some p)(h:Q (.bool p) s):wpAny (MM w) A (compareOp op v u) Q E' s:=by
 cases op<;>first|exact nope1 e|skip
 ·rcases eqV_ex e with⟨a,b,rfl,rfl,q⟩|q
  ·refine bc fun ng=>?_
   refine xe1 (rv.str_iff) ?_
   rintro t rfl
   refine xe1 (ru.str_iff) ?_
   rintro t' rfl
   refine ng ?_
   exact eq_str (qs h ((str_beq a b).trans q))
  ·exact cmp2_J rv ru q fun a t b t' e=>P.eq_int (qs h e)
 ·exact cmp2_J rv ru e fun a t b t' e=>P.ne_int (qs h e)
 ·exact cmp2_J rv ru e fun a t b t' e=>P.lt_int (qs h e)
 ·exact cmp2_J rv ru e fun a t b t' e=>P.le_int (qs h e)
 ·exact cmp2_J rv ru e fun a t b t' e=>P.gt_int (qs h e)
 ·exact cmp2_J rv ru e fun a t b t' e=>P.ge_int (qs h e)
 ·exact isn_J rv ru e fun e=>is_none (qs h e)
 ·exact isn_J rv ru e fun e=>isnot_none_gen (qs h e)
end
section
variable{a b d e:E}{pos:Pos}
theorem so_cmp(ha:So w h0 n c A X l a pa)(hb:So w h0 n c A X l b pb)(hm:behindInMarks op pb=false):So w h0 n c A X l (.cmp op a b) (.Compare pa [op] [pb] pos):=fun H Q h s E' r hE=>
 wpAny_Compare1 (J.run (ha H _ h) r hE fun v x H₁ s₁ p r₁ rv st=>J.run (hb H₁ _ p) r₁ hE fun u y H₂ s₂ p₂ r₂ ru st₂=>by
  refine bc fun ng=>?_
  refine xe1 (OptP.ex p₂) ?_
  intro q qz29
  refine xa2 qz29 ?_
  clear qz29
  rintro e p₂
  refine ng ?_
  exact cmp_J (st₂.rv rv) ru e ⟨_,H₂,.bool _,st.trans st₂,p₂⟩) hm
theorem sot_cmp(ha:So w h0 n c A X l a pa)(hb:So w h0 n c A X l b pb)(hm:behindInMarks op pb=false):SoT w h0 n c A X l (.cmp op a b) (.Compare pa [op] [pb] pos):=fun H Q h s E' r hE=>
 wpAny_isTrue_Compare1 (J.run (ha H _ h) r hE fun v x H₁ s₁ p r₁ rv st=>J.run (hb H₁ _ p) r₁ hE fun u y H₂ s₂ p₂ r₂ ru st₂=>by
  refine bc fun ng=>?_
  refine xe1 (OptP.ex p₂) ?_
  intro q qz30
  refine xa2 qz30 ?_
  clear qz30
  rintro e p₂
  refine ng ?_
  exact cmp_J (st₂.rv rv) ru e (wpAny_truthy_bool ⟨q,H₂,rfl,st.trans st₂,p₂⟩)) hm
theorem so_cmp2(ha:So w h0 n c A X l a pa)(hb:So w h0 n c A X l b pb)(hd:So w h0 n c A X l d pd)(hm:lastMarks [o₁,o₂] [pb,pd]=false):So w h0 n c A X l (.cmp2 o₁ o₂ a b d) (.Compare pa [o₁,o₂] [pb,pd] pos):=fun H Q h s E' r hE=>
 Compare_chain (J.run (ha H _ h) r hE fun v x H₁ s₁ p r₁ rv st=>chain_link (J.run (hb H₁ _ p) r₁ hE fun u y H₂ s₂ p₂ r₂ ru st₂=>by
  refine bc fun ng=>?_
  refine xe1 (OptP.ex p₂) ?_
  intro q qz31
  refine xa2 qz31 ?_
  clear qz31
  rintro e p₂
  refine ng ?_
  refine cmp_J (st₂.rv rv) ru e (wpAny_truthy_bool ?_)
  cases q with
  |false=>exact⟨_,H₂,.bool _,st.trans st₂,p₂.2 rfl⟩
  |true=>
   refine chain_last (J.run (hd H₂ _ (p₂.1 rfl)) r₂ hE fun t z H₃ s₃ p₃ r₃ rt st₃=>?_)
   refine bc fun ng=>?_
   refine xe1 (OptP.ex p₃) ?_
   intro q qz32
   refine xa2 qz32 ?_
   clear qz32
   rintro e p₃
   refine ng ?_
   exact cmp_J (st₃.rv ru) rt e ⟨_,H₃,.bool _,(st.trans st₂).trans st₃,p₃⟩)) hm
theorem sot_cmp2(ha:So w h0 n c A X l a pa)(hb:So w h0 n c A X l b pb)(hd:So w h0 n c A X l d pd)(hm:lastMarks [o₁,o₂] [pb,pd]=false):SoT w h0 n c A X l (.cmp2 o₁ o₂ a b d) (.Compare pa [o₁,o₂] [pb,pd] pos):=fun H Q h s E' r hE=>
 isTrue_chain (J.run (ha H _ h) r hE fun v x H₁ s₁ p r₁ rv st=>test_link (J.run (hb H₁ _ p) r₁ hE fun u y H₂ s₂ p₂ r₂ ru st₂=>by
  refine bc fun ng=>?_
  refine xe1 (OptP.ex p₂) ?_
  intro q qz33
  refine xa2 qz33 ?_
  clear qz33
  rintro e p₂
  refine ng ?_
  refine cmp_J (st₂.rv rv) ru e (wpAny_truthy_bool ?_)
  cases q with
  |false=>exact⟨_,H₂,rfl,st.trans st₂,p₂.2 rfl⟩
  |true=>
   refine test_last (J.run (hd H₂ _ (p₂.1 rfl)) r₂ hE fun t z H₃ s₃ p₃ r₃ rt st₃=>?_)
   refine bc fun ng=>?_
   refine xe1 (OptP.ex p₃) ?_
   intro q qz34
   refine xa2 qz34 ?_
   clear qz34
   rintro e p₃
   refine ng ?_
   exact cmp_J (st₃.rv ru) rt e (wpAny_truthy_bool ⟨_,H₃,rfl,(st.trans st₂).trans st₃,p₃⟩))) hm
theorem so_cmp3(ha:So w h0 n c A X l a pa)(hb:So w h0 n c A X l b pb)(hd:So w h0 n c A X l d pd)(he:So w h0 n c A X l e pe)(hm:lastMarks [o₁,o₂,o₃] [pb,pd,pe]=false):So w h0 n c A X l (.cmp3 o₁ o₂ o₃ a b d e) (.Compare pa [o₁,o₂,o₃] [pb,pd,pe] pos):=fun H Q h s E' r hE=>
 Compare_chain (J.run (ha H _ h) r hE fun v x H₁ s₁ p r₁ rv st=>chain_link (J.run (hb H₁ _ p) r₁ hE fun u y H₂ s₂ p₂ r₂ ru st₂=>by
  refine bc fun ng=>?_
  refine xe1 (OptP.ex p₂) ?_
  intro q qz35
  refine xa2 qz35 ?_
  clear qz35
  rintro e p₂
  refine ng ?_
  refine cmp_J (st₂.rv rv) ru e (wpAny_truthy_bool ?_)
  cases q with
  |false=>exact⟨_,H₂,.bool _,st.trans st₂,p₂.2 rfl⟩
  |true=>
   refine chain_link (J.run (hd H₂ _ (p₂.1 rfl)) r₂ hE fun t z H₃ s₃ p₃ r₃ rt st₃=>?_)
   refine bc fun ng=>?_
   refine xe1 (OptP.ex p₃) ?_
   intro q qz36
   refine xa2 qz36 ?_
   clear qz36
   rintro e p₃
   refine ng ?_
   refine cmp_J (st₃.rv ru) rt e (wpAny_truthy_bool ?_)
   cases q with
   |false=>exact⟨_,H₃,.bool _,(st.trans st₂).trans st₃,p₃.2 rfl⟩
   |true=>
    refine chain_last (J.run (he H₃ _ (p₃.1 rfl)) r₃ hE fun t' z' H₄ s₄ p₄ r₄ rt' st₄=>?_)
    refine bc fun ng=>?_
    refine xe1 (OptP.ex p₄) ?_
    intro q qz37
    refine xa2 qz37 ?_
    clear qz37
    rintro e p₄
    refine ng ?_
    exact cmp_J (st₄.rv rt) rt' e ⟨_,H₄,.bool _,((st.trans st₂).trans st₃).trans st₄,p₄⟩)) hm
theorem sot_cmp3(ha:So w h0 n c A X l a pa)(hb:So w h0 n c A X l b pb)(hd:So w h0 n c A X l d pd)(he:So w h0 n c A X l e pe)(hm:lastMarks [o₁,o₂,o₃] [pb,pd,pe]=false):SoT w h0 n c A X l (.cmp3 o₁ o₂ o₃ a b d e) (.Compare pa [o₁,o₂,o₃] [pb,pd,pe] pos):=fun H Q h s E' r hE=>
 isTrue_chain (J.run (ha H _ h) r hE fun v x H₁ s₁ p r₁ rv st=>test_link (J.run (hb H₁ _ p) r₁ hE fun u y H₂ s₂ p₂ r₂ ru st₂=>by
  refine bc fun ng=>?_
  refine xe1 (OptP.ex p₂) ?_
  intro q qz38
  refine xa2 qz38 ?_
  clear qz38
  rintro e p₂
  refine ng ?_
  refine cmp_J (st₂.rv rv) ru e (wpAny_truthy_bool ?_)
  cases q with
  |false=>exact⟨_,H₂,rfl,st.trans st₂,p₂.2 rfl⟩
  |true=>
   refine test_link (J.run (hd H₂ _ (p₂.1 rfl)) r₂ hE fun t z H₃ s₃ p₃ r₃ rt st₃=>?_)
   refine bc fun ng=>?_
   refine xe1 (OptP.ex p₃) ?_
   intro q qz39
   refine xa2 qz39 ?_
   clear qz39
   rintro e p₃
   refine ng ?_
   refine cmp_J (st₃.rv ru) rt e (wpAny_truthy_bool ?_)
   cases q with
   |false=>exact⟨_,H₃,rfl,(st.trans st₂).trans st₃,p₃.2 rfl⟩
   |true=>
    refine test_last (J.run (he H₃ _ (p₃.1 rfl)) r₃ hE fun t' z' H₄ s₄ p₄ r₄ rt' st₄=>?_)
    refine bc fun ng=>?_
    refine xe1 (OptP.ex p₄) ?_
    intro q qz40
    refine xa2 qz40 ?_
    clear qz40
    rintro e p₄
    refine ng ?_
    exact cmp_J (st₄.rv rt) rt' e (wpAny_truthy_bool ⟨_,H₄,rfl,((st.trans st₂).trans st₃).trans st₄,p₄⟩))) hm
theorem so_and{rest:List Expr}(ha:So w h0 n c A X l a pa)(hb:So w h0 n c A X l b (.BoolOp .And (pb::rest) pos)):So w h0 n c A X l (.and a b) (.BoolOp .And (pa::pb::rest) pos):=fun H Q h s E' r hE=>
 BoolOp_and (J.run (ha H _ h) r hE fun v x H₁ s₁ p r₁ rv st=>by
  refine bc fun ng=>?_
  refine xe1 (BoolP.ex p) ?_
  intro q qz41
  refine xa2 qz41 ?_
  clear qz41
  rintro rfl p
  refine ng ?_
  cases rv.bool_iff
  refine wpAny_truthy_bool ?_
  cases q with
  |false=>exact⟨_,H₁,.bool _,st,p.2 rfl⟩
  |true=>exact up st (hb H₁ _ (p.1 rfl) s₁ E' r₁ hE))
theorem so_or{rest:List Expr}(ha:So w h0 n c A X l a pa)(hb:So w h0 n c A X l b (.BoolOp .Or (pb::rest) pos)):So w h0 n c A X l (.or a b) (.BoolOp .Or (pa::pb::rest) pos):=fun H Q h s E' r hE=>
 BoolOp_or (J.run (ha H _ h) r hE fun v x H₁ s₁ p r₁ rv st=>by
  refine bc fun ng=>?_
  refine xe1 (BoolP.ex p) ?_
  intro q qz42
  refine xa2 qz42 ?_
  clear qz42
  rintro rfl p
  refine ng ?_
  cases rv.bool_iff
  refine wpAny_truthy_bool ?_
  cases q with
  |true=>exact⟨_,H₁,.bool _,st,p.2 rfl⟩
  |false=>exact up st (hb H₁ _ (p.1 rfl) s₁ E' r₁ hE))
theorem so_one{op:BoolOp}(ha:So w h0 n c A X l a pa):So w h0 n c A X l a (.BoolOp op [pa] pos):=fun H Q h s E' r hE=>BoolOp_one (ha H Q h s E' r hE)
theorem sot_and{rest:List Expr}(ha:SoT w h0 n c A X l a pa)(hb:SoT w h0 n c A X l b (.BoolOp .And rest pos)):SoT w h0 n c A X l (.and a b) (.BoolOp .And (pa::rest) pos):=fun H Q h s E' r hE=>
 isTrue_and (J.run (ha H (fun q H₁=>(q=true→vcE w h0 n X b l H₁ fun v H'=>BoolP v fun b=>Q b H')∧(q=false→Q false H₁)) h) r hE fun v x H₁ s₁ p r₁ rv st=>by
  cases rv
  cases v with
  |false=>exact⟨_,H₁,rfl,st,p.2 rfl⟩
  |true=>exact up st (hb H₁ Q (p.1 rfl) s₁ E' r₁ hE))
theorem sot_or{rest:List Expr}(ha:SoT w h0 n c A X l a pa)(hb:SoT w h0 n c A X l b (.BoolOp .Or rest pos)):SoT w h0 n c A X l (.or a b) (.BoolOp .Or (pa::rest) pos):=fun H Q h s E' r hE=>
 isTrue_or (J.run (ha H (fun q H₁=>(q=false→vcE w h0 n X b l H₁ fun v H'=>BoolP v fun b=>Q b H')∧(q=true→Q true H₁)) h) r hE fun v x H₁ s₁ p r₁ rv st=>by
  cases rv
  cases v with
  |true=>exact⟨_,H₁,rfl,st,p.2 rfl⟩
  |false=>exact up st (hb H₁ Q (p.1 rfl) s₁ E' r₁ hE))
theorem sot_one_and(ha:SoT w h0 n c A X l a pa):SoT w h0 n c A X l a (.BoolOp .And [pa] pos):=fun H Q h s E' r hE=>
 isTrue_and (J.run (ha H Q h) r hE fun v x H₁ s₁ p r₁ rv st=>by
  cases rv
  cases v with
  |false=>exact⟨_,H₁,rfl,st,p⟩
  |true=>exact isTrue_and_nil ⟨_,H₁,rfl,st,p⟩)
theorem sot_one_or(ha:SoT w h0 n c A X l a pa):SoT w h0 n c A X l a (.BoolOp .Or [pa] pos):=fun H Q h s E' r hE=>
 isTrue_or (J.run (ha H Q h) r hE fun v x H₁ s₁ p r₁ rv st=>by
  cases rv
  cases v with
  |true=>exact⟨_,H₁,rfl,st,p⟩
  |false=>exact isTrue_or_nil ⟨_,H₁,rfl,st,p⟩)
theorem so_ite(hc:SoT w h0 n c A X l d pd)(ha:So w h0 n c A X l a pa)(hb:So w h0 n c A X l b pb):So w h0 n c A X l (.ite d a b) (.IfExp pd pa pb pos):=fun H Q h s E' r hE=>
 IfExp_ (J.run (hc H (fun q H₁=>(q=true→vcE w h0 n X a l H₁ Q)∧(q=false→vcE w h0 n X b l H₁ Q)) h) r hE fun v x H₁ s₁ p r₁ rv st=>by
  cases rv
  cases v with
  |true=>exact up st (ha H₁ Q (p.1 rfl) s₁ E' r₁ hE)
  |false=>exact up st (hb H₁ Q (p.2 rfl) s₁ E' r₁ hE))
theorem sot_ite(hc:SoT w h0 n c A X l d pd)(ha:SoT w h0 n c A X l a pa)(hb:SoT w h0 n c A X l b pb):SoT w h0 n c A X l (.ite d a b) (.IfExp pd pa pb pos):=fun H Q h s E' r hE=>
 isTrue_IfExp (J.run (hc H (fun q H₁=>(q=true→vcE w h0 n X a l H₁ fun v H'=>BoolP v fun b=>Q b H')∧(q=false→vcE w h0 n X b l H₁ fun v H'=>BoolP v fun b=>Q b H')) h) r hE fun v x H₁ s₁ p r₁ rv st=>by
  cases rv
  cases v with
  |true=>exact up st (ha H₁ Q (p.1 rfl) s₁ E' r₁ hE)
  |false=>exact up st (hb H₁ Q (p.2 rfl) s₁ E' r₁ hE))
theorem so_attr(G:K.In h0)(OK:KOK K)(ha:So w h0 n c A X l a pa)(hk:k< 87)
  (he:eval (pa.Attribute (fname k) pos) c.env=(do let o←eval pa c.env;standAt pos.atName;let r←holding [o] (getAttr o (fname k) true);letTemporaryGo pa o r;pure r)):
  So w h0 n c A X l (.attr a k) (.Attribute pa (fname k) pos):=fun H Q h s E' r hE=>
 Attribute_any_ (J.run (ha H _ h) r hE fun v x H₁ s₁ p r₁ rv st=>by
  refine bc fun ng=>?_
  refine xe1 (OptP.ex p) ?_
  intro u qz43
  refine xa3 qz43 ?_
  clear qz43
  rintro e hu p
  refine ng ?_
  exact up st (getF_J G OK r₁.hr rv hk e hu p)) he
end
section
variable{a b d e:E}{pos:Pos}
theorem tail_any{value:Expr}{o i:Value}{T id:String}{Q:Value→Shared→Prop}(hT:s.TypeIs o T)
  (hl:typeLookup (.type T) "__getitem__"=pure (some (.builtin id))) (h:wpAny (MM w) A (getItem o i) Q E' s)
  (hs:subscripted slice false o i=operate ops (getItem o i)):wpAny (MM w) A (subscriptTail value slice o i) Q E' s:=by
 delta subscriptTail
 refine wpAny_bind ?_
 rw[getitemInPython_of_ne hT.not_modules]
 refine wpAny_bind (wpAny_specialOf hT hl ?_)
 have fin:wpAny (MM w) A (subscripted slice false o i) (fun r s₃=>wpAny (MM w) A (letTemporaryGo value o r>>=fun _=>pure r) Q E' s₃) E' s:=by
  rw[hs]
  exact wpAny_operating (wpAny_mono h (fun r s₃ h₃=>wpAny_bind (wpAny_letTemporaryGo (wpAny_pure h₃))) fun _ _ x=>x)
 first
  |exact wpAny_pure (wpAny_bind fin)
  |exact wpAny_bind (wpAny_pure (wpAny_bind fin))
  |exact wpAny_bind fin
theorem find2_stored{α:Type}[DecidableEq α](k:α)(es:List (α×V)){β:Type}(f:α→β)[DecidableEq β](hf:∀i j,f i=f j→i=j):∀(kvs:List (β×Value)),kvs.map (·.1)=es.map (fun e=>f e.1)→∀{h:Heap} {P:Addr→Prop},RVs h P (kvs.map (·.2)) (es.map (·.2))→
  ∀{u:V},find2 k es=some u→∃v,valueAt kvs (f k)=some v∧RV h P v u:=by
 induction es with
 |nil=>intro kvs he h P r u hu;exact nope1 hu
 |cons e r ih=>
  intro kvs he h P rv u hu
  refine bc fun ng=>?_
  obtain⟨j,x⟩:=e
  refine ng ?_
  cases kvs with
  |nil=>simp at he
  |cons kv kvs=>
   refine bc fun ng=>?_
   obtain⟨k',v⟩:=kv
   refine ng ?_
   simp only[List.map_cons,List.cons.injEq] at he
   refine bc fun ng=>?_
   refine xa2 (he) ?_
   try clear he
   rintro h1 h2
   refine ng ?_
   subst h1
   refine bc fun ng=>?_
   refine xe2 (RVs.uncons (xs:=r.map (·.2)) (x:=x) (by simpa using rv)) ?_
   intro v' vs' qz44
   refine xa3 qz44 ?_
   clear qz44
   rintro e1 r1 r2
   refine ng ?_
   simp only[List.map_cons,List.cons.injEq] at e1
   refine bc fun ng=>?_
   refine xa2 (e1) ?_
   try clear e1
   rintro rfl rfl
   refine ng ?_
   unfold find2 at hu
   by_cases q:k=j
   ·subst q
    rw[if_pos rfl] at hu;obtain rfl:=sj hu
    exact⟨v,by simp[valueAt],r1⟩
   ·rw[if_neg q] at hu
    refine bc fun ng=>?_
    refine xe1 (ih kvs h2 r2 hu) ?_
    intro y qz45
    refine xa2 qz45 ?_
    clear qz45
    rintro hy hr
    refine ng ?_
    refine⟨y,?_,hr⟩
    have:¬f j=f k:=fun e=>q (hf _ _ e).symm
    unfold valueAt at hy⊢
    rw[List.find?_cons]
    simp only[this,decide_false]
    exact hy
theorem item_list{k:Int}{t:Tok}{Q:Value→Shared→Prop}(hl:s.heap.PlainList lA vs.toArray)(h0':0≤k)(h1:k< 2^60)(hv:vs[k.toNat]? =some v)(h:Q v s):
  wpAny (MM w) A (getItem (.ref lA) (.int k t)) Q E' s:=wpAny_getItem_list hl.isList h0' (li1 1 [_] [] (.lt J0 (.c (2^60))) (.lt J0 (.c (2^63))) rfl h1) (by simpa using hv) h
theorem item_tuple'{k:Int}{t:Tok}{Q:Value→Shared→Prop}(hl:s.heap.IsTuple lA vs.toArray)(h0':0≤k)(h1:k< 2^60)(hv:vs[k.toNat]? =some v)(h:Q v s):
  wpAny (MM w) A (getItem (.ref lA) (.int k t)) Q E' s:=by
 have hlt:k.toNat< vs.length:=(List.getElem?_eq_some_iff.mp hv).1
 refine getItem_tuple (j:=k.toNat) (x:=v) (items:=vs.toArray) hl (li1 1 [_] [] (.le I0 J0) (.le (.c (-9223372036854775808)) J0) rfl h0') (li1 1 [_] [] (.lt J0 (.c (2^60))) (.lt J0 (.c (2^63))) rfl h1) ?_ (by simpa using hv) h
 delta seqIndex?
 have:¬k< 0:=li1 1 [_] [] (.le I0 J0) (.no (.lt J0 I0)) rfl h0'
 have h2:k< (vs.toArray.size:Int):=by simp;(exact li2 2 [_] [_,_] (.tn J0 U0) (.nlt U0 U1) (.lt J0 (.n U1)) rfl (tn (k)) hlt)
 simp only[this,if_false,decide_eq_true h0',decide_eq_true h2,Bool.and_self,if_true]
theorem subV_J{u:Value}{x z:V}{value:Expr}(hr:HRep w h0 Z H s.heap)(rv:RV s.heap (Pu H Z) v x)(ru:RV s.heap (Pu H Z) u y)(e:subV H x y=some z)(h:Q z H)
  (hs:∀o i,subscripted slice false o i=operate [o,i] (getItem o i)):wpAny (MM w) A (subscriptTail value slice v u) (EnR RV w h0 Z H s Q) E' s:=by
 delta subV at e
 split at e
 ·rename_i k
  refine bc fun ng=>?_
  refine xe1 (ru.int_iff) ?_
  rintro t rfl
  refine ng ?_
  split at e
  ·rename_i aa
   cases rv.ref_iff
   split at e
   ·rename_i xs q
    refine bc fun ng=>?_
    obtain⟨vs,hl,rvs⟩:=hr.obj _ _ q
    refine ng ?_
    split at e
    ·rename_i hk
     refine bc fun ng=>?_
     refine xe1 (rvs.get e) ?_
     intro vv qz46
     refine xa2 qz46 ?_
     clear qz46
     rintro hv hrv
     refine ng ?_
     exact tail_any hl.isList.typeIs list_getitem_lookup (item_list hl hk.1 hk.2 hv ⟨_,H,hrv,St.refl hr,h⟩) (hs _ _)
    ·exact nope1 e
   ·rename_i es q
    refine bc fun ng=>?_
    obtain⟨kvs,hl,he,rvs⟩:=hr.obj _ _ q
    refine xe1 (find2_stored k es (fun i:Int=>i) (fun _ _ e=>e) kvs he rvs e) ?_
    intro vv qz47
    refine xa2 qz47 ?_
    clear qz47
    rintro hv hrv
    refine ng ?_
    exact tail_any hl.typeIs slot_dict_getitem.lookup (wpAny_getItem_of (knd:=intKind pw w) (k:=k) (by show Value.isInt k (.int k t)=true;simp[Value.isInt]) hl.mapOf hv ⟨_,H,hrv,St.toks hr _,h⟩) (hs _ _)
   ·exact nope1 e
  ·refine bc fun ng=>?_
   refine xe2 (RV.lst_iff.mp rv) ?_
   intro aa vs qz48
   refine xa4 qz48 ?_
   clear qz48
   rintro rfl _ hl rvs
   refine ng ?_
   split at e
   ·rename_i hk
    refine bc fun ng=>?_
    refine xe1 (rvs.get e) ?_
    intro vv qz49
    refine xa2 qz49 ?_
    clear qz49
    rintro hv hrv
    refine ng ?_
    exact tail_any hl.isList.typeIs list_getitem_lookup (item_list hl hk.1 hk.2 hv ⟨_,H,hrv,St.refl hr,h⟩) (hs _ _)
   ·exact nope1 e
  ·refine bc fun ng=>?_
   refine xe2 (RV.tup_iff.mp rv) ?_
   intro aa vs qz50
   refine xa4 qz50 ?_
   clear qz50
   rintro rfl _ hl rvs
   refine ng ?_
   split at e
   ·rename_i hk
    refine bc fun ng=>?_
    refine xe1 (rvs.get e) ?_
    intro vv qz51
    refine xa2 qz51 ?_
    clear qz51
    rintro hv hrv
    refine ng ?_
    exact tail_any hl.typeIs PySem.F.slot_tuple_getitem.lookup (item_tuple' hl hk.1 hk.2 hv ⟨_,H,hrv,St.refl hr,h⟩) (hs _ _)
   ·exact nope1 e
  ·exact nope1 e
 ·exact nope1 e
theorem so_sub(ha:So w h0 n c A X l a pa)(hb:So w h0 n c A X l b pb)(hs:∀o i,subscripted pb false o i=operate [o,i] (getItem o i)):So w h0 n c A X l (.sub a b) (.Subscript pa pb pos):=fun H Q h s E' r hE=>
 Subscript_ (J.run (ha H _ h) r hE fun v x H₁ s₁ p r₁ rv st=>J.run (hb H₁ _ p) r₁ hE fun u y H₂ s₂ p₂ r₂ ru st₂=>by
  refine bc fun ng=>?_
  refine xe1 (OptP.ex p₂) ?_
  intro q qz52
  refine xa2 qz52 ?_
  clear qz52
  rintro e p₂
  refine ng ?_
  exact up (st.trans st₂) (subV_J r₂.hr (st₂.rv rv) ru e p₂ hs))
theorem so_subK(ha:So w h0 n c A X l a pa):So w h0 n c A X l (.subK a k) (.Subscript pa (.Constant (.str (fname k)) kk p') pos):=fun H Q h s E' r hE=>
 Subscript_ (J.run (ha H _ h) r hE fun v x H₁ s₁ p r₁ rv st=>Constant_str (by
  refine bc fun ng=>?_
  refine xe1 (OptP.ex p) ?_
  intro q qz53
  refine xa2 qz53 ?_
  clear qz53
  rintro e p2
  refine ng ?_
  unfold subK at e
  split at e
  ·cases rv.ref_iff
   split at e
   ·rename_i es q'
    refine bc fun ng=>?_
    obtain⟨kvs,hl,he,rvs⟩:=r₁.hr.obj _ _ q'
    refine xe1 (find2_stored k es fname (fun _ _ e=>fname_inj e) kvs he rvs e) ?_
    intro vv qz54
    refine xa2 qz54 ?_
    clear qz54
    rintro hv hrv
    refine ng ?_
    refine tail_any (s:={s₁ with toks:=s₁.toks+1}) (T:="dict") hl.typeIs slot_dict_getitem.lookup (wpAny_getItem_of (knd:=strKind pw w) (k:=fname k) (by show Value.isStrOf (fname k) (.str (fname k) s₁.toks)=true;simp[Value.isStrOf]) (s:={s₁ with toks:=s₁.toks+1}) hl.mapOf hv ⟨_,H₁,hrv,st.trans (St.toks r₁.hr _),p2⟩) rfl
   ·exact nope1 e
  ·exact nope1 e))
end
section
variable{a b d e:E}{pos:Pos}
theorem ispart_of{x:V}{o:Option Int}(r:RV h P v x)(e:partV x=some o):IsPart v o∧∀i,o=some i→0≤i:=by
 delta partV at e
 split at e
 ·obtain rfl:=sj e;cases r.none_iff;exact⟨.none,fun i q=>by exact nope1 q⟩
 ·split at e
  ·rename_i hk;obtain rfl:=sj e;obtain⟨t,rfl⟩:=r.int_iff;exact⟨.int _ _,fun i q=>by obtain rfl:=sj q;exact hk.1⟩
  ·exact nope1 e
 ·exact nope1 e
theorem cut_pick{α:Type}(xs:List α)(lo hi:Nat):(xs.take hi).drop lo=(xs.drop (min lo xs.length)).take (min hi xs.length-min lo xs.length):=by
 apply List.ext_getElem?
 intro i
 rw[List.getElem?_drop,List.getElem?_take,List.getElem?_take,List.getElem?_drop]
 by_cases h:lo+i< xs.length
 ·have h1:min lo xs.length=lo:=by exact li2 4 [] [_,_,_,_] (.nmn U0 U1 U2) (.nlt (.a U0 U3) U1) (.neq U2 U0) rfl (mN (lo) (xs.length)) h
  rw[h1]
  by_cases h2:lo+i< hi
  ·rw[if_pos h2,if_pos (by exact li4 6 [] [_,_,_,_,_,_] (.sb U1 U0 U2) (.nmn U3 U4 U1) (.nlt (.a U0 U5) U4) (.nlt (.a U0 U5) U3) (.nlt U5 U2) rfl (ns (min hi xs.length) (lo)) (mN (hi) (xs.length)) h h2)]
  ·rw[if_neg h2,if_neg (by exact li3 6 [] [_,_,_,_,_,_] (.sb U1 U0 U2) (.nmn U3 U4 U1) (.no (.nlt (.a U0 U5) U3)) (.no (.nlt U5 U2)) rfl (ns (min hi xs.length) (lo)) (mN (hi) (xs.length)) h2)]
 ·have:xs[lo+i]? =none:=List.getElem?_eq_none (by exact li1 3 [] [_,_,_] (.no (.nlt (.a U0 U1) U2)) (.nle U2 (.a U0 U1)) rfl h)
  rw[this]
  split
  ·split
   ·rw[List.getElem?_eq_none];(exact li2 4 [] [_,_,_,_] (.nmn U0 U1 U2) (.no (.nlt (.a U0 U3) U1)) (.nle U1 (.a U2 U3)) rfl (mN (lo) (xs.length)) h)
   ·rfl
  ·split
   ·rw[List.getElem?_eq_none];(exact li2 4 [] [_,_,_,_] (.nmn U0 U1 U2) (.no (.nlt (.a U0 U3) U1)) (.nle U1 (.a U2 U3)) rfl (mN (lo) (xs.length)) h)
   ·rfl
noncomputable def natOf(o:Option Int)(k:Nat):Nat:=match o with
 |some i=>i.toNat
 |none=>k
theorem slicePick_cut(vs:List Value)(lo hi:Option Int)(h1:∀i,lo=some i→0≤i)(h2:∀i,hi=some i→0≤i):
  slicePick vs.toArray lo hi none=((vs.take (natOf hi vs.length)).drop (natOf lo 0)).toArray:=by
 have e:sliceBounds lo hi none vs.toArray.size=(((min (natOf lo 0) vs.length:Nat):Int),((min (natOf hi vs.length) vs.length:Nat):Int),1):=by
  simp only[sliceBounds,Option.getD_none,show(1:Int)>0 by decide,if_true,List.size_toArray]
  congr 1
  ·cases lo with
   |none=>simp[natOf]
   |some i=>have:=h1 i rfl;simp only[natOf];rw[if_neg (by exact li1 1 [_] [] (.le I0 J0) (.no (.lt J0 I0)) rfl this)];(exact li4 3 [_,_,_] [_,_,_] (.mx I0 J0 J1) (.mn J2 (.n U0) J0) (.nmn U1 U0 U2) (.tn J2 U1) (.eq J1 (.n U2)) rfl (xI (0) (min i (↑vs.length:Int))) (mI (i) ((↑vs.length:Int))) (mN (i.toNat) (vs.length)) (tn (i)))
  ·congr 1
   cases hi with
   |none=>simp[natOf]
   |some i=>have:=h2 i rfl;simp only[natOf];rw[if_neg (by exact li1 1 [_] [] (.le I0 J0) (.no (.lt J0 I0)) rfl this)];(exact li4 3 [_,_,_] [_,_,_] (.mx I0 J0 J1) (.mn J2 (.n U0) J0) (.nmn U1 U0 U2) (.tn J2 U1) (.eq J1 (.n U2)) rfl (xI (0) (min i (↑vs.length:Int))) (mI (i) ((↑vs.length:Int))) (mN (i.toNat) (vs.length)) (tn (i)))
 delta slicePick
 rw[e]
 simp only[sliceRange_one,pick_run]
 rw[cut_pick]
theorem cutV_eq(xs:List V)(lo hi:Option Int):cutV xs lo hi=(xs.take (natOf hi xs.length)).drop (natOf lo 0):=by
 delta cutV natOf
 cases hi<;>cases lo<;>simp
theorem RVs.cut(r:RVs h P vs xs)(lo hi:Option Int):RVs h P ((vs.take (natOf hi vs.length)).drop (natOf lo 0)) (cutV xs lo hi):=by
 rw[cutV_eq,←r.1]
 exact(r.take _).drop _
theorem wpAny_of_evalPart{o:Option Expr}{Q:Value→Shared→Prop}:(match o with|some e=>wpAny M A (eval e env) Q E' s|none=>Q .none s)→wpAny M A (evalPart o env) Q E' s:=by
 intro h
 cases o with
 |none=>exact wpAny_pure h
 |some e=>exact h
noncomputable def SoP(w:World)(h0:Heap)(n:Nat)(c:Cx)(A:Around)(X:Hp→Prop)(l:Loc)(a:E)(pa:Option Expr):Prop:=match pa with
 |some e=>So w h0 n c A X l a e
 |none=>a=.none
theorem SoP.j{pa:Option Expr}(h:SoP w h0 n c A X l a pa)(H:Hp)(Q:V→Hp→Prop)(hq:vcE w h0 n X a l H Q):J w h0 RV c A X (evalPart pa c.env) l H Q:=fun s E' r hE=>by
 refine wpAny_of_evalPart ?_
 cases pa with
 |some e=>exact h H Q hq s E' r hE
 |none=>
  obtain rfl:a=.none:=h
  exact⟨.none,H,.none,St.refl r.hr,hq⟩
theorem asS_of(hr:HRep w h0 Z H s.heap){x:V}(r:RV s.heap (Pu H Z) v x)(e:asS H x=some xs):∃a vs,v=.ref a∧s.heap.IsList a vs.toArray∧RVs s.heap (Pu H Z) vs xs:=by
 have other:asL H x=some xs→∃a vs,v=.ref a∧s.heap.IsList a vs.toArray∧RVs s.heap (Pu H Z) vs xs:=fun e=>by
  refine bc fun ng=>?_
  refine xe2 (asL_of hr r e) ?_
  intro a vs qz55
  refine xa3 qz55 ?_
  clear qz55
  rintro h1 h2 h3
  refine ng ?_
  exact⟨a,vs,h1,h2.isList,h3⟩
 cases x with
 |scr is=>
  have e:some (is.map V.int)=some xs:=e
  obtain rfl:=sj e
  cases r with
  |scr hp ht hl hv=>
   refine⟨_,_,rfl,ht,by simp[hl],fun i v x h1 h2=>?_⟩
   rw[List.getElem?_map,Option.map_eq_some_iff] at h2
   refine bc fun ng=>?_
   refine xe1 (h2) ?_
   try clear h2
   intro j qz56
   refine xa2 qz56 ?_
   clear qz56
   rintro h2 rfl
   refine xe1 (hv i v j h1 h2) ?_
   rintro t rfl
   refine ng ?_
   exact .int _ _
 |_=>exact other e
theorem so_slice{lo hi:E}(ha:So w h0 n c A X l a pa)(hlo:SoP w h0 n c A X l lo plo)(hhi:SoP w h0 n c A X l hi phi):So w h0 n c A X l (.slice a lo hi) (.Subscript pa (.Slice plo phi none p') pos):=fun H Q h s E' r hE=>
 Subscript_ (J.run (ha H _ h) r hE fun v x H₁ s₁ p r₁ rv st=>wpAny_Slice (J.run (hlo.j H₁ _ p) r₁ hE fun u y H₂ s₂ p₂ r₂ ru st₂=>J.run (hhi.j H₂ _ p₂) r₂ hE fun u' y' H₃ s₃ p₃ r₃ ru' st₃=>by
  refine wpAny_pure ?_
  refine bc fun ng=>?_
  refine xe1 (OptP.ex p₃) ?_
  intro xs qz57
  refine xa2 qz57 ?_
  clear qz57
  rintro e p₃
  refine xe1 (OptP.ex p₃) ?_
  intro lo' qz58
  refine xa2 qz58 ?_
  clear qz58
  rintro e₁ p₃
  refine xe1 (OptP.ex p₃) ?_
  intro hi' qz59
  refine xa3 qz59 ?_
  clear qz59
  rintro e₂ hsz p₃
  refine xe2 (asS_of r₃.hr (st₃.rv (st₂.rv rv)) e) ?_
  intro aa vs qz60
  refine xa3 qz60 ?_
  clear qz60
  rintro rfl hl' rvs
  refine xa2 (ispart_of (st₃.rv ru) e₁) ?_
  rintro i1 j1
  refine xa2 (ispart_of ru' e₂) ?_
  rintro i2 j2
  refine ng ?_
  refine tail_any (Heap.IsList.typeIs (s:={s₃ with heap:=s₃.heap.push {cls:=.type "slice",data:=.fields #[u,u',.none]}}) (hl'.push _)) list_getitem_lookup
   (wpAny_getItem_list_slice (hl'.push _) (Heap.IsSliceOf.new ..) i1 i2 .none (by simp) ?_ (by rw[List.size_toArray,rvs.1];exact Nat.le_trans hsz (by decide))) rfl
  rw[slicePick_cut vs lo' hi' j1 j2]
  have s1:St w h0 c.Z H₃ H₃ s₃ {s₃ with heap:=s₃.heap.push {cls:=.type "slice",data:=.fields #[u,u',.none]}}:=St.push r₃.hr _ s₃.toks
  refine EnR.up (((st.trans st₂).trans st₃).trans s1) ?_
  exact newL_at (n:=s₃.toks) s1.hr s1.hr.fresh_at.2 (fun _ _ e=>Heap.get?_push_of_some _ e) ⟨_,Heap.get?_push_size _ rfl⟩ ((s1.rvs rvs).cut lo' hi') (.inl p₃)))
theorem putList_at{xs':List V}(hr:HRep w h0 Z H s.heap)(q:H aa=some (.list xs))(hl:h'.PlainList aa vs'.toArray)(sb:Heap.SameBut aa s.heap h')(rv:RVs s.heap (Pu H Z) vs' xs'):
  St w h0 Z H (H.set aa (.list xs')) s {s with heap:=h',toks:=k}:=by
 have hf:foot H aa:=foot_of_some q
 have other:∀b,¬b=aa→h'.get? b=s.heap.get? b:=fun b hb=>sb.2 b hb
 exact⟨hr.put (o':=.list xs') q (fun b=>Iff.rfl) (fun b hb=>other b hb) ⟨vs',hl,rv.mono (fun b o hb e=>(other b fun q'=>hb.1 (q'▸hf)).trans e) fun b hb _=>hb⟩,
  fun b o e hfb _=>(other b fun q'=>hfb (q'▸hf)).trans e,fun b o hz e=>⟨o.slots,(other b fun q'=>hr.notZ aa hf (q'▸hz)).trans e,fun _=>rfl⟩,fun b hb=>.inl ((foot_set_same (o':=.list xs') q (fun b=>Iff.rfl) b).mp hb),rfl,rfl⟩
theorem RVs.set(r:RVs h P vs xs)(i:Nat){x:V}(rv:RV h P v x):RVs h P (vs.set i v) (xs.set i x):=by
 refine⟨by simp[r.1],fun j u y hu hy=>?_⟩
 rw[List.getElem?_set] at hu hy
 by_cases q:i=j
 ·subst q
  rw[if_pos rfl] at hu hy
  split at hu
  ·rename_i h1;obtain rfl:=sj hu
   rw[if_pos (by rw[←r.1];exact h1)] at hy;obtain rfl:=sj hy;exact rv
  ·exact nope1 hu
 ·rw[if_neg q] at hu hy;exact r.2 j u y hu hy
theorem setItem_plain{k:Int}{t:Tok}{Q:Unit→Shared→Prop}(hl:s.heap.PlainList aa vs.toArray)
  (h0:0≤k) (hfit:k< 2^60) (hn:k< vs.length)
  (hQ:∀h',h'.PlainList aa (vs.set k.toNat v).toArray→Heap.SameBut aa s.heap h'→Q () {s with heap:=h'}):wpAny (MM w) A (setItem (.ref aa) (.int k t) v) Q E' s:=by
 refine bc fun ng=>?_
 obtain⟨ne,ho⟩:=id hl
 refine ng ?_
 have hli:=hl.isList
 delta setItem
 try with_reducible refine wpAny_holding ?_
 first|refine wpAny_bind (wpAny_pure ?_)|skip
 refine wpAny_bind (wpAny_sequenceKey hli.typeIs (by decide) ?_)
 refine wpAny_bind (wpAny_callSpecial?_slot (name:=Str.ofString "__setitem__") hli.typeIs slot_list_setitem
  (wpAny_call_entry slot_list_setitem hli.typeIs entry_list_setitem ?_ (args_list_setitem _ _ _)))
 show wpAny _ _ (Builtin.List.listSubscript? (.int k t)>>=_) _ _ s
 refine wpAny_bind (wpAny_listSubscript_int (fitsIndex_of h0 (li1 1 [_] [] (.lt J0 (.c (2^60))) (.lt J0 (.c (2^63))) rfl hfit)) ?_)
 refine bc fun ng=>?_
 refine xe1 (Int.eq_ofNat_of_zero_le h0) ?_
 rintro j rfl
 refine ng ?_
 have hj:j< vs.toArray.size:=by simp;(exact li1 2 [] [_,_] (.lt (.n U0) (.n U1)) (.nlt U0 U1) rfl hn)
 have hx':vs.toArray[j]? =some vs.toArray[j]:=Array.getElem?_eq_getElem hj
 show wpAny _ _ ((seqItemAt aa j>>=fun r=>pure (r.map (j,·)))>>=_) _ _ s
 refine wpAny_bind (wpAny_bind (wpAny_seqItemAt ho rfl (wpAny_pure ?_)))
 rw[hx']
 show wpAny _ _ (setSeqItemAt aa j v>>=_) _ _ s
 have hfin:(s.heap.update aa (Obj.mapSeq (·.setIfInBounds j v))).PlainList aa (vs.set j v).toArray:=⟨ne,by
  rw[Heap.get?_update_self _ ho (by simp[Obj.mapSeq,Obj.isFreed])]
  simp[Obj.mapSeq]⟩
 refine wpAny_bind (wpAny_setSeqItemAt ho rfl ?_)
 first
  |exact wpAny_bind (wpAny_pure (wpAny_pure ⟨.none,rfl,wpAny_pure (hQ _ hfin (Heap.SameBut.update ..))⟩))
  |exact wpAny_pure ⟨.none,rfl,wpAny_pure (hQ _ hfin (Heap.SameBut.update ..))⟩
end
section
variable{a b d e:E}{pos:Pos}
theorem notStar_cons{e:Expr}(h:noStar (e::r)=true):starEach (e::r) env=(false,eval e env)::starEach r env:=by
 have h:=(Bool.and_eq_true_iff.mp h).1
 cases e<;>first|rfl|exact absurd h Bool.false_ne_true
theorem noStar_tail{e:Expr}(h:noStar (e::r)=true):noStar r=true:=(Bool.and_eq_true_iff.mp h).2
theorem starEach_plain:∀{es:List Expr},noStar es=true→(starEach es env).any (·.1)=false
 |[],_=>rfl
 |e::r,h=>by rw[notStar_cons h];exact starEach_plain (noStar_tail h)
theorem backTo_any{pos:Pos}:(backTo pos ts).any (·.1)=ts.any (·.1):=by
 delta backTo
 simp[List.any_map]
 try rfl
theorem trees_plain{es:List Expr}{pos:Pos}(h:noStar es=true):(backTo pos (starEach es env)).any (·.1)=false:=by rw[backTo_any];exact starEach_plain h
theorem args_any{f:Value}{Q:Args→Shared→Prop}(hp:ts.any (·.1)=false)(h:wpAny M A (spliced ts) (fun vs s₁=>Q ⟨vs,[]⟩ s₁) E' s):wpAny M A (evalArgs f true ts []) Q E' s:=by
 cases ts with
 |nil=>
  delta evalArgs
  show wpAny M A (spliced []>>=_) Q E' s
  refine wpAny_bind (wpAny_mono h (fun vs s₁ h₁=>wpAny_bind (wpAny_pure ?_)) fun _ _ e=>e)
  refine wpAny_holding ?_
  exact wpAny_bind (wpAny_pure (wpAny_bind (wpAny_pure (wpAny_pure h₁))))
 |cons t r=>
  refine bc fun ng=>?_
  obtain⟨b,x⟩:=t
  refine ng ?_
  cases b with
  |true=>simp at hp
  |false=>exact evalArgs_plain h
theorem base_plain{o:Expr}{name:Str}(h:plainBase o=true):attributeBase o name env (eval o env)=eval o env:=by
 cases o<;>try rfl
 rename_i f args kws p
 cases f<;>try rfl
 cases args<;>try rfl
 cases kws<;>try rfl
 exact absurd h Bool.false_ne_true
theorem meth_eval{o:Expr}{name:Str}{args:List Expr}{Q:Value→Shared→Prop}(hb:plainBase o=true)(hl:(apos.endLine==pos.line)=true)(hs:noStar args=true)(hn:args.length< 30)
  (h:wpAny M A (eval o env) (fun ov s₁=>∀pl,wpAny M A (getMethod ov name pl) (fun fx s₂=>wpAny M A (callWith pos fx.1 fx.2 (backTo pos (starEach args env)) []) Q E' s₂) E' s₁) E' s):
  wpAny M A (eval (.Call (.Attribute o name apos) args [] pos) env) Q E' s:=by
 have he:eval (.Call (.Attribute o name apos) args [] pos) env=(do
   let ov←attributeBase o name env (eval o env)
   standAt apos.atName
   methodCall o name apos pos env ov (args.length+0) (backTo pos (starEach args env)) (backToKw pos (keywordEach [] env))):=rfl
 rw[he,base_plain hb]
 refine wpAny_bind (wpAny_mono h (fun ov s₁ h₁=>wpAny_bind (wpAny_standAt ?_)) fun _ _ e=>e)
 have hf:methodCallForm (args.length+0) (backTo pos (starEach args env)) (backToKw pos (keywordEach [] env))=true:=by
  delta methodCallForm
  have h1:(backTo pos (starEach args env)).all (!·.1)=true:=by
   have:=trees_plain (env:=env) (pos:=pos) hs
   rw[List.any_eq_false] at this
   rw[List.all_eq_true]
   intro x hx
   have:=this x hx
   cases hx1:x.1<;>simp_all
  rw[h1]
  rw[show backToKw pos (keywordEach [] env)=[] from rfl]
  simp[hn]
 delta methodCall
 rw[hf]
 delta calleeOf methodCallPos
 simp-iota only[if_true,hl,Bool.not_true,Bool.false_or,Bool.or_true]
 refine wpAny_bind (wpAny_holding (wpAny_mono (h₁ _) (fun fx s₂ h₂=>?_) fun _ _ e=>e))
 exact wpAny_bind (wpAny_pure h₂)
theorem callWith_b{id:String}{first:List Value}{args:List Expr}{Q:Value→Shared→Prop}(hs:noStar args=true)
  (h:wpAny M A (spliced (backTo pos (starEach args env))) (fun vs s₁=>wpAny M A (call (.builtin id) (first++vs)) Q E' s₁) E' s):wpAny M A (callWith pos (.builtin id) first (backTo pos (starEach args env)) []) Q E' s:=
 callWith_builtin_kwB (trees_plain hs) rfl (args_any (trees_plain hs) h)
theorem callWith_t{T:String}{first:List Value}{args:List Expr}{Q:Value→Shared→Prop}(hs:noStar args=true)
  (h:wpAny M A (spliced (backTo pos (starEach args env))) (fun vs s₁=>wpAny M A (call (.type T) (first++vs)) Q E' s₁) E' s):wpAny M A (callWith pos (.type T) first (backTo pos (starEach args env)) []) Q E' s:=
 PyProof.Rows.callWith_type (trees_plain hs) (args_any (trees_plain hs) h)
theorem callWith_r{f:Value}{first:List Value}{args:List Expr}{Q:Value→Shared→Prop}(hs:noStar args=true)(hk:keepIn K f=true)
  (h:wpAny M A (spliced (backTo pos (starEach args env))) (fun vs s₁=>K.In s₁.heap∧wpAny M A (call f (first++vs)) Q E' s₁) E' s):wpAny M A (callWith pos f first (backTo pos (starEach args env)) []) Q E' s:=
 callWith_of (by rw[trees_plain hs];rfl) (keeps_K hk) (args_any (trees_plain hs) h)
end
theorem vI_ok{k:Int→Bool}(h:vI v k=true):∃i t,v=.int i t∧k i=true:=by cases v<;>first|exact nope3 h|exact⟨_,_,rfl,h⟩
theorem vS_ok{k:Str→Bool}(h:vS v k=true):∃i t,v=.str i t∧k i=true:=by cases v<;>first|exact nope3 h|exact⟨_,_,rfl,h⟩
theorem vR_ok{k:Addr→Bool}(h:vR v k=true):∃i,v=.ref i∧k i=true:=by cases v<;>first|exact nope3 h|exact⟨_,rfl,h⟩
section
variable{a b d e:E}{pos:Pos}
theorem intsAre_rv:∀{vs:List Value} {us:List V},intsAre vs us=true→RVs h P vs us
 |[],us,e=>by obtain rfl:=List.isEmpty_iff.mp e;exact RVs.nil
 |v::r,us,e=>by
  cases us with
  |nil=>exact absurd e Bool.false_ne_true
  |cons u q=>
   have e:=Bool.and_eq_true_iff.mp e
   have e1:=e.1
   cases u<;>first|exact absurd e1 Bool.false_ne_true|skip
   refine bc fun ng=>?_
   refine xe2 (vI_ok e1) ?_
   intro i t qz61
   refine xa2 qz61 ?_
   clear qz61
   rintro rfl e'
   refine ng ?_
   rw[of_decide_eq_true e'];exact .cons (.int _ _) (intsAre_rv e.2)
theorem static_pu(hr:HRep w h0 Z H s.heap){b:Addr}{o:Obj}(e:h0.get? b=some o):Pu H Z b:=⟨fun q=>(nomatch (hr.fresh b q).symm.trans e),fun q=>(nomatch (hr.zf b q).symm.trans e)⟩
theorem gv_rv(X0:K.In h0)(hr:HRep w h0 Z H s.heap)(e:gvOK K v u=true):RV s.heap (Pu H Z) v u:=by
 cases u<;>first|exact nope3 e|skip
 ·obtain⟨i,t,rfl,e⟩:=vI_ok e;rw[of_decide_eq_true e];exact .int _ _
 ·obtain⟨i,t,rfl,e⟩:=vS_ok e;rw[of_decide_eq_true e];exact .str _ _
 ·obtain⟨i,rfl,e⟩:=vR_ok e;rw[of_decide_eq_true e];exact .ref _
 ·refine bc fun ng=>?_
  refine xe1 (vR_ok e) ?_
  intro a qz62
  refine xa2 qz62 ?_
  clear qz62
  rintro rfl e2
  refine ng ?_
  clear e
  cases q:K.lookup a with
  |none=>rw[q] at e2;exact nope3 e2
  |some o=>
   rw[q] at e2
   refine bc fun ng=>?_
   refine xa2 (Bool.and_eq_true_iff.mp e2) ?_
   rintro e1 e
   refine ng ?_
   have:=X0 _ _ q
   refine bc fun ng=>?_
   obtain⟨oc,od,dt,osl⟩:=o
   refine ng ?_
   cases dt<;>first|exact nope3 e|skip
   have r:=intsAre_rv (h:=s.heap) (P:=Pu H Z) e
   exact .tup (static_pu hr this) ⟨_,hr.keep _ _ this,of_decide_eq_true e1,_,rfl⟩ r.1 r.2
theorem so_glob(G:Top' K h0)(hx:c.env.kindOf x=some .globalImplicit)(e:nsIn K mainGlobals x=some (some v))(hg:gvOK K v u=true)(hd:(x==("__debug__":Str))=false):So w h0 n c A X l (.glob x u) (.Name x p):=fun H Q h s E' r hE=>by
 refine bc fun ng=>?_
 refine xe4 (G.T) ?_
 rintro _ loose mg mb T
 refine ng ?_
 refine Name_function_global c.kind hx (loadGlobal_global (by rw[c.glob];exact T.g.keeps r.hr.keep) (mg_of G.X T.g e) ?_) hd
 exact⟨u,H,gv_rv G.X r.hr hg,St.refl r.hr,h⟩
theorem blt_name{Q:Value→Shared→Prop}(G:Top' K h0)(hx:c.env.kindOf x=some .globalImplicit)(e:nsIn K mainGlobals x=some none)(hv:bootBuiltins x=some v)(hn:x≠"__name__")(hd:(x==("__debug__":Str))=false)
  (r:Rep w h0 c l H s) (h:Q v s):wpAny (MM w) A (eval (.Name x p) c.env) Q E' s:=by
 refine bc fun ng=>?_
 refine xe4 (G.T) ?_
 rintro _ loose mg mb T
 refine ng ?_
 exact Name_function_global c.kind hx (loadGlobal_builtin (by rw[c.glob];exact T.g.keeps r.hr.keep) (mg_none_of G.X T.g e) (by rw[c.blt];exact T.b.keeps r.hr.keep) ((T.builtins x hn).trans hv) h) hd
theorem ints_items:∀{vs:List Value} {xs:List V} {is:List Int} {h:Heap} {P:Addr→Prop},RVs h P vs xs→intsOf xs=some is→∃ps:List (Int×Tok),vs=ps.map (fun p=>.int p.1 p.2)∧is=ps.map (·.1)
 |vs,[],is,h,P,r,e=>by obtain rfl:=sj e;exact⟨[],r.unnil,rfl⟩
 |vs,x::xs,is,h,P,r,e=>by
  refine bc fun ng=>?_
  refine xe2 (r.uncons) ?_
  intro v vs' qz63
  refine xa3 qz63 ?_
  clear qz63
  rintro rfl a r'
  refine ng ?_
  cases x<;>first|exact nope1 e|skip
  rename_i i
  replace e:=Option.map_eq_some_iff.mp (show(intsOf xs).map (i::·)=some is from e)
  refine bc fun ng=>?_
  refine xe1 (e) ?_
  try clear e
  intro is' qz64
  refine xa2 qz64 ?_
  clear qz64
  rintro e rfl
  refine xe1 (ints_items r' e) ?_
  intro ps qz65
  refine xa2 qz65 ?_
  clear qz65
  rintro rfl rfl
  refine xe1 (a.int_iff) ?_
  rintro t rfl
  refine ng ?_
  exact⟨(i,t)::ps,rfl,rfl⟩
theorem preSum_list(ps:List (Int×Tok)):preSum (numAt ps.toArray) ps.length=(ps.map (·.1)).sum:=by
 have gen:∀k,k≤ps.length→preSum (numAt ps.toArray) k=((ps.take k).map (·.1)).sum:=by
  intro k
  induction k with
  |zero=>intro _;simp[preSum]
  |succ k ih=>
   intro hk
   show preSum (numAt ps.toArray) k+numAt ps.toArray k=_
   rw[ih (li1 2 [] [_,_] (.nlt U0 U1) (.nle U0 U1) rfl hk),List.take_add_one,List.map_append,List.sum_append]
   have:ps[k]? =some ps[k]:=List.getElem?_eq_getElem (li1 2 [] [_,_] (.nlt U0 U1) (.nlt U0 U1) rfl hk)
   rw[this]
   simp[numAt,this]
 rw[gen _ (Nat.le_refl _),List.take_length]
theorem asSeq_len(hr:HRep w h0 Z H s.heap){x:V}(r:RV s.heap (Pu H Z) v x)(e:seqOf H x=some xs)(hsz:xs.length< 2^60){Q:Value→Shared→Prop}
  (h:∀t,Q (.int xs.length t) {s with toks:=s.toks+1+1}):wpAny (MM w) A (call (.builtin "len") [v]) Q E' s:=by
 delta seqOf at e
 split at e
 ·obtain rfl:=sj e
  refine bc fun ng=>?_
  refine xe2 (RV.tup_iff.mp r) ?_
  intro a vs qz66
  refine xa4 qz66 ?_
  clear qz66
  rintro rfl _ hl hv
  refine ng ?_
  have hq:=h (s.toks+1)
  rw[←hv.1] at hq
  refine len_tuple (items:=vs.toArray) hl (by rw[List.size_toArray,hv.1];(exact li1 1 [] [_] (.nlt U0 (.c (2^60))) (.lt (.n U0) (.c (2^63))) rfl hsz)) (by rw[List.size_toArray];exact hq)
 ·refine bc fun ng=>?_
  refine xe2 (asL_of hr r e) ?_
  intro a vs qz67
  refine xa3 qz67 ?_
  clear qz67
  rintro rfl hl hv
  refine ng ?_
  have hq:=h (s.toks+1)
  rw[←hv.1] at hq
  exact Calls.call_len_list hl.isList (by rw[List.size_toArray,hv.1];(exact li1 1 [] [_] (.nlt U0 (.c (2^60))) (.lt (.n U0) (.c (2^63))) rfl hsz)) (by rw[List.size_toArray];exact hq)
theorem b2_J{u:Value}{x:V}{k:B2}(hh:A.handled=none)(hr:HRep w h0 Z H s.heap)(rv:RV s.heap (Pu H Z) v x)(ru:RV s.heap (Pu H Z) u y)(h:b2V k x y fun z=>Q z H):wpAny (MM w) A (call (.builtin k.id) [v,u]) (EnR RV w h0 Z H s Q) E' s:=by
 cases x<;>try(cases k<;>exact h.elim)
 rename_i i
 cases y<;>try(cases k<;>exact h.elim)
 rename_i j
 obtain⟨t,rfl⟩:=rv.int_iff;obtain⟨t',rfl⟩:=ru.int_iff
 cases k with
 |min=>
  have h:Q (.int (min i j)) H:=h
  refine PySem.min_two_ints hh fun h' tk hk=>?_
  have st:St w h0 Z H H s {s with heap:=h',toks:=tk}:=St.grow hr hk rfl rfl
  by_cases q:j< i
  ·rw[if_pos q];rw[show min i j=j by(exact li2 3 [_,_,_] [] (.mn J0 J1 J2) (.lt J1 J0) (.eq J2 J1) rfl (mI (i) (j)) q)] at h;exact⟨_,H,.int _ _,st,h⟩
  ·rw[if_neg q];rw[show min i j=i by(exact li2 3 [_,_,_] [] (.mn J0 J1 J2) (.no (.lt J1 J0)) (.eq J2 J0) rfl (mI (i) (j)) q)] at h;exact⟨_,H,.int _ _,st,h⟩
 |max=>
  have h:Q (.int (max i j)) H:=h
  refine PySem.max_two_ints hh fun h' tk hk=>?_
  have st:St w h0 Z H H s {s with heap:=h',toks:=tk}:=St.grow hr hk rfl rfl
  by_cases q:j>i
  ·rw[if_pos q];rw[show max i j=j by(exact li2 3 [_,_,_] [] (.mx J0 J1 J2) (.lt J0 J1) (.eq J2 J1) rfl (xI (i) (j)) q)] at h;exact⟨_,H,.int _ _,st,h⟩
  ·rw[if_neg q];rw[show max i j=i by(exact li2 3 [_,_,_] [] (.mx J0 J1 J2) (.no (.lt J0 J1)) (.eq J2 J0) rfl (xI (i) (j)) q)] at h;exact⟨_,H,.int _ _,st,h⟩
end
section
variable{a b d e:E}{pos:Pos}
structure Blt(K:Frag)(c:Cx)(x:Str)(v:Value):Prop where
 hx:c.env.kindOf x=some .globalImplicit
 e:nsIn K mainGlobals x=some none
 hv:bootBuiltins x=some v
 hn:x≠"__name__"
 hd:(x==("__debug__":Str))=false
theorem blt_b{id:String}{args:List Expr}{Q:Value→Shared→Prop}(G:Top' K h0)(B:Blt K c x (.builtin id))(hs:noStar args=true)(r:Rep w h0 c l H s)
  (h:wpAny (MM w) A (spliced (backTo pos (starEach args c.env))) (fun vs s₁=>wpAny (MM w) A (call (.builtin id) vs) Q E' s₁) E' s):wpAny (MM w) A (eval (.Call (.Name x p) args [] pos) c.env) Q E' s:=
 Call_ (blt_name G B.hx B.e B.hv B.hn B.hd r (callWith_b hs h))
theorem blt_t{T:String}{args:List Expr}{Q:Value→Shared→Prop}(G:Top' K h0)(B:Blt K c x (.type T))(hs:noStar args=true)(r:Rep w h0 c l H s)
  (h:wpAny (MM w) A (spliced (backTo pos (starEach args c.env))) (fun vs s₁=>wpAny (MM w) A (call (.type T) vs) Q E' s₁) E' s):wpAny (MM w) A (eval (.Call (.Name x p) args [] pos) c.env) Q E' s:=
 Call_ (blt_name G B.hx B.e B.hv B.hn B.hd r (callWith_t hs h))
theorem so_b2{k:B2}(G:Top' K h0)(hA:A.handled=none)(B:Blt K c x (.builtin k.id))(hs:noStar [pa,pb]=true)(ha:So w h0 n c A X l a pa)(hb:So w h0 n c A X l b pb):So w h0 n c A X l (.b2 k a b) (.Call (.Name x p) [pa,pb] [] pos):=fun H Q h s E' r hE=>
 blt_b G B hs r (args_cons (J.run (ha H _ h) r hE fun v x H₁ s₁ p r₁ rv st=>args_cons (J.run (hb H₁ _ p) r₁ hE fun u y H₂ s₂ p₂ r₂ ru st₂=>args_nil (up (st.trans st₂) (b2_J hA r₂.hr (st₂.rv rv) ru p₂))) (notStar_cons (noStar_tail hs))) (notStar_cons hs))
theorem so_len(G:Top' K h0)(B:Blt K c x (.builtin "len"))(hs:noStar [pa]=true)(ha:So w h0 n c A X l a pa):So w h0 n c A X l (.b1 .len a) (.Call (.Name x p) [pa] [] pos):=fun H Q h s E' r hE=>
 blt_b G B hs r (args_cons (J.run (ha H _ h) r hE fun v x H₁ s₁ p r₁ rv st=>args_nil (by
  refine bc fun ng=>?_
  refine xe1 (OptP.ex p) ?_
  intro xs qz68
  refine xa3 qz68 ?_
  clear qz68
  rintro e hsz p
  refine ng ?_
  exact asSeq_len r₁.hr rv e hsz fun t=>⟨_,H₁,.int _ _,st.trans (St.toks r₁.hr _),p⟩)) (notStar_cons hs))
theorem so_abs(G:Top' K h0)(B:Blt K c x (.builtin "abs"))(hs:noStar [pa]=true)(ha:So w h0 n c A X l a pa):So w h0 n c A X l (.b1 .abs a) (.Call (.Name x p) [pa] [] pos):=fun H Q h s E' r hE=>
 blt_b G B hs r (args_cons (J.run (ha H _ h) r hE fun v x H₁ s₁ p r₁ rv st=>args_nil (by
  cases x<;>try exact p.elim
  rename_i i
  refine bc fun ng=>?_
  refine xe1 (rv.int_iff) ?_
  rintro t rfl
  refine ng ?_
  have p:Q (.int i.natAbs) H₁:=p
  refine call_abs_int fun u tk=>⟨.int i.natAbs,H₁,?_,st.trans (St.toks r₁.hr _),p⟩
  rw[show(if i< 0 then-i else i)=(i.natAbs:Int) from a_abs i/-(first|lia|omega)-/];exact .int _ _)) (notStar_cons hs))
theorem so_sum(G:Top' K h0)(hA:A.handled=none)(B:Blt K c x (.builtin "sum"))(hs:noStar [pa]=true)(ha:So w h0 n c A X l a pa):So w h0 n c A X l (.b1 .sum a) (.Call (.Name x p) [pa] [] pos):=fun H Q h s E' r hE=>
 blt_b G B hs r (args_cons (J.run (ha H _ h) r hE fun v x H₁ s₁ p r₁ rv st=>args_nil (by
  cases x<;>try exact p.elim
  rename_i xs
  have p:OptP (intsOf xs) fun is=>Q (.int is.sum) H₁:=p
  refine bc fun ng=>?_
  refine xe1 (OptP.ex p) ?_
  intro is qz69
  refine xa2 qz69 ?_
  clear qz69
  rintro e p
  refine xe2 (RV.lst_iff.mp rv) ?_
  intro aa vs qz70
  refine xa4 qz70 ?_
  clear qz70
  rintro rfl _ hl rvs
  refine xe1 (ints_items rvs e) ?_
  intro ps qz71
  refine xa2 qz71 ?_
  clear qz71
  rintro rfl rfl
  refine ng ?_
  refine sum_intListG (xs:=ps.toArray) hA (by simpa[intItems] using hl.isList) fun h' tk t' hk=>⟨.int (ps.map (·.1)).sum,H₁,?_,st.trans (St.grow r₁.hr hk rfl rfl),p⟩
  rw[List.size_toArray,preSum_list];exact .int _ _)) (notStar_cons hs))
theorem so_list(G:Top' K h0)(B:Blt K c x (.type "list"))(hs:noStar [pa]=true)(ha:So w h0 n c A X l a pa):So w h0 n c A X l (.b1 .list a) (.Call (.Name x p) [pa] [] pos):=fun H Q h s E' r hE=>
 blt_t G B hs r (args_cons (J.run (ha H _ h) r hE fun v x H₁ s₁ p r₁ rv st=>args_nil (by
  cases x<;>try exact p.elim
  rename_i xs
  refine bc fun ng=>?_
  obtain⟨hsz,p⟩:xs.length≤100000∧Q (.lst xs) H₁:=p
  refine xe2 (RV.lst_iff.mp rv) ?_
  intro aa vs qz72
  refine xa4 qz72 ?_
  clear qz72
  rintro rfl _ ⟨k,ho⟩ rvs
  refine ng ?_
  refine call_list_seq aa (.inl rfl) ho rfl rfl (fun h' c' hk hn=>EnR.up st ?_) (by rw[List.size_toArray,rvs.1];exact Nat.le_trans hsz (by decide))
  exact newL_at (n:=s₁.toks) r₁.hr r₁.hr.fresh_at.2 hk ⟨_,hn⟩ rvs (.inl p))) (notStar_cons hs))
theorem so_tup{es:Es}(ha:SoEs w h0 n c A X l es pes):So w h0 n c A X l (.tup es) (.Tuple pes k pos):=fun H Q h s E' r hE=>
 Tuple_ (J.run (ha pos H _ h) r hE fun vs xs H₁ s₁ p r₁ rv st=>up st (newTuple_J r₁.hr rv (Nat.le_trans p.1 (by decide)) p.2))
theorem so_lst{es:Es}(ha:SoEs w h0 n c A X l es pes):So w h0 n c A X l (.lst es) (.List pes pos):=fun H Q h s E' r hE=>
 List_ (J.run (ha pos H _ h) r hE fun vs xs H₁ s₁ p r₁ rv st=>up st (newList_J r₁.hr rv (Nat.le_trans p.1 (by decide)) (.inl p.2)))
theorem so_lstM{es:Es}(ha:SoEs w h0 n c A X l es pes):So w h0 n c A X l (.lstM es) (.List pes pos):=fun H Q h s E' r hE=>
 List_ (J.run (ha pos H _ h) r hE fun vs xs H₁ s₁ p r₁ rv st=>up st (newList_J r₁.hr rv (Nat.le_trans p.1 (by decide)) (.inr p.2)))
theorem soEs_nil:SoEs w h0 n c A X l .nil []:=fun pos H Q h s E' r hE=>args_nil ⟨[],H,RVs.nil,St.refl r.hr,h⟩
theorem soEs_cons{es:Es}(hs:noStar (pa::pes)=true)(ha:So w h0 n c A X l a pa)(hr:SoEs w h0 n c A X l es pes):SoEs w h0 n c A X l (.cons a es) (pa::pes):=fun pos H Q h s E' r hE=>
 args_cons (J.run (ha H _ h) r hE fun v x H₁ s₁ p r₁ rv st=>J.run (hr pos H₁ _ p) r₁ hE fun vs xs H₂ s₂ p₂ r₂ rvs st₂=>⟨x::xs,H₂,.cons (st₂.rv rv) rvs,st.trans st₂,p₂⟩) (notStar_cons hs)
end
section
variable{a b d e:E}{pos:Pos}
theorem plain_nodict(hl:s.heap.PlainList lA vs.toArray):s.heap.NoDictAt (.ref lA):=by obtain⟨k,ho⟩:=hl;exact⟨_,ho,rfl⟩
theorem plain_mapSeq(f:Array Value→Array Value)(hl:h.PlainList aa items):(h.update aa (Obj.mapSeq f)).PlainList aa (f items):=by
 refine bc fun ng=>?_
 obtain⟨k,ho⟩:=hl
 refine ng ?_
 exact⟨if(f items).size=items.size then k else k+1,(Heap.get?_update_self _ ho (by simp[Obj.mapSeq,Obj.isFreed])).trans (by simp[Obj.mapSeq])⟩
theorem app_J{u:Value}{x:V}{Q:Hp→Prop}(hr:HRep w h0 Z H s.heap)(rv:RV s.heap (Pu H Z) v x)(ru:RV s.heap (Pu H Z) u y)(h:appV H x y Q)
  (k:∀s' H',St w h0 Z H H' s s'→Q H'→Post .none s'):wpAny (MM w) A (call (.builtin "list.append") [v,u]) Post E' s:=by
 delta appV at h
 split at h
 ·rename_i aa
  cases rv.ref_iff
  split at h
  ·rename_i xs q
   refine bc fun ng=>?_
   refine xa2 (h) ?_
   try clear h
   rintro hsz h
   obtain⟨vs,hl,rvs⟩:=hr.obj _ _ q
   refine ng ?_
   refine wpAny_list_append_plain hl (fun h' hpl hs=>?_) (by rw[List.size_toArray,rvs.1];exact Nat.le_trans hsz (by decide))
   have e:vs.toArray.push u=(vs++[u]).toArray:=by simp
   rw[e] at hpl
   exact k _ _ (putList_at (k:=s.toks) hr q hpl hs (rvs.append (.cons ru .nil))) h
  ·exact h.elim
 ·exact h.elim
theorem ext_J{u:Value}{x:V}{Q:Hp→Prop}(hr:HRep w h0 Z H s.heap)(rv:RV s.heap (Pu H Z) v x)(ru:RV s.heap (Pu H Z) u y)(h:extV H x y Q)
  (k:∀s' H',St w h0 Z H H' s s'→Q H'→Post .none s'):wpAny (MM w) A (call (.builtin "list.extend") [v,u]) Post E' s:=by
 delta extV at h
 split at h
 ·rename_i aa
  cases rv.ref_iff
  split at h
  ·rename_i xs q
   cases y<;>try exact h.elim
   rename_i ys
   refine bc fun ng=>?_
   obtain⟨⟨hsz,hsz2⟩,h⟩:(xs.length≤100000∧ys.length≤100000)∧Q (H.set aa (.list (xs++ys))):=h
   obtain⟨vs,hl,rvs⟩:=hr.obj _ _ q
   refine xe2 (RV.lst_iff.mp ru) ?_
   intro bb ws qz73
   refine xa4 qz73 ?_
   clear qz73
   rintro rfl _ hl2 rws
   obtain⟨k1,ho⟩:=id hl
   obtain⟨k2,ho2⟩:=id hl2
   refine ng ?_
   have h1:vs.toArray.size=xs.length:=by rw[List.size_toArray,rvs.1]
   have h2:ws.toArray.size=ys.length:=by rw[List.size_toArray,rws.1]
   have hline:sizeLine≥200000:=by decide
   have h3:=rvs.1
   have h4:=rws.1
   refine call_meets PySem.F.slot_list_extend ⟨_,ho,rfl⟩ PySem.F.entry_list_extend (PySem.F.args_list_extend_2 _ _)
    (AutoSeq1.list_extend_list_list_0 aa vs.toArray k1 bb ws.toArray k2 (by simp[Builtin.List.listTooLong];intro _;(exact li5 5 [] [_,_,_,_,_] (.nle U0 (.c 100000)) (.nle U1 (.c 100000)) (.nle (.c 200000) U2) (.neq U3 U0) (.neq U4 U1) (.nle (.a U3 U4) U2) rfl hsz hsz2 hline h3 h4)) (li3 3 [] [_,_,_] (.nle U0 (.c 100000)) (.neq U1 U0) (.nle (.c 200000) U2) (.nle U1 U2) rfl hsz h1 hline) (li5 5 [] [_,_,_,_,_] (.nle U0 (.c 100000)) (.nle U1 (.c 100000)) (.neq U2 U0) (.neq U3 U1) (.nle (.c 200000) U4) (.nle (.a U2 U3) (.a U4 O1)) rfl hsz hsz2 h1 h2 hline)) ⟨ho,ho2,?_⟩
   have hpl:(s.heap.update aa (Obj.mapSeq fun x=>x++ws.toArray)).PlainList aa (vs++ws).toArray:=by
    have:=plain_mapSeq (fun x=>x++ws.toArray) hl
    simpa using this
   exact k _ _ (putList_at (k:=s.toks) hr q hpl (Heap.SameBut.update ..) (rvs.append rws)) h
  ·exact h.elim
 ·exact h.elim
theorem wite{α β:Type}{c:Prop}[Decidable c]{X Y:Sem α}{k:α→Sem β}{v:α}{Q:β→Shared→Prop}{E:Value→Shared→Prop}(hx:∀{R:α→Shared→Prop},R v s→wpAny M A X R E s)(hy:∀{R:α→Shared→Prop},R v s→wpAny M A Y R E s)(hk:wpAny M A (k v) Q E s):
  wpAny M A (if c then X>>=k else Y>>=k) Q E s:=by
 by_cases h:c
 ·rw[if_pos h];exact wpAny_bind (hx hk)
 ·rw[if_neg h];exact wpAny_bind (hy hk)
theorem setSlice_J{bb:Addr}{Q:Unit→Shared→Prop}(hl:s.heap.PlainList aa vs.toArray)(hb:s.heap.PlainList bb ws.toArray)
  (hs:s.heap.IsSliceOf sl vl vu .none) (pl:IsPart vl (some lo)) (pu:IsPart vu (some hi)) (h0':0≤lo) (h1:lo≤hi) (h2:hi≤vs.length) (hz:vs.length≤100000) (hz2:ws.length≤100000)
  (h:∀h',h'.PlainList aa (vs.take lo.toNat++ws++vs.drop hi.toNat).toArray→Heap.SameBut aa s.heap h'→Q () {s with heap:=h'}):wpAny (MM w) A (setItem (.ref aa) (.ref sl) (.ref bb)) Q E' s:=by
 have hli:=hl.isList
 have hbi:=hb.isList
 refine bc fun ng=>?_
 obtain⟨ne,ho⟩:=id hl
 obtain⟨nb,hob⟩:=id hb
 obtain⟨os,hos,hcs,hds⟩:=id hs
 refine ng ?_
 have hTs:s.TypeIs (.ref sl) "slice":=⟨os,hos,hcs⟩
 delta setItem
 try with_reducible refine wpAny_holding ?_
 first|refine wpAny_bind (wpAny_pure ?_)|skip
 refine wpAny_bind (wpAny_sequenceKey hli.typeIs (by decide) ?_)
 refine wpAny_bind (wpAny_callSpecial?_slot (name:=Str.ofString "__setitem__") hli.typeIs slot_list_setitem
  (wpAny_call_entry slot_list_setitem hli.typeIs entry_list_setitem ?_ (args_list_setitem _ _ _)))
 show wpAny _ _ (Builtin.List.listSubscript? (.ref sl)>>=_) _ _ s
 refine wpAny_bind ?_
 delta Builtin.List.listSubscript?
 refine wpAny_bind (wpAny_specialOf hTs slice_no_index ?_)
 simp-iota only[Option.isNone_none,if_true]
 refine wpAny_pure ?_
 show wpAny _ _ (typeOf (.ref sl)>>=_) _ _ s
 refine wpAny_bind (wpAny_typeOf hTs ?_)
 rw[if_neg (by decide)]
 rw[listSliceParts_eq]
 refine wpAny_bind (wpAny_bind (wpAny_field hos hds (x:=.none) rfl (wpAny_bind (wpAny_listPart .none ?_))))
 rw[if_neg (by exact Bool.false_ne_true)]
 refine wpAny_bind (wpAny_field hos hds (x:=vl) rfl (wpAny_bind (wpAny_listPart pl ?_)))
 refine wpAny_bind (wpAny_field hos hds (x:=vu) rfl (wpAny_bind (wpAny_listPart pu (wpAny_pure ?_))))
 have items:∀{aa:Addr} {xs:Array Value} {k:Nat} {Q:Array Value→Shared→Prop},s.heap.get? aa=some {cls:=.type "list",data:=.seq xs k}→Q xs s→∀{A E'},wpAny (MM w) A (Builtin.List.listItems (.ref aa)) Q E' s:=by
  intro aa xs k Q ho hq A E'
  delta Builtin.List.listItems
  exact wpAny_bind (wpAny_seqItems ho rfl (wpAny_pure hq))
 have all:∀{Q:Array Value→Shared→Prop} {A E'},Q ws.toArray s→wpAny (MM w) A (Builtin.List.listAllItems (.ref bb) "must assign iterable to extended slice") Q E' s:=by
  intro Q A E' hq
  delta Builtin.List.listAllItems
  refine wpAny_bind (wpAny_typeOf hbi.typeIs ?_)
  simp-iota only[beq_self_eq_true,Bool.true_or,if_true]
  exact items hob hq
 have e:sliceBounds (some lo) (some hi) none vs.toArray.size=(lo,hi,1):=by
  simp only[sliceBounds,Option.getD_none,show(1:Int)>0 by decide,if_true,List.size_toArray]
  rw[if_neg (show¬lo< 0 by exact li1 1 [_] [] (.le I0 J0) (.no (.lt J0 I0)) rfl h0'),if_neg (show¬hi< 0 by exact li2 2 [_,_] [] (.le I0 J0) (.le J0 J1) (.no (.lt J1 I0)) rfl h0' h1)]
  congr 1
  ·(exact li5 4 [_,_,_,_] [_] (.mx I0 J0 J1) (.mn J2 (.n U0) J0) (.le I0 J2) (.le J2 J3) (.le J3 (.n U0)) (.eq J1 J2) rfl (xI (0) (min lo (↑vs.length:Int))) (mI (lo) ((↑vs.length:Int))) h0' h1 h2)
  ·congr 1;(exact li5 4 [_,_,_,_] [_] (.mx I0 J0 J1) (.mn J2 (.n U0) J0) (.le I0 J3) (.le J3 J2) (.le J2 (.n U0)) (.eq J1 J2) rfl (xI (0) (min hi (↑vs.length:Int))) (mI (hi) ((↑vs.length:Int))) h0' h1 h2)
 have hline:sizeLine≥200001:=by decide
 have hlong:Builtin.List.listTooLong (vs.toArray.size+ws.toArray.size)=false:=by simp-iota [Builtin.List.listTooLong];(exact li3 3 [] [_,_,_] (.nle U0 (.c 100000)) (.nle U1 (.c 100000)) (.nle (.c 200001) U2) (.nle (.a U0 U1) U2) rfl hz hz2 hline)
 have e2:(vs.toArray.extract 0 lo.toNat++ws.toArray++vs.toArray.extract (max lo hi).toNat)=(vs.take lo.toNat++ws++vs.drop hi.toNat).toArray:=by
  rw[show max lo hi=hi by(exact li2 3 [_,_,_] [] (.mx J0 J1 J2) (.le J0 J1) (.eq J2 J1) rfl (xI (lo) (hi)) h1)]
  apply Array.ext'
  simp
  exact List.take_of_length_le (by simp)
 have hpl:=plain_mapSeq (fun xs=>xs.extract 0 lo.toNat++ws.toArray++xs.extract (max lo hi).toNat) hl
 rw[e2] at hpl
 refine wite (v:=ws.toArray) (fun h=>items hob h) (fun h=>all h) ?_
 refine wpAny_bind (items ho ?_)
 refine wpAny_bind (wpAny_of_eq (sliceIndices_raw (some lo) (some hi) none vs.toArray.size (by simp)) ?_)
 rw[e]
 dsimp only
 simp-iota only[beq_self_eq_true,if_true]
 refine wpAny_bind (wpAny_rule ?_)
 simp-iota only[hlong,Bool.false_eq_true,if_false]
 refine wpAny_bind (m:=Builtin.List.listUpdate _ _) (wpAny_updateSeq ho rfl ?_ (hz:=by rw[List.size_toArray];(exact li2 2 [] [_,_] (.nle U0 (.c 100000)) (.nle (.c 200001) U1) (.nle U0 U1) rfl hz hline)) (_hz':=by
  have:(vs.toArray.extract 0 lo.toNat++ws.toArray++vs.toArray.extract (max lo hi).toNat).size≤200001:=by rw[e2];simp;exact a_slc (Int.toNat_le_toNat h1) hz hz2/-(first|lia|omega)-/
  exact Nat.le_trans this (li1 1 [] [_] (.nle (.c 200001) U0) (.nle (.c 200001) (.a U0 O1)) rfl hline)))
 refine wpAny_bind (wpAny_letGo ?_)
 first
  |exact wpAny_bind (wpAny_pure (wpAny_pure ⟨.none,rfl,wpAny_pure (h _ hpl (Heap.SameBut.update ..))⟩))
  |exact wpAny_pure ⟨.none,rfl,wpAny_pure (h _ hpl (Heap.SameBut.update ..))⟩
end
section
variable{a b d e:E}{pos:Pos}
theorem meth_list{name:Str}{id:String}(slot:Slot "list" name id)(hty:typeOf (.builtin id)=pure (.type "method_descriptor"))(hp:plainBase pa=true)(hl:(apos.endLine==pos.line)=true)(hs:noStar [pb]=true)
  (ha:So w h0 n c A X l a pa) (hb:So w h0 n c A X l b pb) {P:V→V→Hp→Prop} (h:vcE w h0 n X a l H fun v H₁=>(asL H₁ v).isSome=true∧vcE w h0 n X b l H₁ fun u H₂=>P v u H₂)
  (k:∀(v u:Value) (x y:V) (H₂:Hp) (s₂:Shared),P x y H₂→HRep w h0 c.Z H₂ s₂.heap→RV s₂.heap (Pu H₂ c.Z) v x→RV s₂.heap (Pu H₂ c.Z) u y→wpAny (MM w) A (call (.builtin id) [v,u]) (EnR RV w h0 c.Z H₂ s₂ Q) E' s₂) (r:Rep w h0 c l H s) (hE:HE w h0 c A X l E'):
  wpAny (MM w) A (eval (.Call (.Attribute pa name apos) [pb] [] pos) c.env) (EnR RV w h0 c.Z H s Q) E' s:=
 meth_eval hp hl hs (by simp) (J.run (ha H _ h) r hE fun v x H₁ s₁ p r₁ rv st=>fun pl=>by
  refine bc fun ng=>?_
  refine xe1 (Option.isSome_iff_exists.mp p.1) ?_
  rintro xs e
  refine xe2 (asL_of r₁.hr rv e) ?_
  intro aa vs qz74
  refine xa3 qz74 ?_
  clear qz74
  rintro rfl hpl rvs
  refine ng ?_
  exact getMethod_list_of slot hty hpl.isList (plain_nodict hpl) (callWith_b hs (args_cons (J.run (hb H₁ _ p.2) r₁ hE fun u y H₂ s₂ p₂ r₂ ru st₂=>args_nil (up (st.trans st₂) (k _ _ _ _ _ _ p₂ r₂.hr (st₂.rv rv) ru))) (notStar_cons hs))))
theorem so_app(hp:plainBase pa=true)(hl:(apos.endLine==pos.line)=true)(hs:noStar [pb]=true)(ha:So w h0 n c A X l a pa)(hb:So w h0 n c A X l b pb):
  So w h0 n c A X l (.app a b) (.Call (.Attribute pa (Str.ofString "append") apos) [pb] [] pos):=fun H Q h s E' r hE=>
 meth_list PySem.F.slot_list_append PySem.F.type_list_append hp hl hs ha hb h (fun v u x y H₂ s₂ p hr rv ru=>app_J hr rv ru p fun s' H' st q=>⟨.none,H',.none,st,q⟩) r hE
theorem so_ext(hp:plainBase pa=true)(hl:(apos.endLine==pos.line)=true)(hs:noStar [pb]=true)(ha:So w h0 n c A X l a pa)(hb:So w h0 n c A X l b pb):
  So w h0 n c A X l (.ext a b) (.Call (.Attribute pa (Str.ofString "extend") apos) [pb] [] pos):=fun H Q h s E' r hE=>
 meth_list PySem.F.slot_list_extend PySem.F.type_list_extend hp hl hs ha hb h (fun v u x y H₂ s₂ p hr rv ru=>ext_J hr rv ru p fun s' H' st q=>⟨.none,H',.none,st,q⟩) r hE
theorem putDict_at{α β:Type}[DecidableEq α][DecidableEq β]{knd:PySem.KeyKind pw w β}(hr:HRep w h0 Z H s.heap)(q:H aa=some o)(hown:∀b,Own aa o b↔b=aa)(hown':∀b,Own aa o' b↔b=aa)(sb:Heap.SameBut aa s.heap h')(hx:OR w h' (Pu H Z) aa o'):
  St w h0 Z H (H.set aa o') s {s with heap:=h',toks:=k}:=by
 have hf:foot H aa:=foot_of_some q
 have other:∀b,¬b=aa→h'.get? b=s.heap.get? b:=fun b hb=>sb.2 b hb
 have hs:∀b,Own aa o' b↔Own aa o b:=fun b=>(hown' b).trans (hown b).symm
 exact⟨hr.put (o':=o') q hs (fun b hb=>other b fun e=>hb ((hown b).mpr e)) hx,
  fun b o e hfb _=>(other b fun q'=>hfb (q'▸hf)).trans e,fun b o hz e=>⟨o.slots,(other b fun q'=>hr.notZ aa hf (q'▸hz)).trans e,fun _=>rfl⟩,fun b hb=>.inl ((foot_set_same (o':=o') q hs b).mp hb),rfl,rfl⟩
theorem stored_putD{α β:Type}[DecidableEq α][DecidableEq β](f:α→β)(hf:∀i j,f i=f j→i=j)(k:α)(rv:RV h P v u):∀(kvs:List (β×Value)) (es:List (α×V)),kvs.map (·.1)=es.map (fun e=>f e.1)→(es.map (·.1)).Nodup→RVs h P (kvs.map (·.2)) (es.map (·.2))→
  (stored kvs (f k) v).map (·.1)=(putD k u es).map (fun e=>f e.1)∧RVs h P ((stored kvs (f k) v).map (·.2)) ((putD k u es).map (·.2))
 |[],[],_,_,r=>⟨by simp[stored,putD],by simpa[stored,putD] using RVs.cons rv .nil⟩
 |[],_::_,e,_,_=>by simp at e
 |_::_,[],e,_,_=>by simp at e
 |(k',v')::kvs,(j,x)::es,e,hn,r=>by
  simp only[List.map_cons,List.cons.injEq] at e
  refine bc fun ng=>?_
  refine xa2 (e) ?_
  try clear e
  rintro rfl e
  refine ng ?_
  simp only[List.map_cons,List.nodup_cons] at hn
  refine bc fun ng=>?_
  refine xe2 (RVs.uncons (xs:=es.map (·.2)) (x:=x) (by simpa using r)) ?_
  intro v2 vs' qz75
  refine xa3 qz75 ?_
  clear qz75
  rintro e1 r1 r2
  refine ng ?_
  simp only[List.map_cons,List.cons.injEq] at e1
  refine bc fun ng=>?_
  refine xa2 (e1) ?_
  try clear e1
  rintro rfl rfl
  refine ng ?_
  by_cases q:k=j
  ·subst q
   have hno:∀kv∈kvs,¬kv.1=f k:=by
    intro kv hkv he
    have:kv.1∈kvs.map (·.1):=List.mem_map_of_mem hkv
    rw[e,List.mem_map] at this
    refine bc fun ng=>?_
    refine xe1 (this) ?_
    try clear this
    intro p qz76
    refine xa2 qz76 ?_
    clear qz76
    rintro hp hp2
    refine ng ?_
    have:=hf _ _ (hp2.trans he)
    exact hn.1 (this▸List.mem_map_of_mem hp)
   have hst:stored ((f k,v')::kvs) (f k) v=(f k,v)::kvs:=by
    delta stored
    simp only[List.any_cons,decide_true,Bool.true_or,if_true,List.map_cons,List.cons.injEq,true_and]
    exact(List.map_congr_left fun kv hkv=>if_neg (hno kv hkv)).trans (List.map_id _)
   rw[hst]
   simp only[putD,if_true,List.map_cons]
   exact⟨by rw[e],.cons rv r2⟩
  ·have q':¬f j=f k:=fun e=>q (hf _ _ e).symm
   refine bc fun ng=>?_
   refine xa2 (stored_putD f hf k rv kvs es e hn.2 r2) ?_
   rintro i1 i2
   refine ng ?_
   have hst:stored ((f j,v')::kvs) (f k) v=(f j,v')::stored kvs (f k) v:=by
    delta stored
    simp only[List.any_cons,q',decide_false,Bool.false_or,List.map_cons,if_false]
    split<;>rfl
   rw[hst]
   simp only[putD,if_neg q,List.map_cons]
   exact⟨by rw[i1],.cons r1 i2⟩
end
section
variable{a b d e:E}{pos:Pos}
theorem nodup_of_map{α β:Type}{f:α→β}:∀{l:List α},(l.map f).Nodup→l.Nodup
 |[],_=>List.nodup_nil
 |x::r,h=>by
  rw[List.map_cons,List.nodup_cons] at h
  exact List.nodup_cons.mpr ⟨fun q=>h.1 (List.mem_map_of_mem q),nodup_of_map h.2⟩
theorem putI_J{j u:Value}{x i:V}{Q:Hp→Prop}(hr:HRep w h0 Z H s.heap)(rv:RV s.heap (Pu H Z) v x)(rj:RV s.heap (Pu H Z) j i)(ru:RV s.heap (Pu H Z) u y)(h:putI H x i y Q):
  wpAny (MM w) A (setItem v j u) (fun _ s'=>∃H',St w h0 Z H H' s s'∧Q H') E' s:=by
 delta putI at h
 split at h
 ·rename_i k
  refine bc fun ng=>?_
  refine xe1 (rj.int_iff) ?_
  rintro t rfl
  refine ng ?_
  split at h
  ·rename_i aa
   cases rv.ref_iff
   split at h
   ·rename_i xs q
    refine bc fun ng=>?_
    refine xa2 (h) ?_
    try clear h
    rintro⟨k0,k1,k2⟩ h
    obtain⟨vs,hl,rvs⟩:=hr.obj _ _ q
    refine ng ?_
    exact setItem_plain hl k0 k1 (by rw[rvs.1];exact k2) fun h' hp sb=>⟨_,putList_at (k:=s.toks) hr q hp sb (rvs.set k.toNat ru),h⟩
   ·rename_i es q
    refine bc fun ng=>?_
    refine xa2 (h) ?_
    try clear h
    rintro hz h
    obtain⟨kvs,hl,he,rvs⟩:=hr.obj _ _ q
    refine ng ?_
    have hnd:(es.map (·.1)).Nodup:=by obtain⟨_,_,_,_,_,_,_,_,nd⟩:=id hl;rw[←he];exact nd
    have hlen:kvs.length=es.length:=by have:=congrArg List.length he;simpa using this
    refine wpAny_setItem_pairs (knd:=intKind pw w) (k:=k) (by show Value.isInt k (.int k t)=true;simp[Value.isInt]) hl (fun h' hd sb=>⟨H.set aa (.idict (putD k y es)),?_,h⟩) (by rw[hlen];exact Nat.le_trans hz (by decide))
    have hf:foot H aa:=foot_of_some q
    have ru':RV h' (Pu H Z) u y:=ru.mono (fun b o hb e=>(sb.2 b fun q'=>hb.1 (q'▸hf)).trans e) fun b hb _=>hb
    have rvs':RVs h' (Pu H Z) (kvs.map (·.2)) (es.map (·.2)):=rvs.mono (fun b o hb e=>(sb.2 b fun q'=>hb.1 (q'▸hf)).trans e) fun b hb _=>hb
    refine bc fun ng=>?_
    refine xa2 (stored_putD (fun i:Int=>i) (fun _ _ e=>e) k ru' kvs es he hnd rvs') ?_
    rintro s1 s2
    refine ng ?_
    exact putDict_at (α:=Int) (β:=Int) (knd:=intKind pw w) (k:=s.toks+1) (o':=.idict (putD k y es)) hr q (fun b=>Iff.rfl) (fun b=>Iff.rfl) sb ⟨_,hd,s1,s2⟩
   ·exact h.elim
  ·exact h.elim
 ·exact h.elim
theorem putK_J{u:Value}{x:V}{t:Tok}{Q:Hp→Prop}(hr:HRep w h0 Z H s.heap)(rv:RV s.heap (Pu H Z) v x)(ru:RV s.heap (Pu H Z) u y)(h:putK H x k y Q):
  wpAny (MM w) A (setItem v (.str (fname k) t) u) (fun _ s'=>∃H',St w h0 Z H H' s s'∧Q H') E' s:=by
 delta putK at h
 split at h
 ·rename_i aa
  cases rv.ref_iff
  split at h
  ·rename_i es q
   refine bc fun ng=>?_
   refine xa2 (h) ?_
   try clear h
   rintro hz h
   obtain⟨kvs,hl,he,rvs⟩:=hr.obj _ _ q
   refine ng ?_
   have hnd:(es.map (·.1)).Nodup:=by
    refine bc fun ng=>?_
    obtain⟨_,_,_,_,_,_,_,_,nd⟩:=id hl
    refine ng ?_
    rw[he,show(es.map fun e=>fname e.1)=(es.map (·.1)).map fname by simp] at nd
    exact nodup_of_map nd
   have hlen:kvs.length=es.length:=by have:=congrArg List.length he;simpa using this
   refine wpAny_setItem_pairs (knd:=strKind pw w) (k:=fname k) (by show Value.isStrOf (fname k) (.str (fname k) t)=true;simp[Value.isStrOf]) hl (fun h' hd sb=>⟨H.set aa (.sdict (putD k y es)),?_,h⟩) (by rw[hlen];exact Nat.le_trans hz (by decide))
   have hf:foot H aa:=foot_of_some q
   have ru':RV h' (Pu H Z) u y:=ru.mono (fun b o hb e=>(sb.2 b fun q'=>hb.1 (q'▸hf)).trans e) fun b hb _=>hb
   have rvs':RVs h' (Pu H Z) (kvs.map (·.2)) (es.map (·.2)):=rvs.mono (fun b o hb e=>(sb.2 b fun q'=>hb.1 (q'▸hf)).trans e) fun b hb _=>hb
   refine bc fun ng=>?_
   refine xa2 (stored_putD fname (fun _ _ e=>fname_inj e) k ru' kvs es he hnd rvs') ?_
   rintro s1 s2
   refine ng ?_
   exact putDict_at (α:=Nat) (β:=Str) (knd:=strKind pw w) (k:=s.toks+1) (o':=.sdict (putD k y es)) hr q (fun b=>Iff.rfl) (fun b=>Iff.rfl) sb ⟨_,hd,s1,s2⟩
  ·exact h.elim
 ·exact h.elim
theorem putSl_J{u:Value}{x:V}{lo hi:V}{Q:Hp→Prop}(hr:HRep w h0 Z H s.heap)(rv:RV s.heap (Pu H Z) v x)(ru:RV s.heap (Pu H Z) u y)(rl:RV s.heap (Pu H Z) vl lo)(rh:RV s.heap (Pu H Z) vu hi)
  (hs:s.heap.IsSliceOf sl vl vu .none) (h:putSl H x lo hi y Q):
  wpAny (MM w) A (setItem v (.ref sl) u) (fun _ s'=>∃H',St w h0 Z H H' s s'∧Q H') E' s:=by
 delta putSl at h
 split at h
 ·rename_i aa lo hi
  cases rv.ref_iff
  refine bc fun ng=>?_
  refine xe1 (rl.int_iff) ?_
  rintro t1 rfl
  refine xe1 (rh.int_iff) ?_
  rintro t2 rfl
  refine ng ?_
  split at h
  ·rename_i xs q
   refine bc fun ng=>?_
   refine xe1 (OptP.ex h) ?_
   intro ys qz77
   refine xa3 qz77 ?_
   clear qz77
   rintro e ⟨k0,k1,k2,k3,k4⟩ h
   obtain⟨vs,hl,rvs⟩:=hr.obj _ _ q
   refine xe2 (asL_of hr ru e) ?_
   intro bb ws qz78
   refine xa3 qz78 ?_
   clear qz78
   rintro rfl hb rws
   refine ng ?_
   exact setSlice_J hl hb hs (.int _ _) (.int _ _) k0 k1 (by rw[rvs.1];exact k2) (by rw[rvs.1];exact k3) (by rw[rws.1];exact k4) fun h' hp sb=>⟨_,putList_at (k:=s.toks) hr q hp sb (((rvs.take _).append rws).append (rvs.drop _)),h⟩
  ·exact h.elim
 ·exact h.elim
theorem newDict_at(hr:HRep w h0 Z H s.heap)(ha:s.heap.get? aa=none)(hk:∀b o,s.heap.get? b=some o→h'.get? b=some o)(hown:∀b,Own aa o b↔b=aa)(hd:∀C dx fs,o≠.inst C dx fs)
  (hx:OR w h' (fun b=>Pu H Z b∧∃ob,s.heap.get? b=some ob) aa o):St w h0 Z H (H.set aa o) s {s with heap:=h',toks:=k}∧H aa=none:=by
 have hnf:¬foot H aa:=hr.none_at ha
 have hHa:H aa=none:=by
  cases e:H aa with
  |none=>rfl
  |some o=>exact absurd (foot_of_some e) hnf
 refine⟨⟨hr.alloc hk (fun b hb=>by rw[(hown b).mp hb];exact ha) (fun C dx fs q=>absurd q (hd C dx fs)) hx,fun b o e _ _=>hk b o e,fun b o _ e=>⟨o.slots,hk b o e,fun _=>rfl⟩,fun b hb=>?_,rfl,rfl⟩,hHa⟩
 rcases(foot_set_new (o:=o) (fun b hb=>by rw[(hown b).mp hb];exact hnf) b).mp hb with q|q
 ·exact .inl q
 ·rw[(hown b).mp q];exact .inr ha
theorem so_dict0:So w h0 n c A X l .dict0 (.Dict [] [] pos):=fun H Q h s E' r hE=>
 wpAny_Dict_empty (by
  refine bc fun ng=>?_
  refine xa2 (newDict_at (o:=.idict []) (k:=s.toks) (h':=s.heap.push {cls:=.type "dict",data:=.dict #[]}) r.hr r.hr.fresh_at.2 (fun _ _ e=>Heap.get?_push_of_some _ e) (fun b=>Iff.rfl) (fun _ _ _ q=>by cases q) ⟨[],Heap.DictOf.new _,rfl,RVs.nil⟩) ?_
  rintro st hn
  refine ng ?_
  exact⟨.ref _,H.set _ (.idict []),.ref _,st,h _ hn⟩)
end
section
variable{a b d e:E}{pos:Pos}
inductive PairsAre:List Nat→List Value→List (Value×Value)→Prop
 |nil:PairsAre [] [] []
 |cons {k:Nat} {t:Tok} {v:Value} {ks:List Nat} {vs:List Value} {ps:List (Value×Value)}:PairsAre ks vs ps→PairsAre (k::ks) (v::vs) ((.str (fname k) t,v)::ps)
noncomputable def SoKs(w:World)(h0:Heap)(n:Nat)(c:Cx)(A:Around)(X:Hp→Prop)(l:Loc)(ks:List Nat)(es:Es)(keys:List (Option Expr))(values:List Expr):Prop:=
 ∀(pos:Pos) H Q,ks.length=keys.length→vcEs w h0 n X es l H Q→J w h0 (fun h P ps xs=>∃vs,PairsAre ks vs ps∧RVs h P vs xs) c A X (evalPairs (pairTrees keys values c.env pos)) l H Q
theorem soKs_nil:SoKs w h0 n c A X l [] .nil [] []:=fun pos H Q _ h s E' r hE=>evalPairs_nil ⟨[],H,⟨[],.nil,RVs.nil⟩,St.refl r.hr,h⟩
theorem soKs_cons{es:Es}(ha:So w h0 n c A X l a pa)(hr:SoKs w h0 n c A X l ks es keys values):
  SoKs w h0 n c A X l (k::ks) (.cons a es) (some (.Constant (.str (fname k)) kk kp)::keys) (pa::values):=fun pos H Q hl h s E' r hE=>
 evalPairs_cons (Constant_str (by
  have st0:St w h0 c.Z H H s {s with toks:=s.toks+1}:=St.toks r.hr _
  refine wpAny_bind (J.run (ha H _ h) (r.after st0) hE fun v x H₁ s₁ p r₁ rv st=>wpAny_bind (wpAny_standAt (wpAny_pure ?_)))
  refine J.run (hr pos H₁ _ (by simpa using hl) p) r₁ hE fun ps xs H₂ s₂ p₂ r₂ rvs st₂=>?_
  refine bc fun ng=>?_
  refine xe1 (rvs) ?_
  try clear rvs
  intro vs qz79
  refine xa2 qz79 ?_
  clear qz79
  rintro hp rvs
  refine ng ?_
  exact⟨x::xs,H₂,⟨v::vs,.cons hp,.cons (st₂.rv rv) rvs⟩,(st0.trans st).trans st₂,p₂⟩))
theorem storeAll_J{Q:PUnit→Shared→Prop}:∀(ks:List Nat) (vs:List Value) (ps:List (Value×Value)) (xs:List V) (done:List (Nat×V)) (H:Hp) (s:Shared),PairsAre ks vs ps→HRep w h0 Z H s.heap→H aa=some (.sdict done)→RVs s.heap (Pu H Z) vs xs→((done.map (·.1))++ks).Nodup→
  (done.length+ks.length≤1000)→(∀s',St w h0 Z H (H.set aa (.sdict (done++ks.zip xs))) s s'→Q PUnit.unit s')→wpAny (MM w) A (storeAll aa ps) Q E' s:=by
 intro ks
 induction ks with
 |nil=>
  intro vs ps xs done H s hp hr q rv hn hz k
  cases hp
  delta storeAll
  rw[List.forIn_nil]
  refine wpAny_pure (k s ?_)
  have:H.set aa (.sdict (done++([]:List Nat).zip xs))=H:=by
   funext b
   delta Hp.set
   split
   ·rename_i e;subst e;simp[q]
   ·rfl
  rw[this];exact St.refl hr
 |cons k ks ih=>
  intro vs ps xs done H s hp hr q rv hn hz kk
  cases hp with
  |cons hp=>
   rename_i t v vs ps
   cases xs with
   |nil=>have:=rv.1;simp at this
   |cons x xs=>
    refine bc fun ng=>?_
    refine xe2 (rv.uncons) ?_
    intro v' vs' qz80
    refine xa3 qz80 ?_
    clear qz80
    rintro e1 rv1 rv2
    refine ng ?_
    simp only[List.cons.injEq] at e1
    refine bc fun ng=>?_
    refine xa2 (e1) ?_
    try clear e1
    rintro rfl rfl
    refine ng ?_
    delta storeAll
    rw[List.forIn_cons]
    refine bc fun ng=>?_
    obtain⟨kvs,hl,he,rvs⟩:=hr.obj _ _ q
    refine ng ?_
    have hnd:(done.map (·.1)).Nodup:=(List.nodup_append.mp hn).1
    have hlen:kvs.length=done.length:=by have:=congrArg List.length he;simpa using this
    refine wpAny_bind (wpAny_bind (wpAny_dictSet_pairs (knd:=strKind pw w) (k:=fname k) (by show Value.isStrOf (fname k) (.str (fname k) t)=true;simp[Value.isStrOf]) hl (fun h' hd sb=>wpAny_pure ?_) (by rw[hlen];exact Nat.le_trans (Nat.le_of_lt (by simp at hz;(exact li1 2 [] [_,_] (.nle (.a U0 (.a U1 O1)) (.c 1000)) (.nlt U0 (.c 1000)) rfl hz):done.length< 1000)) (by decide))))
    have hf:foot H aa:=foot_of_some q
    have mo:∀{v:Value} {x:V},RV s.heap (Pu H Z) v x→RV h' (Pu H Z) v x:=fun r=>r.mono (fun b o hb e=>(sb.2 b fun q'=>hb.1 (q'▸hf)).trans e) fun b hb _=>hb
    have rvs':RVs h' (Pu H Z) (kvs.map (·.2)) (done.map (·.2)):=rvs.mono (fun b o hb e=>(sb.2 b fun q'=>hb.1 (q'▸hf)).trans e) fun b hb _=>hb
    refine bc fun ng=>?_
    refine xa2 (stored_putD fname (fun _ _ e=>fname_inj e) k (mo rv1) kvs done he hnd rvs') ?_
    rintro s1 s2
    refine ng ?_
    have hno:∀y,(k,y)∉done:=fun y hy=>by
     have h1:k∈done.map (·.1):=List.mem_map.mpr ⟨_,hy,rfl⟩
     exact(List.nodup_append.mp hn).2.2 k h1 k (List.mem_cons_self ..) rfl
    have hput:putD k x done=done++[(k,x)]:=by
     clear ih rvs' s1 s2 hl he rvs hnd hlen q hn hz kk
     induction done with
     |nil=>rfl
     |cons p r ih2=>
      refine bc fun ng=>?_
      obtain⟨j,u⟩:=p
      refine ng ?_
      have:¬k=j:=fun e=>hno u (e▸List.mem_cons_self ..)
      simp only[putD,if_neg this,List.cons_append]
      rw[ih2 fun y hy=>hno y (List.mem_cons_of_mem _ hy)]
    rw[hput] at s1 s2
    have st1:St w h0 Z H (H.set aa (.sdict (done++[(k,x)]))) s {s with heap:=h',toks:=s.toks+1}:=
     putDict_at (α:=Nat) (β:=Str) (knd:=strKind pw w) (k:=s.toks+1) (o':=.sdict (done++[(k,x)])) hr q (fun b=>Iff.rfl) (fun b=>Iff.rfl) sb ⟨_,hd,s1,s2⟩
    refine ih vs ps xs (done++[(k,x)]) _ _ hp st1.hr (Hp.set_self ..) (st1.rvs rv2) (by simpa using hn) (by simp at hz⊢;(exact li1 2 [] [_,_] (.nle (.a U0 (.a U1 O1)) (.c 1000)) (.nle (.a (.a U0 O1) U1) (.c 1000)) rfl hz)) fun s' st2=>?_
    have e3:(H.set aa (.sdict (done++[(k,x)]))).set aa (.sdict (done++[(k,x)]++ks.zip xs))=H.set aa (.sdict (done++(k::ks).zip (x::xs))):=by
     funext b;delta Hp.set;split<;>simp
    rw[e3] at st2
    exact kk s' (st1.trans st2)
theorem so_dictK{es:Es}(hall:keys.all (·.isSome)=true)(hl:keys.length=values.length)(h0':keys≠[])(hlen:keys.length≤15)(hkl:ks.length=keys.length)
  (ha:SoKs w h0 n c A X l ks es keys values):So w h0 n c A X l (.dictK ks es) (.Dict keys values pos):=fun H Q h s E' r hE=>
 wpAny_Dict_any hall hl h0' hlen (by
  refine bc fun ng=>?_
  refine xa2 (newDict_at (o:=.sdict []) (k:=s.toks) (h':=s.heap.push {cls:=.type "dict",data:=.dict #[]}) r.hr r.hr.fresh_at.2 (fun _ _ e=>Heap.get?_push_of_some _ e) (fun b=>Iff.rfl) (fun _ _ _ q=>by cases q) ⟨[],Heap.DictOf.new _,rfl,RVs.nil⟩) ?_
  rintro st hn
  refine ng ?_
  refine J.run (ha pos _ _ hkl (h _ hn)) (r.after st) hE fun ps xs H₁ s₁ p r₁ rv st₁=>?_
  refine bc fun ng=>?_
  refine xe1 (rv) ?_
  try clear rv
  intro vs qz81
  refine xa2 qz81 ?_
  clear qz81
  rintro hp rvs
  refine xa3 (p) ?_
  try clear p
  rintro q ⟨hnd,hxs⟩ p
  refine ng ?_
  refine storeAll_J ks vs ps xs [] H₁ s₁ hp r₁.hr q rvs (by simpa using hnd) (by simp;(exact li2 2 [] [_,_] (.nle U0 (.c 15)) (.neq U1 U0) (.nle U1 (.c 1000)) rfl hlen hkl)) fun s' st₂=>?_
  exact⟨.ref _,_,.ref _,(st.trans st₁).trans st₂,p⟩)
theorem dropAt{es:List (Nat×V)}(hr:HRep w h0 Z H s.heap)(q:H aa=some (.sdict es))(sb:Heap.SameBut aa s.heap h'):St w h0 Z H (H.del aa) s {s with heap:=h',toks:=k}:=by
 have hf:foot H aa:=foot_of_some q
 have other:∀b,¬b=aa→h'.get? b=s.heap.get? b:=fun b hb=>sb.2 b hb
 have hsub:Sub (H.del aa) H:=fun b o e=>by
  delta Hp.del at e
  split at e
  ·exact nope1 e
  ·exact e
 have hne:∀{b o},H.del aa b=some o→b≠aa:=fun e q'=>by subst q';simp[Hp.del] at e
 have r2:=hr.sub hsub
 refine⟨⟨fun b o e=>(other b fun q'=>?_).trans (hr.keep b o e),r2.fresh,r2.notZ,fun b hb=>?_,hr.zf,fun b o e=>?_,r2.apart⟩,fun b o e hfb _=>(other b fun q'=>hfb (q'▸hf)).trans e,fun b o hz e=>⟨o.slots,(other b fun q'=>hr.notZ aa hf (q'▸hz)).trans e,fun _=>rfl⟩,fun b hb=>.inl (hsub.foot hb),rfl,rfl⟩
 ·subst q';rw[hr.fresh b hf] at e;exact nope1 e
 ·refine bc fun ng=>?_
  refine xe1 (hr.inH b hb) ?_
  rintro o e
  refine ng ?_
  exact⟨o,(other b fun q'=>hr.notZ aa hf (q'▸hb)).trans e⟩
 ·refine(hr.obj b o (hsub _ _ e)).mono (fun b ob hb e=>(other b fun q'=>hb.1 (q'▸hf)).trans e) (fun b hb _=>⟨fun q=>hb.1 (hsub.foot q),hb.2⟩) fun b' hb'=>other b' fun q'=>?_
  subst q'
  exact hr.own_apart (hsub _ _ e) q (Ne.symm (hne e)) hb' rfl
theorem zeros_key:∀{n:Nat} {us:List V} {vs:List Value},zeros n us=true→RVs h P vs us→vs.length=n∧∀v∈vs,∃t,v=.int 0 t
 |0,us,vs,hk,rv=>by
  obtain rfl:=List.isEmpty_iff.mp hk
  rw[rv.unnil];exact⟨rfl,fun v hv=>(by exact nomatch hv)⟩
 |n+1,[],vs,hk,rv=>nope3 hk
 |n+1,x::r,vs,hk,rv=>by
  refine bc fun ng=>?_
  refine xe2 (rv.uncons) ?_
  intro v vs' qz82
  refine xa3 qz82 ?_
  clear qz82
  rintro rfl q rv'
  refine ng ?_
  cases x<;>first|exact nope3 hk|skip
  refine bc fun ng=>?_
  refine xa2 (Bool.and_eq_true_iff.mp hk) ?_
  rintro h1 h2
  refine xe1 (q.int_iff) ?_
  rintro t rfl
  refine xa2 (zeros_key h2 rv') ?_
  rintro e k
  refine ng ?_
  refine⟨congrArg (·+1) e,fun v hv=>?_⟩
  rcases List.mem_cons.mp hv with rfl|hv
  ·rw[of_decide_eq_true h1];exact⟨t,rfl⟩
  ·exact k v hv
theorem zero_key(r:RV h P kv (.tup us))(hk:keyV (.tup us)=true):∃a,kv=.ref a∧IsTupleKey (intKind pw w) h [0,0,0,0,0,0] a:=by
 refine bc fun ng=>?_
 refine xe2 (RV.tup_iff.mp r) ?_
 intro a vs qz83
 refine xa4 qz83 ?_
 clear qz83
 rintro rfl _ ⟨o,ho,hc,k,hd⟩ rv
 refine ng ?_
 refine⟨a,rfl,o,_,k,ho,hc,hd,?_⟩
 refine bc fun ng=>?_
 refine xa2 (zeros_key hk rv) ?_
 rintro e z
 refine ng ?_
 have go:∀(n:Nat) (vs:List Value),vs.length=n→(∀v∈vs,∃t,v=.int 0 t)→ItemsAre (intKind pw w) (List.replicate n 0) vs:=by
  intro n
  induction n with
  |zero=>intro vs e _;rw[List.length_eq_zero_iff.mp e];exact .nil
  |succ n ih=>
   intro vs e z
   cases vs with
   |nil=>cases e
   |cons v vs=>
    refine bc fun ng=>?_
    refine xe1 (z v (.head _)) ?_
    rintro t rfl
    refine ng ?_
    exact .cons (by show Value.isInt 0 (.int 0 t)=true;simp[Value.isInt]) (ih vs (Nat.succ.inj e) fun v hv=>z v (.tail _ hv))
 exact go 6 vs e z
theorem so_dict1(hu:A.units< cLine)(ha:So w h0 n c A X l a pa)(hb:So w h0 n c A X l b pb):So w h0 n c A X l (.dict1 a b) (.Dict [some pa] [pb] pos):=fun H Q h s E' r hE=>
 wpAny_Dict_any rfl rfl (by simp) (by simp) (by
  refine bc fun ng=>?_
  refine xa2 (newDict_at (o:=.sdict []) (k:=s.toks) (h':=s.heap.push {cls:=.type "dict",data:=.dict #[]}) r.hr r.hr.fresh_at.2 (fun _ _ e=>Heap.get?_push_of_some _ e) (fun b=>Iff.rfl) (fun _ _ _ q=>by cases q) ⟨[],Heap.DictOf.new _,rfl,RVs.nil⟩) ?_
  rintro st hn
  refine ng ?_
  refine evalPairs_cons (J.run (ha _ _ (h _ hn)) (r.after st) hE fun kv kx H₁ s₁ p r₁ rk st₁=>wpAny_bind (J.run (hb H₁ _ p) r₁ hE fun vv vx H₂ s₂ p₂ r₂ rvv st₂=>wpAny_bind (wpAny_standAt (wpAny_pure (evalPairs_nil ?_)))))
  refine bc fun ng=>?_
  refine xa3 (p₂) ?_
  try clear p₂
  rintro q hk p₂
  refine ng ?_
  have rk:=st₂.rv rk
  refine bc fun ng=>?_
  obtain⟨kvs,hl,he,_⟩:=r₂.hr.obj _ _ q
  refine ng ?_
  have hkvs:kvs=[]:=by simpa using he
  subst hkvs
  have fin:∀h' tk,Heap.SameBut s.heap.objs.size s₂.heap h'→EnR RV w h0 c.Z H s Q (.ref s.heap.objs.size) {s₂ with heap:=h',toks:=tk}:=fun h' tk sb=>
   ⟨.opq,H₂.del s.heap.objs.size,.opq _,((st.trans st₁).trans st₂).trans (dropAt r₂.hr q sb),p₂⟩
  delta storeAll
  rw[List.forIn_cons]
  cases kx with
  |str x=>
   refine bc fun ng=>?_
   refine xe1 (rk.str_iff) ?_
   rintro t rfl
   refine ng ?_
   refine wpAny_bind (wpAny_bind (wpAny_dictSet_pairs (knd:=strKind pw w) (k:=x) (by show Value.isStrOf x (.str x t)=true;simp[Value.isStrOf]) hl (fun h' hd sb=>wpAny_pure ?_) (by simp)))
   dsimp only
   rw[List.forIn_nil]
   exact wpAny_pure (fin h' _ sb)
  |tup us=>
   refine bc fun ng=>?_
   refine xe1 (zero_key rk hk) ?_
   intro ka qz84
   refine xa2 qz84 ?_
   clear qz84
   rintro rfl hkey
   refine ng ?_
   have hD:s₂.heap.DictOfH (tupleKind (intKind pw w)) s.heap.objs.size []:=by
    refine bc fun ng=>?_
    obtain⟨o,es,ep,ho,hc,hd,_,hp,_⟩:=hl
    refine ng ?_
    refine⟨o,es,ep,ho,hc,hd,?_,fun x hx=>by simp at hx,List.nodup_nil⟩
    cases hes:es.toList with
    |nil=>rfl
    |cons e r=>rw[hes] at hp;cases hp
   refine wpAny_bind (wpAny_bind (wpAny_dictSet_heap (knd:=tupleKind (intKind pw w)) hu hkey hD (fun h' hd sb=>wpAny_pure ?_) (by simp)))
   dsimp only
   rw[List.forIn_nil]
   exact wpAny_pure (fin h' _ sb)
  |_=>exact nope3 hk)
end
section
variable{a b d e:E}{pos:Pos}
theorem intsAre_of(r:RVs h P vs xs)(e:intsOf xs=some is):IntsAre vs is:=by
 refine bc fun ng=>?_
 refine xe1 (ints_items r e) ?_
 intro ps qz85
 refine xa2 qz85 ?_
 clear qz85
 rintro rfl rfl
 refine ng ?_
 clear e r ng
 induction ps with
 |nil=>exact .nil
 |cons p ps ih=>exact .cons _ _ ih
theorem rv_intsAre:∀{vs:List Value} {is:List Int},IntsAre vs is→RVs h P vs (is.map .int)
 |_,_,.nil=>RVs.nil
 |_,_,.cons k t r=>.cons (.int k t) (rv_intsAre r)
theorem so_sorted(G:Top' K h0)(hA:A.handled=none)(B:Blt K c x (.builtin "sorted"))(hs:noStar [pa]=true)(ha:So w h0 n c A X l a pa):So w h0 n c A X l (.b1 .sorted a) (.Call (.Name x p) [pa] [] pos):=fun H Q h s E' r hE=>
 blt_b G B hs r (args_cons (J.run (ha H _ h) r hE fun v x H₁ s₁ p r₁ rv st=>args_nil (by
  match x,rv,p with
  |.lst xs,rv,p=>
   have p:OptP (intsOf xs) fun is=>is.length< 64∧∀ys:List Int,ys.Perm is→ys.Pairwise (·≤·)→Q (.lst (ys.map .int)) H₁:=p
   refine bc fun ng=>?_
   refine xe1 (OptP.ex p) ?_
   intro is qz86
   refine xa3 qz86 ?_
   clear qz86
   rintro e hlen p
   refine xe2 (RV.lst_iff.mp rv) ?_
   intro aa vs qz87
   refine xa4 qz87 ?_
   clear qz87
   rintro rfl _ hl rvs
   refine ng ?_
   have hI:=intsAre_of rvs e
   refine sorted_ints hl.isList hI (by have:=hI.length;(exact li2 2 [] [_,_] (.nlt U0 (.c 64)) (.neq U1 U0) (.nlt U1 (.c 64)) rfl hlen this)) fun out ns' a1 a2 a3=>?_
   refine bc fun ng=>?_
   refine xe1 (sortedAll_at s₁.heap vs out) ?_
   rintro ep he
   refine ng ?_
   have hnone:s₁.heap.get? (s₁.heap.objs.size+1)=none:=by
    cases e:s₁.heap.get? (s₁.heap.objs.size+1) with
    |none=>rfl
    |some o=>exact absurd (Heap.lt_size e) (Nat.not_lt.mpr (Nat.le_succ _))
   have hkeep:∀b o,s₁.heap.get? b=some o→(sortedAll s₁.heap vs out).get? b=some o:=fun _ _ e=>sortedAll_old e
   refine EnR.up st ⟨.lst (ns'.map .int),H₁,?_,St.grow r₁.hr hkeep rfl rfl,p ns' a2 a3⟩
   have hpl:(sortedAll s₁.heap vs out).PlainList (s₁.heap.objs.size+1) out.toList.toArray:=⟨ep,he⟩
   have hr:=rv_intsAre (h:=sortedAll s₁.heap vs out) (P:=Pu H₁ c.Z) a1
   exact .lst ⟨r₁.hr.none_at hnone,fun q=>by obtain⟨o,e⟩:=r₁.hr.inH _ q;rw[hnone] at e;exact nope1 e⟩ hpl hr.1 hr.2
  |.ref aa,rv,p=>
   cases rv.ref_iff
   have p:(match H₁ aa with
    |some (.idict es)=>es.length< 64∧∀ys:List Int,ys.Perm (es.map (·.1))→ys.Pairwise (·≤·)→Q (.lst (ys.map .int)) H₁
    |_=>False):=p
   split at p
   ·rename_i es q
    refine bc fun ng=>?_
    refine xa2 (p) ?_
    try clear p
    rintro hlen p
    obtain⟨kvs,hl,he,rvs⟩:=r₁.hr.obj _ _ q
    refine ng ?_
    have hks:kvs.length=es.length:=by have:=congrArg List.length he;simpa using this
    refine bc fun ng=>?_
    refine xe1 (hl.dictAt) ?_
    rintro ep hat
    refine ng ?_
    have lo:(aa==sysModules)=false:=by
     refine bc fun ng=>?_
     refine xe1 (G.S) ?_
     rintro o ho
     refine ng ?_
     have:aa≠sysModules:=fun e=>by
      have:=r₁.hr.fresh aa (foot_of_some q);rw[e,ho] at this;exact nope2 this
     simpa using this
    refine call_function_entry kind_sorted plain_sorted entry_sorted (args_sorted1 _) ?_
    delta Builtin.«sorted»
    refine wpAny_bind (m:=checkCount "sorted" 1 1 _) (wpAny_pure ?_)
    refine wpAny_bind (kdu_collect (A:=A.in1) (kdl_dict (knd:=intKind pw w) (kvs:=kvs) (ep:=ep) lo) hA hat (Nat.le_trans (Nat.le_of_lt (by rw[hks];exact hlen)) (by decide)) fun h' tk acc hk hacc=>?_)
    have hal:acc.toList.length=kvs.length:=by rw[Array.length_toList];exact hacc.1
    refine wpAny_bind (PySem.wpAny_newList ?_ (by rw[hal,hks];exact Nat.le_trans (Nat.le_of_lt hlen) (by decide)))
    have hI:IntsAre acc.toList (es.map (·.1)):=by
     rw[←he]
     have gen:∀(xs:List Value) (ks:List (Int×Value)),xs.length=ks.length→(∀(j:Nat) (v:Value),xs[j]? =some v→∃k x,ks[j]? =some (k,x)∧(intKind pw w).is k v=true)→IntsAre xs (ks.map (·.1)):=by
      intro xs
      induction xs with
      |nil=>intro ks hl _;cases ks with
       |nil=>exact .nil
       |cons _ _=>cases hl
      |cons x xs ih=>
       intro ks hl hj
       cases ks with
       |nil=>cases hl
       |cons k ks=>
        refine bc fun ng=>?_
        refine xe2 (hj 0 x rfl) ?_
        intro k' x' qz88
        refine xa2 qz88 ?_
        clear qz88
        rintro e1 e2
        refine ng ?_
        obtain rfl:=sj e1
        refine bc fun ng=>?_
        refine xe1 (Value.isInt_shape (show Value.isInt k' x=true from e2)) ?_
        rintro t rfl
        refine ng ?_
        exact .cons _ _ (ih ks (by simpa using hl) fun j v hv=>hj (j+1) v (by simpa using hv))
     refine gen _ _ hal fun j v hv=>hacc.2 j v (by rw[←Array.getElem?_toList];exact hv)
    have ho:(h'.push {cls:=.type "list",data:=.seq acc.toList.toArray}).get? h'.objs.size=some (seqObj "list" acc.toList.toArray 0):=Heap.get?_push_size _ rfl
    refine wpAny_bind (wpAny_holding (wpAny_call_entry slot_list_sort ⟨_,ho,rfl⟩ entry_list_sort (list_sort_tree (s:={s₁ with heap:=h'.push {cls:=.type "list",data:=.seq acc.toList.toArray},toks:=tk}) ho hI (by rw[hal,hks];exact hlen) fun out ns' a1 a2 a3=>⟨_,rfl,?_⟩) (args_list_sort _)))
    refine bc fun ng=>?_
    refine xe1 (sortedHeap_at (out:=out) ho) ?_
    rintro e3 he3
    refine ng ?_
    have hlt:∀b o,s₁.heap.get? b=some o→b< h'.objs.size:=fun b o e=>Heap.lt_size (hk b o e)
    have hkeep:∀b o,s₁.heap.get? b=some o→(sortedHeap (h'.push {cls:=.type "list",data:=.seq acc.toList.toArray}) h'.objs.size acc.toList out).get? b=some o:=fun b o e=>
     (sortedHeap_old (Nat.ne_of_lt (hlt b o e)) (by rw[Heap.size_push];exact Nat.lt_succ_of_lt (hlt b o e))).trans (Heap.get?_push_of_some _ (hk b o e))
    refine wpAny_pure ⟨_,rfl,EnR.up st ⟨.lst (ns'.map .int),H₁,?_,St.grow r₁.hr hkeep rfl rfl,p ns' a2 a3⟩⟩
    have hpl:(sortedHeap (h'.push {cls:=.type "list",data:=.seq acc.toList.toArray}) h'.objs.size acc.toList out).PlainList h'.objs.size out.toList.toArray:=⟨e3,he3⟩
    have hr:=rv_intsAre (h:=sortedHeap (h'.push {cls:=.type "list",data:=.seq acc.toList.toArray}) h'.objs.size acc.toList out) (P:=Pu H₁ c.Z) a1
    exact .lst ⟨fun q=>by obtain⟨o,e⟩:=r₁.hr.foot_there q;exact Nat.lt_irrefl _ (hlt _ _ e),fun q=>by obtain⟨o,e⟩:=r₁.hr.inH _ q;exact Nat.lt_irrefl _ (hlt _ _ e)⟩ hpl hr.1 hr.2
   ·exact p.elim)) (notStar_cons hs))
end
section
variable{a b d e:E}{pos:Pos}
theorem HRep.zback(r:HRep w h0 Z' H h)(hz:∀b,Z b→Z' b):HRep w h0 Z H h:=
 ⟨r.keep,r.fresh,fun b hb q=>r.notZ b hb (hz b q),fun b q=>r.inH b (hz b q),fun b q=>r.zf b (hz b q),fun a o e=>(r.obj a o e).mono (Agr.refl _ _) (fun b hb _=>⟨hb.1,fun q=>hb.2 (hz b q)⟩) fun _ _=>rfl,r.apart⟩
theorem Rep.e_none'(r:Rep w h0 c l H s)(hn:s.heap.get? I=none):c.e I=none:=by
 cases e:c.e I with
 |none=>rfl
 |some o=>
  by_cases q:c.Z I
  ·obtain⟨sl,e1,_⟩:=r.oldZ I o e q;rw[hn] at e1;exact nope1 e1
  ·have:=r.old I o e (c.ef I o e) q;rw[hn] at this;exact nope1 this
theorem HE.of_call(r:Rep w h0 c l H s)(hE:HE w h0 c A X l E'):∀a s' H' g,St w h0 c.Z H H' s s'→ExcAt w h0 A c.Z (foot H) (entE s.heap H) H' a s'.heap g→X H'→E' (.ref a) s':=fun a s' H' g st ex hx=>by
 refine bc fun ng=>?_
 obtain⟨fl,base,dx,m,t,Zr,D⟩:=ex
 refine ng ?_
 refine hE a s' H' g (r.after (s':={s' with heap:=g}) ⟨D.rep.zback D.zz,fun b o e hF hZ=>D.old b o (entE_some e hF) hF hZ,fun b o hZ e=>D.oldZ b o (entE_some e fun q=>r.hr.notZ b q hZ) hZ,fun b hb=>(D.new b hb).elim .inl entE_none,st.gens,st.os⟩) ?_ hx
 have nf:∀{b o},c.e b=some o→¬foot H b:=fun {b o} e q=>by
  rcases r.new b q with q|q
  ·exact c.ef b o e q
  ·rw[e] at q;exact nope2 q
 have en:∀{b},entE s.heap H b=none→c.e b=none:=fun {b} q=>by
  rcases entE_none q with q|q
  ·rcases r.new b q with q|q
   ·cases e:c.e b with
    |none=>rfl
    |some o=>exact absurd q (c.ef b o e)
   ·exact q
  ·exact r.e_none' q
 refine⟨fl,base,dx,m,t,Zr,{D with zn:=fun b hb=>(D.zn b hb).imp id en,old:=fun b o e hF hZ=>D.old b o (entE_some (r.old b o e hF hZ) (nf e)) (nf e) hZ,oldZ:=fun b o e hZ=>?_,new:=fun b hb=>?_}⟩
 ·refine bc fun ng=>?_
  obtain⟨sl,e1,f1⟩:=r.oldZ b o e hZ
  obtain⟨sl2,e2,f2⟩:=D.oldZ b _ (entE_some e1 (nf e)) hZ
  refine ng ?_
  exact⟨sl2,e2,fun q=>(f2 q).trans (f1 q)⟩
 ·rcases D.new b hb with q|q
  ·exact r.new b q
  ·exact .inr (en q)
theorem call_go(a:Act c A n)(r:Rep w h0 c l H s)(hE:HE w h0 c A X l E')(rv:RVs s.heap (Pu H c.Z) vs xs)(h:Fn w h0 n f xs H Q X):
  wpAny (MM w) A (call (.ref f) vs) (EnR RV w h0 c.Z H s Q) E' s:=h.wp (a.room r) r.hr r.gens rv (hE.of_call r)
theorem so_call{es:Es}{args:List Expr}(G:Top' K h0)(ac:Act c A (n+1))(hx:c.env.kindOf x=some .globalImplicit)(hg:nsIn K mainGlobals x=some (some (.ref f)))(hd:(x==("__debug__":Str))=false)(hk:keepIn K (.ref f)=true)(hs:noStar args=true)
  (ha:SoEs w h0 n c A X l es args):So w h0 n c A X l (.call f x es) (.Call (.Name x p) args [] pos):=fun H Q h s E' r hE=>by
 refine bc fun ng=>?_
 refine xe4 (G.T) ?_
 rintro _ loose mg mb T
 refine ng ?_
 refine Call_ (Name_function_global c.kind hx (loadGlobal_global (by rw[c.glob];exact T.g.keeps r.hr.keep) (mg_of G.X T.g hg) ?_) hd)
 refine callWith_r hs hk (J.run (ha pos H _ h) r hE fun vs xs H₁ s₁ p r₁ rv st=>⟨G.X.keeps r₁.hr.keep,up st (call_go (ac.le (li0 1 [] [_] (.nle U0 (.a U0 O1)) rfl)) r₁ hE rv p)⟩)
theorem so_callV{es:Es}{args:List Expr}(G:Top' K h0)(ac:Act c A (n+1))(hk:keepIn K (.ref 968)=true∧keepIn K (.ref 975)=true)(hs:noStar args=true)(hf:eval (.Call pa args [] pos) c.env=(do callWith pos (←eval pa c.env) [] (backTo pos (starEach args c.env)) (backToKw pos (keywordEach [] c.env))))
  (ha:So w h0 n c A X l a pa) (hb:SoEs w h0 n c A X l es args):So w h0 n c A X l (.callV a es) (.Call pa args [] pos):=fun H Q h s E' r hE=>by
 refine Call_ (J.run (ha H _ h) r hE fun v x H₁ s₁ p r₁ rv st=>?_) hf
 obtain⟨rfl|rfl,p1,p2⟩:=p
 ·cases rv.ref_iff
  exact callWith_r hs hk.1 (J.run (hb pos H₁ _ (p1 rfl)) r₁ hE fun vs xs H₂ s₂ p r₂ rvs st₂=>⟨G.X.keeps r₂.hr.keep,up (st.trans st₂) (call_go (ac.le (li0 1 [] [_] (.nle U0 (.a U0 O1)) rfl)) r₂ hE rvs p)⟩)
 ·cases rv.ref_iff
  exact callWith_r hs hk.2 (J.run (hb pos H₁ _ (p2 rfl)) r₁ hE fun vs xs H₂ s₂ p r₂ rvs st₂=>⟨G.X.keeps r₂.hr.keep,up (st.trans st₂) (call_go (ac.le (li0 1 [] [_] (.nle U0 (.a U0 O1)) rfl)) r₂ hE rvs p)⟩)
theorem meth_J{x:V}{Q:Value×List Value→Shared→Prop}(G:Top' K h0)(hr:HRep w h0 Z H s.heap)(rv:RV s.heap (Pu H Z) v x)(e:instOf H x=some (C,fs))(hk:look k fs=none)
  (hf:findIn K (.ref C) (fname k)=some (some (.ref f))) (ht:typeIn K (.ref f)=some (.type "function")) (h:Q (.ref f,[v]) s):wpAny (MM w) A (getMethod v (fname k) pl) Q E' s:=by
 have X':=G.X.keeps hr.keep
 have fin:∀{a C dx m} {fs:List (Nat×V)},C∈clss→IsInst s.heap a C dx→s.heap.Ns dx m→FR s.heap (Pu H Z) m fs→look k fs=none→findIn K (.ref C) (fname k)=some (some (.ref f))→Q (.ref f,[.ref a]) s→wpAny (MM w) A (getMethod (.ref a) (fname k) pl) Q E' s:=by
  intro a C dx m fs hC hi hn hF hl hf hq
  refine bc fun ng=>?_
  refine xe1 (instAt_of hi hn) ?_
  intro od qz89
  refine xa2 qz89 ?_
  clear qz89
  rintro I hlk
  refine ng ?_
  have hc:=G.OK.cls C hC
  simp only[clsOK,Bool.and_eq_true,beq_iff_eq] at hc
  refine bc fun ng=>?_
  refine xa2 (hc) ?_
  try clear hc
  rintro⟨⟨⟨c1,c2⟩,c3⟩,c4⟩ c5
  refine ng ?_
  refine method_fn X' I c1 c2 hf ht ?_ hq
  have hm:m (fname k)=none:=hF.miss _ fun j hj q=>by
   rw[fname_inj q,hl] at hj;exact nope3 hj
  show(lookIn (fname k) od).map _=_
  rw[hlk,hm];rfl
 delta instOf at e
 split at e
 ·cases e
  refine bc fun ng=>?_
  refine xe3 (RV.obj_iff.mp rv) ?_
  intro a dx m qz90
  refine xa7 qz90 ?_
  clear qz90
  rintro rfl _ _ hC hi hn hF
  refine ng ?_
  exact fin hC hi hn hF hk hf h
 ·rename_i a
  split at e
  ·rename_i q
   cases e
   cases rv.ref_iff
   refine bc fun ng=>?_
   obtain⟨hC,hi,m,hn,hF⟩:=hr.obj _ _ q
   refine ng ?_
   exact fin hC hi hn.ns hF hk hf h
  ·exact nope1 e
 ·exact nope1 e
theorem so_meth{es:Es}{args:List Expr}(G:Top' K h0)(ac:Act c A (n+1))(hp:plainBase pa=true)(hl:(apos.endLine==pos.line)=true)(hs:noStar args=true)(hn:args.length< 30)
  (hf:findIn K (.ref C) (fname k)=some (some (.ref f))) (ht:typeIn K (.ref f)=some (.type "function")) (hkp:keepIn K (.ref f)=true)
  (ha:So w h0 n c A X l a pa) (hb:SoEs w h0 n c A X l es args):So w h0 n c A X l (.meth a C k f es) (.Call (.Attribute pa (fname k) apos) args [] pos):=fun H Q h s E' r hE=>
 meth_eval hp hl hs hn (J.run (ha H _ h) r hE fun v x H₁ s₁ p r₁ rv st=>fun pl=>by
  refine bc fun ng=>?_
  refine xa2 (p) ?_
  try clear p
  rintro p1 p2
  obtain⟨⟨C',fs⟩,e,rfl,hk⟩:=OptP.ex p1
  refine ng ?_
  refine meth_J G r₁.hr rv e hk hf ht (callWith_r hs hkp (J.run (hb pos H₁ _ p2) r₁ hE fun vs xs H₂ s₂ p₂ r₂ rvs st₂=>⟨G.X.keeps r₂.hr.keep,?_⟩))
  exact up (st.trans st₂) (call_go (ac.le (li0 1 [] [_] (.nle U0 (.a U0 O1)) rfl)) r₂ hE (.cons (st₂.rv rv) rvs) p₂))
theorem so_clsM{k:Str}{es:Es}{args:List Expr}(G:Top' K h0)(ac:Act c A (n+1))(hx:c.env.kindOf x=some .globalImplicit)(hg:nsIn K mainGlobals x=some (some (.ref C)))(hd:(x==("__debug__":Str))=false)
  (hl:(apos.endLine==pos.line)=true) (hs:noStar args=true) (hn:args.length< 30)
  (hga:specialIn K (.ref C) "__getattribute__"=some (some (.builtin "type.__getattribute__"))) (hr:readsIn K C mc=true) (hc:findCls K (.ref C) mc k=some (.val (.ref f))) (hkp:keepIn K (.ref f)=true)
  (hb:SoEs w h0 n c A X l es args):So w h0 n c A X l (.clsM C x kn f es) (.Call (.Attribute (.Name x p') k apos) args [] pos):=fun H Q h s E' r hE=>by
 refine bc fun ng=>?_
 refine xe4 (G.T) ?_
 rintro _ loose mg mb T
 refine ng ?_
 refine meth_eval rfl hl hs hn (Name_function_global c.kind hx (loadGlobal_global (by rw[c.glob];exact T.g.keeps r.hr.keep) (mg_of G.X T.g hg) ?_) hd)
 intro pl
 refine method_cls (G.X.keeps r.hr.keep) hga (cls_value (G.X.keeps r.hr.keep) hr hc rfl ?_)
 have st0:St w h0 c.Z H H s {s with toks:=s.toks+1}:=St.toks r.hr _
 exact callWith_r hs hkp (J.run (hb pos H _ h) (r.after st0) hE fun vs xs H₁ s₁ p r₁ rv st=>⟨G.X.keeps r₁.hr.keep,up (st0.trans st) (call_go (ac.le (li0 1 [] [_] (.nle U0 (.a U0 O1)) rfl)) r₁ hE rv p)⟩)
theorem Room.under{rest:List Value}(r:Room A (n+1) Z h)(hk:∀b o,h.get? b=some o→h'.get? b=some o):Room (A.under (.builtin "type.__call__" ⟨.ref C::rest,[]⟩)) n Z h':=by
 refine bc fun ng=>?_
 obtain⟨h1,h2,h3,fl,h4,h5⟩:=r
 refine ng ?_
 refine⟨h1,?_,?_,fl,?_,fun env he=>?_⟩
 ·show A.depth+1+4*n≤900;(exact li1 2 [] [_,_] (.nle (.a U0 (.m 4 (.a U1 O1))) (.c 900)) (.nle (.a (.a U0 O1) (.m 4 U1)) (.c 900)) rfl h2)
 ·show A.units+1+20*n≤9000;(exact li1 2 [] [_,_] (.nle (.a U0 (.m 20 (.a U1 O1))) (.c 9000)) (.nle (.a (.a U0 O1) (.m 20 U1)) (.c 9000)) rfl h3)
 ·exact h4
 ·refine bc fun ng=>?_
  obtain⟨hk',L,o,a1,a2,a3,a4⟩:=h5 env he
  refine ng ?_
  exact⟨hk',L,o,a1,a2,hk _ _ a3,a4⟩
theorem new_go(G:Top' K h0)(ac:Act c A (n+1))(r:Rep w h0 c l H s)(hE:HE w h0 c A X l E')(rv:RVs s.heap (Pu H c.Z) vs xs)(hC:C∈clss)(hm:makesIn K C=true)(hi:findIn K (.ref C) "__init__"=some (some (.ref f)))
  (hf:typeIn K (.ref f)=some (.type "function"))
  (h:∀a dx,H a=none→Fn w h0 n f (.ref a::xs) (H.set a (.inst C dx [])) (fun v H₂=>v=.none∧Q (.ref a) H₂) X):wpAny (MM w) A (call (.ref C) vs) (EnR RV w h0 c.Z H s Q) E' s:=by
 have X':=G.X.keeps r.hr.keep
 refine bc fun ng=>?_
 obtain⟨hh,g,d,t,os⟩:=s
 refine ng ?_
 have hr0:=r.hr
 have f1:hh.get? hh.objs.size=none:=hr0.fresh_at.2
 have f2:hh.get? (hh.objs.size+1)=none:=by
  cases e:hh.get? (hh.objs.size+1) with
  |none=>rfl
  |some o=>exact absurd (Heap.lt_size e) (Nat.not_lt.mpr (Nat.le_succ _))
 have hk:∀b o,hh.get? b=some o→((hh.push emptyDict).push (instObj C hh.objs.size)).get? b=some o:=fun b o e=>Heap.get?_push_of_some _ (Heap.get?_push_of_some _ e)
 have hne:hh.objs.size≠hh.objs.size+1:=Nat.ne_of_lt (Nat.lt_succ_self _)
 have hi1:((hh.push emptyDict).push (instObj C hh.objs.size)).get? (hh.objs.size+1)=some (instObj C hh.objs.size):=by
  rw[←Heap.size_push hh emptyDict];exact Heap.get?_push_size _ rfl
 have hi2:((hh.push emptyDict).push (instObj C hh.objs.size)).get? hh.objs.size=some emptyDict:=Heap.get?_push_of_some _ (Heap.get?_push_size _ rfl)
 have hnf:∀b,Own (hh.objs.size+1) (.inst C hh.objs.size []) b→¬foot H b:=fun b hb=>by
  rcases hb with rfl|rfl
  ·exact hr0.none_at f2
  ·exact hr0.none_at f1
 have hHa:H (hh.objs.size+1)=none:=by
  cases e:H (hh.objs.size+1) with
  |none=>rfl
  |some o=>exact absurd (foot_of_some e) (hr0.none_at f2)
 have hr1:HRep w h0 c.Z (H.set (hh.objs.size+1) (.inst C hh.objs.size [])) ((hh.push emptyDict).push (instObj C hh.objs.size)):=
  hr0.alloc (a:=hh.objs.size+1) (o:=.inst C hh.objs.size []) hk (fun b hb=>by rcases hb with rfl|rfl<;>first|exact f2|exact f1) (fun C' dx' fs' q=>by cases q;exact hne)
   ⟨hC,hi1,fun _=>none,⟨#[],0,hi2,fun e he=>by simp at he,fun x=>rfl,by simp⟩,FR.nil⟩
 have st1:St w h0 c.Z H (H.set (hh.objs.size+1) (.inst C hh.objs.size [])) ⟨hh,g,d,t,os⟩ ⟨(hh.push emptyDict).push (instObj C hh.objs.size),g,d,t,os⟩:=
  ⟨hr1,fun b o e _ _=>hk b o e,fun b o _ e=>⟨o.slots,hk b o e,fun _=>rfl⟩,fun b hb=>by
   rcases(foot_set_new (o:=.inst C hh.objs.size []) hnf b).mp hb with q|q
   ·exact .inl q
   ·right;rcases q with rfl|rfl<;>first|exact f2|exact f1,rfl,rfl⟩
 refine wpAny_call (make_core (makes_of X' hm) (looks_findIn X' hi) (fun self=>bind_fn X' self hf) (.inl rfl) ?_)
 refine h (hh.objs.size+1) hh.objs.size hHa _ c.Z _ _ _ ((ac.room r).under hk) hr1 r.gens (.cons (.ref _) (st1.rvs rv)) (fun v s' x H' a st2 q=>?_) fun a s' H' g2 st2 ex hx=>?_
 ·refine bc fun ng=>?_
  obtain⟨rfl,q⟩:=q
  refine ng ?_
  cases a.none_iff
  exact⟨rfl,.ref _,H',.ref _,st1.trans st2,q⟩
 ·refine hE.of_call r a s' H' g2 (st1.trans st2) ?_ hx
  refine bc fun ng=>?_
  obtain⟨fl,base,dx,m,t,Zr,D⟩:=ex
  refine ng ?_
  have nf':∀{b o},hh.get? b=some o→¬foot H b→¬foot (H.set (hh.objs.size+1) (.inst C hh.objs.size [])) b:=fun {b o} e hF q=>by
   rcases(foot_set_new (o:=.inst C hh.objs.size []) hnf b).mp q with q|q
   ·exact hF q
   ·rcases q with rfl|rfl
    ·rw[e] at f2;exact nope2 f2
    ·rw[e] at f1;exact nope2 f1
  have hkn:∀{b},((hh.push emptyDict).push (instObj C hh.objs.size)).get? b=none→hh.get? b=none:=fun {b} q=>by
   cases e:hh.get? b with
   |none=>rfl
   |some o=>have:=hk b o e;rw[q] at this;exact nope1 this
  have en:∀{b},entE ((hh.push emptyDict).push (instObj C hh.objs.size)) (H.set (hh.objs.size+1) (.inst C hh.objs.size [])) b=none→foot H b∨hh.get? b=none:=fun {b} q=>by
   rcases entE_none q with q|q
   ·rcases(foot_set_new (o:=.inst C hh.objs.size []) hnf b).mp q with q|q
    ·exact .inl q
    ·right;rcases q with rfl|rfl<;>first|exact f2|exact f1
   ·exact .inr (hkn q)
  have en2:∀{b},foot H b∨hh.get? b=none→entE hh H b=none:=fun {b} q=>by
   cases e:entE hh H b with
   |none=>rfl
   |some o=>
    refine bc fun ng=>?_
    refine xa2 (entE_get e) ?_
    rintro e1 e2
    refine ng ?_
    rcases q with q|q
    ·exact absurd q e2
    ·rw[e1] at q;exact nope2 q
  refine⟨fl,base,dx,m,t,Zr,{D with zn:=fun b hb=>(D.zn b hb).imp id fun q=>en2 (en q),old:=fun b o e hF hZ=>D.old b o (entE_some (hk b o (entE_get e).1) (nf' (entE_get e).1 hF)) (nf' (entE_get e).1 hF) hZ,oldZ:=fun b o e hZ=>D.oldZ b o (entE_some (hk b o (entE_get e).1) (nf' (entE_get e).1 (entE_get e).2)) hZ,new:=fun b hb=>?_}⟩
  rcases D.new b hb with q|q
  ·rcases(foot_set_new (o:=.inst C hh.objs.size []) hnf b).mp q with q|q
   ·exact .inl q
   ·right;exact en2 (.inr (by rcases q with rfl|rfl<;>first|exact f2|exact f1))
  ·exact .inr (en2 (en q))
theorem so_new{es:Es}{args:List Expr}(G:Top' K h0)(ac:Act c A (n+1))(hx:c.env.kindOf x=some .globalImplicit)(hg:nsIn K mainGlobals x=some (some (.ref C)))(hd:(x==("__debug__":Str))=false)(hk:keepIn K (.ref C)=true)(hs:noStar args=true)
  (hC:C∈clss) (hm:makesIn K C=true) (hi:findIn K (.ref C) "__init__"=some (some (.ref f))) (hf:typeIn K (.ref f)=some (.type "function"))
  (ha:SoEs w h0 n c A X l es args):So w h0 n c A X l (.new C f x es) (.Call (.Name x p) args [] pos):=fun H Q h s E' r hE=>by
 refine bc fun ng=>?_
 refine xe4 (G.T) ?_
 rintro _ loose mg mb T
 refine ng ?_
 refine Call_ (Name_function_global c.kind hx (loadGlobal_global (by rw[c.glob];exact T.g.keeps r.hr.keep) (mg_of G.X T.g hg) ?_) hd)
 refine callWith_r hs hk (J.run (ha pos H _ h) r hE fun vs xs H₁ s₁ p r₁ rv st=>⟨G.X.keeps r₁.hr.keep,up st (new_go G ac r₁ hE rv hC hm hi hf p)⟩)
end
section
variable{a b d e:E}{pos:Pos}
theorem HRep.zgrow(r:HRep w h0 Z H h)(k:∀b o,h.get? b=some o→h'.get? b=some o)(hn:∀b,Z' b→Z b∨(h.get? b=none∧∃o,h'.get? b=some o))(hz:∀b,Z b→Z' b):HRep w h0 Z' H h':=by
 have mo:∀b,Pu H Z b→(∃o,h.get? b=some o)→Pu H Z' b:=fun b hb ⟨o,e⟩=>⟨hb.1,fun q=>by
  rcases hn b q with q|⟨q,_⟩
  ·exact hb.2 q
  ·rw[e] at q;exact nope2 q⟩
 refine⟨fun b o e=>k _ _ (r.keep b o e),r.fresh,fun b hb q=>?_,fun b q=>?_,fun b q=>?_,fun a o e=>?_,r.apart⟩
 ·rcases hn b q with q|⟨q,_⟩
  ·exact r.notZ b hb q
  ·obtain⟨o,e⟩:=r.foot_there hb;rw[e] at q;exact nope2 q
 ·rcases hn b q with q|⟨_,q⟩
  ·obtain⟨o,e⟩:=r.inH b q;exact⟨o,k _ _ e⟩
  ·exact q
 ·rcases hn b q with q|⟨q,_⟩
  ·exact r.zf b q
  ·cases e:h0.get? b with
   |none=>rfl
   |some o=>rw[r.keep b o e] at q;exact nope2 q
 ·exact(r.obj a o e).mono (fun b o _ e=>k b o e) mo fun b hb=>by
   refine bc fun ng=>?_
   refine xe1 ((r.obj a o e).there hb) ?_
   rintro ob eb
   refine ng ?_
   rw[eb,k _ _ eb]
noncomputable def Cx.addZ(c:Cx)(I:Addr):Cx where
 env:=c.env
 vars:=c.vars
 Z:=fun b=>c.Z b∨b=I
 e:=fun b=>if b=I then none else c.e b
 F:=c.F
 os:=c.os
 kind:=c.kind
 glob:=c.glob
 blt:=c.blt
 nd:=c.nd
 zl:=.inl c.zl
 zc:=fun x a h=>.inl (c.zc x a h)
 cl:=c.cl
 ci:=c.ci
 el:=by split<;>first|rfl|exact c.el
 ec:=fun x a h=>by split<;>first|rfl|exact c.ec x a h
 ef:=fun b o h=>by split at h<;>first|(exact nope1 h;done)|exact c.ef b o h
theorem Rep.e_none(r:Rep w h0 c l H s)(hn:s.heap.get? I=none):c.e I=none:=by
 cases e:c.e I with
 |none=>rfl
 |some o=>
  by_cases q:c.Z I
  ·obtain⟨sl,e1,_⟩:=r.oldZ I o e q;rw[hn] at e1;exact nope1 e1
  ·have:=r.old I o e (c.ef I o e) q;rw[hn] at this;exact nope1 this
theorem Rep.addZ(r:Rep w h0 c l H s)(hk:∀b o,s.heap.get? b=some o→h'.get? b=some o)(hn:s.heap.get? I=none)(he:∃o,h'.get? I=some o):Rep w h0 (c.addZ I) l H {s with heap:=h',toks:=k}:=by
 have hr:=r.hr.zgrow (Z':=(c.addZ I).Z) hk (fun b q=>by
  rcases q with q|rfl
  ·exact .inl q
  ·exact .inr ⟨hn,he⟩) fun b q=>.inl q
 have mo:∀b,Pu H c.Z b→(∃o,s.heap.get? b=some o)→Pu H (c.addZ I).Z b:=fun b hb ⟨o,e⟩=>⟨hb.1,fun q=>by
  rcases q with q|rfl
  ·exact hb.2 q
  ·rw[e] at hn;exact nope2 hn⟩
 have lr:=r.lr.mono (h':=h') (fun b o _ e=>hk b o e) mo (fun o e=>⟨o.slots,hk _ _ e⟩) fun x a _ o e=>⟨o.slots,hk _ _ e⟩
 refine⟨hr,⟨lr.ns,lr.len,lr.cells⟩,fun b o e hF hZ=>?_,fun b o e hZ=>?_,fun b hb=>?_,r.gens,r.os⟩
 ·have e':(if b=I then none else c.e b)=some o:=e
  split at e'
  ·exact nope1 e'
  ·exact hk _ _ (r.old b o e' hF fun q=>hZ (.inl q))
 ·have e':(if b=I then none else c.e b)=some o:=e
  split at e'
  ·exact nope1 e'
  ·rename_i q
   rcases hZ with hZ|hZ
   ·refine bc fun ng=>?_
    obtain⟨sl,e1,f⟩:=r.oldZ b o e' hZ
    refine ng ?_
    exact⟨sl,hk _ _ e1,f⟩
   ·exact absurd hZ q
 ·rcases r.new b hb with q|q
  ·exact .inl q
  ·right
   show(if b=I then none else c.e b)=none
   split
   ·rfl
   ·exact q
theorem Rep.dropZ(r:Rep w h0 (c.addZ I) l H s)(hI:c.e I=none):Rep w h0 c l H s:=by
 have hr:=r.hr.zback (Z:=c.Z) fun b q=>.inl q
 have lr:=r.lr.mono (Agr.refl _ _) (P':=Pu H c.Z) (fun b hb _=>⟨hb.1,fun q=>hb.2 (.inl q)⟩) (UpS.of_eq rfl) fun _ _ _=>UpS.of_eq rfl
 have ee:∀{b o},c.e b=some o→(c.addZ I).e b=some o:=fun {b o} e=>by
  show(if b=I then none else c.e b)=some o
  rw[if_neg]
  ·exact e
  ·rintro rfl;rw[hI] at e;exact nope1 e
 have hne:∀{b o},c.e b=some o→b≠I:=fun e q=>by subst q;rw[hI] at e;exact nope1 e
 refine⟨hr,⟨lr.ns,lr.len,lr.cells⟩,fun b o e hF hZ=>r.old b o (ee e) hF fun q=>?_,fun b o e hZ=>r.oldZ b o (ee e) (.inl hZ),fun b hb=>?_,r.gens,r.os⟩
 ·rcases q with q|q
  ·exact hZ q
  ·exact hne e q
 ·rcases r.new b hb with q|q
  ·exact .inl q
  ·by_cases hb':b=I
   ·right;rw[hb'];exact hI
   ·right
    have:(if b=I then none else c.e b)=none:=q
    rwa [if_neg hb'] at this
theorem rv_addZ{x:V}(hn:h.get? I=none)(hk:∀b o,h.get? b=some o→h'.get? b=some o)(r:RV h (Pu H c.Z) v x):RV h' (Pu H (c.addZ I).Z) v x:=
 r.mono (fun b o _ e=>hk b o e) fun b hb ⟨o,e⟩=>⟨hb.1,fun q=>by
  rcases q with q|rfl
  ·exact hb.2 q
  ·rw[e] at hn;exact nope2 hn⟩
theorem rv_dropZ{x:V}(r:RV h (Pu H (c.addZ I).Z) v x):RV h (Pu H c.Z) v x:=r.mono (Agr.refl _ _) fun b hb _=>⟨hb.1,fun q=>hb.2 (.inl q)⟩
end
theorem getL_iff:∀{l:Loc} {k:Nat} {u:V},getL l k=some u↔l[k]? =some (some u)
 |[],k,u=>⟨fun h=>nope1 h,fun h=>nope1 h⟩
 |x::r,0,u=>⟨fun h=>congrArg some h,fun h=>sj h⟩
 |x::r,k+1,u=>getL_iff (l:=r) (k:=k) (u:=u)
theorem setL_eq:∀(l:Loc) (k:Nat) (v:V),setL l k v=l.set k (some v)
 |[],k,v=>rfl
 |x::r,0,v=>rfl
 |x::r,k+1,v=>congrArg (x::·) (setL_eq r k v)
theorem unL_eq:∀(l:Loc) (k:Nat),unL l k=l.set k none
 |[],k=>rfl
 |x::r,0=>rfl
 |x::r,k+1=>congrArg (x::·) (unL_eq r k)
noncomputable def StoreOk(c:Cx)(x:Str):Prop:=c.env.kindOf x=some .local∨(c.env.kindOf x=some .cell∧∃a,c.env.cells.lookup x=some a)
theorem store_JL{Q:Unit→Shared→Prop}(hx:c.vars[k]? =some x)(hk:StoreOk c x)(r:Rep w h0 c l H s)(rv:RV s.heap (Pu H c.Z) v u)(h:∀s',Rep w h0 c (setL l k u) H s'→(∀b,b≠c.env.locals→(c.env.kindOf x=some .local∨∀y,c.env.cells.lookup y≠some b)→s'.heap.get? b=s.heap.get? b)→Q () s'):
  wpAny (MM w) A (storeName c.env x v) Q E' s:=by
 refine bc fun ng=>?_
 refine xe1 (r.lr.ns) ?_
 intro m qz91
 refine xa2 qz91 ?_
 clear qz91
 rintro hn hv
 refine ng ?_
 have inj:∀{j y},c.vars[j]? =some y→y=x→j=k:=by
  intro j y hj e
  subst e
  refine bc fun ng=>?_
  refine xe1 (List.getElem?_eq_some_iff.mp hj) ?_
  rintro h1 e1
  refine xe1 (List.getElem?_eq_some_iff.mp hx) ?_
  rintro h2 e2
  refine ng ?_
  exact(List.getElem_inj c.nd).mp (e1.trans e2.symm)
 have others:∀{j y u'},c.vars[j]? =some y→(setL l k u)[j]? =some (some u')→(j=k∧y=x∧u'=u)∨(y≠x∧l[j]? =some (some u')):=by
  intro j y u' hj hu
  rw[setL_eq,List.getElem?_set] at hu
  by_cases q:k=j
  ·subst q
   rw[if_pos rfl] at hu
   split at hu
   ·cases hu;exact .inl ⟨rfl,sj (hj.symm.trans hx),rfl⟩
   ·exact nope1 hu
  ·rw[if_neg q] at hu
   exact .inr ⟨fun e=>q (inj hj e).symm,hu⟩
 have hlen:(setL l k u).length=c.vars.length:=by rw[setL_eq,List.length_set];exact r.lr.len
 rcases hk with hk|⟨hk,a,ha⟩
 ·refine wpAny_storeName_local hk hn (fun h' hn' sb=>h _ ?_ fun b hb _=>sb.2 b hb) (by rw[c.kind];rfl)
  have other:∀b,b≠c.env.locals→h'.get? b=s.heap.get? b:=fun b hb=>sb.2 b hb
  have ag:Agr (Pu H c.Z) s.heap h':=fun b o hb e=>(other b fun q=>hb.2 (q▸c.zl)).trans e
  refine⟨r.hr.atZ (fun b hb=>other b fun q=>hb (q▸c.zl)) (fun b hb=>?_),⟨⟨_,hn',fun j y u' hj hu=>?_⟩,hlen,fun y a ha=>?_⟩,fun b o e hF hZ=>(other b fun q=>hZ (q▸c.zl)).trans (r.old b o e hF hZ),fun b o e hZ=>?_,r.new,r.gens,r.os⟩
  ·by_cases q:b=c.env.locals
   ·subst q;obtain⟨o,_,_,ho,_⟩:=hn';exact⟨o,ho⟩
   ·obtain⟨o,e⟩:=r.hr.inH b hb;exact⟨o,(other b q).trans e⟩
  ·rcases others hj hu with⟨rfl,rfl,rfl⟩|⟨hne,hu⟩
   ·exact .inl ⟨hk,v,if_pos rfl,rv.mono ag fun b hb _=>hb⟩
   ·rcases hv j y u' hj hu with⟨h1,v',h2,h3⟩|⟨h1,a,o,v',h2,h3,h4,h5⟩
    ·exact .inl ⟨h1,v',(if_neg hne).trans h2,h3.mono ag fun b hb _=>hb⟩
    ·exact .inr ⟨h1,a,o,v',h2,(other a (c.cl y a h2)).trans h3,h4,h5.mono ag fun b hb _=>hb⟩
  ·refine bc fun ng=>?_
   refine xe2 (r.lr.cells y a ha) ?_
   intro o v' qz92
   refine xa2 qz92 ?_
   clear qz92
   rintro e hd
   refine ng ?_
   exact⟨o,v',(other a (c.cl y a ha)).trans e,hd⟩
  ·by_cases q:b=c.env.locals
   ·subst q;rw[c.el] at e;exact nope1 e
   ·refine bc fun ng=>?_
    obtain⟨sl,e1,f⟩:=r.oldZ b o e hZ
    refine ng ?_
    exact⟨sl,(other b q).trans e1,f⟩
 ·refine bc fun ng=>?_
  refine xe2 (r.lr.cells x a ha) ?_
  intro o0 v0 qz93
  refine xa2 qz93 ?_
  clear qz93
  rintro ho0 hd0
  refine ng ?_
  refine wpAny_storeName_cell c.kind hk ha ⟨o0,ho0,hd0⟩ fun h' hc' sb=>h _ ?_ fun b _ hb=>sb.2 b fun q=>hb.elim (fun z=>by rw[hk] at z;cases z) fun hb=>hb x (q▸ha)
  have hza:=c.zc x a ha
  have other:∀b,b≠a→h'.get? b=s.heap.get? b:=fun b hb=>sb.2 b hb
  have ag:Agr (Pu H c.Z) s.heap h':=fun b o hb e=>(other b fun q=>hb.2 (q▸hza)).trans e
  refine bc fun ng=>?_
  obtain⟨o1,ho1,hd1⟩:=hc'
  refine ng ?_
  refine⟨r.hr.atZ (fun b hb=>other b fun q=>hb (q▸hza)) (fun b hb=>?_),⟨⟨m,?_,fun j y u' hj hu=>?_⟩,hlen,fun y a' ha'=>?_⟩,fun b o e hF hZ=>(other b fun q=>hZ (q▸hza)).trans (r.old b o e hF hZ),fun b o e hZ=>?_,r.new,r.gens,r.os⟩
  ·by_cases q:b=a
   ·subst q;exact⟨o1,ho1⟩
   ·obtain⟨o,e⟩:=r.hr.inH b hb;exact⟨o,(other b q).trans e⟩
  ·refine bc fun ng=>?_
   obtain⟨o,es,ep,ho,rest⟩:=hn
   refine ng ?_
   exact⟨o,es,ep,(other _ (Ne.symm (c.cl x a ha))).trans ho,rest⟩
  ·rcases others hj hu with⟨rfl,rfl,rfl⟩|⟨hne,hu⟩
   ·exact .inr ⟨.inl hk,a,o1,v,ha,ho1,hd1,rv.mono ag fun b hb _=>hb⟩
   ·rcases hv j y u' hj hu with⟨h1,v',h2,h3⟩|⟨h1,a',o,v',h2,h3,h4,h5⟩
    ·exact .inl ⟨h1,v',h2,h3.mono ag fun b hb _=>hb⟩
    ·have:a'≠a:=fun q=>hne (c.ci y x a (q▸h2) ha)
     exact .inr ⟨h1,a',o,v',h2,(other a' this).trans h3,h4,h5.mono ag fun b hb _=>hb⟩
  ·by_cases q:a'=a
   ·subst q;exact⟨o1,some v,ho1,hd1⟩
   ·refine bc fun ng=>?_
    refine xe2 (r.lr.cells y a' ha') ?_
    intro o v' qz94
    refine xa2 qz94 ?_
    clear qz94
    rintro e hd
    refine ng ?_
    exact⟨o,v',(other a' q).trans e,hd⟩
  ·by_cases q:b=a
   ·subst q;rw[c.ec x b ha] at e;exact nope1 e
   ·refine bc fun ng=>?_
    obtain⟨sl,e1,f⟩:=r.oldZ b o e hZ
    refine ng ?_
    exact⟨sl,(other b q).trans e1,f⟩
theorem store_J'{Q:Unit→Shared→Prop}(hx:c.vars[k]? =some x)(hk:StoreOk c x)(r:Rep w h0 c l H s)(rv:RV s.heap (Pu H c.Z) v u)(h:∀s',Rep w h0 c (setL l k u) H s'→(∀b,b≠c.env.locals→(∀y,c.env.cells.lookup y≠some b)→s'.heap.get? b=s.heap.get? b)→Q () s'):
  wpAny (MM w) A (storeName c.env x v) Q E' s:=store_JL hx hk r rv fun s' r' hb=>h s' r' fun b h1 h2=>hb b h1 (.inr h2)
theorem store_J{Q:Unit→Shared→Prop}(hx:c.vars[k]? =some x)(hk:StoreOk c x)(r:Rep w h0 c l H s)(rv:RV s.heap (Pu H c.Z) v u)(h:∀s',Rep w h0 c (setL l k u) H s'→Q () s'):
  wpAny (MM w) A (storeName c.env x v) Q E' s:=store_J' hx hk r rv fun s' r' _=>h s' r'
section
variable{X:Loc→Hp→Prop}
variable{a b d e:E}{pos:Pos}
noncomputable abbrev EnS(w:World)(h0:Heap)(c:Cx)(Q:Fl→Loc→Hp→Prop):Flow→Shared→Prop:=fun f s'=>∃f' l' H',FlR s'.heap (Pu H' c.Z) f f'∧Rep w h0 c l' H' s'∧Q f' l' H'
section
variable(w:World)(h0:Heap)(n:Nat)
noncomputable def SoS(c:Cx)(A:Around)(a:S)(pa:Stmt):Prop:=∀X l H Q,vcS w h0 n X a l H Q→JS w h0 c A X (exec pa c.env) l H Q
noncomputable def SoSs(c:Cx)(A:Around)(a:Ss)(pa:List Stmt):Prop:=∀X l H Q,vcSs w h0 n X a l H Q→JS w h0 c A X (execs pa c.env) l H Q
noncomputable def SoA(c:Cx)(A:Around)(a:E)(pa:Expr):Prop:=∀X l,So w h0 n c A X l a pa
noncomputable def SoTA(c:Cx)(A:Around)(a:E)(pa:Expr):Prop:=∀X l,SoT w h0 n c A X l a pa
end
theorem HS.at(hS:HS w h0 c A X E')(l:Loc):HE w h0 c A (X l) l E':=fun a s' H' g r ex hx=>hS a s' l H' g r ex hx
theorem sos_expr(ha:SoA w h0 n c A a pa)(hi:interactive c.env=false)(hs:swapsWith pa none pos.line c.env=pure false):SoS w h0 n c A (.expr a) (.Expr pa pos):=fun X l H Q h s E' r hE=>by
 rw[exec_Expr c.env pa pos hi hs]
 refine wpAny_bind (wpAny_standAt (wpAny_bind (J.run (ha _ _ H _ h) r (hE.at l) fun v x H₁ s₁ p r₁ rv st=>?_)))
 exact wpAny_dropValue ⟨.next,l,H₁,trivial,r₁,p⟩
theorem sos_ret(ha:SoA w h0 n c A a pa):SoS w h0 n c A (.ret a) (.Return (some pa) pos):=fun X l H Q h s E' r hE=>
 wpAny_Return_some (J.run (ha _ _ H _ h) r (hE.at l) fun v x H₁ s₁ p r₁ rv st=>⟨.ret x,l,H₁,rv,r₁,p⟩)
theorem sos_retN:SoS w h0 n c A .retN (.Return none pos):=fun X l H Q h s E' r hE=>wpAny_Return_none ⟨.ret .none,l,H,.none,r,h⟩
theorem sos_set(hx:c.vars[k]? =some x)(hk:StoreOk c x)(ha:SoA w h0 n c A a pa)(hs:swapsWith pa (some (.Name x p')) pos.line c.env=pure false):SoS w h0 n c A (.set k a) (.Assign [.Name x p'] pa pos):=fun X l H Q h s E' r hE=>
 wpAny_Assign_Name (J.run (ha _ _ H _ h) r (hE.at l) fun v x H₁ s₁ p r₁ rv st=>store_J hx hk r₁ rv fun s' r'=>⟨.next,_,H₁,trivial,r',p⟩) hs
theorem sos_setA(G:Top' K h0)(hk:k< 87)(ha:SoA w h0 n c A a pa)(hb:SoA w h0 n c A b pb)(hs:swapsWith pb (some (.Attribute pa (fname k) p')) pos.line c.env=pure false):SoS w h0 n c A (.setA a k b) (.Assign [.Attribute pa (fname k) p'] pb pos):=fun X l H Q h s E' r hE=>
 plainObj_wpAny_Assign_Attribute (J.run (hb _ _ H _ h) r (hE.at l) fun v y H₁ s₁ p r₁ rv st=>J.run (ha _ _ H₁ _ p) r₁ (hE.at l) fun u x H₂ s₂ p₂ r₂ ru st₂=>
  wpAny_mono (putF_J G.X G.OK r₂.hr ru (st₂.rv rv) hk p₂) (fun _ s' ⟨H',st',q⟩=>⟨.next,l,H',trivial,r₂.after st',q⟩) fun _ _ e=>e) hs
theorem sos_setI(ha:SoA w h0 n c A a pa)(hb:SoA w h0 n c A b pb)(hd:SoA w h0 n c A d pd)(hs:swapsWith pd (some (.Subscript pa pb p')) pos.line c.env=pure false):SoS w h0 n c A (.setI a b d) (.Assign [.Subscript pa pb p'] pd pos):=fun X l H Q h s E' r hE=>
 wpAny_Assign_Subscript (J.run (hd _ _ H _ h) r (hE.at l) fun v y H₁ s₁ p r₁ rv st=>J.run (ha _ _ H₁ _ p) r₁ (hE.at l) fun u x H₂ s₂ p₂ r₂ ru st₂=>J.run (hb _ _ H₂ _ p₂) r₂ (hE.at l) fun j i H₃ s₃ p₃ r₃ rj st₃=>
  wpAny_mono (putI_J r₃.hr (st₃.rv ru) rj (st₃.rv (st₂.rv rv)) p₃) (fun _ s' ⟨H',st',q⟩=>⟨.next,l,H',trivial,r₃.after st',q⟩) fun _ _ e=>e) hs
theorem sos_setK(ha:SoA w h0 n c A a pa)(hd:SoA w h0 n c A d pd)(hs:swapsWith pd (some (.Subscript pa (.Constant (.str (fname k)) kk p'') p')) pos.line c.env=pure false):SoS w h0 n c A (.setK a k d) (.Assign [.Subscript pa (.Constant (.str (fname k)) kk p'') p'] pd pos):=fun X l H Q h s E' r hE=>
 wpAny_Assign_Subscript (J.run (hd _ _ H _ h) r (hE.at l) fun v y H₁ s₁ p r₁ rv st=>J.run (ha _ _ H₁ _ p) r₁ (hE.at l) fun u x H₂ s₂ p₂ r₂ ru st₂=>Constant_str (by
  have st0:St w h0 c.Z H₂ H₂ s₂ {s₂ with toks:=s₂.toks+1}:=St.toks r₂.hr _
  exact wpAny_mono (putK_J (s:={s₂ with toks:=s₂.toks+1}) st0.hr (st0.rv ru) (st0.rv (st₂.rv rv)) p₂) (fun _ s' ⟨H',st',q⟩=>⟨.next,l,H',trivial,(r₂.after st0).after st',q⟩) fun _ _ e=>e)) hs
theorem sos_setSl{lo hi:E}(ha:SoA w h0 n c A a pa)(hlo:∀X l,SoP w h0 n c A X l lo plo)(hhi:∀X l,SoP w h0 n c A X l hi phi)(hd:SoA w h0 n c A d pd)(hs:swapsWith pd (some (.Subscript pa (.Slice plo phi none p'') p')) pos.line c.env=pure false):
  SoS w h0 n c A (.setSl a lo hi d) (.Assign [.Subscript pa (.Slice plo phi none p'') p'] pd pos):=fun X l H Q h s E' r hE=>
 wpAny_Assign_Subscript (J.run (hd _ _ H _ h) r (hE.at l) fun v y H₁ s₁ p r₁ rv st=>J.run (ha _ _ H₁ _ p) r₁ (hE.at l) fun u x H₂ s₂ p₂ r₂ ru st₂=>wpAny_Slice (J.run ((hlo _ _).j H₂ _ p₂) r₂ (hE.at l) fun v1 y1 H₃ s₃ p₃ r₃ r1 st₃=>J.run ((hhi _ _).j H₃ _ p₃) r₃ (hE.at l) fun v2 y2 H₄ s₄ p₄ r₄ r2 st₄=>by
  refine wpAny_pure ?_
  have s1:St w h0 c.Z H₄ H₄ s₄ {s₄ with heap:=s₄.heap.push {cls:=.type "slice",data:=.fields #[v1,v2,.none]}}:=St.push r₄.hr _ s₄.toks
  exact wpAny_mono (putSl_J (s:={s₄ with heap:=s₄.heap.push {cls:=.type "slice",data:=.fields #[v1,v2,.none]}}) s1.hr (s1.rv (st₄.rv (st₃.rv ru))) (s1.rv (st₄.rv (st₃.rv (st₂.rv rv)))) (s1.rv (st₄.rv r1)) (s1.rv r2) (Heap.IsSliceOf.new ..) p₄)
   (fun _ s' ⟨H',st',q⟩=>⟨.next,l,H',trivial,(r₄.after s1).after st',q⟩) fun _ _ e=>e)) hs
theorem sos_ite{ba:Ss}{pba:List Stmt}(hc:SoTA w h0 n c A d pd)(ha:SoSs w h0 n c A ba pba)(hb:SoSs w h0 n c A bb pbb):SoS w h0 n c A (.ite d ba bb) (.If pd pba pbb pos):=fun X l H Q h s E' r hE=>
 wpAny_If (J.run (hc _ _ H (fun q H₁=>(q=true→vcSs w h0 n X ba l H₁ Q)∧(q=false→vcSs w h0 n X bb l H₁ Q)) h) r (hE.at l) fun v x H₁ s₁ p r₁ rv st=>by
  cases rv
  cases v with
  |true=>exact ha X l H₁ Q (p.1 rfl) s₁ E' r₁ hE
  |false=>exact hb X l H₁ Q (p.2 rfl) s₁ E' r₁ hE)
theorem soss_nil:SoSs w h0 n c A .nil []:=fun X l H Q h s E' r hE=>wpAny_execs_nil ⟨.next,l,H,trivial,r,h⟩
theorem soss_cons{x:S}{xs:Ss}(ha:SoS w h0 n c A x px)(hb:SoSs w h0 n c A xs pxs):SoSs w h0 n c A (.cons x xs) (px::pxs):=fun X l H Q h s E' r hE=>
 wpAny_execs_cons (wpAny_mono (ha X l H _ h s E' r hE) (fun f s₁ ⟨f',l₁,H₁,hf,r₁,p⟩=>by
  cases f' with
  |next=>
   cases f<;>first|(exact hf.elim)|exact hb X l₁ H₁ Q p s₁ E' r₁ hE
  |ret y=>
   cases f<;>first|(exact hf.elim)|exact⟨.ret y,l₁,H₁,hf,r₁,p⟩
  |brk=>
   cases f<;>first|(exact hf.elim)|exact⟨.brk,l₁,H₁,hf,r₁,p⟩
  |cont=>
   cases f<;>first|(exact hf.elim)|exact⟨.cont,l₁,H₁,hf,r₁,p⟩) fun _ _ e=>e)
theorem sos_frz(hx:c.vars[k]? =some x){X l H Q}(h:vcS w h0 n X (.frz k) l H Q)(r:Rep w h0 c l H s):∃l' H',Rep w h0 c l' H' s∧Q .next l' H':=by
 refine bc fun ng=>?_
 obtain⟨u,hu,y,H',D,hs,hD,hp,q⟩:=OptP.ex h
 refine ng ?_
 refine⟨setL l k y,H',?_,q⟩
 have hu':=getL_iff.mp hu
 have hr:=r.hr.sub hs
 have mo:∀b,Pu H c.Z b→Pu H' c.Z b:=fun b hb=>⟨fun q=>hb.1 (hs.foot q),hb.2⟩
 have pv:∀{v},RV s.heap (Pu H c.Z) v u→RV s.heap (Pu H' c.Z) v y:=fun rv=>r.hr.pr hs hD hp rv
 have pm:∀{v z},RV s.heap (Pu H c.Z) v z→RV s.heap (Pu H' c.Z) v z:=fun rv=>rv.mono (Agr.refl _ _) fun b hb _=>mo b hb
 refine bc fun ng=>?_
 refine xe1 (r.lr.ns) ?_
 intro m qz95
 refine xa2 qz95 ?_
 clear qz95
 rintro hn hv
 refine ng ?_
 refine⟨hr,⟨⟨m,hn,fun j y' u' hj hq=>?_⟩,by rw[setL_eq,List.length_set];exact r.lr.len,r.lr.cells⟩,r.old,r.oldZ,fun b hb=>r.new b (hs.foot hb),r.gens,r.os⟩
 rw[setL_eq,List.getElem?_set] at hq
 by_cases q':k=j
 ·subst q'
  rw[if_pos rfl] at hq
  split at hq
  ·cases hq
   rcases hv k y' u hj hu' with⟨h1,v',h2,h3⟩|⟨h1,a,o,v',h2,h3,h4,h5⟩
   ·exact .inl ⟨h1,v',h2,pv h3⟩
   ·exact .inr ⟨h1,a,o,v',h2,h3,h4,pv h5⟩
  ·exact nope1 hq
 ·rw[if_neg q'] at hq
  rcases hv j y' u' hj hq with⟨h1,v',h2,h3⟩|⟨h1,a,o,v',h2,h3,h4,h5⟩
  ·exact .inl ⟨h1,v',h2,pm h3⟩
  ·exact .inr ⟨h1,a,o,v',h2,h3,h4,pm h5⟩
theorem soss_frz{xs:Ss}(hx:c.vars[k]? =some x)(hb:SoSs w h0 n c A xs pxs):SoSs w h0 n c A (.cons (.frz k) xs) pxs:=fun X l H Q h s E' r hE=>by
 refine bc fun ng=>?_
 refine xe2 (sos_frz hx (Q:=nextK (fun l' H'=>vcSs w h0 n X xs l' H' Q) Q) h r) ?_
 intro l' H' qz96
 refine xa2 qz96 ?_
 clear qz96
 rintro r' q
 refine ng ?_
 exact hb X l' H' Q q s E' r' hE
theorem so_frz{X:Hp→Prop}(ha:So w h0 n c A X l a pa):So w h0 n c A X l (.frz a) pa:=fun H Q h s E' r hE=>
 J.run (ha H _ h) r hE fun v x H₁ s₁ p r₁ rv st=>by
  refine bc fun ng=>?_
  obtain⟨y,H',D,hs,hD,hp,q⟩:=p
  refine ng ?_
  exact⟨y,H',r₁.hr.pr hs hD hp rv,st.sub hs,q⟩
end
section
open Classical
noncomputable def Cx.snap(c:Cx)(h:Heap)(H:Hp):Cx where
 env:=c.env
 vars:=c.vars
 Z:=c.Z
 e:=fun b=>if foot H b∨b=c.env.locals∨(∃x,c.env.cells.lookup x=some b) then none else h.get? b
 F:=foot H
 os:=c.os
 kind:=c.kind
 glob:=c.glob
 blt:=c.blt
 nd:=c.nd
 zl:=c.zl
 zc:=c.zc
 cl:=c.cl
 ci:=c.ci
 el:=if_pos (.inr (.inl rfl))
 ec:=fun x a h=>if_pos (.inr (.inr ⟨x,h⟩))
 ef:=fun b o h=>by split at h<;>first|(exact nope1 h;done)|(rename_i q;exact fun f=>q (.inl f))
section
variable{X:Loc→Hp→Prop}
theorem Cx.snap_e{o:Obj}(e:h.get? b=some o)(h1:¬foot H b)(h2:b≠c.env.locals)(h3:∀x,c.env.cells.lookup x≠some b):(c.snap h H).e b=some o:=by
 show(if foot H b∨b=c.env.locals∨(∃x,c.env.cells.lookup x=some b) then none else h.get? b)=some o
 rw[if_neg]
 ·exact e
 ·rintro(q|q|⟨x,q⟩)
  ·exact h1 q
  ·exact h2 q
  ·exact h3 x q
theorem Cx.snap_none(e:(c.snap h H).e b=none):foot H b∨b=c.env.locals∨(∃x,c.env.cells.lookup x=some b)∨h.get? b=none:=by
 have e:(if foot H b∨b=c.env.locals∨(∃x,c.env.cells.lookup x=some b) then none else h.get? b)=none:=e
 split at e
 ·rename_i q
  rcases q with q|q|q
  ·exact .inl q
  ·exact .inr (.inl q)
  ·exact .inr (.inr (.inl q))
 ·exact .inr (.inr (.inr e))
theorem Cx.snap_some{o:Obj}(e:(c.snap h H).e b=some o):h.get? b=some o∧¬foot H b:=by
 have e:(if foot H b∨b=c.env.locals∨(∃x,c.env.cells.lookup x=some b) then none else h.get? b)=some o:=e
 split at e
 ·exact nope1 e
 ·rename_i q;exact⟨e,fun f=>q (.inl f)⟩
theorem Rep.snap(r:Rep w h0 c l H s):Rep w h0 (c.snap s.heap H) l H s:=
 ⟨r.hr,⟨r.lr.ns,r.lr.len,r.lr.cells⟩,fun b o e _ _=>(Cx.snap_some e).1,fun b o e _=>⟨o.slots,(Cx.snap_some e).1,fun _=>rfl⟩,fun b hb=>.inl hb,r.gens,r.os⟩
theorem Rep.snap_keep(r':Rep w h0 (c.snap s.heap H) l' H' s'){o:Obj}(e:s.heap.get? b=some o)(h1:¬foot H b)(h2:¬c.Z b):s'.heap.get? b=some o:=
 r'.old b o (Cx.snap_e e h1 (fun q=>h2 (q▸c.zl)) fun x q=>h2 (c.zc x b q)) h1 h2
theorem Rep.snap_keepZ(r':Rep w h0 (c.snap s.heap H) l' H' s'){o:Obj}(e:s.heap.get? b=some o)(h2:c.Z b)(h1:¬foot H b)(h3:b≠c.env.locals)(h4:∀x,c.env.cells.lookup x≠some b):SlK s'.heap b o:=
 r'.oldZ b o (Cx.snap_e e h1 h3 h4) h2
theorem Rep.snap_new(r:Rep w h0 c l H s)(r':Rep w h0 (c.snap s.heap H) l' H' s')(hb:foot H' b):foot H b∨s.heap.get? b=none:=by
 rcases r'.new b hb with q|q
 ·exact .inl q
 ·rcases Cx.snap_none q with q|q|⟨x,q⟩|q
  ·exact .inl q
  ·exact absurd (q▸c.zl) (r'.hr.notZ b hb)
  ·exact absurd (c.zc x b q) (r'.hr.notZ b hb)
  ·exact .inr q
theorem Rep.unsnap(r:Rep w h0 c l H s)(r':Rep w h0 (c.snap s.heap H) l' H' s'):Rep w h0 c l' H' s':=by
 have nf:∀{b o},c.e b=some o→¬foot H b:=fun {b o} e q=>by
  rcases r.new b q with q|q
  ·exact c.ef b o e q
  ·rw[e] at q;exact nope2 q
 refine⟨r'.hr,⟨r'.lr.ns,r'.lr.len,r'.lr.cells⟩,fun b o e hF hZ=>?_,fun b o e hZ=>?_,fun b hb=>?_,r'.gens,r'.os⟩
 ·exact r'.snap_keep (r.old b o e hF hZ) (nf e) hZ
 ·obtain⟨sl,e1,f1⟩:=r.oldZ b o e hZ
  obtain⟨sl2,e2,f2⟩:=r'.snap_keepZ e1 hZ (nf e) (fun q=>by rw[q,c.el] at e;exact nope1 e) fun x q=>by rw[c.ec x b q] at e;exact nope1 e
  exact⟨sl2,e2,fun q=>(f2 q).trans (f1 q)⟩
 ·rcases r.snap_new r' hb with q|q
  ·exact r.new b q
  ·exact .inr (r.e_none q)
theorem Rep.snap_rv(r:Rep w h0 c l H s)(r':Rep w h0 (c.snap s.heap H) l' H' s'){x:V}(rv:RV s.heap (Pu H c.Z) v x):RV s'.heap (Pu H' c.Z) v x:=
 rv.mono (fun b o hb e=>r'.snap_keep e hb.1 hb.2) fun b hb ⟨o,e⟩=>⟨fun q=>by
  rcases r.snap_new r' q with q|q
  ·exact hb.1 q
  ·exact(nomatch e.symm.trans q),hb.2⟩
theorem Act.snap(a:Act c A n)(r:Rep w h0 c l H s):Act (c.snap s.heap H) A n:=by
 refine bc fun ng=>?_
 obtain⟨h1,h2,h3,fl,h4,h5⟩:=a
 refine ng ?_
 refine⟨h1,h2,h3,fl,h4,fun env he=>?_⟩
 refine bc fun ng=>?_
 obtain⟨hk,L,hL,hZ,hL2⟩:=h5 env he
 refine ng ?_
 refine⟨hk,L,hL,hZ,?_⟩
 rcases hL2 with hL2|⟨o,ho,hd⟩
 ·exact .inl hL2
 ·refine bc fun ng=>?_
  obtain⟨sl,e1,f1⟩:=r.oldZ L o ho hZ
  refine ng ?_
  exact .inr ⟨_,Cx.snap_e e1 (fun q=>r.hr.notZ L q hZ) (fun q=>by rw[q,c.el] at ho;exact nope1 ho) (fun x q=>by rw[c.ec x L q] at ho;exact nope1 ho),hd⟩
theorem Act.addZ(a:Act c A n)(hI:c.e I=none):Act (c.addZ I) A n:=by
 refine bc fun ng=>?_
 obtain⟨h1,h2,h3,fl,h4,h5⟩:=a
 refine ng ?_
 refine⟨h1,h2,h3,fl,h4,fun env he=>?_⟩
 refine bc fun ng=>?_
 obtain⟨hk,L,hL,hZ,hL2⟩:=h5 env he
 refine ng ?_
 refine⟨hk,L,hL,.inl hZ,?_⟩
 rcases hL2 with hL2|⟨o,ho,hd⟩
 ·exact .inl hL2
 ·refine .inr ⟨o,?_,hd⟩
  show(if L=I then none else c.e L)=some o
  rw[if_neg]
  ·exact ho
  ·rintro rfl;rw[hI] at ho;exact nope1 ho
theorem Rep.moved(r:Rep w h0 (c.addZ I) l H s)(hl:I≠c.env.locals)(hc:∀x,c.env.cells.lookup x≠some I)(hk:∀b o,b≠I→s.heap.get? b=some o→h'.get? b=some o)(he:∃o,h'.get? I=some o):Rep w h0 (c.addZ I) l H {s with heap:=h',toks:=k}:=by
 have zI:(c.addZ I).Z I:=.inr rfl
 have ag:Agr (Pu H (c.addZ I).Z) s.heap h':=fun b o hb e=>hk b o (fun q=>hb.2 (q▸zI)) e
 have hI0:h0.get? I=none:=r.hr.zf I zI
 refine⟨⟨fun b o e=>hk b o (fun q=>by rw[q,hI0] at e;exact nope1 e) (r.hr.keep b o e),r.hr.fresh,r.hr.notZ,fun b hb=>?_,r.hr.zf,fun a o e=>?_,r.hr.apart⟩,?_,fun b o e hF hZ=>hk b o (fun q=>hZ (q▸zI)) (r.old b o e hF hZ),fun b o e hZ=>?_,r.new,r.gens,r.os⟩
 ·by_cases q:b=I
  ·subst q;exact he
  ·obtain⟨o,e⟩:=r.hr.inH b hb;exact⟨o,hk b o q e⟩
 ·refine(r.hr.obj a o e).mono ag (fun b hb _=>hb) fun b hb=>?_
  refine bc fun ng=>?_
  refine xe1 ((r.hr.obj a o e).there hb) ?_
  rintro ob eb
  refine ng ?_
  rw[eb,hk b ob (fun q=>r.hr.notZ b (hb.foot e) (q▸zI)) eb]
 ·exact r.lr.mono ag (fun b hb _=>hb) (fun o e=>⟨o.slots,hk _ _ (Ne.symm hl) e⟩) fun x a ha o e=>⟨o.slots,hk _ _ (fun q=>hc x (q▸ha)) e⟩
 ·by_cases q:b=I
  ·subst q
   have:(if b=b then none else c.e b)=some o:=e
   rw[if_pos rfl] at this;exact nope1 this
  ·refine bc fun ng=>?_
   obtain⟨sl,e1,f⟩:=r.oldZ b o e hZ
   refine ng ?_
   exact⟨sl,hk b _ q e1,f⟩
end
end
section
variable{X:Loc→Hp→Prop}
variable{a b d e:E}{pos:Pos}
theorem HS.none:HS w h0 c A (fun _ _=>False) E':=fun _ _ _ _ _ _ _ hx=>hx.elim
theorem HE.none:HE w h0 c A (fun _=>False) l E':=fun _ _ _ _ _ _ hx=>hx.elim
theorem sos_whl(hc:SoTA w h0 n c A d pd)(hb:SoSs w h0 n c A bb pbb):SoS w h0 n c A (.whl d bb) (.While pd pbb [] pos):=fun X l H Q h s E' r hE=>by
 refine bc fun ng=>?_
 obtain⟨I,⟨m,hm⟩,hst⟩:=h
 refine ng ?_
 refine wpAny_While (codeAny_whileLoop (fun m s=>∃l₁ H₁,I m l₁ H₁∧Rep w h0 c l₁ H₁ s) (fun m s ⟨l₁,H₁,hI,r⟩=>?_) m ⟨l,H,hm,r⟩)
 refine J.run (hc _ _ H₁ (fun q H₂=>(q=true→vcSs w h0 n (fun _ _=>False) bb l₁ H₂ (turnK (fun l₂ H₃=>∃m'< m,I m' l₂ H₃) Q))∧(q=false→Q .next l₁ H₂)) (hst m l₁ H₁ hI)) r HE.none fun v x H₂ s₂ p r₂ rv st=>?_
 cases rv
 cases v with
 |false=>exact wpAny_execs_nil ⟨.next,l₁,H₂,trivial,r₂,p.2 rfl⟩
 |true=>
  refine wpAny_mono (hb _ l₁ H₂ _ (p.1 rfl) s₂ _ r₂ HS.none) (fun f s₃ ⟨f',l₃,H₃,hf,r₃,q⟩=>?_) fun _ _ e=>e
  cases f'<;>cases f<;>try exact hf.elim
  ·obtain⟨m',h1,h2⟩:=q;exact⟨m',h1,l₃,H₃,h2,r₃⟩
  ·exact⟨.next,l₃,H₃,trivial,r₃,q⟩
  ·obtain⟨m',h1,h2⟩:=q;exact⟨m',h1,l₃,H₃,h2,r₃⟩
  ·exact⟨.ret _,l₃,H₃,hf,r₃,q⟩
theorem Rep.finish(r:Rep w h0 (c.addZ I) l H s)(hI:c.e I=none)(hl:I≠c.env.locals)(hc:∀x,c.env.cells.lookup x≠some I)(hnz:¬c.Z I)(hk:∀b o,b≠I→s.heap.get? b=some o→h'.get? b=some o):Rep w h0 c l H {s with heap:=h',toks:=k}:=by
 have zI:(c.addZ I).Z I:=.inr rfl
 have ag:Agr (Pu H (c.addZ I).Z) s.heap h':=fun b o hb e=>hk b o (fun q=>hb.2 (q▸zI)) e
 have hI0:h0.get? I=none:=r.hr.zf I zI
 have mo:∀b,Pu H (c.addZ I).Z b→(∃o,s.heap.get? b=some o)→Pu H c.Z b:=fun b hb _=>⟨hb.1,fun q=>hb.2 (.inl q)⟩
 have ee:∀{b o},c.e b=some o→(c.addZ I).e b=some o∧b≠I:=fun {b o} e=>by
  have hne:b≠I:=by rintro rfl;rw[hI] at e;exact nope1 e
  exact⟨(if_neg hne).trans e,hne⟩
 have hfI:¬foot H I:=fun q=>r.hr.notZ I q zI
 refine⟨⟨fun b o e=>hk b o (fun q=>by rw[q,hI0] at e;exact nope1 e) (r.hr.keep b o e),r.hr.fresh,fun b hb q=>r.hr.notZ b hb (.inl q),fun b hb=>?_,fun b hb=>r.hr.zf b (.inl hb),fun a o e=>?_,r.hr.apart⟩,?_,fun b o e hF hZ=>hk b o (ee e).2 (r.old b o (ee e).1 hF fun q=>q.elim hZ (ee e).2),fun b o e hZ=>?_,fun b hb=>?_,r.gens,r.os⟩
 ·obtain⟨o,e⟩:=r.hr.inH b (.inl hb);exact⟨o,hk b o (fun q=>hnz (q▸hb)) e⟩
 ·refine(r.hr.obj a o e).mono ag mo fun b hb=>?_
  refine bc fun ng=>?_
  refine xe1 ((r.hr.obj a o e).there hb) ?_
  rintro ob eb
  refine ng ?_
  rw[eb,hk b ob (fun q=>hfI (q▸hb.foot e)) eb]
 ·have:=r.lr.mono (c:=c.addZ I) (h':=h') (P':=Pu H c.Z) ag mo (fun o e=>⟨o.slots,hk _ _ (Ne.symm hl) e⟩) fun x a ha o e=>⟨o.slots,hk _ _ (fun q=>hc x (q▸ha)) e⟩
  exact⟨this.ns,this.len,this.cells⟩
 ·refine bc fun ng=>?_
  obtain⟨sl,e1,f⟩:=r.oldZ b o (ee e).1 (.inl hZ)
  refine ng ?_
  exact⟨sl,hk b _ (ee e).2 e1,f⟩
 ·rcases r.new b hb with q|q
  ·exact .inl q
  ·right
   have q:(if b=I then none else c.e b)=none:=q
   split at q
   ·rename_i e;rw[e];exact hI
   ·exact q
noncomputable abbrev FInv(w:World)(h0:Heap)(n:Nat)(c:Cx)(k:Nat)(bb:Ss)(I:Addr)(fp:List Addr)(P:Nat→Value→Prop)(St':Nat→Heap→Prop)(xs:List V)(Q:Fl→Loc→Hp→Prop)(m:Nat)(s:Shared):Prop:=∃i l₁ H₁,i≤xs.length∧m=xs.length-i∧Rep w h0 (c.addZ I) l₁ H₁ s∧St' i s.heap∧(∀b∈fp,b=I∨(Pu H₁ (c.addZ I).Z b∧∃o,s.heap.get? b=some o))∧
  (∀(j:Nat) (v:Value) (y:V),P j v→xs[j]? =some y→RV s.heap (Pu H₁ (c.addZ I).Z) v y)∧forV (fun l' H' K=>vcSs w h0 n (fun _ _=>False) bb l' H' K) (.nm k) (xs.drop i) l₁ H₁ Q
theorem for_walk{P:Nat→Value→Prop}{Q:Fl→Loc→Hp→Prop}
  (ac:Act c A (n+1)) (hx:c.vars[k]? =some x) (hk:StoreOk c x) (hb:∀c',c'.env=c.env→c'.vars=c.vars→Act c' A (n+1)→SoSs w h0 n c' A bb pbb)
  (r:Rep w h0 c l H s) (hn:s.heap.get? I=none) (hkp:∀b o,s.heap.get? b=some o→h₂.get? b=some o)
  (W:Walks pw w A I fp [I] xs.length P St') (hfld:∀i h,St' i h→∃o vs,h.get? I=some o∧o.data=.fields vs)
  (h0':St' 0 h₂) (hfp:∀b∈fp,b=I∨(Pu H c.Z b∧∃o,s.heap.get? b=some o)) (hP:∀(j:Nat) (v:Value) (y:V),P j v→xs[j]? =some y→RV s.heap (Pu H c.Z) v y)
  (h:forV (fun l' H' K=>vcSs w h0 n (fun _ _=>False) bb l' H' K) (.nm k) xs l H Q):
  codeAny (MM w) A (.forLoop (.Name x p') (.ref I) pbb [] c.env) (fun r s'=>match r with|.ok f=>EnS w h0 c Q f s'|.error e=>cameBackBy (MM w) A c.env E' e s') {s with heap:=h₂,toks:=tk}:=by
 have hcI:=r.e_none hn
 have hnz:¬c.Z I:=fun q=>by obtain⟨o,e⟩:=r.hr.inH I q;rw[hn] at e;exact nope1 e
 have hl:I≠c.env.locals:=fun q=>hnz (q▸c.zl)
 have hcl:∀x,c.env.cells.lookup x≠some I:=fun x q=>hnz (c.zc x I q)
 have ex0:∃o,h₂.get? I=some o:=by obtain⟨o,_,e,_⟩:=hfld 0 h₂ h0';exact⟨o,e⟩
 have r0:Rep w h0 (c.addZ I) l H {s with heap:=h₂,toks:=tk}:=r.addZ hkp hn ex0
 refine codeAny_forLoop_any (FInv w h0 n c k bb I fp P St' xs Q) (fun m s₁ hi=>?_) (xs.length-0) ⟨0,l,H,Nat.zero_le _,rfl,r0,h0',fun b hb=>?_,fun j v y hp hy=>rv_addZ hn hkp (hP j v y hp hy),by simpa using h⟩
 ·refine bc fun ng=>?_
  obtain⟨i,l₁,H₁,hle,rfl,r₁,hS,hf,hv,hq⟩:=hi
  refine ng ?_;clear ng
  by_cases hlt:i< xs.length
  ·refine bc fun ng=>?_
   obtain⟨y,hy⟩:∃y,xs[i]? =some y:=⟨_,List.getElem?_eq_getElem hlt⟩
   refine ng ?_;clear ng
   refine W.item i s₁ _ _ hlt hS fun v h' tk' hp hS' hkk=>?_
   have kk:∀b o,b≠I→s₁.heap.get? b=some o→h'.get? b=some o:=fun b o hb e=>hkk b o (by simpa using hb) e
   have exI:∃o,h'.get? I=some o:=by obtain⟨o,_,e,_⟩:=hfld _ _ hS';exact⟨o,e⟩
   have r₂:=r₁.moved (k:=tk') hl hcl kk exI
   have ag:Agr (Pu H₁ (c.addZ I).Z) s₁.heap h':=fun b o hb e=>kk b o (fun q=>hb.2 (.inr q)) e
   have rvv:RV h' (Pu H₁ (c.addZ I).Z) v y:=(hv i v y hp hy).mono ag fun b hb _=>hb
   have hdrop:xs.drop i=y::xs.drop (i+1):=by
    rw[List.drop_eq_getElem_cons hlt];congr 1
    exact sj ((List.getElem?_eq_getElem hlt).symm.trans hy)
   rw[hdrop] at hq
   have hq:vcSs w h0 n (fun _ _=>False) bb (setL l₁ k y) H₁ (turnK (fun l₁ H₁=>forV (fun l' H' K=>vcSs w h0 n (fun _ _=>False) bb l' H' K) (.nm k) (xs.drop (i+1)) l₁ H₁ Q) Q):=hq
   show wpAny _ _ (pure ()) _ _ _
   refine wpAny_pure (wpAny_assign_Name (store_J' (c:=c.addZ I) hx hk r₂ rvv fun s₃ r₃ hst=>?_))
   have hst:∀b,b≠c.env.locals→(∀y,c.env.cells.lookup y≠some b)→s₃.heap.get? b=h'.get? b:=hst
   have pl:∀b,Pu H₁ (c.addZ I).Z b→s₃.heap.get? b=h'.get? b:=fun b hb=>hst b (fun q=>hb.2 (.inl (q▸c.zl))) fun y q=>hb.2 (.inl (c.zc y b q))
   have hS₃:St' (i+1) s₃.heap:=W.frame _ _ _ hS' fun b hb o e=>by
    rcases hf b hb with rfl|⟨q,_⟩
    ·exact(hst b hl hcl).trans e
    ·exact(pl b q).trans e
   have r₄:=r₃.snap
   have ac':Act ((c.addZ I).snap s₃.heap H₁) A (n+1):=(ac.addZ hcI).snap r₃
   refine wpAny_mono (hb ((c.addZ I).snap s₃.heap H₁) rfl rfl ac' _ _ H₁ _ hq s₃ _ r₄ HS.none) (fun f s₅ ⟨f',l₅,H₅,hff,r₅,q⟩=>?_) fun _ _ e=>e
   have r₆:=r₃.unsnap r₅
   have hS₅:St' (i+1) s₅.heap:=W.frame _ _ _ hS₃ fun b hb o e=>by
    rcases hf b hb with rfl|⟨q,_⟩
    ·refine bc fun ng=>?_
     refine xe2 (hfld _ _ hS₃) ?_
     intro oI vs qz97
     refine xa2 qz97 ?_
     clear qz97
     rintro e1 e2
     refine ng ?_;clear ng
     obtain rfl:oI=o:=sj (e1.symm.trans e)
     refine bc fun ng=>?_
     obtain⟨sl,e3,f3⟩:=r₅.snap_keepZ e (.inr rfl) (fun q=>r₃.hr.notZ b q (.inr rfl)) hl hcl
     refine ng ?_;clear ng
     rw[e3,f3 (.inl ⟨vs,e2⟩)]
    ·exact r₅.snap_keep e q.1 q.2
   have hf₅:∀b∈fp,b=I∨(Pu H₅ (c.addZ I).Z b∧∃o,s₅.heap.get? b=some o):=fun b hb=>by
    rcases hf b hb with q|⟨q,o,e⟩
    ·exact .inl q
    ·have e3:s₃.heap.get? b=some o:=(pl b q).trans (kk b o (fun z=>q.2 (.inr z)) e)
     refine .inr ⟨⟨fun z=>?_,q.2⟩,o,r₅.snap_keep e3 q.1 q.2⟩
     rcases r₃.snap_new r₅ z with z|z
     ·exact q.1 z
     ·rw[e3] at z;exact nope2 z
   have hv₅:∀(j:Nat) (v:Value) (y:V),P j v→xs[j]? =some y→RV s₅.heap (Pu H₅ (c.addZ I).Z) v y:=fun j v y hp hy=>
    r₃.snap_rv r₅ (((hv j v y hp hy).mono ag fun b hb _=>hb).mono (fun b o hb e=>(pl b hb).trans e) fun b hb _=>hb)
   have go:∀l₅ H₅,Rep w h0 (c.addZ I) l₅ H₅ s₅→(∀b∈fp,b=I∨(Pu H₅ (c.addZ I).Z b∧∃o,s₅.heap.get? b=some o))→(∀(j:Nat) (v:Value) (y:V),P j v→xs[j]? =some y→RV s₅.heap (Pu H₅ (c.addZ I).Z) v y)→
     forV (fun l' H' K=>vcSs w h0 n (fun _ _=>False) bb l' H' K) (.nm k) (xs.drop (i+1)) l₅ H₅ Q→∃m',m'< xs.length-i∧FInv w h0 n c k bb I fp P St' xs Q m' s₅:=fun l₅ H₅ a b d q=>⟨xs.length-(i+1),by exact li3 4 [] [_,_,_,_] (.sb U1 (.a U0 O1) U2) (.sb U1 U0 U3) (.nlt U0 U1) (.nlt U2 U3) rfl (ns (xs.length) (i+1)) (ns (xs.length) (i)) hlt,i+1,l₅,H₅,hlt,rfl,a,hS₅,b,d,q⟩
   cases f'<;>cases f<;>try exact hff.elim
   ·exact go l₅ H₅ r₆ hf₅ hv₅ q
   ·exact⟨.next,l₅,H₅,trivial,r₆.dropZ hcI,q⟩
   ·exact go l₅ H₅ r₆ hf₅ hv₅ q
   ·exact⟨.ret _,l₅,H₅,rv_dropZ hff,r₆.dropZ hcI,q⟩
  ·have hieq:i=xs.length:=li2 2 [] [_,_] (.nle U0 U1) (.no (.nlt U0 U1)) (.neq U0 U1) rfl hle hlt
   subst hieq
   refine W.done s₁ _ _ hS fun h' tk' hkk=>?_
   rw[List.drop_length] at hq
   exact wpAny_execs_nil ⟨.next,l₁,H₁,trivial,r₁.finish hcI hl hcl hnz fun b o hb e=>hkk b o (by simpa using hb) e,hq⟩
 ·rcases hfp b hb with q|⟨q,o,e⟩
  ·exact .inl q
  ·refine .inr ⟨⟨q.1,fun z=>?_⟩,o,hkp _ _ e⟩
   rcases z with z|rfl
   ·exact q.2 z
   ·rw[hn] at e;exact nope1 e
end
section
variable{X:Loc→Hp→Prop}
variable{a b d e:E}{pos:Pos}
theorem fresh_none(r:Rep w h0 c l H s):s.heap.get? s.heap.objs.size=none:=r.hr.fresh_at.2
theorem for_seq(hA:A.handled=none)(ac:Act c A (n+1))(hx:c.vars[k]? =some x)(hk:StoreOk c x)(hb:∀c',c'.env=c.env→c'.vars=c.vars→Act c' A (n+1)→SoSs w h0 n c' A bb pbb)
  (ha:SoA w h0 n c A a pa) (hs:∀v,foldedSetIterable pa c.env v=pure v):SoS w h0 n c A (.for_ (.nm k) false a .none bb) (.For (.Name x p') pa pbb [] pos):=fun X l H Q h s E' r hE=>
 wpAny_For (J.run (ha _ _ H _ h) r (hE.at l) fun v y H₁ s₁ p r₁ rv st=>by
  replace p:iterP false y .none fun xs=>xs.length≤100000∧forV (fun l' H' K=>vcSs w h0 n (fun _ _=>False) bb l' H' K) (.nm k) xs l H₁ Q:=p
  replace p:=iter_f p
  refine bc fun ng=>?_
  refine xe1 (p) ?_
  try clear p
  intro xs qz98
  refine xa2 qz98 ?_
  clear qz98
  rintro p hy
  refine xa2 (p) ?_
  try clear p
  rintro hlen p
  refine ng ?_;clear ng
  rcases hy with rfl|rfl
  ·refine bc fun ng=>?_
   refine xe2 (RV.tup_iff.mp rv) ?_
   intro t vs qz99
   refine xa4 qz99 ?_
   clear qz99
   rintro rfl hp ht rvs
   refine ng ?_;clear ng
   have hlt:t≠s₁.heap.objs.size:=by obtain⟨o,ho,_⟩:=ht;exact Nat.ne_of_lt (Heap.lt_size ho)
   refine wpAny_pyIter_tuple ht ?_
   have W:=Walks.tuple (prog:=pw) (w:=w) (A:=A) hA s₁.heap.objs.size t hlt vs.toArray
   have esz:vs.toArray.size=xs.length:=by simp[rvs.1]
   rw[esz] at W
   refine for_walk ac hx hk hb r₁ (fresh_none r₁) (fun b o e=>Heap.get?_push_of_some _ e) W (fun i h hS=>?_) ⟨⟨_,Heap.get?_push_size _ rfl,rfl,rfl⟩,ht.push _⟩ (fun b hb=>?_) (fun j v y hv hy=>?_) p
   ·obtain⟨⟨o,ho,_,hd⟩,_⟩:=hS;exact⟨o,_,ho,hd⟩
   ·simp only[List.mem_cons,List.not_mem_nil,or_false] at hb
    rcases hb with hb|rfl
    ·exact .inl hb
    ·exact .inr ⟨hp,by obtain⟨o,ho,_⟩:=ht;exact⟨o,ho⟩⟩
   ·exact rvs.2 j v y (by simpa using hv) hy
  ·refine bc fun ng=>?_
   refine xe2 (RV.lst_iff.mp rv) ?_
   intro t vs qz100
   refine xa4 qz100 ?_
   clear qz100
   rintro rfl hp ht rvs
   refine ng ?_;clear ng
   have hlt:t≠s₁.heap.objs.size:=by obtain⟨o,ho⟩:=ht;exact Nat.ne_of_lt (Heap.lt_size ho)
   refine wpAny_pyIter_list ht.isList ?_
   have W:=Walks.list (prog:=pw) (w:=w) (A:=A) hA s₁.heap.objs.size t hlt vs.toArray
   have esz:vs.toArray.size=xs.length:=by simp[rvs.1]
   rw[esz] at W
   refine for_walk ac hx hk hb r₁ (fresh_none r₁) (fun b o e=>Heap.get?_push_of_some _ e) W (fun i h hS=>?_) ⟨⟨_,Heap.get?_push_size _ rfl,rfl,rfl⟩,ht.isList.push _⟩ (fun b hb=>?_) (fun j v y hv hy=>?_) p
   ·obtain⟨⟨o,ho,_,hd⟩,_⟩:=hS;exact⟨o,_,ho,hd⟩
   ·simp only[List.mem_cons,List.not_mem_nil,or_false] at hb
    rcases hb with hb|rfl
    ·exact .inl hb
    ·exact .inr ⟨hp,by obtain⟨o,ho⟩:=ht;exact⟨_,ho⟩⟩
   ·exact rvs.2 j v y (by simpa using hv) hy) hs
theorem rangeSize_one{x y:Int}:Builtin.Range.rangeSize x y 1=((y-x).toNat:Int):=by
 delta Builtin.Range.rangeSize
 rw[if_pos (by decide)]
 split
 ·rw[Int.ediv_one];exact a_tn (by assumption)/-(first|lia|omega)-/
 ·exact a_t0 (by assumption)/-(first|lia|omega)-/
theorem small_ints{x y:Int}(hx:-100000≤x)(hx2:x≤100000)(hy:-100000≤y)(hy2:y≤100000):Builtin.Range.small x y 1=true:=by
 delta Builtin.Range.small
 rw[rangeSize_one]
 simp only[Builtin.Range.rangeFitsLong,show(1:Int)>0 from by decide,if_true,Bool.and_eq_true,Bool.or_eq_true,decide_eq_true_eq,beq_iff_eq]
 (exact li5 2 [_,_] [_] (.tn (.s J0 J1) U0) (.le (.c (-100000)) J1) (.le J1 (.c 100000)) (.le (.c (-100000)) J0) (.le J0 (.c 100000)) (.and (.and (.and (.and (.and (.le (.c (-9223372036854775808)) J1) (.lt J1 (.c (2^63)))) (.and (.le (.c (-9223372036854775808)) J0) (.lt J0 (.c (2^63))))) (.and (.le (.c (-9223372036854775808)) I1) (.lt I1 (.c (2^63))))) (.and (.le (.c (-9223372036854775808)) (.n U0)) (.lt (.n U0) (.c (2^63))))) (.or (.eq (.n U0) I0) (.and (.le (.c (-9223372036854775808)) (.a J0 (.s I1 I1))) (.lt (.a J0 (.s I1 I1)) (.c (2^63)))))) rfl (tn (y-x)) hx hx2 hy hy2)
theorem for_range_go{t u v:Tok}{Q:Fl→Loc→Hp→Prop}(hA:A.handled=none)(ac:Act c A (n+1))(hx:c.vars[k]? =some x)(hk:StoreOk c x)(hb:∀c',c'.env=c.env→c'.vars=c.vars→Act c' A (n+1)→SoSs w h0 n c' A bb pbb)
  (r:Rep w h0 c l H s) (hr:IsRange s.heap rg lo hi 1 t u v) (b1:-100000≤lo∧lo≤100000∧-100000≤hi∧hi≤100000) (h:forV (fun l' H' K=>vcSs w h0 n (fun _ _=>False) bb l' H' K) (.nm k) (rangeV lo hi) l H Q):
  wpAny (MM w) A (pyIter (.ref rg)) (fun it s₂=>codeAny (MM w) A (.forLoop (.Name x p') it pbb [] c.env) (fun r s'=>match r with|.ok f=>EnS w h0 c Q f s'|.error e=>cameBackBy (MM w) A c.env E' e s') s₂) E' s:=by
 refine wpAny_pyIter_range hr (small_ints b1.1 b1.2.1 b1.2.2.1 b1.2.2.2) ?_
 have hlen:(rangeV lo hi).length=(hi-lo).toNat:=by simp[rangeV]
 have W:=Walks.range (prog:=pw) (w:=w) (A:=A) hA s.heap.objs.size lo 1 (hi-lo).toNat
 rw[←hlen] at W
 refine for_walk ac hx hk hb r (fresh_none r) (fun b o e=>Heap.get?_push_of_some _ e) W (fun i h hS=>⟨_,_,hS,rfl⟩) ?_ (fun b hb=>.inl (by simpa using hb)) (fun j v y hv hy=>?_) h
 ·show IsRangeIter _ _ _ _ _
  rw[rangeSize_one,hlen]
  simpa using Heap.get?_push_size _ rfl
 ·refine bc fun ng=>?_
  refine xe1 (hv) ?_
  try clear hv
  rintro t rfl
  refine ng ?_
  have hy:(rangeV lo hi)[j]? =some y:=hy
  delta rangeV at hy
  rw[List.getElem?_map,Option.map_eq_some_iff] at hy
  refine bc fun ng=>?_
  refine xe1 (hy) ?_
  try clear hy
  intro i qz101
  refine xa2 qz101 ?_
  clear qz101
  rintro h1 rfl
  refine ng ?_
  have:i=j:=by
   refine bc fun ng=>?_
   refine xe1 (List.getElem?_eq_some_iff.mp h1) ?_
   rintro h2 h3
   refine ng ?_
   simpa using h3.symm
  subst this
  rw[show lo+(i:Int)*1=lo+(i:Int) by rw[Int.mul_one]/-(first|lia|omega)-/];exact .int _ _
theorem sos_range2{y:Str}(G:Top' K h0)(hA:A.handled=none)(B:Blt K c y (.type "range"))(ac:Act c A (n+1))(hx:c.vars[k]? =some x)(hk:StoreOk c x)(hb:∀c',c'.env=c.env→c'.vars=c.vars→Act c' A (n+1)→SoSs w h0 n c' A bb pbb)
  (hs:noStar [pa,pb]=true) (ha:SoA w h0 n c A a pa) (hb2:SoA w h0 n c A b pb):SoS w h0 n c A (.for_ (.nm k) true a b bb) (.For (.Name x p') (.Call (.Name y py) [pa,pb] [] p3) pbb [] pos):=fun X l H Q h s E' r hE=>
 wpAny_For (blt_t G B hs r (args_cons (J.run (ha _ _ H _ h) r (hE.at l) fun v y1 H₁ s₁ p r₁ rv st=>args_cons (J.run (hb2 _ _ H₁ _ p) r₁ (hE.at l) fun u y2 H₂ s₂ p₂ r₂ ru st₂=>args_nil (by
  have rv:=st₂.rv rv
  replace p₂:=iter_t p₂
  refine bc fun ng=>?_
  refine xe2 (p₂) ?_
  try clear p₂
  intro lo hi qz102
  refine xa5 qz102 ?_
  clear qz102
  rintro rfl rfl b1 hlen p₂
  refine xe1 (rv.int_iff) ?_
  rintro t1 rfl
  refine xe1 (ru.int_iff) ?_
  rintro t2 rfl
  refine ng ?_
  refine call_range_2 ?_
  have st3:St w h0 c.Z H₂ H₂ s₂ {s₂ with heap:=s₂.heap.push {cls:=.type "range",data:=.fields #[.int lo t1,.int hi t2,.int 1 s₂.toks]},toks:=s₂.toks+1}:=St.push r₂.hr _ _
  exact for_range_go (s:={s₂ with heap:=s₂.heap.push {cls:=.type "range",data:=.fields #[.int lo t1,.int hi t2,.int 1 s₂.toks]},toks:=s₂.toks+1}) hA ac hx hk hb (r₂.after st3) (IsRange.new ..) b1 p₂)) (notStar_cons (noStar_tail hs))) (notStar_cons hs))) (fun _=>rfl)
theorem sos_range1{y:Str}(G:Top' K h0)(hA:A.handled=none)(B:Blt K c y (.type "range"))(ac:Act c A (n+1))(hx:c.vars[k]? =some x)(hk:StoreOk c x)(hb:∀c',c'.env=c.env→c'.vars=c.vars→Act c' A (n+1)→SoSs w h0 n c' A bb pbb)
  (hs:noStar [pb]=true) (hb2:SoA w h0 n c A b pb):SoS w h0 n c A (.for_ (.nm k) true (.int 0) b bb) (.For (.Name x p') (.Call (.Name y py) [pb] [] p3) pbb [] pos):=fun X l H Q h s E' r hE=>
 wpAny_For (blt_t G B hs r (args_cons (J.run (hb2 _ _ H _ h) r (hE.at l) fun u y2 H₂ s₂ p₂ r₂ ru st₂=>args_nil (by
  replace p₂:=iter_0 p₂
  refine bc fun ng=>?_
  refine xe1 (p₂) ?_
  try clear p₂
  intro hi qz103
  refine xa4 qz103 ?_
  clear qz103
  rintro rfl b1 hlen p₂
  refine xe1 (ru.int_iff) ?_
  rintro t2 rfl
  refine ng ?_
  refine call_range_1 ?_
  have st3:St w h0 c.Z H₂ H₂ s₂ {s₂ with heap:=s₂.heap.push {cls:=.type "range",data:=.fields #[.int 0 s₂.toks,.int hi t2,.int 1 (s₂.toks+1)]},toks:=s₂.toks+1+1}:=St.push r₂.hr _ _
  exact for_range_go (s:={s₂ with heap:=s₂.heap.push {cls:=.type "range",data:=.fields #[.int 0 s₂.toks,.int hi t2,.int 1 (s₂.toks+1)]},toks:=s₂.toks+1+1}) hA ac hx hk hb (r₂.after st3) (IsRange.new ..) b1 p₂)) (notStar_cons hs))) (fun _=>rfl)
end
section
variable{X:Loc→Hp→Prop}
variable{a b d e:E}{pos:Pos}
section
variable(w:World)(h0:Heap)(n:Nat)
noncomputable def SoTg(c:Cx)(A:Around)(t:T)(pt:Expr):Prop:=∀X l H u Q v s E',vcT w h0 n (X l) t u l H Q→Rep w h0 c l H s→RV s.heap (Pu H c.Z) v u→HS w h0 c A X E'→
 wpAny (MM w) A (assign pt c.env v) (fun _ s'=>∃l' H',Rep w h0 c l' H' s'∧(∀v x,RV s.heap (Pu H c.Z) v x→RV s'.heap (Pu H' c.Z) v x)∧Q l' H') E' s
noncomputable def SoTgs(c:Cx)(A:Around)(ts:List T)(pts:List (Value→Sem Unit)):Prop:=∀X l H us Q vs s E',vcTs w h0 n X ts us l H Q→Rep w h0 c l H s→RVs s.heap (Pu H c.Z) vs us→HS w h0 c A X E'→
 wpAny (MM w) A (assignInOrder pts vs) (fun _ s'=>∃l' H',Rep w h0 c l' H' s'∧Q l' H') E' s
end
theorem store_mono{x:V}(hst:∀b,b≠c.env.locals→(∀y,c.env.cells.lookup y≠some b)→s'.heap.get? b=s.heap.get? b)(r:RV s.heap (Pu H c.Z) v x):RV s'.heap (Pu H c.Z) v x:=
 r.mono (fun b o hb e=>(hst b (fun q=>hb.2 (q▸c.zl)) fun y q=>hb.2 (c.zc y b q)).trans e) fun b hb _=>hb
theorem tg_bind{Q:Loc→Hp→Prop}(hx:c.vars[k]? =some x)(hk:StoreOk c x)(h:Q (setL l k u) H)(r:Rep w h0 c l H s)(rv:RV s.heap (Pu H c.Z) v u):
  wpAny (MM w) A (bindName c.env x v) (fun _ s'=>∃l' H',Rep w h0 c l' H' s'∧(∀v x,RV s.heap (Pu H c.Z) v x→RV s'.heap (Pu H' c.Z) v x)∧Q l' H') E' s:=
 wpAny_bindName (store_J' hx hk r rv fun s' r' hst=>⟨_,H,r',fun v x rv=>store_mono hst rv,h⟩)
theorem tg_nm(hx:c.vars[k]? =some x)(hk:StoreOk c x):SoTg w h0 n c A (.nm k) (.Name x p):=fun X l H u Q v s E' h r rv hE=>by
 rw[arm_assign_Name]
 exact wpAny_bind (wpAny_standAt (tg_bind hx hk h r rv))
theorem tg_at(G:Top' K h0)(hk:k< 87)(ha:SoA w h0 n c A a pa):SoTg w h0 n c A (.at a k) (.Attribute pa (fname k) p):=fun X l H u Q v s E' h r rv hE=>by
 rw[arm_assign_Attribute]
 refine wpAny_bind (wpAny_holding (J.run (ha _ _ H _ h) r (hE.at l) fun o x H₁ s₁ p r₁ ro st=>wpAny_bind (wpAny_standAt ?_)))
 refine wpAny_bind (wpAny_holding (wpAny_mono (putF_J G.X G.OK r₁.hr ro (st.rv rv) hk p) (fun _ s' ⟨H',st',q⟩=>?_) fun _ _ e=>e))
 exact wpAny_release' ⟨l,H',r₁.after st',fun v x rv=>st'.rv (st.rv rv),q⟩
theorem tg_it(ha:SoA w h0 n c A a pa)(hb:SoA w h0 n c A b pb):SoTg w h0 n c A (.it a b) (.Subscript pa pb p):=fun X l H u Q v s E' h r rv hE=>by
 rw[arm_assign_Subscript]
 refine wpAny_bind (wpAny_holding (J.run (ha _ _ H _ h) r (hE.at l) fun o x H₁ s₁ p r₁ ro st=>wpAny_bind (wpAny_holding (J.run (hb _ _ H₁ _ p) r₁ (hE.at l) fun j i H₂ s₂ p₂ r₂ rj st₂=>wpAny_bind (wpAny_standAt ?_)))))
 refine wpAny_bind (wpAny_holding (wpAny_mono (putI_J r₂.hr (st₂.rv ro) rj (st₂.rv (st.rv rv)) p₂) (fun _ s' ⟨H',st',q⟩=>?_) fun _ _ e=>e))
 exact wpAny_release' ⟨l,H',r₂.after st',fun v x rv=>st'.rv (st₂.rv (st.rv rv)),q⟩
theorem tg_itK(ha:SoA w h0 n c A a pa):SoTg w h0 n c A (.itK a k) (.Subscript pa (.Constant (.str (fname k)) kk p') p):=fun X l H u Q v s E' h r rv hE=>by
 rw[arm_assign_Subscript]
 refine wpAny_bind (wpAny_holding (J.run (ha _ _ H _ h) r (hE.at l) fun o x H₁ s₁ p r₁ ro st=>wpAny_bind (wpAny_holding (Constant_str (wpAny_bind (wpAny_standAt ?_))))))
 have st0:St w h0 c.Z H₁ H₁ s₁ {s₁ with toks:=s₁.toks+1}:=St.toks r₁.hr _
 refine wpAny_bind (wpAny_holding (wpAny_mono (putK_J (s:={s₁ with toks:=s₁.toks+1}) st0.hr (st0.rv ro) (st0.rv (st.rv rv)) p) (fun _ s' ⟨H',st',q⟩=>?_) fun _ _ e=>e))
 exact wpAny_release' ⟨l,H',(r₁.after st0).after st',fun v x rv=>st'.rv (st0.rv (st.rv rv)),q⟩
theorem tgs_nil:SoTgs w h0 n c A [] []:=fun X l H us Q vs s E' h r rv hE=>by
 cases us with
 |nil=>exact wpAny_pure ⟨l,H,r,h⟩
 |cons _ _=>exact h.elim
theorem tgs_cons{t:T}{ts:List T}(ha:SoTg w h0 n c A t pt)(hb:SoTgs w h0 n c A ts pts):SoTgs w h0 n c A (t::ts) (assign pt c.env::pts):=fun X l H us Q vs s E' h r rv hE=>by
 cases us with
 |nil=>exact h.elim
 |cons u us=>
  refine bc fun ng=>?_
  refine xe2 (rv.uncons) ?_
  intro v vs' qz104
  refine xa3 qz104 ?_
  clear qz104
  rintro rfl rv1 rv2
  refine ng ?_
  show wpAny _ _ (holding vs' (assign pt c.env v)>>=fun _=>assignInOrder pts vs') _ _ _
  refine wpAny_bind (wpAny_holding (wpAny_mono (ha X l H u _ v s E' h r rv1 hE) (fun _ s' ⟨l',H',r',mo,q⟩=>?_) fun _ _ e=>e))
  exact hb X l' H' us Q vs' s' E' q r' ⟨rv2.1,fun i v x h1 h2=>mo _ _ (rv2.2 i v x h1 h2)⟩ hE
theorem tgs_bind{ts:List T}(hx:c.vars[k]? =some x)(hk:StoreOk c x)(hb:SoTgs w h0 n c A ts pts):SoTgs w h0 n c A (.nm k::ts) ((fun v=>bindName c.env x v)::pts):=fun X l H us Q vs s E' h r rv hE=>by
 cases us with
 |nil=>exact h.elim
 |cons u us=>
  refine bc fun ng=>?_
  refine xe2 (rv.uncons) ?_
  intro v vs' qz105
  refine xa3 qz105 ?_
  clear qz105
  rintro rfl rv1 rv2
  refine ng ?_
  show wpAny _ _ (holding vs' (bindName c.env x v)>>=fun _=>assignInOrder pts vs') _ _ _
  refine wpAny_bind (wpAny_holding (wpAny_mono (tg_bind (Q:=fun l' H'=>vcTs w h0 n X ts us l' H' Q) hx hk h r rv1) (fun _ s' ⟨l',H',r',mo,q⟩=>?_) fun _ _ e=>e))
  exact hb X l' H' us Q vs' s' E' q r' ⟨rv2.1,fun i v x h1 h2=>mo _ _ (rv2.2 i v x h1 h2)⟩ hE
theorem ext_keep(hn:h.get? h.objs.size=none)(he:Heap.ExtBut h.objs.size h h'):∀b o,h.get? b=some o→h'.get? b=some o:=fun b o e=>he b o (fun q=>by rw[q,hn] at e;exact nope1 e) e
theorem sos_setT{ts:List T}(hA:A.handled=none)(ha:SoA w h0 n c A a pa)(ht:SoTgs w h0 n c A ts ((assignEach elts c.env).map (·.2)))(hlen:ts.length=elts.length)(hel:(assignEach elts c.env).length=elts.length)(hstar:(assignEach elts c.env).findIdx? (·.1)=none)
  (hs:swapsWithSole [.Tuple elts k tp] pa pos.line c.env=pure false) (hw:swappedStores [.Tuple elts k tp] pa c.env=pure none):SoS w h0 n c A (.setT ts a) (.Assign [.Tuple elts k tp] pa pos):=fun X l H Q h s E' r hE=>
 Assign_Tuple (J.run (ha _ _ H _ h) r (hE.at l) fun v y H₁ s₁ p r₁ rv st=>by
  replace p:=TupP.ex p
  refine bc fun ng=>?_
  refine xe1 (p) ?_
  try clear p
  intro us qz106
  refine xa3 qz106 ?_
  clear qz106
  rintro rfl hl p
  refine xe2 (RV.tup_iff.mp rv) ?_
  intro t vs qz107
  refine xa4 qz107 ?_
  clear qz107
  rintro rfl hp hT rvs
  refine ng ?_
  refine wpAny_assign_Tuple hA hT (by rw[hel,←hlen,List.size_toArray,rvs.1];exact hl.symm) hstar fun h' he=>?_
  have st2:St w h0 c.Z H₁ H₁ s₁ {s₁ with heap:=h'}:=St.grow r₁.hr (ext_keep (fresh_none r₁) he) rfl rfl
  refine wpAny_mono (ht X l H₁ us _ vs _ E' p (r₁.after st2) (st2.rvs rvs) hE) (fun _ s' ⟨l',H',r',q⟩=>⟨.next,l',H',trivial,r',q⟩) fun _ _ e=>e) hs hw
theorem sos_setR{names:List Str}(hA:A.handled=none)(ha:SoA w h0 n c A a pa)(ht:SoTgs w h0 n c A (ks.reverse.map T.nm) (names.reverse.map fun x=>bindName c.env x))(hlen:ks.length=names.length)
  (hs:swapsWithSole [.Tuple elts k tp] pa pos.line c.env=pure false) (hw:swappedStores [.Tuple elts k tp] pa c.env=pure (some names)):SoS w h0 n c A (.setR ks a) (.Assign [.Tuple elts k tp] pa pos):=fun X l H Q h s E' r hE=>
 Assign_Tuple_swapped (J.run (ha _ _ H _ h) r (hE.at l) fun v y H₁ s₁ p r₁ rv st=>by
  replace p:=TupP.ex p
  refine bc fun ng=>?_
  refine xe1 (p) ?_
  try clear p
  intro us qz108
  refine xa3 qz108 ?_
  clear qz108
  rintro rfl hl p
  refine xe2 (RV.tup_iff.mp rv) ?_
  intro t vs qz109
  refine xa4 qz109 ?_
  clear qz109
  rintro rfl hp hT rvs
  refine ng ?_
  have hsz:names.length=vs.toArray.size:=by rw[List.size_toArray,rvs.1,hl,hlen]
  rw[hsz]
  refine wpAny_unpackItems_tuple hA hT fun h' he=>?_
  have st2:St w h0 c.Z H₁ H₁ s₁ {s₁ with heap:=h'}:=St.grow r₁.hr (ext_keep (fresh_none r₁) he) rfl rfl
  have rr:RVs h' (Pu H₁ c.Z) vs.reverse us.reverse:=by
   have rvs':=st2.rvs rvs
   refine⟨by simp[rvs.1],fun i v x h1 h2=>?_⟩
   have hi:i< vs.length:=by have:=(List.getElem?_eq_some_iff.mp h1).1;simpa using this
   rw[List.getElem?_reverse hi] at h1
   rw[List.getElem?_reverse (by rw[←rvs.1];exact hi),←rvs.1] at h2
   exact rvs'.2 _ v x h1 h2
  refine wpAny_mono (ht X l H₁ us.reverse _ vs.reverse _ E' p (r₁.after st2) rr hE) (fun _ s' ⟨l',H',r',q⟩=>⟨.next,l',H',trivial,r',q⟩) fun _ _ e=>e) hs hw
end
noncomputable def slotsV{α:Type}(ps:List Str)(vs dflt:List α):List (Str×α):=
 ((ps.drop (ps.length-(dflt.drop (dflt.length-ps.length)).length)).zip (dflt.drop (dflt.length-ps.length))).foldl (fun sl p=>if(sl.lookup p.1).isNone then sl++[p] else sl) (ps.zip vs)
noncomputable def bindV{α:Type}(ps:List Str)(vs dflt:List α):List (Str×α):=ps.filterMap fun n=>((slotsV ps vs dflt).lookup n).map (n,·)
theorem wif{α:Type}{c:Bool}{a b:Sem α}{Q:α→Shared→Prop}{E:Value→Shared→Prop}(h:c=false)(k:wpAny M A b Q E s):wpAny M A (if c=true then a else b) Q E s:=by
 rw[h];exact k
theorem wslots{α:Type}{Q:α→Shared→Prop}{E:Value→Shared→Prop}(L:List (Str×Value)):∀(sl:List (Str×Value)) (k:List (Str×Value)→Sem α),wpAny M A (k (L.foldl (fun sl p=>if(sl.lookup p.1).isNone then sl++[p] else sl) sl)) Q E s→
   wpAny M A ((forIn L sl fun x r=>if(List.lookup x.1 r).isNone=true then pure (ForInStep.yield (r++[(x.1,x.2)])) else pure (ForInStep.yield r))>>=k) Q E s:=by
 induction L with
 |nil=>intro sl k h;rw[List.forIn_nil,pure_bind];exact h
 |cons x L ih=>
  intro sl k h
  rw[List.forIn_cons]
  by_cases q:(List.lookup x.1 sl).isNone=true
  ·rw[if_pos q,pure_bind]
   refine ih _ k ?_
   rw[List.foldl_cons,if_pos q] at h;exact h
  ·rw[if_neg q,pure_bind]
   refine ih _ k ?_
   rw[List.foldl_cons,if_neg q] at h;exact h
theorem few{a b:Nat}(h:a≤b)(c:Bool):(decide (a>b)&&c)=false:=by rw[decide_eq_false (Nat.not_lt.mpr h)];rfl
theorem binds_simple{dflt:List Value}(h1:fd.params.posonlyargs=[])(h2:fd.params.kwonlyargs=[])(h3:fd.params.vararg=none)(h4:fd.params.kwarg=none)(h5:fd.params.args.map (·.arg)=ps)
  (hl:vs.length≤ps.length) (hd:∃o:Option (Array Value),(o.getD #[]).toList=dflt∧∀(M:Model) (A:Around) (E:Value→Shared→Prop) (Q:Option (Array Value)→Shared→Prop),Q o s→wpAny M A (seqItems? fd.defaults) Q E s)
  (hm:((ps.take (ps.length-(dflt.drop (dflt.length-ps.length)).length)).filter fun n=>((ps.zip vs).lookup n).isNone).isEmpty=true):BindsTo s fd ⟨vs,[]⟩ (bindV ps vs dflt):=by
 refine bc fun ng=>?_
 obtain⟨nm,qn,⟨po,as,va,ko,kds,ka,df⟩,bd,sc,gl,cl,dfs,kd,dc,pm,an,co,ct,x15⟩:=fd
 refine ng ?_;clear ng
 dsimp only at h1 h2 h3 h4 h5 hd
 subst h1 h2 h3 h4 h5
 intro M A E Q h
 refine bc fun ng=>?_
 refine xe1 (hd) ?_
 try clear hd
 intro o qz110
 refine xa2 qz110 ?_
 clear qz110
 rintro rfl hd
 refine ng ?_
 refine wpAny_bind (wpAny_pure ?_)
 refine wpAny_bind (hd _ _ _ _ ?_)
 refine wif (few hl _) ?_/-(exact li1 2 [] [_,_] (.nle U0 U1) (.nle U0 U1) rfl hl)-/
 refine wif (congrArg Bool.not hm) ?_
 refine wslots _ _ _ ?_
 exact wpAny_bind (wpAny_pure (wpAny_pure (show Q ((List.map (fun a:Arg=>a.arg) as++[]).filterMap fun n=>((slotsV (List.map (fun a:Arg=>a.arg) as) vs (o.getD #[]).toList).lookup n).map (n,·)) s by rw[List.append_nil];exact h)))
inductive F2 {α β:Type} (R:α→β→Prop):List (Str×α)→List (Str×β)→Prop
 |nil:F2 R [] []
 |cons {x:Str} {a:α} {b:β} {l:List (Str×α)} {m:List (Str×β)}:R a b→F2 R l m→F2 R ((x,a)::l) ((x,b)::m)
section
variable{α β:Type}{R:α→β→Prop}
theorem F2.lookup{l:List (Str×α)}{m:List (Str×β)}(h:F2 R l m):(l.lookup x=none∧m.lookup x=none)∨∃a b,l.lookup x=some a∧m.lookup x=some b∧R a b:=by
 induction h with
 |nil=>exact .inl ⟨rfl,rfl⟩
 |@cons y a b l m h r ih=>
  rw[List.lookup_cons,List.lookup_cons]
  cases x==y with
  |true=>exact .inr ⟨a,b,rfl,rfl,h⟩
  |false=>exact ih
theorem F2.snoc{a:α}{b:β}(h:R a b){l:List (Str×α)}{m:List (Str×β)}(g:F2 R l m):F2 R (l++[(x,a)]) (m++[(x,b)]):=by
 induction g with
 |nil=>exact .cons h .nil
 |cons h' r ih=>exact .cons h' ih
theorem F2.zip(ps:List Str){vs:List α}{us:List β}(hl:vs.length=us.length)(h:∀(i:Nat) (v:α) (u:β),vs[i]? =some v→us[i]? =some u→R v u):F2 R (ps.zip vs) (ps.zip us):=by
 induction ps generalizing vs us with
 |nil=>exact .nil
 |cons p ps ih=>cases vs with
  |nil=>rw[List.length_eq_zero_iff.mp hl.symm];exact .nil
  |cons v vs=>cases us with
   |nil=>(exact nomatch hl)
   |cons u us=>exact .cons (h 0 v u rfl rfl) (ih (Nat.succ.inj hl) fun i v u h1 h2=>h (i+1) v u h1 h2)
theorem F2.fold{L:List (Str×α)}{M:List (Str×β)}{l:List (Str×α)}{m:List (Str×β)}(g:F2 R L M)(h:F2 R l m):F2 R (L.foldl (fun sl p=>if(sl.lookup p.1).isNone then sl++[p] else sl) l) (M.foldl (fun sl p=>if(sl.lookup p.1).isNone then sl++[p] else sl) m):=by
 induction g generalizing l m with
 |nil=>exact h
 |@cons x a b L M ha r ih=>
  refine ih ?_
  show F2 R (if(l.lookup x).isNone then l++[(x,a)] else l) (if(m.lookup x).isNone then m++[(x,b)] else m)
  rcases h.lookup (x:=x) with h1|⟨a,b,h1,h2,_⟩
  ·rw[h1.1,h1.2];exact h.snoc ha
  ·rw[h1,h2];exact h
theorem F2.pick{l:List (Str×α)}{m:List (Str×β)}(h:F2 R l m)(ps:List Str):F2 R (ps.filterMap fun n=>(l.lookup n).map (n,·)) (ps.filterMap fun n=>(m.lookup n).map (n,·)):=by
 induction ps with
 |nil=>exact .nil
 |cons p ps ih=>
  rw[List.filterMap_cons,List.filterMap_cons]
  rcases h.lookup (x:=p) with h1|⟨a,b,h1,h2,hr⟩
  ·rw[h1.1,h1.2];exact ih
  ·rw[h1,h2];exact .cons hr ih
theorem drop_rel{vs:List α}{us:List β}(hl:vs.length=us.length)(h:∀(i:Nat) (v:α) (u:β),vs[i]? =some v→us[i]? =some u→R v u)(n:Nat):(vs.drop n).length=(us.drop n).length∧∀(i:Nat) (v:α) (u:β),(vs.drop n)[i]? =some v→(us.drop n)[i]? =some u→R v u:=by
 refine⟨by simp[hl],fun i v u h1 h2=>?_⟩
 rw[List.getElem?_drop] at h1 h2
 exact h _ v u h1 h2
theorem F2.bind{vs ds:List α}{us es:List β}(hl:vs.length=us.length)(h:∀(i:Nat) (v:α) (u:β),vs[i]? =some v→us[i]? =some u→R v u)(hl2:ds.length=es.length)(h2:∀(i:Nat) (v:α) (u:β),ds[i]? =some v→es[i]? =some u→R v u):
  F2 R (bindV ps vs ds) (bindV ps us es):=by
 delta bindV
 refine F2.pick ?_ ps
 delta slotsV
 refine bc fun ng=>?_
 refine xa2 (drop_rel hl2 h2 (ds.length-ps.length)) ?_
 rintro a1 a2
 refine ng ?_
 rw[a1]
 rw[hl2] at a1 a2⊢
 exact F2.fold (F2.zip _ a1 a2) (F2.zip _ hl h)
theorem bindV_nodup{vs ds:List α}(hn:ps.Nodup):((bindV ps vs ds).map (·.1)).Nodup:=by
 delta bindV
 have:∀(qs:List Str) (f:Str→Option α),((qs.filterMap fun n=>(f n).map (n,·)).map (·.1)).Sublist qs:=by
  intro qs f
  induction qs with
  |nil=>exact List.Sublist.slnil
  |cons q qs ih=>
   rw[List.filterMap_cons]
   cases f q with
   |none=>exact ih.cons _
   |some v=>exact ih.cons₂ _
 exact(this ps _).nodup hn
end
theorem lookup_mem{α:Type}{v:α}{l:List (Str×α)}(h:l.lookup x=some v):(x,v)∈l:=by
 induction l with
 |nil=>exact nope1 h
 |cons p r ih=>
  rw[List.lookup_cons] at h
  cases q:x==p.1 with
  |true=>rw[q] at h;rw[eq_of_beq q,←sj h];exact List.mem_cons_self
  |false=>rw[q] at h;exact List.mem_cons_of_mem _ (ih h)
theorem bindL_c{kindOf:Str→Option NameKind}(p:Str×Value)(r:List (Str×Value))(m:Str→Option Value):bindL kindOf (p::r) m=bindL kindOf r (if kindOf p.1=some .local then fun y=>if y=p.1 then some p.2 else m y else m):=rfl
theorem bindC_c{kindOf:Str→Option NameKind}(p:Str×Value)(r:List (Str×Value))(m:Str→Option Value):bindC kindOf (p::r) m=bindC kindOf r (if kindOf p.1=some .local then m else fun y=>if y=p.1 then some p.2 else m y):=rfl
theorem bindL_not{kindOf:Str→Option NameKind}{l:List (Str×Value)}(h:x∉l.map (·.1)):bindL kindOf l m x=m x:=by
 induction l generalizing m with
 |nil=>rfl
 |cons p r ih=>
  rw[bindL_c,ih fun q=>h (List.mem_cons_of_mem _ q)]
  by_cases k:kindOf p.1=some .local
  ·rw[if_pos k];exact if_neg fun q=>h (by rw[q];exact List.mem_cons_self)
  ·rw[if_neg k]
theorem bindC_not{kindOf:Str→Option NameKind}{l:List (Str×Value)}(h:x∉l.map (·.1)):bindC kindOf l m x=m x:=by
 induction l generalizing m with
 |nil=>rfl
 |cons p r ih=>
  rw[bindC_c,ih fun q=>h (List.mem_cons_of_mem _ q)]
  by_cases k:kindOf p.1=some .local
  ·rw[if_pos k]
  ·rw[if_neg k];exact if_neg fun q=>h (by rw[q];exact List.mem_cons_self)
theorem bindL_at{kindOf:Str→Option NameKind}(hk:kindOf x=some .local){l:List (Str×Value)}(hn:(l.map (·.1)).Nodup)(h:(x,v)∈l):bindL kindOf l m x=some v:=by
 induction l generalizing m with
 |nil=>exact absurd h List.not_mem_nil
 |cons p r ih=>
  have hn:=List.nodup_cons.mp hn
  rw[bindL_c]
  rcases List.mem_cons.mp h with q|q
  ·rw[←q] at hn⊢;rw[bindL_not hn.1,if_pos hk];exact if_pos rfl
  ·exact ih hn.2 q
theorem bindC_at{kindOf:Str→Option NameKind}(hk:¬kindOf x=some .local){l:List (Str×Value)}(hn:(l.map (·.1)).Nodup)(h:(x,v)∈l):bindC kindOf l m x=some v:=by
 induction l generalizing m with
 |nil=>exact absurd h List.not_mem_nil
 |cons p r ih=>
  have hn:=List.nodup_cons.mp hn
  rw[bindC_c]
  rcases List.mem_cons.mp h with q|q
  ·rw[←q] at hn⊢;rw[bindC_not hn.1,if_neg hk];exact if_pos rfl
  ·exact ih hn.2 q
theorem vB_ok{k:Bool→Bool}(h:vB v k=true):∃i,v=.bool i∧k i=true:=by cases v<;>first|exact nope3 h|exact⟨_,rfl,h⟩
theorem vN_ok(h:vN v=true):v=.none:=by cases v<;>first|exact nope3 h|rfl
theorem dv_rv(e:dvOK v u=true):RV h P v u:=by
 cases u<;>first|exact nope3 e|skip
 ·rw[vN_ok e];exact .none
 ·obtain⟨i,rfl,e⟩:=vB_ok e;rw[of_decide_eq_true e];exact .bool _
 ·obtain⟨i,t,rfl,e⟩:=vI_ok e;rw[of_decide_eq_true e];exact .int _ _
 ·exact .opq _
noncomputable def startL(vars ps:List Str)(xs ds:List V):Loc:=vars.map fun x=>(bindV ps xs ds).lookup x
section
theorem mem_of_look{α:Type}{a:α}{cs:List (Str×α)}(h:cs.lookup x=some a):(x,a)∈cs:=lookup_mem h
open Classical
noncomputable def callCx(env:Env)(vars:List Str)(Z:Addr→Prop)(s:Shared)(H:Hp)(hk:env.scope.kind=.function)(hg:env.globals=mainGlobals)(hb:env.builtins=builtinsNs)(nd:vars.Nodup)
  (hL:s.heap.get? env.locals=none) (hc:∀x a,env.cells.lookup x=some a→s.heap.get? a=none) (hcl:∀x a,env.cells.lookup x=some a→a≠env.locals) (ci:∀x y a,env.cells.lookup x=some a→env.cells.lookup y=some a→x=y):Cx where
 env:=env
 vars:=vars
 Z:=fun b=>Z b∨b=env.locals∨∃x,env.cells.lookup x=some b
 e:=entE s.heap H
 F:=foot H
 os:=s.os
 kind:=hk
 glob:=hg
 blt:=hb
 nd:=nd
 zl:=.inr (.inl rfl)
 zc:=fun x a h=>.inr (.inr ⟨x,h⟩)
 cl:=hcl
 ci:=ci
 el:=by delta entE;split<;>first|rfl|exact hL
 ec:=fun x a h=>by delta entE;split<;>first|rfl|exact hc x a h
 ef:=fun b o h=>(entE_get h).2
theorem HRep.of_g{g:Heap}(r:HRep w h0 Zr H g)(zz:∀b,Z b→Zr b)(gx:∀b o,g.get? b=some o→¬Zr b→h'.get? b=some o)(gk:∀b o,g.get? b=some o→SlK h' b o):HRep w h0 Z H h':=by
 have hz0:∀{b o},h0.get? b=some o→¬Zr b:=fun {b o} e q=>by rw[r.zf b q] at e;exact nope1 e
 refine⟨fun b o e=>gx b o (r.keep b o e) (hz0 e),r.fresh,fun b hb q=>r.notZ b hb (zz b q),fun b q=>?_,fun b q=>r.zf b (zz b q),fun a o e=>?_,r.apart⟩
 ·refine bc fun ng=>?_
  refine xe1 (r.inH b (zz b q)) ?_
  rintro o e
  obtain⟨sl,e1,_⟩:=gk b o e
  refine ng ?_
  exact⟨_,e1⟩
 ·refine(r.obj a o e).mono (fun b o hb e=>gx b o e hb.2) (fun b hb _=>⟨hb.1,fun q=>hb.2 (zz b q)⟩) fun b hb=>?_
  refine bc fun ng=>?_
  refine xe1 ((r.obj a o e).there hb) ?_
  rintro ob eb
  refine ng ?_
  rw[eb,gx b ob eb (r.notZ b (hb.foot e))]
noncomputable def FrOK(c:Cx)(A:Around):Prop:=∃outer,A.frames=some (c.env::outer)∧∃L,c.env.frame=some L
theorem fn_rule{body:List Stmt}{b:Ss}{dsV:List V}(G:Top' K h0)(F:FnOK K f body sc ps ds)(nd:vars.Nodup)
  (hlen:xs.length≤ps.length) (hdl:ds.length=dsV.length) (hd:∀(i:Nat) (v:Value) (u:V),ds[i]? =some v→dsV[i]? =some u→dvOK v u=true)
  (hm:∀vs:List Value,vs.length=xs.length→((ps.take (ps.length-(ds.drop (ds.length-ps.length)).length)).filter fun n=>((ps.zip vs).lookup n).isNone).isEmpty=true)
  (hS:∀c A',c.env.scope=sc→c.vars=vars→(∀x,c.env.kindOf x=some .cell→∃a,c.env.cells.lookup x=some a)→Act c A' (n+1)→FrOK c A'→SoSs w h0 n c A' b body)
  (h:vcSs w h0 n (fun _ H'=>X H') b (startL vars ps xs dsV) H fun fl _ H'=>Q (match fl with|.ret v=>v|_=>.none) H'):Fn w h0 (n+2) f xs H Q X:=by
 intro A Z s R vs room hr hg rv hR hE
 refine bc fun ng=>?_
 refine xe4 (F.ex) ?_
 intro oc od fd osl qz111
 refine xa13 qz111 ?_
 clear qz111
 rintro hf hb hsc hgl hcl hbl hcode p1 p2 p3 p4 p5 hdf
 refine ng ?_
 have X':=G.X.keeps hr.keep
 refine bc fun ng=>?_
 refine xe4 (G.T) ?_
 rintro _ loose mg mb T
 refine ng ?_
 have hlim:s.heap.NoLimit:=T.nolimit.keeps hr.keep
 have hroom:A.depth< recursionLimit:=by have:=room.depth;show A.depth< 1000;(exact li1 2 [] [_,_] (.nle (.a U0 (.m 4 (.a U1 O2))) (.c 900)) (.nlt U0 (.c 1000)) rfl this)
 have hbind:BindsTo s fd ⟨vs,[]⟩ (bindV ps vs ds):=binds_simple p1 p2 p3 p4 p5 (by rw[rv.1];exact hlen) (by
  rcases hdf with⟨e1,rfl⟩|⟨T,c,d,k,sl,items,e1,e2,rfl⟩
  ·exact⟨none,rfl,fun M A E Q hq=>by rw[e1];exact wpAny_pure hq⟩
  ·exact⟨some items,rfl,fun M A E Q hq=>by rw[e1];exact wpAny_seqItems (X' _ _ e2) rfl hq⟩) (hm vs rv.1)
 have f2:F2 (RV s.heap (Pu H Z)) (bindV ps vs ds) (bindV ps xs dsV):=F2.bind rv.1 rv.2 hdl fun i v u h1 h2=>dv_rv (hd i v u h1 h2)
 have hnames:∀x∈bindV ps vs ds,x.1∈ps:=fun x hx=>by
  unfold bindV at hx
  refine bc fun ng=>?_
  refine xe1 (List.mem_filterMap.mp hx) ?_
  intro p qz112
  refine xa2 qz112 ?_
  clear qz112
  rintro hp hq
  refine xe1 (Option.map_eq_some_iff.mp hq) ?_
  intro v qz113
  refine xa2 qz113 ?_
  clear qz113
  rintro _ rfl
  refine ng ?_
  exact hp
 have hkind:∀n',∀x∈bindV ps vs ds,sc.names.lookup x.1=some .local∨(sc.names.lookup x.1=some .cell∧((cellsFrom n' sc.names []).lookup x.1).isSome=true):=fun n' x hx=>by
  rcases F.kinds x.1 (hnames x hx) with q|q
  ·exact .inl q
  ·exact .inr ⟨q,cellsFrom_some _ _ _ (.inl q)⟩
 refine codeAny_call_function (fd:=fd) (body:=body) hroom (X' _ _ hf) rfl (by rw[hsc];exact F.noco) (by rw[hsc];exact F.nogen) hb (codeRec_of X' hcode) (hbind _ _ _ _ ?_)
 rw[hsc,hgl,hcl,hbl]
 refine wpAny_newFunctionEnv_cells F.fun_ (hkind _) fun env he s₁ x=>?_
 have hLn:s.heap.get? s.heap.objs.size=none:=hr.fresh_at.2
 have henvs:env.scope=sc:=by rw[he];rfl
 have henvl:env.locals=s.heap.objs.size:=by rw[he];rfl
 have henvf:env.frame=some s.heap.objs.size:=by rw[he];rfl
 have henvg:env.globals=mainGlobals:=by rw[he];rfl
 have henvb:env.builtins=builtinsNs:=by rw[he];rfl
 have hcells:∀y a,env.cells.lookup y=some a→s.heap.objs.size< a:=fun y a ha=>by
  have:=x.above y a (mem_of_look ha);rwa [henvl] at this
 have hcn:∀y a,env.cells.lookup y=some a→s.heap.get? a=none:=fun y a ha=>by
  cases e:s.heap.get? a with
  |none=>rfl
  |some o=>exact absurd (Heap.lt_size e) (Nat.not_lt.mpr (Nat.le_of_lt (hcells y a ha)))
 have hclne:∀y a,env.cells.lookup y=some a→a≠env.locals:=fun y a ha q=>by
  have:=hcells y a ha;rw[q,henvl] at this;exact Nat.lt_irrefl _ this
 have hci:∀y z a,env.cells.lookup y=some a→env.cells.lookup z=some a→y=z:=fun y z a h1 h2=>by
  have m1:=mem_of_look h1
  have m2:=mem_of_look h2
  have gen:∀cs:List (Str×Addr),cs.Pairwise (fun x y=>x.2≠y.2)→(y,a)∈cs→(z,a)∈cs→y=z:=by
   intro cs
   induction cs with
   |nil=>intro _ h;cases h
   |cons p cs ih=>
    intro hp h1 h2
    rw[List.pairwise_cons] at hp
    rcases List.mem_cons.mp h1 with h1|h1<;>rcases List.mem_cons.mp h2 with h2|h2
    ·rw[←h1] at h2;exact(congrArg Prod.fst h2).symm
    ·exact absurd (by rw[←h1]) (hp.1 _ h2)
    ·exact absurd (by rw[←h2]) (hp.1 _ h1)
    ·exact ih hp.2 h1 h2
  exact gen _ x.apart m1 m2
 let c:=callCx env vars Z s H (by rw[henvs];exact F.fun_) henvg henvb nd (by rw[henvl];exact hLn) hcn hclne hci
 refine bc fun ng=>?_
 refine xe2 (x.done) ?_
 intro h₁ tk qz114
 refine xa2 qz114 ?_
 clear qz114
 rintro hs₁ hk
 refine ng ?_
 subst hs₁
 have hplace:∀b,c.Z b→Z b∨(s.heap.get? b=none∧∃o,h₁.get? b=some o):=fun b hb=>by
  rcases hb with hb|rfl|⟨y,hy⟩
  ·exact .inl hb
  ·refine .inr ⟨by rw[henvl];exact hLn,?_⟩
   obtain⟨o,_,_,ho,_⟩:=x.toInCall.ns;exact⟨o,ho⟩
  ·refine .inr ⟨hcn y b hy,?_⟩
   obtain⟨o,ho,_⟩:=x.cell y b hy;exact⟨o,ho⟩
 have hr1:HRep w h0 c.Z H h₁:=hr.zgrow hk hplace fun b hb=>.inl hb
 have mo:∀b,Pu H Z b→(∃o,s.heap.get? b=some o)→Pu H c.Z b:=fun b hb ⟨o,e⟩=>⟨hb.1,fun q=>by
  rcases hplace b q with q|⟨q,_⟩
  ·exact hb.2 q
  ·rw[e] at q;exact nope2 q⟩
 have hnd2:=bindV_nodup (vs:=vs) (ds:=ds) F.nd
 have r1:Rep w h0 c (startL vars ps xs dsV) H {s with heap:=h₁,toks:=tk}:=by
  refine⟨hr1,⟨⟨_,x.toInCall.ns,fun k y u hy hu=>?_⟩,by simp[startL];rfl,fun y a ha=>?_⟩,fun b o e hF hZ=>?_,fun b o e hZ=>?_,fun b hb=>.inl hb,hg,rfl⟩
  ·have hy:vars[k]? =some y:=hy
   have hlk:(bindV ps xs dsV).lookup y=some u:=by
    unfold startL at hu
    rw[List.getElem?_map,hy] at hu
    simpa using hu
   rcases f2.lookup (x:=y) with⟨_,q⟩|⟨v,u',q1,q2,hrv⟩
   ·rw[hlk] at q;exact nope2 q
   ·rw[hlk] at q2;obtain rfl:=sj q2
    have hmem:=mem_of_look q1
    have hrv':RV h₁ (Pu H c.Z) v u:=hrv.mono (fun b o _ e=>hk b o e) mo
    rcases hkind 0 _ hmem with q|⟨q,_⟩
    ·refine .inl ⟨by show env.scope.names.lookup y=_;rw[henvs];exact q,v,?_,hrv'⟩
     exact bindL_at (by show env.scope.names.lookup y=_;rw[henvs];exact q) hnd2 hmem
    ·have hkc:env.kindOf y=some .cell:=by show env.scope.names.lookup y=_;rw[henvs];exact q
     obtain⟨a,ha⟩:∃a,env.cells.lookup y=some a:=by
      rw[he];exact Option.isSome_iff_exists.mp (cellsFrom_some _ _ _ (.inl q))
     refine bc fun ng=>?_
     obtain⟨o,ho,hd⟩:=x.cell y a ha
     refine ng ?_
     rw[bindC_at (by rw[hkc];simp) hnd2 hmem] at hd
     exact .inr ⟨.inl hkc,a,o,v,ha,ho,hd,hrv'⟩
  ·refine bc fun ng=>?_
   obtain⟨o,ho,hd⟩:=x.cell y a ha
   refine ng ?_
   exact⟨o,_,ho,hd⟩
  ·exact hk b o (entE_get e).1
  ·exact⟨o.slots,hk b o (entE_get e).1,fun _=>rfl⟩
 have ac:Act c (A.deeper env) (n+1):=by
  refine bc fun ng=>?_
  obtain⟨h1,h2,h3,fl,h4,h5⟩:=room
  refine ng ?_
  refine⟨h1,by show A.depth+1+_≤900;(exact li1 2 [] [_,_] (.nle (.a U0 (.m 4 (.a U1 O2))) (.c 900)) (.nle (.a (.a U0 O1) (.m 4 (.a U1 O1))) (.c 900)) rfl h2),by show A.units+3+_≤9000;(exact li1 2 [] [_,_] (.nle (.a U0 (.m 20 (.a U1 O2))) (.c 9000)) (.nle (.a (.a U0 (.c 3)) (.m 20 (.a U1 O1))) (.c 9000)) rfl h3),env::fl,Around.frames_deeper h4,fun env' he'=>?_⟩
  rcases List.mem_cons.mp he' with rfl|he'
  ·exact⟨by rw[henvs,F.fun_];decide,s.heap.objs.size,henvf,.inr (.inl henvl.symm),.inl henvl.symm⟩
  ·refine bc fun ng=>?_
   obtain⟨hk',L,o,a1,a2,a3,a4⟩:=h5 env' he'
   refine ng ?_
   refine⟨hk',L,a1,.inl a2,.inr ⟨o,?_,a4⟩⟩
   exact entE_some a3 fun q=>hr.notZ L q a2
 have back:∀{b o},s.heap.get? b=some o→¬foot H b→c.e b=some o∧(c.Z b→Z b):=fun {b o} e hF=>⟨entE_some e hF,fun q=>by
  rcases hplace b q with q|⟨q,_⟩
  ·exact q
  ·rw[e] at q;exact nope2 q⟩
 have stof:∀{l' H' s'},Rep w h0 c l' H' s'→St w h0 Z H H' s s':=fun {l' H' s'} r'=>by
  refine⟨r'.hr.zback fun b hb=>.inl hb,fun b o e hF hZ=>r'.old b o (back e hF).1 hF fun q=>hZ ((back e hF).2 q),fun b o hz e=>r'.oldZ b o (back e fun q=>hr.notZ b q hz).1 (.inl hz),fun b hb=>?_,r'.gens.trans hg.symm,r'.os⟩
  rcases r'.new b hb with q|q
  ·exact .inl q
  ·exact entE_none q
 refine⟨hlim.keeps hk,codeAny_func ?_⟩
 have frok:FrOK c (A.deeper env):=by
  refine bc fun ng=>?_
  obtain⟨_,_,_,fl,h4,_⟩:=room
  refine ng ?_
  exact⟨fl,Around.frames_deeper h4,_,henvf⟩
 refine wpAny_mono (hS c (A.deeper env) henvs rfl (fun y hy=>?_) ac frok _ _ H _ h _ _ r1 (fun a s' l' H' g r' ex hx=>?_)) (fun fl s' ⟨f',l',H',hff,r',q⟩=>?_) fun _ _ e=>e
 ·show∃a,env.cells.lookup y=some a
  have hy:env.scope.names.lookup y=some .cell:=hy
  rw[henvs] at hy
  rw[he];exact Option.isSome_iff_exists.mp (cellsFrom_some _ _ _ (.inl hy))
 ·refine bc fun ng=>?_
  obtain⟨fl,base,dx,m,t,Zr,D⟩:=ex
  obtain⟨_,_,_,fl0,h4,_⟩:=room
  refine ng ?_
  have hfl:(A.deeper env).frames=some (env::fl0):=Around.frames_deeper h4
  obtain rfl:fl=env::fl0:=sj (D.frames.symm.trans hfl)
  refine leave_go hfl D.funs henvf D.stays D.ex fun h' nt=>hE a _ H' g ?_ ?_ hx
  all_goals
   have gk:∀b o,g.get? b=some o→SlK h' b o:=fun b o e=>(D.gs b o e).trans fun o' e1 hd=>nt.2.2.2 b o' e1 fun q=>by
    have hb:=D.gb b o e fun _=>hd▸q
    rw[hb,←D.stays b o hb,e1]
   have gx:∀b o,g.get? b=some o→¬Zr b→h'.get? b=some o:=fun b o e z=>nt.1 b o (D.gb b o e fun q=>absurd q z)
   have nz:∀{b o},s.heap.get? b=some o→¬foot H b→¬Z b→¬Zr b:=fun {b o} e hF hZ q=>by
    refine bc fun ng=>?_
    refine xa2 (back e hF) ?_
    rintro b1 b2
    refine ng ?_
    rcases D.zn b q with q|q
    ·exact hZ (b2 q)
    ·rw[b1] at q;exact nope2 q
   have hnew:∀b,foot H' b→foot H b∨entE s.heap H b=none:=fun b hb=>D.new b hb
  ·refine⟨D.rep.of_g (fun b hb=>D.zz b (.inl hb)) gx gk,fun b o e hF hZ=>gx b o (D.old b o (back e hF).1 hF fun q=>hZ ((back e hF).2 q)) (nz e hF hZ),fun b o hz e=>?_,fun b hb=>(hnew b hb).elim .inl entE_none,r'.gens.trans hg.symm,r'.os⟩
   refine(D.oldZ b o (back e fun q=>hr.notZ b q hz).1 (.inl hz)).trans fun o' e1 _=>gk b o' e1
  ·refine⟨fl0,base,dx,m,t,Zr,{D with frames:=h4,stays:=nt.1,funs:=nt.2.1.2.2,ex:=nt.2.2.1,ns:=?_,zz:=fun b hb=>D.zz b (.inl hb),zn:=fun b hb=>?_,gs:=gk,old:=fun b o e hF hZ=>D.old b o e hF fun q=>hZ ((back (entE_get e).1 hF).2 q),oldZ:=fun b o e hz=>D.oldZ b o e (.inl hz),new:=hnew}⟩
   ·obtain⟨o,es,ep,ho,hd,rest⟩:=D.ns
    obtain⟨sl,e1,_⟩:=nt.2.2.2 dx o ho fun q=>by rcases q with⟨vs,q⟩|⟨_,_,q⟩|q<;>(rw[hd] at q;cases q)
    exact⟨_,es,ep,e1,hd,rest⟩
   ·rcases D.zn b hb with q|q
    ·rcases hplace b q with q|⟨q,_⟩
     ·exact .inl q
     ·right
      cases e:entE s.heap H b with
      |none=>rfl
      |some o=>have:=(entE_get e).1;rw[q] at this;exact nope1 this
    ·exact .inr q
 ·have rvb:∀{v z},RV s'.heap (Pu H' c.Z) v z→RV s'.heap (Pu H' Z) v z:=fun rv=>rv.mono (Agr.refl _ _) fun b hb _=>⟨hb.1,fun q=>hb.2 (.inl q)⟩
  cases f'<;>cases fl<;>first|exact hff.elim|exact hR _ s' _ H' (rvb hff) (stof r') q|exact hR .none s' .none H' .none (stof r') q
end
section
variable{a b d e:E}{pos:Pos}
noncomputable def ReadsV(h:Heap)(P:Addr→Prop)(x:V):Prop:=∀(d:Dat) (v:Value),RV h P v x→toD x=some d→∃as,Reads h v (kqdP d) as
noncomputable def ReadsVs(h:Heap)(P:Addr→Prop)(xs:List V):Prop:=∀(ds:List Dat) (vs:List Value),RVs h P vs xs→toDs xs=some ds→∃as,ReadsAll h vs (kqdPs ds) as
theorem toD_reads(x:V):ReadsV h P x:=by
 refine V.rec (motive_1:=ReadsV h P) (motive_2:=ReadsVs h P) (motive_3:=fun _=>True) (motive_4:=fun _=>True) ?_ (fun b d v r e=>nope1 e) ?_ ?_ (fun b d v r e=>nope1 e) (fun d v r e=>nope1 e) (fun b d v r e=>nope1 e) ?_ ?_ (fun C fs _ d v r e=>nope1 e) (fun is d v r e=>nope1 e) ?_ ?_ trivial (fun _ _ _ _=>trivial) (fun _ _ _=>trivial) x
 ·intro d v r e;rw[←sj (show some Dat.none=some d from e),r.none_iff];exact⟨_,Reads.none⟩
 ·intro i d v r e;rw[←sj (show some (Dat.int i)=some d from e)];obtain⟨t,rfl⟩:=r.int_iff;exact⟨_,Reads.int i t⟩
 ·intro s d v r e;rw[←sj (show some (Dat.str s)=some d from e)];obtain⟨t,rfl⟩:=r.str_iff;exact⟨_,Reads.str s t⟩
 ·intro xs ih d v r e
  refine bc fun ng=>?_
  refine xe1 (Option.map_eq_some_iff.mp ((toD_t xs).symm.trans e)) ?_
  intro ds qz115
  refine xa2 qz115 ?_
  clear qz115
  rintro e1 rfl
  refine xe2 (RV.tup_iff.mp r) ?_
  intro t vs qz116
  refine xa4 qz116 ?_
  clear qz116
  rintro rfl _ ⟨o,ho,hc,k,hd⟩ rv
  refine xe1 (ih ds vs rv e1) ?_
  rintro as q
  refine ng ?_
  rw[kqdP]
  exact⟨_,Reads.tuple ho hc hd (by rw[List.toList_toArray];exact q)⟩
 ·intro xs ih d v r e
  refine bc fun ng=>?_
  refine xe1 (Option.map_eq_some_iff.mp ((toD_l xs).symm.trans e)) ?_
  intro ds qz117
  refine xa2 qz117 ?_
  clear qz117
  rintro e1 rfl
  refine xe2 (RV.lst_iff.mp r) ?_
  intro t vs qz118
  refine xa4 qz118 ?_
  clear qz118
  rintro rfl _ ⟨k,ho⟩ rv
  refine xe1 (ih ds vs rv e1) ?_
  rintro as q
  refine ng ?_
  rw[kqdP]
  exact⟨_,Reads.list ho rfl rfl (by rw[List.toList_toArray];exact q)⟩
 ·intro ds vs r e
  rw[←sj (toDs_n.symm.trans e),r.unnil];exact⟨_,ReadsAll.nil⟩
 ·intro x xs ih1 ih2 ds vs r e
  refine bc fun ng=>?_
  refine xe2 (r.uncons) ?_
  intro v vs' qz119
  refine xa3 qz119 ?_
  clear qz119
  rintro rfl r1 r2
  refine xe1 (Option.bind_eq_some_iff.mp ((toDs_c x xs).symm.trans e)) ?_
  intro d qz120
  refine xa2 qz120 ?_
  clear qz120
  rintro e1 e
  refine xe1 (Option.map_eq_some_iff.mp e) ?_
  intro ds' qz121
  refine xa2 qz121 ?_
  clear qz121
  rintro e2 rfl
  refine xe1 (ih1 d v r1 e1) ?_
  rintro as q
  refine xe1 (ih2 ds' vs' r2 e2) ?_
  rintro bs p
  refine ng ?_
  rw[kqdPs]
  exact⟨_,ReadsAll.cons q p⟩
theorem kqd_shaped{d:Dat}(h:kqdOk 8 d=true):PySem.SeqAt.shaped (kqdP d)=true:=by
 have l:=kqd_lay 8 d h
 delta PySem.SeqAt.shaped
 rw[l.1,Bool.true_and,decide_eq_true_eq]
 have:=l.2
 (exact li1 1 [] [_] (.nle U0 (.c 8)) (.nle U0 (.c 64)) rfl l.2)
theorem cmpD_J{u:Value}{x:V}{d e:Dat}{Q:Bool→Shared→Prop}(hu:A.units+64< cLine)(rv:RV s.heap (Pu H Z) v x)(ru:RV s.heap (Pu H Z) u y)(e1:toD x=some d)(e2:toD y=some e)(k1:kqdOk 8 d=true)(k2:kqdOk 8 e=true)
  (h:match op with|.Eq=>∀p:Bool,(p=true↔d=e)→Q p s|.NotEq=>∀p:Bool,(p=true↔d≠e)→Q p s|_=>False):wpAny (MM w) A (compareOp op v u) (fun c s'=>∃p,c=.bool p∧Q p s') E' s:=by
 refine bc fun ng=>?_
 refine xe1 (toD_reads x d v rv e1) ?_
 rintro as ra
 refine xe1 (toD_reads y e u ru e2) ?_
 rintro bs rb
 refine ng ?_
 have q:=kqd_eqv 8 d e 8 k1 k2
 cases op<;>try exact h.elim
 ·exact eq_dataH ra rb (kqd_shaped k1) (kqd_shaped k2) hu ⟨_,rfl,h _ q⟩
 ·refine ne_dataH ra rb (kqd_shaped k1) (kqd_shaped k2) hu ⟨_,rfl,h _ ?_⟩
  rw[Bool.not_eq_true',←Bool.not_eq_true,q]
theorem so_cmpD(hu:A.units+64< cLine)(ha:So w h0 n c A X l a pa)(hb:So w h0 n c A X l b pb)(hm:behindInMarks op pb=false):So w h0 n c A X l (.cmpD op a b) (.Compare pa [op] [pb] pos):=fun H Q h s E' r hE=>
 wpAny_Compare1 (J.run (ha H _ h) r hE fun v x H₁ s₁ p r₁ rv st=>J.run (hb H₁ _ p) r₁ hE fun u y H₂ s₂ p₂ r₂ ru st₂=>by
  refine bc fun ng=>?_
  refine xe2 (p₂) ?_
  try clear p₂
  intro d e qz122
  refine xa5 qz122 ?_
  clear qz122
  rintro e1 e2 k1 k2 q
  refine ng ?_
  refine wpAny_mono (cmpD_J (Q:=fun p s'=>s'=s₂∧Q (.bool p) H₂) hu (st₂.rv rv) ru e1 e2 k1 k2 ?_) (fun c s' ⟨p,hc,hs,hq⟩=>?_) fun _ _ e=>e
  ·cases op<;>first|exact q.elim|exact fun p hp=>⟨rfl,q p hp⟩
  ·subst hc;subst hs;exact⟨_,H₂,.bool _,st.trans st₂,hq⟩) hm
theorem sot_cmpD(hu:A.units+64< cLine)(ha:So w h0 n c A X l a pa)(hb:So w h0 n c A X l b pb)(hm:behindInMarks op pb=false):SoT w h0 n c A X l (.cmpD op a b) (.Compare pa [op] [pb] pos):=fun H Q h s E' r hE=>
 wpAny_isTrue_Compare1 (J.run (ha H _ h) r hE fun v x H₁ s₁ p r₁ rv st=>J.run (hb H₁ _ p) r₁ hE fun u y H₂ s₂ p₂ r₂ ru st₂=>by
  refine bc fun ng=>?_
  refine xe2 (p₂) ?_
  try clear p₂
  intro d e qz123
  refine xa5 qz123 ?_
  clear qz123
  rintro e1 e2 k1 k2 q
  refine ng ?_
  refine wpAny_mono (cmpD_J (Q:=fun p s'=>s'=s₂∧Q p H₂) hu (st₂.rv rv) ru e1 e2 k1 k2 ?_) (fun c s' ⟨p,hc,hs,hq⟩=>?_) fun _ _ e=>e
  ·cases op<;>first|exact q.elim|exact fun p hp=>⟨rfl,q p hp⟩
  ·subst hc;subst hs;exact wpAny_truthy_bool ⟨_,H₂,rfl,st.trans st₂,hq⟩) hm
end
noncomputable def compEnv(scope:Scope)(env:Env)(L:Addr)(clos:List (Str×Addr)):Env:={scope:=compScope scope env,locals:=L,globals:=env.globals,cells:=clos,qual:=env.qual,func:=none,code:=env.code,frame:=env.frame,builtins:=env.builtins}
theorem comp_go{e:Expr}{pos:Pos}{first:Sem Value}{g:Comprehension}{gs:List Comprehension}{Q:Value→Shared→Prop}
  (hcl:clausesOf e=g::gs) (hs:∀x,foldedSetIterable g.iter env x=pure x) (hclo:closureFor scope env=pure clos) (hnc:∀x∈scope.names,x.2≠.cell) (hk:scope.kind=.function)
  (hnames:∀x∈scope.names,x.2=.local→(compScope scope env).names.lookup x.1=some .local)
  (h:wpAny M A first (fun x s₁=>wpAny M A (pyIter x) (fun it s₂=>
   ∀h₃ tk,h₃.Ns (s₂.heap.objs.size+1) (fun _=>none)→Heap.SameBut (s₂.heap.objs.size+1) ((s₂.heap.push {cls:=.type "list",data:=.seq #[]}).push {cls:=.type "dict",data:=.dict #[]}) h₃→
   codeAny M A (.compStart e 0 it (.ref s₂.heap.objs.size) (compEnv scope env (s₂.heap.objs.size+1) clos)) (fun r s'=>∃m,s'.heap.Ns (s₂.heap.objs.size+1) m∧(∃f,r=.ok f)∧match use with
    |none=>∀h',Heap.SameBut (s₂.heap.objs.size+1) s'.heap h'→Q (.ref s₂.heap.objs.size) {s' with heap:=h'}
    |some u=>wpAny M A (u (.ref s₂.heap.objs.size)) (fun _ s''=>∃m,s''.heap.Ns (s₂.heap.objs.size+1) m∧∀h',Heap.SameBut (s₂.heap.objs.size+1) s''.heap h'→Q .none {s'' with heap:=h'}) E' s')
   {s₂ with heap:=h₃,toks:=tk}) E' s₁) E' s):
  wpAny M A (comprehension e scope env pos (newList []) false first use) Q E' s:=by
 delta comprehension
 rw[hclo,hcl]
 refine wpAny_bind (wpAny_mono h (fun x s₁ h₁=>wpAny_bind (wpAny_standAt (wpAny_bind (wpAny_of_eq (hs x) (wpAny_bind (wpAny_holding (wpAny_mono h₁ (fun it s₂ h₂=>?_) fun _ _ h'=>h'))))))) fun _ _ h'=>h')
 refine wpAny_standIf (wpAny_bind (PySem.wpAny_newList ?_ (by simp)))
 refine wpAny_bind (wpAny_pure (wpAny_bind (wpAny_newFunctionEnv hnc (fun _ hx=>by cases hx) (fun h' hn' hsb'=>?_) hk)))
 have hsz:(s₂.heap.push {cls:=.type "list",data:=.seq ([]:List Value).toArray}).objs.size=s₂.heap.objs.size+1:=Heap.size_push ..
 dsimp only at hn' hsb'⊢
 rw[hsz] at hn' hsb'⊢
 have hv:∀y∈scope.names,y.2=.local→(compEnv scope env (s₂.heap.objs.size+1) clos).kindOf y.1=some .local:=hnames
 have hrun:=h₂ h' s₂.toks hn' hsb'
 refine wpAny_holding (wpAny_bind (wpAny_attempt (wpAny_holding (wpAny_run (codeAny_mono hrun fun r s' hr=>?_)))))
 refine bc fun ng=>?_
 refine xe1 (hr) ?_
 try clear hr
 intro m qz124
 refine xa3 qz124 ?_
 clear qz124
 rintro hn ⟨f,rfl⟩ hr
 refine ng ?_
 cases use with
 |none=>
  refine wpAny_bind (wpAny_holding (wpAny_comp_letGo (cenv:=compEnv scope env (s₂.heap.objs.size+1) clos) hk _ s' m (fun y hy hl=>hv y (List.mem_filter.mp (List.mem_reverse.mp hy)).1 hl) hn fun h' m' _ hs'=>wpAny_pure (hr h' hs')))
 |some u=>
  refine wpAny_bind (wpAny_rule (wpAny_bind (wpAny_holding (wpAny_mono hr (fun _ s'' ⟨m,hn,hq⟩=>?_) fun _ _ e=>e))))
  refine wpAny_bind (wpAny_comp_letGo (cenv:=compEnv scope env (s₂.heap.objs.size+1) clos) hk _ s'' m (fun y hy hl=>?_) hn fun h' m' _ hs'=>wpAny_pure (hq h' hs'))
  have hy':y∈(scope.names.filter fun x=>(x.2==.local||x.2==.cell)&&x.1 !=(".0":Str)).reverse:=by
   rcases List.mem_append.mp hy with q|q
   ·exact List.mem_of_mem_drop q
   ·exact List.mem_of_mem_take q
  exact hv y (List.mem_filter.mp (List.mem_reverse.mp hy')).1 hl
section
open Classical
section
structure CompOK(c:Cx)(scope:Scope)(clos:List (Str×Addr))(vars:List Str):Prop where
 kind:scope.kind=.function
 nd:vars.Nodup
 sub:∀x a,clos.lookup x=some a→c.env.cells.lookup x=some a
noncomputable def compCx(c:Cx)(scope:Scope)(clos:List (Str×Addr))(vars:List Str)(L:Addr)(Y:Addr→Prop)(h:Heap)(H:Hp)(O:CompOK c scope clos vars)(hL:Y L)(hYc:∀x a,c.env.cells.lookup x=some a→¬Y a):Cx where
 env:=compEnv scope c.env L clos
 vars:=vars
 Z:=fun b=>c.Z b∨Y b
 e:=fun b=>if foot H b∨Y b∨(∃x,clos.lookup x=some b) then none else h.get? b
 F:=foot H
 os:=c.os
 kind:=O.kind
 glob:=c.glob
 blt:=c.blt
 nd:=O.nd
 zl:=.inr hL
 zc:=fun x a h=>.inl (c.zc x a (O.sub x a h))
 cl:=fun x a h q=>hYc x a (O.sub x a h) (q▸hL)
 ci:=fun x y a h1 h2=>c.ci x y a (O.sub x a h1) (O.sub y a h2)
 el:=if_pos (.inr (.inl hL))
 ec:=fun x a h=>if_pos (.inr (.inr ⟨x,h⟩))
 ef:=fun b o h=>by split at h<;>first|(exact nope1 h;done)|(rename_i q;exact fun f=>q (.inl f))
variable{Y:Addr→Prop}{O:CompOK c scope clos vars}{hL:Y L}{hYc:∀x a,c.env.cells.lookup x=some a→¬Y a}
theorem comp_e{o:Obj}(e:h.get? b=some o)(h1:¬foot H b)(h2:¬Y b)(h3:∀x,clos.lookup x≠some b):(compCx c scope clos vars L Y h H O hL hYc).e b=some o:=by
 show(if foot H b∨Y b∨(∃x,clos.lookup x=some b) then none else h.get? b)=some o
 rw[if_neg]
 ·exact e
 ·rintro(q|q|⟨x,q⟩)
  ·exact h1 q
  ·exact h2 q
  ·exact h3 x q
theorem comp_some{o:Obj}(e:(compCx c scope clos vars L Y h H O hL hYc).e b=some o):h.get? b=some o∧¬foot H b∧¬Y b:=by
 have e:(if foot H b∨Y b∨(∃x,clos.lookup x=some b) then none else h.get? b)=some o:=e
 split at e
 ·exact nope1 e
 ·rename_i q;exact⟨e,fun z=>q (.inl z),fun z=>q (.inr (.inl z))⟩
theorem Rep.compIn(r:Rep w h0 c l H s)(hk:∀b o,s.heap.get? b=some o→h₃.get? b=some o)(hY:∀b,Y b→s.heap.get? b=none∧∃o,h₃.get? b=some o)(hns:h₃.Ns L (fun _=>none))
  (hlen:vars.length=nv+cap.length)
  (hcap:∀(j i:Nat) (x:Str),cap[j]? =some (some i)→vars[nv+j]? =some x→c.vars[i]? =some x∧c.env.kindOf x=some .cell∧(compScope scope c.env).names.lookup x=some .cell∧(clos.lookup x).isSome=true):
  Rep w h0 (compCx c scope clos vars L Y s.heap H O hL hYc) (capL nv cap l) H {s with heap:=h₃,toks:=k}:=by
 have hr:=r.hr.zgrow (Z':=(compCx c scope clos vars L Y s.heap H O hL hYc).Z) hk (fun b q=>q.imp id fun q=>hY b q) fun b q=>.inl q
 have mo:∀b,Pu H c.Z b→(∃o,s.heap.get? b=some o)→Pu H (compCx c scope clos vars L Y s.heap H O hL hYc).Z b:=fun b hb ⟨o,e⟩=>⟨hb.1,fun q=>by
  rcases q with q|q
  ·exact hb.2 q
  ·rw[(hY b q).1] at e;exact nope1 e⟩
 refine bc fun ng=>?_
 refine xe1 (r.lr.ns) ?_
 intro m qz125
 refine xa2 qz125 ?_
 clear qz125
 rintro hn hv
 refine ng ?_
 refine⟨hr,⟨⟨_,hns,fun j x u hj hu=>?_⟩,by show(capL nv cap l).length=vars.length;delta capL;rw[List.length_append,List.length_replicate,List.length_map];exact hlen.symm,fun x a ha=>?_⟩,fun b o e _ _=>hk b o (comp_some e).1,fun b o e _=>⟨o.slots,hk b o (comp_some e).1,fun _=>rfl⟩,fun b hb=>.inl hb,r.gens,r.os⟩
 ·have hj:vars[j]? =some x:=hj
  unfold capL at hu
  rw[List.getElem?_append] at hu
  split at hu
  ·rename_i hlt
   rw[List.getElem?_replicate] at hu
   split at hu<;>simp at hu
  ·rename_i hge
   simp only[List.length_replicate] at hge hu
   rw[List.getElem?_map,Option.map_eq_some_iff] at hu
   refine bc fun ng=>?_
   refine xe1 (hu) ?_
   try clear hu
   intro oi qz126
   refine xa2 qz126 ?_
   clear qz126
   rintro h1 h2
   refine ng ?_
   cases oi with
   |none=>exact nope1 h2
   |some i=>
    have hj':vars[nv+(j-nv)]? =some x:=by rw[show nv+(j-nv)=j by(exact li2 3 [] [_,_,_] (.sb U1 U0 U2) (.no (.nlt U1 U0)) (.neq (.a U0 U2) U1) rfl (ns (j) (nv)) hge)];exact hj
    refine bc fun ng=>?_
    refine xa4 (hcap (j-nv) i x h1 hj') ?_
    rintro c1 c2 c3 c4
    refine ng ?_
    rcases hv i x u c1 (getL_iff.mp h2) with⟨q,_⟩|⟨q,a,o,v,ha,ho,hd,hrv⟩
    ·rw[c2] at q;cases q
    ·refine bc fun ng=>?_
     refine xe1 (Option.isSome_iff_exists.mp c4) ?_
     rintro a' ha'
     refine ng ?_
     have:=O.sub x a' ha'
     rw[ha] at this;obtain rfl:=sj this
     exact .inr ⟨.inl c3,a,o,v,ha',hk a o ho,hd,hrv.mono (fun b o _ e=>hk b o e) mo⟩
 ·have ha:clos.lookup x=some a:=ha
  refine bc fun ng=>?_
  refine xe2 (r.lr.cells x a (O.sub x a ha)) ?_
  intro o v qz127
  refine xa2 qz127 ?_
  clear qz127
  rintro ho hd
  refine ng ?_
  exact⟨o,v,hk a o ho,hd⟩
theorem comp_new(r:Rep w h0 c l H s)(r':Rep w h0 (compCx c scope clos vars L Y s.heap H O hL hYc) l' H' s')(hb:foot H' b):foot H b∨s.heap.get? b=none:=by
 rcases r'.new b hb with q|q
 ·exact .inl q
 ·have q:(if foot H b∨Y b∨(∃x,clos.lookup x=some b) then none else s.heap.get? b)=none:=q
  split at q
  ·rename_i z
   rcases z with z|z|⟨x,z⟩
   ·exact .inl z
   ·exact absurd (.inr z) (r'.hr.notZ b hb)
   ·exact absurd (.inl (c.zc x b (O.sub x b z))) (r'.hr.notZ b hb)
  ·exact .inr q
theorem comp_keep(r':Rep w h0 (compCx c scope clos vars L Y s.heap H O hL hYc) l' H' s')(hY:∀b,Y b→s.heap.get? b=none){o:Obj}(e:s.heap.get? b=some o)(h1:¬foot H b)(h2:¬c.Z b):s'.heap.get? b=some o:=by
 have hy:¬Y b:=fun q=>by rw[hY b q] at e;exact nope1 e
 exact r'.old b o (comp_e e h1 hy fun x q=>h2 (c.zc x b (O.sub x b q))) h1 fun q=>q.elim h2 hy
theorem comp_keepZ(r':Rep w h0 (compCx c scope clos vars L Y s.heap H O hL hYc) l' H' s')(hY:∀b,Y b→s.heap.get? b=none){o:Obj}(e:s.heap.get? b=some o)(h1:¬foot H b)(h2:c.Z b)(h3:∀x,clos.lookup x≠some b):SlK s'.heap b o:=
 r'.oldZ b o (comp_e e h1 (fun q=>by rw[hY b q] at e;exact nope1 e) h3) (.inl h2)
theorem comp_rv(r:Rep w h0 c l H s)(r':Rep w h0 (compCx c scope clos vars L Y s.heap H O hL hYc) l' H' s')(hY:∀b,Y b→s.heap.get? b=none){x:V}(rv:RV s.heap (Pu H c.Z) v x):RV s'.heap (Pu H' c.Z) v x:=
 rv.mono (fun b o hb e=>comp_keep r' hY e hb.1 hb.2) fun b hb ⟨o,e⟩=>⟨fun q=>by
  rcases comp_new r r' q with q|q
  ·exact hb.1 q
  ·exact(nomatch e.symm.trans q),hb.2⟩
theorem Rep.compOut(r:Rep w h0 c l H s)(r':Rep w h0 (compCx c scope clos vars L Y s.heap H O hL hYc) l' H' s')(hY:∀b,Y b→s.heap.get? b=none)
  (hcap:∀x a,clos.lookup x=some a→∃j i,cap[j]? =some (some i)∧vars[nv+j]? =some x∧c.vars[i]? =some x∧c.env.kindOf x=some .cell∧(compScope scope c.env).names.lookup x=some .cell)
  (hl':∀(j i:Nat) (u:V),cap[j]? =some (some i)→getL l i=some u→l'[nv+j]? =some (some u)):Rep w h0 c l H' s':=by
 have nf:∀{b o},c.e b=some o→¬foot H b:=fun {b o} e q=>by
  rcases r.new b q with q|q
  ·exact c.ef b o e q
  ·rw[e] at q;exact nope2 q
 refine bc fun ng=>?_
 refine xe1 (r.lr.ns) ?_
 intro m qz128
 refine xa2 qz128 ?_
 clear qz128
 rintro hn hv
 refine xe1 (r'.lr.ns) ?_
 intro m' qz129
 refine xa2 qz129 ?_
 clear qz129
 rintro hn' hv'
 refine ng ?_
 have hrz:=r'.hr.zback (Z:=c.Z) fun b q=>.inl q
 have back:∀{v x},RV s'.heap (Pu H' (compCx c scope clos vars L Y s.heap H O hL hYc).Z) v x→RV s'.heap (Pu H' c.Z) v x:=fun rv=>rv.mono (Agr.refl _ _) fun b hb _=>⟨hb.1,fun q=>hb.2 (.inl q)⟩
 have zf:∀{b},c.Z b→¬foot H b:=fun {b} hz q=>r.hr.notZ b q hz
 refine⟨hrz,⟨⟨m,?_,fun k x u hk hu=>?_⟩,r.lr.len,fun x a ha=>?_⟩,fun b o e hF hZ=>comp_keep r' hY (r.old b o e hF hZ) (nf e) hZ,fun b o e hZ=>?_,fun b hb=>?_,r'.gens,r'.os⟩
 ·refine bc fun ng=>?_
  obtain⟨o,es,ep,ho,hd,rest⟩:=hn
  obtain⟨sl,e1,_⟩:=comp_keepZ r' hY ho (zf c.zl) c.zl fun x q=>c.cl x _ (O.sub x _ q) rfl
  refine ng ?_
  exact⟨_,es,ep,e1,hd,rest⟩
 ·rcases hv k x u hk hu with⟨h1,v,h2,h3⟩|⟨h1,a,o,v,h2,h3,h4,h5⟩
  ·exact .inl ⟨h1,v,h2,comp_rv r r' hY h3⟩
  ·by_cases hc:∃y,clos.lookup y=some a
   ·refine bc fun ng=>?_
    refine xe1 (hc) ?_
    try clear hc
    rintro y hy
    refine ng ?_
    obtain rfl:y=x:=c.ci y x a (O.sub y a hy) h2
    refine bc fun ng=>?_
    refine xe2 (hcap y a hy) ?_
    intro j i qz130
    refine xa5 qz130 ?_
    clear qz130
    rintro c1 c2 c3 c4 c5
    refine ng ?_
    have hik:i=k:=by
     refine bc fun ng=>?_
     refine xe1 (List.getElem?_eq_some_iff.mp c3) ?_
     rintro p1 q1
     refine xe1 (List.getElem?_eq_some_iff.mp hk) ?_
     rintro p2 q2
     refine ng ?_
     exact(List.getElem_inj c.nd).mp (q1.trans q2.symm)
    subst hik
    rcases hv' (nv+j) y u c2 (hl' j i u c1 (getL_iff.mpr hu)) with⟨q,w1,_⟩|⟨q,a',o',v',ha',ho',hd',hrv'⟩
    ·exfalso
     have hz:(compScope scope c.env).names.lookup y=some .local:=q
     rw[c5] at hz;cases hz
    ·exact .inr ⟨.inl c4,a',o',v',O.sub y a' ha',ho',hd',back hrv'⟩
   ·refine bc fun ng=>?_
    obtain⟨sl,e1,_⟩:=comp_keepZ r' hY h3 (zf (c.zc x a h2)) (c.zc x a h2) fun y q=>hc ⟨y,q⟩
    refine ng ?_
    exact .inr ⟨h1,a,_,v,h2,e1,h4,comp_rv r r' hY h5⟩
 ·by_cases hc:∃y,clos.lookup y=some a
  ·refine bc fun ng=>?_
   refine xe1 (hc) ?_
   try clear hc
   rintro y hy
   refine ng ?_
   exact r'.lr.cells y a hy
  ·refine bc fun ng=>?_
   refine xe2 (r.lr.cells x a ha) ?_
   intro o v qz131
   refine xa2 qz131 ?_
   clear qz131
   rintro ho hd
   obtain⟨sl,e1,_⟩:=comp_keepZ r' hY ho (zf (c.zc x a ha)) (c.zc x a ha) fun y q=>hc ⟨y,q⟩
   refine ng ?_
   exact⟨_,v,e1,hd⟩
 ·obtain⟨sl,e1,f1⟩:=r.oldZ b o e hZ
  obtain⟨sl2,e2,f2⟩:=comp_keepZ r' hY e1 (nf e) hZ fun x q=>by rw[c.ec x b (O.sub x b q)] at e;exact nope1 e
  exact⟨sl2,e2,fun q=>(f2 q).trans (f1 q)⟩
 ·rcases comp_new r r' hb with q|q
  ·exact r.new b q
  ·exact .inr (r.e_none q)
end
end
theorem Rep.movedY{Y:Addr→Prop}(r:Rep w h0 c l H s)(hy:∀b,Y b→c.Z b∧c.e b=none∧b≠c.env.locals∧∀x,c.env.cells.lookup x≠some b)(hk:∀b o,¬Y b→s.heap.get? b=some o→h'.get? b=some o)(he:∀b,Y b→∃o,h'.get? b=some o):Rep w h0 c l H {s with heap:=h',toks:=k}:=by
 have ag:Agr (Pu H c.Z) s.heap h':=fun b o hb e=>hk b o (fun q=>hb.2 (hy b q).1) e
 refine⟨⟨fun b o e=>hk b o (fun q=>?_) (r.hr.keep b o e),r.hr.fresh,r.hr.notZ,fun b hb=>?_,r.hr.zf,fun a o e=>?_,r.hr.apart⟩,?_,fun b o e hF hZ=>hk b o (fun q=>hZ (hy b q).1) (r.old b o e hF hZ),fun b o e hZ=>?_,r.new,r.gens,r.os⟩
 ·have:=r.hr.zf b (hy b q).1;rw[this] at e;exact nope1 e
 ·by_cases q:Y b
  ·exact he b q
  ·obtain⟨o,e⟩:=r.hr.inH b hb;exact⟨o,hk b o q e⟩
 ·refine(r.hr.obj a o e).mono ag (fun b hb _=>hb) fun b hb=>?_
  refine bc fun ng=>?_
  refine xe1 ((r.hr.obj a o e).there hb) ?_
  rintro ob eb
  refine ng ?_
  rw[eb,hk b ob (fun q=>r.hr.notZ b (hb.foot e) (hy b q).1) eb]
 ·exact r.lr.mono ag (fun b hb _=>hb) (fun o e=>⟨o.slots,hk _ _ (fun q=>(hy _ q).2.2.1 rfl) e⟩) fun x a ha o e=>⟨o.slots,hk _ _ (fun q=>(hy _ q).2.2.2 x ha) e⟩
 ·refine bc fun ng=>?_
  obtain⟨sl,e1,f⟩:=r.oldZ b o e hZ
  refine ng ?_
  exact⟨sl,hk b _ (fun q=>by rw[(hy b q).2.1] at e;exact nope1 e) e1,f⟩
theorem Rep.weaken(r:Rep w h0 c l H s)(hl:l'.length=l.length)(h:∀(k:Nat) (u:V),l'[k]? =some (some u)→l[k]? =some (some u)):Rep w h0 c l' H s:=by
 refine bc fun ng=>?_
 refine xe1 (r.lr.ns) ?_
 intro m qz132
 refine xa2 qz132 ?_
 clear qz132
 rintro hn hv
 refine ng ?_
 exact⟨r.hr,⟨⟨m,hn,fun k x u hk hu=>hv k x u hk (h k u hu)⟩,hl.trans r.lr.len,r.lr.cells⟩,r.old,r.oldZ,r.new,r.gens,r.os⟩
noncomputable def condOf(ifs:List Expr)(env:Env):Sem Bool:=match ifs with
 |cnd::_=>isTrue cnd env (eval cnd env)
 |[]=>pure true
theorem compTurn_eq(elt target iter:Expr)(ifs:List Expr)(scope:Scope)(pos:Pos)(it acc:Value)(env:Env)(hif:ifs=[]∨∃cnd,ifs=[cnd]):
  compTurn (.ListComp elt [⟨target,iter,ifs,0⟩] scope pos) 0 it acc env=(standAt iter.pos>>=fun _=>pyNext it>>=fun r=>match r with
   |none=>pure (.done .next)
   |some v=>letOwnedTupleGo target it v>>=fun _=>assign target env v>>=fun _=>condOf ifs env>>=fun ok=>
    (if ok then eval elt env>>=fun x=>call (.builtin "list.append") [acc,x]>>=fun _=>again (.compLoop (.ListComp elt [⟨target,iter,ifs,0⟩] scope pos) 0 it acc env)
     else again (.compLoop (.ListComp elt [⟨target,iter,ifs,0⟩] scope pos) 0 it acc env))):=by
 rcases hif with rfl|⟨cnd,rfl⟩
 ·rw[compTurn_list1]
  simp only[condOf,pure_bind,if_true,bind_assoc]
  rfl
 ·delta compTurn
  simp only[List.getElem?_cons_zero,pure_bind,bind_assoc,condOf]
  have:((0:Int) !=0)=false:=rfl
  simp only[this,Bool.false_eq_true,if_false,List.forIn_cons,List.forIn_nil,pure_bind,bind_assoc,if_true]
  congr 1
theorem compLoop_go{pos:Pos}{it acc:Value}{R:Result→Shared→Prop}(hif:ifs=[]∨∃cnd,ifs=[cnd])(I:Nat→Shared→Prop)
  (turn:∀n s,I n s→∀Err,wpAny (MM w) A (pyNext it) (fun r s₁=>match r with
   |none=>R (.ok .next) s₁
   |some v=>wpAny (MM w) A (letOwnedTupleGo target it v) (fun _ s₁'=>wpAny (MM w) A (assign target env v) (fun _ s₂=>wpAny (MM w) A (condOf ifs env) (fun ok s₃=>if ok=true then wpAny (MM w) A (eval elt env) (fun x s₄=>
     wpAny (MM w) A (call (.builtin "list.append") [acc,x]) (fun _ s₅=>∃m,m< n∧I m s₅) Err s₄) Err s₃ else∃m,m< n∧I m s₃) Err s₂) Err s₁') Err s₁) Err s)
  (n:Nat) (h:I n s):codeAny (MM w) A (.compLoop (.ListComp elt [⟨target,iter,ifs,0⟩] scope pos) 0 it acc env) R s:=by
 refine codeAny_loop rfl I (fun n s hI=>?_) n h
 show wpAny _ _ ((compTurn (.ListComp elt [⟨target,iter,ifs,0⟩] scope pos) 0 it acc env).onRaise (fun x=>do noteFrame x env;theTreesLotGoes x)) _ _ s
 refine wpAny_noted ?_
 rw[compTurn_eq _ _ _ _ _ _ _ _ _ hif]
 refine wpAny_bind (wpAny_standAt (wpAny_bind (wpAny_mono (turn n s hI _) (fun r s₁ h₁=>?_) fun _ _ h'=>h')))
 cases r with
 |none=>exact wpAny_pure h₁
 |some v=>
  refine wpAny_bind (wpAny_mono h₁ (fun _ s₂ h₂=>wpAny_bind (wpAny_mono h₂ (fun _ s₃ h₃=>wpAny_bind (wpAny_mono h₃ (fun ok s₄ h₄=>?_) fun _ _ h'=>h')) fun _ _ h'=>h')) fun _ _ h'=>h')
  cases ok with
  |true=>exact wpAny_bind (wpAny_mono h₄ (fun x s₅ h₅=>wpAny_bind (wpAny_mono h₅ (fun _ s₆ h₆=>wpAny_pure ⟨rfl,h₆⟩) fun _ _ h'=>h')) fun _ _ h'=>h')
  |false=>exact wpAny_pure ⟨rfl,h₄⟩
noncomputable def TgOK(w:World)(h0:Heap)(n:Nat)(A:Around)(env:Env)(vars:List Str)(t:Tg)(pt:Expr)(It:Value→Heap→Prop):Prop:=∀c,c.env=env→c.vars=vars→Act c A (n+1)→∀(l l':Loc) (H:Hp) (x:V) (v it:Value) (s:Shared) (E':Value→Shared→Prop),bindT t x l=some l'→Rep w h0 c l H s→RV s.heap (Pu H c.Z) v x→It it s.heap→
 wpAny (MM w) A (letOwnedTupleGo pt it v) (fun _ s₁=>wpAny (MM w) A (assign pt env v) (fun _ s₂=>Rep w h0 c l' H s₂∧∀b o,(∃x,c.env.cells.lookup x=some b)→s.heap.get? b=some o→s₂.heap.get? b=some o) E' s₁) E' s
noncomputable abbrev CInv(w:World)(h0:Heap)(n:Nat)(c:Cx)(l0:Loc)(cnd e:E)(I acc:Addr)(fp:List Addr)(P:Nat→Value→Prop)(St':Nat→Heap→Prop)(xs:List V)(Q:List V→Hp→Prop)(t:Tg)(s0:Heap)(m:Nat)(s:Shared):Prop:=∃i H₁ ys vs,i≤xs.length∧m=xs.length-i∧ys.length≤i∧(∀b o,(∃x,c.env.cells.lookup x=some b)→s0.get? b=some o→SlK s.heap b o)∧Rep w h0 c l0 H₁ s∧St' i s.heap∧(∀b∈fp,b=I∨(Pu H₁ c.Z b∧∃o,s.heap.get? b=some o))∧
  (∀(j:Nat) (v:Value) (y:V),P j v→xs[j]? =some y→RV s.heap (Pu H₁ c.Z) v y)∧s.heap.PlainList acc vs.toArray∧RVs s.heap (Pu H₁ c.Z) vs ys∧
  compV (fun x H₂ K=>OptP (bindT t x l0) fun l'=>vcE w h0 n (fun _=>False) cnd l' H₂ fun p H₃=>BoolP p fun b=>(b=true→vcE w h0 n (fun _=>False) e l' H₃ fun u H₄=>K (some u) H₄)∧(b=false→K none H₃)) (xs.drop i) ys H₁ Q
theorem comp_walk{pos:Pos}{e cnd:E}{acc:Addr}{P:Nat→Value→Prop}{Q:List V→Hp→Prop}{R:Result→Shared→Prop}(hif:ifs=[]∨∃cnd,ifs=[cnd])(ac:Act c A (n+1))(hA:A.handled=none)
  (hT:TgOK w h0 n A c.env c.vars t target (fun it h=>∃i,it=.ref I∧St' i h))
  (hc:∀c',c'.env=c.env→c'.vars=c.vars→Act c' A (n+1)→∀l H (Q:Bool→Hp→Prop),(vcE w h0 n (fun _=>False) cnd l H fun v H'=>BoolP v fun b=>Q b H')→J w h0 EqR c' A (fun _=>False) (condOf ifs c.env) l H Q)
  (he:∀c',c'.env=c.env→c'.vars=c.vars→Act c' A (n+1)→SoA w h0 n c' A e elt)
  (hI:c.Z I∧c.e I=none∧I≠c.env.locals∧∀x,c.env.cells.lookup x≠some I) (hAcc:c.Z acc∧c.e acc=none∧acc≠c.env.locals∧∀x,c.env.cells.lookup x≠some acc) (hne:acc≠I)
  (W:Walks pw w A I fp [I] xs.length P St') (hfld:∀i h,St' i h→∃o vs,h.get? I=some o∧o.data=.fields vs)
  (r:Rep w h0 c l0 H s) (h0':St' 0 s.heap) (hfp:∀b∈fp,b=I∨(Pu H c.Z b∧∃o,s.heap.get? b=some o)) (hP:∀(j:Nat) (v:Value) (y:V),P j v→xs[j]? =some y→RV s.heap (Pu H c.Z) v y)
  (hacc:s.heap.PlainList acc #[]) (hlen:xs.length≤100000)
  (h:compV (fun x H₂ K=>OptP (bindT t x l0) fun l'=>vcE w h0 n (fun _=>False) cnd l' H₂ fun p H₃=>BoolP p fun b=>(b=true→vcE w h0 n (fun _=>False) e l' H₃ fun u H₄=>K (some u) H₄)∧(b=false→K none H₃)) xs [] H Q)
  (hbase:∀x l',bindT t x l0=some l'→l0.length=l'.length∧∀(k:Nat) (u:V),l0[k]? =some (some u)→l'[k]? =some (some u))
  (hR:∀s' h' tk H' ys vs,Rep w h0 c l0 H' s'→(∀b o,(∃x,c.env.cells.lookup x=some b)→s.heap.get? b=some o→SlK s'.heap b o)→(∀b o,b≠I→s'.heap.get? b=some o→h'.get? b=some o)→s'.heap.PlainList acc vs.toArray→RVs s'.heap (Pu H' c.Z) vs ys→Q ys H'→R (.ok .next) {s' with heap:=h',toks:=tk}):
  codeAny (MM w) A (.compLoop (.ListComp elt [⟨target,iter,ifs,0⟩] scope pos) 0 (.ref I) (.ref acc) c.env) R s:=by
 refine bc fun ng=>?_
 obtain⟨s0,hs0⟩:∃s0,s0=s.heap:=⟨_,rfl⟩
 refine ng ?_;clear ng
 rw[←hs0] at hR
 refine compLoop_go hif (CInv w h0 n c l0 cnd e I acc fp P St' xs Q t s0) (fun m s₁ hi Err=>?_) (xs.length-0) ⟨0,H,[],[],Nat.zero_le _,rfl,Nat.le_refl _,(fun b o _ e=>⟨o.slots,hs0▸e,fun _=>rfl⟩),r,h0',hfp,hP,hacc,RVs.nil,by simpa using h⟩
 refine bc fun ng=>?_
 obtain⟨i,H₁,ys,vs,hle,rfl,hyl,hkz,r₁,hS,hf,hv,hpl,hys,hq⟩:=hi
 refine ng ?_;clear ng
 by_cases hlt:i< xs.length
 ·refine bc fun ng=>?_
  obtain⟨y,hy⟩:∃y,xs[i]? =some y:=⟨_,List.getElem?_eq_getElem hlt⟩
  refine ng ?_;clear ng
  refine W.item i s₁ _ _ hlt hS fun v h' tk' hp hS' hkk=>?_
  have kk:∀b o,b≠I→s₁.heap.get? b=some o→h'.get? b=some o:=fun b o hb e=>hkk b o (by simpa using hb) e
  have r₂:Rep w h0 c l0 H₁ {s₁ with heap:=h',toks:=tk'}:=r₁.movedY (Y:=fun b=>b=I) (fun b q=>q▸hI) (fun b o q e=>kk b o q e) fun b q=>by
   subst q;obtain⟨o,_,e,_⟩:=hfld _ _ hS';exact⟨o,e⟩
  have ag:Agr (Pu H₁ c.Z) s₁.heap h':=fun b o hb e=>kk b o (fun q=>hb.2 (q▸hI.1)) e
  have rvv:RV h' (Pu H₁ c.Z) v y:=(hv i v y hp hy).mono ag fun b hb _=>hb
  have hpl':h'.PlainList acc vs.toArray:=by obtain⟨k,e⟩:=hpl;exact⟨k,kk acc _ hne e⟩
  have hys':RVs h' (Pu H₁ c.Z) vs ys:=hys.mono ag fun b hb _=>hb
  have hdrop:xs.drop i=y::xs.drop (i+1):=by
   rw[List.drop_eq_getElem_cons hlt];congr 1
   exact sj ((List.getElem?_eq_getElem hlt).symm.trans hy)
  rw[hdrop] at hq
  refine bc fun ng=>?_
  refine xe1 (OptP.ex hq) ?_
  intro l' qz133
  refine xa2 qz133 ?_
  clear qz133
  rintro hbt hq
  refine ng ?_;clear ng
  have ac':Act (c.snap h' H₁) A (n+1):=ac.snap r₂
  have rs:=r₂.snap
  have turnEnd:∀{l₅ H₅ s₅},Rep w h0 (c.snap h' H₁) l₅ H₅ s₅→St' (i+1) s₅.heap∧(∀b∈fp,b=I∨(Pu H₅ c.Z b∧∃o,s₅.heap.get? b=some o))∧(∀(j:Nat) (v:Value) (y:V),P j v→xs[j]? =some y→RV s₅.heap (Pu H₅ c.Z) v y)∧s₅.heap.PlainList acc vs.toArray∧RVs s₅.heap (Pu H₅ c.Z) vs ys:=by
   intro l₅ H₅ s₅ r₅
   have exact':∀b o,h'.get? b=some o→c.Z b→b≠c.env.locals→(∀x,c.env.cells.lookup x≠some b)→Fx o.data→s₅.heap.get? b=some o:=fun b o e hz h1 h2 hx=>by
    refine bc fun ng=>?_
    obtain⟨sl,e3,f3⟩:=Rep.snap_keepZ (s:={s₁ with heap:=h',toks:=tk'}) r₅ e hz (fun q=>r₂.hr.notZ b q hz) h1 h2
    refine ng ?_;clear ng
    rw[e3,f3 hx]
   refine⟨W.frame _ _ _ hS' fun b hb o e=>?_,fun b hb=>?_,fun j v y a b=>Rep.snap_rv (s:={s₁ with heap:=h',toks:=tk'}) r₂ r₅ ((hv j v y a b).mono ag fun b hb _=>hb),?_,?_⟩
   ·rcases hf b hb with rfl|⟨q,_⟩
    ·refine bc fun ng=>?_
     refine xe2 (hfld _ _ hS') ?_
     intro oI vs' qz134
     refine xa2 qz134 ?_
     clear qz134
     rintro e1 e2
     refine ng ?_;clear ng
     obtain rfl:oI=o:=sj (e1.symm.trans e)
     exact exact' b oI e hI.1 hI.2.2.1 hI.2.2.2 (.inl ⟨vs',e2⟩)
    ·exact Rep.snap_keep (s:={s₁ with heap:=h',toks:=tk'}) r₅ e q.1 q.2
   ·rcases hf b hb with q|⟨q,o,e⟩
    ·exact .inl q
    ·have e3:h'.get? b=some o:=kk b o (fun z=>q.2 (z▸hI.1)) e
     refine .inr ⟨⟨fun z=>?_,q.2⟩,o,Rep.snap_keep (s:={s₁ with heap:=h',toks:=tk'}) r₅ e3 q.1 q.2⟩
     rcases Rep.snap_new (s:={s₁ with heap:=h',toks:=tk'}) r₂ r₅ z with z|z
     ·exact q.1 z
     ·rw[show h'.get? b=none from z] at e3;exact nope1 e3
   ·refine bc fun ng=>?_
    obtain⟨k,e⟩:=hpl'
    refine ng ?_;clear ng
    exact⟨k,exact' acc _ e hAcc.1 hAcc.2.2.1 hAcc.2.2.2 (.inr (.inl ⟨_,_,rfl⟩))⟩
   ·exact⟨hys'.1,fun j v y a b=>Rep.snap_rv (s:={s₁ with heap:=h',toks:=tk'}) r₂ r₅ (hys'.2 j v y a b)⟩
  have weak:∀{l₅ H₅ s₅},Rep w h0 c l₅ H₅ s₅→l₅=l'→Rep w h0 c l0 H₅ s₅:=by
   rintro l₅ H₅ s₅ r₅ rfl
   exact r₅.weaken (hbase y _ hbt).1 (hbase y _ hbt).2
  refine wpAny_mono (hT (c.snap h' H₁) rfl rfl ac' l0 l' H₁ y v (.ref I) _ Err hbt rs rvv ⟨i+1,rfl,hS'⟩) (fun _ s₂ hs₂=>wpAny_mono hs₂ (fun _ s₃ ⟨r₃,hcs⟩=>?_) fun _ _ e=>e) fun _ _ e=>e
  have hkz3:∀b o,(∃x,c.env.cells.lookup x=some b)→s0.get? b=some o→SlK s₃.heap b o:=fun b o hx e=>by
   refine bc fun ng=>?_
   obtain⟨sl,e1,f1⟩:=hkz b o hx e
   refine xe1 (hx) ?_
   try clear hx
   rintro x hx'
   refine ng ?_;clear ng
   exact⟨sl,hcs b _ ⟨x,hx'⟩ (kk b _ (fun q=>hI.2.2.2 x (q▸hx')) e1),f1⟩
  have stz:∀{H₃ H₄:Hp} {s₃ s₄:Shared},St w h0 c.Z H₃ H₄ s₃ s₄→(∀b o,(∃x,c.env.cells.lookup x=some b)→s0.get? b=some o→SlK s₃.heap b o)→∀b o,(∃x,c.env.cells.lookup x=some b)→s0.get? b=some o→SlK s₄.heap b o:=fun st hz b o hx e=>by
   refine bc fun ng=>?_
   refine xe1 (hx) ?_
   try clear hx
   rintro x hx'
   refine ng ?_;clear ng
   exact(hz b o ⟨x,hx'⟩ e).trans fun o' e1 _=>st.keepZ b o' (c.zc x b hx') e1
  refine J.run (hc (c.snap h' H₁) rfl rfl ac' l' H₁ (fun b H₃=>(b=true→vcE w h0 n (fun _=>False) e l' H₃ fun u H₄=>compV _ (xs.drop (i+1)) (ys++[u]) H₄ Q)∧(b=false→compV _ (xs.drop (i+1)) ys H₃ Q)) hq) r₃ HE.none fun ok ok' H₃ s₄ p₄ r₄ rv₄ st₄=>?_
  cases rv₄
  cases ok with
  |false=>
   rw[if_neg (by decide)]
   refine bc fun ng=>?_
   refine xa5 (turnEnd r₄) ?_
   rintro t1 t2 t3 t4 t5
   refine ng ?_;clear ng
   exact⟨xs.length-(i+1),by exact li3 4 [] [_,_,_,_] (.sb U1 (.a U0 O1) U2) (.sb U1 U0 U3) (.nlt U0 U1) (.nlt U2 U3) rfl (ns (xs.length) (i+1)) (ns (xs.length) (i)) hlt,i+1,H₃,ys,vs,hlt,rfl,by exact li1 2 [] [_,_] (.nle U0 U1) (.nle U0 (.a U1 O1)) rfl hyl,stz st₄ hkz3,weak (Rep.unsnap (s:={s₁ with heap:=h',toks:=tk'}) r₂ r₄) rfl,t1,t2,t3,t4,t5,p₄.2 rfl⟩
  |true=>
   rw[if_pos rfl]
   refine J.run (he (c.snap h' H₁) rfl rfl ac' _ l' H₃ _ (p₄.1 rfl)) r₄ HE.none fun x u H₄ s₅ p₅ r₅ rv₅ st₅=>?_
   refine bc fun ng=>?_
   refine xa5 (turnEnd r₅) ?_
   rintro t1 t2 t3 t4 t5
   refine ng ?_;clear ng
   refine wpAny_list_append_plain t4 (fun h₆ hp₆ sb=>?_) (by rw[List.size_toArray,t5.1];exact Nat.le_trans (Nat.le_trans hyl (Nat.le_trans hle hlen)) (by decide))
   have e6:vs.toArray.push x=(vs++[x]).toArray:=by simp
   rw[e6] at hp₆
   have kk6:∀b o,b≠acc→s₅.heap.get? b=some o→h₆.get? b=some o:=fun b o hb e=>(sb.2 b hb).trans e
   have r₆:Rep w h0 c l' H₄ {s₅ with heap:=h₆}:=(Rep.unsnap (s:={s₁ with heap:=h',toks:=tk'}) r₂ r₅).movedY (k:=s₅.toks) (Y:=fun b=>b=acc) (fun b q=>q▸hAcc) (fun b o q e=>kk6 b o q e) fun b q=>by
    subst q;obtain⟨k,e⟩:=hp₆;exact⟨_,e⟩
   have ag6:Agr (Pu H₄ c.Z) s₅.heap h₆:=fun b o hb e=>kk6 b o (fun q=>hb.2 (q▸hAcc.1)) e
   refine⟨xs.length-(i+1),by exact li3 4 [] [_,_,_,_] (.sb U1 (.a U0 O1) U2) (.sb U1 U0 U3) (.nlt U0 U1) (.nlt U2 U3) rfl (ns (xs.length) (i+1)) (ns (xs.length) (i)) hlt,i+1,H₄,ys++[u],vs++[x],hlt,rfl,by simp;(exact li1 2 [] [_,_] (.nle U0 U1) (.nle U0 U1) rfl hyl),(fun b o hx e=>(stz st₅ (stz st₄ hkz3) b o hx e).trans fun o' e1 _=>⟨o'.slots,kk6 b o' (fun q=>by obtain⟨x,hx'⟩:=hx;exact hAcc.2.2.2 x (q▸hx')) e1,fun _=>rfl⟩),weak r₆ rfl,W.frame _ _ _ t1 fun b hb o e=>kk6 b o (fun q=>?_) e,fun b hb=>?_,fun j v y a b=>(t3 j v y a b).mono ag6 fun b hb _=>hb,hp₆,(t5.mono ag6 fun b hb _=>hb).append (.cons (rv₅.mono ag6 fun b hb _=>hb) .nil),p₅⟩
   ·rcases t2 b hb with z|⟨z,_⟩
    ·exact hne (q.symm.trans z)
    ·exact z.2 (q▸hAcc.1)
   ·rcases t2 b hb with z|⟨z,o,e⟩
    ·exact .inl z
    ·exact .inr ⟨z,o,kk6 b o (fun q=>z.2 (q▸hAcc.1)) e⟩
 ·have hieq:i=xs.length:=li2 2 [] [_,_] (.nle U0 U1) (.no (.nlt U0 U1)) (.neq U0 U1) rfl hle hlt
  subst hieq
  refine W.done s₁ _ _ hS fun h' tk' hkk=>?_
  rw[List.drop_length] at hq
  exact hR s₁ h' tk' H₁ ys vs r₁ hkz (fun b o hb e=>hkk b o (by simpa using hb) e) hpl hys hq
section
variable{Y:Addr→Prop}{O:CompOK c scope clos vars}{hL:Y L}{hYc:∀x a,c.env.cells.lookup x=some a→¬Y a}
theorem Rep.compOut'(r:Rep w h0 c l H s)(r':Rep w h0 (compCx c scope clos vars L Y s.heap H O hL hYc) l' H' s')(hY:∀b,Y b→s.heap.get? b=none)
  (hcap:∀x a,clos.lookup x=some a→∃j i,cap[j]? =some (some i)∧vars[nv+j]? =some x∧c.vars[i]? =some x∧c.env.kindOf x=some .cell∧(compScope scope c.env).names.lookup x=some .cell)
  (hl':∀(j i:Nat) (u:V),cap[j]? =some (some i)→getL l i=some u→l'[nv+j]? =some (some u))
  (hk:∀b o,¬Y b→s'.heap.get? b=some o→h'.get? b=some o):
  Rep w h0 c l H' {s' with heap:=h',toks:=tk}∧(∀v x,RV s.heap (Pu H c.Z) v x→RV h' (Pu H' c.Z) v x)∧(∀v x,RV s'.heap (Pu H' (compCx c scope clos vars L Y s.heap H O hL hYc).Z) v x→RV h' (Pu H' c.Z) v x):=by
 have base:=r.compOut r' hY hcap hl'
 have zy:∀b,Y b→(compCx c scope clos vars L Y s.heap H O hL hYc).Z b:=fun b q=>.inr q
 have cy:∀{b},c.Z b→¬Y b:=fun {b} hz q=>by obtain⟨o,e⟩:=r.hr.inH b hz;rw[hY b q] at e;exact nope1 e
 have fy:∀{b},foot H' b→¬Y b:=fun {b} hf q=>r'.hr.notZ b hf (zy b q)
 have ag:Agr (Pu H' (compCx c scope clos vars L Y s.heap H O hL hYc).Z) s'.heap h':=fun b o hb e=>hk b o (fun q=>hb.2 (zy b q)) e
 have back:∀v x,RV s'.heap (Pu H' (compCx c scope clos vars L Y s.heap H O hL hYc).Z) v x→RV h' (Pu H' c.Z) v x:=fun v x rv=>rv.mono ag fun b hb _=>⟨hb.1,fun q=>hb.2 (.inl q)⟩
 have fwd:∀v x,RV s.heap (Pu H c.Z) v x→RV h' (Pu H' c.Z) v x:=fun v x rv=>rv.mono (fun b o hb e=>hk b o (fun q=>by rw[hY b q] at e;exact nope1 e) (comp_keep r' hY e hb.1 hb.2)) fun b hb ⟨o,e⟩=>⟨fun q=>by
  rcases comp_new r r' q with q|q
  ·exact hb.1 q
  ·exact(nomatch e.symm.trans q),hb.2⟩
 refine bc fun ng=>?_
 refine xe1 (r.lr.ns) ?_
 intro m qz135
 refine xa2 qz135 ?_
 clear qz135
 rintro hn hv
 refine xe1 (r'.lr.ns) ?_
 intro m' qz136
 refine xa2 qz136 ?_
 clear qz136
 rintro hn' hv'
 refine ng ?_
 refine⟨⟨⟨fun b o e=>hk b o (fun q=>?_) (r'.hr.keep b o e),r'.hr.fresh,fun b hb q=>r'.hr.notZ b hb (.inl q),fun b hb=>?_,fun b hb=>r.hr.zf b hb,fun a o e=>?_,r'.hr.apart⟩,⟨⟨m,?_,fun k x u hk' hu=>?_⟩,r.lr.len,fun x a ha=>?_⟩,fun b o e hF hZ=>?_,fun b o e hZ=>?_,base.new,base.gens,base.os⟩,fwd,back⟩
 ·have:=r'.hr.zf b (zy b q);rw[this] at e;exact nope1 e
 ·obtain⟨o,e⟩:=base.hr.inH b hb;exact⟨o,hk b o (cy hb) e⟩
 ·refine(r'.hr.obj a o e).mono ag (fun b hb _=>⟨hb.1,fun q=>hb.2 (.inl q)⟩) fun b hb=>?_
  refine bc fun ng=>?_
  refine xe1 ((r'.hr.obj a o e).there hb) ?_
  rintro ob eb
  refine ng ?_
  rw[eb,hk b ob (fy (hb.foot e)) eb]
 ·refine bc fun ng=>?_
  obtain⟨o,es,ep,ho,hd,rest⟩:=hn
  obtain⟨sl,e1,_⟩:=comp_keepZ r' hY ho (fun q=>r.hr.notZ _ q c.zl) c.zl fun x q=>c.cl x _ (O.sub x _ q) rfl
  refine ng ?_
  exact⟨_,es,ep,hk _ _ (cy c.zl) e1,hd,rest⟩
 ·rcases hv k x u hk' hu with⟨h1,v,h2,h3⟩|⟨h1,a,o,v,h2,h3,h4,h5⟩
  ·exact .inl ⟨h1,v,h2,fwd v u h3⟩
  ·by_cases hc:∃y,clos.lookup y=some a
   ·refine bc fun ng=>?_
    refine xe1 (hc) ?_
    try clear hc
    rintro y hy
    refine ng ?_
    obtain rfl:y=x:=c.ci y x a (O.sub y a hy) h2
    refine bc fun ng=>?_
    refine xe2 (hcap y a hy) ?_
    intro j i qz137
    refine xa5 qz137 ?_
    clear qz137
    rintro c1 c2 c3 c4 c5
    refine ng ?_
    have hik:i=k:=by
     refine bc fun ng=>?_
     refine xe1 (List.getElem?_eq_some_iff.mp c3) ?_
     rintro p1 q1
     refine xe1 (List.getElem?_eq_some_iff.mp hk') ?_
     rintro p2 q2
     refine ng ?_
     exact(List.getElem_inj c.nd).mp (q1.trans q2.symm)
    subst hik
    rcases hv' (nv+j) y u c2 (hl' j i u c1 (getL_iff.mpr hu)) with⟨q,w1,_⟩|⟨q,a',o',v',ha',ho',hd',hrv'⟩
    ·exfalso
     have hz:(compScope scope c.env).names.lookup y=some .local:=q
     rw[c5] at hz;cases hz
    ·exact .inr ⟨.inl c4,a',o',v',O.sub y a' ha',hk a' o' (hYc y a' (O.sub y a' ha')) ho',hd',back v' u hrv'⟩
   ·refine bc fun ng=>?_
    obtain⟨sl,e1,_⟩:=comp_keepZ r' hY h3 (fun q=>r.hr.notZ _ q (c.zc x a h2)) (c.zc x a h2) fun y q=>hc ⟨y,q⟩
    refine ng ?_
    exact .inr ⟨h1,a,_,v,h2,hk _ _ (hYc x a h2) e1,h4,fwd v u h5⟩
 ·refine bc fun ng=>?_
  refine xe2 (base.lr.cells x a ha) ?_
  intro o v qz138
  refine xa2 qz138 ?_
  clear qz138
  rintro ho hd
  refine ng ?_
  exact⟨o,v,hk a o (hYc x a ha) ho,hd⟩
 ·refine hk b o (fun q=>?_) (base.old b o e hF hZ)
  have:=r.e_none (hY b q);rw[this] at e;exact nope1 e
 ·refine bc fun ng=>?_
  obtain⟨sl,e1,f1⟩:=base.oldZ b o e hZ
  refine ng ?_
  exact⟨sl,hk b _ (cy hZ) e1,f1⟩
end
structure CompAll(c:Cx)(scope:Scope)(clos:List (Str×Addr))(vars:List Str)(nv:Nat)(cap:List (Option Nat)):Prop where
 O:CompOK c scope clos vars
 len:vars.length=nv+cap.length
 inn:∀(j i:Nat) (x:Str),cap[j]? =some (some i)→vars[nv+j]? =some x→c.vars[i]? =some x∧c.env.kindOf x=some .cell∧(compScope scope c.env).names.lookup x=some .cell∧(clos.lookup x).isSome=true
 out:∀x a,clos.lookup x=some a→∃j i,cap[j]? =some (some i)∧vars[nv+j]? =some x∧c.vars[i]? =some x∧c.env.kindOf x=some .cell∧(compScope scope c.env).names.lookup x=some .cell
theorem comp_core{pos:Pos}{e cnd:E}{P:Nat→Value→Prop}{Q:List V→Hp→Prop}
  (CA:CompAll c scope clos vars nv cap) (hif:ifs=[]∨∃cnd,ifs=[cnd]) (ac:Act c A (n+1)) (hA:A.handled=none)
  (hT:∀L,TgOK w h0 n A (compEnv scope c.env L clos) vars t target (fun it h=>∃i,it=.ref s.heap.objs.size∧St' i h))
  (hc:∀c' L,c'.env=compEnv scope c.env L clos→c'.vars=vars→Act c' A (n+1)→∀l H (Q:Bool→Hp→Prop),(vcE w h0 n (fun _=>False) cnd l H fun v H'=>BoolP v fun b=>Q b H')→J w h0 EqR c' A (fun _=>False) (condOf ifs c'.env) l H Q)
  (he:∀c' L,c'.env=compEnv scope c.env L clos→c'.vars=vars→Act c' A (n+1)→SoA w h0 n c' A e elt)
  (r:Rep w h0 c l H s) (W:Walks pw w A s.heap.objs.size fp [s.heap.objs.size] xs.length P St') (hfld:∀i h,St' i h→∃o vs,h.get? s.heap.objs.size=some o∧o.data=.fields vs)
  (h0':St' 0 (s.heap.push oI)) (hfp:∀b∈fp,b=s.heap.objs.size∨(Pu H c.Z b∧∃o,s.heap.get? b=some o)) (hP:∀(j:Nat) (v:Value) (y:V),P j v→xs[j]? =some y→RV s.heap (Pu H c.Z) v y) (hlen:xs.length≤100000)
  (hbase:∀x l',bindT t x (capL nv cap l)=some l'→(capL nv cap l).length=l'.length∧∀(k:Nat) (u:V),(capL nv cap l)[k]? =some (some u)→l'[k]? =some (some u))
  (h:compV (fun x H₂ K=>OptP (bindT t x (capL nv cap l)) fun l'=>vcE w h0 n (fun _=>False) cnd l' H₂ fun p H₃=>BoolP p fun b=>(b=true→vcE w h0 n (fun _=>False) e l' H₃ fun u H₄=>K (some u) H₄)∧(b=false→K none H₃)) xs [] H Q)
  (hns:h₃.Ns (s.heap.objs.size+2) (fun _=>none)) (hsb:Heap.SameBut (s.heap.objs.size+2) (((s.heap.push oI).push {cls:=.type "list",data:=.seq #[]}).push {cls:=.type "dict",data:=.dict #[]}) h₃):
  codeAny (MM w) A (.compStart (.ListComp elt [⟨target,iter,ifs,0⟩] scope pos) 0 (.ref s.heap.objs.size) (.ref (s.heap.objs.size+1)) (compEnv scope c.env (s.heap.objs.size+2) clos)) (fun r s'=>∃m,s'.heap.Ns (s.heap.objs.size+2) m∧(∃f,r=.ok f)∧
   ∀h'' tk'',(∀b o,b≠s.heap.objs.size+2→s'.heap.get? b=some o→h''.get? b=some o)→∃ys H',RV h'' (Pu H' c.Z) (.ref (s.heap.objs.size+1)) (.lst ys)∧St w h0 c.Z H H' s {s' with heap:=h'',toks:=tk''}∧Rep w h0 c l H' {s' with heap:=h'',toks:=tk''}∧Q ys H')
   {s with heap:=h₃,toks:=tk}:=by
 have lt:∀{b o},s.heap.get? b=some o→b< s.heap.objs.size:=fun e=>Heap.lt_size e
 have nn:∀k,s.heap.get? (s.heap.objs.size+k)=none:=fun k=>by
  cases e:s.heap.get? (s.heap.objs.size+k) with
  |none=>rfl
  |some o=>exact absurd (lt e) (Nat.not_lt.mpr (Nat.le_add_right _ _))
 let Y:Addr→Prop:=fun b=>b=s.heap.objs.size∨b=s.heap.objs.size+1∨b=s.heap.objs.size+2
 have hYn:∀b,Y b→s.heap.get? b=none:=fun b q=>by
  rcases q with rfl|rfl|rfl
  ·exact nn 0
  ·exact nn 1
  ·exact nn 2
 have hzY:∀{b},c.Z b→¬Y b:=fun {b} hz q=>by obtain⟨o,e⟩:=r.hr.inH b hz;rw[hYn b q] at e;exact nope1 e
 have hYc:∀x a,c.env.cells.lookup x=some a→¬Y a:=fun x a ha=>hzY (c.zc x a ha)
 have sz1:(s.heap.push oI).objs.size=s.heap.objs.size+1:=Heap.size_push ..
 have sz2:((s.heap.push oI).push {cls:=.type "list",data:=.seq #[]}).objs.size=s.heap.objs.size+2:=by rw[Heap.size_push,sz1]
 have g1:∀b o,(s.heap.push oI).get? b=some o→h₃.get? b=some o:=fun b o e=>by
  have hb:b< s.heap.objs.size+1:=sz1▸Heap.lt_size e
  rw[hsb.2 b (Nat.ne_of_lt (Nat.lt_succ_of_lt hb))]
  exact Heap.get?_push_of_some _ (Heap.get?_push_of_some _ e)
 have hk3:∀b o,s.heap.get? b=some o→h₃.get? b=some o:=fun b o e=>g1 b o (Heap.get?_push_of_some _ e)
 have hS3:St' 0 h₃:=W.frame _ _ _ h0' fun b _ o e=>g1 b o e
 have hacc3:h₃.get? (s.heap.objs.size+1)=some {cls:=.type "list",data:=.seq #[]}:=by
  rw[hsb.2 _ (Nat.ne_of_lt (Nat.lt_succ_self _))]
  refine Heap.get?_push_of_some _ ?_
  rw[←sz1];exact Heap.get?_push_size _ rfl
 have hYe:∀b,Y b→s.heap.get? b=none∧∃o,h₃.get? b=some o:=fun b q=>⟨hYn b q,by
  rcases q with rfl|rfl|rfl
  ·obtain⟨o,_,e,_⟩:=hfld _ _ hS3;exact⟨o,e⟩
  ·exact⟨_,hacc3⟩
  ·obtain⟨o,_,_,e,_⟩:=hns;exact⟨o,e⟩⟩
 have hLY:Y (s.heap.objs.size+2):=.inr (.inr rfl)
 let cc:=compCx c scope clos vars (s.heap.objs.size+2) Y s.heap H CA.O hLY hYc
 have rc:Rep w h0 cc (capL nv cap l) H {s with heap:=h₃,toks:=tk}:=r.compIn hk3 hYe hns CA.len CA.inn
 have ccn:∀{b},Y b→cc.e b=none:=fun {b} q=>if_pos (.inr (.inl q))
 have mo:∀b,Pu H c.Z b→(∃o,s.heap.get? b=some o)→Pu H cc.Z b:=fun b hb ⟨o,e⟩=>⟨hb.1,fun q=>by
  rcases q with q|q
  ·exact hb.2 q
  ·rw[hYn b q] at e;exact nope1 e⟩
 have acc':Act cc A (n+1):=by
  refine bc fun ng=>?_
  obtain⟨h1,h2,h3,fl,h4,h5⟩:=ac
  refine ng ?_
  refine⟨h1,h2,h3,fl,h4,fun env he=>?_⟩
  refine bc fun ng=>?_
  obtain⟨hk,L',hL',hZ,hL2⟩:=h5 env he
  refine ng ?_
  refine⟨hk,L',hL',.inl hZ,.inr ?_⟩
  have key:∃o,s.heap.get? L'=some o∧¬Fx o.data∧∀x,c.env.cells.lookup x≠some L':=by
   rcases hL2 with rfl|⟨o,ho,hd⟩
   ·refine bc fun ng=>?_
    refine xe1 (r.lr.ns) ?_
    intro m qz139
    refine xa2 qz139 ?_
    clear qz139
    rintro⟨o,es,ep,ho,hd,_⟩ _
    refine ng ?_
    exact⟨o,ho,fx_dict hd,fun x q=>c.cl x _ q rfl⟩
   ·refine bc fun ng=>?_
    obtain⟨sl,e1,_⟩:=r.oldZ L' o ho hZ
    refine ng ?_
    exact⟨_,e1,hd,(fun x q=>by rw[c.ec x L' q] at ho;exact nope1 ho)⟩
  refine bc fun ng=>?_
  refine xe1 (key) ?_
  try clear key
  intro o qz140
  refine xa3 qz140 ?_
  clear qz140
  rintro ho hd hx
  refine ng ?_
  exact⟨o,comp_e ho (fun q=>r.hr.notZ L' q hZ) (hzY hZ) fun x q=>hx x (CA.O.sub x L' q),hd⟩
 have yI:Y s.heap.objs.size:=.inl rfl
 have yA:Y (s.heap.objs.size+1):=.inr (.inl rfl)
 have yfree:∀{b},Y b→b≠s.heap.objs.size+2→cc.Z b∧cc.e b=none∧b≠cc.env.locals∧∀x,cc.env.cells.lookup x≠some b:=fun {b} q hne=>⟨.inr q,ccn q,hne,fun x z=>hYc x b (CA.O.sub x b z) q⟩
 have loop:∀s₀,s₀=({s with heap:=h₃,toks:=tk}:Shared)→codeAny (MM w) A (.compLoop (.ListComp elt [⟨target,iter,ifs,0⟩] scope pos) 0 (.ref s.heap.objs.size) (.ref (s.heap.objs.size+1)) cc.env) (fun r s'=>∃m,s'.heap.Ns (s.heap.objs.size+2) m∧(∃f,r=.ok f)∧
   ∀h'' tk'',(∀b o,b≠s.heap.objs.size+2→s'.heap.get? b=some o→h''.get? b=some o)→∃ys H',RV h'' (Pu H' c.Z) (.ref (s.heap.objs.size+1)) (.lst ys)∧St w h0 c.Z H H' s {s' with heap:=h'',toks:=tk''}∧Rep w h0 c l H' {s' with heap:=h'',toks:=tk''}∧Q ys H') s₀:=by
  rintro _ rfl
  refine comp_walk (c:=cc) hif acc' hA (hT _) (fun c' a b d=>a▸hc c' _ a b d) (fun c' a b d=>he c' _ a b d) (yfree yI (Nat.ne_of_lt (Nat.lt_add_of_pos_right (by decide)))) (yfree yA (Nat.ne_of_lt (Nat.lt_succ_self _))) (Nat.ne_of_gt (Nat.lt_succ_self _)) W hfld rc hS3
   (fun b hb=>?_) (fun j v y a b=>(hP j v y a b).mono (fun b o _ e=>hk3 b o e) mo) ⟨0,hacc3⟩ hlen h hbase (fun s₁ h' tk' H' ys vs r₁ hkz hk' hpl hys hq=>?_)
  ·rcases hfp b hb with q|⟨q,o,e⟩
   ·exact .inl q
   ·exact .inr ⟨mo b q ⟨o,e⟩,o,hk3 _ _ e⟩
  ·have iL:s.heap.objs.size+1≠s.heap.objs.size+2:=Nat.ne_of_lt (Nat.lt_succ_self _)
   have iI:s.heap.objs.size+1≠s.heap.objs.size:=Nat.ne_of_gt (Nat.lt_succ_self _)
   have LI:s.heap.objs.size+2≠s.heap.objs.size:=Nat.ne_of_gt (Nat.lt_add_of_pos_right (by decide))
   refine bc fun ng=>?_
   refine xe1 (r₁.lr.ns) ?_
   intro mL qz141
   refine xa2 qz141 ?_
   clear qz141
   rintro⟨oL,esL,epL,hoL,restL⟩ _
   refine ng ?_
   refine⟨mL,⟨oL,esL,epL,hk' _ _ LI hoL,restL⟩,⟨_,rfl⟩,fun h'' tk'' hk''=>?_⟩
   have kk:∀b o,¬Y b→s₁.heap.get? b=some o→h''.get? b=some o:=fun b o hb e=>hk'' b o (fun q=>hb (.inr (.inr q))) (hk' b o (fun q=>hb (.inl q)) e)
   obtain⟨R',fwd,back⟩:=Rep.compOut' (s':=s₁) (h':=h'') (tk:=tk'') (nv:=nv) (cap:=cap) r r₁ hYn CA.out (fun j i u a b=>by
    delta capL
    rw[List.getElem?_append_right (by simp),List.length_replicate,Nat.add_sub_cancel_left,List.getElem?_map,a]
    simp[capOf,b]) kk
   refine⟨ys,H',?_,⟨R'.hr,fun b o e hF hZ=>kk b o (fun q=>by rw[hYn b q] at e;exact nope1 e) (comp_keep r₁ hYn e hF hZ),fun b o hz e=>?_,fun b hb=>comp_new r r₁ hb,r₁.gens.trans r.gens.symm,r₁.os.trans r.os.symm⟩,R',hq⟩
   ·have hpl2:h''.PlainList (s.heap.objs.size+1) vs.toArray:=by obtain⟨k,e⟩:=hpl;exact⟨k,hk'' _ _ iL (hk' _ _ iI e)⟩
    exact .lst ⟨fun q=>r₁.hr.notZ _ q (.inr yA),fun q=>hzY q yA⟩ hpl2 hys.1 fun i v x a b=>back v x (hys.2 i v x a b)
   ·have hs1:SlK s₁.heap b o:=by
     by_cases hx:∃x,clos.lookup x=some b
     ·exact hkz b o hx (hk3 b o e)
     ·exact comp_keepZ r₁ hYn e (fun q=>r.hr.notZ b q hz) hz fun x q=>hx ⟨x,q⟩
    refine bc fun ng=>?_
    obtain⟨sl,e1,f1⟩:=hs1
    refine ng ?_
    exact⟨sl,kk b _ (hzY hz) e1,f1⟩
 exact codeAny_compStart_list (loop _ rfl) (W.self 0 _ _ _ hS3 (loop _ rfl))
structure CompR(w:World)(h0:Heap)(n:Nat)(c:Cx)(A:Around)(elt target iter:Expr)(ifs:List Expr)(scope:Scope)(clos:List (Str×Addr))(vars:List Str)(nv:Nat)(cap:List (Option Nat))(t:Tg)(cnd e:E):Prop where
 CA:CompAll c scope clos vars nv cap
 hif:ifs=[]∨∃cnd,ifs=[cnd]
 hfold:∀x,foldedSetIterable iter c.env x=pure x
 hclo:closureFor scope c.env=pure clos
 hnc:∀x∈scope.names,x.2≠.cell
 hnames:∀x∈scope.names,x.2=.local→(compScope scope c.env).names.lookup x.1=some .local
 hT:∀L (It:Value→Heap→Prop),(∀it h,It it h→∃I,it=.ref I∧∃o,h.get? I=some o∧(o.cls=.type "list_iterator"∨∃k,t=.nm k))→TgOK w h0 n A (compEnv scope c.env L clos) vars t target It
 hc:∀c' L,c'.env=compEnv scope c.env L clos→c'.vars=vars→Act c' A (n+1)→∀l H (Q:Bool→Hp→Prop),(vcE w h0 n (fun _=>False) cnd l H fun v H'=>BoolP v fun b=>Q b H')→J w h0 EqR c' A (fun _=>False) (condOf ifs c'.env) l H Q
 he:∀c' L,c'.env=compEnv scope c.env L clos→c'.vars=vars→Act c' A (n+1)→SoA w h0 n c' A e elt
 hbase:∀l x l',bindT t x (capL nv cap l)=some l'→(capL nv cap l).length=l'.length∧∀(k:Nat) (u:V),(capL nv cap l)[k]? =some (some u)→l'[k]? =some (some u)
theorem so_comp_list{pos:Pos}{e cnd it:E}(ac:Act c A (n+1))(hA:A.handled=none)
  (R:CompR w h0 n c A elt target iter ifs scope clos vars nv cap t cnd e) (ha:So w h0 n c A X l it iter):So w h0 n c A X l (.comp nv cap t false it cnd e) (.ListComp elt [⟨target,iter,ifs,0⟩] scope pos):=fun H Q h s E' r hE=>by
 rw[PySem.eval_ListComp]
 refine comp_go (use:=none) rfl R.hfold R.hclo R.hnc R.CA.O.kind R.hnames (J.run (ha H _ h) r hE fun v y H₁ s₁ p r₁ rv st=>?_)
 have lens:∀{oI:Obj},(s₁.heap.push oI).objs.size=s₁.heap.objs.size+1:=fun {oI}=>Heap.size_push ..
 replace p:=items_f p
 refine bc fun ng=>?_
 refine xe1 (p) ?_
 try clear p
 intro xs qz142
 refine xa3 qz142 ?_
 clear qz142
 rintro rfl hlen p
 refine xe2 (RV.lst_iff.mp rv) ?_
 intro tA vs qz143
 refine xa4 qz143 ?_
 clear qz143
 rintro rfl hp ht rvs
 refine ng ?_
 have hlt:tA≠s₁.heap.objs.size:=by obtain⟨o,ho⟩:=ht;exact Nat.ne_of_lt (Heap.lt_size ho)
 refine wpAny_pyIter_list ht.isList fun h₃ tk hns hsb=>?_
 dsimp only at hns hsb⊢
 rw[lens] at hns hsb⊢
 have W:=Walks.list (prog:=pw) (w:=w) (A:=A) hA s₁.heap.objs.size tA hlt vs.toArray
 have esz:vs.toArray.size=xs.length:=by simp[rvs.1]
 rw[esz] at W
 have f1:∀L,TgOK w h0 n A (compEnv scope c.env L clos) vars t target (fun it h=>∃i,it=.ref s₁.heap.objs.size∧(h.IsListIter s₁.heap.objs.size tA i∧h.IsList tA vs.toArray)):=fun L=>R.hT L _ (by
  rintro it h ⟨i,e1,⟨o,ho,hcls,_⟩,_⟩;exact⟨_,e1,o,ho,.inl hcls⟩)
 have f2:∀(i:Nat) (h:Heap),(h.IsListIter s₁.heap.objs.size tA i∧h.IsList tA vs.toArray)→∃o vs',h.get? s₁.heap.objs.size=some o∧o.data=.fields vs':=by
  rintro i h ⟨⟨o,ho,_,hd⟩,_⟩;exact⟨o,_,ho,hd⟩
 have f3:∀b∈[s₁.heap.objs.size,tA],b=s₁.heap.objs.size∨(Pu H₁ c.Z b∧∃o,s₁.heap.get? b=some o):=by
  intro b hb
  simp only[List.mem_cons,List.not_mem_nil,or_false] at hb
  rcases hb with hb|rfl
  ·exact .inl hb
  ·exact .inr ⟨hp,by obtain⟨o,ho⟩:=ht;exact⟨_,ho⟩⟩
 have CC:=comp_core (elt:=elt) (target:=target) (iter:=iter) (scope:=scope) (pos:=pos) (oI:={cls:=.type "list_iterator",data:=.fields #[.ref tA,.int 0 0]}) (tk:=tk) (h₃:=h₃) (Q:=fun ys H₂=>Q (.lst ys) H₂) R.CA R.hif ac hA f1 R.hc R.he r₁ W f2 ⟨⟨_,Heap.get?_push_size _ rfl,rfl,rfl⟩,ht.isList.push _⟩ f3 (fun j v y a b=>rvs.2 j v y (by simpa using a) b) hlen (R.hbase l) p hns hsb
 refine codeAny_mono CC ?_
 rintro r s' ⟨m,hn,hok,hq⟩
 refine⟨m,hn,hok,fun h' hs'=>?_⟩
 refine bc fun ng=>?_
 refine xe2 (hq h' s'.toks fun b o hb e=>(hs'.2 b hb).trans e) ?_
 intro ys H' qz144
 refine xa4 qz144 ?_
 clear qz144
 rintro q1 q2 _ q3
 refine ng ?_
 exact⟨.lst ys,H',q1,st.trans q2,q3⟩
theorem so_comp_range{pos:Pos}{y:Str}{e cnd it:E}(G:Top' K h0)(B:Blt K c y (.type "range"))(ac:Act c A (n+1))(hA:A.handled=none)(hs:noStar [pa]=true)
  (R:CompR w h0 n c A elt target (.Call (.Name y py) [pa] [] p3) ifs scope clos vars nv cap (.nm k) cnd e) (ha:So w h0 n c A X l it pa):So w h0 n c A X l (.comp nv cap (.nm k) true it cnd e) (.ListComp elt [⟨target,.Call (.Name y py) [pa] [] p3,ifs,0⟩] scope pos):=fun H Q h s E' r hE=>by
 rw[PySem.eval_ListComp]
 refine comp_go (use:=none) rfl R.hfold R.hclo R.hnc R.CA.O.kind R.hnames (blt_t G B hs r (args_cons (J.run (ha H _ h) r hE fun v yy H₁ s₁ p r₁ rv st=>args_nil ?_) (notStar_cons hs)))
 replace p:=items_t p
 refine bc fun ng=>?_
 refine xe1 (p) ?_
 try clear p
 intro hi qz145
 refine xa4 qz145 ?_
 clear qz145
 rintro rfl hlo hlen p
 refine xe1 (rv.int_iff) ?_
 rintro t2 rfl
 refine ng ?_
 refine call_range_1 ?_
 have st3:St w h0 c.Z H₁ H₁ s₁ {s₁ with heap:=s₁.heap.push {cls:=.type "range",data:=.fields #[.int 0 s₁.toks,.int hi t2,.int 1 (s₁.toks+1)]},toks:=s₁.toks+1+1}:=St.push r₁.hr _ _
 have r₂:=r₁.after st3
 have hhi:hi≤100000:=by
  have:(rangeV 0 hi).length=(hi-0).toNat:=by simp[rangeV]
  (exact li3 2 [_] [_,_] (.tn (.s J0 I0) U0) (.nle U1 (.c 100000)) (.neq U1 U0) (.le J0 (.c 100000)) rfl (tn (hi-0)) hlen this)
 refine bc fun ng=>?_
 obtain⟨s₂,hs₂⟩:∃s₂:Shared,s₂={s₁ with heap:=s₁.heap.push {cls:=.type "range",data:=.fields #[.int 0 s₁.toks,.int hi t2,.int 1 (s₁.toks+1)]},toks:=s₁.toks+1+1}:=⟨_,rfl⟩
 refine ng ?_
 have hrg:IsRange s₂.heap s₁.heap.objs.size 0 hi 1 s₁.toks t2 (s₁.toks+1):=by rw[hs₂];exact IsRange.new ..
 rw[←hs₂] at st3 r₂⊢
 have lens:∀{oI:Obj},(s₂.heap.push oI).objs.size=s₂.heap.objs.size+1:=fun {oI}=>Heap.size_push ..
 refine wpAny_pyIter_range hrg (small_ints (by decide) (by decide) hlo hhi) fun h₃ tk hns hsb=>?_
 dsimp only at hns hsb⊢
 rw[lens] at hns hsb⊢
 have hlen2:(rangeV 0 hi).length=(hi-0).toNat:=by simp[rangeV]
 have W:=Walks.range (prog:=pw) (w:=w) (A:=A) hA s₂.heap.objs.size 0 1 (hi-0).toNat
 rw[←hlen2] at W
 have f1:∀L,TgOK w h0 n A (compEnv scope c.env L clos) vars (.nm k) target (fun it h=>∃i,it=.ref s₂.heap.objs.size∧IsRangeIter h s₂.heap.objs.size (0+(i:Nat)*1) (((rangeV 0 hi).length:Int)-(i:Nat)) 1):=fun L=>R.hT L _ (by
  rintro it h ⟨i,e1,e2⟩;exact⟨_,e1,_,e2,.inr ⟨k,rfl⟩⟩)
 have f4:IsRangeIter (s₂.heap.push {cls:=.type "range_iterator",data:=.fields #[rawInt 0,rawInt (Builtin.Range.rangeSize 0 hi 1),rawInt 1]}) s₂.heap.objs.size (0+((0:Nat):Int)*1) (((rangeV 0 hi).length:Int)-((0:Nat):Int)) 1:=by
  show _=_
  rw[rangeSize_one,hlen2]
  simpa using Heap.get?_push_size _ rfl
 have CC:=comp_core (elt:=elt) (target:=target) (iter:=.Call (.Name y py) [pa] [] p3) (scope:=scope) (pos:=pos) (tk:=tk) (h₃:=h₃) (Q:=fun ys H₂=>Q (.lst ys) H₂) R.CA R.hif ac hA f1 R.hc R.he r₂ W (fun i h hS=>⟨_,_,hS,rfl⟩) f4 (fun b hb=>.inl (by simpa using hb)) (fun j v y hv hy=>by
  refine bc fun ng=>?_
  refine xe1 (hv) ?_
  try clear hv
  rintro t rfl
  refine ng ?_
  have hy:(rangeV 0 hi)[j]? =some y:=hy
  delta rangeV at hy
  rw[List.getElem?_map,Option.map_eq_some_iff] at hy
  refine bc fun ng=>?_
  refine xe1 (hy) ?_
  try clear hy
  intro i qz146
  refine xa2 qz146 ?_
  clear qz146
  rintro h1 rfl
  refine ng ?_
  have:i=j:=by
   refine bc fun ng=>?_
   refine xe1 (List.getElem?_eq_some_iff.mp h1) ?_
   rintro h2 h3
   refine ng ?_
   simpa using h3.symm
  subst this
  rw[show(0:Int)+(i:Int)*1=0+(i:Int) by rw[Int.mul_one]/-(first|lia|omega)-/];exact .int _ _) hlen (R.hbase l) p hns hsb
 refine codeAny_mono CC ?_
 rintro r s' ⟨m,hn,hok,hq⟩
 refine⟨m,hn,hok,fun h' hs'=>?_⟩
 refine bc fun ng=>?_
 refine xe2 (hq h' s'.toks fun b o hb e=>(hs'.2 b hb).trans e) ?_
 intro ys H' qz147
 refine xa4 qz147 ?_
 clear qz147
 rintro q1 q2 _ q3
 refine ng ?_
 exact⟨.lst ys,H',q1,(st.trans st3).trans q2,q3⟩
theorem tgOK_nm(hx:vars[k]? =some x)(hk:env.kindOf x=some .local):TgOK w h0 n A env vars (.nm k) (.Name x p) It:=fun c e1 e2 _ l l' H u v it s E' hb r rv _=>by
 subst e1;subst e2
 obtain rfl:=sj hb
 show wpAny _ _ (pure ()) _ _ _
 exact wpAny_pure (wpAny_assign_Name (store_JL hx (.inl hk) r rv fun s' r' hb=>⟨r',fun b o ⟨y,hy⟩ e=>(hb b (c.cl y b hy) (.inl hk)).trans e⟩))
theorem listIt_go{T:Addr}{o:Obj}{Q:Unit→Shared→Prop}(ho:s.heap.get? I=some o)(hc:o.cls=.type "list_iterator")(h:Q () s):wpAny M A (letOwnedTupleGo (.Tuple elts k p) (.ref I) (.ref T)) Q E' s:=by
 delta letOwnedTupleGo
 refine wpAny_bind (wpAny_load ho ?_)
 rw[hc]
 cases o.data with
 |fields vs=>
  show wpAny _ A (if(["enumerate","zip","dict_itemiterator","dict_reverseitemiterator","odict_iterator","itertools.zip_longest","itertools.pairwise"].contains "list_iterator"&&vs[0]? ==some (rawInt T))=true then _ else _) _ _ _
  rw[show(["enumerate","zip","dict_itemiterator","dict_reverseitemiterator","odict_iterator","itertools.zip_longest","itertools.pairwise"].contains "list_iterator")=false from by decide,Bool.false_and,if_neg (by decide)]
  exact wpAny_pure h
 |_=>exact wpAny_pure h
theorem names_go(ks:List Nat):∀(ps:List (Str×Pos)) (xs:List V) (vs:List Value) (l:Loc) (s:Shared) (Q:Unit→Shared→Prop),ks.length=ps.length→ks.length=xs.length→
  (∀(i k:Nat) (q:Str×Pos),ks[i]? =some k→ps[i]? =some q→c.vars[k]? =some q.1∧c.env.kindOf q.1=some .local)→Rep w h0 c l H s→RVs s.heap (Pu H c.Z) vs xs→
  (∀s',Rep w h0 c ((ks.zip xs).foldl (fun l p=>setL l p.1 p.2) l) H s'→(∀b o,(∃x,c.env.cells.lookup x=some b)→s.heap.get? b=some o→s'.heap.get? b=some o)→Q () s')→
  wpAny (MM w) A (assignInOrder (ps.map fun q=>assign (.Name q.1 q.2) c.env) vs) Q E' s:=by
 induction ks with
 |nil=>
  intro ps xs vs l s Q h1 h2 _ r rv h
  obtain rfl:ps=[]:=List.length_eq_zero_iff.mp h1.symm
  obtain rfl:xs=[]:=List.length_eq_zero_iff.mp h2.symm
  rw[rv.unnil];exact wpAny_pure (h s r fun _ _ _ e=>e)
 |cons k ks ih=>
  intro ps xs vs l s Q h1 h2 hk r rv h
  cases ps with
  |nil=>cases h1
  |cons q ps=>
   cases xs with
   |nil=>cases h2
   |cons x xs=>
    refine bc fun ng=>?_
    refine xe2 (rv.uncons) ?_
    intro v vs' qz148
    refine xa3 qz148 ?_
    clear qz148
    rintro rfl rv1 rv2
    refine xa2 (hk 0 k q rfl rfl) ?_
    rintro hx hkl
    refine ng ?_
    show wpAny _ _ (holding vs' (assign (.Name q.1 q.2) c.env v)>>=fun _=>assignInOrder (ps.map fun q=>assign (.Name q.1 q.2) c.env) vs') _ _ _
    refine wpAny_bind (wpAny_holding (wpAny_assign_Name (store_JL hx (.inl hkl) r rv1 fun s' r' hb=>?_)))
    refine ih ps xs vs' _ s' Q (Nat.succ.inj h1) (Nat.succ.inj h2) (fun i k q a b=>hk (i+1) k q a b) r' (rv2.mono (fun b o hp e=>(hb b (fun z=>hp.2 (z▸c.zl)) (.inl hkl)).trans e) fun b hb _=>hb) fun s2 r2 hb2=>h s2 r2 fun b o hy e=>hb2 b o hy ?_
    refine bc fun ng=>?_
    refine xe1 (hy) ?_
    try clear hy
    rintro y hy
    refine ng ?_
    exact(hb b (c.cl y b hy) (.inl hkl)).trans e
theorem assignEach_names(env:Env):∀ps:List (Str×Pos),assignEach (ps.map fun q=>.Name q.1 q.2) env=ps.map fun q=>(false,assign (.Name q.1 q.2) env)
 |[]=>rfl
 |q::ps=>by rw[List.map_cons,List.map_cons,←assignEach_names env ps];rfl
theorem tgOK_tp{ps:List (Str×Pos)}(hA:A.handled=none)(hlen:ks.length=ps.length)
  (hk:∀(i k:Nat) (q:Str×Pos),ks[i]? =some k→ps[i]? =some q→vars[k]? =some q.1∧env.kindOf q.1=some .local)
  (hI:∀it h,It it h→∃I,it=.ref I∧∃o,h.get? I=some o∧o.cls=.type "list_iterator"):TgOK w h0 n A env vars (.tp ks) (.Tuple (ps.map fun q=>.Name q.1 q.2) k p) It:=fun c e1 e2 _ l l' H u v it s E' hb r rv hit=>by
 subst e1;subst e2
 refine bc fun ng=>?_
 obtain⟨I,rfl,o,ho,hc⟩:=hI it s.heap hit
 refine xe1 (bindT_tp hb) ?_
 intro xs qz149
 refine xa3 qz149 ?_
 clear qz149
 rintro rfl hl rfl
 refine xe2 (RV.tup_iff.mp rv) ?_
 intro t vs qz150
 refine xa4 qz150 ?_
 clear qz150
 rintro rfl hp hT rvs
 refine ng ?_
 refine listIt_go ho hc (wpAny_assign_Tuple hA hT (by rw[assignEach_names,List.size_toArray,rvs.1,←hl,List.length_map,hlen]) (by
  rw[assignEach_names,List.findIdx?_eq_none_iff];intro x hx;obtain⟨q,_,rfl⟩:=List.mem_map.mp hx;rfl) fun h' he=>?_)
 have st2:St w h0 c.Z H H s {s with heap:=h'}:=St.grow r.hr (ext_keep (fresh_none r) he) rfl rfl
 rw[assignEach_names,List.map_map]
 exact names_go ks ps xs vs l _ _ hlen hl hk (r.after st2) (st2.rvs rvs) fun s' r' hb=>⟨r',fun b o hy e=>hb b o hy (ext_keep (fresh_none r) he b o e)⟩
theorem foldl_setL_length:∀(ps:List (Nat×V)) (l:Loc),(ps.foldl (fun l p=>setL l p.1 p.2) l).length=l.length
 |[],l=>rfl
 |p::ps,l=>by rw[List.foldl_cons,foldl_setL_length ps,setL_eq,List.length_set]
theorem foldl_setL_get:∀(ps:List (Nat×V)) (l:Loc) (j:Nat),(∀p∈ps,p.1≠j)→(ps.foldl (fun l p=>setL l p.1 p.2) l)[j]? =l[j]?
 |[],l,j,_=>rfl
 |p::ps,l,j,h=>by
  rw[List.foldl_cons,foldl_setL_get ps _ j fun q hq=>h q (List.mem_cons_of_mem _ hq),setL_eq,List.getElem?_set_ne (h p List.mem_cons_self)]
theorem base_ok(ht:tgLt nv t=true)(l:Loc)(x:V)(l':Loc)(h:bindT t x (capL nv cap l)=some l'):(capL nv cap l).length=l'.length∧∀(k:Nat) (u:V),(capL nv cap l)[k]? =some (some u)→l'[k]? =some (some u):=by
 have key:∀ps:List (Nat×V),(∀p∈ps,p.1< nv)→(capL nv cap l).length=(ps.foldl (fun l p=>setL l p.1 p.2) (capL nv cap l)).length∧∀(k:Nat) (u:V),(capL nv cap l)[k]? =some (some u)→(ps.foldl (fun l p=>setL l p.1 p.2) (capL nv cap l))[k]? =some (some u):=fun ps hp=>by
  refine⟨(foldl_setL_length ps _).symm,fun k u hu=>?_⟩
  have hk:nv≤k:=by
   refine Nat.le_of_not_lt fun hlt=>?_
   unfold capL at hu
   rw[List.getElem?_append_left (by simpa using hlt),List.getElem?_replicate,if_pos hlt] at hu
   cases hu
  rw[foldl_setL_get ps _ k fun p hq=>Nat.ne_of_lt (Nat.lt_of_lt_of_le (hp p hq) hk)]
  exact hu
 cases t with
 |nm k=>obtain rfl:=sj h;exact key [(k,x)] fun p hp=>by simp only[List.mem_singleton] at hp;subst hp;exact of_decide_eq_true ht
 |tp ks=>
  cases x<;>try(exact nope1 h;done)
  rename_i xs
  have h:(if ks.length=xs.length then some ((ks.zip xs).foldl (fun l p=>setL l p.1 p.2) (capL nv cap l)) else none)=some l':=h
  split at h
  ·obtain rfl:=sj h
   refine key _ fun p hp=>?_
   have:=(List.of_mem_zip hp).1
   exact of_decide_eq_true (List.all_eq_true.mp ht _ this)
  ·exact nope1 h
section
variable{a b d e:E}{pos:Pos}
theorem for_none{P:Nat→Value→Prop}{Q:Fl→Loc→Hp→Prop}
  (r:Rep w h0 c l H s) (hn:s.heap.get? I=none) (hkp:∀b o,s.heap.get? b=some o→h₂.get? b=some o) (ex0:∃o,h₂.get? I=some o)
  (W:Walks pw w A I fp [I] 0 P St') (h0':St' 0 h₂) (h:Q .next l H):
  codeAny (MM w) A (.forLoop target (.ref I) pbb [] c.env) (fun r s'=>match r with|.ok f=>EnS w h0 c Q f s'|.error e=>cameBackBy (MM w) A c.env E' e s') {s with heap:=h₂,toks:=tk}:=by
 have hnz:¬c.Z I:=fun q=>by obtain⟨o,e⟩:=r.hr.inH I q;rw[hn] at e;exact nope1 e
 have r0:Rep w h0 (c.addZ I) l H {s with heap:=h₂,toks:=tk}:=r.addZ hkp hn ex0
 refine codeAny_forLoop_any (fun _ s=>Rep w h0 (c.addZ I) l H s∧St' 0 s.heap) (fun m s₁ hi=>?_) 0 ⟨r0,h0'⟩
 refine W.done s₁ _ _ hi.2 fun h' tk' hkk=>?_
 exact wpAny_execs_nil ⟨.next,l,H,trivial,hi.1.finish (r.e_none hn) (fun q=>hnz (q▸c.zl)) (fun x q=>hnz (c.zc x I q)) hnz fun b o hb e=>hkk b o (by simpa using hb) e,h⟩
theorem for_nil(hA:A.handled=none)(ha:SoA w h0 n c A a pa)(hs:∀v,foldedSetIterable pa c.env v=pure v):SoS w h0 n c A (.for_ (.tp []) false a .none (.cons .stop .nil)) (.For target pa pbb [] pos):=fun X l H Q h s E' r hE=>
 wpAny_For (J.run (ha _ _ H _ h) r (hE.at l) fun v y H₁ s₁ p r₁ rv st=>by
  replace p:iterP false y .none fun xs=>xs.length≤100000∧forV (fun l' H' K=>vcSs w h0 n (fun _ _=>False) (.cons .stop .nil) l' H' K) (.tp []) xs l H₁ Q:=p
  have key:∀xs,(forV (fun l' H' K=>vcSs w h0 n (fun _ _=>False) (.cons .stop .nil) l' H' K) (.tp []) xs l H₁ Q)→xs=[]∧Q .next l H₁:=fun xs hq=>by
   cases xs with
   |nil=>exact⟨rfl,hq⟩
   |cons x xs=>obtain⟨l',_,q⟩:=OptP.ex hq;exact q.elim
  replace p:=iter_f p
  refine bc fun ng=>?_
  refine xe1 (p) ?_
  try clear p
  intro xs qz151
  refine xa2 qz151 ?_
  clear qz151
  rintro p hy
  refine xa2 (key xs p.2) ?_
  rintro rfl q
  refine ng ?_
  rcases hy with rfl|rfl
  ·refine bc fun ng=>?_
   refine xe2 (RV.tup_iff.mp rv) ?_
   intro t vs qz152
   refine xa4 qz152 ?_
   clear qz152
   rintro rfl hp ht rvs
   refine ng ?_
   rw[rvs.unnil] at ht
   have hlt:t≠s₁.heap.objs.size:=by obtain⟨o,ho,_⟩:=ht;exact Nat.ne_of_lt (Heap.lt_size ho)
   refine wpAny_pyIter_tuple ht ?_
   exact for_none r₁ (fresh_none r₁) (fun b o e=>Heap.get?_push_of_some _ e) ⟨_,Heap.get?_push_size _ rfl⟩ (Walks.tuple (prog:=pw) (w:=w) (A:=A) hA s₁.heap.objs.size t hlt [].toArray) ⟨⟨_,Heap.get?_push_size _ rfl,rfl,rfl⟩,ht.push _⟩ q
  ·refine bc fun ng=>?_
   refine xe2 (RV.lst_iff.mp rv) ?_
   intro t vs qz153
   refine xa4 qz153 ?_
   clear qz153
   rintro rfl hp ht rvs
   refine ng ?_
   rw[rvs.unnil] at ht
   have hlt:t≠s₁.heap.objs.size:=by obtain⟨o,ho⟩:=ht;exact Nat.ne_of_lt (Heap.lt_size ho)
   refine wpAny_pyIter_list ht.isList ?_
   exact for_none r₁ (fresh_none r₁) (fun b o e=>Heap.get?_push_of_some _ e) ⟨_,Heap.get?_push_size _ rfl⟩ (Walks.list (prog:=pw) (w:=w) (A:=A) hA s₁.heap.objs.size t hlt [].toArray) ⟨⟨_,Heap.get?_push_size _ rfl,rfl,rfl⟩,ht.isList.push _⟩ q) hs
theorem flatTurn0(elt target it1 t2 it2:Expr)(scope:Scope)(pos:Pos)(it acc:Value)(env:Env):
  compTurn (.ListComp elt [⟨target,it1,[],0⟩,⟨t2,it2,[],0⟩] scope pos) 0 it acc env=(standAt it1.pos>>=fun _=>pyNext it>>=fun r=>match r with
   |none=>pure (.done .next)
   |some v=>letOwnedTupleGo target it v>>=fun _=>assign target env v>>=fun _=>eval it2 env>>=fun x=>standAt it2.pos>>=fun _=>foldedSetIterable it2 env x>>=fun x=>
    holding [x] (pyIter x)>>=fun i=>runOwn (.compStart (.ListComp elt [⟨target,it1,[],0⟩,⟨t2,it2,[],0⟩] scope pos) 1 i acc env) env>>=fun _=>again (.compLoop (.ListComp elt [⟨target,it1,[],0⟩,⟨t2,it2,[],0⟩] scope pos) 0 it acc env)):=by rfl
theorem flatTurn1(elt target it1 t2 it2:Expr)(scope:Scope)(pos:Pos)(it acc:Value)(env:Env):
  compTurn (.ListComp elt [⟨target,it1,[],0⟩,⟨t2,it2,[],0⟩] scope pos) 1 it acc env=(standAt it2.pos>>=fun _=>pyNext it>>=fun r=>match r with
   |none=>pure (.done .next)
   |some v=>letOwnedTupleGo t2 it v>>=fun _=>assign t2 env v>>=fun _=>(eval elt env>>=fun x=>call (.builtin "list.append") [acc,x]>>=fun _=>pure ())>>=fun _=>
     again (.compLoop (.ListComp elt [⟨target,it1,[],0⟩,⟨t2,it2,[],0⟩] scope pos) 1 it acc env)):=by rfl
theorem flat_in{it2:Expr}{acc T:Addr}{R:Result→Shared→Prop}(hA:A.handled=none)
  (hfn:env.scope.kind=.function) (hl:env.locals=L) (hk:env.kindOf cx=some .local) (hd:(cx==("__debug__":Str))=false) (hIT:T≠I) (hIa:acc≠I) (hIL:L≠I) (hLa:acc≠L) (hTL:T≠L) (hTa:T≠acc)
  (hns:s.heap.Ns L m) (hit:s.heap.IsListIter I T 0) (hT:s.heap.IsList T ws.toArray) (hacc:s.heap.PlainList acc vs.toArray) (hlen:vs.length+ws.length≤100000)
  (hR:∀h' tk m',h'.Ns L m'→h'.PlainList acc (vs++ws).toArray→(∀b o,b≠L→b≠I→b≠acc→s.heap.get? b=some o→h'.get? b=some o)→R (.ok .next) {s with heap:=h',toks:=tk}):
  codeAny (MM w) A (.compStart (.ListComp (.Name cx cp) [⟨target,it1,[],0⟩,⟨.Name cx cp2,it2,[],0⟩] scope pos) 1 (.ref I) (.ref acc) env) R s:=by
 subst hl
 refine bc fun ng=>?_
 obtain⟨s0,hs0⟩:∃s0,s0=s:=⟨_,rfl⟩
 refine ng ?_
 have W:=Walks.list (prog:=pw) (w:=w) (A:=A) hA I T hIT ws.toArray
 have loop:codeAny (MM w) A (.compLoop (.ListComp (.Name cx cp) [⟨target,it1,[],0⟩,⟨.Name cx cp2,it2,[],0⟩] scope pos) 1 (.ref I) (.ref acc) env) R s:=by
  let Inv:Nat→Shared→Prop:=fun k s=>∃i h tk m',s={s0 with heap:=h,toks:=tk}∧i≤ws.length∧k=ws.length-i∧h.Ns env.locals m'∧(h.IsListIter I T i∧h.IsList T ws.toArray)∧h.PlainList acc (vs++ws.take i).toArray∧(∀b o,b≠env.locals→b≠I→b≠acc→s0.heap.get? b=some o→h.get? b=some o)
  refine codeAny_loop rfl Inv (fun k s₁ hI=>?_) (ws.length-0) ⟨0,s.heap,s.toks,m,by rw[hs0],Nat.zero_le _,rfl,hns,⟨hit,hT⟩,by simpa using hacc,fun b o _ _ _ e=>hs0▸e⟩
  refine bc fun ng=>?_
  obtain⟨i,h,tk,m',rfl,hi,rfl,n1,st,ac,kp⟩:=hI
  refine ng ?_
  show wpAny _ _ ((compTurn (.ListComp (.Name cx cp) [⟨target,it1,[],0⟩,⟨.Name cx cp2,it2,[],0⟩] scope pos) 1 (.ref I) (.ref acc) env).onRaise (fun x=>do noteFrame x env;theTreesLotGoes x)) _ _ _
  refine wpAny_noted ?_
  rw[flatTurn1]
  refine wpAny_bind (wpAny_standAt (wpAny_bind ?_))
  by_cases hlt:i< ws.length
  ·refine W.item i _ _ _ (by simpa using hlt) st fun v h' tk' hp st' hk'=>?_
   have hk':∀b o,b≠I→h.get? b=some o→h'.get? b=some o:=fun b o hb e=>hk' b o (by simpa using hb) e
   show wpAny _ _ (pure ()>>=fun _=>_) _ _ _
   refine wpAny_bind (wpAny_pure (wpAny_bind (wpAny_assign_Name (wpAny_storeName_local hk (n1.at fun o e=>hk' _ o hIL e) (fun h₂ n2 sb=>?_) (by rw[hfn];rfl)))))
   refine wpAny_bind (wpAny_bind (wpAny_Name (wpAny_loadName_local hfn hk n2 (if_pos rfl) (wpAny_bind ?_)) hd))
   have ac2:h₂.PlainList acc (vs++ws.take i).toArray:=by obtain⟨k,e⟩:=ac;exact⟨k,(sb.2 acc hLa).trans (hk' _ _ hIa e)⟩
   refine wpAny_list_append_plain ac2 (fun h₃ ac3 sb3=>wpAny_pure (wpAny_pure ⟨rfl,ws.length-(i+1),by exact li3 4 [] [_,_,_,_] (.sb U1 (.a U0 O1) U2) (.sb U1 U0 U3) (.nlt U0 U1) (.nlt U2 U3) rfl (ns (ws.length) (i+1)) (ns (ws.length) (i)) hlt,i+1,h₃,_,_,rfl,hlt,rfl,n2.at fun o e=>(sb3.2 _ (Ne.symm hLa)).trans e,W.frame _ _ _ st' fun b hb o e=>(sb3.2 b fun q=>?_).trans ((sb.2 b fun q=>?_).trans e),?_,fun b o h1 h2 h3 e=>(sb3.2 b h3).trans ((sb.2 b h1).trans (hk' b o h2 (kp b o h1 h2 h3 e)))⟩)) ?_
   ·simp only[List.mem_cons,List.not_mem_nil,or_false] at hb
    rcases hb with hb|hb
    ·exact hIa (q.symm.trans hb)
    ·exact hTa (hb.symm.trans q)
   ·simp only[List.mem_cons,List.not_mem_nil,or_false] at hb
    rcases hb with hb|hb
    ·exact hIL (q.symm.trans hb)
    ·exact hTL (hb.symm.trans q)
   ·have e:ws.take (i+1)=ws.take i++[v]:=by
     have hp:ws[i]? =some v:=by simpa using hp
     rw[List.take_succ,hp];rfl
    rw[e,←List.append_assoc]
    simpa using ac3
   ·rw[List.size_toArray,List.length_append,List.length_take]
    exact Nat.le_trans (Nat.le_trans (Nat.add_le_add_left (Nat.min_le_right _ _) _) hlen) (by decide)
  ·have hieq:i=ws.length:=li2 2 [] [_,_] (.nle U0 U1) (.no (.nlt U0 U1)) (.neq U0 U1) rfl hi hlt
   subst hieq
   refine W.done _ _ _ (by simpa using st) fun h' tk' hk'=>?_
   have hk':∀b o,b≠I→h.get? b=some o→h'.get? b=some o:=fun b o hb e=>hk' b o (by simpa using hb) e
   rw[List.take_length] at ac
   refine wpAny_pure ?_
   have:=hR h' tk' m' (n1.at fun o e=>hk' _ o hIL e) (by obtain⟨k,e⟩:=ac;exact⟨k,hk' _ _ hIa e⟩) fun b o h1 h2 h3 e=>hk' b o h2 (kp b o h1 h2 h3 (hs0.symm▸e))
   rw[hs0];exact this
 refine codeAny_of_tree ?_
 show wpAny _ _ ((compStart (.ListComp (.Name cx cp) [⟨target,it1,[],0⟩,⟨.Name cx cp2,it2,[],0⟩] scope pos) 1 (.ref I) (.ref acc) env).onRaise (fun x=>do noteFrame x env;standAt theWindowsPlace)) _ _ s
 refine wpAny_notedAt ?_
 delta compStart
 show wpAny _ _ (ask>>=_) _ _ s
 refine wpAny_bind (wpAny_askSetting (wpAny_ite ?_))
 split
 ·first
   |exact wpAny_bind (wpAny_pure (wpAny_pure (And.intro rfl loop)))
   |exact wpAny_pure (And.intro rfl loop)
 ·refine wpAny_bind (wpAny_rule ?_)
  show wpAny _ _ (standAt it2.pos>>=_) _ _ s
  exact wpAny_bind (wpAny_standAt (wpAny_bind (W.self 0 _ _ _ ⟨hit,hT⟩ (wpAny_pure (And.intro rfl loop)))))
end
section
variable{a b d e:E}{pos:Pos}
theorem flatten_take_succ{α:Type}(xss:List (List α))(i:Nat)(x:List α)(h:xss[i]? =some x):(xss.take (i+1)).flatten=(xss.take i).flatten++x:=by
 rw[List.take_succ,h,List.flatten_append];simp
theorem flatten_take_le{α:Type}(xss:List (List α))(i:Nat)(x:List α)(h:xss[i]? =some x):((xss.take i).flatten).length+x.length≤xss.flatten.length:=by
 rw[←List.length_append,←flatten_take_succ xss i x h]
 conv=>rhs;rw[←List.take_append_drop (i+1) xss,List.flatten_append,List.length_append]
 exact Nat.le_add_right _ _
theorem flat_out{acc TA:Addr}{us:List Value}{R:Result→Shared→Prop}(hA:A.handled=none)
  (hfn:env.scope.kind=.function) (hl:env.locals=L) (hk:env.kindOf cx=some .local) (hd:(cx==("__debug__":Str))=false) (hk2:env.kindOf sx=some .local) (hd2:(sx==("__debug__":Str))=false) (hIT:TA≠I) (hIa:acc≠I) (hIL:L≠I) (hLa:acc≠L) (hTL:TA≠L) (hTa:TA≠acc)
  (hns:s.heap.Ns L m) (hit:s.heap.IsListIter I TA 0) (hT:s.heap.IsList TA us.toArray) (hacc:s.heap.PlainList acc #[]) (hlw:us.length=wss.length)
  (hin:∀(j:Nat) (v:Value) (ws:List Value),us[j]? =some v→wss[j]? =some ws→∃T,v=.ref T∧s.heap.IsList T ws.toArray∧T≠L∧T≠I∧T≠acc) (hlen:wss.flatten.length≤100000)
  (hR:∀h' tk m',h'.Ns L m'→h'.PlainList acc wss.flatten.toArray→(∀b o,b≠L→b≠I→b≠acc→s.heap.get? b=some o→h'.get? b=some o)→R (.ok .next) {s with heap:=h',toks:=tk}):
  codeAny (MM w) A (.compStart (.ListComp (.Name cx cp) [⟨.Name sx sp,it1,[],0⟩,⟨.Name cx cp2,.Name sx sp2,[],0⟩] scope pos) 0 (.ref I) (.ref acc) env) R s:=by
 subst hl
 refine bc fun ng=>?_
 obtain⟨s0,hs0⟩:∃s0,s0=s:=⟨_,rfl⟩
 refine ng ?_
 have W:=Walks.list (prog:=pw) (w:=w) (A:=A) hA I TA hIT us.toArray
 have loop:codeAny (MM w) A (.compLoop (.ListComp (.Name cx cp) [⟨.Name sx sp,it1,[],0⟩,⟨.Name cx cp2,.Name sx sp2,[],0⟩] scope pos) 0 (.ref I) (.ref acc) env) R s:=by
  let Inv:Nat→Shared→Prop:=fun k s=>∃i h tk m',s={s0 with heap:=h,toks:=tk}∧i≤us.length∧k=us.length-i∧h.Ns env.locals m'∧(h.IsListIter I TA i∧h.IsList TA us.toArray)∧h.PlainList acc (wss.take i).flatten.toArray∧(∀b o,b≠env.locals→b≠I→b≠acc→s0.heap.get? b=some o→h.get? b=some o)
  refine codeAny_loop rfl Inv (fun k s₁ hI=>?_) (us.length-0) ⟨0,s.heap,s.toks,m,by rw[hs0],Nat.zero_le _,rfl,hns,⟨hit,hT⟩,by simpa using hacc,fun b o _ _ _ e=>hs0▸e⟩
  refine bc fun ng=>?_
  obtain⟨i,h,tk,m',rfl,hi,rfl,n1,st,ac,kp⟩:=hI
  refine ng ?_
  show wpAny _ _ ((compTurn (.ListComp (.Name cx cp) [⟨.Name sx sp,it1,[],0⟩,⟨.Name cx cp2,.Name sx sp2,[],0⟩] scope pos) 0 (.ref I) (.ref acc) env).onRaise (fun x=>do noteFrame x env;theTreesLotGoes x)) _ _ _
  refine wpAny_noted ?_
  rw[flatTurn0]
  refine wpAny_bind (wpAny_standAt (wpAny_bind ?_))
  by_cases hlt:i< us.length
  ·refine W.item i _ _ _ (by simpa using hlt) st fun v h' tk' hp st' hk'=>?_
   have hk':∀b o,b≠I→h.get? b=some o→h'.get? b=some o:=fun b o hb e=>hk' b o (by simpa using hb) e
   have hp:us[i]? =some v:=by simpa using hp
   refine bc fun ng=>?_
   obtain⟨ws,hw⟩:∃ws,wss[i]? =some ws:=⟨_,List.getElem?_eq_getElem (hlw▸hlt)⟩
   refine xe1 (hin i v ws hp hw) ?_
   intro T qz154
   refine xa5 qz154 ?_
   clear qz154
   rintro rfl hTl t1 t2 t3
   refine ng ?_
   show wpAny _ _ (pure ()>>=fun _=>_) _ _ _
   refine wpAny_bind (wpAny_pure (wpAny_bind (wpAny_assign_Name (wpAny_storeName_local hk2 (n1.at fun o e=>hk' _ o hIL e) (fun h₂ n2 sb=>?_) (by rw[hfn];rfl)))))
   refine wpAny_bind (wpAny_Name (wpAny_loadName_local hfn hk2 n2 (if_pos rfl) (wpAny_bind (wpAny_standAt (wpAny_bind (wpAny_of_eq (show foldedSetIterable (.Name sx sp2) env (Value.ref T)=pure (.ref T) from rfl) (wpAny_bind (wpAny_holding ?_))))))) hd2)
   have kp2:∀b o,b≠env.locals→b≠I→b≠acc→s0.heap.get? b=some o→h₂.get? b=some o:=fun b o h1 h2 h3 e=>(sb.2 b h1).trans (hk' b o h2 (kp b o h1 h2 h3 e))
   have hTl2:h₂.IsList T ws.toArray:=hTl.at fun o e=>kp2 T o t1 t2 t3 (hs0▸e)
   have ac2:h₂.PlainList acc (wss.take i).flatten.toArray:=by obtain⟨k,e⟩:=ac;exact⟨k,(sb.2 acc hLa).trans (hk' _ _ hIa e)⟩
   refine wpAny_pyIter_list hTl2 (wpAny_bind (wpAny_runOwn ?_))
   have nw:∀{b o},h₂.get? b=some o→b≠h₂.objs.size:=fun e=>Nat.ne_of_lt (Heap.lt_size e)
   have pk:∀{b o},h₂.get? b=some o→(h₂.push {cls:=.type "list_iterator",data:=.fields #[.ref T,.int 0 0]}).get? b=some o:=fun e=>Heap.get?_push_of_some _ e
   have nT:T≠h₂.objs.size:=by obtain⟨o,e,_⟩:=id hTl2;exact nw e
   have nA:acc≠h₂.objs.size:=by obtain⟨o,e⟩:=id ac2;exact nw e
   have nL:env.locals≠h₂.objs.size:=by obtain⟨o,_,_,e,_⟩:=id n2;exact nw e
   refine flat_in (L:=env.locals) (m:=_) (ws:=ws) (vs:=(wss.take i).flatten) (T:=T) hA hfn rfl hk hd nT nA nL hLa t1 t3 (n2.at fun o e=>pk e) ⟨_,Heap.get?_push_size _ rfl,rfl,rfl⟩ (hTl2.push _) (by obtain⟨k,e⟩:=ac2;exact⟨k,pk e⟩) (Nat.le_trans (flatten_take_le wss i ws hw) hlen) fun h₃ tk₃ m₃ n3 ac3 kp3=>?_
   have kp3:∀b o,b≠env.locals→b≠acc→h₂.get? b=some o→h₃.get? b=some o:=fun b o h1 h3 e=>kp3 b o h1 (nw e) h3 (pk e)
   refine wpAny_pure ⟨rfl,us.length-(i+1),by exact li3 4 [] [_,_,_,_] (.sb U1 (.a U0 O1) U2) (.sb U1 U0 U3) (.nlt U0 U1) (.nlt U2 U3) rfl (ns (us.length) (i+1)) (ns (us.length) (i)) hlt,i+1,h₃,tk₃,m₃,rfl,hlt,rfl,n3,W.frame _ _ _ st' fun b hb o e=>kp3 b o (fun q=>?_) (fun q=>?_) ((sb.2 b fun q=>?_).trans e),by rw[flatten_take_succ wss i ws hw];exact ac3,fun b o h1 h2 h3 e=>kp3 b o h1 h3 (kp2 b o h1 h2 h3 e)⟩
   all_goals
    simp only[List.mem_cons,List.not_mem_nil,or_false] at hb
    rcases hb with hb|hb
   ·exact hIL (q.symm.trans hb)
   ·exact hTL (hb.symm.trans q)
   ·exact hIa (q.symm.trans hb)
   ·exact hTa (hb.symm.trans q)
   ·exact hIL (q.symm.trans hb)
   ·exact hTL (hb.symm.trans q)
  ·have hieq:i=us.length:=li2 2 [] [_,_] (.nle U0 U1) (.no (.nlt U0 U1)) (.neq U0 U1) rfl hi hlt
   subst hieq
   refine W.done _ _ _ (by simpa using st) fun h' tk' hk'=>?_
   have hk':∀b o,b≠I→h.get? b=some o→h'.get? b=some o:=fun b o hb e=>hk' b o (by simpa using hb) e
   rw[hlw,List.take_length] at ac
   refine wpAny_pure ?_
   have:=hR h' tk' m' (n1.at fun o e=>hk' _ o hIL e) (by obtain⟨k,e⟩:=ac;exact⟨k,hk' _ _ hIa e⟩) fun b o h1 h2 h3 e=>hk' b o h2 (kp b o h1 h2 h3 (hs0.symm▸e))
   rw[hs0];exact this
 exact codeAny_compStart_list loop (W.self 0 _ _ _ ⟨hit,hT⟩ loop)
end
section
variable{a b d e:E}{pos:Pos}
theorem flat_reads:∀(xs:List V) (ys:List V) (vs:List Value),RVs h P vs xs→flatV xs=some ys→∃wss:List (List Value),vs.length=wss.length∧
  (∀(j:Nat) (v:Value) (ws:List Value),vs[j]? =some v→wss[j]? =some ws→∃T,v=.ref T∧h.PlainList T ws.toArray∧P T)∧RVs h P wss.flatten ys
 |[],ys,vs,rv,hf=>by
  obtain rfl:=sj hf;rw[rv.unnil]
  exact⟨[],rfl,fun j v ws h1 _=>by simp at h1,RVs.nil⟩
 |x::xs,ys,vs,rv,hf=>by
  refine bc fun ng=>?_
  refine xe2 (rv.uncons) ?_
  intro v vs' qz155
  refine xa3 qz155 ?_
  clear qz155
  rintro rfl rv1 rv2
  refine ng ?_
  cases x<;>try(exact nope1 hf;done)
  rename_i zs
  refine bc fun ng=>?_
  obtain⟨ys',hf',rfl⟩:∃ys',flatV xs=some ys'∧zs++ys'=ys:=Option.map_eq_some_iff.mp hf
  refine xe1 (flat_reads xs ys' vs' rv2 hf') ?_
  intro wss qz156
  refine xa3 qz156 ?_
  clear qz156
  rintro h1 h2 h3
  refine xe2 (RV.lst_iff.mp rv1) ?_
  intro T ws qz157
  refine xa4 qz157 ?_
  clear qz157
  rintro rfl hp ht rvs
  refine ng ?_
  refine⟨ws::wss,by simp[h1],fun j v us a b=>?_,?_⟩
  ·cases j with
   |zero=>simp at a b;subst a;subst b;exact⟨T,rfl,ht,hp⟩
   |succ j=>exact h2 j v us (by simpa using a) (by simpa using b)
  ·rw[List.flatten_cons];exact rvs.append h3
theorem sos_flat(hA:A.handled=none)(hx:c.vars[k]? =some x)(hkl:c.env.kindOf x=some .local)(ha:SoA w h0 n c A a pa)
  (hs:swapsWith (.ListComp (.Name cx cp) [⟨.Name sx sp,pa,[],0⟩,⟨.Name cx cp2,.Name sx sp2,[],0⟩] scope pos') (some (.Name x p')) pos.line c.env=pure true) (hf:∀v,foldedSetIterable pa c.env v=pure v)
  (hclo:closureFor scope c.env=pure []) (hnc:∀x∈scope.names,x.2≠.cell) (hk:scope.kind=.function) (hnames:∀x∈scope.names,x.2=.local→(compScope scope c.env).names.lookup x.1=some .local)
  (hcx:(compScope scope c.env).names.lookup cx=some .local) (hsx:(compScope scope c.env).names.lookup sx=some .local) (hd:(cx==("__debug__":Str))=false) (hd2:(sx==("__debug__":Str))=false):
  SoS w h0 n c A (.setC k (.flat nv a)) (.Assign [.Name x p'] (.ListComp (.Name cx cp) [⟨.Name sx sp,pa,[],0⟩,⟨.Name cx cp2,.Name sx sp2,[],0⟩] scope pos') pos):=fun X l H Q h s E' r hE=>by
 rw[exec_Assign_Name_used _ _ _ _ hs,arm_evalThenUse_ListComp]
 refine wpAny_bind (wpAny_standAt (wpAny_bind (wpAny_bind (comp_go (use:=some (assign (.Name x p') c.env)) rfl hf hclo hnc hk hnames (J.run (ha _ _ H _ h) r (hE.at l) fun v y H₁ s₁ p r₁ rv st=>?_)))))
 replace p:=LstP.ex p
 refine bc fun ng=>?_
 refine xe1 (p) ?_
 try clear p
 intro xs qz158
 refine xa2 qz158 ?_
 clear qz158
 rintro rfl p
 refine xe1 (OptP.ex (show OptP (flatV xs) fun ys=>(xs.length≤10000∧ys.length≤100000)∧Q .next (setL l k (.lst ys)) H₁ from p)) ?_
 intro ys qz159
 refine xa3 qz159 ?_
 clear qz159
 rintro hys ⟨_,hlen⟩ q
 refine xe2 (RV.lst_iff.mp rv) ?_
 intro TA us qz160
 refine xa4 qz160 ?_
 clear qz160
 rintro rfl hp ht rvs
 refine xe1 (flat_reads xs ys us rvs hys) ?_
 intro wss qz161
 refine xa3 qz161 ?_
 clear qz161
 rintro hlw hin rvy
 refine ng ?_
 have lt:∀{b o},s₁.heap.get? b=some o→b< s₁.heap.objs.size:=fun e=>Heap.lt_size e
 refine wpAny_pyIter_list ht.isList fun h₃ tk hns hsb=>?_
 have sz1:∀{oI},(s₁.heap.push oI).objs.size=s₁.heap.objs.size+1:=fun {oI}=>Heap.size_push ..
 dsimp only at hns hsb⊢
 rw[sz1] at hns hsb⊢
 have g1:∀b o,(s₁.heap.push {cls:=.type "list_iterator",data:=.fields #[.ref TA,.int 0 0]}).get? b=some o→h₃.get? b=some o:=fun b o e=>by
  have hb:b< s₁.heap.objs.size+1:=sz1▸Heap.lt_size e
  rw[hsb.2 b (Nat.ne_of_lt (Nat.lt_succ_of_lt hb))]
  exact Heap.get?_push_of_some _ (Heap.get?_push_of_some _ e)
 have hk3:∀b o,s₁.heap.get? b=some o→h₃.get? b=some o:=fun b o e=>g1 b o (Heap.get?_push_of_some _ e)
 have hacc3:h₃.get? (s₁.heap.objs.size+1)=some {cls:=.type "list",data:=.seq #[]}:=by
  rw[hsb.2 _ (Nat.ne_of_lt (Nat.lt_succ_self _))]
  refine Heap.get?_push_of_some _ ?_
  rw[←sz1];exact Heap.get?_push_size _ rfl
 have hTA:TA< s₁.heap.objs.size:=by obtain⟨o,e⟩:=ht;exact lt e
 have iL:s₁.heap.objs.size+1≠s₁.heap.objs.size+1+1:=Nat.ne_of_lt (Nat.lt_succ_self _)
 have iI:s₁.heap.objs.size+1≠s₁.heap.objs.size:=Nat.ne_of_gt (Nat.lt_succ_self _)
 have LI:s₁.heap.objs.size+1+1≠s₁.heap.objs.size:=Nat.ne_of_gt (Nat.lt_succ_of_lt (Nat.lt_succ_self _))
 have off:∀{T},T< s₁.heap.objs.size→T≠s₁.heap.objs.size+1+1∧T≠s₁.heap.objs.size∧T≠s₁.heap.objs.size+1:=fun h=>⟨Nat.ne_of_lt (Nat.lt_succ_of_lt (Nat.lt_succ_of_lt h)),Nat.ne_of_lt h,Nat.ne_of_lt (Nat.lt_succ_of_lt h)⟩
 have nn:∀{b},s₁.heap.objs.size≤b→s₁.heap.get? b=none:=fun {b} hb=>by
  cases e:s₁.heap.get? b with
  |none=>rfl
  |some o=>exact absurd (lt e) (Nat.not_lt.mpr hb)
 refine flat_out (L:=s₁.heap.objs.size+1+1) (TA:=TA) (us:=us) (wss:=wss) (env:=compEnv scope c.env (s₁.heap.objs.size+1+1) []) hA hk rfl hcx hd hsx hd2 (off hTA).2.1 iI LI iL (off hTA).1 (off hTA).2.2 hns
  (g1 _ _ (Heap.get?_push_size _ rfl)|>fun e=>⟨_,e,rfl,rfl⟩) (ht.isList.at fun o e=>hk3 _ _ e) ⟨_,hacc3⟩ hlw (fun j v ws a b=>by
   refine bc fun ng=>?_
   refine xe1 (hin j v ws a b) ?_
   intro T qz162
   refine xa3 qz162 ?_
   clear qz162
   rintro rfl e _
   refine ng ?_
   have hT:T< s₁.heap.objs.size:=by obtain⟨k,e⟩:=e;exact lt e
   exact⟨T,rfl,e.isList.at fun o e=>hk3 _ _ e,(off hT).1,(off hT).2.1,(off hT).2.2⟩) (by rw[rvy.1];exact hlen) fun h' tk' m' n' ac' kp'=>?_
 refine⟨m',n',⟨_,rfl⟩,?_⟩
 have kp:∀b o,s₁.heap.get? b=some o→h'.get? b=some o:=fun b o e=>kp' b o (off (lt e)).1 (off (lt e)).2.1 (off (lt e)).2.2 (hk3 b o e)
 have hnL:=nn (Nat.le_add_right s₁.heap.objs.size 2)
 have hnz:∀{b},s₁.heap.get? b=none→¬c.Z b:=fun {b} hb q=>by obtain⟨o,e⟩:=r₁.hr.inH b q;rw[hb] at e;exact nope1 e
 have hnf:∀{b},s₁.heap.get? b=none→¬foot H₁ b:=fun {b} hb q=>by obtain⟨o,e⟩:=r₁.hr.foot_there q;rw[hb] at e;exact nope1 e
 have r2:Rep w h0 (c.addZ (s₁.heap.objs.size+1+1)) l H₁ {s₁ with heap:=h',toks:=tk'}:=r₁.addZ kp hnL (by obtain⟨o,_,_,e,_⟩:=id n';exact⟨o,e⟩)
 have rvA:RV h' (Pu H₁ (c.addZ (s₁.heap.objs.size+1+1)).Z) (.ref (s₁.heap.objs.size+1)) (.lst ys):=RV.lst_iff.mpr ⟨_,wss.flatten,rfl,⟨hnf (nn (Nat.le_succ _)),fun q=>q.elim (hnz (nn (Nat.le_succ _))) iL⟩,ac',rvy.mono (fun b o _ e=>kp b o e) fun b hb ⟨o,e⟩=>⟨hb.1,fun q=>q.elim hb.2 (off (lt e)).1⟩⟩
 refine wpAny_assign_Name (store_JL (c:=c.addZ (s₁.heap.objs.size+1+1)) hx (.inl hkl) r2 rvA fun s₃ r3 hb3=>?_)
 have hlne:s₁.heap.objs.size+1+1≠c.env.locals:=fun q=>hnz hnL (q▸c.zl)
 refine⟨m',n'.at fun o e=>(hb3 _ hlne (.inl hkl)).trans e,fun h'' sb=>?_⟩
 exact wpAny_pure (wpAny_pure ⟨.next,_,H₁,trivial,r3.finish (k:=s₃.toks) (r₁.e_none hnL) hlne (fun y q=>hnz hnL (c.zc y _ q)) (hnz hnL) (fun b o hb e=>(sb.2 b hb).trans e),q⟩)
end
theorem bind3(a b c:Value):bindV lsPs [a,b,c] []=[(sSelf,a),(sSym,b),(sData,c)]:=by kernel_rfl
theorem nd3:[sSelf,sSym,sData].Nodup:=by decide+kernel
theorem miss3(a b c:Value):((lsPs.take (lsPs.length-(([]:List Value).drop (0-lsPs.length)).length)).filter fun n=>((lsPs.zip [a,b,c]).lookup n).isNone).isEmpty=true:=by kernel_rfl
noncomputable abbrev exObj(t:Addr)(dx:Option Addr):Obj:={cls:=.ref lsC,dict:=dx,data:=.fields #[.ref t,.none,.none,.none,.bool false,.none]}
theorem sa_exc{e t:Addr}{dx:Option Addr}{name:Str}{Q:Unit→Shared→Prop}(LS:LsOK K)(X:K.In s.heap)(I:InstAt s.heap e (exObj t dx) lsC od)(hf:findIn K (.ref lsC) name=some none)
  (h:∀b,wpAny (MM w) A.in1 (Builtin.ObjectAttr.storeInOwnDict (.ref e) (.ref lsC) (.str name s.toks) name v b) (fun fin s'=>match fin with|.done (.ret _)=>Q () s'|_=>False) (fun e s'=>E' e s') {s with toks:=s.toks+1}):wpAny (MM w) A (setAttr (.ref e) name v) Q E' s:=by
 refine bc fun ng=>?_
 refine xe14 (LS.obj) ?_
 intro nm q N bs sn sub ab col dd j0 j1 j2 j3 j5 qz163
 refine xa3 qz163 ?_
 clear qz163
 rintro hC hN hi
 refine ng ?_
 refine set_plain X I LS.set_ ?_
 refine bc fun ng=>?_
 obtain⟨hh,g,d,tk,os⟩:=s
 refine ng ?_
 have X:K.In hh:=X
 have I:InstAt hh e (exObj t dx) lsC od:=I
 have SF:StoreFacts "Exception" bmE "object.__setattr__" "object":=F.store_Exception
 have hC':hh.get? lsC=some (excClassObj nm q lsC N bs bmE true sn sub ab col dd j0 j1 j2 j3 j5 "Exception.__new__"):=X _ _ hC
 refine codeAny_call_builtin SF.slot.plain SF.entry ?_
 have hx:hh.get? e=some (exObj t dx):=I.at_
 refine@wpAny_check_sa _ _ hh g d (tk+1) os nm q lsC N e bs bmE sn sub ab col dd j0 j1 j2 j3 j5 "Exception" "Exception.__new__" "object.__setattr__" "object" v (MM w) (exObj t dx) (.str name tk) _ SF hC' hx rfl ?_
 rw[osa_eq,refuse_eq]
 have hc:clsIn K lsC=some ⟨nm,bs,.ref lsC::bmE,N,q,true,sn,sub,ab,col,false⟩:=by delta clsIn;rw[hC]
 have hm:Looks (MM w) hh (mroOf (.ref lsC)) (.ref lsC::bmE):=(looks_clsIn X hc).andThen .now
 refine wpAny_bind (wpAny_bind (I.type.here (wpAny_bind (hm.here ?_))))
 rw[refuseLoop_ref,SF.passes]
 refine wpAny_pure (wpAny_bind (I.type.here (wpAny_bind ((looks_findIn X hf).here (wpAny_bind ((show Looks (MM w) hh (Builtin.ObjectAttr.storeTaker? none) none from .now).here ?_))))))
 refine wpAny_mono (h _) (fun fin s' hq=>?_) fun _ _ e=>e
 rcases fin with(_|_|_|_)|_<;>first|exact hq.elim|exact hq
theorem dict_store{name:Str}{tk:Tok}{Q:Fin→Shared→Prop}(hn:DNs s.heap dx m N)(hN:N≤900)
  (h:∀hash tk',Q (.done (.ret .none)) {s with heap:=s.heap.update dx (Obj.putName name hash (.str name tk') v),toks:=s.toks+1}):
  wpAny (MM w) A (Builtin.ObjectAttr.storeInDict dx (.str name tk) name v) Q E' s:=by
 have D:=hn.put name (PyData.keyHash w.params name) s.toks v
 refine bc fun ng=>?_
 obtain⟨es',n',ho',hk',hm',hN'⟩:=D
 obtain⟨es,n,ho,hk,hm,hN2⟩:=hn
 refine ng ?_
 show wpAny _ _ (Builtin.ObjectAttr.newKeyGuard dx name (.str name tk)>>=fun _=>nsSet dx name v>>=fun _=>_) _ _ _
 refine wpAny_bind (wpAny_pure (wpAny_bind ?_))
 delta nsSet
 refine wpAny_bind (wpAny_bind (wpAny_askSetting (wpAny_pure (wpAny_bind (wpAny_mkText (wpAny_bind (wpAny_loadPart ho ?_)))))))
 have hany:es.any (·.refKey)=false:=by
  rw[Array.any_eq_false'];intro e he;obtain⟨n,t,h⟩:=hk e he;simp[DictEntry.refKey,h]
 dsimp only
 rw[aRefKeyMayBeTheName_eq]
 simp-iota only[aRefKeyMayBeTheNameByArray,hany,Bool.and_false,Bool.false_eq_true,if_false]
 refine wpAny_updatePart ho ?_
 refine wpAny_bind (wpAny_lookBehind ho' (pastItsLine_dict ?_) ?_)
 ·have:(2000:Nat)≤sizeLine+1:=by decide
  exact Nat.le_trans (a_ite hN') (Nat.le_trans (Nat.le_trans (Nat.succ_le_succ hN) (bl rfl)) this)
 ·exact wpAny_pure (h _ _)
theorem exc_first{e t:Addr}{name:Str}{Q:Unit→Shared→Prop}(LS:LsOK K)(X:K.In s.heap)(he:s.heap.get? e=some (exObj t none))(hf:findIn K (.ref lsC) name=some none)
  (h:∀h' tk,DNs h' s.heap.objs.size (fun x=>if x=name then some v else none) 1→h'.get? e=some (exObj t (some s.heap.objs.size))→(∀b o,b≠e→s.heap.get? b=some o→h'.get? b=some o)→Q () {s with heap:=h',toks:=tk}):wpAny (MM w) A (setAttr (.ref e) name v) Q E' s:=by
 refine sa_exc LS X (od:=none) ⟨he,rfl,rfl,trivial⟩ hf fun b=>?_
 refine bc fun ng=>?_
 refine xe14 (LS.obj) ?_
 intro nm q N bs sn sub ab col dd j0 j1 j2 j3 j5 qz164
 refine xa3 qz164 ?_
 clear qz164
 rintro hC _ _
 refine ng ?_
 have hc:clsIn K lsC=some ⟨nm,bs,.ref lsC::bmE,N,q,true,sn,sub,ab,col,false⟩:=by delta clsIn;rw[hC]
 refine wpAny_bind (wpAny_pure (wpAny_bind (wpAny_bind (wpAny_loadPart he (wpAny_bind (looks_clsIn X hc _ _ _ _ (fun _ _ e=>e) ?_))))))
 have hx1:(s.heap.push {cls:=.type "dict",data:=.dict #[]}).get? e=some (exObj t none):=Heap.get?_push_of_some _ he
 have hne:e≠s.heap.objs.size:=Nat.ne_of_lt (Heap.lt_size he)
 refine wpAny_bind (wpAny_alloc (wpAny_bind (wpAny_update hx1 ?_)))
 have hd0:((s.heap.push {cls:=.type "dict",data:=.dict #[]}).update e fun o=>{o with dict:=some s.heap.objs.size}).get? s.heap.objs.size=some {cls:=.type "dict",data:=.dict #[]}:=
  (Heap.get?_update_ne _ _ _ _ hne.symm).trans (Heap.get?_push_size _ rfl)
 have hD:DNs ((s.heap.push {cls:=.type "dict",data:=.dict #[]}).update e fun o=>{o with dict:=some s.heap.objs.size}) s.heap.objs.size (fun _=>none) 0:=⟨#[],_,hd0,fun e he=>by simp at he,fun x=>rfl,by simp⟩
 have he2:((s.heap.push {cls:=.type "dict",data:=.dict #[]}).update e fun o=>{o with dict:=some s.heap.objs.size}).get? e=some (exObj t (some s.heap.objs.size)):=Heap.get?_update_self _ hx1 rfl
 refine wpAny_pure ?_
 refine dict_store hD (by decide) fun hash tk'=>?_
 refine h _ _ (by simpa using hD.put name hash tk' v) ((Heap.get?_update_ne _ _ _ _ hne).trans he2) fun b o hb hs=>?_
 have hbs:b≠s.heap.objs.size:=Nat.ne_of_lt (Heap.lt_size hs)
 exact(Heap.get?_update_ne _ _ _ _ hbs).trans ((Heap.get?_update_ne _ _ _ _ hb).trans (Heap.get?_push_of_some _ hs))
theorem exc_next{e t:Addr}{name:Str}{Q:Unit→Shared→Prop}(LS:LsOK K)(X:K.In s.heap)(he:s.heap.get? e=some (exObj t (some dx)))(hne:e≠dx)(hn:DNs s.heap dx m N)(hN:N≤900)(hf:findIn K (.ref lsC) name=some none)
  (h:∀h' tk,DNs h' dx (fun x=>if x=name then some v else m x) (N+1)→(∀b,b≠dx→h'.get? b=s.heap.get? b)→Q () {s with heap:=h',toks:=tk}):wpAny (MM w) A (setAttr (.ref e) name v) Q E' s:=by
 have hn':=hn
 refine bc fun ng=>?_
 obtain⟨es,n,ho,hk,hm,hN2⟩:=hn'
 refine ng ?_
 refine sa_exc LS X (od:=some _) ⟨he,rfl,rfl,ho⟩ hf fun b=>?_
 refine bc fun ng=>?_
 refine xe14 (LS.obj) ?_
 intro nm q N bs sn sub ab col dd j0 j1 j2 j3 j5 qz165
 refine xa3 qz165 ?_
 clear qz165
 rintro hC _ _
 refine ng ?_
 have hc:clsIn K lsC=some ⟨nm,bs,.ref lsC::bmE,N,q,true,sn,sub,ab,col,false⟩:=by delta clsIn;rw[hC]
 refine wpAny_bind (wpAny_pure (wpAny_bind (wpAny_bind (wpAny_loadPart he (wpAny_bind (looks_clsIn X hc _ _ _ _ (fun _ _ e=>e) ?_))))))
 refine wpAny_pure (a:=some dx) ?_
 refine dict_store hn hN fun hash tk'=>?_
 refine h _ _ ?_ fun b hb=>Heap.get?_update_ne _ _ _ _ hb
 have:=hn.put name hash tk' v
 refine bc fun ng=>?_
 obtain⟨es',n',a1,a2,a3,a4⟩:=this
 refine ng ?_
 exact⟨es',n',a1,a2,a3,a_ite a4⟩
theorem init_go{e t:Addr}{v1 v2:Value}{Q:Value→Shared→Prop}(LS:LsOK K)(X0:K.In h0)(k0:∀b o,h0.get? b=some o→s.heap.get? b=some o)(hn0:h0.get? e=none)(hlim:s.heap.NoLimit)(hroom:A.depth< recursionLimit)(he:s.heap.get? e=some (exObj t none))
  (h:∀h' tk dx m,s.heap.get? dx=none→h'.get? e=some (exObj t (some dx))→h'.Ns dx m→m sSym=some v1→(∀b o,b≠e→s.heap.get? b=some o→h'.get? b=some o)→Q .none {s with heap:=h',toks:=tk}):wpAny (MM w) A (call (.ref 721) [.ref e,v1,v2]) Q E' s:=by
 have X:K.In s.heap:=X0.keeps k0
 refine bc fun ng=>?_
 refine xe9 (LS.ini) ?_
 intro p1 p2 p3 p4 p5 p6 p7 p8 sc qz166
 refine xa4 qz166 ?_
 clear qz166
 rintro F k1 k2 k3
 refine xe4 (F.ex) ?_
 intro oc od fd osl qz167
 refine xa13 qz167 ?_
 clear qz167
 rintro hf hb hsc hgl hcl hbl hcode q1 q2 q3 q4 q5 hdf
 refine ng ?_
 have hbind:BindsTo s fd ⟨[.ref e,v1,v2],[]⟩ (bindV lsPs [.ref e,v1,v2] []):=binds_simple q1 q2 q3 q4 q5 (Nat.le_refl 3) (by
  rcases hdf with⟨e1,_⟩|⟨T,c,d,k,sl,items,e1,e2,e3⟩
  ·exact⟨none,rfl,fun M A E Q hq=>by rw[e1];exact wpAny_pure hq⟩
  ·exact⟨some items,e3,fun M A E Q hq=>by rw[e1];exact wpAny_seqItems (X _ _ e2) rfl hq⟩) (miss3 _ _ _)
 rw[bind3] at hbind
 refine wpAny_call (codeAny_call_function (fd:=fd) hroom (X _ _ hf) rfl (by rw[hsc];exact F.noco) (by rw[hsc];exact F.nogen) hb (codeRec_of X hcode) (hbind _ _ _ _ ?_))
 rw[hsc,hgl,hcl,hbl]
 refine wpAny_newFunctionEnv_cells F.fun_ (fun x hx=>.inl ?_) fun env henv s₁ x=>?_
 ·simp only[List.mem_cons,List.not_mem_nil,or_false] at hx
  rcases hx with rfl|rfl|rfl<;>assumption
 have henvs:env.scope=sc:=by rw[henv];rfl
 have henvl:env.locals=s.heap.objs.size:=by rw[henv];rfl
 have hfn:env.scope.kind=.function:=by rw[henvs];exact F.fun_
 have kd:∀{y},sc.names.lookup y=some .local→env.kindOf y=some .local:=fun {y} q=>by show env.scope.names.lookup y=_;rw[henvs];exact q
 refine bc fun ng=>?_
 refine xe2 (x.done) ?_
 intro h₁ tk qz168
 refine xa2 qz168 ?_
 clear qz168
 rintro rfl hk
 refine ng ?_
 have hns:h₁.Ns env.locals (bindL env.kindOf [(sSelf,.ref e),(sSym,v1),(sData,v2)] fun _=>none):=x.toInCall.ns
 refine⟨hlim.keeps hk,codeAny_func ?_⟩
 have m1:bindL env.kindOf [(sSelf,.ref e),(sSym,v1),(sData,v2)] (fun _=>none) sSelf=some (.ref e):=bindL_at (kd k1) nd3 (by simp)
 have m2:bindL env.kindOf [(sSelf,.ref e),(sSym,v1),(sData,v2)] (fun _=>none) sSym=some v1:=bindL_at (kd k2) nd3 (by simp)
 have m3:bindL env.kindOf [(sSelf,.ref e),(sSym,v1),(sData,v2)] (fun _=>none) sData=some v2:=bindL_at (kd k3) nd3 (by simp)
 have he1:h₁.get? e=some (exObj t none):=hk _ _ he
 have hLe:env.locals≠e:=by rw[henvl];exact(Nat.ne_of_lt (Heap.lt_size he)).symm
 have X1:K.In h₁:=fun b o hb=>hk b o (X b o hb)
 refine wpAny_execs_cons (plainObj_wpAny_Assign_Attribute (wpAny_Name (wpAny_loadName_local hfn (kd k2) hns m2 (wpAny_Name (wpAny_loadName_local hfn (kd k1) hns m1 (exc_first LS X1 he1 LS.sym fun h₂ tk₂ D₂ he₂ kp₂=>?_)) (by decide+kernel))) (by decide+kernel)) (by rfl))
 have hns2:h₂.Ns env.locals _:=hns.at fun o q=>kp₂ _ o hLe q
 have X2:K.In h₂:=X0.keeps fun b o hb=>kp₂ b o (fun q=>by rw[q,hn0] at hb;exact nope1 hb) (hk b o (k0 b o hb))
 have hlt:e≠h₁.objs.size:=Nat.ne_of_lt (Heap.lt_size he1)
 have hdn:s.heap.get? h₁.objs.size=none:=by
  cases q:s.heap.get? h₁.objs.size with
  |none=>rfl
  |some o=>exact absurd (Heap.lt_size (hk _ o q)) (Nat.lt_irrefl _)
 refine wpAny_execs_cons (plainObj_wpAny_Assign_Attribute (wpAny_Name (wpAny_loadName_local hfn (kd k3) hns2 m3 (wpAny_Name (wpAny_loadName_local hfn (kd k1) hns2 m1 (exc_next LS X2 he₂ hlt D₂ (by decide) LS.dat fun h₃ tk₃ D₃ kp₃=>?_)) (by decide+kernel))) (by decide+kernel)) (by rfl))
 refine wpAny_execs_nil ?_
 refine h h₃ tk₃ h₁.objs.size _ hdn ((kp₃ e hlt).trans he₂) D₃.ns ?_ fun b o hb q=>(kp₃ b fun z=>by rw[z,hdn] at q;exact nope1 q).trans (kp₂ b o hb (hk b o q))
 show(if sSym=sData then some v2 else if sSym=sSym then some v1 else none)=some v1
 rw[if_neg (by decide+kernel),if_pos rfl]
section
open Classical
noncomputable def hideH(h:Heap)(S:Addr→Prop):Heap:={h with objs:=h.objs.mapIdx fun i o=>if S i then {cls:=.none,data:=.freed} else o}
theorem hideH_get(h:Heap)(S:Addr→Prop)(b:Addr):(hideH h S).get? b=if S b then none else h.get? b:=by
 delta hideH Heap.get?
 dsimp only
 rw[Array.getElem?_mapIdx]
 cases e:h.objs[b]? with
 |none=>exact(ite_self _).symm
 |some o=>
  by_cases q:S b
  ·refine Eq.trans ?_ (if_pos q).symm
   simp-iota only[Option.map_some,if_pos q];rfl
  ·refine Eq.trans ?_ (if_neg q).symm
   simp-iota only[Option.map_some,if_neg q]
theorem hideH_some{S:Addr→Prop}{o:Obj}(e:(hideH h S).get? b=some o):¬S b∧h.get? b=some o:=by
 rw[hideH_get] at e
 split at e
 ·exact nope1 e
 ·rename_i q;exact⟨q,e⟩
section
variable{X:Loc→Hp→Prop}{E:Value→Shared→Prop}
theorem ns_some{N:Addr}{y:Str}(X:K.In h)(G:h.Ns N m)(e:nsIn K N y=some (some v)):m y=some v:=by
 refine bc fun ng=>?_
 obtain⟨o,es,ep,ho,hd,_,hf⟩:=G
 refine ng ?_
 delta nsIn at e
 split at e
 ·rename_i c d es' n' sl q
  have:=X _ _ q
  rw[ho] at this
  obtain rfl:=sj this
  cases hd
  split at e
  ·rename_i z he
   cases e
   rw[←hf]
   delta nsFind findBy
   rw[←Array.find?_toList,he]
   rfl
  ·split at e<;>(first|exact nope1 e|exact nope2 e|exact nope3 e|exact nope4 e|obtain rfl:=sj e|cases e)
 ·exact nope1 e
theorem raise_made{x:Sem Value}{Q:Flow→Shared→Prop}(LS:LsOK K)(hh:A.handled=none)
  (h:wpAny M A x (fun v s₁=>∃e t dx,v=.ref e∧K.In s₁.heap∧s₁.heap.get? e=some (exObj t dx)∧E (.ref e) s₁) E s):wpAny M A (raiseStmt env (some x) none) Q E s:=by
 refine bc fun ng=>?_
 refine xe14 (LS.obj) ?_
 intro nm q N bs sn sub ab col dd j0 j1 j2 j3 j5 qz169
 refine xa3 qz169 ?_
 clear qz169
 rintro hC0 hN hi
 refine ng ?_
 have hcB:(Value.ref lsC::bmE).contains (.type "BaseException")=true:=by decide
 delta raiseStmt
 refine wpAny_bind (wpAny_mono h (fun v s₁ h₁=>?_) fun _ _ x=>x)
 refine bc fun ng=>?_
 refine xe3 (h₁) ?_
 try clear h₁
 intro e t dx qz170
 refine xa4 qz170 ?_
 clear qz170
 rintro rfl X1 he hE
 refine ng ?_
 have hC:=X1 _ _ hC0
 refine bc fun ng=>?_
 obtain⟨hp,g,d,tk,os⟩:=s₁
 refine ng ?_
 repeat(first|with_reducible refine wpAny_loadPart_at he ?_|with_reducible refine wpAny_loadPart_at hC ?_|(with_reducible refine wpAny_isSubtype_exc hC ?_;rw[hcB])|wp_step)
 exact wpAny_raiseNew_none hh hE
theorem funFrames_of:∀{fl:List Env},(∀env∈fl,env.scope.kind≠.module∧∃L o,env.frame=some L∧base.get? L=none∧h.get? L=some o∧∀vs,o.data≠.fields vs)→h.FunFrames base fl
 |[],_=>trivial
 |env::fl,hh=>⟨(hh env List.mem_cons_self).1,(hh env List.mem_cons_self).2,funFrames_of fun e he=>hh e (List.mem_cons_of_mem _ he)⟩
theorem exc_at{e t:Addr}{tk:Tok}(ac:Act c A n)(r:Rep w h0 c l H s)(hen:s.heap.get? e=none)(hk:∀b o,s.heap.get? b=some o→h'.get? b=some o)(hdx:s.heap.get? dx=none)(he:h'.get? e=some (exObj t (some dx)))(hn:h'.Ns dx m)
  (hm:m sSym=some (.str (Str.ofString "args-out-of-range") tk)):ExcAt w h0 A c.Z c.F c.e H e h' s.heap:=by
 refine bc fun ng=>?_
 obtain⟨_,_,_,fl,h4,h5⟩:=ac.room r
 refine ng ?_
 have hS:∀{b},(∃env∈fl,env.frame=some b)→c.Z b∧∃o,s.heap.get? b=some o∧¬Fx o.data:=by
  rintro b ⟨env,he,hf⟩
  refine bc fun ng=>?_
  obtain⟨_,L,o,a1,a2,a3,a4⟩:=h5 env he
  refine ng ?_
  obtain rfl:L=b:=sj (a1.symm.trans hf)
  exact⟨a2,o,a3,a4⟩
 refine⟨fl,hideH s.heap (fun b=>∃env∈fl,env.frame=some b),dx,m,tk,c.Z,⟨h4,fun b o q=>hk b o (hideH_some q).2,funFrames_of fun env he=>?_,⟨_,_,he,rfl,rfl,rfl,by simp,by rw[hideH_get,hen];simp,.inl rfl⟩,hn,hm,r.hr,hdx,fun b hb=>hb,fun b hb=>.inl hb,fun b o q hf=>?_,fun b o q=>⟨o.slots,hk b o q,fun _=>rfl⟩,r.old,r.oldZ,r.new⟩⟩
 ·refine bc fun ng=>?_
  obtain⟨hkd,L,o,a1,a2,a3,a4⟩:=h5 env he
  refine ng ?_
  exact⟨hkd,L,o,a1,by rw[hideH_get,if_pos ⟨env,he,a1⟩],hk _ _ a3,fun vs q=>a4 (.inl ⟨vs,q⟩)⟩
 ·rw[hideH_get,if_neg]
  ·exact q
  ·intro hb
   refine bc fun ng=>?_
   obtain⟨z,o',e1,e2⟩:=hS hb
   refine ng ?_
   rw[q] at e1;obtain rfl:=sj e1
   exact e2 (hf z)
theorem sos_raise{p1 cpos pos:Pos}{b:Mine.E}(G:Top' K h0)(LS:LsOK K)(ac:Act c A (n+1))(hx:c.env.kindOf "LispSignal"=some .globalImplicit)(hkp:keepIn K (.ref lsC)=true)(hs:noStar [.Constant (.str x) kk p1,pb]=true)(hb:SoA w h0 n c A b pb):
  SoS w h0 n c A (.raise x (.str x) b) (.Raise (some (.Call (.Name "LispSignal" np) [.Constant (.str x) kk p1,pb] [] cpos)) none pos):=fun X l H Q h s E' r hE=>by
 rw[arm_exec_Raise]
 have h:vcE w h0 n (X l) b l H fun _ H₂=>x=Str.ofString "args-out-of-range"∧X l H₂:=h
 refine bc fun ng=>?_
 refine xe4 (G.T) ?_
 rintro _ loose mg mb T
 refine ng ?_
 refine wpAny_bind (wpAny_standAt (raise_made LS ac.handled (wpAny_bind (wpAny_mono (Call_ (Name_function_global c.kind hx (loadGlobal_global (by rw[c.glob];exact T.g.keeps r.hr.keep) (mg_of G.X T.g LS.glob) ?_) (by decide+kernel))) (fun v s₃ h₃=>wpAny_bind (wpAny_standAt (wpAny_pure h₃))) fun _ _ x=>x))))
 have st0:St w h0 c.Z H H s {s with toks:=s.toks+1}:=St.toks r.hr _
 refine callWith_r hs hkp (args_cons (Constant_str (args_cons (J.run (hb _ _ H _ h) (r.after st0) (hE.at l) fun v2 y H₁ s₁ p r₁ rv st=>args_nil ⟨G.X.keeps r₁.hr.keep,?_⟩) (notStar_cons (noStar_tail hs)))) (notStar_cons hs))
 refine bc fun ng=>?_
 refine xa2 (p) ?_
 try clear p
 rintro rfl hX
 refine xe14 (LS.obj) ?_
 intro nm q N bs sn sub ab col dd j0 j1 j2 j3 j5 qz171
 refine xa3 qz171 ?_
 clear qz171
 rintro hC hN hi
 refine ng ?_
 have X1:=G.X.keeps r₁.hr.keep
 have room:=ac.room r₁
 refine bc fun ng=>?_
 refine xe9 (LS.ini) ?_
 intro _ _ _ _ _ _ _ _ _ qz172
 refine xa2 qz172 ?_
 clear qz172
 rintro F _
 refine xe4 (F.ex) ?_
 intro oc od fd osl qz173
 refine xa3 qz173 ?_
 clear qz173
 rintro hf hfb _
 refine ng ?_
 have hcf:oc=.type "function":=by
  have:=LS.fn
  unfold typeIn at this
  dsimp only at this
  rw[hf] at this
  exact sj this
 have r₁':=r₁
 have hlim:=T.nolimit.keeps r₁.hr.keep
 have hN1:s₁.heap.Ns N (s₁.heap.nsMap N):=.of_isNs (isNs_of_in X1 hN)
 refine bc fun ng=>?_
 obtain⟨hh,g,d,tk,os⟩:=s₁
 refine ng ?_
 have X1:K.In hh:=X1
 refine wpAny_call_exc_init (C:=lsC) PySem.F.excBase_Exception (X1 _ _ hC) hN1 (ns_some X1 hN1 hi) (X1 _ _ hf) hcf (fun h1 e me=>?_) (show 2≤sizeLine by decide)
 refine bc fun ng=>?_
 refine xe1 (me.there) ?_
 intro t qz174
 refine xa3 qz174 ?_
 clear qz174
 rintro he ht _
 refine ng ?_
 have k1:∀b o,hh.get? b=some o→h1.get? b=some o:=me.keeps
 have k0:∀b o,h0.get? b=some o→h1.get? b=some o:=fun b o e=>k1 b o (r₁.hr.keep b o e)
 have hn0:h0.get? e=none:=by
  cases q:h0.get? e with
  |none=>rfl
  |some o=>have:=r₁.hr.keep e o q;rw[me.new] at this;exact nope1 this
 have ru:Room _ n c.Z h1:=Room.under (C:=lsC) (rest:=[.str (Str.ofString "args-out-of-range") s.toks,v2]) room k1
 refine init_go (s:=⟨h1,g,d,tk,os⟩) LS G.X k0 hn0 (hlim.keeps k1) (by have h:=ru.depth;exact Nat.lt_of_le_of_lt (Nat.le_trans (Nat.le_add_right _ _) h) (by decide)) he fun h2 tk2 dx m hdx he2 hns hm kp=>?_
 refine⟨rfl,?_⟩
 have kk:∀b o,hh.get? b=some o→h2.get? b=some o:=fun b o q=>kp b o (fun z=>by rw[z,me.new] at q;exact nope1 q) (k1 b o q)
 have nd:hh.get? dx=none:=by
  cases q:hh.get? dx with
  |none=>rfl
  |some o=>rw[k1 dx o q] at hdx;exact nope2 hdx
 refine⟨e,t,some dx,rfl,G.X.keeps fun b o q=>kk b o (r₁.hr.keep b o q),he2,?_⟩
 refine hE e _ l H₁ hh (r₁.after (St.grow r₁.hr (fun _ _ e=>e) rfl rfl)) (exc_at ac r₁ me.new kk nd he2 hns hm) hX
end
end
section
variable{X:Loc→Hp→Prop}
theorem SlK.ns(gk:∀b o,h.get? b=some o→SlK h' b o)(x:h.Ns dx m):h'.Ns dx m:=by
 refine bc fun ng=>?_
 obtain⟨o,es,ep,ho,hd,r⟩:=x
 obtain⟨sl,e,_⟩:=gk _ _ ho
 refine ng ?_
 exact⟨_,es,ep,e,hd,r⟩
theorem SlK.fx{o:Obj}(k:SlK h' b o)(f:Fx o.data):h'.get? b=some o:=by
 refine bc fun ng=>?_
 obtain⟨sl,e,g⟩:=k
 refine ng ?_
 rw[e,g f]
theorem RV.slk{P':Addr→Prop}(gk:∀b o,h.get? b=some o→SlK h' b o)(hP:∀b,P b→P' b){x:V}(r:RV h P v x):RV h' P' v x:=by
 induction r with
 |none=>exact .none
 |bool b=>exact .bool b
 |int i t=>exact .int i t
 |str x t=>exact .str x t
 |ref a=>exact .ref a
 |opq v=>exact .opq v
 |tup hp ht hl _ ih=>
  refine bc fun ng=>?_
  obtain⟨o,ho,hc,k,hd⟩:=ht
  refine ng ?_
  exact .tup (hP _ hp) ⟨o,(gk _ _ ho).fx (.inr (.inl ⟨_,_,hd⟩)),hc,k,hd⟩ hl ih
 |lst hp ht hl _ ih=>
  refine bc fun ng=>?_
  obtain⟨k,ho⟩:=ht
  refine ng ?_
  exact .lst (hP _ hp) ⟨k,(gk _ _ ho).fx (.inr (.inl ⟨_,_,rfl⟩))⟩ hl ih
 |scr hp ht hl hv=>
  refine bc fun ng=>?_
  obtain⟨o,ho,hc,k,hd⟩:=ht
  refine ng ?_
  exact .scr (hP _ hp) ⟨o,(gk _ _ ho).fx (.inr (.inl ⟨_,_,hd⟩)),hc,k,hd⟩ hl hv
 |exc hp hq ho hc hnc hd hn hm=>
  refine bc fun ng=>?_
  obtain⟨sl,e,_⟩:=gk _ _ ho
  refine ng ?_
  exact .exc (hP _ hp) (hP _ hq) e hc hnc hd (SlK.ns gk hn) hm
 |obj hp hq hC hi hn hm _ hx ih=>exact .obj (hP _ hp) (hP _ hq) hC ((gk _ _ hi).fx (.inr (.inr rfl))) (SlK.ns gk hn) hm ih hx
theorem caught_rep{g h₁:Heap}{t:Tok}(r:Rep w h0 c l H {s with heap:=g})(D:ExcD w h0 A c.Z c.F c.e H a h₁ fl base dx m t g Zr)
  (hb:base.StaysIn h') (hk:∀b o,h₁.get? b=some o→(Fx o.data→base.get? b=some o)→SlK h' b o) (hx:Ex h' base a dx):
  Rep w h0 c l H {s with heap:=h',toks:=tk}∧RV h' (Pu H c.Z) (.ref a) (.exc (Str.ofString "args-out-of-range")):=by
 have gk:∀b o,g.get? b=some o→SlK h' b o:=fun b o e=>(D.gs b o e).trans fun o' e1 hd=>hk b o' e1 fun q=>by
  have h2:=D.gb b o e fun _=>hd▸q
  rw[h2,←D.stays b o h2,e1]
 have gx:∀b o,g.get? b=some o→¬Zr b→h'.get? b=some o:=fun b o e z=>hb b o (D.gb b o e fun q=>absurd q z)
 have hr:=D.rep.of_g D.zz gx gk
 refine⟨⟨hr,?_,fun b o e hF hZ=>?_,fun b o e hZ=>?_,r.new,r.gens,r.os⟩,?_⟩
 ·refine bc fun ng=>?_
  obtain⟨⟨m',hn,hv⟩,hlen,hcs⟩:=r.lr
  refine ng ?_
  refine⟨⟨m',SlK.ns gk hn,fun k x u hk' hu=>?_⟩,hlen,fun x a' ha=>?_⟩
  ·rcases hv k x u hk' hu with⟨h1,v,h2,h3⟩|⟨h1,a',o,v,h2,h3,h4,h5⟩
   ·exact .inl ⟨h1,v,h2,h3.slk gk fun _ q=>q⟩
   ·refine bc fun ng=>?_
    obtain⟨sl,e,_⟩:=gk _ _ h3
    refine ng ?_
    exact .inr ⟨h1,a',_,v,h2,e,h4,h5.slk gk fun _ q=>q⟩
  ·refine bc fun ng=>?_
   refine xe2 (hcs x a' ha) ?_
   intro o v qz175
   refine xa2 qz175 ?_
   clear qz175
   rintro ho hd
   obtain⟨sl,e,_⟩:=gk _ _ ho
   refine ng ?_
   exact⟨_,v,e,hd⟩
 ·refine gx b o (r.old b o e hF hZ) fun q=>?_
  rcases D.zn b q with q|q
  ·exact hZ q
  ·rw[e] at q;exact nope2 q
 ·exact(r.oldZ b o e hZ).trans fun o' e1 _=>gk b o' e1
 ·have hag:g.get? a=none:=by
   cases q:g.get? a with
   |none=>rfl
   |some o=>
    refine bc fun ng=>?_
    obtain⟨oe,vs,e1,_,_,e4,_,e6,_⟩:=D.ex
    obtain⟨sl,e7,_⟩:=D.gs a o q
    refine ng ?_
    have:o.data=.fields vs:=by rw[e1] at e7;obtain rfl:=sj e7;exact e4
    have:=D.gb a o q fun _=>.inl ⟨vs,this⟩
    rw[e6] at this;exact nope1 this
  have off:∀{b},g.get? b=none→Pu H c.Z b:=fun {b} q=>⟨(fun f=>by obtain⟨o,e⟩:=D.rep.foot_there f;rw[q] at e;exact nope1 e),(fun z=>by obtain⟨o,e⟩:=D.rep.inH b (D.zz b z);rw[q] at e;exact nope1 e)⟩
  refine bc fun ng=>?_
  obtain⟨oe,vs,e1,e2,e3,e4,_⟩:=hx
  refine ng ?_
  refine .exc (off hag) (off D.dn) e1 e2 (by delta notCls;rw[e4]) e3 ?_ D.sym
  obtain⟨o,es,ep,ho,hd,rest⟩:=D.ns
  obtain⟨sl,e,_⟩:=hk dx o ho fun q=>by rcases q with⟨vs,q⟩|⟨_,_,q⟩|q<;>(rw[hd] at q;cases q)
  exact⟨_,es,ep,e,hd,rest⟩
end
section
variable{a b d e:E}{pos:Pos}
theorem exc_entry{a:Addr}{o:Obj}{name:Str}{tk:Tok}{Q:Fin→Shared→Prop}(LS:LsOK K)(X:K.In s.heap)(hx:s.heap.get? a=some o)(hc:o.cls=.ref lsC)(hnc:notCls o=true)(hd:o.dict=some dx)(hn:s.heap.Ns dx m)(hm:m name=some v)(hf:findIn K (.ref lsC) name=some none)
  (hq:Q (.done (.ret v)) s):wpAny (MM w) A (Builtin.«object.__getattribute__» ⟨[.ref a,.str name tk],[]⟩) Q E' s:=by
 refine bc fun ng=>?_
 obtain⟨hh,g,d,t,os⟩:=s
 refine ng ?_
 have L3:=looks_findIn (M:=MM w) X hf
 refine bc fun ng=>?_
 refine xe14 (LS.obj) ?_
 intro nm q N bs sn sub ab col dd j0 j1 j2 j3 j5 qz176
 refine xa3 qz176 ?_
 clear qz176
 rintro hC0 _ _
 refine ng ?_
 have hC:hh.get? lsC=some (excClassObj nm q lsC N bs bmE true sn sub ab col dd j0 j1 j2 j3 j5 "Exception.__new__"):=X _ _ hC0
 delta Builtin.«object.__getattribute__»
 repeat(first|(with_reducible refine wpAny_loadPart_at hx ?_;rw[hc])|with_reducible refine L3.at ?_|wp_step)
 split
 ·rename_i c hcd;delta notCls at hnc;rw[hcd] at hnc;exact nope3 hnc
 delta instanceDict
 repeat(first|(with_reducible refine wpAny_loadPart_at hx ?_;rw[hc])|with_reducible refine wpAny_loadPart_at hC ?_|wp_step)
 rw[hd]
 repeat(first|(with_reducible refine wpAny_nsGet hn ?_;rw[hm])|wp_step)
 exact hq
theorem exc_get{a:Addr}{o:Obj}{name:Str}{ex:Bool}{Q:Value→Shared→Prop}(LS:LsOK K)(X:K.In s.heap)(hx:s.heap.get? a=some o)(hc:o.cls=.ref lsC)(hnc:notCls o=true)(hd:o.dict=some dx)(hn:s.heap.Ns dx m)(hm:m name=some v)(hf:findIn K (.ref lsC) name=some none)
  (hh:handedOut v=pure v) (hq:Q v {s with toks:=s.toks+1}):wpAny (MM w) A (getAttr (.ref a) name ex) Q E' s:=by
 have L1:=looks_findIn (M:=MM w) X LS.get_
 have L2:=looks_findIn (M:=MM w) X LS.ga
 refine bc fun ng=>?_
 refine xe14 (LS.obj) ?_
 intro nm q N bs sn sub ab col dd j0 j1 j2 j3 j5 qz177
 refine xa3 qz177 ?_
 clear qz177
 rintro hC0 _ _
 refine ng ?_
 have hC:s.heap.get? lsC=some (excClassObj nm q lsC N bs bmE true sn sub ab col dd j0 j1 j2 j3 j5 "Exception.__new__"):=X _ _ hC0
 have f3:=PySem.F.attr_Exception.ga.bind (.ref a)
 have hx0:(ex&&onTheHeap (Value.builtin "BaseException.__getattribute__"))=false:=by cases ex<;>rfl
 have hx2:(Value.builtin "BaseException.__getattribute__"==Value.builtin "object.__getattribute__")=false:=by decide+kernel
 have hx1:(onTheHeap (Value.ref lsC)&&Value.builtin "BaseException.__getattribute__"==Value.builtin "object.__getattribute__")=false:=by rw[hx2];rfl
 refine bc fun ng=>?_
 obtain⟨hp,g,d,t,os⟩:=s
 refine ng ?_
 have L1:Looks (MM w) hp (typeLookup (.ref lsC) "__getattribute__") (some (.builtin "BaseException.__getattribute__")):=L1
 have L2:Looks (MM w) hp (typeLookup (.ref lsC) "__getattr__") none:=L2
 delta getAttr getAttrBy
 repeat(any_goals(first|assumption|(with_reducible refine wpAny_loadPart_at hx ?_;rw[hc])|with_reducible refine L1.at ?_|with_reducible refine L2.at ?_|wp_step))
 refine codeAny_call_builtin PySem.F.attr_Exception.ga.plain PySem.F.entry_bexc_ga (@wpAny_check_ga_own A.in1 _ hp g d (t+1) os a o nm q lsC N bs bmE bmE true sn sub ab col dd j0 j1 j2 j3 j5 "Exception" "Exception.__new__" (MM w) (.str name t) _ PySem.F.attrBase_Exception hC .base hx hc ?_)
 refine exc_entry (s:=⟨hp,g,d,t+1,os⟩) LS X hx hc hnc hd hn hm hf ?_
 show wpAny _ _ (handedOut v) _ _ _
 rw[hh]
 exact wpAny_pure hq
theorem so_excSym(G:K.In h0)(LS:LsOK K)(ha:So w h0 n c A X l a pa)
  (he:eval (pa.Attribute sSym pos) c.env=(do let o←eval pa c.env;standAt pos.atName;let r←holding [o] (getAttr o sSym true);letTemporaryGo pa o r;pure r)):
  So w h0 n c A X l (.excSym a) (.Attribute pa sSym pos):=fun H Q h s E' r hE=>
 Attribute_any_ (J.run (ha H _ h) r hE fun v x H₁ s₁ p r₁ rv st=>by
  cases x with
  |exc sym=>
   obtain⟨ad,dx,o,m,t,rfl,hp,hq,ho,hc,hnc,hd,hn,hm⟩:∃ad dx o m t,v=.ref ad∧Pu H₁ c.Z ad∧Pu H₁ c.Z dx∧s₁.heap.get? ad=some o∧o.cls=.ref lsC∧notCls o=true∧o.dict=some dx∧s₁.heap.Ns dx m∧m sSym=some (.str sym t):=by
    cases rv with
    |exc hp hq ho hc hnc hd hn hm=>exact⟨_,_,_,_,_,rfl,hp,hq,ho,hc,hnc,hd,hn,hm⟩
   exact exc_get LS (G.keeps r₁.hr.keep) ho hc hnc hd hn hm LS.sym rfl ⟨.str sym,H₁,.str _ _,st.trans (St.toks r₁.hr _),p⟩
  |_=>exact False.elim p) he
end
section
variable{X:Loc→Hp→Prop}
variable{a b d e:E}{pos:Pos}
theorem unbind_J{Q:Unit→Shared→Prop}(hx:c.vars[k]? =some x)(hk:c.env.kindOf x=some .local)(r:Rep w h0 c l H s)(hl:l[k]? =some (some u))
  (h:∀s',Rep w h0 c (unL l k) H s'→(∀v y,RV s.heap (Pu H c.Z) v y→RV s'.heap (Pu H c.Z) v y)→Q () s'):wpAny (MM w) A (unbindBehindTheSuite c.env x hp) Q E' s:=by
 refine xe1 (r.lr.ns) ?_
 intro m qz178
 refine xa2 qz178 ?_
 clear qz178
 rintro hn hv
 obtain⟨v,hm⟩:∃v,m x=some v:=by
  rcases hv k x u hx hl with⟨_,v,hm,_⟩|⟨q,_⟩
  ·exact⟨v,hm⟩
  ·rw[hk] at q
   rcases q with q|⟨q,_⟩<;>cases q
 refine wpAny_onRaise (wpAny_unbindName_local hk hn hm (by rw[c.kind];rfl) fun h' u' hn' sb=>h _ ?_ ?_)
 ·have other:∀b,b≠c.env.locals→h'.get? b=s.heap.get? b:=fun b hb=>sb.2 b hb
  have ag:Agr (Pu H c.Z) s.heap h':=fun b o hb e=>(other b fun q=>hb.2 (q▸c.zl)).trans e
  refine⟨r.hr.atZ (fun b hb=>other b fun q=>hb (q▸c.zl)) (fun b hb=>?_),⟨⟨_,hn',fun j y u' hj hu=>?_⟩,by rw[unL_eq,List.length_set];exact r.lr.len,fun y a ha=>?_⟩,fun b o e hF hZ=>(other b fun q=>hZ (q▸c.zl)).trans (r.old b o e hF hZ),fun b o e hZ=>?_,r.new,r.gens,r.os⟩
  ·by_cases q:b=c.env.locals
   ·subst q;obtain⟨o,_,_,ho,_⟩:=hn';exact⟨o,ho⟩
   ·obtain⟨o,e⟩:=r.hr.inH b hb;exact⟨o,(other b q).trans e⟩
  ·rw[unL_eq,List.getElem?_set] at hu
   split at hu
   ·split at hu<;>(first|exact nope1 hu|exact nope2 hu|exact nope3 hu|exact nope4 hu|obtain rfl:=sj hu|cases hu)
   ·rename_i hne
    have hyx:y≠x:=fun q=>by
     subst q
     refine bc fun ng=>?_
     refine xe1 (List.getElem?_eq_some_iff.mp hj) ?_
     rintro h1 e1
     refine xe1 (List.getElem?_eq_some_iff.mp hx) ?_
     rintro h2 e2
     refine ng ?_
     exact hne ((List.getElem_inj c.nd).mp (e1.trans e2.symm)).symm
    rcases hv j y u' hj hu with⟨h1,v',h2,h3⟩|⟨h1,a,o,v',h2,h3,h4,h5⟩
    ·exact .inl ⟨h1,v',(if_neg hyx).trans h2,h3.mono ag fun b hb _=>hb⟩
    ·exact .inr ⟨h1,a,o,v',h2,(other a (c.cl y a h2)).trans h3,h4,h5.mono ag fun b hb _=>hb⟩
  ·refine bc fun ng=>?_
   refine xe2 (r.lr.cells y a ha) ?_
   intro o v' qz179
   refine xa2 qz179 ?_
   clear qz179
   rintro e hd
   refine ng ?_
   exact⟨o,v',(other a (c.cl y a ha)).trans e,hd⟩
  ·by_cases q:b=c.env.locals
   ·subst q;rw[c.el] at e;exact nope1 e
   ·refine bc fun ng=>?_
    obtain⟨sl,e1,f⟩:=r.oldZ b o e hZ
    refine ng ?_
    exact⟨sl,(other b q).trans e1,f⟩
 ·exact fun v y rv=>rv.mono (fun b o hb e=>(sb.2 b fun q=>hb.2 (q▸c.zl)).trans e) fun b hb _=>hb
theorem noted_trans{e:Addr}{h'':Heap}(n₁:Noted base fl e dx h h')(n₂:Noted base fl e dx h' h''):Noted base fl e dx h h'':=
 ⟨n₂.1,n₂.2.1,n₂.2.2.1,fun b o hb hk=>(n₁.2.2.2 b o hb hk).trans fun o' e1 hd=>n₂.2.2.2 b o' e1 fun q=>by
  have:=hk (hd▸q)
  exact this▸(sj ((n₁.1 b o this).symm.trans e1))▸rfl⟩
theorem sos_try{hpos pos:Pos}{b h:Ss}{pb:List Stmt}(G:Top' K h0)(LS:LsOK K)(fr:FrOK c A)(hgx:c.env.kindOf "LispSignal"=some .globalImplicit)(hx:c.vars[k]? =some x)(hk:c.env.kindOf x=some .local)
  (hb:SoSs w h0 n c A b pb) (hh:∀A',SoSs w h0 n c A' h (h₀::hs)):
  SoS w h0 n c A (.try_ b k h) (.Try pb [.ExceptHandler (some (.Name "LispSignal" np)) (some x) (h₀::hs) hpos] [] [] pos):=fun X l H Q hq s E' r hE=>by
 rw[arm_exec_Try]
 refine wpAny_bind (wpAny_standAt (wpAny_tryStmt_except ?_))
 refine wpAny_mono (hb _ l H Q hq s _ r ?_) (fun f s₁ ⟨f',l',H',hf,r',q⟩=>?_) fun e s₁ he=>he
 ·intro a s₁ l' H' g rg ex hX
  refine bc fun ng=>?_
  obtain⟨fl,base,dx,m,t,Zr,D⟩:=ex
  obtain⟨outer,hfr,L,hL⟩:=fr
  refine ng ?_
  obtain rfl:fl=c.env::outer:=sj (D.frames.symm.trans hfr)
  refine note_go hfr D.funs hL D.stays D.ex fun h₂ n₂ k5=>?_
  refine flight_no (s:={s₁ with heap:=h₂}) n₂.2.1 n₂.1 n₂.2.2.1 k5 fun h₃ n₃ k6=>?_
  have n13:=noted_trans n₂ n₃
  have gk0:∀b o,h0.get? b=some o→h₃.get? b=some o:=fun b o e=>n₃.1 b o (D.gb b o (D.rep.keep b o e) fun z=>by rw[D.rep.zf b z] at e;exact nope1 e)
  refine bc fun ng=>?_
  refine xe4 (G.T) ?_
  rintro _ loose mg mb T
  refine xe14 (LS.obj) ?_
  intro nm q N bs sn sub ab col dd j0 j1 j2 j3 j5 qz180
  refine xa3 qz180 ?_
  clear qz180
  rintro hC _ _
  obtain⟨oe,vs,e1,e2,_⟩:=id n₃.2.2.1
  refine ng ?_
  refine wpAny_handleBy_cons (codeAny_handlers_test (Name_function_global c.kind hgx (loadGlobal_global (by rw[c.glob];exact T.g.keeps gk0) (mg_of G.X T.g LS.glob) ?_) (by decide+kernel))) (by intro q;cases q)
  refine wpAny_excMatches_sub_self ((G.X.keeps gk0) _ _ hC) e1 e2 (by decide) ?_
  refine codeAny_handlers_suite_as ?_
  refine bc fun ng=>?_
  refine xe5 (k6) ?_
  try clear k6
  intro oe' vs' T' oT' ts' qz181
  refine xa7 qz181 ?_
  clear qz181
  rintro y1 y2 y3 y4 y5 y6 _
  refine ng ?_
  refine flight_no (s:={s₁ with heap:=h₃}) n₃.2.1 n₃.1 n₃.2.2.1 ⟨oe',vs',T',oT',ts',y1,y2,y3,y4,y5,y6⟩ fun h₄ n₄ _=>?_
  have n14:=noted_trans n13 n₄
  refine bc fun ng=>?_
  refine xa2 (caught_rep (tk:=s₁.toks) rg D n14.1 n14.2.2.2 n14.2.2.1) ?_
  rintro r4 rv4
  refine ng ?_
  refine store_J' (s:={s₁ with heap:=h₄}) hx (.inl hk) r4 rv4 fun s₅ r5 _=>?_
  refine wpAny_mono (hh _ _ _ H' _ hX s₅ _ r5 (fun _ _ _ _ _ _ _ z=>z.elim)) (fun f s₆ ⟨f',l₆,H₆,hf,r₆,q⟩=>?_) fun _ _ e=>e
  have hkl:k< l₆.length:=by rw[r₆.lr.len];exact(List.getElem?_eq_some_iff.mp hx).1
  refine wpAny_bind (wpAny_bindName (store_J' (u:=.none) hx (.inl hk) r₆ .none fun s₇ r₇ hst=>?_))
  refine unbind_J hx hk r₇ (u:=.none) (by rw[setL_eq,List.getElem?_set_self hkl]) fun s₈ r₈ mo=>?_
  have e8:unL (setL l₆ k .none) k=unL l₆ k:=by rw[unL_eq,unL_eq,setL_eq,List.set_set]
  rw[e8] at r₈
  refine⟨f',_,H₆,?_,r₈,q⟩
  cases f'<;>cases f<;>first|exact hf.elim|trivial|exact mo _ _ (store_mono hst hf)
 ·cases f'<;>cases f<;>first|exact hf.elim|exact wpAny_execs_nil ⟨.next,l',H',trivial,r',q⟩|exact⟨_,l',H',hf,r',q⟩
end
set_option genInjectivity false
set_option genSizeOf false
set_option bootstrap.genMatcherCode false
theorem isB_ok{o:BoolOp}(h:isB o p pa=true):∃y r,pa=.BoolOp o (y::r) p:=by
 cases pa<;>first|exact nope3 h|skip
 rename_i o' xs p'
 have a:=Bool.and_eq_true_iff.mp h
 have b:=Bool.and_eq_true_iff.mp a.1
 have e:o'=o:=of_decide_eq_true b.1
 have e2:p'=p:=of_decide_eq_true b.2
 subst e e2
 cases xs with
 |nil=>exact nope3 a.2
 |cons y r=>exact⟨y,r,rfl⟩
theorem isNoneE_ok{a:E}(h:isNoneE a=true):a=.none:=by
 cases a<;>first|rfl|exact nope3 h
theorem isTrueE_ok{a:E}(h:isTrueE a=true):a=.bool true:=by
 cases a<;>first|exact congrArg _ h|exact nope3 h
theorem not_ok{a:Bool}(h:(!a)=true):a=false:=by cases a<;>first|rfl|exact nope3 h
theorem and2{a b:Bool}(h:(a&&b)=true):a=true∧b=true:=Bool.and_eq_true_iff.mp h
theorem gvsAt_ok{p:Value→Bool}(h:gvsAt K sc x p=true):∃v,gvAt K sc x v=true∧p v=true:=by
 delta gvsAt at h
 split at h
 ·exact⟨_,and2 h⟩
 ·exact nope3 h
theorem bltAt_ok(h:bltAt K c.env.scope x v=true):Blt K c x v:=by
 have a:=and2 h
 have b:=and2 a.1
 have d:=and2 b.1
 have e:=and2 a.2
 exact⟨of_decide_eq_true d.1,eq_of_beq b.2,eq_of_beq e.1,fun q=>ne_of_beq_false (not_ok e.2) q,not_ok d.2⟩
theorem closure_go(env:Env):∀(names:List (Str×NameKind)) (acc:List (Str×Addr)),(∀x,(x,NameKind.free)∈names→∃a,env.cells.lookup x=some a)→
  ∃clos,(forIn names acc fun p cs=>(if(p.2==.free)=true then(do let a←cellOf env p.1;pure (ForInStep.yield ((p.1,a)::cs))) else pure (ForInStep.yield cs):Sem (ForInStep (List (Str×Addr)))))=pure clos∧
   (∀x a,clos.lookup x=some a→acc.lookup x=some a∨((x,NameKind.free)∈names∧env.cells.lookup x=some a))∧(∀x,((x,NameKind.free)∈names∨(acc.lookup x).isSome=true)→(clos.lookup x).isSome=true)
 |[],acc,_=>⟨acc,List.forIn_nil,fun x a h=>.inl h,fun x h=>h.elim (fun q=>by cases q) id⟩
 |(x,k)::r,acc,h=>by
  rw[List.forIn_cons]
  by_cases q:k=.free
  ·subst q
   refine bc fun ng=>?_
   refine xe1 (h x List.mem_cons_self) ?_
   rintro a ha
   refine ng ?_
   have ec:cellOf env x=pure a:=by delta cellOf;rw[ha]
   refine bc fun ng=>?_
   refine xe1 (closure_go env r ((x,a)::acc) fun y hy=>h y (List.mem_cons_of_mem _ hy)) ?_
   intro clos qz182
   refine xa3 qz182 ?_
   clear qz182
   rintro e1 e2 e3
   refine ng ?_
   refine⟨clos,?_,fun y b hb=>?_,fun y hy=>e3 y ?_⟩
   ·rw[if_pos (by rfl),ec,pure_bind,pure_bind];exact e1
   ·rcases e2 y b hb with z|⟨z1,z2⟩
    ·rw[List.lookup_cons] at z
     by_cases hyx:(y==x)=true
     ·rw[hyx] at z;obtain rfl:=sj z
      rw[eq_of_beq hyx];exact .inr ⟨List.mem_cons_self,ha⟩
     ·have hyx:(y==x)=false:=by simpa using hyx
      rw[hyx] at z;exact .inl z
    ·exact .inr ⟨List.mem_cons_of_mem _ z1,z2⟩
   ·by_cases hyx:(y==x)=true
    ·exact .inr (by rw[List.lookup_cons,hyx];rfl)
    ·have hyx:(y==x)=false:=by simpa using hyx
     rcases hy with hy|hy
     ·rcases List.mem_cons.mp hy with hy|hy
      ·cases hy;simp at hyx
      ·exact .inl hy
     ·exact .inr (by rw[List.lookup_cons,hyx];exact hy)
  ·refine bc fun ng=>?_
   refine xe1 (closure_go env r acc fun y hy=>h y (List.mem_cons_of_mem _ hy)) ?_
   intro clos qz183
   refine xa3 qz183 ?_
   clear qz183
   rintro e1 e2 e3
   refine ng ?_
   refine⟨clos,?_,fun y b hb=>?_,fun y hy=>e3 y ?_⟩
   ·rw[if_neg (by simpa using q),pure_bind];exact e1
   ·exact(e2 y b hb).imp id fun z=>⟨List.mem_cons_of_mem _ z.1,z.2⟩
   ·rcases hy with hy|hy
    ·rcases List.mem_cons.mp hy with hy|hy
     ·cases hy;exact absurd rfl q
     ·exact .inl hy
    ·exact .inr hy
theorem caps_ok{vs:List Str}:∀{xs:List Str} {cap:List (Option Nat)},capsAre vs xs cap=true→xs.length=cap.length∧∀(j:Nat) (x:Str),xs[j]? =some x→∃i,cap[j]? =some (some i)∧vs[i]? =some x
 |[],[],_=>⟨rfl,fun j x h=>by simp at h⟩
 |x::r,some i::cs,h=>by
  refine bc fun ng=>?_
  refine xa2 (Bool.and_eq_true_iff.mp (show(decide (vs[i]? =some x)&&capsAre vs r cs)=true from h)) ?_
  rintro h1 h2
  refine xa2 (caps_ok h2) ?_
  rintro e1 e2
  refine ng ?_
  refine⟨by simp[e1],fun j y hy=>?_⟩
  cases j with
  |zero=>simp at hy;subst hy;exact⟨i,rfl,of_decide_eq_true h1⟩
  |succ j=>obtain⟨i',a,b⟩:=e2 j y (by simpa using hy);exact⟨i',by simpa using a,b⟩
 |[],_::_,h=>absurd h Bool.false_ne_true
 |_::_,[],h=>absurd h Bool.false_ne_true
 |_::_,none::_,h=>absurd h Bool.false_ne_true
theorem lookup_map_kind{f:Str×NameKind→Str×NameKind}(hf:∀p,(f p).1=p.1){k:NameKind}:∀{l:List (Str×NameKind)},(l.map f).lookup x=some k→∃p∈l,p.1=x∧(f p).2=k
 |[],h=>by simp at h
 |p::r,h=>by
  rw[List.map_cons] at h
  rw[show f p=(p.1,(f p).2) from by rw[←hf p]] at h
  rw[List.lookup_cons] at h
  by_cases q:(x==p.1)=true
  ·rw[q] at h;obtain rfl:=sj h
   exact⟨p,List.mem_cons_self,(eq_of_beq q).symm,rfl⟩
  ·have q:(x==p.1)=false:=by simpa using q
   rw[q] at h
   refine bc fun ng=>?_
   refine xe1 (lookup_map_kind hf h) ?_
   intro p' qz184
   refine xa2 qz184 ?_
   clear qz184
   rintro a b
   refine ng ?_
   exact⟨p',List.mem_cons_of_mem _ a,b⟩
theorem comp_all(h:compAt c.env.scope c.vars scope nv cap=true)(hc:∀x,c.env.kindOf x=some .cell→∃a,c.env.cells.lookup x=some a):
  ∃clos,closureFor scope c.env=pure clos∧CompAll c scope clos (ownNames scope++freeNames scope) nv cap∧(∀x∈scope.names,x.2≠.cell)∧(∀x∈scope.names,x.2=.local→(compScope scope c.env).names.lookup x.1=some .local)∧
   ∀x,(compScope scope c.env).names.lookup x=some .cell→∃a,clos.lookup x=some a:=by
 delta compAt at h
 simp only[Bool.and_eq_true] at h
 refine bc fun ng=>?_
 refine xa4 (h) ?_
 try clear h
 rintro⟨h1,h1'⟩ ⟨h2,h3⟩ h4 h5
 refine ng ?_
 have hall:∀p∈scope.names,(p.2=.local∧(compScope scope c.env).names.lookup p.1=some .local)∨(p.2=.free∧c.env.kindOf p.1=some .cell∧(compScope scope c.env).names.lookup p.1=some .cell)∨p.2=.globalImplicit:=fun p hp=>by
  have:=List.all_eq_true.mp h5 p hp
  simp only[Bool.or_eq_true,Bool.and_eq_true,decide_eq_true_eq] at this
  exact this
 have hfree:∀{x},(x,NameKind.free)∈scope.names↔x∈freeNames scope:=fun {x}=>by
  delta freeNames
  constructor
  ·intro q;exact List.mem_map.mpr ⟨(x,.free),List.mem_filter.mpr ⟨q,by simp⟩,rfl⟩
  ·intro q
   refine bc fun ng=>?_
   obtain⟨⟨y,k⟩,a,rfl⟩:=List.mem_map.mp q
   refine xa2 (List.mem_filter.mp a) ?_
   rintro a b
   refine ng ?_
   simp only[decide_eq_true_eq] at b
   subst b;exact a
 obtain⟨clos,e1,e2,e3⟩:=closure_go c.env scope.names [] fun x hx=>hc x (by rcases hall _ hx with⟨q,_⟩|⟨_,q,_⟩|q<;>first|(cases q;done)|exact q)
 refine bc fun ng=>?_
 refine xa2 (caps_ok h4) ?_
 rintro cl ci
 refine ng ?_
 have hlen:(ownNames scope).length=nv:=of_decide_eq_true h3
 have hsub:∀x a,clos.lookup x=some a→x∈freeNames scope∧c.env.cells.lookup x=some a:=fun x a ha=>by
  rcases e2 x a ha with q|⟨q1,q2⟩
  ·exact nope1 q
  ·exact⟨hfree.mp q1,q2⟩
 have inf:∀{x},x∈freeNames scope→c.env.kindOf x=some .cell∧(compScope scope c.env).names.lookup x=some .cell:=fun {x} hx=>by
  rcases hall _ (hfree.mpr hx) with⟨q,_⟩|⟨_,q⟩|q
  ·cases q
  ·exact q
  ·cases q
 refine⟨clos,?_,⟨⟨of_decide_eq_true h1,of_decide_eq_true h2,fun x a ha=>(hsub x a ha).2⟩,by rw[List.length_append,hlen,cl],fun j i x hj hx=>?_,fun x a ha=>?_⟩,fun p hp q=>?_,fun p hp q=>?_,fun x hx=>?_⟩
 ·delta closureFor
  have:(forIn scope.names ([]:List (Str×Addr)) fun p cs=>(if(p.2==.free)=true then(do let a←cellOf c.env p.1;pure (ForInStep.yield ((p.1,a)::cs))) else pure (ForInStep.yield cs):Sem (ForInStep (List (Str×Addr)))))>>=(fun cs=>pure cs)=(pure clos:Sem _):=by rw[e1,pure_bind]
  exact this
 ·rw[←hlen,List.getElem?_append_right (Nat.le_add_right _ _),Nat.add_sub_cancel_left] at hx
  refine bc fun ng=>?_
  refine xe1 (ci j x hx) ?_
  intro i' qz185
  refine xa2 qz185 ?_
  clear qz185
  rintro a b
  refine ng ?_
  rw[hj] at a;cases a
  have hm:=List.mem_of_getElem? hx
  exact⟨b,(inf hm).1,(inf hm).2,e3 x (.inl (hfree.mpr hm))⟩
 ·refine bc fun ng=>?_
  refine xa2 (hsub x a ha) ?_
  rintro hm _
  refine xe1 (List.getElem?_of_mem hm) ?_
  rintro j hj
  refine xe1 (ci j x hj) ?_
  intro i qz186
  refine xa2 qz186 ?_
  clear qz186
  rintro a1 a2
  refine ng ?_
  refine⟨j,i,a1,?_,a2,inf hm⟩
  rw[←hlen,List.getElem?_append_right (Nat.le_add_right _ _),Nat.add_sub_cancel_left];exact hj
 ·rcases hall p hp with⟨z,_⟩|⟨z,_⟩|z<;>(rw[z] at q;cases q)
 ·rcases hall p hp with⟨_,z⟩|⟨z,_⟩|z
  ·exact z
  ·rw[z] at q;cases q
  ·rw[z] at q;cases q
 ·obtain⟨p,hp,rfl,hk⟩:=lookup_map_kind (f:=fun(p:Str×NameKind)=>match p with|(n,k)=>if(k==.free&&c.env.scope.kind==.function&&c.env.kindOf n==some .cell) then(n,.cell) else(n,k)) (fun p=>by dsimp only;split<;>rfl) hx
  refine bc fun ng=>?_
  obtain⟨n1,k1⟩:=p
  refine ng ?_
  have hf:(n1,NameKind.free)∈scope.names:=by
   rcases hall _ hp with⟨z,_⟩|⟨z,_⟩|z
   ·exfalso
    dsimp only at z;subst z
    simp at hk
   ·dsimp only at z;rw[←z];exact hp
   ·exfalso
    dsimp only at z;subst z
    simp at hk
  exact Option.isSome_iff_exists.mp (e3 n1 (.inl hf))
structure Sc(c:Cx)(A:Around)(n:Nat):Prop where
 cells:∀x,c.env.kindOf x=some .cell→∃a,c.env.cells.lookup x=some a
 act:Act c A (n+1)
section
variable(w:World)(h0:Heap)(n:Nat)(K:Frag)
noncomputable def Both(c:Cx)(A:Around)(t:Bool)(e:E)(pa:Expr):Prop:=∀X l,(t=false→So w h0 n c A X l e pa)∧(t=true→SoT w h0 n c A X l e pa)
noncomputable def OkE(e:E):Prop:=∀(t:Bool) (pa:Expr) (c:Cx) (A:Around),ck K e t c.env.scope c.vars pa=true→Sc c A n→Both w h0 n c A t e (reb e c.vars pa)
noncomputable def OkEs(es:Es):Prop:=∀(xs:List Expr) (c:Cx) (A:Around),ckEs K es c.env.scope c.vars xs=true→Sc c A n→noStar (rebEs es c.vars xs)=true∧∀X l,SoEs w h0 n c A X l es (rebEs es c.vars xs)∧
 ∀ks zs,ks.length=(rebEs es c.vars xs).length→SoKs w h0 n c A X l ks es (rebKs ks zs) (rebEs es c.vars xs)
end
theorem Both.so{e:E}(h:Both w h0 n c A false e pa):SoA w h0 n c A e pa:=fun X l=>(h X l).1 rfl
theorem Both.sot{e:E}(h:Both w h0 n c A true e pa):SoTA w h0 n c A e pa:=fun X l=>(h X l).2 rfl
theorem both{t:Bool}{e:E}(h:SoA w h0 n c A e pa)(eq:PySem.isTrue pa c.env (eval pa c.env)=(do let v←eval pa c.env;standAt pa.pos;holding [v] (truthy v))):Both w h0 n c A t e pa:=fun X l=>⟨fun _=>h X l,fun _=>SoT.plain (h X l) eq⟩
theorem attr_eq{x:Expr}{nm:Str}(h:plainBase x=true):eval (x.Attribute nm p) env=(do let o←eval x env;standAt p.atName;let r←holding [o] (getAttr o nm true);letTemporaryGo x o r;pure r):=by
 show(attributeBase x nm env (eval x env)>>=fun o=>_)=_
 rw[base_plain h]
theorem sub_eq{y:Expr}(h:isSlice y=false)(o i:Value):subscripted y false o i=operate [o,i] (getItem o i):=by
 cases y<;>first|rfl|exact nope4 h
theorem fold_eq{y:Expr}(h:isSet y=false)(env:Env)(x:Value):foldedSetIterable y env x=pure x:=by
 cases y<;>first|rfl|exact nope4 h
theorem gv1(h:gvAt K c.env.scope x v=true):c.env.kindOf x=some .globalImplicit:=of_decide_eq_true (and2 (and2 h).1).1
theorem gv2(h:gvAt K sc x v=true):(x==("__debug__":Str))=false:=not_ok (and2 (and2 h).1).2
theorem gv3(h:gvAt K sc x v=true):nsIn K mainGlobals x=some (some v):=eq_of_beq (and2 h).2
theorem star_cons{e:Expr}(h:(!isStar e)=true)(hr:noStar r=true):noStar (e::r)=true:=Bool.and_eq_true_iff.mpr ⟨h,hr⟩
theorem compR_of{e cond:E}{pit q:Expr}(S:Sc c A n)(he:OkE w h0 n K e)(hc:OkE w h0 n K cond)
  (hk:((compAt c.env.scope c.vars scope nv cap&&(tgLt nv tg&&tgAt (compSc scope c.env.scope) (nms scope) tg))&&(ck K cond true (compSc scope c.env.scope) (nms scope) q&&ck K e false (compSc scope c.env.scope) (nms scope) pe))=true)
  (hf:∀x,foldedSetIterable pit c.env x=pure x):∃clos,CompR w h0 n c A (reb e (nms scope) pe) (rebT (nms scope) tg pt) pit (ifsT cond (reb cond (nms scope) q)) scope clos (nms scope) nv cap tg cond e:=by
 have hk1:=(and2 hk).1
 have hk2:=(and2 (and2 hk).2)
 have h4:=(and2 (and2 hk1).2).2
 refine bc fun ng=>?_
 refine xe1 (comp_all (and2 hk1).1 S.cells) ?_
 intro clos qz187
 refine xa5 qz187 ?_
 clear qz187
 rintro c1 CA c2 c3 c4
 refine ng ?_
 have hSc:∀c' L,c'.env=compEnv scope c.env L clos→c'.vars=nms scope→Act c' A (n+1)→c'.env.scope=compSc scope c.env.scope∧Sc c' A n:=fun c' L e1 e2 ac=>⟨by rw[e1];rfl,fun x hx=>by rw[e1] at hx⊢;exact c4 x hx,ac⟩
 have hT:∀L (It:Value→Heap→Prop),(∀it h,It it h→∃I,it=.ref I∧∃o,h.get? I=some o∧(o.cls=.type "list_iterator"∨∃k,tg=.nm k))→TgOK w h0 n A (compEnv scope c.env L clos) (nms scope) tg (rebT (nms scope) tg pt) It:=fun L It hI=>by
  cases tg with
  |nm k=>exact tgOK_nm (of_decide_eq_true (and2 h4).1) (of_decide_eq_true (and2 h4).2)
  |tp ks=>
   refine tgOK_tp S.act.handled List.length_mapIdx.symm (fun i k q a b=>?_) fun it h hit=>?_
   ·rw[List.getElem?_mapIdx,a] at b
    obtain rfl:=sj b
    have z:=and2 (List.all_eq_true.mp h4 k (List.mem_of_getElem? a))
    exact⟨of_decide_eq_true z.1,of_decide_eq_true z.2⟩
   ·refine bc fun ng=>?_
    obtain⟨I,a,o,b,d⟩:=hI it h hit
    refine ng ?_
    rcases d with d|⟨k,d⟩
    ·exact⟨I,a,o,b,d⟩
    ·cases d
 refine⟨clos,CA,?_,hf,c1,c2,c3,hT,fun c' L e1 e2 ac l H Q hq=>?_,fun c' L e1 e2 ac=>?_,fun l x l' hq=>base_ok (and2 (and2 hk1).2).1 l x l' hq⟩
 ·delta ifsT
  cases isTrueE cond with
  |true=>exact .inl rfl
  |false=>exact .inr ⟨_,rfl⟩
 ·refine bc fun ng=>?_
  refine xa2 (hSc c' L e1 e2 ac) ?_
  rintro s1 s2
  refine ng ?_
  have key:=(hc true q c' A (by rw[s1,e2];exact hk2.1) s2).sot
  rw[e2] at key
  delta ifsT
  cases ht:isTrueE cond with
  |true=>
   obtain rfl:=isTrueE_ok ht
   exact J.pure' (fun _ _=>rfl) hq
  |false=>exact key _ l H Q hq
 ·refine bc fun ng=>?_
  refine xa2 (hSc c' L e1 e2 ac) ?_
  rintro s1 s2
  refine ng ?_
  have key:=(he false pe c' A (by rw[s1,e2];exact hk2.2) s2).so
  rw[e2] at key;exact key
theorem ok_int(i:Int):OkE w h0 n K (.int i):=fun t pa c A h S=>both (fun X l H Q h=>je_int h) rfl
theorem ok_str(x:Str):OkE w h0 n K (.str x):=fun t pa c A h S=>both (fun X l H Q h=>je_str h) rfl
theorem ok_bool(b:Bool):OkE w h0 n K (.bool b):=fun t pa c A h S=>both (fun X l H Q h=>je_bool h) rfl
theorem ok_none:OkE w h0 n K .none:=fun t pa c A h S=>both (fun X l H Q h=>je_none h) rfl
theorem so_var(h:(decide (c.vars[k]? =some (nm c.vars k))&&nodebug (nm c.vars k))=true):So w h0 n c A X l (.var k) (.Name (nm c.vars k) p):=fun H Q q=>
 (OptP.ex q).elim fun u z=>je_var (of_decide_eq_true (and2 h).1) (getL_iff.mp z.1) (not_ok (and2 h).2) z.2
theorem ok_var(k:Nat):OkE w h0 n K (.var k):=fun t pa c A h S=>both (fun X l=>so_var h) rfl
theorem ok_glob(G:Top' K h0)(y:Str)(u:V):OkE w h0 n K (.glob y u):=fun t pa c A h S=>(gvsAt_ok h).elim fun v z=>both (fun X l=>so_glob G (gv1 z.1) (gv3 z.1) z.2 (gv2 z.1)) rfl
theorem ok_neg(e:E)(he:OkE w h0 n K e):OkE w h0 n K (.neg e):=fun t pa c A h S=>both (fun X l=>so_neg ((he false _ c A h S).so X l)) rfl
theorem ok_not(e:E)(he:OkE w h0 n K e):OkE w h0 n K (.not e):=fun t pa c A h S X l=>⟨fun q=>so_not ((he t _ c A h S X l).1 q),fun q=>sot_not ((he t _ c A h S X l).2 q)⟩
theorem ok_bin(op:Operator)(a b:E)(ha:OkE w h0 n K a)(hb:OkE w h0 n K b):OkE w h0 n K (.bin op a b):=fun t pa c A h S=>both (fun X l=>so_bin S.act.handled ((ha false _ c A (and2 h).1 S).so X l) ((hb false _ c A (and2 h).2 S).so X l)) rfl
theorem ok_addM(a b:E)(ha:OkE w h0 n K a)(hb:OkE w h0 n K b):OkE w h0 n K (.addM a b):=fun t pa c A h S=>both (fun X l=>so_addM ((ha false _ c A (and2 h).1 S).so X l) ((hb false _ c A (and2 h).2 S).so X l)) rfl
theorem ok_cmp(op:CmpOp)(a b:E)(ha:OkE w h0 n K a)(hb:OkE w h0 n K b):OkE w h0 n K (.cmp op a b):=fun t pa c A h S X l=>
 have x:=(ha false _ c A (and2 (and2 h).1).1 S).so X l
 have y:=(hb false _ c A (and2 (and2 h).1).2 S).so X l
 ⟨fun _=>so_cmp x y (not_ok (and2 h).2),fun _=>sot_cmp x y (not_ok (and2 h).2)⟩
theorem ok_cmp2(o₁ o₂:CmpOp)(a b d:E)(ha:OkE w h0 n K a)(hb:OkE w h0 n K b)(hd:OkE w h0 n K d):OkE w h0 n K (.cmp2 o₁ o₂ a b d):=fun t pa c A h S X l=>
 have g:=and2 (and2 h).1
 have x:=(ha false _ c A (and2 g.1).1 S).so X l
 have y:=(hb false _ c A (and2 g.1).2 S).so X l
 have z:=(hd false _ c A g.2 S).so X l
 ⟨fun _=>so_cmp2 x y z (not_ok (and2 h).2),fun _=>sot_cmp2 x y z (not_ok (and2 h).2)⟩
theorem ok_cmp3(o₁ o₂ o₃:CmpOp)(a b d e:E)(ha:OkE w h0 n K a)(hb:OkE w h0 n K b)(hd:OkE w h0 n K d)(he:OkE w h0 n K e):OkE w h0 n K (.cmp3 o₁ o₂ o₃ a b d e):=fun t pa c A h S X l=>
 have g:=and2 (and2 h).1
 have k:=and2 g.1
 have x:=(ha false _ c A (and2 k.1).1 S).so X l
 have y:=(hb false _ c A (and2 k.1).2 S).so X l
 have z:=(hd false _ c A k.2 S).so X l
 have u:=(he false _ c A g.2 S).so X l
 ⟨fun _=>so_cmp3 x y z u (not_ok (and2 h).2),fun _=>sot_cmp3 x y z u (not_ok (and2 h).2)⟩
theorem ok_cmpD(op:CmpOp)(a b:E)(ha:OkE w h0 n K a)(hb:OkE w h0 n K b):OkE w h0 n K (.cmpD op a b):=fun t pa c A h S X l=>
 have hu:A.units+64< cLine:=by have:=S.act.units;show _< 9900;(exact li1 2 [] [_,_] (.nle (.a U0 (.m 20 (.a U1 O1))) (.c 9000)) (.nlt (.a U0 (.c 64)) (.c 9900)) rfl this)
 have x:=(ha false _ c A (and2 (and2 h).1).1 S).so X l
 have y:=(hb false _ c A (and2 (and2 h).1).2 S).so X l
 ⟨fun _=>so_cmpD hu x y (not_ok (and2 h).2),fun _=>sot_cmpD hu x y (not_ok (and2 h).2)⟩
theorem ok_and(a b:E)(ha:OkE w h0 n K a)(hb:OkE w h0 n K b):OkE w h0 n K (.and a b):=fun t pa c A h S X l=>by
 have x:=ha t _ c A (and2 (and2 h).1).1 S X l
 have y:=hb t _ c A (and2 (and2 h).1).2 S X l
 have z:=(and2 h).2
 show(t=false→So w h0 n c A X l (.and a b) (boolE .And (reb a c.vars (kd 0 pa)) (reb b c.vars (restB .And pa)) pa))∧(t=true→SoT w h0 n c A X l (.and a b) (boolE .And (reb a c.vars (kd 0 pa)) (reb b c.vars (restB .And pa)) pa))
 delta boolE
 generalize two pa=q at z⊢
 cases q with
 |true=>exact⟨fun q=>so_and (x.1 q) (so_one (y.1 q)),fun q=>sot_and (x.2 q) (sot_one_and (y.2 q))⟩
 |false=>
  refine bc fun ng=>?_
  refine xe2 (isB_ok z) ?_
  rintro y1 r e
  refine ng ?_
  rw[e] at y⊢
  exact⟨fun q=>so_and (x.1 q) (y.1 q),fun q=>sot_and (x.2 q) (y.2 q)⟩
theorem ok_or(a b:E)(ha:OkE w h0 n K a)(hb:OkE w h0 n K b):OkE w h0 n K (.or a b):=fun t pa c A h S X l=>by
 have x:=ha t _ c A (and2 (and2 h).1).1 S X l
 have y:=hb t _ c A (and2 (and2 h).1).2 S X l
 have z:=(and2 h).2
 show(t=false→So w h0 n c A X l (.or a b) (boolE .Or (reb a c.vars (kd 0 pa)) (reb b c.vars (restB .Or pa)) pa))∧(t=true→SoT w h0 n c A X l (.or a b) (boolE .Or (reb a c.vars (kd 0 pa)) (reb b c.vars (restB .Or pa)) pa))
 delta boolE
 generalize two pa=q at z⊢
 cases q with
 |true=>exact⟨fun q=>so_or (x.1 q) (so_one (y.1 q)),fun q=>sot_or (x.2 q) (sot_one_or (y.2 q))⟩
 |false=>
  refine bc fun ng=>?_
  refine xe2 (isB_ok z) ?_
  rintro y1 r e
  refine ng ?_
  rw[e] at y⊢
  exact⟨fun q=>so_or (x.1 q) (y.1 q),fun q=>sot_or (x.2 q) (y.2 q)⟩
theorem ok_ite(d a b:E)(hd:OkE w h0 n K d)(ha:OkE w h0 n K a)(hb:OkE w h0 n K b):OkE w h0 n K (.ite d a b):=fun t pa c A h S X l=>
 have z:=(hd true _ c A (and2 (and2 h).1).1 S).sot X l
 have x:=ha t _ c A (and2 (and2 h).1).2 S X l
 have y:=hb t _ c A (and2 h).2 S X l
 ⟨fun q=>so_ite z (x.1 q) (y.1 q),fun q=>sot_ite z (x.2 q) (y.2 q)⟩
theorem ok_attr(G:Top' K h0)(e:E)(k:Nat)(he:OkE w h0 n K e):OkE w h0 n K (.attr e k):=fun t pa c A h S=>both (fun X l=>so_attr G.X G.OK ((he false _ c A (and2 (and2 h).1).1 S).so X l) (of_decide_eq_true (and2 (and2 h).1).2) (attr_eq (and2 h).2)) rfl
theorem ok_excSym(e:E)(he:OkE w h0 n K e):OkE w h0 n K (.excSym e):=fun t pa c A h S=>nope3 h
theorem ok_sub(e i:E)(he:OkE w h0 n K e)(hi:OkE w h0 n K i):OkE w h0 n K (.sub e i):=fun t pa c A h S=>both (fun X l=>so_sub ((he false _ c A (and2 (and2 h).1).1 S).so X l) ((hi false _ c A (and2 (and2 h).1).2 S).so X l) (sub_eq (not_ok (and2 h).2))) rfl
theorem ok_subK(e:E)(k:Nat)(he:OkE w h0 n K e):OkE w h0 n K (.subK e k):=fun t pa c A h S=>both (fun X l=>so_subK ((he false _ c A h S).so X l)) rfl
theorem so_part{e:E}{q:Expr}(h:So w h0 n c A X l e q):SoP w h0 n c A X l e (part e q):=by
 delta part
 cases z:isNoneE e with
 |true=>exact isNoneE_ok z
 |false=>exact h
theorem ok_slice(e lo hi:E)(he:OkE w h0 n K e)(hl:OkE w h0 n K lo)(hh:OkE w h0 n K hi):OkE w h0 n K (.slice e lo hi):=fun t pa c A h S=>both (fun X l=>so_slice ((he false _ c A (and2 (and2 h).1).1 S).so X l)
 (so_part ((hl false _ c A (and2 (and2 h).1).2 S).so X l)) (so_part ((hh false _ c A (and2 h).2 S).so X l))) rfl
theorem ok_tup(es:Es)(he:OkEs w h0 n K es):OkE w h0 n K (.tup es):=fun t pa c A h S=>both (fun X l=>so_tup ((he _ c A h S).2 X l).1) rfl
theorem ok_lst(es:Es)(he:OkEs w h0 n K es):OkE w h0 n K (.lst es):=fun t pa c A h S=>both (fun X l=>so_lst ((he _ c A h S).2 X l).1) rfl
theorem ok_lstM(es:Es)(he:OkEs w h0 n K es):OkE w h0 n K (.lstM es):=fun t pa c A h S=>both (fun X l=>so_lstM ((he _ c A h S).2 X l).1) rfl
theorem ok_dict0:OkE w h0 n K .dict0:=fun t pa c A h S=>both (fun X l=>so_dict0) rfl
theorem rebKs_ok(zs:List Expr)(ks:List Nat):(rebKs ks zs).all (·.isSome)=true∧ks.length=(rebKs ks zs).length:=by
 induction ks generalizing zs with
 |nil=>exact⟨rfl,rfl⟩
 |cons k ks ih=>exact⟨(ih zs.tail).1,congrArg (·+1) (ih zs.tail).2⟩
theorem ok_dictK(ks:List Nat)(es:Es)(he:OkEs w h0 n K es):OkE w h0 n K (.dictK ks es):=fun t pa c A h S=>
 have a:=and2 (and2 (and2 h).1).1
 have b:ks.length=_:=of_decide_eq_true (and2 (and2 h).1).2
 have z:=rebKs_ok (kids pa) ks
 both (fun X l=>so_dictK z.1 (z.2.symm.trans b) (fun q=>by rw[q] at z;rw[List.length_eq_zero_iff.mp z.2] at a;exact nope3 a.1) (z.2▸of_decide_eq_true a.2) z.2 (((he _ c A (and2 h).2 S).2 X l).2 ks (kids pa) b)) rfl
theorem ok_dict1(k e:E)(hk:OkE w h0 n K k)(he:OkE w h0 n K e):OkE w h0 n K (.dict1 k e):=fun t pa c A h S=>
 both (fun X l=>so_dict1 (by have:=S.act.units;show _< 9900;(exact li1 2 [] [_,_] (.nle (.a U0 (.m 20 (.a U1 O1))) (.c 9000)) (.nlt U0 (.c 9900)) rfl this)) ((hk false _ c A (and2 h).1 S).so X l) ((he false _ c A (and2 h).2 S).so X l)) rfl
theorem ok_call(G:Top' K h0)(f:Addr)(y:Str)(es:Es)(he:OkEs w h0 n K es):OkE w h0 n K (.call f y es):=fun t pa c A h S=>
 have g:=and2 (and2 h).1
 have z:=he _ c A (and2 h).2 S
 both (fun X l=>so_call G S.act (gv1 g.1) (gv3 g.1) (gv2 g.1) g.2 z.1 (z.2 X l).1) rfl
theorem ok_callV(G:Top' K h0)(f:E)(es:Es)(hf:OkE w h0 n K f)(he:OkEs w h0 n K es):OkE w h0 n K (.callV f es):=fun t pa c A h S=>by
 have g:=and2 (and2 h).1
 have z:=he _ c A (and2 (and2 h).2).2 S
 have y:=hf false _ c A (and2 (and2 h).2).1 S
 cases f<;>first|exact nope3 g.2|exact both (fun X l=>so_callV G S.act (and2 g.1) z.1 rfl (y.so X l) (z.2 X l).1) rfl
theorem ok_meth(G:Top' K h0)(e:E)(C:Addr)(k:Nat)(f:Addr)(es:Es)(ha:OkE w h0 n K e)(he:OkEs w h0 n K es):OkE w h0 n K (.meth e C k f es):=fun t pa c A h S=>
 have g:=and2 (and2 h).1
 have m:=and2 (and2 g.2).2
 have z:=he _ c A (and2 (and2 h).2).2 S
 both (fun X l=>so_meth G S.act (and2 g.1).1 (and2 g.1).2 z.1 (of_decide_eq_true (and2 g.2).1) (eq_of_beq (and2 m.1).1) (eq_of_beq (and2 m.1).2) m.2 ((ha false _ c A (and2 (and2 h).2).1 S).so X l) (z.2 X l).1) rfl
theorem ok_clsM(G:Top' K h0)(C:Addr)(y:Str)(k:Nat)(f:Addr)(es:Es)(he:OkEs w h0 n K es):OkE w h0 n K (.clsM C y k f es):=fun t pa c A h S=>by
 have g:=and2 (and2 h).1
 have m:=and2 (and2 g.2).2
 have z:=he _ c A (and2 h).2 S
 have hc:findCls K (.ref C) (.type "type") "__init__"=some (.val (.ref f)):=by
  have q:=(and2 m.2).1
  split at q
  ·rename_i g e;rw[e,of_decide_eq_true q]
  ·exact nope3 q
 exact both (fun X l=>so_clsM G S.act (gv1 (and2 g.1).1) (gv3 (and2 g.1).1) (gv2 (and2 g.1).1) (and2 g.1).2 z.1 (of_decide_eq_true (and2 g.2).1) (eq_of_beq (and2 m.1).1) (and2 m.1).2 hc (and2 m.2).2 (z.2 X l).1) rfl
theorem ok_new(G:Top' K h0)(C f:Addr)(y:Str)(es:Es)(he:OkEs w h0 n K es):OkE w h0 n K (.new C f y es):=fun t pa c A h S=>
 have g:=and2 (and2 h).1
 have m:=and2 g.2
 have u:=and2 m.1
 have z:=he _ c A (and2 h).2 S
 both (fun X l=>so_new G S.act (gv1 g.1) (gv3 g.1) (gv2 g.1) m.2 z.1 (of_decide_eq_true (and2 u.1).1) (and2 u.1).2 (eq_of_beq (and2 u.2).1) (eq_of_beq (and2 u.2).2) (z.2 X l).1) rfl
theorem ok_b1(G:Top' K h0)(b:B1)(e:E)(he:OkE w h0 n K e):OkE w h0 n K (.b1 b e):=fun t pa c A h S=>by
 have B:=bltAt_ok (and2 (and2 h).1).1
 have s:=(and2 (and2 h).1).2
 have y:=(he false _ c A (and2 h).2 S).so
 refine both (fun X l=>?_) rfl
 cases b with
 |len=>exact so_len G B s (y X l)
 |abs=>exact so_abs G B s (y X l)
 |sum=>exact so_sum G S.act.handled B s (y X l)
 |sorted=>exact so_sorted G S.act.handled B s (y X l)
 |list=>exact so_list G B s (y X l)
theorem ok_b2(G:Top' K h0)(b:B2)(a d:E)(ha:OkE w h0 n K a)(hd:OkE w h0 n K d):OkE w h0 n K (.b2 b a d):=fun t pa c A h S=>
 both (fun X l=>so_b2 G S.act.handled (bltAt_ok (and2 (and2 h).1).1) (and2 (and2 h).1).2 ((ha false _ c A (and2 (and2 h).2).1 S).so X l) ((hd false _ c A (and2 (and2 h).2).2 S).so X l)) rfl
theorem ok_app(e x:E)(he:OkE w h0 n K e)(hx:OkE w h0 n K x):OkE w h0 n K (.app e x):=fun t pa c A h S=>
 have g:=and2 (and2 h).1
 both (fun X l=>so_app (and2 g.1).1 (and2 g.1).2 g.2 ((he false _ c A (and2 (and2 h).2).1 S).so X l) ((hx false _ c A (and2 (and2 h).2).2 S).so X l)) rfl
theorem ok_ext(e x:E)(he:OkE w h0 n K e)(hx:OkE w h0 n K x):OkE w h0 n K (.ext e x):=fun t pa c A h S=>
 have g:=and2 (and2 h).1
 both (fun X l=>so_ext (and2 g.1).1 (and2 g.1).2 g.2 ((he false _ c A (and2 (and2 h).2).1 S).so X l) ((hx false _ c A (and2 (and2 h).2).2 S).so X l)) rfl
theorem ok_comp(G:Top' K h0)(nv:Nat)(cap:List (Option Nat))(t:Tg)(r:Bool)(it cond elt:E)(hi:OkE w h0 n K it)(hc:OkE w h0 n K cond)(he:OkE w h0 n K elt):OkE w h0 n K (.comp nv cap t r it cond elt):=fun b pa c A h S=>by
 have g:=and2 (and2 h).2
 have y:=(hi false _ c A g.2 S).so
 have key:=fun pit=>compR_of (pit:=pit) (pt:=kd 1 pa) S he hc (and2 h).1
 refine both (fun X l=>?_) rfl
 cases r with
 |false=>
  refine bc fun ng=>?_
  refine xe1 (key _ fun x=>fold_eq (not_ok g.1) _ x) ?_
  rintro clos R
  refine ng ?_
  exact so_comp_list S.act S.act.handled R (y X l)
 |true=>
  have z:=and2 g.1
  cases t with
  |nm k=>
   refine bc fun ng=>?_
   refine xe1 (key (callN "range" [reb it c.vars (itP true pa)] (kd 2 pa)) fun x=>rfl) ?_
   rintro clos R
   refine ng ?_
   exact so_comp_range G (bltAt_ok (and2 z.2).1) S.act S.act.handled (and2 z.2).2 R (y X l)
  |tp _=>exact nope3 z.1
theorem ok_flat(nv:Nat)(e:E)(he:OkE w h0 n K e):OkE w h0 n K (.flat nv e):=fun t pa c A h S=>nope3 h
theorem ok_frz(e:E)(he:OkE w h0 n K e):OkE w h0 n K (.frz e):=fun t pa c A h S X l=>by
 have q:=not_ok (and2 h).1
 exact⟨fun _=>so_frz ((he false _ c A (and2 h).2 S).so X l),fun z=>nope4 (q.symm.trans z).symm⟩
theorem ok_stop:OkE w h0 n K .stop:=fun t pa c A h S X l=>⟨fun _ H Q q=>q.elim,fun _ H Q q=>q.elim⟩
theorem ok_nil:OkEs w h0 n K .nil:=fun xs c A h S=>⟨rfl,fun X l=>⟨soEs_nil,fun ks zs q=>by rw[List.length_eq_zero_iff.mp q];exact soKs_nil⟩⟩
theorem ok_cons(e:E)(r:Es)(he:OkE w h0 n K e)(hr:OkEs w h0 n K r):OkEs w h0 n K (.cons e r):=fun xs c A h S=>by
 have x:=(he false _ c A (and2 (and2 h).2).1 S).so
 have y:=hr _ c A (and2 (and2 h).2).2 S
 have s:=star_cons (and2 h).1 y.1
 refine⟨s,fun X l=>⟨soEs_cons s (x X l) (y.2 X l).1,fun ks zs q=>?_⟩⟩
 cases ks with
 |nil=>(exact nomatch q)
 |cons k ks=>exact soKs_cons (x X l) ((y.2 X l).2 ks zs.tail (Nat.succ.inj q))
theorem okE(G:Top' K h0)(e:E):OkE w h0 n K e:=E.rec (motive_1:=fun e=>OkE w h0 n K e) (motive_2:=fun es=>OkEs w h0 n K es) ok_int ok_str ok_bool ok_none ok_var (ok_glob G) ok_neg ok_not ok_bin ok_addM ok_cmp ok_cmp2 ok_cmp3 ok_cmpD ok_and ok_or ok_ite (ok_attr G) ok_excSym ok_sub ok_subK ok_slice
 ok_tup ok_lst ok_lstM ok_dict0 ok_dictK ok_dict1 (ok_call G) (ok_callV G) (ok_meth G) (ok_clsM G) (ok_new G) (ok_b1 G) (ok_b2 G) ok_app ok_ext (ok_comp G) ok_flat ok_frz ok_stop ok_nil ok_cons e
theorem sw_key(ts vs:List Expr)(env:Env)(k k':Nat)(tp tp':Pos):swappedStores [.Tuple ts k tp] (.Tuple vs k' tp') env=(if(swA ts vs||env.blockKind !=.function)=true then pure none else if swB vs=true then pure none else if swC ts (swNames env.scope ts)=true then pure none else
  if vs.all (foldedForSure 8)=true then pure none else if vs.all (constantsAlone 8)=true then(unsupported "assign.tuple-of-constant-expressions:order-of-the-stores">>=fun(_:Unit)=>pure (some (swNames env.scope ts))) else pure (some (swNames env.scope ts))):=rfl
theorem sw_pure{ts:List Expr}{r:Option (List Str)}(hk:env.scope.kind=.function)(h:swPure env.scope ts pv=some r):swappedStores [.Tuple ts k tp] pv env=pure r:=by
 have hb:env.blockKind=.function:=by delta Env.blockKind;rw[hk];rfl
 have e:(env.blockKind !=.function)=false:=by rw[hb];rfl
 have key:∀vs,swTup ts vs (swNames env.scope ts)=some r→(if(swA ts vs||env.blockKind !=.function)=true then pure none else if swB vs=true then pure none else if swC ts (swNames env.scope ts)=true then pure none else
  if vs.all (foldedForSure 8)=true then pure none else if vs.all (constantsAlone 8)=true then(unsupported "assign.tuple-of-constant-expressions:order-of-the-stores">>=fun(_:Unit)=>pure (some (swNames env.scope ts))) else pure (some (swNames env.scope ts)))=(pure r:Sem _):=fun vs h=>by
  rw[e,Bool.or_false]
  delta swTup at h
  repeat(
   split at h
   ·rename_i q;rw[if_pos q];first|((first|exact nope1 h|exact nope2 h|exact nope3 h|exact nope4 h|obtain rfl:=sj h|cases h);rfl)|exact nope1 h
   rename_i q;rw[if_neg q])
  obtain rfl:=sj h;rfl
 cases pv<;>first|(obtain rfl:=sj h;rfl)|(rw[sw_key];exact key _ h)
theorem sos_setC{pos:Pos}{e cnd it:E}(ac:Act c A (n+1))(hx:c.vars[k]? =some x)(hkl:c.env.kindOf x=some .local)
  (hs:swapsWith (.ListComp elt [⟨target,iter,ifs,0⟩] scope pos') (some (.Name x p')) pos.line c.env=pure true)
  (R:CompR w h0 n c A elt target iter ifs scope clos vars nv cap t cnd e) (ha:SoA w h0 n c A it iter):SoS w h0 n c A (.setC k (.comp nv cap t false it cnd e)) (.Assign [.Name x p'] (.ListComp elt [⟨target,iter,ifs,0⟩] scope pos') pos):=fun X l H Q h s E' r hE=>by
 rw[exec_Assign_Name_used _ _ _ _ hs,arm_evalThenUse_ListComp]
 refine wpAny_bind (wpAny_standAt (wpAny_bind (wpAny_bind (comp_go (use:=some (assign (.Name x p') c.env)) rfl R.hfold R.hclo R.hnc R.CA.O.kind R.hnames (J.run (ha _ _ H _ h) r (hE.at l) fun v y H₁ s₁ p r₁ rv st=>?_)))))
 have lens:∀{oI:Obj},(s₁.heap.push oI).objs.size=s₁.heap.objs.size+1:=fun {oI}=>Heap.size_push ..
 replace p:=items_f p
 refine bc fun ng=>?_
 refine xe1 (p) ?_
 try clear p
 intro xs qz188
 refine xa3 qz188 ?_
 clear qz188
 rintro rfl hlen p
 refine xe2 (RV.lst_iff.mp rv) ?_
 intro tA vs qz189
 refine xa4 qz189 ?_
 clear qz189
 rintro rfl hp ht rvs
 refine ng ?_
 have hlt:tA≠s₁.heap.objs.size:=by obtain⟨o,ho⟩:=ht;exact Nat.ne_of_lt (Heap.lt_size ho)
 refine wpAny_pyIter_list ht.isList fun h₃ tk hns hsb=>?_
 dsimp only at hns hsb⊢
 rw[lens] at hns hsb⊢
 have W:=Walks.list (prog:=pw) (w:=w) (A:=A) ac.handled s₁.heap.objs.size tA hlt vs.toArray
 have esz:vs.toArray.size=xs.length:=by simp[rvs.1]
 rw[esz] at W
 have f1:∀L,TgOK w h0 n A (compEnv scope c.env L clos) vars t target (fun it h=>∃i,it=.ref s₁.heap.objs.size∧(h.IsListIter s₁.heap.objs.size tA i∧h.IsList tA vs.toArray)):=fun L=>R.hT L _ (by
  rintro it h ⟨i,e1,⟨o,ho,hcls,_⟩,_⟩;exact⟨_,e1,o,ho,.inl hcls⟩)
 have f2:∀(i:Nat) (h:Heap),(h.IsListIter s₁.heap.objs.size tA i∧h.IsList tA vs.toArray)→∃o vs',h.get? s₁.heap.objs.size=some o∧o.data=.fields vs':=by
  rintro i h ⟨⟨o,ho,_,hd⟩,_⟩;exact⟨o,_,ho,hd⟩
 have f3:∀b∈[s₁.heap.objs.size,tA],b=s₁.heap.objs.size∨(Pu H₁ c.Z b∧∃o,s₁.heap.get? b=some o):=by
  intro b hb
  simp only[List.mem_cons,List.not_mem_nil,or_false] at hb
  rcases hb with hb|rfl
  ·exact .inl hb
  ·exact .inr ⟨hp,by obtain⟨o,ho⟩:=ht;exact⟨_,ho⟩⟩
 have CC:=comp_core (elt:=elt) (target:=target) (iter:=iter) (scope:=scope) (pos:=pos') (oI:={cls:=.type "list_iterator",data:=.fields #[.ref tA,.int 0 0]}) (tk:=tk) (h₃:=h₃) (Q:=fun ys H₂=>Q .next (setL l k (.lst ys)) H₂) R.CA R.hif ac ac.handled f1 R.hc R.he r₁ W f2 ⟨⟨_,Heap.get?_push_size _ rfl,rfl,rfl⟩,ht.isList.push _⟩ f3 (fun j v y a b=>rvs.2 j v y (by simpa using a) b) hlen (R.hbase l) p hns hsb
 refine codeAny_mono CC ?_
 rintro r' s' ⟨m,hn,hok,hq⟩
 refine⟨m,hn,hok,?_⟩
 obtain⟨ys,H',q1,q2,q4,q3⟩:=hq (hideH s'.heap fun b=>b=s₁.heap.objs.size+2) s'.toks fun b o hb e=>by rw[hideH_get,if_neg hb];exact e
 have hL1:s₁.heap.get? (s₁.heap.objs.size+2)=none:=by
  cases e:s₁.heap.get? (s₁.heap.objs.size+2) with
  |none=>rfl
  |some o=>exact absurd (Heap.lt_size e) (Nat.not_lt.mpr (Nat.le_add_right _ _))
 have hnz:¬c.Z (s₁.heap.objs.size+2):=fun q=>by obtain⟨o,e⟩:=r₁.hr.inH _ q;rw[hL1] at e;exact nope1 e
 have hk':∀b o,(hideH s'.heap fun b=>b=s₁.heap.objs.size+2).get? b=some o→s'.heap.get? b=some o:=fun b o e=>(hideH_some e).2
 have hn':(hideH s'.heap fun b=>b=s₁.heap.objs.size+2).get? (s₁.heap.objs.size+2)=none:=by rw[hideH_get,if_pos rfl]
 have r2:Rep w h0 (c.addZ (s₁.heap.objs.size+2)) l H' {s' with heap:=s'.heap,toks:=s'.toks}:=q4.addZ hk' hn' (by obtain⟨o,_,_,e,_⟩:=id hn;exact⟨o,e⟩)
 have rvA:=rv_addZ (c:=c) hn' hk' q1
 refine wpAny_assign_Name (store_JL (c:=c.addZ (s₁.heap.objs.size+2)) hx (.inl hkl) r2 rvA fun s₃ r3 hb3=>?_)
 have hlne:s₁.heap.objs.size+2≠c.env.locals:=fun q=>hnz (q▸c.zl)
 refine⟨m,hn.at fun o e=>(hb3 _ hlne (.inl hkl)).trans e,fun h'' sb=>?_⟩
 exact wpAny_pure (wpAny_pure ⟨.next,_,H',trivial,r3.finish (k:=s₃.toks) (r₁.e_none hL1) hlne (fun y q=>hnz (c.zc y _ q)) hnz (fun b o hb e=>(sb.2 b hb).trans e),q3⟩)
noncomputable def one(pa:Expr):Bool:=(kids pa).length==2
theorem sw_eq(h:notComp pa=true)(t:Option Expr)(line:Nat)(env:Env):swapsWith pa t line env=pure false:=by
 cases pa<;>first|rfl|exact nope3 h
section
variable(w:World)(h0:Heap)(n:Nat)(K:Frag)
noncomputable def OkS(s:S):Prop:=∀(f:Bool) (st:Stmt) (c:Cx) (A:Around),ckS K s f c.env.scope c.vars st=true→Sc c A n→(f=true→FrOK c A)→SoS w h0 n c A s (rebS s c.vars st)
noncomputable def OkSs(ss:Ss):Prop:=∀(f:Bool) (sts:List Stmt) (c:Cx) (A:Around),ckSs K ss f c.env.scope c.vars sts=true→Sc c A n→(f=true→FrOK c A)→SoSs w h0 n c A ss (rebSs ss c.vars sts)
end
theorem storeAt_ok(h:storeAt c.env.scope c.vars k=true)(S:Sc c A n):StoreOk c (nm c.vars k):=(Bool.or_eq_true_iff.mp (and2 h).2).elim (fun q=>.inl (of_decide_eq_true q)) fun q=>.inr ⟨of_decide_eq_true q,S.cells _ (of_decide_eq_true q)⟩
theorem storeAt_v{vs:List Str}(h:storeAt sc vs k=true):vs[k]? =some (nm vs k):=of_decide_eq_true (and2 h).1
theorem ckTg_ok(G:Top' K h0)(S:Sc c A n){t:T}(h:ckTg K c.env.scope c.vars t pt=true):SoTg w h0 n c A t (rebTg c.vars t pt):=by
 cases t with
 |nm k=>exact tg_nm (storeAt_v h) (storeAt_ok h S)
 |«at» o k=>exact tg_at G (of_decide_eq_true (and2 h).1) (okE G o false _ c A (and2 h).2 S).so
 |it o i=>exact tg_it (okE G o false _ c A (and2 h).1 S).so (okE G i false _ c A (and2 h).2 S).so
 |itK o k=>exact tg_itK (okE G o false _ c A h S).so
theorem assignEach_plain{ps:List Expr}(h:noStar ps=true):assignEach ps env=ps.map fun e=>(false,assign e env):=by
 induction ps with
 |nil=>rfl
 |cons p ps ih=>
  rw[List.map_cons,←ih (noStar_tail h)]
  cases p<;>first|rfl|exact nope3 h
theorem ckTgs_ok(G:Top' K h0)(S:Sc c A n){ts:List T}{xs:List Expr}(h:ckTgs K c.env.scope c.vars ts xs=true):ts.length=(rebTgs c.vars ts xs).length∧SoTgs w h0 n c A ts ((rebTgs c.vars ts xs).map fun e=>assign e c.env):=by
 induction ts generalizing xs with
 |nil=>exact⟨rfl,tgs_nil⟩
 |cons t ts ih=>exact⟨congrArg (·+1) (ih (and2 h).2).1,tgs_cons (ckTg_ok G S (and2 h).1) (ih (and2 h).2).2⟩
theorem bindAre_ok(S:Sc c A n){xs:List Str}(h:bindAre c.env.scope c.vars ks xs=true):SoTgs w h0 n c A (ks.map T.nm) (xs.map fun x=>bindName c.env x):=by
 induction ks generalizing xs with
 |nil=>rw[List.isEmpty_iff.mp h];exact tgs_nil
 |cons k ks ih=>
  have a:=and2 (and2 h).1
  cases xs with
  |nil=>exact nope3 a.1
  |cons x xs=>
   obtain rfl:x=nm c.vars k:=sj (of_decide_eq_true a.1)
   exact tgs_bind (storeAt_v a.2) (storeAt_ok a.2 S) (ih (and2 h).2)
theorem frK_ok{m:Nat}{s:S}(h:frK m s=true):∃k,s=.frz k∧k< m:=by
 cases s<;>first|exact nope3 h|exact⟨_,rfl,of_decide_eq_true h⟩
theorem isInt0_ok{e:E}(h:isInt0 e=true):e=.int 0:=by
 cases e<;>first|exact nope3 h|exact congrArg _ (of_decide_eq_true h)
theorem isDead_ok{b:Ss}(h:isDead b=true):b=.cons .stop .nil:=by
 cases b with
 |nil=>exact nope3 h
 |cons s r=>cases s<;>first|exact nope3 h|(cases r with|nil=>rfl|cons _ _=>exact nope3 h)
theorem isStrE_ok{e:E}(h:isStrE x e=true):e=.str x:=by
 cases e<;>first|exact nope3 h|exact congrArg _ (of_decide_eq_true h)
noncomputable def OkQ(w:World)(h0:Heap)(n:Nat)(e:E):Prop:=∀(pa:Expr) (c:Cx) (A:Around),ckQ c.env.scope e c.vars pa=true→SoA w h0 n c A e (reb e c.vars pa)
theorem okQ(G:Top' K h0)(LS:LsOK K)(e:E):OkQ w h0 n e:=by
 refine E.rec (motive_1:=fun e=>OkQ w h0 n e) (motive_2:=fun _=>True) ?_ ?_ ?_ ?_ ?_ ?_ ?_ ?_ ?_ ?_ ?_ ?_ ?_ ?_ ?_ ?_ ?_ ?_ ?_ ?_ ?_ ?_ ?_ ?_ ?_ ?_ ?_ ?_ ?_ ?_ ?_ ?_ ?_ ?_ ?_ ?_ ?_ ?_ ?_ ?_ ?_ trivial (fun _ _ _ _=>trivial) e<;>intros
 all_goals first
  |exact fun pa c A h=>nope3 h
  |exact fun pa c A h X l H Q h=>je_str h
  |exact fun pa c A h X l=>so_var h
  |(rename_i e he;exact fun pa c A h X l=>so_excSym G.X LS (he _ c A (and2 h).1 X l) (attr_eq (and2 h).2))
  |(rename_i e k he;exact fun pa c A h X l=>so_subK (he _ c A h X l))
  |(rename_i op a b ha hb;exact fun pa c A h X l=>so_cmp (ha _ c A (and2 (and2 h).1).1 X l) (hb _ c A (and2 (and2 h).1).2 X l) (not_ok (and2 h).2))
  |(rename_i ha hb hd he;exact fun pa c A h X l=>have g:=and2 (and2 h).1;so_cmp3 (ha _ c A (and2 (and2 g.1).1).1 X l) (hb _ c A (and2 (and2 g.1).1).2 X l) (hd _ c A (and2 g.1).2 X l) (he _ c A g.2 X l) (not_ok (and2 h).2))
  |(rename_i e he;exact fun pa c A h X l=>so_not (he _ c A h X l))
  |(rename_i a b ha hb;exact fun pa c A h X l=>by
      have q:=(and2 h).2
      show So w h0 n c A X l (.and a b) (boolE .And (reb a c.vars (kd 0 pa)) (reb b c.vars (restB .And pa)) pa)
      delta boolE;rw[q]
      exact so_and (ha _ c A (and2 (and2 h).1).1 X l) (so_one (hb _ c A (and2 (and2 h).1).2 X l)))
theorem ckH_ok(G:Top' K h0)(LS:LsOK K){b:Ss}(h:ckH c.env.scope c.vars b sts=true):∃h₀ hs,rebSs b c.vars sts=h₀::hs∧∀A',SoSs w h0 n c A' b (h₀::hs):=by
 cases b with
 |nil=>exact nope3 h
 |cons s r=>
  cases s<;>first|exact nope3 h|skip
  cases r with
  |cons _ _=>exact nope3 h
  |nil=>exact⟨_,_,rfl,fun A'=>soss_cons (sos_ret (okQ G LS _ _ c A' h)) soss_nil⟩
theorem oks_expr(G:Top' K h0)(e:E):OkS w h0 n K (.expr e):=fun f st c A h S F=>sos_expr (okE G e false _ c A (and2 h).2 S).so (by delta interactive;rw[c.kind];rfl) (sw_eq (and2 h).1 _ _ _)
theorem oks_ret(G:Top' K h0)(e:E):OkS w h0 n K (.ret e):=fun f st c A h S F=>sos_ret (okE G e false _ c A h S).so
theorem oks_retN:OkS w h0 n K .retN:=fun f st c A h S F=>sos_retN
theorem oks_set(G:Top' K h0)(k:Nat)(e:E):OkS w h0 n K (.set k e):=fun f st c A h S F=>sos_set (storeAt_v (and2 h).1) (storeAt_ok (and2 h).1 S) (okE G e false _ c A (and2 (and2 h).2).2 S).so (sw_eq (and2 (and2 h).2).1 _ _ _)
theorem oks_setA(G:Top' K h0)(o:E)(k:Nat)(e:E):OkS w h0 n K (.setA o k e):=fun f st c A h S F=>sos_setA G (of_decide_eq_true (and2 (and2 h).1).1) (okE G o false _ c A (and2 (and2 h).1).2 S).so (okE G e false _ c A (and2 (and2 h).2).2 S).so (sw_eq (and2 (and2 h).2).1 _ _ _)
theorem oks_setI(G:Top' K h0)(o i e:E):OkS w h0 n K (.setI o i e):=fun f st c A h S F=>sos_setI (okE G o false _ c A (and2 (and2 h).1).1 S).so (okE G i false _ c A (and2 (and2 h).1).2 S).so (okE G e false _ c A (and2 (and2 h).2).2 S).so (sw_eq (and2 (and2 h).2).1 _ _ _)
theorem oks_setK(G:Top' K h0)(o:E)(k:Nat)(e:E):OkS w h0 n K (.setK o k e):=fun f st c A h S F=>sos_setK (okE G o false _ c A (and2 h).1 S).so (okE G e false _ c A (and2 (and2 h).2).2 S).so (sw_eq (and2 (and2 h).2).1 _ _ _)
theorem oks_setSl(G:Top' K h0)(o lo hi e:E):OkS w h0 n K (.setSl o lo hi e):=fun f st c A h S F=>
 have g:=and2 (and2 h).1
 sos_setSl (okE G o false _ c A (and2 g.1).1 S).so (fun X l=>so_part ((okE G lo false _ c A (and2 g.1).2 S).so X l)) (fun X l=>so_part ((okE G hi false _ c A g.2 S).so X l)) (okE G e false _ c A (and2 (and2 h).2).2 S).so (sw_eq (and2 (and2 h).2).1 _ _ _)
theorem oks_setT(G:Top' K h0)(ts:List T)(e:E):OkS w h0 n K (.setT ts e):=fun f st c A h S F=>by
 have g:=and2 (and2 h).1
 have g2:=and2 g.2
 have z:=ckTgs_ok G S g.1
 have hsw:swPure c.env.scope (rebTgs c.vars ts (kids (sk 1 st))) (reb e c.vars (sk 0 st))=some none:=by
  have q:=g2.2
  split at q
  ·assumption
  ·exact nope3 q
 have ea:=assignEach_plain (env:=c.env) g2.1
 refine sos_setT S.act.handled (okE G e false _ c A (and2 (and2 h).2).2 S).so ?_ z.1 (by rw[ea,List.length_map]) (by
  rw[ea,List.findIdx?_eq_none_iff];intro x hx;obtain⟨q,_,rfl⟩:=List.mem_map.mp hx;rfl) (sw_eq (and2 (and2 h).2).1 (some (.Tuple (rebTgs c.vars ts (kids (sk 1 st))) (num (sk 1 st)) (sk 1 st).pos)) st.pos.line c.env) (sw_pure c.kind hsw)
 rw[ea,List.map_map];exact z.2
theorem oks_setR(G:Top' K h0)(ks:List Nat)(e:E):OkS w h0 n K (.setR ks e):=fun f st c A h S F=>by
 have q:=(and2 h).1
 split at q
 ·rename_i ns hsw
  exact sos_setR S.act.handled (okE G e false _ c A (and2 (and2 h).2).2 S).so (bindAre_ok S (and2 q).1) (of_decide_eq_true (and2 q).2) (sw_eq (and2 (and2 h).2).1 (some (.Tuple (kids (sk 1 st)) (num (sk 1 st)) (sk 1 st).pos)) st.pos.line c.env) (sw_pure c.kind hsw)
 ·exact nope3 q
theorem sw_true{pos:Pos}{gs:List Comprehension}(hl:c.env.kindOf x=some .local)(hf:freeOf x scope=true)(h8:p'.line=pp.line):swapsWith (.ListComp elt gs scope pp) (some (.Name x p')) pos.line c.env=pure true:=by
 have hb:c.env.blockKind=.function:=by delta Env.blockKind;rw[c.kind];rfl
 show(pure (c.env.blockKind==.function&&c.env.kindOf x==some .local&&p'.line==pp.line&& !(scope.names.any fun(n,k)=>n==x&&(k==.local||k==.cell))):Sem Bool)=pure true
 have hf:(!(scope.names.any fun(n,k)=>n==x&&(k==.local||k==.cell)))=true:=hf
 rw[hb,hl,h8,hf,beq_self_eq_true,beq_self_eq_true,beq_self_eq_true];rfl
theorem oks_setC(G:Top' K h0)(k:Nat)(e:E):OkS w h0 n K (.setC k e):=fun f st c A h S F=>by
 have g:=and2 (and2 h).1
 have x:=and2 g.1
 have hl:c.env.kindOf (nm c.vars k)=some .local:=of_decide_eq_true x.2
 have z:=(and2 h).2
 cases e<;>first|exact nope3 z|skip
 ·rename_i nv cap t r it cond elt
  have zz:(!r)=true∧ck K (.comp nv cap t r it cond elt) false c.env.scope c.vars (sk 0 st)=true:=and2 z
  obtain rfl:=not_ok zz.1
  have h:=zz.2
  have g5:=and2 (and2 h).2
  refine bc fun ng=>?_
  refine xe1 (compR_of (pt:=kd 1 (sk 0 st)) S (okE (n:=n) G elt) (okE G cond) (and2 h).1 (fun x=>fold_eq (not_ok g5.1) _ x)) ?_
  rintro clos R
  refine ng ?_
  exact sos_setC S.act (of_decide_eq_true x.1) hl (sw_true hl (and2 g.2).1 (of_decide_eq_true (and2 g.2).2)) R (okE G it false _ c A g5.2 S).so
 ·rename_i nv a
  have y:=and2 (and2 z).2
  have q:=and2 (and2 z).1
  have q1:=and2 q.1
  have q2:=and2 q1.1
  have hall:∀p∈(scp (sk 0 st)).names,p.2=.local∧(compScope (scp (sk 0 st)) c.env).names.lookup p.1=some .local:=fun p hp=>
   have u:=and2 (List.all_eq_true.mp q1.2 p hp)
   ⟨of_decide_eq_true u.1,of_decide_eq_true u.2⟩
  exact sos_flat S.act.handled (of_decide_eq_true x.1) hl (okE G a false _ c A y.2 S).so (sw_true hl (and2 g.2).1 (of_decide_eq_true (and2 g.2).2)) (fun v=>fold_eq (not_ok y.1) _ v) (closureFor_none fun p hp q=>by rw[(hall p hp).1] at q;cases q)
   (fun p hp q=>by rw[(hall p hp).1] at q;cases q) (of_decide_eq_true q2.1) (fun p hp _=>(hall p hp).2) (of_decide_eq_true (and2 q.2).1) (of_decide_eq_true (and2 q.2).2) (not_ok (and2 q2.2).1) (not_ok (and2 q2.2).2)
theorem oks_ite(G:Top' K h0)(q:E)(a b:Ss)(ha:OkSs w h0 n K a)(hb:OkSs w h0 n K b):OkS w h0 n K (.ite q a b):=fun f st c A h S F=>
 sos_ite (okE G q true _ c A (and2 (and2 h).1).1 S).sot (ha f _ c A (and2 (and2 h).1).2 S F) (hb f _ c A (and2 h).2 S F)
theorem oks_whl(G:Top' K h0)(q:E)(b:Ss)(hb:OkSs w h0 n K b):OkS w h0 n K (.whl q b):=fun f st c A h S F=>sos_whl (okE G q true _ c A (and2 h).1 S).sot (hb false _ c A (and2 h).2 S fun z=>nope3 z)
theorem oks_for(G:Top' K h0)(t:Tg)(r:Bool)(lo hi:E)(b:Ss)(hb:OkSs w h0 n K b):OkS w h0 n K (.for_ t r lo hi b):=fun f st c A h S F=>by
 have hb:ckSs K b false c.env.scope c.vars (sB 0 st)=true→∀c',c'.env=c.env→c'.vars=c.vars→Act c' A (n+1)→SoSs w h0 n c' A b (rebSs b c.vars (sB 0 st)):=fun h c' e1 e2 ac=>by
  have key:=hb false (sB 0 st) c' A (by rw[e1,e2];exact h) ⟨fun x hx=>by rw[e1] at hx⊢;exact S.cells x hx,ac⟩ fun z=>nope3 z
  rw[e2] at key;exact key
 cases r with
 |true=>cases t with
  |tp _=>exact nope3 h
  |nm k=>
   have g:=and2 (and2 h).1
   have hb:=hb (and2 h).2
   have g1:=and2 g.1
   have y:=g.2
   show SoS w h0 n c A (.for_ (.nm k) true lo hi b) (.For (.Name (nm c.vars k) (sk 1 st).pos) (callN "range" (bif isInt0 lo then[reb hi c.vars (kd 1 (sk 0 st))] else[reb lo c.vars (kd 1 (sk 0 st)),reb hi c.vars (kd 2 (sk 0 st))]) (sk 0 st)) (rebSs b c.vars (sB 0 st)) [] st.pos)
   cases z:isInt0 lo with
   |true=>
    rw[z] at y
    obtain rfl:=isInt0_ok z
    exact sos_range1 G S.act.handled (bltAt_ok g1.2) S.act (storeAt_v g1.1) (storeAt_ok g1.1 S) hb (and2 y).1 (okE G hi false _ c A (and2 y).2 S).so
   |false=>
    rw[z] at y
    exact sos_range2 G S.act.handled (bltAt_ok g1.2) S.act (storeAt_v g1.1) (storeAt_ok g1.1 S) hb (and2 y).1 (okE G lo false _ c A (and2 (and2 y).2).1 S).so (okE G hi false _ c A (and2 (and2 y).2).2 S).so
 |false=>cases t with
  |nm k=>
   have g:=and2 (and2 h).1
   have g1:=and2 g.1
   rw[isNoneE_ok g1.2]
   exact for_seq S.act.handled S.act (storeAt_v g1.1) (storeAt_ok g1.1 S) (hb (and2 h).2) (okE G lo false _ c A (and2 g.2).2 S).so fun v=>fold_eq (not_ok (and2 g.2).1) _ v
  |tp ks=>
   have g:=and2 (and2 h).1
   have g1:=and2 g.1
   rw[isNoneE_ok g.2,isDead_ok g1.2,List.isEmpty_iff.mp g1.1]
   exact for_nil S.act.handled (okE G lo false _ c A (and2 (and2 h).2).2 S).so fun v=>fold_eq (not_ok (and2 (and2 h).2).1) _ v
theorem oks_raise(G:Top' K h0)(LS:LsOK K)(x:Str)(e₁ e₂:E):OkS w h0 n K (.raise x e₁ e₂):=fun f st c A h S F=>by
 have g:=and2 (and2 h).1
 rw[isStrE_ok (and2 g.1).2]
 exact sos_raise G LS S.act (of_decide_eq_true (and2 g.1).1) LS.keep g.2 (okE G e₂ false _ c A (and2 h).2 S).so
theorem oks_try(G:Top' K h0)(LS:LsOK K)(b:Ss)(k:Nat)(hd:Ss)(hb:OkSs w h0 n K b)(_:OkSs w h0 n K hd):OkS w h0 n K (.try_ b k hd):=fun f st c A h S F=>by
 have g:=and2 (and2 h).1
 refine bc fun ng=>?_
 refine xe2 (ckH_ok (n:=n) G LS (and2 (and2 h).2).2) ?_
 intro h₀ hs qz190
 refine xa2 qz190 ?_
 clear qz190
 rintro e y
 refine ng ?_
 show SoS w h0 n c A (.try_ b k hd) (.Try (rebSs b c.vars (sB 0 st)) [.ExceptHandler (some (.Name "LispSignal" (sk 0 st).pos)) (some (nm c.vars k)) (rebSs hd c.vars (sB 1 st)) (hpos st)] [] [] st.pos)
 rw[e]
 exact sos_try G LS (F (and2 g.1).1) (of_decide_eq_true (and2 g.1).2) (of_decide_eq_true (and2 g.2).1) (of_decide_eq_true (and2 g.2).2) (hb f _ c A (and2 (and2 h).2).1 S F) y
theorem oks_cons(s:S)(r:Ss)(hs:OkS w h0 n K s)(hr:OkSs w h0 n K r):OkSs w h0 n K (.cons s r):=fun f sts c A h S F=>by
 show SoSs w h0 n c A (.cons s r) (bif isF s then rebSs r c.vars sts else rebS s c.vars (sts.headD default)::rebSs r c.vars sts.tail)
 have h:(bif isF s then frK c.vars.length s&&ckSs K r f c.env.scope c.vars sts else ckS K s f c.env.scope c.vars (sts.headD default)&&ckSs K r f c.env.scope c.vars sts.tail)=true:=h
 cases q:isF s with
 |true=>
  rw[q] at h
  refine bc fun ng=>?_
  refine xe1 (frK_ok (and2 h).1) ?_
  intro k qz191
  refine xa2 qz191 ?_
  clear qz191
  rintro rfl hk
  refine ng ?_
  exact soss_frz (List.getElem?_eq_getElem hk) (hr f _ c A (and2 h).2 S F)
 |false=>
  rw[q] at h
  exact soss_cons (hs f _ c A (and2 h).1 S F) (hr f _ c A (and2 h).2 S F)
theorem okSs(G:Top' K h0)(LS:LsOK K)(b:Ss):OkSs w h0 n K b:=Ss.rec (motive_1:=fun s=>OkS w h0 n K s) (motive_2:=fun b=>OkSs w h0 n K b) (oks_expr G) (oks_ret G) oks_retN (oks_set G) (oks_setA G) (oks_setI G) (oks_setK G) (oks_setSl G) (oks_setT G) (oks_setR G) (oks_setC G) (oks_ite G) (oks_whl G) (oks_for G) (oks_raise G LS) (oks_try G LS)
 (fun k f st c A h S F=>nope3 h) (fun f st c A h S F X l H Q q=>q.elim) (fun f sts c A h S F=>soss_nil) oks_cons b
theorem dvsOK_ok(h:dvsOK vs us=true):vs.length=us.length∧∀(i:Nat) (v:Value) (u:V),vs[i]? =some v→us[i]? =some u→dvOK v u=true:=by
 induction vs generalizing us with
 |nil=>rw[List.isEmpty_iff.mp h];exact⟨rfl,fun i v u h=>nope1 h⟩
 |cons v vs ih=>cases us with
  |nil=>exact nope3 h
  |cons u us=>
   have z:=ih (and2 h).2
   refine⟨congrArg (·+1) z.1,fun i v' u' hv hu=>?_⟩
   cases i with
   |zero=>rw[←sj hv,←sj hu];exact(and2 h).1
   |succ i=>exact z.2 i v' u' hv hu
theorem dfl_ok{K:Frag}{d:Value}{k:List Value→Bool}(h:dfl K d k=true):∃ds:List Value,((d=.none∧ds=[])∨∃T c d' kk sl items,d=.ref T∧K.lookup T=some ⟨c,d',.seq items kk,sl⟩∧items.toList=ds)∧k ds=true:=by
 cases d<;>first|exact nope3 h|exact⟨[],.inl ⟨rfl,rfl⟩,h⟩|skip
 rename_i T
 have h:(match K.lookup T with|some o=>(match o.data with|.seq items _=>k items.toList|_=>false)|none=>false)=true:=h
 cases eT:K.lookup T with
 |none=>rw[eT] at h;exact nope3 h
 |some o=>
  rw[eT] at h
  refine bc fun ng=>?_
  obtain⟨c,d,dt,sl⟩:=o
  refine ng ?_
  cases dt<;>first|exact nope3 h|exact⟨_,.inr ⟨T,c,d,_,sl,_,rfl,eT,rfl⟩,h⟩
theorem stm_ok{b:FuncBody}(h:isStm b=true):b=.stmts (stm b):=by
 cases b with
 |stmts x=>rfl
 |expr x=>exact nope3 h
theorem fdOf_ok{K:Frag}(h:fdOf K f=some fd):∃oc od osl,K.lookup f=some ⟨oc,od,.func fd,osl⟩:=by
 delta fdOf at h
 cases e:K.lookup f with
 |none=>rw[e] at h;exact nope1 h
 |some o=>
  rw[e] at h
  refine bc fun ng=>?_
  obtain⟨oc,od,dt,osl⟩:=o
  refine ng ?_
  cases dt<;>first|exact nope1 h|exact⟨oc,od,osl,by rw[←sj h]⟩
theorem zip_has:∀{vs:List Value} {m:Nat},m≤vs.length→x∈ps.take m→((ps.zip vs).lookup x).isSome=true:=by
 induction ps with
 |nil=>intro vs m _ h;rw[List.take_nil] at h;exact absurd h List.not_mem_nil
 |cons p ps ih=>
  intro vs m hm h
  cases m with
  |zero=>exact absurd h List.not_mem_nil
  |succ m=>cases vs with
   |nil=>exact absurd hm (Nat.not_succ_le_zero _)
   |cons v vs=>
    rw[List.zip_cons_cons,List.lookup_cons]
    cases q:x==p with
    |true=>rfl
    |false=>
     refine ih (Nat.le_of_succ_le_succ hm) ?_
     rcases List.mem_cons.mp h with h|h
     ·exact absurd h (ne_of_beq_false q)
     ·exact h
theorem miss_ok(h:ps.length≤vs.length+ds.length):((ps.take (ps.length-(ds.drop (ds.length-ps.length)).length)).filter fun n=>((ps.zip vs).lookup n).isNone).isEmpty=true:=by
 rw[List.isEmpty_iff,List.filter_eq_nil_iff]
 intro x hx q
 have:=zip_has (vs:=vs) (by rw[List.length_drop];exact a_miss h/-(first|lia|omega)-/) hx
 rw[Option.isNone_iff_eq_none.mp q] at this;exact nope3 this
theorem fnAt_ok{K:Frag}{b:Ss}(h:fnAt K f ps vars us b=true):∃fd ds,fdOf K f=some fd∧FnOK K f (bodyIn K f) fd.scope ps ds∧ckSs K b true fd.scope vars (bodyIn K f)=true∧vars.Nodup∧dvsOK ds us=true:=by
 delta fnAt at h
 delta bodyIn
 cases e:fdOf K f with
 |none=>rw[e] at h;exact nope3 h
 |some fd=>
  rw[e] at h
  refine bc fun ng=>?_
  refine xe3 (fdOf_ok e) ?_
  rintro oc od osl hl
  refine xe1 (dfl_ok (and2 (and2 (and2 h).2).2).2) ?_
  intro ds qz192
  refine xa2 qz192 ?_
  clear qz192
  rintro hd hv
  refine ng ?_
  have a:=and2 (and2 (and2 h).1).1
  have b:=and2 (and2 (and2 h).1).2
  have c:=and2 (and2 (and2 h).2).1
  have d:=and2 (and2 (and2 (and2 h).2).2).1
  exact⟨fd,ds,rfl,⟨⟨oc,od,fd,osl,hl,stm_ok (and2 a.1).1,rfl,of_decide_eq_true (and2 a.2).1,List.isEmpty_iff.mp (and2 (and2 a.2).2).1,of_decide_eq_true (and2 (and2 a.2).2).2,(and2 b.1).1,List.isEmpty_iff.mp (and2 (and2 b.1).2).1,List.isEmpty_iff.mp (and2 (and2 b.1).2).2,Option.isNone_iff_eq_none.mp (and2 b.2).1,Option.isNone_iff_eq_none.mp (and2 b.2).2,
   of_decide_eq_true (and2 c.1).1,hd⟩,of_decide_eq_true (and2 (and2 c.1).2).1,fun x hx=>(Bool.or_eq_true_iff.mp (List.all_eq_true.mp c.2 x hx)).imp of_decide_eq_true of_decide_eq_true,of_decide_eq_true d.1,not_ok (and2 d.2).1,not_ok (and2 d.2).2⟩,(and2 a.1).2,of_decide_eq_true (and2 (and2 c.1).2).2,hv⟩
theorem fn_of{b:Ss}(G:Top' K h0)(LS:LsOK K)(h:fnAt K f ps vars us b=true)(hr:bodyIn K f=rebSs b vars (bodyIn K f))(hx:xs.length≤ps.length∧ps.length≤xs.length+us.length)
  (hs:startL vars ps xs us=l) (hv:vcSs w h0 n (fun _ H'=>X H') b l H fun fl _ H'=>Q (match fl with|.ret v=>v|_=>.none) H'):Fn w h0 (n+2) f xs H Q X:=by
 refine bc fun ng=>?_
 refine xe2 (fnAt_ok h) ?_
 intro fd ds qz193
 refine xa5 qz193 ?_
 clear qz193
 rintro _ F htr nd e
 refine ng ?_
 generalize fd.scope=sc at F htr
 have z:=dvsOK_ok e
 subst hs
 refine fn_rule G F nd hx.1 z.1 z.2 (fun vs hvs=>miss_ok (by rw[hvs,z.1];exact hx.2)) (fun c A' s1 s2 s3 ac fr=>?_) hv
 subst s1 s2
 rw[hr]
 exact okSs G LS b true _ c A' htr ⟨s3,ac⟩ fun _=>fr
section
open E Es T S Ss
end
theorem kokAt_ok{K:Frag}(h:kokAt K=true):KOK K:=by
 have h:∀C∈clss,_:=List.all_eq_true.mp h
 exact⟨fun C hC=>(and2 (h C hC)).1,fun C hC k hk=>List.all_eq_true.mp (and2 (h C hC)).2 k (List.mem_range.mpr hk)⟩
theorem lsIni_ok{K:Frag}(h:lsIni K=true)(hb:bodyIn K 721=rebSs b_ls_init lsPs (bodyIn K 721)):∃p1 p2 p3 p4 p5 p6 p7 p8 sc,FnOK K 721 [.Assign [.Attribute (.Name sSelf p1) sSym p2] (.Name sSym p3) p4,.Assign [.Attribute (.Name sSelf p5) sData p6] (.Name sData p7) p8] sc lsPs []∧
  sc.names.lookup sSelf=some .local∧sc.names.lookup sSym=some .local∧sc.names.lookup sData=some .local:=by
 have h2:=(and2 h).2
 refine bc fun ng=>?_
 refine xe2 (fnAt_ok (and2 h).1) ?_
 intro fd ds qz194
 refine xa5 qz194 ?_
 clear qz194
 rintro e F _ _ e1
 refine ng ?_
 rw[e] at h2
 obtain rfl:ds=[]:=List.length_eq_zero_iff.mp (dvsOK_ok e1).1
 rw[hb] at F
 exact⟨_,_,_,_,_,_,_,_,_,F,of_decide_eq_true (and2 h2).1,of_decide_eq_true (and2 (and2 h2).2).1,of_decide_eq_true (and2 (and2 h2).2).2⟩
theorem lsAt_ok{K:Frag}(h:lsAt K=true)(hb:bodyIn K 721=rebSs b_ls_init lsPs (bodyIn K 721))(ho:K.lookup lsC=some (lsReb (K.lookup lsC))):LsOK K:=by
 have a:=and2 (and2 (and2 h).1).1
 have b:=and2 (and2 (and2 h).1).2
 have c:=and2 (and2 h).2
 exact⟨⟨_,_,_,_,_,_,_,_,_,_,_,_,_,_,ho,(and2 a.1).1,eq_of_beq (and2 a.1).2⟩,eq_of_beq (and2 b.1).1,eq_of_beq (and2 (and2 b.1).2).1,eq_of_beq (and2 (and2 b.1).2).2,eq_of_beq (and2 b.2).1,eq_of_beq (and2 b.2).2,eq_of_beq (and2 c.1).1,lsIni_ok a.2 hb,eq_of_beq (and2 c.1).2,c.2⟩
theorem seen_row{K:Frag}(h:seenL K=seenR K)(r:FnRow)(hr:r∈t_ls_init::fnTab):bodyIn K r.f=rebSs r.b r.vars (bodyIn K r.f):=(List.map_inj_left (f:=fun r:FnRow=>bodyIn K r.f) (g:=fun r:FnRow=>rebSs r.b r.vars (bodyIn K r.f)) (l:=t_ls_init::fnTab)).mp (congrArg Prod.fst h) r hr
theorem lsOK_of{K:Frag}(h:lsAt K=true)(g:seenL K=seenR K):LsOK K:=lsAt_ok h (seen_row g t_ls_init List.mem_cons_self) (congrArg Prod.snd g)
noncomputable def retV:Fl→V
 |.ret v=>v
 |_=>.none
noncomputable def isI:V→Option Int
 |.int i=>some i
 |_=>none
theorem retV_r(v:V):retV (.ret v)=v:=rfl
theorem retV_n:retV .next=.none:=rfl
theorem fn_row(T:TX K h0)(hn:2≤n)(i:Nat){b:Ss}(hr:fnTab[i]? =some ⟨f,ps,vars,us,b⟩)(l:Loc)(hx:xs.length≤ps.length∧ps.length≤xs.length+us.length)
  (hs:startL vars ps xs us=l) (hv:vcSs w h0 (n-2) (fun _ H'=>X H') b l H fun fl _ H'=>Q (retV fl) H'):Fn w h0 n f xs H Q X:=by
 have e:n=(n-2)+2:=li2 2 [] [_,_] (.sb U0 O2 U1) (.nle O2 U0) (.neq U0 (.a U1 O2)) rfl (ns (n) (2)) hn
 rw[e]
 exact fn_of T.G T.LS (List.all_eq_true.mp T.F _ (List.mem_of_getElem? hr)) (seen_row T.E _ (List.mem_cons_of_mem _ (List.mem_of_getElem? hr))) hx hs hv
section
variable{X:Loc→Hp→Prop}{Q:Fl→Loc→Hp→Prop}{q:V→Hp→Prop}{qs:List V→Hp→Prop}{r:Ss}{e e1 e2 e3 a b c d i lo hi:E}{es:Es}
theorem s_nil:vcSs w h0 n X .nil l H Q=Q .next l H:=rfl
theorem s_expr:vcSs w h0 n X (.cons (.expr e) r) l H Q=vcE w h0 n (X l) e l H fun _ H₁=>vcSs w h0 n X r l H₁ Q:=rfl
theorem s_ret:vcSs w h0 n X (.cons (.ret e) r) l H Q=vcE w h0 n (X l) e l H fun v H₁=>Q (.ret v) l H₁:=rfl
theorem s_retN:vcSs w h0 n X (.cons .retN r) l H Q=Q (.ret .none) l H:=rfl
theorem s_setA:vcSs w h0 n X (.cons (.setA a k e) r) l H Q=vcE w h0 n (X l) e l H fun v H₁=>vcE w h0 n (X l) a l H₁ fun x H₂=>putF H₂ k x v fun H₃=>vcSs w h0 n X r l H₃ Q:=rfl
theorem s_setI:vcSs w h0 n X (.cons (.setI a i e) r) l H Q=vcE w h0 n (X l) e l H fun v H₁=>vcE w h0 n (X l) a l H₁ fun x H₂=>vcE w h0 n (X l) i l H₂ fun j H₃=>putI H₃ x j v fun H₄=>vcSs w h0 n X r l H₄ Q:=rfl
theorem s_setK:vcSs w h0 n X (.cons (.setK a k e) r) l H Q=vcE w h0 n (X l) e l H fun v H₁=>vcE w h0 n (X l) a l H₁ fun x H₂=>putK H₂ x k v fun H₃=>vcSs w h0 n X r l H₃ Q:=rfl
theorem s_setSl:vcSs w h0 n X (.cons (.setSl a lo hi e) r) l H Q=vcE w h0 n (X l) e l H fun v H₁=>vcE w h0 n (X l) a l H₁ fun x H₂=>vcE w h0 n (X l) lo l H₂ fun p H₃=>vcE w h0 n (X l) hi l H₃ fun q H₄=>putSl H₄ x p q v fun H₅=>vcSs w h0 n X r l H₅ Q:=rfl
theorem s_set:vcSs w h0 n X (.cons (.set k e) r) l H Q=vcE w h0 n (X l) e l H fun v H₁=>vcSs w h0 n X r (setL l k v) H₁ Q:=rfl
theorem s_setC:vcSs w h0 n X (.cons (.setC k e) r) l H Q=vcE w h0 n (X l) e l H fun v H₁=>vcSs w h0 n X r (setL l k v) H₁ Q:=rfl
theorem sl_0{x:Option V}{v:V}:setL (x::l) 0 v=some v::l:=rfl
theorem sl_s{x:Option V}{v:V}:setL (x::l) (k+1) v=x::setL l k v:=rfl
theorem s_setR:vcSs w h0 n X (.cons (.setR ks e) r) l H Q=vcE w h0 n (X l) e l H fun v H₁=>TupP v fun xs=>xs.length=ks.length∧vcTs w h0 n X (ks.reverse.map T.nm) xs.reverse l H₁ fun l' H'=>vcSs w h0 n X r l' H' Q:=rfl
theorem s_setT{ts:List T}:vcSs w h0 n X (.cons (.setT ts e) r) l H Q=vcE w h0 n (X l) e l H fun v H₁=>TupP v fun xs=>xs.length=ts.length∧vcTs w h0 n X ts xs l H₁ fun l' H'=>vcSs w h0 n X r l' H' Q:=rfl
theorem vT_n:vcTs w h0 n X [] [] l H q'=q' l H:=rfl
theorem vT_nm{ts:List T}{v:V}{vs:List V}:vcTs w h0 n X (.nm k::ts) (v::vs) l H q'=vcTs w h0 n X ts vs (setL l k v) H q':=rfl
theorem vT_at{ts:List T}{v:V}{vs:List V}{o:E}:vcTs w h0 n X (.at o k::ts) (v::vs) l H q'=vcE w h0 n (X l) o l H fun x H₁=>putF H₁ k x v fun H₂=>vcTs w h0 n X ts vs l H₂ q':=rfl
theorem vT_it{ts:List T}{v:V}{vs:List V}{o j:E}:vcTs w h0 n X (.it o j::ts) (v::vs) l H q'=vcE w h0 n (X l) o l H fun x H₁=>vcE w h0 n (X l) j l H₁ fun j H₂=>putI H₂ x j v fun H₃=>vcTs w h0 n X ts vs l H₃ q':=rfl
theorem vT_iK{ts:List T}{v:V}{vs:List V}{o:E}:vcTs w h0 n X (.itK o k::ts) (v::vs) l H q'=vcE w h0 n (X l) o l H fun x H₁=>putK H₁ x k v fun H₂=>vcTs w h0 n X ts vs l H₂ q':=rfl
theorem s_frz:vcSs w h0 n X (.cons (.frz k) r) l H Q=OptP (getL l k) fun u=>Frz u H fun v H₁=>vcSs w h0 n X r (setL l k v) H₁ Q:=rfl
theorem nk_n{K:Loc→Hp→Prop}:nextK K Q .next l H=K l H:=rfl
theorem nk_r{K:Loc→Hp→Prop}{v:V}:nextK K Q (.ret v) l H=Q (.ret v) l H:=rfl
theorem tk_n{K:Loc→Hp→Prop}:turnK K Q .next l H=K l H:=rfl
theorem s_ite{sb:Ss}(h:vcE w h0 n (X l) c l H fun v H₁=>BoolP v fun p=>(p=true→vcSs w h0 n X sa l H₁ (nextK (fun l' H'=>vcSs w h0 n X r l' H' Q) Q))∧(p=false→vcSs w h0 n X sb l H₁ (nextK (fun l' H'=>vcSs w h0 n X r l' H' Q) Q))):
 vcSs w h0 n X (.cons (.ite c sa sb) r) l H Q:=h
theorem s_whlI{sb:Ss}(I:Nat→Loc→Hp→Prop){m:Nat}(h0':I m l H)(h:∀m l₁ H₁ (K:Fl→Loc→Hp→Prop),I m l₁ H₁→(∀m' l H,m'< m→I m' l H→K .next l H)→(∀v l H,Q (.ret v) l H→K (.ret v) l H)→
   vcE w h0 n (fun _=>False) c l₁ H₁ fun v H₂=>BoolP v fun p=>(p=true→vcSs w h0 n (fun _ _=>False) sb l₁ H₂ K)∧(p=false→vcSs w h0 n X r l₁ H₂ Q)):vcSs w h0 n X (.cons (.whl c sb) r) l H Q:=
 ⟨I,⟨m,h0'⟩,fun m l₁ H₁ hi=>h m l₁ H₁ _ hi (fun m' _ _ a b=>⟨m',a,b⟩) fun _ _ _ q=>q⟩
theorem s_for{rg:Bool}{sb:Ss}(h:vcE w h0 n (X l) lo l H fun u H₁=>vcE w h0 n (X l) hi l H₁ fun v H₂=>iterP rg u v fun xs=>xs.length≤100000∧
  forV (fun l' H' K=>vcSs w h0 n (fun _ _=>False) sb l' H' K) t xs l H₂ (nextK (fun l' H'=>vcSs w h0 n X r l' H' Q) Q)):vcSs w h0 n X (.cons (.for_ t rg lo hi sb) r) l H Q:=h
theorem e_int{j:Int}:vcE w h0 n Y (.int j) l H q=q (.int j) H:=rfl
theorem e_str:vcE w h0 n Y (.str x) l H q=q (.str x) H:=rfl
theorem e_bool{x:Bool}:vcE w h0 n Y (.bool x) l H q=q (.bool x) H:=rfl
theorem e_none:vcE w h0 n Y .none l H q=q .none H:=rfl
theorem e_glob:vcE w h0 n Y (.glob x u) l H q=q u H:=rfl
theorem e_var:vcE w h0 n Y (.var k) l H q=OptP (getL l k) fun u=>q u H:=rfl
theorem e_neg:vcE w h0 n Y (.neg a) l H q=vcE w h0 n Y a l H fun v H'=>negV v fun u=>q u H':=rfl
theorem e_not:vcE w h0 n Y (.not a) l H q=vcE w h0 n Y a l H fun v H'=>notV v fun u=>q u H':=rfl
theorem e_bin{op:Operator}:vcE w h0 n Y (.bin op a b) l H q=vcE w h0 n Y a l H fun v H₁=>vcE w h0 n Y b l H₁ fun u H₂=>binV op v u H₂ q:=rfl
theorem e_addM:vcE w h0 n Y (.addM a b) l H q=vcE w h0 n Y a l H fun v H₁=>vcE w h0 n Y b l H₁ fun u H₂=>OptP (asL H₂ v) fun xs=>OptP (asL H₂ u) fun ys=>xs.length+ys.length≤1000000∧∀c,H₂ c=none→q (.ref c) (H₂.set c (.list (xs++ys))):=rfl
theorem e_cmp:vcE w h0 n Y (.cmp op a b) l H q=vcE w h0 n Y a l H fun v H₁=>vcE w h0 n Y b l H₁ fun u H₂=>OptP (cmpV op v u) fun p=>q (.bool p) H₂:=rfl
theorem e_cmp2:vcE w h0 n Y (.cmp2 o₁ o₂ a b c) l H q=vcE w h0 n Y a l H fun x H₁=>vcE w h0 n Y b l H₁ fun y H₂=>OptP (cmpV o₁ x y) fun p=>(p=true→vcE w h0 n Y c l H₂ fun z H₃=>OptP (cmpV o₂ y z) fun p=>q (.bool p) H₃)∧(p=false→q (.bool false) H₂):=rfl
theorem e_cmp3:vcE w h0 n Y (.cmp3 o₁ o₂ o₃ a b c d) l H q=vcE w h0 n Y a l H fun x H₁=>vcE w h0 n Y b l H₁ fun y H₂=>OptP (cmpV o₁ x y) fun p=>(p=true→vcE w h0 n Y c l H₂ fun z H₃=>OptP (cmpV o₂ y z) fun p=>
   (p=true→vcE w h0 n Y d l H₃ fun u H₄=>OptP (cmpV o₃ z u) fun r=>q (.bool r) H₄)∧(p=false→q (.bool false) H₃))∧(p=false→q (.bool false) H₂):=rfl
theorem e_cmpDe:vcE w h0 n Y (.cmpD .Eq a b) l H q=vcE w h0 n Y a l H fun v H₁=>vcE w h0 n Y b l H₁ fun u H₂=>∃d e,toD v=some d∧toD u=some e∧kqdOk 8 d=true∧kqdOk 8 e=true∧∀p:Bool,(p=true↔d=e)→q (.bool p) H₂:=rfl
theorem e_cmpDn:vcE w h0 n Y (.cmpD .NotEq a b) l H q=vcE w h0 n Y a l H fun v H₁=>vcE w h0 n Y b l H₁ fun u H₂=>∃d e,toD v=some d∧toD u=some e∧kqdOk 8 d=true∧kqdOk 8 e=true∧∀p:Bool,(p=true↔d≠e)→q (.bool p) H₂:=rfl
theorem e_and:vcE w h0 n Y (.and a b) l H q=vcE w h0 n Y a l H fun v H₁=>BoolP v fun p=>(p=true→vcE w h0 n Y b l H₁ q)∧(p=false→q (.bool false) H₁):=rfl
theorem e_or:vcE w h0 n Y (.or a b) l H q=vcE w h0 n Y a l H fun v H₁=>BoolP v fun p=>(p=false→vcE w h0 n Y b l H₁ q)∧(p=true→q (.bool true) H₁):=rfl
theorem e_ite:vcE w h0 n Y (.ite c a b) l H q=vcE w h0 n Y c l H fun v H₁=>BoolP v fun p=>(p=true→vcE w h0 n Y a l H₁ q)∧(p=false→vcE w h0 n Y b l H₁ q):=rfl
theorem e_attr:vcE w h0 n Y (.attr a k) l H q=vcE w h0 n Y a l H fun v H₁=>OptP (getF H₁ k v) fun u=>isOpq u=false∧q u H₁:=rfl
theorem e_sub:vcE w h0 n Y (.sub a i) l H q=vcE w h0 n Y a l H fun v H₁=>vcE w h0 n Y i l H₁ fun j H₂=>OptP (subV H₂ v j) fun u=>q u H₂:=rfl
theorem e_subK:vcE w h0 n Y (.subK a k) l H q=vcE w h0 n Y a l H fun v H₁=>OptP (subK H₁ v k) fun u=>q u H₁:=rfl
theorem e_slice:vcE w h0 n Y (.slice e lo hi) l H q=vcE w h0 n Y e l H fun v H₁=>vcE w h0 n Y lo l H₁ fun a H₂=>vcE w h0 n Y hi l H₂ fun b H₃=>sliceV H₃ v a b fun xs=>q (.lst xs) H₃:=rfl
theorem e_tup:vcE w h0 n Y (.tup es) l H q=vcEs w h0 n Y es l H fun xs H₁=>xs.length≤1000∧q (.tup xs) H₁:=rfl
theorem e_lst:vcE w h0 n Y (.lst es) l H q=vcEs w h0 n Y es l H fun xs H₁=>xs.length≤1000∧q (.lst xs) H₁:=rfl
theorem e_lstM:vcE w h0 n Y (.lstM es) l H q=vcEs w h0 n Y es l H fun xs H₁=>xs.length≤1000∧∀c,H₁ c=none→q (.ref c) (H₁.set c (.list xs)):=rfl
theorem e_dict0:vcE w h0 n Y .dict0 l H q=∀c,H c=none→q (.ref c) (H.set c (.idict [])):=rfl
theorem e_dictK:vcE w h0 n Y (.dictK ks es) l H q=∀c,H c=none→vcEs w h0 n Y es l (H.set c (.sdict [])) fun xs H₁=>H₁ c=some (.sdict [])∧(ks.Nodup∧ks.length=xs.length)∧q (.ref c) (H₁.set c (.sdict (ks.zip xs))):=rfl
theorem e_dict1:vcE w h0 n Y (.dict1 a b) l H q=∀c,H c=none→vcE w h0 n Y a l (H.set c (.sdict [])) fun x H₁=>vcE w h0 n Y b l H₁ fun _ H₂=>H₂ c=some (.sdict [])∧keyV x=true∧q .opq (H₂.del c):=rfl
theorem e_call:vcE w h0 n Y (.call f x es) l H q=vcEs w h0 n Y es l H fun xs H₁=>Fn w h0 n f xs H₁ q Y:=rfl
theorem e_callV:vcE w h0 n Y (.callV a es) l H q=vcE w h0 n Y a l H fun v H₁=>(v=.ref 968∨v=.ref 975)∧(v=.ref 968→vcEs w h0 n Y es l H₁ fun xs H₂=>Fn w h0 n 968 xs H₂ q Y)∧(v=.ref 975→vcEs w h0 n Y es l H₁ fun xs H₂=>Fn w h0 n 975 xs H₂ q Y):=rfl
theorem e_meth:vcE w h0 n Y (.meth e C k f es) l H q=vcE w h0 n Y e l H fun v H₁=>(OptP (instOf H₁ v) fun p=>p.1=C∧look k p.2=none)∧vcEs w h0 n Y es l H₁ fun xs H₂=>Fn w h0 n f (v::xs) H₂ q Y:=rfl
theorem e_clsM:vcE w h0 n Y (.clsM C x k f es) l H q=vcEs w h0 n Y es l H fun xs H₁=>Fn w h0 n f xs H₁ q Y:=rfl
theorem e_new:vcE w h0 n Y (.new C f x es) l H q=vcEs w h0 n Y es l H fun xs H₁=>∀a dx,H₁ a=none→Fn w h0 n f (.ref a::xs) (H₁.set a (.inst C dx [])) (fun v H₂=>v=.none∧q (.ref a) H₂) Y:=rfl
theorem e_b1{o:B1}:vcE w h0 n Y (.b1 o e) l H q=vcE w h0 n Y e l H fun v H₁=>b1V H₁ o v fun u=>q u H₁:=rfl
theorem e_b2{o:B2}:vcE w h0 n Y (.b2 o a c) l H q=vcE w h0 n Y a l H fun v H₁=>vcE w h0 n Y c l H₁ fun u H₂=>b2V o v u fun r=>q r H₂:=rfl
theorem e_app:vcE w h0 n Y (.app a b) l H q=vcE w h0 n Y a l H fun v H₁=>(asL H₁ v).isSome=true∧vcE w h0 n Y b l H₁ fun u H₂=>appV H₂ v u fun H₃=>q .none H₃:=rfl
theorem e_ext:vcE w h0 n Y (.ext a b) l H q=vcE w h0 n Y a l H fun v H₁=>(asL H₁ v).isSome=true∧vcE w h0 n Y b l H₁ fun u H₂=>extV H₂ v u fun H₃=>q .none H₃:=rfl
theorem e_frz:vcE w h0 n Y (.frz e) l H q=vcE w h0 n Y e l H fun v H₁=>Frz v H₁ q:=rfl
theorem es_n:vcEs w h0 n Y .nil l H qs=qs [] H:=rfl
theorem es_c:vcEs w h0 n Y (.cons e es) l H qs=vcE w h0 n Y e l H fun v H₁=>vcEs w h0 n Y es l H₁ fun vs H₂=>qs (v::vs) H₂:=rfl
end
section
variable{α:Type}{ys:List V}{P R:Prop}{v x:V}{j:Int}
theorem o_s{u:α}{Q:α→Prop}:OptP (some u) Q=Q u:=rfl
theorem l_0{r:Loc}:OptP (getL (some v::r) 0) q=q v:=rfl
theorem l_s{y:Option V}{r:Loc}:OptP (getL (y::r) (k+1)) q=OptP (getL r k) q:=rfl
theorem p_b{b:Bool}{Q:Bool→Prop}:BoolP (.bool b) Q=Q b:=rfl
theorem p_t:TupP (.tup xs) ql=ql xs:=rfl
theorem p_l:LstP (.lst xs) ql=ql xs:=rfl
theorem n_i:negV (.int i) q=q (.int (-i)):=rfl
theorem n_b{b:Bool}:notV (.bool b) q=q (.bool (!b)):=rfl
theorem b_add:binV .Add (.int i) (.int j) H Q=Q (.int (i+j)) H:=rfl
theorem b_sub:binV .Sub (.int i) (.int j) H Q=Q (.int (i-j)) H:=rfl
theorem b_mod:binV .Mod (.int i) (.int j) H Q=(j≠0∧Q (.int (i.fmod j)) H):=rfl
theorem b_mul:binV .Mult (.int i) (.int j) H Q=((i.natAbs≤2^40∧j.natAbs≤2^40)∧Q (.int (i*j)) H):=rfl
theorem c_eq{Q:Bool→Prop}:OptP (cmpV .Eq (.int i) (.int j)) Q=Q (decide (i=j)):=rfl
theorem c_ne{Q:Bool→Prop}:OptP (cmpV .NotEq (.int i) (.int j)) Q=Q (!decide (i=j)):=rfl
theorem c_lt{Q:Bool→Prop}:OptP (cmpV .Lt (.int i) (.int j)) Q=Q (decide (i< j)):=rfl
theorem c_le{Q:Bool→Prop}:OptP (cmpV .LtE (.int i) (.int j)) Q=Q (decide (i≤j)):=rfl
theorem c_gt{Q:Bool→Prop}:OptP (cmpV .Gt (.int i) (.int j)) Q=Q (decide (j< i)):=rfl
theorem c_ge{Q:Bool→Prop}:OptP (cmpV .GtE (.int i) (.int j)) Q=Q (decide (j≤i)):=rfl
theorem c_isn{Q:Bool→Prop}:OptP (cmpV .Is .none .none) Q=Q true:=rfl
theorem c_isl{Q:Bool→Prop}:OptP (cmpV .Is (.lst xs) .none) Q=Q false:=rfl
theorem c_ist{Q:Bool→Prop}:OptP (cmpV .Is (.tup xs) .none) Q=Q false:=rfl
theorem c_isr{Q:Bool→Prop}:OptP (cmpV .Is (.ref a) .none) Q=Q false:=rfl
theorem c_inn{Q:Bool→Prop}:OptP (cmpV .IsNot .none .none) Q=Q false:=rfl
theorem c_int{Q:Bool→Prop}:OptP (cmpV .IsNot (.tup xs) .none) Q=Q true:=rfl
theorem c_inr{Q:Bool→Prop}:OptP (cmpV .IsNot (.ref a) .none) Q=Q true:=rfl
theorem m_min:b2V .min (.int i) (.int j) q=q (.int (min i j)):=rfl
theorem m_max:b2V .max (.int i) (.int j) q=q (.int (max i j)):=rfl
theorem b_len:b1V H .len v q=OptP (seqOf H v) fun xs=>xs.length< 2^60∧q (.int xs.length):=rfl
theorem b_abs:b1V H .abs (.int i) q=q (.int i.natAbs):=rfl
theorem it_t{K:List V→Prop}:iterP false (.tup xs) u K=K xs:=rfl
theorem it_l{K:List V→Prop}:iterP false (.lst xs) u K=K xs:=rfl
theorem it_r{K:List V→Prop}:iterP true (.int i) (.int j) K=((-100000≤i∧i≤100000∧-100000≤j∧j≤100000)∧K (rangeV i j)):=rfl
theorem and_t(h:P):(P∧R)=R:=propext ⟨fun q=>q.2,fun q=>⟨h,q⟩⟩
theorem ln0:(([]:List V).length≤1000∧R)=R:=and_t (bl rfl)
theorem ln1:(([y0]:List V).length≤1000∧R)=R:=and_t (bl rfl)
theorem ln2:(([y0,y1]:List V).length≤1000∧R)=R:=and_t (bl rfl)
theorem ln3:(([y0,y1,y2]:List V).length≤1000∧R)=R:=and_t (bl rfl)
theorem ln4:(([y0,y1,y2,y3]:List V).length≤1000∧R)=R:=and_t (bl rfl)
theorem ln5:(([y0,y1,y2,y3,y4]:List V).length≤1000∧R)=R:=and_t (bl rfl)
theorem ln6{y5:V}:(([y0,y1,y2,y3,y4,y5]:List V).length≤1000∧R)=R:=and_t (bl rfl)
theorem gF(h:H a=some (.inst C dx fs))(hl:look k fs=some u)(ho:isOpq u=false):(OptP (getF H k (.ref a)) fun u=>isOpq u=false∧q u)=q u:=by
 have e:getF H k (.ref a)=some u:=by(conv=>lhs;whnf);rw[h];exact hl
 rw[e];exact and_t ho
theorem gO(hl:look k fs=some u)(ho:isOpq u=false):(OptP (getF H k (.obj C fs)) fun u=>isOpq u=false∧q u)=q u:=by
 have e:getF H k (.obj C fs)=some u:=hl
 rw[e];exact and_t ho
theorem gI(h:H a=some (.inst C dx fs))(hl:look k fs=none):((OptP (instOf H (.ref a)) fun p=>p.1=C∧look k p.2=none)∧R)=R:=by
 have e:instOf H (.ref a)=some (C,fs):=by(conv=>lhs;whnf);rw[h]
 rw[e];exact and_t ⟨rfl,hl⟩
theorem pF{Q:Hp→Prop}(h:H a=some (.inst C dx fs))(hl:fs.length≤900)(hg:setF k y fs=gs):putF H k (.ref a) y Q=Q (H.set a (.inst C dx gs)):=by
 subst hg;(conv=>lhs;whnf);rw[h];exact and_t hl
theorem qL(h:H a=some (.list xs)):seqOf H (.ref a)=some xs:=by(conv=>lhs;whnf);rw[h]
theorem aL(h:H a=some (.list xs)):asL H (.ref a)=some xs:=by simp only[asL,h]
theorem lenL(h:H a=some (.list xs))(hl:xs.length< 2^60):b1V H .len (.ref a) q=q (.int xs.length):=by
 rw[b_len,qL h];exact and_t hl
theorem lenP(hl:xs.length< 2^60):b1V H .len (.lst xs) q=q (.int xs.length):=and_t hl
theorem iL(h:H a=some (.list xs))(h0:0≤i)(h1:i< 2^60)(hx:xs[i.toNat]? =some u):OptP (subV H (.ref a) (.int i)) q=q u:=by
 have e:subV H (.ref a) (.int i)=some u:=by(conv=>lhs;whnf);rw[h];exact(if_pos ⟨h0,h1⟩).trans hx
 rw[e];rfl
theorem iP(h0:0≤i)(h1:i< 2^60)(hx:xs[i.toNat]? =some u):OptP (subV H (.lst xs) (.int i)) q=q u:=by
 have e:subV H (.lst xs) (.int i)=some u:=(if_pos ⟨h0,h1⟩).trans hx
 rw[e];rfl
theorem iT(h0:0≤i)(h1:i< 2^60)(hx:xs[i.toNat]? =some u):OptP (subV H (.tup xs) (.int i)) q=q u:=by
 have e:subV H (.tup xs) (.int i)=some u:=(if_pos ⟨h0,h1⟩).trans hx
 rw[e];rfl
theorem iD(h:H a=some (.idict es))(hx:find2 i es=some u):OptP (subV H (.ref a) (.int i)) q=q u:=by
 have e:subV H (.ref a) (.int i)=some u:=by(conv=>lhs;whnf);rw[h];exact hx
 rw[e];rfl
theorem kD{es:List (Nat×V)}(h:H a=some (.sdict es))(hx:find2 k es=some u):OptP (subK H (.ref a) k) q=q u:=by
 have e:subK H (.ref a) k=some u:=by(conv=>lhs;whnf);rw[h];exact hx
 rw[e];rfl
section
variable{A D:Prop}[Decidable D]
theorem sT:((true=true→A)∧(true=false→B))=A:=by simp
theorem sF:((false=true→A)∧(false=false→B))=B:=by simp
theorem sT':((true=false→A)∧(true=true→B))=B:=by simp
theorem sF':((false=false→A)∧(false=true→B))=A:=by simp
theorem dT(h:D):((decide D=true→A)∧(decide D=false→B))=A:=by rw[decide_eq_true h];exact sT
theorem dF(h:¬D):((decide D=true→A)∧(decide D=false→B))=B:=by rw[decide_eq_false h];exact sF
theorem dT'(h:D):((decide D=false→A)∧(decide D=true→B))=B:=by rw[decide_eq_true h];exact sT'
theorem dF'(h:¬D):((decide D=false→A)∧(decide D=true→B))=A:=by rw[decide_eq_false h];exact sF'
theorem nT(h:D):(((!decide D)=true→A)∧((!decide D)=false→B))=B:=by rw[decide_eq_true h];exact sF
theorem nF(h:¬D):(((!decide D)=true→A)∧((!decide D)=false→B))=A:=by rw[decide_eq_false h];exact sT
theorem nT'(h:D):(((!decide D)=false→A)∧((!decide D)=true→B))=A:=by rw[decide_eq_true h];exact sF'
theorem nF'(h:¬D):(((!decide D)=false→A)∧((!decide D)=true→B))=B:=by rw[decide_eq_false h];exact sT'
theorem dD(h1:D→A)(h2:¬D→B):(decide D=true→A)∧(decide D=false→B):=⟨fun e=>h1 (of_decide_eq_true e),fun e=>h2 (of_decide_eq_false e)⟩
theorem dN(h1:¬D→A)(h2:D→B):((!decide D)=true→A)∧((!decide D)=false→B):=by
 by_cases h:D
 ·rw[nT h];exact h2 h
 ·rw[nF h];exact h1 h
end
end
section
variable{A D R:Prop}[Decidable D]
end
theorem args_all{m:Nat}:n≤n∧n≤n+m:=⟨Nat.le_refl _,Nat.le_add_right _ _⟩
inductive Ev (l:Loc) (H:Hp) (e:E) (v:V):Prop where
 |mk (f:∀{n:Nat} {Y:Hp→Prop} {q:V→Hp→Prop},q v H→vcE w h0 n Y e l H q)
theorem Ev.g{e:E}{v:V}(h:Ev l H e v){q:V→Hp→Prop}(k:q v H):vcE w h0 n Y e l H q:=by cases h with|mk f=>exact f k
inductive Evs (l:Loc) (H:Hp) (es:Es) (xs:List V):Prop where
 |mk (f:∀{n:Nat} {Y:Hp→Prop} {q:List V→Hp→Prop},q xs H→vcEs w h0 n Y es l H q)
theorem Evs.g{es:Es}(h:Evs l H es xs){q:List V→Hp→Prop}(k:q xs H):vcEs w h0 n Y es l H q:=by cases h with|mk f=>exact f k
section
variable{e a b c d:E}{es:Es}{v x z:V}{ys:List V}{j k':Int}{p r:Bool}
theorem ev_int:Ev l H (.int j) (.int j):=⟨fun q=>q⟩
theorem ev_bool:Ev l H (.bool p) (.bool p):=⟨fun q=>q⟩
theorem ev_none:Ev l H .none .none:=⟨fun q=>q⟩
theorem ev_var(h:getL l k=some u):Ev l H (.var k) u:=⟨fun {_ _ q'} q=>(congrArg (fun o=>OptP o fun u=>q' u H) h).mpr q⟩
theorem ev_lst(h:Evs l H es xs)(hl:xs.length≤1000):Ev l H (.lst es) (.lst xs):=⟨fun q=>h.g ⟨hl,q⟩⟩
theorem evs_n:Evs l H .nil []:=⟨fun q=>q⟩
theorem evs_c(h:Ev l H e x)(g:Evs l H es xs):Evs l H (.cons e es) (x::xs):=⟨fun q=>h.g (g.g q)⟩
end
section
variable{X:Loc→Hp→Prop}{Q:Fl→Loc→Hp→Prop}{r sb:Ss}{e a c o i lo hi:E}{es:Es}{v x z:V}{s:Str}{p:Bool}
theorem r_nil(q:Q .next l H):vcSs w h0 n X .nil l H Q:=q
theorem r_setA(h:Ev l H e v)(g:Ev l H o x)(hp:∀Q:Hp→Prop,Q H'→putF H k x v Q)(q:vcSs w h0 n X r l H' Q):vcSs w h0 n X (.cons (.setA o k e) r) l H Q:=h.g (g.g (hp _ q))
end
theorem hF(h:H a=some (.inst C dx fs))(hl:look k fs=some u):getF H k (.ref a)=some u:=by simp only[getF,h];exact hl
theorem hI(h:H a=some (.inst C dx fs)):instOf H (.ref a)=some (C,fs):=by simp only[instOf,h]
theorem pNr(hl:fs.length≤900)(hg:setF k y fs=gs)(Q:Hp→Prop)(q:Q (H.set a (.inst C dx gs))):putF (H.set a (.inst C dx fs)) k (.ref a) y Q:=by
 subst hg;simp only[putF,Hp.set_self]
 have e:(H.set a (.inst C dx fs)).set a (.inst C dx (setF k y fs))=H.set a (.inst C dx (setF k y fs)):=by
  funext b;delta Hp.set;by_cases h:b=a
  ·rw[if_pos h,if_pos h]
  ·rw[if_neg h,if_neg h,if_neg h]
 rw[e];exact⟨hl,q⟩
section
variable{X:Loc→Hp→Prop}{Q:Fl→Loc→Hp→Prop}{r:Ss}{e o:E}{es:Es}{s:Str}
theorem r_sA(q:vcE w h0 n (X l) e l H fun v H₁=>vcE w h0 n (X l) o l H₁ fun x H₂=>putF H₂ k x v fun H₃=>vcSs w h0 n X r l H₃ Q):vcSs w h0 n X (.cons (.setA o k e) r) l H Q:=q
theorem x_new(h:Evs l H es xs){q:V→Hp→Prop}(f':∀a dx,H a=none→Fn w h0 n f (.ref a::xs) (H.set a (.inst C dx [])) (fun v H₂=>v=.none∧q (.ref a) H₂) Y):vcE w h0 n Y (.new C f s es) l H q:=h.g f'
end
theorem ne_new(h:(H.set a o) b=none):b≠a:=fun e=>by subst e;exact nope2 ((Hp.set_self _ _ _).symm.trans h)
theorem old_none(h:(H.set a o) b=none):H b=none:=(Hp.set_ne _ _ (ne_new h)).symm.trans h
structure Ad where
 b:Addr
 dx:Addr
 t:Addr
 dt:Addr
 c:Addr
 m:Addr
 dm:Addr
 rd:Addr
 m1:Addr
 d1:Addr
 m2:Addr
 d2:Addr
structure Bs where
 cs:List V
 gs:Int
 ge:Int
 bv:Int
 zv:Int
 pt:Int
 tk:Int
 ct:Int
 ms:Option (Int×Int)
noncomputable def bufFs(t m:Addr)(pt bv zv tk ct:Int):List (Nat×V):=[(14,.int 1),(32,.str "b"),(2,.ref t),(33,.ref m),(34,.int pt),(35,.int bv),(36,.int zv),(24,.none),(37,.bool true),(38,.bool false),(39,.int tk),(40,.int ct),(41,.int 1),(42,.lst []),
 (43,.none),(44,.none),(45,.none),(46,.none),(47,.none),(48,.none)]
noncomputable def txtFs(c:Addr)(gs ge:Int):List (Nat×V):=[(25,.int 4),(26,.ref c),(27,.int gs),(28,.int ge)]
noncomputable def mkFs(k:Int)(adv:Bool)(b:V)(p:Int):List (Nat×V):=[(14,.int k),(29,.bool adv),(30,b),(31,.int p)]
noncomputable def upd(R:Hp)(A:Ad)(σ:Bs):Hp:=fun a=>
 if a=A.b then some (.inst 705 A.dx (bufFs A.t A.m σ.pt σ.bv σ.zv σ.tk σ.ct)) else if a=A.t then some (.inst 454 A.dt (txtFs A.c σ.gs σ.ge)) else if a=A.c then some (.list σ.cs) else
 if a=A.m then some (.inst 599 A.dm [(8,.ref A.rd)]) else match σ.ms with
 |none=>if a=A.rd then some (.idict []) else R a
 |some p=>if a=A.rd then some (.idict [(1,.ref A.m1),(2,.ref A.m2)]) else if a=A.m1 then some (.inst 531 A.d1 (mkFs 1 false (.ref A.b) p.1)) else if a=A.m2 then some (.inst 531 A.d2 (mkFs 2 true (.ref A.b) p.2)) else R a
structure Ad.OK(A:Ad):Prop where
 tb:A.t≠A.b
 cb:A.c≠A.b
 ct:A.c≠A.t
 mb:A.m≠A.b
 mt:A.m≠A.t
 mc:A.m≠A.c
 rb:A.rd≠A.b
 rt:A.rd≠A.t
 rc:A.rd≠A.c
 rm:A.rd≠A.m
structure Ad.OM(A:Ad):Prop where
 b1:A.m1≠A.b
 t1:A.m1≠A.t
 c1:A.m1≠A.c
 i1:A.m1≠A.m
 r1:A.m1≠A.rd
 b2:A.m2≠A.b
 t2:A.m2≠A.t
 c2:A.m2≠A.c
 i2:A.m2≠A.m
 r2:A.m2≠A.rd
 m12:A.m2≠A.m1
structure BufAt(H:Hp)(A:Ad)(σ:Bs):Prop where
 b:H A.b=some (.inst 705 A.dx (bufFs A.t A.m σ.pt σ.bv σ.zv σ.tk σ.ct))
 t:H A.t=some (.inst 454 A.dt (txtFs A.c σ.gs σ.ge))
 c:H A.c=some (.list σ.cs)
section
variable{A:Ad}
theorem u_b:upd R A σ A.b=some (.inst 705 A.dx (bufFs A.t A.m σ.pt σ.bv σ.zv σ.tk σ.ct)):=if_pos rfl
theorem u_t(ok:A.OK):upd R A σ A.t=some (.inst 454 A.dt (txtFs A.c σ.gs σ.ge)):=by simp only[upd,if_neg ok.tb,if_pos]
theorem u_c(ok:A.OK):upd R A σ A.c=some (.list σ.cs):=by simp only[upd,if_neg ok.cb,if_neg ok.ct,if_pos]
theorem u_m(ok:A.OK):upd R A σ A.m=some (.inst 599 A.dm [(8,.ref A.rd)]):=by simp only[upd,if_neg ok.mb,if_neg ok.mt,if_neg ok.mc,if_pos]
theorem upd_at(ok:A.OK):BufAt (upd R A σ) A σ:=⟨u_b,u_t ok,u_c ok⟩
theorem set_b{pt tk:Int}:(upd R A σ).set A.b (.inst 705 A.dx (bufFs A.t A.m pt bv zv tk ct))=upd R A {σ with pt:=pt,bv:=bv,zv:=zv,tk:=tk,ct:=ct}:=by
 funext a;delta Hp.set upd
 by_cases h:a=A.b
 ·rw[if_pos h,if_pos h]
 ·rw[if_neg h,if_neg h,if_neg h]
theorem set_t(ok:A.OK){gs:Int}:(upd R A σ).set A.t (.inst 454 A.dt (txtFs A.c gs ge))=upd R A {σ with gs:=gs,ge:=ge}:=by
 funext a;delta Hp.set upd
 by_cases h:a=A.t
 ·rw[if_pos h,if_neg (h▸ok.tb),if_pos h]
 ·rw[if_neg h,if_neg h,if_neg h]
theorem set_c(ok:A.OK):(upd R A σ).set A.c (.list cs)=upd R A {σ with cs:=cs}:=by
 funext a;delta Hp.set upd
 by_cases h:a=A.c
 ·rw[if_pos h,if_neg (h▸ok.cb),if_neg (h▸ok.ct),if_pos h]
 ·rw[if_neg h,if_neg h,if_neg h]
section
variable{Q:Hp→Prop}
theorem wB34:putF (upd R A σ) 34 (.ref A.b) (.int z) Q=Q (upd R A {σ with pt:=z}):=(pF u_b (bl rfl) rfl).trans (congrArg Q set_b)
theorem wB35:putF (upd R A σ) 35 (.ref A.b) (.int z) Q=Q (upd R A {σ with bv:=z}):=(pF u_b (bl rfl) rfl).trans (congrArg Q set_b)
theorem wB36:putF (upd R A σ) 36 (.ref A.b) (.int z) Q=Q (upd R A {σ with zv:=z}):=(pF u_b (bl rfl) rfl).trans (congrArg Q set_b)
theorem wB39:putF (upd R A σ) 39 (.ref A.b) (.int z) Q=Q (upd R A {σ with tk:=z}):=(pF u_b (bl rfl) rfl).trans (congrArg Q set_b)
theorem wB40:putF (upd R A σ) 40 (.ref A.b) (.int z) Q=Q (upd R A {σ with ct:=z}):=(pF u_b (bl rfl) rfl).trans (congrArg Q set_b)
theorem wT27(ok:A.OK):putF (upd R A σ) 27 (.ref A.t) (.int z) Q=Q (upd R A {σ with gs:=z}):=(pF (u_t ok) (bl rfl) rfl).trans (congrArg Q (set_t ok))
theorem wT28(ok:A.OK):putF (upd R A σ) 28 (.ref A.t) (.int z) Q=Q (upd R A {σ with ge:=z}):=(pF (u_t ok) (bl rfl) rfl).trans (congrArg Q (set_t ok))
theorem wC(ok:A.OK){l h:Int}{ys:List V}(g:0≤l∧l≤h∧h≤σ.cs.length∧σ.cs.length≤100000∧ys.length≤100000):
  putSl (upd R A σ) (.ref A.c) (.int l) (.int h) (.lst ys) Q=Q (upd R A {σ with cs:=σ.cs.take l.toNat++ys++σ.cs.drop h.toNat}):=by
 refine Eq.trans ?_ (congrArg Q (set_c ok));(conv=>lhs;whnf);rw[u_c ok];exact and_t g
end
end
theorem sl2{x lo hi:V}{p r:Option Int}{Q:List V→Prop}(hx:asS H x=some xs)(h1:partV lo=some p)(h2:partV hi=some r)(hl:xs.length≤1000000):sliceV H x lo hi Q=Q (cutV xs p r):=by
 delta sliceV;rw[hx];show OptP (partV lo) _=_;rw[h1];show OptP (partV hi) _=_;rw[h2];exact and_t hl
theorem asS_l:asS H (.lst xs)=some xs:=rfl
theorem asS_s{is:List Int}:asS H (.scr is)=some (is.map .int):=rfl
theorem asS_r(h:H a=some (.list xs)):asS H (.ref a)=some xs:=aL h
theorem prN:partV .none=some none:=rfl
theorem prI{k:Int}(h0:0≤k)(h1:k< 2^60):partV (.int k)=some (some k):=if_pos ⟨h0,h1⟩
theorem slL{Q:List V→Prop}(h:H a=some (.list xs))(h0:0≤lo)(h1:lo< 2^60)(h2:0≤hi)(h3:hi< 2^60)(hl:xs.length≤1000000):
  sliceV H (.ref a) (.int lo) (.int hi) Q=Q ((xs.take hi.toNat).drop lo.toNat):=by
 exact sl2 (asS_r h) (prI h0 h1) (prI h2 h3) hl
theorem bAL{ys:List V}(hl:xs.length+ys.length≤1000000)(h:Q (.lst (xs++ys)) H):binV .Add (.lst xs) (.lst ys) H Q:=⟨xs,ys,rfl,rfl,hl,.inl h⟩
theorem bML{k:Int}(h0:0≤k)(h1:k≤1000)(hl:xs.length≤1000)(h:Q (.lst (List.replicate k.toNat xs).flatten) H):binV .Mult (.lst xs) (.int k) H Q:=⟨xs,rfl,h0,h1,hl,.inl h⟩
noncomputable def cells(T:List Int)(g:Nat)(G:List Int):List V:=(T.take g++G++T.drop g).map V.int
structure Good(σ:Bs)(T:List Int)(g:Nat)(G:List Int):Prop where
 cs:σ.cs=cells T g G
 gs:σ.gs=g
 ge:σ.ge=(g+G.length:Nat)
 le:g≤T.length
 lim:T.length+G.length≤10000
theorem cells_len{T:List Int}{g:Nat}(h:g≤T.length):(cells T g G).length=T.length+G.length:=by
 simp only[cells,List.length_map,List.length_append,List.length_take,List.length_drop];(exact li2 5 [] [_,_,_,_,_] (.nmn U0 U1 U2) (.sb U1 U0 U3) (.neq (.a (.a U2 U4) U3) (.a U1 U4)) rfl (mN (g) (T.length)) (ns (T.length) (g)))
theorem cells_lo{T:List Int}{g:Nat}{i:Nat}(h:g≤T.length)(hi:i< g):(cells T g G)[i]? =T[i]?.map V.int:=by
 delta cells
 rw[List.getElem?_map,List.append_assoc,List.getElem?_append_left (by rw[List.length_take];(exact li3 4 [] [_,_,_,_] (.nmn U0 U1 U2) (.nle U0 U1) (.nlt U3 U0) (.nlt U3 U2) rfl (mN (g) (T.length)) h hi)),List.getElem?_take_of_lt hi]
theorem cells_hi{T:List Int}{g:Nat}{i:Nat}(h:g≤T.length)(hi:g≤i):(cells T g G)[i+G.length]? =T[i]?.map V.int:=by
 delta cells
 have e:(T.take g++G).length=g+G.length:=by rw[List.length_append,List.length_take];(exact li2 4 [] [_,_,_,_] (.nmn U0 U1 U2) (.nle U0 U1) (.neq (.a U2 U3) (.a U0 U3)) rfl (mN (g) (T.length)) h)
 rw[List.getElem?_map,List.getElem?_append_right (by exact li2 4 [] [_,_,_,_] (.nle U0 U1) (.neq U2 (.a U0 U3)) (.nle U2 (.a U1 U3)) rfl hi e),e,List.getElem?_drop]
 congr 2;(exact li2 4 [] [_,_,_,_] (.sb (.a U2 U1) (.a U0 U1) U3) (.nle U0 U2) (.neq (.a U0 U3) U2) rfl (ns (i+G.length) (g+G.length)) hi)
section
variable{A:Ad}{T:List Int}{g:Nat}
theorem sp_size(t:TX K h0)(hn:2≤n)(B:BufAt H A σ)(gd:Good σ T g G)(q:Q (.int T.length) H):Fn w h0 n 388 [.ref A.t] H Q X:=by
 refine fn_row t hn 32 rfl [some (.ref A.t)] args_all (by kernel_rfl) ?_
 have e1:=cells_len (G:=G) gd.le
 have e2:=gd.lim
 have e3:σ.cs.length< 2^60:=by rw[gd.cs];(exact li2 3 [] [_,_,_] (.neq U0 (.a U1 U2)) (.nle (.a U1 U2) (.c 10000)) (.nlt U0 (.c (2^60))) rfl e1 e2)
 have e4:(σ.cs.length:Int)-σ.ge+σ.gs=T.length:=by rw[gd.cs,gd.ge,gd.gs];(exact li1 4 [] [_,_,_,_] (.neq U0 (.a U1 U2)) (.eq (.a (.s (.n U0) (.n (.a U3 U2))) (.n U3)) (.n U1)) rfl e1)
 delta b_GapText_size;simp only[↓s_ret,↓retV_r,↓e_var,↓e_bin,↓e_attr,↓e_b1,↓l_0,↓b_add,↓b_sub,↓gF B.t (k:=26) rfl rfl,↓gF B.t (k:=27) rfl rfl,↓gF B.t (k:=28) rfl rfl,↓lenL B.c e3,e4]
 exact q
theorem sp_code(t:TX K h0)(hn:2≤n)(B:BufAt H A σ)(gd:Good σ T g G){x:Int}(h0':0≤i)(hx:T[i.toNat]? =some x)(q:Q (.int x) H):Fn w h0 n 395 [.ref A.t,.int i] H Q X:=by
 refine fn_row t hn 33 rfl [some (.ref A.t),some (.int i)] args_all (by kernel_rfl) ?_
 have e2:=gd.lim
 have e3:=(List.getElem?_eq_some_iff.mp hx).1
 delta b_GapText_code
 refine s_ite ?_
 simp only[↓e_var,↓e_cmp,↓e_attr,↓l_0,↓l_s,↓p_b,↓c_lt,↓gF B.t (k:=27) rfl rfl]
 refine dD (fun h=>?_) fun h=>?_
 ·have:σ.cs[i.toNat]? =some (.int x):=by rw[gd.cs,cells_lo gd.le (by have:=gd.gs;(exact li4 2 [_,_] [_,_] (.tn J0 U0) (.le I0 J0) (.lt J0 J1) (.eq J1 (.n U1)) (.nlt U0 U1) rfl (tn (i)) h0' h this)),hx];rfl
  simp only[↓s_ret,↓nk_r,↓retV_r,↓e_var,↓e_attr,↓e_sub,↓l_0,↓l_s,↓gF B.t (k:=26) rfl rfl,↓iL B.c h0' (li3 3 [_] [_,_,_] (.tn J0 U0) (.nle (.a U1 U2) (.c 10000)) (.nlt U0 U1) (.lt J0 (.c (2^60))) rfl (tn (i)) e2 e3) this]
  exact q
 ·have e:(i-σ.gs+σ.ge).toNat=i.toNat+G.length:=by rw[gd.gs,gd.ge];(exact li3 4 [_] [_,_,_,_] (.tn (.a (.s J0 (.n U0)) (.n (.a U0 U1))) U2) (.tn J0 U3) (.le I0 J0) (.neq U2 (.a U3 U1)) rfl (tn (i-(↑g:Int)+(↑(g+G.length):Int))) (tn (i)) h0')
  have:σ.cs[(i-σ.gs+σ.ge).toNat]? =some (.int x):=by rw[gd.cs,e,cells_hi gd.le (by have:=gd.gs;(exact li3 2 [_,_] [_,_] (.tn J0 U0) (.no (.lt J0 J1)) (.eq J1 (.n U1)) (.nle U1 U0) rfl (tn (i)) h this)),hx];rfl
  have h5:0≤i-σ.gs+σ.ge:=by rw[gd.gs,gd.ge];(exact li1 2 [_] [_,_] (.le I0 J0) (.le I0 (.a (.s J0 (.n U0)) (.n (.a U0 U1)))) rfl h0')
  simp only[↓s_nil,↓s_ret,↓nk_n,↓retV_r,↓e_var,↓e_bin,↓e_attr,↓e_sub,↓l_0,↓l_s,↓b_add,↓b_sub,↓gF B.t (k:=26) rfl rfl,↓gF B.t (k:=27) rfl rfl,↓gF B.t (k:=28) rfl rfl,↓iL B.c h5 (li4 4 [_,_,_] [_,_,_,_] (.tn (.a (.s J0 J1) J2) U0) (.nle (.a U1 U2) (.c 10000)) (.nlt U3 U1) (.neq U0 (.a U3 U2)) (.lt (.a (.s J0 J1) J2) (.c (2^60))) rfl (tn (i-σ.gs+σ.ge)) e2 e3 e) this]
  exact q
theorem cut_lo{T:List Int}{g:Nat}{a b:Nat}(h:g≤T.length)(hb:b≤g):((cells T g G).take b).drop a=((T.take b).drop a).map V.int:=by
 have e:(cells T g G).take b=(T.take b).map V.int:=by
  delta cells
  rw[List.append_assoc,←List.map_take,List.take_append_of_le_length (by rw[List.length_take];(exact li3 4 [] [_,_,_,_] (.nmn U0 U1 U2) (.nle U0 U1) (.nle U3 U0) (.nle U3 U2) rfl (mN (g) (T.length)) h hb)),List.take_take,Nat.min_eq_left hb]
 rw[e,List.map_drop]
theorem cut_hi{T:List Int}{g:Nat}{a b:Nat}(h:g≤T.length)(ha:g≤a)(hab:a≤b):((cells T g G).take (b+G.length)).drop (a+G.length)=((T.take b).drop a).map V.int:=by
 delta cells
 have e:(T.take g++G).length=g+G.length:=by rw[List.length_append,List.length_take];(exact li2 4 [] [_,_,_,_] (.nmn U0 U1 U2) (.nle U0 U1) (.neq (.a U2 U3) (.a U0 U3)) rfl (mN (g) (T.length)) h)
 rw[←List.map_take,←List.map_drop]
 congr 1
 rw[List.take_append,List.drop_append,e]
 have e2:((T.take g++G).take (b+G.length)).length=g+G.length:=by rw[List.length_take,e];(exact li3 5 [] [_,_,_,_,_] (.nmn (.a U0 U1) (.a U2 U1) U3) (.nle U2 U4) (.nle U4 U0) (.neq U3 (.a U2 U1)) rfl (mN (b+G.length) (g+G.length)) ha hab)
 rw[e2,List.drop_eq_nil_of_le (by rw[e2];(exact li1 3 [] [_,_,_] (.nle U0 U1) (.nle (.a U0 U2) (.a U1 U2)) rfl ha)),List.nil_append]
 have e3:b+G.length-(g+G.length)=b-g:=li2 5 [] [_,_,_,_,_] (.sb (.a U2 U1) (.a U0 U1) U3) (.sb U2 U0 U4) (.neq U3 U4) rfl (ns (b+G.length) (g+G.length)) (ns (b) (g))
 have e4:a+G.length-(g+G.length)=a-g:=li2 5 [] [_,_,_,_,_] (.sb (.a U2 U1) (.a U0 U1) U3) (.sb U2 U0 U4) (.neq U3 U4) rfl (ns (a+G.length) (g+G.length)) (ns (a) (g))
 rw[e3,e4,List.take_drop,List.drop_drop]
 have e5:g+(b-g)=b:=li4 6 [] [_,_,_,_,_,_] (.sb (.a U2 U1) (.a U0 U1) U3) (.nle U0 U4) (.nle U4 U2) (.neq U3 U5) (.neq (.a U0 U5) U2) rfl (ns (b+G.length) (g+G.length)) ha hab e3
 have e6:g+(a-g)=a:=li3 5 [] [_,_,_,_,_] (.sb (.a U2 U1) (.a U0 U1) U3) (.nle U0 U2) (.neq U3 U4) (.neq (.a U0 U4) U2) rfl (ns (a+G.length) (g+G.length)) ha e4
 rw[e5,e6]
theorem sh{a g:Nat}:(a:Int)+(((g+k:Nat):Int)-(g:Int))=((a+k:Nat):Int):=li0 3 [] [_,_,_] (.eq (.a (.n U0) (.s (.n (.a U1 U2)) (.n U1))) (.n (.a U0 U2))) rfl
theorem bd{x y:Nat}(hx:x≤10000)(hy:y≤10000):x+y≤1000000:=Nat.le_trans (Nat.add_le_add hx hy) (bl rfl)
theorem bd1{x:Nat}(hx:x≤10000):x≤1000000:=Nat.le_trans hx (bl rfl)
theorem n60{x:Nat}(hx:x≤1000000):(x:Int)< 2^60:=li1 1 [] [_] (.nle U0 (.c 1000000)) (.lt (.n U0) (.c (2^60))) rfl hx
theorem slN{lo hi:Nat}{Q:List V→Prop}(h:H a=some (.list xs))(h1:lo≤1000000)(h3:hi≤1000000)(hl:xs.length≤1000000):sliceV H (.ref a) (.int lo) (.int hi) Q=Q ((xs.take hi).drop lo):=
 slL h (Int.natCast_nonneg _) (n60 h1) (Int.natCast_nonneg _) (n60 h3) hl
theorem sp_tcodes(t:TX K h0)(hn:2≤n)(B:BufAt H A σ)(gd:Good σ T g G){a b:Nat}(hab:a≤b)(hb:b≤T.length)(q:Q (.lst (((T.take b).drop a).map V.int)) H):Fn w h0 n 402 [.ref A.t,.int a,.int b] H Q X:=by
 refine fn_row t hn 34 rfl [some (.ref A.t),some (.int a),some (.int b),none] args_all (by kernel_rfl) ?_
 have lT:T.length≤10000:=Nat.le_trans (Nat.le_add_right _ _) gd.lim
 have lG:G.length≤10000:=Nat.le_trans (Nat.le_add_left _ _) gd.lim
 have lb:=Nat.le_trans hb lT
 have la:=Nat.le_trans hab lb
 have lg:=Nat.le_trans gd.le lT
 have hl:σ.cs.length≤1000000:=by rw[gd.cs,cells_len gd.le];exact bd lT lG
 delta b_GapText_codes;simp only[↓s_set,↓sl_0,↓sl_s,↓e_var,↓e_bin,↓e_attr,↓l_0,↓b_sub,↓gF B.t (k:=27) rfl rfl,↓gF B.t (k:=28) rfl rfl,gd.gs,gd.ge]
 refine s_ite ?_
 simp only[↓e_var,↓e_cmp,↓e_attr,↓l_0,↓l_s,↓p_b,↓c_le,↓gF B.t (k:=27) rfl rfl,gd.gs]
 refine dD (fun h=>?_) fun h=>?_
 ·simp only[↓s_ret,↓nk_r,↓retV_r,↓e_var,↓e_attr,↓e_slice,↓l_0,↓l_s,↓gF B.t (k:=26) rfl rfl,↓slN (lo:=a) (hi:=b) B.c (bd1 la) (bd1 lb) hl]
  rw[gd.cs,cut_lo gd.le (Int.ofNat_le.mp h)];exact q
 ·have h1:g≤b:=Nat.le_of_not_le fun k=>h (Int.ofNat_le.mpr k)
  simp only[↓s_nil,↓nk_n]
  refine s_ite ?_
  simp only[↓e_var,↓e_cmp,↓e_attr,↓l_0,↓l_s,↓p_b,↓c_ge,↓gF B.t (k:=27) rfl rfl,gd.gs]
  refine dD (fun h'=>?_) fun h'=>?_
  ·simp only[↓s_ret,↓nk_r,↓retV_r,↓e_var,↓e_bin,↓e_attr,↓e_slice,↓l_0,↓l_s,↓b_add,↓gF B.t (k:=26) rfl rfl,sh,↓slN (lo:=a+G.length) (hi:=b+G.length) B.c (bd la lG) (bd lb lG) hl]
   rw[gd.cs,cut_hi gd.le (Int.ofNat_le.mp h') hab];exact q
  ·have h2:a≤g:=Nat.le_of_not_le fun k=>h' (Int.ofNat_le.mpr k)
   simp only[↓s_nil,↓s_ret,↓nk_n,↓retV_r,↓e_var,↓e_bin,↓e_attr,↓e_slice,↓l_0,↓l_s,↓b_add,↓gF B.t (k:=26) rfl rfl,↓gF B.t (k:=27) rfl rfl,↓gF B.t (k:=28) rfl rfl,gd.gs,gd.ge,sh,↓slN (lo:=a) (hi:=g) B.c (bd1 la) (bd1 lg) hl,↓slN (lo:=g+G.length) (hi:=b+G.length) B.c (bd lg lG) (bd lb lG) hl]
   rw[gd.cs,cut_lo gd.le (Nat.le_refl _),cut_hi gd.le (Nat.le_refl _) h1]
   refine bAL ?_ ?_
   ·rw[List.length_map,List.length_map,List.length_drop,List.length_drop,List.length_take,List.length_take]
    exact bd (Nat.le_trans (Nat.sub_le _ _) (Nat.le_trans (Nat.min_le_left _ _) lg)) (Nat.le_trans (Nat.sub_le _ _) (Nat.le_trans (Nat.min_le_left _ _) lb))
   ·rw[←List.map_append]
    have e8:(T.take g).drop a++(T.take b).drop g=(T.take b).drop a:=by
     have:T.take g=(T.take b).take g:=by rw[List.take_take,Nat.min_eq_left h1]
     rw[this,←List.drop_append_of_le_length (by rw[List.length_take,List.length_take,Nat.min_eq_left hb,Nat.min_eq_left h1];exact h2),List.take_append_drop]
    rw[e8];exact q
noncomputable def Bs.re(σ:Bs)(T:List Int)(g:Nat)(G:List Int):Bs:={σ with cs:=cells T g G,gs:=g,ge:=(g+G.length:Nat)}
theorem Good.re_self(gd:Good σ T g G):σ.re T g G=σ:=by
 refine bc fun ng=>?_
 obtain⟨h1,h2,h3,_,_⟩:=gd
 refine ng ?_
 cases σ;cases h1;cases h2;cases h3;rfl
theorem re_good(h:g≤T.length)(hl:T.length+G.length≤10000):Good (σ.re T g G) T g G:=⟨rfl,rfl,rfl,h,hl⟩
theorem cells_put{G':List Int}{a b:Nat}(h:(T.take g++G++T.drop g).take a++ys++(T.take g++G++T.drop g).drop b=T'.take g'++G'++T'.drop g'):
  (cells T g G).take a++ys.map V.int++(cells T g G).drop b=cells T' g' G':=by
 delta cells;rw[←h];simp only[List.map_append,List.map_take,List.map_drop]
theorem take_app3{α:Type}{a b c:List α}(h:k=a.length):(a++b++c).take k=a:=by subst h;rw[List.append_assoc,List.take_left]
theorem take_mid{T:List Int}{g a:Nat}(h:a≤g)(hg:g≤T.length):T.take a++(T.take g).drop a=T.take g:=by
 have:T.take a=(T.take g).take a:=by rw[List.take_take,Nat.min_eq_left h]
 rw[this,List.take_append_drop]
theorem drop_mid{T:List Int}{g a:Nat}(h:g≤a):(T.take a).drop g++T.drop a=T.drop g:=by
 have e:T.drop g=(T.drop g).take (a-g)++(T.drop g).drop (a-g):=(List.take_append_drop _ _).symm
 rw[e,List.drop_drop,List.take_drop]
 have:g+(a-g)=a:=li2 3 [] [_,_,_] (.sb U1 U0 U2) (.nle U0 U1) (.neq (.a U0 U2) U1) rfl (ns (a) (g)) h
 rw[this]
theorem sh2{a g:Nat}(h:a≤g):((g+k:Nat):Int)-((g-a:Nat):Int)=((a+k:Nat):Int):=li2 4 [] [_,_,_,_] (.sb U1 U0 U2) (.nle U0 U1) (.eq (.s (.n (.a U1 U3)) (.n U2)) (.n (.a U0 U3))) rfl (ns (g) (a)) h
theorem sh3{a g:Nat}:((g+k:Nat):Int)+(a:Int)-(g:Int)=((a+k:Nat):Int):=li0 3 [] [_,_,_] (.eq (.s (.a (.n (.a U0 U1)) (.n U2)) (.n U0)) (.n (.a U2 U1))) rfl
theorem sh4{a g:Nat}(h:g≤a):(g:Int)+((a-g:Nat):Int)=(a:Int):=li2 3 [] [_,_,_] (.sb U1 U0 U2) (.nle U0 U1) (.eq (.a (.n U0) (.n U2)) (.n U1)) rfl (ns (a) (g)) h
theorem sh5{a g:Nat}(h:g≤a):((g+k:Nat):Int)+((a-g:Nat):Int)=((a+k:Nat):Int):=li2 4 [] [_,_,_,_] (.sb U1 U0 U2) (.nle U0 U1) (.eq (.a (.n (.a U0 U3)) (.n U2)) (.n (.a U1 U3))) rfl (ns (a) (g)) h
theorem len_mid{T:List Int}{a g:Nat}(h:g≤T.length):((T.take g).drop a).length=g-a:=by rw[List.length_drop,List.length_take,Nat.min_eq_left h]
theorem wCn{A:Ad}{lo hi:Nat}{ys:List V}{Q:Hp→Prop}(ok:A.OK)(h1:lo≤hi)(h2:hi≤σ.cs.length)(h3:σ.cs.length≤100000)(h4:ys.length≤100000):
  putSl (upd R A σ) (.ref A.c) (.int lo) (.int hi) (.lst ys) Q=Q (upd R A {σ with cs:=σ.cs.take lo++ys++σ.cs.drop hi}):=
 wC ok ⟨Int.natCast_nonneg _,Int.ofNat_le.mpr h1,Int.ofNat_le.mpr h2,h3,h4⟩
theorem take_pre{α:Type}{X Y Z:List α}{i:Nat}(hX:X.length=i)(h:k≤Y.length):(X++Y++Z).take (i+k)=X++Y.take k:=by
 rw[List.append_assoc,←hX,List.take_length_add_append,List.take_append_of_le_length h]
theorem drop_pre{α:Type}{X Y Z:List α}{i:Nat}(hX:X.length=i)(h:k≤Y.length):(X++Y++Z).drop (i+k)=Y.drop k++Z:=by
 rw[List.append_assoc,←hX,List.drop_length_add_append,List.drop_append_of_le_length h]
theorem back_cells{T:List Int}{a g:Nat}(h:a≤g)(hg:g≤T.length):(cells T g G).take (a+G.length)++((T.take g).drop a).map V.int++(cells T g G).drop (g+G.length)=cells T a (((T.take g).drop a++G).take G.length):=by
 refine cells_put ?_
 have la:(T.take a).length=a:=by rw[List.length_take,Nat.min_eq_left (Nat.le_trans h hg)]
 have lg:(T.take g).length=g:=by rw[List.length_take,Nat.min_eq_left hg]
 have q2:T.take g++G++T.drop g=T.take a++((T.take g).drop a++G)++T.drop g:=by rw[←List.append_assoc,take_mid h hg]
 rw[drop_pre (k:=G.length) lg (Nat.le_refl _),List.drop_length,List.nil_append,q2,take_pre la (by rw[List.length_append];exact Nat.le_add_left _ _),List.append_assoc,drop_mid h]
theorem on_cells{T:List Int}{a g:Nat}(h:g≤a)(ha:a≤T.length):(cells T g G).take g++((T.take a).drop g).map V.int++(cells T g G).drop a=cells T a ((G++(T.take a).drop g).drop (a-g)):=by
 refine cells_put ?_
 have lg:(T.take g).length=g:=by rw[List.length_take,Nat.min_eq_left (Nat.le_trans h ha)]
 have lm:((T.take a).drop g).length=a-g:=len_mid ha
 have q2:T.take g++G++T.drop g=T.take g++(G++(T.take a).drop g)++T.drop a:=by rw[List.append_assoc,List.append_assoc,List.append_assoc,drop_mid h]
 have q3:=drop_pre (Z:=T.drop a) (k:=a-g) lg (by rw[List.length_append,lm];exact Nat.le_add_left _ _:a-g≤(G++(T.take a).drop g).length)
 rw[Nat.add_sub_cancel' h] at q3
 rw[take_app3 lg.symm,q2,q3,←List.append_assoc]
 congr 2
 have q4:T.take g=(T.take a).take g:=by rw[List.take_take,Nat.min_eq_left h]
 rw[q4,List.take_append_drop]
theorem sp_move_gap(t:TX K h0)(hn:2≤n)(ok:A.OK)(h4:g≤T.length)(hl:T.length+G.length≤10000){a:Nat}(ha:a≤T.length)(q:∀G':List Int,G'.length=G.length→Q .none (upd R A (σ.re T a G'))):Fn w h0 n 409 [.ref A.t,.int a] (upd R A (σ.re T g G)) Q X:=by
 refine fn_row t hn 35 rfl [some (.ref A.t),some (.int a),none] args_all (by kernel_rfl) ?_
 have lT:T.length≤10000:=Nat.le_trans (Nat.le_add_right _ _) hl
 have lG:G.length≤10000:=Nat.le_trans (Nat.le_add_left _ _) hl
 have la:=Nat.le_trans ha lT
 have lg:=Nat.le_trans h4 lT
 have lc:(σ.re T g G).cs.length=T.length+G.length:=cells_len h4
 have lc1:(σ.re T g G).cs.length≤1000000:=by rw[lc];exact bd lT lG
 have lc2:(σ.re T g G).cs.length≤100000:=by rw[lc];exact Nat.le_trans hl (bl rfl)
 have B:BufAt (upd R A (σ.re T g G)) A (σ.re T g G):=upd_at ok
 have e1:(σ.re T g G).cs=cells T g G:=rfl
 have e2:(σ.re T g G).gs=g:=rfl
 have e3:(σ.re T g G).ge=(g+G.length:Nat):=rfl
 have fin:∀G':List Int,G'.length=G.length→Q .none (upd R A {cs:=cells T a G',gs:=(a:Int),ge:=((a+G.length:Nat):Int),bv:=σ.bv,zv:=σ.zv,pt:=σ.pt,tk:=σ.tk,ct:=σ.ct,ms:=σ.ms}):=fun G' h=>by
  have q:=q G' h
  unfold Bs.re at q;rw[h] at q;exact q
 delta b_GapText_move_gap
 refine s_ite ?_
 simp only[↓e_var,↓e_cmp,↓e_attr,↓l_0,↓l_s,↓p_b,↓c_lt,↓gF B.t (k:=27) rfl rfl,e2]
 refine dD (fun h=>?_) fun h=>?_
 ·have h:a≤g:=Nat.le_of_lt (Int.ofNat_lt.mp h)
  have l5:(((T.take g).drop a).map V.int).length=g-a:=(List.length_map _).trans (len_mid h4)
  have l7:(((T.take g).drop a).map V.int).length≤100000:=by rw[l5];exact Nat.le_trans (Nat.sub_le _ _) (Nat.le_trans lg (bl rfl))
  have l6:(((T.take g).drop a).map V.int).length< 2^60:=Nat.lt_of_le_of_lt l7 (by decide)
  have e5:((σ.re T g G).cs.take g).drop a=((T.take g).drop a).map V.int:=cut_lo h4 (Nat.le_refl _)
  simp only[↓s_nil,↓s_setA,↓s_setSl,↓nk_n,↓retV_n,↓s_set,↓sl_0,↓sl_s,↓e_var,↓e_bin,↓e_attr,↓e_slice,↓e_b1,↓l_0,↓l_s,↓gF B.t (k:=26) rfl rfl,↓gF B.t (k:=27) rfl rfl,e2,↓slN (lo:=a) (hi:=g) B.c (bd1 la) (bd1 lg) lc1,e5]
  simp only[↓b_sub,↓gF B.t (k:=26) rfl rfl,↓gF B.t (k:=27) rfl rfl,↓gF B.t (k:=28) rfl rfl,↓lenP l6,l5,e3,sh2 h]
  rw[wCn ok (Nat.add_le_add_right h _) (by rw[lc];exact Nat.add_le_add_right h4 _) lc2 l7]
  simp only[↓b_sub,↓gF (u_t ok) (k:=26) rfl rfl,↓gF (u_t ok) (k:=27) rfl rfl,↓gF (u_t ok) (k:=28) rfl rfl,↓lenP l6,l5,e3,sh2 h,↓wT28 ok,↓wT27 ok,e1,back_cells h h4]
  exact fin _ (by rw[List.length_take,List.length_append];exact Nat.min_eq_left (Nat.le_add_left _ _))
 ·have h:g≤a:=Nat.le_of_not_lt fun k=>h (Int.ofNat_lt.mpr k)
  have l5:(((T.take a).drop g).map V.int).length=a-g:=(List.length_map _).trans (len_mid ha)
  have l7:(((T.take a).drop g).map V.int).length≤100000:=by rw[l5];exact Nat.le_trans (Nat.sub_le _ _) (Nat.le_trans la (bl rfl))
  have l6:(((T.take a).drop g).map V.int).length< 2^60:=Nat.lt_of_le_of_lt l7 (by decide)
  have e5:((σ.re T g G).cs.take (a+G.length)).drop (g+G.length)=((T.take a).drop g).map V.int:=cut_hi h4 (Nat.le_refl _) h
  simp only[↓s_nil,↓s_setA,↓s_setSl,↓nk_n,↓retV_n,↓s_set,↓sl_0,↓sl_s,↓e_var,↓e_bin,↓e_attr,↓e_slice,↓e_b1,↓l_0,↓l_s,↓b_add,↓b_sub,↓gF B.t (k:=26) rfl rfl,↓gF B.t (k:=27) rfl rfl,↓gF B.t (k:=28) rfl rfl,e2,e3,sh3,↓slN (lo:=g+G.length) (hi:=a+G.length) B.c (bd lg lG) (bd la lG) lc1,e5]
  simp only[↓b_add,↓gF B.t (k:=26) rfl rfl,↓gF B.t (k:=27) rfl rfl,↓gF B.t (k:=28) rfl rfl,e2,↓lenP l6,l5,e3,sh4 h]
  rw[wCn ok h (by rw[lc];exact Nat.le_trans ha (Nat.le_add_right _ _)) lc2 l7]
  simp only[↓b_add,↓gF (u_t ok) (k:=26) rfl rfl,↓gF (u_t ok) (k:=27) rfl rfl,↓gF (u_t ok) (k:=28) rfl rfl,↓lenP l6,l5,e3,sh5 h,↓wT28 ok,↓wT27 ok,e1,on_cells h ha]
  exact fin _ (by rw[List.length_drop,List.length_append,len_mid ha,Nat.add_sub_cancel])
end
section
variable{A:Ad}{T:List Int}{g:Nat}
theorem shd{g:Nat}:((k+d:Nat):Int)-(((g+k:Nat):Int)-(g:Int))=(d:Int):=li0 3 [] [_,_,_] (.eq (.s (.n (.a U0 U1)) (.s (.n (.a U2 U0)) (.n U2))) (.n U1)) rfl
theorem shd2{g:Nat}:((g+k:Nat):Int)+(d:Int)+4=((g+(k+(d+4)):Nat):Int):=li0 3 [] [_,_,_] (.eq (.a (.a (.n (.a U0 U1)) (.n U2)) (.c 4)) (.n (.a U0 (.a U1 (.a U2 (.c 4)))))) rfl
theorem sp_widen(t:TX K h0)(hn:2≤n)(ok:A.OK)(h4:g≤T.length)(hl:T.length+G.length≤5000){m:Nat}(hm:m≤900)(q:∀G':List Int,m≤G'.length→G'.length≤G.length+m+4→Q .none (upd R A (σ.re T g G'))):
  Fn w h0 n 416 [.ref A.t,.int m] (upd R A (σ.re T g G)) Q X:=by
 refine fn_row t hn 36 rfl [some (.ref A.t),some (.int m),none] args_all (by kernel_rfl) ?_
 have e2:(σ.re T g G).gs=g:=rfl
 have e3:(σ.re T g G).ge=(g+G.length:Nat):=rfl
 have lc':=cells_len (G:=G) h4
 delta b_GapText_widen_gap;simp only[↓s_set,↓sl_0,↓sl_s,↓e_var,↓e_bin,↓e_attr,↓l_0,↓l_s,↓b_sub,↓gF (u_t ok) (k:=27) rfl rfl,↓gF (u_t ok) (k:=28) rfl rfl,e2,e3]
 refine s_ite ?_
 simp only[↓e_int,↓e_var,↓e_cmp,↓l_0,↓l_s,↓p_b,↓c_gt]
 refine dD (fun h=>?_) fun h=>?_
 ·refine bc fun ng=>?_
  obtain⟨d,rfl⟩:∃d,m=G.length+d:=⟨m-G.length,by exact li2 4 [] [_,_,_,_] (.sb U1 U0 U2) (.lt I0 (.s (.n U1) (.s (.n (.a U3 U0)) (.n U3)))) (.neq U1 (.a U0 U2)) rfl (ns (m) (G.length)) h⟩
  refine ng ?_
  have lT:T.length≤10000:=Nat.le_trans (Nat.le_trans (Nat.le_add_right _ _) hl) (bl rfl)
  have lG:G.length≤10000:=Nat.le_trans (Nat.le_trans (Nat.le_add_left _ _) hl) (bl rfl)
  have ld:d≤900:=Nat.le_trans (Nat.le_add_left _ _) hm
  simp only[↓s_nil,↓s_setA,↓s_setSl,↓nk_n,↓retV_n,↓e_int,↓e_var,↓e_bin,↓e_attr,↓e_lst,↓es_n,↓es_c,↓l_0,↓l_s,↓b_add,↓ln1,↓gF (u_t ok) (k:=25) rfl rfl,↓gF (u_t ok) (k:=26) rfl rfl,↓gF (u_t ok) (k:=28) rfl rfl,e3,shd]
  refine bML (Int.natCast_nonneg (d+4)) (Int.ofNat_le.mpr (Nat.le_trans (Nat.add_le_add_right ld 4) (bl rfl))) (bl rfl) ?_
  have e6:∀k,(List.replicate k [V.int 0]).flatten=(List.replicate k 0).map V.int:=fun k=>by
   induction k with
   |zero=>rfl
   |succ k ih=>rw[List.replicate_succ,List.flatten_cons,ih];rfl
  have l6:((List.replicate (d+4) (0:Int)).map V.int).length≤100000:=by rw[List.length_map,List.length_replicate];exact Nat.le_trans (Nat.add_le_add_right ld 4) (bl rfl)
  rw[show((d:Int)+4).toNat=d+4 from rfl,e6]
  simp only[↓gF (u_t ok) (k:=25) rfl rfl,↓gF (u_t ok) (k:=26) rfl rfl,↓gF (u_t ok) (k:=27) rfl rfl,↓gF (u_t ok) (k:=28) rfl rfl,e3]
  have lcs:(σ.re T g G).cs.length=T.length+G.length:=lc'
  rw[wCn (lo:=g+G.length) (hi:=g+G.length) ok (Nat.le_refl _) (by rw[lcs];exact Nat.add_le_add_right h4 _) (by rw[lcs];exact Nat.le_trans hl (bl rfl)) l6]
  simp only[↓b_add,↓gF (u_t ok) (k:=25) rfl rfl,↓gF (u_t ok) (k:=26) rfl rfl,↓gF (u_t ok) (k:=27) rfl rfl,↓gF (u_t ok) (k:=28) rfl rfl,e3,↓wT28 ok]
  have e7:(cells T g G).take (g+G.length)++(List.replicate (d+4) (0:Int)).map V.int++(cells T g G).drop (g+G.length)=cells T g (G++List.replicate (d+4) 0):=by
   refine cells_put ?_
   have e8:(T.take g++G).length=g+G.length:=by rw[List.length_append,List.length_take,Nat.min_eq_left h4]
   rw[List.take_left' e8,List.drop_left' e8,←List.append_assoc]
  have lx:(G++List.replicate (d+4) (0:Int)).length=G.length+(d+4):=by rw[List.length_append,List.length_replicate]
  have q9:=q (G++List.replicate (d+4) 0) (by rw[lx];exact Nat.add_le_add_left (Nat.le_add_right _ _) _) (by rw[lx,Nat.add_assoc];exact Nat.add_le_add_left (Nat.add_le_add_right (Nat.le_add_left _ _) 4) _)
  unfold Bs.re at q9⊢
  rw[lx,←e7] at q9
  rw[shd2];exact q9
 ·simp only[↓s_nil,↓nk_n,↓retV_n]
  exact q G (li1 3 [] [_,_,_] (.no (.lt I0 (.s (.n U0) (.s (.n (.a U1 U2)) (.n U1))))) (.nle U0 U2) rfl h) (li0 2 [] [_,_] (.nle U0 (.a (.a U0 U1) (.c 4))) rfl)
noncomputable def putT(T:List Int)(a:Nat)(ys:List Int):List Int:=T.take a++ys++T.drop a
noncomputable def cutT(T:List Int)(a b:Nat):List Int:=T.take a++T.drop b
theorem sp_tinsert(t:TX K h0)(hn:4≤n)(ok:A.OK)(h4:g≤T.length)(hl:T.length+G.length+ys.length≤4000)(hy:ys.length≤900){a:Nat}(ha:a≤T.length)
  (q:∀G':List Int,G'.length≤G.length+4→Q .none (upd R A (σ.re (putT T a ys) (a+ys.length) G'))):Fn w h0 n 423 [.ref A.t,.int a,.lst (ys.map V.int)] (upd R A (σ.re T g G)) Q X:=by
 refine fn_row t (by exact lv0 hn rfl) 37 rfl [some (.ref A.t),some (.int a),some (.lst (ys.map V.int))] args_all (by kernel_rfl) ?_
 have ly:(ys.map V.int).length=ys.length:=List.length_map _
 have ly2:(ys.map V.int).length< 2^60:=by rw[ly];(exact li1 1 [] [_] (.nle U0 (.c 900)) (.nlt U0 (.c (2^60))) rfl hy)
 have hn':2≤n-2:=by exact li2 2 [] [_,_] (.sb U0 O2 U1) (.nle (.c 4) U0) (.nle O2 U1) rfl (ns (n) (2)) hn
 delta b_GapText_insert;simp only[↓s_nil,↓s_expr,↓s_setA,↓s_setSl,↓retV_n,↓e_var,↓e_bin,↓e_attr,↓e_meth,↓e_b1,↓es_n,↓es_c,↓l_0,↓l_s,↓b_add,↓lenP ly2,ly,↓gI (u_t ok) (k:=74) rfl,↓gI (u_t ok) (k:=73) rfl]
 refine sp_widen t hn' ok h4 (by exact li1 3 [] [_,_,_] (.nle (.a (.a U0 U1) U2) (.c 4000)) (.nle (.a U0 U1) (.c 5000)) rfl hl) hy fun G1 h1 h2=>?_
 simp only[↓gI (u_t ok) (k:=74) rfl,↓gI (u_t ok) (k:=73) rfl]
 refine sp_move_gap t hn' ok h4 (by exact li2 4 [] [_,_,_,_] (.nle (.a (.a U0 U1) U2) (.c 4000)) (.nle U3 (.a (.a U1 U2) (.c 4))) (.nle (.a U0 U3) (.c 10000)) rfl hl h2) ha fun G2 h3=>?_
 simp only[↓lenP ly2,ly,↓gF (u_t ok) (k:=26) rfl rfl]
 have lcs:(σ.re T a G2).cs.length=T.length+G2.length:=cells_len ha
 rw[show(a:Int)+ys.length=((a+ys.length:Nat):Int) from rfl,wCn ok (Nat.le_add_right _ _) (by rw[lcs];(exact li3 5 [] [_,_,_,_,_] (.nle U0 U1) (.nle U2 U3) (.neq U4 U3) (.nle (.a U0 U2) (.a U1 U4)) rfl ha h1 h3)) (by exact li4 6 [] [_,_,_,_,_,_] (.nle (.a (.a U0 U1) U2) (.c 4000)) (.nle U3 (.a (.a U1 U2) (.c 4))) (.neq U4 U3) (.neq U5 (.a U0 U4)) (.nle U5 (.c 100000)) rfl hl h2 h3 lcs) (by exact li2 2 [] [_,_] (.nle U0 (.c 900)) (.neq U1 U0) (.nle U1 (.c 100000)) rfl hy ly)]
 simp only[↓lenP ly2,ly,↓wT27 ok]
 have q9:=q (G2.drop ys.length) (by rw[List.length_drop];(exact li3 5 [] [_,_,_,_,_] (.sb U1 U0 U2) (.nle U3 (.a (.a U4 U0) (.c 4))) (.neq U1 U3) (.nle U2 (.a U4 (.c 4))) rfl (ns (G2.length) (ys.length)) h2 h3))
 have e1:(((a+ys.length)+(G2.drop ys.length).length:Nat):Int)=((a+G2.length:Nat):Int):=by rw[List.length_drop];(exact li3 5 [] [_,_,_,_,_] (.sb U1 U0 U2) (.nle U0 U3) (.neq U1 U3) (.eq (.n (.a (.a U4 U0) U2)) (.n (.a U4 U1))) rfl (ns (G2.length) (ys.length)) h1 h3)
 have e2:(cells T a G2).take a++ys.map V.int++(cells T a G2).drop (a+ys.length)=cells (putT T a ys) (a+ys.length) (G2.drop ys.length):=by
  refine cells_put ?_
  have k1:(T.take a).length=a:=by rw[List.length_take,Nat.min_eq_left ha]
  have k2:(T.take a++ys).length=a+ys.length:=by rw[List.length_append,k1]
  have k3:(T.take a++G2++T.drop a).drop (a+ys.length)=G2.drop ys.length++T.drop a:=by
   rw[List.append_assoc,←List.drop_drop,List.drop_left' k1,List.drop_append_of_le_length (by exact li2 3 [] [_,_,_] (.nle U0 U1) (.neq U2 U1) (.nle U0 U2) rfl h1 h3)]
  rw[take_app3 k1.symm,k3,putT,List.take_left' k2,List.drop_left' k2]
  simp only[List.append_assoc]
 unfold Bs.re at q9⊢
 rw[e1,←e2] at q9;exact q9
theorem sp_tdelete(t:TX K h0)(hn:4≤n)(ok:A.OK)(h4:g≤T.length)(hl:T.length+G.length≤4000){a b:Nat}(hab:a≤b)(hb:b≤T.length)
  (q:∀(xs:List V) (G':List Int),G'.length=G.length+(b-a)→Q (.lst xs) (upd R A (σ.re (cutT T a b) a G'))):Fn w h0 n 430 [.ref A.t,.int a,.int b] (upd R A (σ.re T g G)) Q X:=by
 refine fn_row t (lv0 hn rfl) 38 rfl [some (.ref A.t),some (.int a),some (.int b),none] args_all (by kernel_rfl) ?_
 have hn':2≤n-2:=li2 2 [] [_,_] (.sb U0 O2 U1) (.nle (.c 4) U0) (.nle O2 U1) rfl (ns (n) (2)) hn
 delta b_GapText_delete;simp only[↓s_set,↓sl_0,↓sl_s,↓e_var,↓e_meth,↓es_n,↓es_c,↓l_0,↓l_s,↓gI (u_t ok) (k:=0) rfl]
 refine sp_tcodes t hn' (upd_at ok) (re_good h4 (li1 2 [] [_,_] (.nle (.a U0 U1) (.c 4000)) (.nle (.a U0 U1) (.c 10000)) rfl hl)) hab hb ?_
 generalize(List.map V.int (List.drop a (List.take b T)))=gone
 have fin:∀(g':Nat) (G1:List Int),a≤g'→g'≤b→G1.length=G.length→vcSs w h0 (n-2) (fun x H'=>X H') (Ss.cons (S.setA (E.var 0) 28 (E.bin Operator.Sub (E.bin Operator.Add ((E.var 0).attr 28) (E.var 2)) ((E.var 0).attr 27))) (Ss.cons (S.setA (E.var 0) 27 (E.var 1)) (Ss.cons (S.ret (E.var 3)) Ss.nil)))
   [some (.ref A.t),some (.int a),some (.int b),some (.lst gone)] (upd R A (σ.re T g' G1)) (fun fl x H'=>Q (retV fl) H'):=by
  intro g' G1 h1 h2 h3
  have e2:(σ.re T g' G1).gs=g':=rfl
  have e3:(σ.re T g' G1).ge=(g'+G1.length:Nat):=rfl
  simp only[↓s_ret,↓s_setA,↓retV_r,↓e_var,↓e_bin,↓e_attr,↓l_0,↓l_s,↓b_add,↓b_sub,↓gF (u_t ok) (k:=27) rfl rfl,↓gF (u_t ok) (k:=28) rfl rfl,↓wT27 ok,↓wT28 ok,e2,e3]
  have lx:((T.take g').drop a++G1++(T.take b).drop g').length=g'-a+G1.length+(b-g'):=by rw[List.length_append,List.length_append,len_mid (Nat.le_trans h2 hb),len_mid hb]
  have q9:=q gone ((T.take g').drop a++G1++(T.take b).drop g') (by rw[lx,h3];exact a_del h1 h2/-(first|lia|omega)-/)
  have e4:((a+((T.take g').drop a++G1++(T.take b).drop g').length:Nat):Int)=((g'+G1.length:Nat):Int)+b-g':=by rw[lx];clear lx h3 q hb hl h4 hn hn' q9;(exact li4 6 [] [_,_,_,_,_,_] (.sb U1 U0 U2) (.sb U3 U1 U4) (.nle U0 U1) (.nle U1 U3) (.eq (.n (.a U0 (.a (.a U2 U5) U4))) (.s (.a (.n (.a U1 U5)) (.n U3)) (.n U1))) rfl (ns (g') (a)) (ns (b) (g')) h1 h2)
  have e5:cells (cutT T a b) a ((T.take g').drop a++G1++(T.take b).drop g')=cells T g' G1:=by
   have k1:(T.take a).length=a:=by rw[List.length_take];exact Nat.min_eq_left (Nat.le_trans hab hb)
   unfold cells cutT
   rw[List.take_left' k1,List.drop_left' k1]
   congr 1
   have k4:=take_mid h1 (Nat.le_trans h2 hb)
   have k5:=drop_mid (T:=T) h2
   simp only[List.append_assoc]
   rw[k5,←List.append_assoc,k4]
  unfold Bs.re at q9⊢
  rw[e4,e5] at q9;exact q9
 have e2:∀(g':Nat) (G1:List Int),(σ.re T g' G1).gs=g':=fun _ _=>rfl
 refine s_ite ?_
 simp only[↓e_var,↓e_cmp,↓e_attr,↓l_0,↓l_s,↓p_b,↓c_lt,↓gF (u_t ok) (k:=27) rfl rfl,e2]
 refine dD (fun h=>?_) fun h=>?_
 ·simp only[↓s_nil,↓s_expr,↓nk_n,↓e_var,↓e_meth,↓es_n,↓es_c,↓l_0,↓l_s,↓gI (u_t ok) (k:=73) rfl]
  refine sp_move_gap t hn' ok h4 (li1 2 [] [_,_] (.nle (.a U0 U1) (.c 4000)) (.nle (.a U0 U1) (.c 10000)) rfl hl) hb fun G1 h1=>?_
  refine s_ite ?_
  simp only[↓e_var,↓e_cmp,↓e_attr,↓l_0,↓l_s,↓p_b,↓c_gt,↓gF (u_t ok) (k:=27) rfl rfl,e2,↓dF (by(exact li1 2 [] [_,_] (.nle U0 U1) (.no (.lt (.n U1) (.n U0))) rfl hab):¬(b:Int)< a),↓dF' (by(exact li1 2 [] [_,_] (.nle U0 U1) (.no (.lt (.n U1) (.n U0))) rfl hab):¬(b:Int)< a),↓nF (by(exact li1 2 [] [_,_] (.nle U0 U1) (.no (.lt (.n U1) (.n U0))) rfl hab):¬(b:Int)< a),↓nF' (by(exact li1 2 [] [_,_] (.nle U0 U1) (.no (.lt (.n U1) (.n U0))) rfl hab):¬(b:Int)< a)]
  exact fin b G1 hab (Nat.le_refl _) h1
 ·simp only[↓s_nil,↓nk_n]
  refine s_ite ?_
  simp only[↓e_var,↓e_cmp,↓e_attr,↓l_0,↓l_s,↓p_b,↓c_gt,↓gF (u_t ok) (k:=27) rfl rfl,e2]
  refine dD (fun h'=>?_) fun h'=>?_
  ·simp only[↓s_nil,↓s_expr,↓s_ret,↓s_setA,↓nk_n,↓retV_r,↓e_var,↓e_bin,↓e_attr,↓e_meth,↓es_n,↓es_c,↓l_0,↓l_s,↓gI (u_t ok) (k:=73) rfl]
   refine sp_move_gap t hn' ok h4 (li1 2 [] [_,_] (.nle (.a U0 U1) (.c 4000)) (.nle (.a U0 U1) (.c 10000)) rfl hl) (li2 3 [] [_,_,_] (.nle U0 U1) (.nle U1 U2) (.nle U0 U2) rfl hab hb) fun G1 h1=>?_
   exact fin a G1 (Nat.le_refl _) hab h1
  ·exact fin g G (li1 2 [] [_,_] (.no (.lt (.n U0) (.n U1))) (.nle U1 U0) rfl h') (li1 2 [] [_,_] (.no (.lt (.n U0) (.n U1))) (.nle U1 U0) rfl h) rfl
end
theorem f_nil{body:Loc→Hp→(Fl→Loc→Hp→Prop)→Prop}{Q:Fl→Loc→Hp→Prop}:forV body t [] l H Q=Q .next l H:=rfl
theorem f_cons{body:Loc→Hp→(Fl→Loc→Hp→Prop)→Prop}{x:V}{r:List V}{Q:Fl→Loc→Hp→Prop}:
  forV body (.nm k) (x::r) l H Q=body (setL l k x) H (turnK (fun l₁ H₁=>forV body (.nm k) r l₁ H₁ Q) Q):=rfl
theorem set_same(h:H a=some o):H.set a o=H:=by
 funext b;delta Hp.set;by_cases e:b=a
 ·rw[if_pos e,e,h]
 ·rw[if_neg e]
theorem perm12(h:ys.Perm [1,2])(p:ys.Pairwise (·≤·)):ys=[1,2]:=by
 have hl:=h.length_eq
 match ys,hl with
 |[a,b],_=>
  have h1:(1:Int)∈[a,b]:=h.mem_iff.mpr (.head _)
  have h2:(2:Int)∈[a,b]:=h.mem_iff.mpr (.tail _ (.head _))
  simp only[List.mem_cons,List.not_mem_nil,or_false,List.pairwise_cons] at h1 h2 p
  have h3:=p.1 b rfl
  have:a=1∧b=2:=li3 2 [_,_] [] (.or (.eq I1 J0) (.eq I1 J1)) (.or (.eq I2 J0) (.eq I2 J1)) (.le J0 J1) (.and (.eq J0 I1) (.eq J1 I2)) rfl h1 h2 h3
  rw[this.1,this.2]
section
variable{A:Ad}
theorem u_rd0(ok:A.OK)(hm:σ.ms=none):upd R A σ A.rd=some (.idict []):=by simp only[upd,if_neg ok.rb,if_neg ok.rt,if_neg ok.rc,if_neg ok.rm,hm,if_pos]
theorem u_rd(ok:A.OK){p:Int×Int}(hm:σ.ms=some p):upd R A σ A.rd=some (.idict [(1,.ref A.m1),(2,.ref A.m2)]):=by simp only[upd,if_neg ok.rb,if_neg ok.rt,if_neg ok.rc,if_neg ok.rm,hm,if_pos]
theorem u_m1(om:A.OM){p:Int×Int}(hm:σ.ms=some p):upd R A σ A.m1=some (.inst 531 A.d1 (mkFs 1 false (.ref A.b) p.1)):=by simp only[upd,if_neg om.b1,if_neg om.t1,if_neg om.c1,if_neg om.i1,if_neg om.r1,hm,if_pos]
theorem u_m2(om:A.OM){p:Int×Int}(hm:σ.ms=some p):upd R A σ A.m2=some (.inst 531 A.d2 (mkFs 2 true (.ref A.b) p.2)):=by simp only[upd,if_neg om.b2,if_neg om.t2,if_neg om.c2,if_neg om.i2,if_neg om.r2,if_neg om.m12,hm,if_pos]
theorem set_m1(om:A.OM){p:Int×Int}(hm:σ.ms=some p):(upd R A σ).set A.m1 (.inst 531 A.d1 (mkFs 1 false (.ref A.b) z))=upd R A {σ with ms:=some (z,p.2)}:=by
 funext a;delta Hp.set upd
 by_cases h:a=A.m1
 ·simp only[h,if_pos,if_neg om.b1,if_neg om.t1,if_neg om.c1,if_neg om.i1,if_neg om.r1]
 ·simp only[if_neg h,hm]
theorem set_m2(om:A.OM){p:Int×Int}(hm:σ.ms=some p):(upd R A σ).set A.m2 (.inst 531 A.d2 (mkFs 2 true (.ref A.b) z))=upd R A {σ with ms:=some (p.1,z)}:=by
 funext a;delta Hp.set upd
 by_cases h:a=A.m2
 ·simp only[h,if_pos,if_neg om.b2,if_neg om.t2,if_neg om.c2,if_neg om.i2,if_neg om.r2,if_neg om.m12]
 ·simp only[if_neg h,hm]
theorem set_m2'(om:A.OM){gs pt tk x y:Int}:(upd R A ⟨cs,gs,ge,bv,zv,pt,tk,ct,some (x,y)⟩).set A.m2 (.inst 531 A.d2 (mkFs 2 true (.ref A.b) z))=upd R A ⟨cs,gs,ge,bv,zv,pt,tk,ct,some (x,z)⟩:=set_m2 (σ:=⟨cs,gs,ge,bv,zv,pt,tk,ct,some (x,y)⟩) om (p:=(x,y)) rfl
theorem b_srt(hr:H rd=some (.idict es)):b1V H .sorted (.ref rd) q=(es.length< 64∧∀ys:List Int,ys.Perm (es.map (·.1))→ys.Pairwise (·≤·)→q (.lst (ys.map .int))):=by
 show(match H rd with|some (.idict es)=>_|_=>False)=_
 rw[hr]
theorem sp_numbers(t:TX K h0)(hn:2≤n){m:Addr}{ks:List Int}(hm:H m=some (.inst 599 dm [(8,.ref rd)]))(hr:H rd=some (.idict es))(hl:es.length< 64)(hk:∀ys:List Int,ys.Perm (es.map (·.1))→ys.Pairwise (·≤·)→ys=ks)
  (q:Q (.lst (ks.map .int)) H):Fn w h0 n 554 [.ref m] H Q X:=by
 refine fn_row t hn 41 rfl [some (.ref m)] args_all (by kernel_rfl) ?_
 delta b_Markers_numbers;simp only[↓s_ret,↓retV_r,↓e_var,↓e_attr,↓e_b1,↓l_0,↓gF hm (k:=8) rfl rfl]
 rw[b_srt hr]
 exact⟨hl,fun ys h1 h2=>by rw[hk ys h1 h2];exact q⟩
noncomputable def insPos(s e:Int)(adv:Bool)(p:Int):Int:=if s< p∨(p=s∧adv=true) then p+e-s else p
noncomputable def delPos(s e p:Int):Int:=if e< p then p-(e-s) else if s< p then s else p
noncomputable def repPos(s e m p:Int):Int:=if e≤p then p+m-(e-s) else if s< p then s else p
section
variable{m d:Addr}{k p s:Int}{bb:V}
theorem turn_ins(hm:H m=some (.inst 599 dm [(8,.ref rd)]))(hr:H rd=some (.idict es))(hk:find2 k es=some (.ref a))(ha:H a=some (.inst 531 d (mkFs k adv bb p)))
  (q:QQ .next [some (.ref m),some (.int s),some (.int e),some (.bool false),some (.int k),some (.ref a)] (H.set a (.inst 531 d (mkFs k adv bb (insPos s e adv p))))):
  vcSs w h0 n (fun _ _=>False) (.cons (.set 5 (.sub (.attr (.var 0) 8) (.var 4)))
 (.cons (.ite (.or (.cmp .Gt (.attr (.var 5) 31) (.var 1)) (.and (.cmp .Eq (.attr (.var 5) 31) (.var 1)) (.or (.var 3) (.attr (.var 5) 29)))) (.cons (.setA (.var 5) 31 (.bin .Sub (.bin .Add (.attr (.var 5) 31) (.var 2)) (.var 1)))
 .nil) .nil)
 .nil)) [some (.ref m),some (.int s),some (.int e),some (.bool false),some (.int k),x5] H QQ:=by
 simp only[↓s_set,↓sl_0,↓sl_s,↓e_var,↓e_attr,↓e_sub,↓l_0,↓l_s,↓gF hm (k:=8) rfl rfl,↓iD hr hk]
 refine s_ite ?_
 have yes:(s< p∨(p=s∧adv=true))→vcSs w h0 n (fun _ _=>False) (.cons (.setA (.var 5) 31 (.bin .Sub (.bin .Add (.attr (.var 5) 31) (.var 2)) (.var 1))) .nil) [some (.ref m),some (.int s),some (.int e),some (.bool false),some (.int k),some (.ref a)] H (nextK (fun l' H'=>vcSs w h0 n (fun _ _=>False) .nil l' H' QQ) QQ):=by
  intro h
  simp only[↓s_nil,↓s_setA,↓nk_n,↓e_var,↓e_bin,↓e_attr,↓l_0,↓l_s,↓b_add,↓b_sub,↓gF ha (k:=31) rfl rfl,↓pF ha (k:=31) (bl rfl) rfl]
  simp only[insPos,if_pos h] at q;exact q
 have no:¬(s< p∨(p=s∧adv=true))→QQ .next [some (.ref m),some (.int s),some (.int e),some (.bool false),some (.int k),some (.ref a)] H:=by
  intro h
  simp only[insPos,if_neg h,set_same ha] at q;exact q
 by_cases h1:s< p
 ·simp only[↓e_var,↓e_cmp,↓e_or,↓e_attr,↓l_0,↓l_s,↓p_b,↓c_gt,↓sT,↓gF ha (k:=31) rfl rfl,↓dT h1,↓dT' h1,↓nT h1,↓nT' h1];exact yes (.inl h1)
 ·by_cases h2:p=s
  ·cases adv with
   |true=>simp only[↓e_var,↓e_cmp,↓e_and,↓e_or,↓e_attr,↓l_0,↓l_s,↓p_b,↓c_eq,↓c_gt,↓sT,↓sF',↓gF ha (k:=31) rfl rfl,↓gF ha (k:=29) rfl rfl,↓dF h1,↓dF' h1,↓nF h1,↓nF' h1,↓dT h2,↓dT' h2,↓nT h2,↓nT' h2];exact yes (.inr ⟨h2,rfl⟩)
   |false=>simp only[↓s_nil,↓nk_n,↓e_var,↓e_cmp,↓e_and,↓e_or,↓e_attr,↓l_0,↓l_s,↓p_b,↓c_eq,↓c_gt,↓sF,↓sF',↓gF ha (k:=31) rfl rfl,↓gF ha (k:=29) rfl rfl,↓dF h1,↓dF' h1,↓nF h1,↓nF' h1,↓dT h2,↓dT' h2,↓nT h2,↓nT' h2];exact no (by simp[h1])
  ·simp only[↓s_nil,↓nk_n,↓e_var,↓e_cmp,↓e_and,↓e_or,↓e_attr,↓l_0,↓l_s,↓p_b,↓c_eq,↓c_gt,↓sF,↓gF ha (k:=31) rfl rfl,↓dF h1,↓dF' h1,↓nF h1,↓nF' h1,↓dF h2,↓dF' h2,↓nF h2,↓nF' h2];exact no (by simp[h1,h2])
theorem turn_del(hm:H m=some (.inst 599 dm [(8,.ref rd)]))(hr:H rd=some (.idict es))(hk:find2 k es=some (.ref a))(ha:H a=some (.inst 531 d (mkFs k adv bb p)))
  (q:QQ .next [some (.ref m),some (.int s),some (.int e),some (.int k),some (.ref a)] (H.set a (.inst 531 d (mkFs k adv bb (delPos s e p))))):
  vcSs w h0 n (fun _ _=>False) (.cons (.set 4 (.sub (.attr (.var 0) 8) (.var 3)))
 (.cons (.ite (.cmp .Gt (.attr (.var 4) 31) (.var 2)) (.cons (.setA (.var 4) 31 (.bin .Sub (.attr (.var 4) 31) (.bin .Sub (.var 2) (.var 1))))
 .nil) (.cons (.ite (.cmp .Gt (.attr (.var 4) 31) (.var 1)) (.cons (.setA (.var 4) 31 (.var 1))
 .nil) .nil)
 .nil))
 .nil)) [some (.ref m),some (.int s),some (.int e),some (.int k),x4] H QQ:=by
 simp only[↓s_set,↓sl_0,↓sl_s,↓e_var,↓e_attr,↓e_sub,↓l_0,↓l_s,↓gF hm (k:=8) rfl rfl,↓iD hr hk]
 refine s_ite ?_
 simp only[↓e_var,↓e_cmp,↓e_attr,↓l_0,↓l_s,↓p_b,↓c_gt,↓gF ha (k:=31) rfl rfl]
 refine dD (fun h1=>?_) fun h1=>?_
 ·simp only[↓s_nil,↓s_setA,↓nk_n,↓e_var,↓e_bin,↓e_attr,↓l_0,↓l_s,↓b_sub,↓gF ha (k:=31) rfl rfl,↓pF ha (k:=31) (bl rfl) rfl]
  simp only[delPos,if_pos h1] at q;exact q
 ·refine s_ite ?_
  simp only[↓e_var,↓e_cmp,↓e_attr,↓l_0,↓l_s,↓p_b,↓c_gt,↓gF ha (k:=31) rfl rfl]
  refine dD (fun h2=>?_) fun h2=>?_
  ·simp only[↓s_nil,↓s_setA,↓nk_n,↓e_var,↓l_0,↓l_s,↓gF ha (k:=31) rfl rfl,↓pF ha (k:=31) (bl rfl) rfl]
   simp only[delPos,if_neg h1,if_pos h2] at q;exact q
  ·simp only[delPos,if_neg h1,if_neg h2,set_same ha] at q;exact q
theorem turn_rep(hm:H m=some (.inst 599 dm [(8,.ref rd)]))(hr:H rd=some (.idict es))(hk:find2 k es=some (.ref a))(ha:H a=some (.inst 531 d (mkFs k adv bb p)))
  (q:QQ .next [some (.ref m),some (.int s),some (.int e),some (.int mm),some (.int k),some (.ref a)] (H.set a (.inst 531 d (mkFs k adv bb (repPos s e mm p))))):
  vcSs w h0 n (fun _ _=>False) (.cons (.set 5 (.sub (.attr (.var 0) 8) (.var 4)))
 (.cons (.ite (.cmp .GtE (.attr (.var 5) 31) (.var 2)) (.cons (.setA (.var 5) 31 (.bin .Sub (.bin .Add (.attr (.var 5) 31) (.var 3)) (.bin .Sub (.var 2) (.var 1))))
 .nil) (.cons (.ite (.cmp .Gt (.attr (.var 5) 31) (.var 1)) (.cons (.setA (.var 5) 31 (.var 1))
 .nil) .nil)
 .nil))
 .nil)) [some (.ref m),some (.int s),some (.int e),some (.int mm),some (.int k),x5] H QQ:=by
 simp only[↓s_set,↓sl_0,↓sl_s,↓e_var,↓e_attr,↓e_sub,↓l_0,↓l_s,↓gF hm (k:=8) rfl rfl,↓iD hr hk]
 refine s_ite ?_
 simp only[↓e_var,↓e_cmp,↓e_attr,↓l_0,↓l_s,↓p_b,↓c_ge,↓gF ha (k:=31) rfl rfl]
 refine dD (fun h1=>?_) fun h1=>?_
 ·simp only[↓s_nil,↓s_setA,↓nk_n,↓e_var,↓e_bin,↓e_attr,↓l_0,↓l_s,↓b_add,↓b_sub,↓gF ha (k:=31) rfl rfl,↓pF ha (k:=31) (bl rfl) rfl]
  simp only[repPos,if_pos h1] at q;exact q
 ·refine s_ite ?_
  simp only[↓e_var,↓e_cmp,↓e_attr,↓l_0,↓l_s,↓p_b,↓c_gt,↓gF ha (k:=31) rfl rfl]
  refine dD (fun h2=>?_) fun h2=>?_
  ·simp only[↓s_nil,↓s_setA,↓nk_n,↓e_var,↓l_0,↓l_s,↓gF ha (k:=31) rfl rfl,↓pF ha (k:=31) (bl rfl) rfl]
   simp only[repPos,if_neg h1,if_pos h2] at q;exact q
  ·simp only[repPos,if_neg h1,if_neg h2,set_same ha] at q;exact q
end
theorem sp_inserted(t:TX K h0)(hn:4≤n)(ok:A.OK)(om:σ.ms.isSome=true→A.OM){s:Int}(q:Q .none (upd R A {σ with ms:=σ.ms.map fun p=>(insPos s e false p.1,insPos s e true p.2)})):
  Fn w h0 n 582 [.ref A.m,.int s,.int e,.bool false] (upd R A σ) Q X:=by
 refine fn_row t (lv0 hn rfl) 43 rfl [some (.ref A.m),some (.int s),some (.int e),some (.bool false),none,none] args_all (by kernel_rfl) ?_
 have hn':2≤n-2:=li2 2 [] [_,_] (.sb U0 O2 U1) (.nle (.c 4) U0) (.nle O2 U1) rfl (ns (n) (2)) hn
 delta b_Markers_inserted
 refine s_for ?_
 simp only[↓e_none,↓e_var,↓e_meth,↓es_n,↓l_0,↓gI (u_m ok) (k:=55) rfl]
 cases hm:σ.ms with
 |none=>
  refine sp_numbers t hn' (u_m ok) (u_rd0 ok hm) (by decide) (fun ys h1 _=>List.perm_nil.mp h1) ?_
  simp only[↓it_l,List.map_nil]
  refine⟨Nat.zero_le _,?_⟩
  have e:({σ with ms:=(none:Option (Int×Int))}:Bs)=σ:=by rw[←hm]
  simp only[hm,Option.map_none] at q
  rw[e] at q;exact q
 |some p=>
  have om:=om (by rw[hm];rfl)
  refine sp_numbers t hn' (u_m ok) (u_rd ok hm) (by simp) (fun ys h1 h2=>perm12 h1 h2) ?_
  simp only[↓it_l,List.map_cons,List.map_nil]
  refine⟨bl rfl,?_⟩
  simp only[↓f_cons,↓sl_0,↓sl_s]
  refine turn_ins (u_m ok) (u_rd ok hm) rfl (u_m1 om hm) ?_
  simp only[↓tk_n,↓f_cons,↓sl_0,↓sl_s,set_m1 om hm]
  refine turn_ins (u_m ok) (u_rd ok rfl) rfl (u_m2 om rfl) ?_
  simp only[↓tk_n,↓f_nil,set_m2' om]
  rw[hm] at q;exact q
theorem sp_deleted(t:TX K h0)(hn:4≤n)(ok:A.OK)(om:A.OM){p:Int×Int}(hm:σ.ms=some p){s:Int}(q:Q .none (upd R A {σ with ms:=some (delPos s e p.1,delPos s e p.2)})):
  Fn w h0 n 589 [.ref A.m,.int s,.int e] (upd R A σ) Q X:=by
 refine fn_row t (lv0 hn rfl) 44 rfl [some (.ref A.m),some (.int s),some (.int e),none,none] args_all (by kernel_rfl) ?_
 have hn':2≤n-2:=li2 2 [] [_,_] (.sb U0 O2 U1) (.nle (.c 4) U0) (.nle O2 U1) rfl (ns (n) (2)) hn
 delta b_Markers_deleted
 refine s_for ?_
 simp only[↓e_none,↓e_var,↓e_meth,↓es_n,↓l_0,↓gI (u_m ok) (k:=55) rfl]
 refine sp_numbers t hn' (u_m ok) (u_rd ok hm) (by simp) (fun ys h1 h2=>perm12 h1 h2) ?_
 simp only[↓it_l,List.map_cons,List.map_nil]
 refine⟨bl rfl,?_⟩
 simp only[↓f_cons,↓sl_0,↓sl_s]
 refine turn_del (u_m ok) (u_rd ok hm) rfl (u_m1 om hm) ?_
 simp only[↓tk_n,↓f_cons,↓sl_0,↓sl_s,set_m1 om hm]
 refine turn_del (u_m ok) (u_rd ok rfl) rfl (u_m2 om rfl) ?_
 simp only[↓tk_n,↓f_nil,set_m2' om]
 exact q
theorem sp_replaced(t:TX K h0)(hn:4≤n)(ok:A.OK)(om:A.OM){p:Int×Int}(hm:σ.ms=some p){s:Int}(q:Q .none (upd R A {σ with ms:=some (repPos s e mm p.1,repPos s e mm p.2)})):
  Fn w h0 n 596 [.ref A.m,.int s,.int e,.int mm] (upd R A σ) Q X:=by
 refine fn_row t (lv0 hn rfl) 45 rfl [some (.ref A.m),some (.int s),some (.int e),some (.int mm),none,none] args_all (by kernel_rfl) ?_
 have hn':2≤n-2:=li2 2 [] [_,_] (.sb U0 O2 U1) (.nle (.c 4) U0) (.nle O2 U1) rfl (ns (n) (2)) hn
 delta b_Markers_replaced
 refine s_for ?_
 simp only[↓e_none,↓e_var,↓e_meth,↓es_n,↓l_0,↓gI (u_m ok) (k:=55) rfl]
 refine sp_numbers t hn' (u_m ok) (u_rd ok hm) (by simp) (fun ys h1 h2=>perm12 h1 h2) ?_
 simp only[↓it_l,List.map_cons,List.map_nil]
 refine⟨bl rfl,?_⟩
 simp only[↓f_cons,↓sl_0,↓sl_s]
 refine turn_rep (u_m ok) (u_rd ok hm) rfl (u_m1 om hm) ?_
 simp only[↓tk_n,↓f_cons,↓sl_0,↓sl_s,set_m1 om hm]
 refine turn_rep (u_m ok) (u_rd ok rfl) rfl (u_m2 om rfl) ?_
 simp only[↓tk_n,↓f_nil,set_m2' om]
 exact q
end
section
variable{A:Ad}{T:List Int}{g:Nat}
theorem b_list:b1V H .list (.lst xs) q=(xs.length≤100000∧q (.lst xs)):=rfl
theorem sp_need_writable(t:TX K h0)(hn:2≤n)(q:Q .none (upd R A σ)):Fn w h0 n 734 [.ref A.b] (upd R A σ) Q X:=by
 refine fn_row t hn 54 rfl [some (.ref A.b)] args_all (by kernel_rfl) ?_
 delta b_need_writable
 refine s_ite ?_
 simp only[↓e_var,↓e_attr,↓l_0,↓p_b,↓sF,↓gF u_b (k:=38) rfl rfl]
 exact q
theorem sp_bsize(t:TX K h0)(hn:4≤n)(B:BufAt H A σ)(gd:Good σ T g G)(q:Q (.int T.length) H):Fn w h0 n 653 [.ref A.b] H Q X:=by
 refine fn_row t (lv0 hn rfl) 49 rfl [some (.ref A.b)] args_all (by kernel_rfl) ?_
 delta b_Buffer_size;simp only[↓s_ret,↓retV_r,↓e_var,↓e_attr,↓e_meth,↓es_n,↓l_0,↓gF B.b (k:=2) rfl rfl,↓gI B.t (k:=71) rfl]
 exact sp_size t (lv hn rfl) B gd q
theorem sp_bcodes(t:TX K h0)(hn:4≤n)(B:BufAt H A σ)(gd:Good σ T g G){a b:Nat}(hab:a≤b)(hb:b≤T.length)(q:Q (.lst (((T.take b).drop a).map V.int)) H):Fn w h0 n 667 [.ref A.b,.int ((a:Int)+1),.int ((b:Int)+1)] H Q X:=by
 refine fn_row t (lv0 hn rfl) 51 rfl [some (.ref A.b),some (.int ((a:Int)+1)),some (.int ((b:Int)+1))] args_all (by kernel_rfl) ?_
 delta b_Buffer_codes;simp only[↓s_ret,↓retV_r,↓e_int,↓e_var,↓e_bin,↓e_attr,↓e_meth,↓es_n,↓es_c,↓l_0,↓l_s,↓b_sub,↓gF B.b (k:=2) rfl rfl,↓gI B.t (k:=0) rfl,Int.add_sub_cancel]
 exact sp_tcodes t (lv hn rfl) B gd hab hb q
theorem sp_need_room(t:TX K h0)(hn:6≤n)(ok:A.OK)(h4:g≤T.length)(hl:T.length+G.length≤4000){k:Int}(hk:k≤10000)(q:Q .none (upd R A (σ.re T g G))):Fn w h0 n 741 [.ref A.b,.int k] (upd R A (σ.re T g G)) Q X:=by
 refine fn_row t (lv0 hn rfl) 55 rfl [some (.ref A.b),some (.int k)] args_all (by kernel_rfl) ?_
 delta b_need_room
 refine s_ite ?_
 simp only[↓e_glob,↓e_var,↓e_bin,↓e_cmp,↓e_meth,↓es_n,↓l_0,↓l_s,↓p_b,↓gI u_b (k:=71) rfl]
 refine sp_bsize t (lv hn rfl) (upd_at ok) (re_good h4 (li1 2 [] [_,_] (.nle (.a U0 U1) (.c 4000)) (.nle (.a U0 U1) (.c 10000)) rfl hl)) ?_
 simp only[↓s_nil,↓nk_n,↓retV_n,↓b_add,↓c_gt,↓dF (by(exact li2 2 [_] [_,_] (.nle (.a U0 U1) (.c 4000)) (.le J0 (.c 10000)) (.no (.lt (.c 4194304) (.a (.n U0) J0))) rfl hl hk):¬4194304< (T.length:Int)+k),↓dF' (by(exact li2 2 [_] [_,_] (.nle (.a U0 U1) (.c 4000)) (.le J0 (.c 10000)) (.no (.lt (.c 4194304) (.a (.n U0) J0))) rfl hl hk):¬4194304< (T.length:Int)+k),↓nF (by(exact li2 2 [_] [_,_] (.nle (.a U0 U1) (.c 4000)) (.le J0 (.c 10000)) (.no (.lt (.c 4194304) (.a (.n U0) J0))) rfl hl hk):¬4194304< (T.length:Int)+k),↓nF' (by(exact li2 2 [_] [_,_] (.nle (.a U0 U1) (.c 4000)) (.le J0 (.c 10000)) (.no (.lt (.c 4194304) (.a (.n U0) J0))) rfl hl hk):¬4194304< (T.length:Int)+k)]
 exact q
theorem sp_tell_ahead(t:TX K h0)(hn:2≤n){x:V}(q:Q .none (upd R A σ)):Fn w h0 n 755 [.ref A.b,x,y] (upd R A σ) Q X:=by
 refine fn_row t hn 57 rfl [some (.ref A.b),some x,some y,none] args_all (by kernel_rfl) ?_
 delta b_tell_ahead
 refine s_for ?_
 simp only[↓e_none,↓e_var,↓e_attr,↓e_b1,↓l_0,↓gF u_b (k:=42) rfl rfl,↓b_list,↓it_l]
 exact⟨Nat.zero_le _,Nat.zero_le _,q⟩
theorem sp_tell_behind(t:TX K h0)(hn:4≤n){x z:V}(q:∀tk ct,Q .none (upd R A {σ with tk:=tk,ct:=ct})):Fn w h0 n 762 [.ref A.b,x,y,z] (upd R A σ) Q X:=by
 refine fn_row t (lv0 hn rfl) 58 rfl [some (.ref A.b),some x,some y,some z,none] args_all (by kernel_rfl) ?_
 delta b_tell_behind;simp only[↓s_expr,↓e_bool,↓e_var,↓e_meth,↓es_n,↓es_c,↓l_0,↓gI u_b (k:=84) rfl]
 refine fn_row t (lv hn rfl) 53 rfl [some (.ref A.b),some (.bool true)] args_all (by kernel_rfl) ?_
 delta b_Buffer_touch;simp only[↓s_setA,↓e_int,↓e_var,↓e_bin,↓e_attr,↓l_0,↓b_add,↓gF u_b (k:=39) rfl rfl,↓wB39]
 refine s_ite ?_
 simp only[↓s_nil,↓s_setA,↓nk_n,↓e_var,↓e_attr,↓l_0,↓l_s,↓p_b,↓sT,↓gF u_b (k:=39) rfl rfl,↓wB40]
 refine s_for ?_
 simp only[↓e_none,↓e_var,↓e_attr,↓e_b1,↓l_0,↓gF u_b (k:=42) rfl rfl,↓b_list,↓it_l]
 exact⟨Nat.zero_le _,Nat.zero_le _,q _ _⟩
theorem sp_hung_out(t:TX K h0)(hn:2≤n){x:V}(q:Q .none (upd R A σ)):Fn w h0 n 783 [.ref A.b,x,y] (upd R A σ) Q X:=by
 refine fn_row t hn 61 rfl [some (.ref A.b),some x,some y] args_all (by kernel_rfl) ?_
 delta b_hung_out
 refine s_ite ?_
 simp only[↓s_nil,↓nk_n,↓e_none,↓e_var,↓e_cmp,↓e_attr,↓l_0,↓p_b,↓c_inn,↓sF,↓gF u_b (k:=44) rfl rfl]
 refine s_ite ?_
 simp only[↓s_nil,↓nk_n,↓retV_n,↓e_none,↓e_var,↓e_cmp,↓e_attr,↓l_0,↓p_b,↓c_inn,↓sF,↓gF u_b (k:=45) rfl rfl]
 exact q
theorem sp_hung_in(t:TX K h0)(hn:2≤n){x z:V}(q:Q .none (upd R A σ)):Fn w h0 n 790 [.ref A.b,x,y,z] (upd R A σ) Q X:=by
 refine fn_row t hn 62 rfl [some (.ref A.b),some x,some y,some z] args_all (by kernel_rfl) ?_
 delta b_hung_in
 refine s_ite ?_
 simp only[↓s_nil,↓nk_n,↓e_none,↓e_var,↓e_cmp,↓e_attr,↓l_0,↓p_b,↓c_inn,↓sF,↓gF u_b (k:=44) rfl rfl]
 refine s_ite ?_
 simp only[↓s_nil,↓nk_n,↓retV_n,↓e_none,↓e_var,↓e_cmp,↓e_attr,↓l_0,↓p_b,↓c_inn,↓sF,↓gF u_b (k:=45) rfl rfl]
 exact q
theorem sp_reached(t:TX K h0)(hn:2≤n){s:Int}(hse:s≤e)(q:σ.bv≤s∧e≤σ.zv→Q (.tup [.int s,.int e]) (upd R A σ))(x:¬(σ.bv≤s∧e≤σ.zv)→X (upd R A σ)):Fn w h0 n 748 [.ref A.b,.int s,.int e] (upd R A σ) Q X:=by
 refine fn_row t hn 56 rfl [some (.ref A.b),some (.int s),some (.int e),none,none] args_all (by kernel_rfl) ?_
 delta b_reached;simp only[↓s_setR,↓e_var,↓e_tup,↓e_b2,↓es_n,↓es_c,↓l_0,↓l_s,↓p_t,↓m_min,↓m_max,↓ln2,Int.min_eq_left hse,Int.max_eq_right hse]
 refine⟨rfl,?_⟩
 show vcSs _ _ _ _ _ [some (.ref A.b),some (.int s),some (.int e),some (.int s),some (.int e)] _ _
 refine s_ite ?_
 by_cases h1:s< σ.bv
 ·simp only[↓e_var,↓e_cmp,↓e_or,↓e_attr,↓l_0,↓l_s,↓p_b,↓c_lt,↓sT,↓gF u_b (k:=35) rfl rfl,↓dT h1,↓dT' h1,↓nT h1,↓nT' h1]
  exact⟨bl rfl,rfl,x (li1 4 [_,_,_,_] [] (.lt J0 J1) (.no (.and (.le J1 J0) (.le J2 J3))) rfl h1)⟩
 ·by_cases h2:σ.zv< e
  ·simp only[↓e_var,↓e_cmp,↓e_or,↓e_attr,↓l_0,↓l_s,↓p_b,↓c_lt,↓c_gt,↓gF u_b (k:=35) rfl rfl,↓gF u_b (k:=36) rfl rfl,↓dF h1,↓dF' h1,↓nF h1,↓nF' h1,↓dT h2,↓dT' h2,↓nT h2,↓nT' h2]
   exact⟨bl rfl,rfl,x (li1 4 [_,_,_,_] [] (.lt J0 J1) (.no (.and (.le J2 J3) (.le J1 J0))) rfl h2)⟩
  ·simp only[↓s_nil,↓s_ret,↓nk_n,↓retV_r,↓e_var,↓e_cmp,↓e_or,↓e_attr,↓e_tup,↓es_n,↓es_c,↓l_0,↓l_s,↓p_b,↓c_lt,↓c_gt,↓ln2,↓gF u_b (k:=35) rfl rfl,↓gF u_b (k:=36) rfl rfl,↓dF h1,↓dF' h1,↓nF h1,↓nF' h1,↓dF h2,↓dF' h2,↓nF h2,↓nF' h2]
   exact q (li2 4 [_,_,_,_] [] (.no (.lt J0 J1)) (.no (.lt J2 J3)) (.and (.le J1 J0) (.le J3 J2)) rfl h1 h2)
theorem sp_text_out(t:TX K h0)(hn:6≤n)(ok:A.OK)(h4:g≤T.length)(hl:T.length+G.length≤4000){a b:Nat}(hab:a≤b)(hb:b≤T.length)
  (q:∀(xs:List V) (G':List Int) (pt:Int),G'.length=G.length+(b-a)→Q (.lst xs) (upd R A (({σ with zv:=σ.zv-(b-a),pt:=pt}:Bs).re (cutT T a b) a G'))):
  Fn w h0 n 769 [.ref A.b,.int ((a:Int)+1),.int ((b:Int)+1)] (upd R A (σ.re T g G)) Q X:=by
 refine fn_row t (lv0 hn rfl) 59 rfl [some (.ref A.b),some (.int ((a:Int)+1)),some (.int ((b:Int)+1)),none] args_all (by kernel_rfl) ?_
 have e0:(b:Int)+1-(a+1)=b-a:=li0 2 [] [_,_] (.eq (.s (.a (.n U0) I1) (.a (.n U1) I1)) (.s (.n U0) (.n U1))) rfl
 delta b_text_out
 refine s_ite ?_
 simp only[↓s_nil,↓s_setA,↓nk_n,↓s_set,↓sl_0,↓sl_s,↓e_int,↓e_none,↓e_var,↓e_bin,↓e_cmp,↓e_attr,↓e_meth,↓es_n,↓es_c,↓l_0,↓l_s,↓p_b,↓b_sub,↓c_inn,↓sF,↓gF u_b (k:=43) rfl rfl,↓gF u_b (k:=2) rfl rfl,↓gI (u_t ok) (k:=76) rfl,Int.add_sub_cancel]
 refine sp_tdelete t (lv hn rfl) ok h4 hl hab hb fun xs G' hG=>?_
 simp only[↓b_sub,↓gF u_b (k:=36) rfl rfl,↓wB36,e0]
 refine s_ite ?_
 simp only[↓s_nil,↓s_ret,↓s_setA,↓nk_n,↓retV_r,↓e_var,↓e_bin,↓e_cmp,↓e_attr,↓e_b2,↓l_0,↓l_s,↓p_b,↓b_sub,↓c_gt,↓m_max,↓gF u_b (k:=34) rfl rfl,↓gF u_b (k:=36) rfl rfl,↓wB34,e0]
 exact dD (fun _=>q xs G' _ hG) fun _=>q xs G' _ hG
theorem sp_text_in(t:TX K h0)(hn:6≤n)(ok:A.OK)(h4:g≤T.length)(hl:T.length+G.length+ys.length≤4000)(hy:ys.length≤900){a:Nat}(ha:a≤T.length)
  (q:∀(G':List Int) (pt:Int),G'.length≤G.length+4→Q .none (upd R A (({σ with zv:=σ.zv+ys.length,pt:=pt}:Bs).re (putT T a ys) (a+ys.length) G'))):
  Fn w h0 n 776 [.ref A.b,.int ((a:Int)+1),.lst (ys.map V.int)] (upd R A (σ.re T g G)) Q X:=by
 refine fn_row t (lv0 hn rfl) 60 rfl [some (.ref A.b),some (.int ((a:Int)+1)),some (.lst (ys.map V.int))] args_all (by kernel_rfl) ?_
 have ly:(ys.map V.int).length=ys.length:=List.length_map _
 have ly2:(ys.map V.int).length< 2^60:=li2 2 [] [_,_] (.nle U0 (.c 900)) (.neq U1 U0) (.nlt U1 (.c (2^60))) rfl hy ly
 delta b_text_in
 refine s_ite ?_
 simp only[↓s_nil,↓s_expr,↓s_setA,↓nk_n,↓e_int,↓e_none,↓e_var,↓e_bin,↓e_cmp,↓e_attr,↓e_meth,↓e_b1,↓es_n,↓es_c,↓l_0,↓l_s,↓p_b,↓b_sub,↓c_inn,↓sF,↓gF u_b (k:=43) rfl rfl,↓gF u_b (k:=2) rfl rfl,↓gI (u_t ok) (k:=75) rfl,Int.add_sub_cancel]
 refine sp_tinsert t (lv hn rfl) ok h4 hl hy ha fun G' hG=>?_
 simp only[↓b_add,↓gF u_b (k:=36) rfl rfl,↓wB36,↓lenP ly2,ly]
 refine s_ite ?_
 simp only[↓s_nil,↓s_setA,↓nk_n,↓retV_n,↓e_var,↓e_bin,↓e_cmp,↓e_attr,↓e_b1,↓l_0,↓l_s,↓p_b,↓b_add,↓c_gt,↓gF u_b (k:=34) rfl rfl,↓gF u_b (k:=36) rfl rfl,↓wB34,↓lenP ly2,ly]
 exact dD (fun _=>q G' _ hG) fun _=>q G' _ hG
end
noncomputable def edT(T:List Int)(a b:Nat)(ys:List Int):List Int:=T.take a++ys++T.drop b
noncomputable def mv(s e m:Int)(adv:Bool)(p:Int):Int:=if e< p∨(p=e∧(s< e∨adv=true)) then p+m-(e-s) else if s< p then min p s else p
theorem mv_ins{s m:Int}{p:Int}:insPos s (s+m) adv p=mv s s m adv p:=by
 delta insPos mv
 by_cases k:s< p∨(p=s∧adv=true)
 ·rw[if_pos k,if_pos (k.imp id fun z=>⟨z.1,.inr z.2⟩),Int.sub_self,Int.sub_zero];rw[Int.add_comm s m,←Int.add_assoc,Int.add_sub_cancel]/-(first|lia|omega)-/
 ·rw[if_neg k,if_neg fun z=>k (z.imp id fun y=>⟨y.1,y.2.elim (fun x=>absurd x (Int.lt_irrefl _)) id⟩),if_neg fun z=>k (.inl z)]
theorem mv_same{s:Int}{p:Int}:mv s s 0 adv p=p:=by
 rw[←mv_ins];delta insPos;split<;>lia
theorem mv_del{s:Int}(h:s≤e){p:Int}:delPos s e p=mv s e 0 adv p:=by
 delta delPos mv
 by_cases k:e< p
 ·rw[if_pos k,if_pos (.inl k),Int.add_zero]
 ·rw[if_neg k]
  by_cases q:s< p
  ·rw[if_pos q]
   by_cases c:p=e∧(s< e∨adv=true)
   ·rw[if_pos (.inr c),Int.add_zero,c.1,Int.sub_sub_self]
   ·rw[if_neg (fun z=>z.elim k c),if_pos q,Int.min_eq_right (Int.le_of_lt q)]
  ·rw[if_neg q]
   by_cases c:p=e∧(s< e∨adv=true)
   ·rw[if_pos (.inr c),Int.add_zero,c.1,Int.sub_sub_self];exact Int.le_antisymm (c.1▸Int.not_lt.mp q) h/-(first|lia|omega)-/
   ·rw[if_neg (fun z=>z.elim k c),if_neg q]
theorem mv_rep{s m:Int}(h:s< e){p:Int}:repPos s e m p=mv s e m adv p:=by
 delta repPos mv
 by_cases k:e≤p
 ·rw[if_pos k,if_pos ((Int.lt_or_eq_of_le k).imp id fun q=>⟨q.symm,.inl h⟩)]/-(first|lia|omega)-/
 ·rw[if_neg k,if_neg (c:=e< p∨(p=e∧(s< e∨adv=true))) fun z=>k (z.elim Int.le_of_lt fun a=>Int.le_of_eq a.1.symm)]
  by_cases q:s< p
  ·rw[if_pos q,if_pos q,Int.min_eq_right (Int.le_of_lt q)]
  ·rw[if_neg q,if_neg q]
theorem edT_len{T:List Int}{a b:Nat}(ha:a≤T.length):(edT T a b ys).length=a+ys.length+(T.length-b):=by
 simp only[edT,List.length_append,List.length_take,List.length_drop,Nat.min_eq_left ha]
theorem edT_nil{T:List Int}{a:Nat}:edT T a a []=T:=by rw[edT,List.append_nil,List.take_append_drop]
theorem cutT_ed{T:List Int}{a b:Nat}:cutT T a b=edT T a b []:=by rw[edT,List.append_nil];rfl
theorem put_cut{T:List Int}{a b:Nat}(ha:a≤T.length):putT (cutT T a b) a ys=edT T a b ys:=by
 have k:(T.take a).length=a:=by rw[List.length_take,Nat.min_eq_left ha]
 delta putT cutT edT;rw[List.take_left' k,List.drop_left' k]
section
variable{A:Ad}{T:List Int}{g:Nat}{a b:Nat}
noncomputable def Bs.ed(σ:Bs)(a b m:Nat)(pt tk ct:Int):Bs:={σ with zv:=σ.zv+m-((b:Int)-a),pt:=pt,tk:=tk,ct:=ct,ms:=σ.ms.map fun p=>(mv (a+1) (b+1) m false p.1,mv (a+1) (b+1) m true p.2)}
noncomputable def EdQ(Q:V→Hp→Prop)(R:Hp)(A:Ad)(σ:Bs)(T:List Int)(G:List Int)(a b:Nat)(ys:List Int):Prop:=
 ∀(v:V) (pt tk ct:Int) (g':Nat) (G':List Int),g'≤(edT T a b ys).length→G'.length≤G.length+(b-a)+4→Q v (upd R A ((σ.ed a b ys.length pt tk ct).re (edT T a b ys) g' G'))
theorem ed_none(h:a=b)(hy:ys=[])(h4:g≤T.length)(q:EdQ Q R A σ T G a b ys)(v:V):Q v (upd R A (σ.re T g G)):=by
 subst h hy
 have q9:=q v σ.pt σ.tk σ.ct g G (by rw[edT_nil];exact h4) (li0 2 [] [_,_] (.nle U0 (.a (.a U0 U1) (.c 4))) rfl)
 rw[edT_nil] at q9
 have e:σ.ed a a ([]:List Int).length σ.pt σ.tk σ.ct=σ:=by
  have e1:(σ.ms.map fun p=>(mv (a+1) (a+1) 0 false p.1,mv (a+1) (a+1) 0 true p.2))=σ.ms:=by
   cases σ.ms with
   |none=>rfl
   |some p=>simp only[Option.map_some,mv_same]
  have e2:σ.zv+((0:Nat):Int)-((a:Int)-a)=σ.zv:=li0 1 [_] [_] (.eq (.s (.a J0 (.n O0)) (.s (.n U0) (.n U0))) J0) rfl
  show({σ with zv:=σ.zv+((0:Nat):Int)-((a:Int)-a),pt:=σ.pt,tk:=σ.tk,ct:=σ.ct,ms:=_}:Bs)=σ
  rw[e2];exact congrArg (fun m=>({σ with ms:=m}:Bs)) e1
 rw[e] at q9;exact q9
theorem sp_insert(t:TX K h0)(hn:10≤n)(ok:A.OK)(om:σ.ms.isSome=true→A.OM)(h4:g≤T.length)(hl:T.length+G.length+ys.length≤4000)(hy:ys.length≤900)(ha:a≤T.length)
  (q:σ.bv≤(a:Int)+1∧(a:Int)+1≤σ.zv→EdQ Q R A σ T G a a ys) (x:¬(σ.bv≤(a:Int)+1∧(a:Int)+1≤σ.zv)→X (upd R A (σ.re T g G))):
  Fn w h0 n 805 [.ref A.b,.int ((a:Int)+1),.lst (ys.map V.int)] (upd R A (σ.re T g G)) Q X:=by
 refine fn_row t (lv0 hn rfl) 64 rfl [some (.ref A.b),some (.int ((a:Int)+1)),some (.lst (ys.map V.int)),some (.bool false)] ⟨bl rfl,bl rfl⟩ (by kernel_rfl) ?_
 delta b_insert_at;simp only[↓s_nil,↓s_expr,↓retV_n,↓e_bool,↓e_var,↓e_call,↓es_n,↓es_c,↓l_0,↓l_s]
 refine fn_row t (lv hn rfl) 63 rfl [some (.ref A.b),some (.int ((a:Int)+1)),some (.lst (ys.map V.int)),some (.bool false),some (.bool false)] args_all (by kernel_rfl) ?_
 have ly:(ys.map V.int).length=ys.length:=List.length_map _
 have ly2:(ys.map V.int).length< 2^60:=li2 2 [] [_,_] (.nle U0 (.c 900)) (.neq U1 U0) (.nlt U1 (.c (2^60))) rfl hy ly
 delta b_put_in;simp only[↓s_expr,↓e_var,↓e_call,↓es_n,↓es_c,↓l_0,↓l_s]
 refine sp_need_writable t (lv2 hn rfl) ?_
 refine sp_reached t (lv2 hn rfl) (Int.le_refl _) (fun hr=>?_) x
 have q:=q hr
 refine s_ite ?_
 simp only[↓e_int,↓e_var,↓e_cmp,↓e_b1,↓l_0,↓l_s,↓p_b,↓c_eq,↓lenP ly2,ly]
 refine dD (fun h=>?_) fun h=>?_
 ·have hy0:ys=[]:=List.length_eq_zero_iff.mp (li1 1 [] [_] (.eq (.n U0) I0) (.neq U0 O0) rfl h)
  simp only[↓s_retN,↓nk_r]
  exact ed_none rfl hy0 h4 q _
 ·simp only[↓s_nil,↓s_expr,↓nk_n,↓e_var,↓e_call,↓e_b1,↓es_n,↓es_c,↓l_0,↓l_s,↓lenP ly2,ly]
  refine sp_need_room t (lv2 hn rfl) ok h4 (li1 3 [] [_,_,_] (.nle (.a (.a U0 U1) U2) (.c 4000)) (.nle (.a U0 U1) (.c 4000)) rfl hl) (li1 1 [] [_] (.nle U0 (.c 900)) (.le (.n U0) (.c 10000)) rfl hy) ?_
  refine sp_tell_ahead t (lv2 hn rfl) ?_
  refine sp_text_in t (lv2 hn rfl) ok h4 hl hy ha fun G' pt hG=>?_
  refine s_ite ?_
  simp only[↓s_nil,↓s_expr,↓nk_n,↓e_int,↓e_var,↓e_bin,↓e_attr,↓e_call,↓e_meth,↓e_b1,↓es_n,↓es_c,↓l_0,↓l_s,↓p_b,↓b_add,↓sF,↓gF u_b (k:=33) rfl rfl,↓gI (u_m ok) (k:=80) rfl,↓lenP ly2,ly]
  refine sp_inserted t ?_ ok ?_ ?_
  ·(exact li3 3 [] [_,_,_] (.sb U0 O2 U1) (.sb U2 O2 U0) (.nle (.c 10) U2) (.nle (.c 4) U1) rfl (ns (n-2) (2)) (ns (n) (2)) hn)
  ·exact om
  refine sp_hung_in t (lv2 hn rfl) ?_
  refine sp_tell_behind t (lv2 hn rfl) fun tk ct=>?_
  have hlen:(edT T a a ys).length=a+ys.length+(T.length-a):=edT_len ha
  have q9:=q .none pt tk ct (a+ys.length) G' (li1 4 [] [_,_,_,_] (.neq U0 (.a (.a U1 U2) U3)) (.nle (.a U1 U2) U0) rfl hlen) (li1 3 [] [_,_,_] (.nle U0 (.a U1 (.c 4))) (.nle U0 (.a (.a U1 U2) (.c 4))) rfl hG)
  unfold Bs.ed at q9
  simp only[←mv_ins] at q9
  have e2:σ.zv+(ys.length:Int)-((a:Int)-a)=σ.zv+ys.length:=li0 2 [_] [_,_] (.eq (.s (.a J0 (.n U0)) (.s (.n U1) (.n U1))) (.a J0 (.n U0))) rfl
  rw[e2] at q9
  exact q9
theorem sp_delete(t:TX K h0)(hn:10≤n)(ok:A.OK)(om:A.OM){p:Int×Int}(hm:σ.ms=some p)(h4:g≤T.length)(hl:T.length+G.length≤4000)(hab:a≤b)(hb:b≤T.length)
  (q:σ.bv≤(a:Int)+1∧(b:Int)+1≤σ.zv→EdQ Q R A σ T G a b []) (x:¬(σ.bv≤(a:Int)+1∧(b:Int)+1≤σ.zv)→X (upd R A (σ.re T g G))):
  Fn w h0 n 812 [.ref A.b,.int ((a:Int)+1),.int ((b:Int)+1)] (upd R A (σ.re T g G)) Q X:=by
 refine fn_row t (lv0 hn rfl) 65 rfl [some (.ref A.b),some (.int ((a:Int)+1)),some (.int ((b:Int)+1)),none,none,none] args_all (by kernel_rfl) ?_
 delta b_delete;simp only[↓s_expr,↓e_var,↓e_call,↓es_n,↓es_c,↓l_0]
 refine sp_need_writable t (lv hn rfl) ?_
 simp only[↓s_setT,↓e_var,↓e_call,↓es_n,↓es_c,↓l_0,↓l_s]
 refine sp_reached t (lv hn rfl) (li1 2 [] [_,_] (.nle U0 U1) (.lt (.n U0) (.a (.n U1) I1)) rfl hab) (fun hr=>?_) x
 have q:=q hr
 refine⟨rfl,?_⟩
 show vcSs _ _ _ _ _ [some (.ref A.b),some (.int ((a:Int)+1)),some (.int ((b:Int)+1)),some (.int ((a:Int)+1)),some (.int ((b:Int)+1)),none] _ _
 refine s_ite ?_
 simp only[↓e_var,↓e_cmp,↓l_0,↓l_s,↓p_b,↓c_eq]
 refine dD (fun h=>?_) fun h=>?_
 ·simp only[↓s_ret,↓nk_r,↓retV_r,↓e_lst,↓es_n,↓ln0]
  exact ed_none (li1 2 [] [_,_] (.eq (.a (.n U0) I1) (.a (.n U1) I1)) (.neq U0 U1) rfl h) rfl h4 q _
 ·simp only[↓s_nil,↓s_expr,↓s_ret,↓nk_n,↓retV_r,↓s_set,↓sl_0,↓sl_s,↓e_var,↓e_bin,↓e_attr,↓e_call,↓e_meth,↓es_n,↓es_c,↓l_0,↓l_s,↓b_sub]
  refine sp_tell_ahead t (lv hn rfl) ?_
  refine sp_text_out t (lv hn rfl) ok h4 hl hab hb fun xs G' pt hG=>?_
  simp only[↓gF u_b (k:=33) rfl rfl,↓gI (u_m ok) (k:=81) rfl]
  refine sp_deleted t ?_ ok om (p:=p) ?_ ?_
  ·(exact li2 2 [] [_,_] (.sb U0 O2 U1) (.nle (.c 10) U0) (.nle (.c 4) U1) rfl (ns (n) (2)) hn)
  ·exact hm
  refine sp_hung_out t (lv hn rfl) ?_
  refine sp_tell_behind t (lv hn rfl) fun tk ct=>?_
  have hlen:(edT T a b []).length=a+([]:List Int).length+(T.length-b):=edT_len (li2 3 [] [_,_,_] (.nle U0 U1) (.nle U1 U2) (.nle U0 U2) rfl hab hb)
  have q9:=q (.lst xs) pt tk ct a G' (by rw[hlen];exact Nat.le_add_right_of_le (Nat.le_refl _)) (li1 3 [] [_,_,_] (.neq U0 (.a U1 U2)) (.nle U0 (.a (.a U1 U2) (.c 4))) rfl hG)
  unfold Bs.ed at q9
  simp only[hm,Option.map_some,List.length_nil,Int.natCast_zero,←mv_del (by(exact li1 2 [] [_,_] (.nle U0 U1) (.lt (.n U0) (.a (.n U1) I1)) rfl hab):(a:Int)+1≤b+1),Int.add_zero,←cutT_ed] at q9
  exact q9
theorem sp_replace(t:TX K h0)(hn:14≤n)(ok:A.OK)(om:A.OM){p:Int×Int}(hm:σ.ms=some p)(h4:g≤T.length)(hl:T.length+G.length+ys.length≤3000)(hy:ys.length≤900)(hab:a≤b)(hb:b≤T.length)(hy0:ys≠[])
  (q:σ.bv≤(a:Int)+1∧(b:Int)+1≤σ.zv→EdQ Q R A σ T G a b ys) (x:¬(σ.bv≤(a:Int)+1∧(b:Int)+1≤σ.zv)→X (upd R A (σ.re T g G))):
  Fn w h0 n 820 [.ref A.b,.int ((a:Int)+1),.int ((b:Int)+1),.lst (ys.map V.int)] (upd R A (σ.re T g G)) Q X:=by
 refine fn_row t (by exact lv0 hn rfl) 66 rfl [some (.ref A.b),some (.int ((a:Int)+1)),some (.int ((b:Int)+1)),some (.lst (ys.map V.int)),some .none,none,none,none,none] ⟨bl rfl,bl rfl⟩ (by kernel_rfl) ?_
 have ly:(ys.map V.int).length=ys.length:=List.length_map _
 have ly2:(ys.map V.int).length< 2^60:=by exact li2 2 [] [_,_] (.nle U0 (.c 900)) (.neq U1 U0) (.nlt U1 (.c (2^60))) rfl hy ly
 have ly3:0< ys.length:=List.length_pos_iff.mpr hy0
 delta b_replace;simp only[↓s_expr,↓e_var,↓e_call,↓es_n,↓es_c,↓l_0]
 refine sp_need_writable t (by exact lv hn rfl) ?_
 simp only[↓s_setT,↓e_var,↓e_call,↓es_n,↓es_c,↓l_0,↓l_s]
 refine sp_reached t (by exact lv hn rfl) (by exact li1 2 [] [_,_] (.nle U0 U1) (.lt (.n U0) (.a (.n U1) I1)) rfl hab) (fun hr=>?_) x
 have q:=q hr
 refine⟨rfl,?_⟩
 show vcSs _ _ _ _ _ [some (.ref A.b),some (.int ((a:Int)+1)),some (.int ((b:Int)+1)),some (.lst (ys.map V.int)),some .none,some (.int ((a:Int)+1)),some (.int ((b:Int)+1)),none,none] _ _
 refine s_ite ?_
 simp only[↓e_var,↓e_cmp,↓l_0,↓l_s,↓p_b,↓c_eq]
 refine dD (fun h=>?_) fun h=>?_
 ·obtain rfl:a=b:=by exact li1 2 [] [_,_] (.eq (.a (.n U0) I1) (.a (.n U1) I1)) (.neq U0 U1) rfl h
  simp only[↓s_expr,↓s_ret,↓nk_r,↓retV_r,↓e_var,↓e_lst,↓e_call,↓es_n,↓es_c,↓l_0,↓l_s,↓ln0]
  refine sp_insert t (by exact lv hn rfl) ok (fun _=>om) h4 (by exact li1 3 [] [_,_,_] (.nle (.a (.a U0 U1) U2) (.c 3000)) (.nle (.a (.a U0 U1) U2) (.c 4000)) rfl hl) hy hb (fun _=>?_) fun hx=>(hx hr).elim
  intro v pt tk ct g' G' h1 h2
  exact q _ pt tk ct g' G' h1 h2
 ·simp only[↓s_nil,↓nk_n]
  refine s_ite ?_
  simp only[↓e_int,↓e_var,↓e_cmp,↓e_b1,↓l_0,↓l_s,↓p_b,↓c_eq,↓lenP ly2,ly,↓dF (by(exact li1 1 [] [_] (.nlt O0 U0) (.no (.eq (.n U0) I0)) rfl ly3):¬(ys.length:Int)=0),↓dF' (by(exact li1 1 [] [_] (.nlt O0 U0) (.no (.eq (.n U0) I0)) rfl ly3):¬(ys.length:Int)=0),↓nF (by(exact li1 1 [] [_] (.nlt O0 U0) (.no (.eq (.n U0) I0)) rfl ly3):¬(ys.length:Int)=0),↓nF' (by(exact li1 1 [] [_] (.nlt O0 U0) (.no (.eq (.n U0) I0)) rfl ly3):¬(ys.length:Int)=0)]
  simp only[↓s_nil,↓s_expr,↓nk_n,↓s_set,↓sl_0,↓sl_s,↓e_var,↓e_bin,↓e_attr,↓e_call,↓e_b1,↓es_n,↓es_c,↓l_0,↓l_s,↓b_sub,↓lenP ly2,ly]
  refine sp_need_room t (by exact lv hn rfl) ok h4 (by exact li1 3 [] [_,_,_] (.nle (.a (.a U0 U1) U2) (.c 3000)) (.nle (.a U0 U1) (.c 4000)) rfl hl) (by exact li2 3 [] [_,_,_] (.nle U0 (.c 900)) (.nle U1 U2) (.le (.s (.n U0) (.s (.a (.n U2) I1) (.a (.n U1) I1))) (.c 10000)) rfl hy hab) ?_
  simp only[↓gF u_b (k:=34) rfl rfl]
  refine sp_tell_ahead t (by exact lv hn rfl) ?_
  refine sp_text_out t (by exact lv hn rfl) ok h4 (by exact li1 3 [] [_,_,_] (.nle (.a (.a U0 U1) U2) (.c 3000)) (.nle (.a U0 U1) (.c 4000)) rfl hl) hab hb fun xs G1 pt hG=>?_
  have lc:(cutT T a b).length=a+(T.length-b):=by rw[cutT,List.length_append,List.length_take,List.length_drop,Nat.min_eq_left (by exact li2 3 [] [_,_,_] (.nle U0 U1) (.nle U1 U2) (.nle U0 U2) rfl hab hb)]
  refine sp_text_in t ?_ ok ?_ ?_ hy ?_ fun G2 pt2 hG2=>?_
  ·(exact li2 2 [] [_,_] (.sb U0 O2 U1) (.nle (.c 14) U0) (.nle (.c 6) U1) rfl (ns (n) (2)) hn)
  ·(exact li1 3 [] [_,_,_] (.neq U0 (.a U1 U2)) (.nle U1 U0) rfl lc)
  ·exact Nat.le_trans (a_sum hab hb lc hG hl) (by decide)/-(first|lia|omega)-/
  ·(exact li1 3 [] [_,_,_] (.neq U0 (.a U1 U2)) (.nle U1 U0) rfl lc)
  have fin:∀pt3,vcSs w h0 (n-2) (fun x H'=>X H') (.cons (.expr (.meth (.attr (.var 0) 33) 599 82 596 (.cons (.var 5) (.cons (.var 6) (.cons (.b1 .len (.var 3)) .nil)))))
   (.cons (.expr (.call 790 "hung_in" (.cons (.var 0) (.cons (.var 6) (.cons (.b1 .len (.var 3)) (.cons (.bool true) .nil))))))
   (.cons (.expr (.call 783 "hung_out" (.cons (.var 0) (.cons (.var 5) (.cons (.var 6) .nil)))))
   (.cons (.ite (.cmp .IsNot (.var 4) .none) (.cons .stop
   .nil) .nil)
   (.cons (.expr (.call 762 "tell_behind" (.cons (.var 0) (.cons (.var 5) (.cons (.bin .Add (.var 5) (.b1 .len (.var 3))) (.cons (.bin .Sub (.var 6) (.var 5)) .nil))))))
   (.cons (.ret (.var 8))
   .nil)))))) [some (.ref A.b),some (.int ((a:Int)+1)),some (.int ((b:Int)+1)),some (.lst (ys.map V.int)),some .none,some (.int ((a:Int)+1)),some (.int ((b:Int)+1)),some (.int σ.pt),some (.lst xs)]
   (upd R A (({σ with zv:=σ.zv-((b:Int)-a)+ys.length,pt:=pt3}:Bs).re (putT (cutT T a b) a ys) (a+ys.length) G2)) (fun fl x H'=>Q (retV fl) H'):=by
   intro pt3
   simp only[↓s_expr,↓e_bool,↓e_var,↓e_attr,↓e_call,↓e_meth,↓e_b1,↓es_n,↓es_c,↓l_0,↓l_s,↓gF u_b (k:=33) rfl rfl,↓gI (u_m ok) (k:=82) rfl,↓lenP ly2,ly]
   refine sp_replaced t ?_ ok om (p:=p) ?_ ?_
   ·(exact li2 2 [] [_,_] (.sb U0 O2 U1) (.nle (.c 14) U0) (.nle (.c 4) U1) rfl (ns (n) (2)) hn)
   ·exact hm
   refine sp_hung_in t (by exact lv hn rfl) ?_
   refine sp_hung_out t (by exact lv hn rfl) ?_
   refine s_ite ?_
   simp only[↓s_nil,↓s_expr,↓s_ret,↓nk_n,↓retV_r,↓e_none,↓e_var,↓e_bin,↓e_cmp,↓e_call,↓e_b1,↓es_n,↓es_c,↓l_0,↓l_s,↓p_b,↓b_add,↓b_sub,↓c_inn,↓sF,↓lenP ly2,ly]
   refine sp_tell_behind t (by exact lv hn rfl) fun tk ct=>?_
   have hlen:(edT T a b ys).length=a+ys.length+(T.length-b):=edT_len (by exact li2 3 [] [_,_,_] (.nle U0 U1) (.nle U1 U2) (.nle U0 U2) rfl hab hb)
   have q9:=q (.lst xs) pt3 tk ct (a+ys.length) G2 (by exact li1 4 [] [_,_,_,_] (.neq U0 (.a (.a U1 U2) U3)) (.nle (.a U1 U2) U0) rfl hlen) (by exact li2 4 [] [_,_,_,_] (.neq U0 (.a U1 U2)) (.nle U3 (.a U0 (.c 4))) (.nle U3 (.a (.a U1 U2) (.c 4))) rfl hG hG2)
   unfold Bs.ed at q9
   have e2:σ.zv+(ys.length:Int)-((b:Int)-a)=σ.zv-((b:Int)-a)+ys.length:=by exact li0 3 [_] [_,_,_] (.eq (.s (.a J0 (.n U0)) (.s (.n U1) (.n U2))) (.a (.s J0 (.s (.n U1) (.n U2))) (.n U0))) rfl
   simp only[hm,Option.map_some,←mv_rep (by(exact li2 2 [] [_,_] (.nle U0 U1) (.no (.eq (.a (.n U0) I1) (.a (.n U1) I1))) (.lt (.a (.n U0) I1) (.a (.n U1) I1)) rfl hab h):(a:Int)+1< b+1),e2,←put_cut (by(exact li2 3 [] [_,_,_] (.nle U0 U1) (.nle U1 U2) (.nle U0 U2) rfl hab hb):a≤T.length)] at q9
   exact q9
  refine s_ite ?_
  simp only[↓e_var,↓e_cmp,↓l_0,↓l_s,↓p_b,↓c_ge]
  refine dD (fun h3=>?_) fun h3=>fin _
  simp only[↓s_setA,↓s_nil,↓nk_n,↓e_var,↓e_bin,↓e_b1,↓l_0,↓l_s,↓b_add,↓b_sub,↓lenP ly2,ly,↓wB34]
  exact fin _
end
noncomputable def cd(T:List Int)(p:Int):Int:=(T[(p-1).toNat]?).getD 0
noncomputable def cda(T:List Int)(lo hi p:Int):Int:=if lo≤p∧p< hi then cd T p else-1
structure Vw(H:Hp)(v:Addr)(T:List Int)(lo hi:Int):Prop where
 ex:∃A σ g G dv,H v=some (.inst 180 dv [(0,.lst []),(1,.int 1),(2,.ref A.b)])∧BufAt H A σ∧Good σ T g G∧σ.bv=lo∧σ.zv=hi
 l1:1≤lo
 l2:lo≤hi
 l3:hi≤T.length+1
 l4:T.length≤10000
theorem cd_at{T:List Int}{p:Int}(h1:1≤p)(h2:p≤T.length):T[(p-1).toNat]? =some (cd T p):=by
 delta cd;rw[List.getElem?_eq_getElem (by exact li3 2 [_] [_,_] (.tn (.s J0 I1) U0) (.le I1 J0) (.le J0 (.n U1)) (.nlt U0 U1) rfl (tn (p-1)) h1 h2)];rfl
theorem BufAt.sub{A:Ad}(B:BufAt H A σ)(s:Sub H H'):BufAt H' A σ:=⟨s _ _ B.b,s _ _ B.t,s _ _ B.c⟩
theorem Vw.sub{v:Addr}{T:List Int}(V:Vw H v T lo hi)(s:Sub H H'):Vw H' v T lo hi:=by
 refine bc fun ng=>?_
 obtain⟨⟨A,σ,g,G,dv,hv,B,r⟩,l1,l2,l3,l4⟩:=V
 refine ng ?_
 exact⟨⟨A,σ,g,G,dv,s _ _ hv,B.sub s,r⟩,l1,l2,l3,l4⟩
theorem Sub.refl(H:Hp):Sub H H:=fun _ _ e=>e
theorem Sub.trans{H'':Hp}(a:Sub H H')(b:Sub H' H''):Sub H H'':=fun x o e=>b x o (a x o e)
theorem Sub.new(s:Sub H H')(h:H a=none):Sub H (H'.set a o):=fun b o' e=>by
 rw[Hp.set_ne _ _ (by rintro rfl;rw[h] at e;exact nope1 e)];exact s _ _ e
section
variable{v:Addr}{T:List Int}{p:Int}
theorem sp_vbegin(t:TX K h0)(hn:4≤n)(V:Vw H v T lo hi)(q:Q (.int lo) H):Fn w h0 n 163 [.ref v] H Q X:=by
 refine bc fun ng=>?_
 obtain⟨⟨A,σ,g,G,dv,hv,B,gd,rfl,rfl⟩,l1,l2,l3⟩:=V
 refine ng ?_
 refine fn_row t (lv0 hn rfl) 10 rfl [some (.ref v)] args_all (by kernel_rfl) ?_
 delta b_TextView_begin;simp only[↓s_ret,↓retV_r,↓e_var,↓e_attr,↓e_meth,↓es_n,↓l_0,↓gF hv (k:=2) rfl rfl,↓gI B.b (k:=59) rfl]
 refine fn_row t (lv hn rfl) 47 rfl [some (.ref A.b)] args_all (by kernel_rfl) ?_
 delta b_Buffer_begin;simp only[↓s_ret,↓retV_r,↓e_var,↓e_attr,↓l_0,↓gF B.b (k:=35) rfl rfl]
 exact q
theorem sp_vend(t:TX K h0)(hn:4≤n)(V:Vw H v T lo hi)(q:Q (.int hi) H):Fn w h0 n 170 [.ref v] H Q X:=by
 refine bc fun ng=>?_
 obtain⟨⟨A,σ,g,G,dv,hv,B,gd,rfl,rfl⟩,l1,l2,l3⟩:=V
 refine ng ?_
 refine fn_row t (lv0 hn rfl) 11 rfl [some (.ref v)] args_all (by kernel_rfl) ?_
 delta b_TextView_end;simp only[↓s_ret,↓retV_r,↓e_var,↓e_attr,↓e_meth,↓es_n,↓l_0,↓gF hv (k:=2) rfl rfl,↓gI B.b (k:=18) rfl]
 refine fn_row t (lv hn rfl) 48 rfl [some (.ref A.b)] args_all (by kernel_rfl) ?_
 delta b_Buffer_end;simp only[↓s_ret,↓retV_r,↓e_var,↓e_attr,↓l_0,↓gF B.b (k:=36) rfl rfl]
 exact q
theorem sp_vcode(t:TX K h0)(hn:6≤n)(V:Vw H v T lo hi)(q:Q (.int (cda T lo hi p)) H):Fn w h0 n 177 [.ref v,.int p] H Q X:=by
 refine bc fun ng=>?_
 obtain⟨⟨A,σ,g,G,dv,hv,B,gd,rfl,rfl⟩,l1,l2,l3,l4⟩:=V
 refine ng ?_
 refine fn_row t (by exact lv0 hn rfl) 12 rfl [some (.ref v),some (.int p)] args_all (by kernel_rfl) ?_
 delta b_TextView_code_at;simp only[↓s_ret,↓retV_r,↓e_var,↓e_attr,↓e_meth,↓es_n,↓es_c,↓l_0,↓l_s,↓gF hv (k:=2) rfl rfl,↓gI B.b (k:=60) rfl]
 refine fn_row t (by exact lv hn rfl) 50 rfl [some (.ref A.b),some (.int p)] args_all (by kernel_rfl) ?_
 delta b_Buffer_code_at
 refine s_ite ?_
 simp only[↓e_var,↓e_cmp,↓e_or,↓e_attr,↓l_0,↓l_s,↓p_b,↓c_lt,↓sT,↓gF B.b (k:=35) rfl rfl]
 have no:(p< σ.bv∨σ.zv≤p)→Q (.int (-1)) H:=fun h=>by
  delta cda at q;rw[if_neg (by exact li1 3 [_,_,_] [] (.or (.lt J0 J1) (.le J2 J0)) (.no (.and (.le J1 J0) (.lt J0 J2))) rfl h)] at q;exact q
 refine⟨fun h=>?_,fun h=>?_⟩
 ·have h:=of_decide_eq_false h
  simp only[↓c_ge,↓gF B.b (k:=36) rfl rfl]
  refine dD (fun h'=>?_) fun h'=>?_
  ·simp only[↓s_ret,↓nk_r,↓retV_r,↓e_int,↓e_neg,↓n_i];exact no (.inr h')
  ·simp only[↓s_nil,↓s_ret,↓nk_n,↓retV_r,↓e_int,↓e_var,↓e_bin,↓e_attr,↓e_meth,↓es_n,↓es_c,↓l_0,↓l_s,↓b_sub,↓gF B.b (k:=2) rfl rfl,↓gI B.t (k:=72) rfl]
   refine sp_code t (by exact lv2 hn rfl) B gd (Int.sub_nonneg_of_le (Int.le_trans l1 (Int.not_lt.mp h)))/-(first|lia|omega)-/(cd_at (Int.le_trans l1 (Int.not_lt.mp h))/-(first|lia|omega)-/(by exact li2 2 [_,_] [_] (.le J0 (.a (.n U0) I1)) (.no (.le J0 J1)) (.le J1 (.n U0)) rfl l3 h')) ?_
   delta cda at q;rw[if_pos ⟨Int.not_lt.mp h/-(first|lia|omega)-/,by exact li1 2 [_,_] [] (.no (.le J0 J1)) (.lt J1 J0) rfl h'⟩] at q;exact q
 ·have h:=of_decide_eq_true h
  simp only[↓s_ret,↓nk_r,↓retV_r,↓e_int,↓e_neg,↓n_i];exact no (.inl h)
theorem sp_hidden(t:TX K h0)(hn:2≤n){x:V}(q:Q (.int 0) H):Fn w h0 n 121 [x,y] H Q X:=by
 refine fn_row t (lv0 hn rfl) 6 rfl [some x,some y] args_all (by kernel_rfl) ?_
 delta b_View_hidden_at;simp only[↓s_ret,↓retV_r,↓e_glob];exact q
theorem sp_shown(t:TX K h0)(hn:2≤n){x:V}(q:Q .none H):Fn w h0 n 128 [x,y] H Q X:=by
 refine fn_row t (lv0 hn rfl) 7 rfl [some x,some y] args_all (by kernel_rfl) ?_
 delta b_View_shown_at;simp only[↓s_ret,↓retV_r,↓e_none];exact q
theorem sp_faces(t:TX K h0)(hn:2≤n){x:V}(q:Q (.tup []) H):Fn w h0 n 114 [x,y] H Q X:=by
 refine fn_row t (lv0 hn rfl) 5 rfl [some x,some y] args_all (by kernel_rfl) ?_
 delta b_View_faces_at;simp only[↓s_ret,↓retV_r,↓e_tup,↓es_n,↓ln0];exact q
theorem sp_strings(t:TX K h0)(hn:2≤n){x:V}(q:Q (.tup []) H):Fn w h0 n 135 [x,y] H Q X:=by
 refine fn_row t (lv0 hn rfl) 8 rfl [some x,some y] args_all (by kernel_rfl) ?_
 delta b_View_strings_at;simp only[↓s_ret,↓retV_r,↓e_tup,↓es_n,↓ln0];exact q
theorem sp_is_break(t:TX K h0)(hn:8≤n)(V:Vw H v T lo hi)(q:Q (.bool (decide (cda T lo hi p=10))) H):Fn w h0 n 210 [.ref v,.int p] H Q X:=by
 have V':=V
 refine bc fun ng=>?_
 obtain⟨⟨A,σ,g,G,dv,hv,B,gd,_,_⟩,_⟩:=V'
 refine ng ?_
 refine fn_row t (lv0 hn rfl) 14 rfl [some (.ref v),some (.int p)] args_all (by kernel_rfl) ?_
 delta b_is_break;simp only[↓s_ret,↓retV_r,↓e_none,↓e_glob,↓e_var,↓e_cmp,↓e_and,↓e_meth,↓es_n,↓es_c,↓l_0,↓l_s,↓p_b,↓gI hv (k:=60) rfl]
 refine sp_vcode t (lv hn rfl) V ?_
 simp only[↓c_eq,↓gI hv (k:=62) rfl]
 refine dD (fun h=>?_) fun h=>?_
 ·refine sp_hidden t (lv hn rfl) ?_
  simp only[↓c_eq,↓dT (rfl:(0:Int)=0),↓dT' (rfl:(0:Int)=0),↓nT (rfl:(0:Int)=0),↓nT' (rfl:(0:Int)=0),↓gI hv (k:=63) rfl]
  refine sp_shown t (lv hn rfl) ?_
  simp only[↓c_isn]
  rw[decide_eq_true h] at q;exact q
 ·rw[decide_eq_false h] at q;exact q
structure IsLB(T:List Int)(lo p b:Int):Prop where
 h1:lo≤b
 h2:b≤p
 h3:b=lo∨cd T (b-1)=10
 h4:∀q,b≤q→q< p→cd T q≠10
theorem IsLB.uniq{T:List Int}{p b b':Int}(x:IsLB T lo p b)(y:IsLB T lo p b'):b=b':=by
 refine bc fun ng=>?_
 obtain⟨x1,x2,x3,x4⟩:=x
 obtain⟨y1,y2,y3,y4⟩:=y
 refine ng ?_
 have k1:¬b< b':=fun h=>by
  rcases y3 with y3|y3
  ·(exact li3 3 [_,_,_] [] (.le J0 J1) (.lt J1 J2) (.eq J2 J0) .ff rfl x1 h y3)
  ·exact x4 (b'-1) (li1 2 [_,_] [] (.lt J0 J1) (.le J0 (.s J1 I1)) rfl h) (li1 2 [_,_] [] (.le J0 J1) (.lt (.s J0 I1) J1) rfl y2) y3
 have k2:¬b'< b:=fun h=>by
  rcases x3 with x3|x3
  ·(exact li3 3 [_,_,_] [] (.le J0 J1) (.lt J1 J2) (.eq J2 J0) .ff rfl y1 h x3)
  ·exact y4 (b-1) (li1 2 [_,_] [] (.lt J0 J1) (.le J0 (.s J1 I1)) rfl h) (li1 2 [_,_] [] (.le J0 J1) (.lt (.s J0 I1) J1) rfl x2) x3
 (exact li2 2 [_,_] [] (.no (.lt J0 J1)) (.no (.lt J1 J0)) (.eq J0 J1) rfl k1 k2)
theorem sp_line_begin(t:TX K h0)(hn:10≤n)(V:Vw H v T lo hi)(h1:lo≤p)(h2:p≤hi)(q:∀b,IsLB T lo p b→Q (.int b) H):Fn w h0 n 920 [.ref v,.int p] H Q X:=by
 have V':=V
 refine bc fun ng=>?_
 obtain⟨⟨A,σ,g,G,dv,hv,B,gd,_,_⟩,_⟩:=V'
 refine ng ?_
 refine fn_row t (lv0 hn rfl) 73 rfl [some (.ref v),some (.int p)] args_all (by kernel_rfl) ?_
 delta b_line_begin
 refine s_whlI (m:=(p-lo).toNat) (fun m l H'=>∃b,l=[some (.ref v),some (.int b)]∧H'=H∧m=(b-lo).toNat∧lo≤b∧b≤p∧∀q,b≤q→q< p→cd T q≠10) ⟨p,rfl,rfl,rfl,h1,Int.le_refl _,fun q a b=>absurd a (li1 2 [_,_] [] (.lt J0 J1) (.no (.le J1 J0)) rfl b)⟩ ?_
 rintro m l H' K' ⟨b,rfl,rfl,rfl,b1,b2,b3⟩ kn kr
 simp only[↓s_nil,↓s_ret,↓retV_r,↓s_set,↓sl_0,↓sl_s,↓e_int,↓e_var,↓e_not,↓e_bin,↓e_cmp,↓e_and,↓e_call,↓e_meth,↓es_n,↓es_c,↓l_0,↓l_s,↓p_b,↓b_sub,↓sF,↓gI hv (k:=59) rfl]
 refine sp_vbegin t (lv hn rfl) V ?_
 simp only[↓c_gt]
 refine dD (fun h=>?_) fun h=>?_
 ·refine sp_is_break t (lv hn rfl) V ?_
  simp only[↓p_b,↓n_b]
  have e:cda T lo hi (b-1)=cd T (b-1):=if_pos ⟨by exact li1 2 [_,_] [] (.lt J0 J1) (.le J0 (.s J1 I1)) rfl h,by exact li2 3 [_,_,_] [] (.le J0 J1) (.le J2 J0) (.lt (.s J2 I1) J1) rfl h2 b2⟩
  rw[e]
  refine dN (fun h'=>?_) fun h'=>?_
  ·refine kn (b-1-lo).toNat _ _ (li3 2 [_,_] [_,_] (.tn (.s (.s J0 I1) J1) U0) (.tn (.s J0 J1) U1) (.lt J1 J0) (.nlt U0 U1) rfl (tn (b-1-lo)) (tn (b-lo)) h) ⟨b-1,rfl,rfl,rfl,by exact li1 2 [_,_] [] (.lt J0 J1) (.le J0 (.s J1 I1)) rfl h,by exact li1 2 [_,_] [] (.le J0 J1) (.le (.s J0 I1) J1) rfl b2,fun q a c=>?_⟩
   by_cases k:q=b-1
   ·rw[k];exact h'
   ·exact b3 q (li2 2 [_,_] [] (.le (.s J0 I1) J1) (.no (.eq J1 (.s J0 I1))) (.le J0 J1) rfl a k) c
  ·exact q b ⟨b1,b2,.inr h',b3⟩
 ·exact q b ⟨b1,b2,.inl (li2 2 [_,_] [] (.le J0 J1) (.no (.lt J0 J1)) (.eq J1 J0) rfl b1 h),b3⟩
end
noncomputable def OKc(c:Int):Prop:=c=97∨c=98∨c=10∨c=32∨c=1
noncomputable def opFs(cut:Bool):List (Nat×V):=[(3,.int 4),(4,.bool true),(5,.bool cut),(6,.bool false),(7,.int 0)]
structure WE(H:Hp)(v ft op:Addr)(T:List Int)(lo hi:Int)(cut:Bool):Prop where
 vw:Vw H v T lo hi
 f:∃d fs,H ft=some (.inst 888 d fs)∧look 85 fs=none
 o:∃d,H op=some (.inst 39 d (opFs cut))
 c:∀x∈T,OKc x
theorem WE.sub{v op:Addr}{T:List Int}{cut:Bool}(E:WE H v ft op T lo hi cut)(s:Sub H H'):WE H' v ft op T lo hi cut:=
 ⟨E.vw.sub s,let⟨d,fs,a,b⟩:=E.f;⟨d,fs,s _ _ a,b⟩,let⟨d,a⟩:=E.o;⟨d,s _ _ a⟩,E.c⟩
theorem set_set:(H.set a o).set a o'=H.set a o':=by
 funext b;delta Hp.set;by_cases h:b=a
 ·rw[if_pos h,if_pos h]
 ·rw[if_neg h,if_neg h,if_neg h]
theorem set_comm(h:a≠b):(H.set a o).set b o'=(H.set b o').set a o:=by
 funext c;delta Hp.set;by_cases h1:c=b
 ·rw[if_pos h1,if_neg (by rintro rfl;exact h h1),if_pos h1]
 ·rw[if_neg h1,if_neg h1]
theorem pN{Q:Hp→Prop}(hl:fs.length≤900)(hg:setF k y fs=gs):putF (H.set a (.inst C dx fs)) k (.ref a) y Q=Q (H.set a (.inst C dx gs)):=
 (pF (H.set_self _ _) hl hg).trans (by rw[set_set])
theorem frz_new(h:H a=none)(q:Q (.obj C fs) H):Frz (.ref a) (H.set a (.inst C dx fs)) Q:=by
 refine⟨.obj C fs,H,fun b=>if b=a then some (.inst C dx fs) else none,fun b o e=>?_,fun b o e=>?_,.obj (if_pos rfl) (fun _=>rfl) (fun k x y e1 e2=>?_),q⟩
 ·rw[Hp.set_ne _ _ (by rintro rfl;rw[h] at e;exact nope1 e)];exact e
 ·by_cases hb:b=a
  ·subst hb;simp only[if_pos] at e;rw[Hp.set_self];exact⟨e,h⟩
  ·simp only[if_neg hb] at e;exact nope1 e
 ·rw[e1] at e2;obtain rfl:=sj e2;exact .same _
theorem frz_lst(h:H a=none)(q:Q (.lst xs) H):Frz (.ref a) (H.set a (.list xs)) Q:=by
 refine⟨.lst xs,H,fun b=>if b=a then some (.list xs) else none,fun b o e=>?_,fun b o e=>?_,.lst (if_pos rfl) rfl (fun i x y e1 e2=>?_),q⟩
 ·rw[Hp.set_ne _ _ (by rintro rfl;rw[h] at e;exact nope1 e)];exact e
 ·by_cases hb:b=a
  ·subst hb;simp only[if_pos] at e;rw[Hp.set_self];exact⟨e,h⟩
  ·simp only[if_neg hb] at e;exact nope1 e
 ·rw[e1] at e2;obtain rfl:=sj e2;exact .same _
theorem nbT{A:Prop}:(((!true)=true→A)∧((!true)=false→B))=B:=sF
noncomputable def cc(c:Int):List Int:=if c=1 then[94,65] else[c]
noncomputable def sgO(rows:List V)(after reach:Int):V:=.obj 199 [(8,.lst rows),(9,.int after),(10,.int reach)]
noncomputable def sgT(T:List Int)(p:Int):V:=.tup [.int (cd T p),.int 0,.int p]
noncomputable def rws(T:List Int)(hi p:Int):List V:=if p< hi then[sgT T p] else[]
noncomputable def aft(hi p:Int):Int:=if p< hi then p+1 else p
noncomputable def sgV(T:List Int)(hi p:Int):V:=sgO (rws T hi p) (aft hi p) (p+1)
section
variable{v op:Addr}{T:List Int}{p c:Int}{cut:Bool}
theorem sp_is_control(t:TX K h0)(hn:2≤n)(hc:OKc c)(h10:c≠10)(q:Q (.bool (decide (c=1))) H):Fn w h0 n 50 [.int c] H Q X:=by
 refine fn_row t hn 1 rfl [some (.int c)] args_all (by kernel_rfl) ?_
 delta b_is_control
 delta OKc at hc
 by_cases h:c=1
 ·simp only[↓s_ret,↓retV_r,↓e_int,↓e_glob,↓e_var,↓e_cmp,↓e_cmp2,↓e_and,↓e_or,↓l_0,↓p_b,↓c_ne,↓c_lt,↓c_le,↓dT (by(exact li1 1 [_] [] (.eq J0 I1) (.le I0 J0) rfl h):(0:Int)≤c),↓dT' (by(exact li1 1 [_] [] (.eq J0 I1) (.le I0 J0) rfl h):(0:Int)≤c),↓nT (by(exact li1 1 [_] [] (.eq J0 I1) (.le I0 J0) rfl h):(0:Int)≤c),↓nT' (by(exact li1 1 [_] [] (.eq J0 I1) (.le I0 J0) rfl h):(0:Int)≤c),↓dT (by(exact li1 1 [_] [] (.eq J0 I1) (.lt J0 (.c 32)) rfl h):c< 32),↓dT' (by(exact li1 1 [_] [] (.eq J0 I1) (.lt J0 (.c 32)) rfl h):c< 32),↓nT (by(exact li1 1 [_] [] (.eq J0 I1) (.lt J0 (.c 32)) rfl h):c< 32),↓nT' (by(exact li1 1 [_] [] (.eq J0 I1) (.lt J0 (.c 32)) rfl h):c< 32),↓dF h10,↓dF' h10,↓nF h10,↓nF' h10,↓dF (by(exact li1 1 [_] [] (.eq J0 I1) (.no (.eq J0 (.c 9))) rfl h):¬c=9),↓dF' (by(exact li1 1 [_] [] (.eq J0 I1) (.no (.eq J0 (.c 9))) rfl h):¬c=9),↓nF (by(exact li1 1 [_] [] (.eq J0 I1) (.no (.eq J0 (.c 9))) rfl h):¬c=9),↓nF' (by(exact li1 1 [_] [] (.eq J0 I1) (.no (.eq J0 (.c 9))) rfl h):¬c=9)]
  rw[decide_eq_true h] at q;exact q
 ·simp only[↓s_ret,↓retV_r,↓e_int,↓e_glob,↓e_var,↓e_cmp,↓e_cmp2,↓e_and,↓e_or,↓l_0,↓p_b,↓c_eq,↓c_lt,↓c_le,↓sF',↓dT (by(exact li1 1 [_] [] (.ok5 J0) (.le I0 J0) rfl hc):(0:Int)≤c),↓dT' (by(exact li1 1 [_] [] (.ok5 J0) (.le I0 J0) rfl hc):(0:Int)≤c),↓nT (by(exact li1 1 [_] [] (.ok5 J0) (.le I0 J0) rfl hc):(0:Int)≤c),↓nT' (by(exact li1 1 [_] [] (.ok5 J0) (.le I0 J0) rfl hc):(0:Int)≤c),↓dF (by(exact li3 1 [_] [] (.ok5 J0) (.no (.eq J0 (.c 10))) (.no (.eq J0 I1)) (.no (.lt J0 (.c 32))) rfl hc h10 h):¬c< 32),↓dF' (by(exact li3 1 [_] [] (.ok5 J0) (.no (.eq J0 (.c 10))) (.no (.eq J0 I1)) (.no (.lt J0 (.c 32))) rfl hc h10 h):¬c< 32),↓nF (by(exact li3 1 [_] [] (.ok5 J0) (.no (.eq J0 (.c 10))) (.no (.eq J0 I1)) (.no (.lt J0 (.c 32))) rfl hc h10 h):¬c< 32),↓nF' (by(exact li3 1 [_] [] (.ok5 J0) (.no (.eq J0 (.c 10))) (.no (.eq J0 I1)) (.no (.lt J0 (.c 32))) rfl hc h10 h):¬c< 32)]
  rw[decide_eq_false h] at q;rw[decide_eq_false (by(exact li1 1 [_] [] (.ok5 J0) (.no (.eq J0 (.c 127))) rfl hc):¬c=127)];exact q
theorem sp_is_raw(t:TX K h0)(hn:2≤n)(hc:OKc c)(q:Q (.bool false) H):Fn w h0 n 57 [.int c] H Q X:=by
 refine fn_row t hn 2 rfl [some (.int c)] args_all (by kernel_rfl) ?_
 delta OKc at hc
 delta b_is_raw;simp only[↓s_ret,↓retV_r,↓e_int,↓e_var,↓e_cmp2,↓l_0,↓c_le,↓dF (by(exact li1 1 [_] [] (.ok5 J0) (.no (.le (.c 128) J0)) rfl hc):¬128≤c),↓dF' (by(exact li1 1 [_] [] (.ok5 J0) (.no (.le (.c 128) J0)) rfl hc):¬128≤c),↓nF (by(exact li1 1 [_] [] (.ok5 J0) (.no (.le (.c 128) J0)) rfl hc):¬128≤c),↓nF' (by(exact li1 1 [_] [] (.ok5 J0) (.no (.le (.c 128) J0)) rfl hc):¬128≤c)]
 exact q
theorem sp_shown_codes(t:TX K h0)(hn:4≤n)(hc:OKc c)(h10:c≠10)(E:WE H v ft op T lo hi cut)(q:Q (.lst ((cc c).map V.int)) H):Fn w h0 n 71 [.int c,y,.ref op] H Q X:=by
 refine bc fun ng=>?_
 refine xe1 (E.o) ?_
 rintro dop ho
 refine ng ?_
 refine fn_row t (lv0 hn rfl) 3 rfl [some (.int c),some y,some (.ref op)] args_all (by kernel_rfl) ?_
 have h9:¬c=9:=by delta OKc at hc;(exact li1 1 [_] [] (.ok5 J0) (.no (.eq J0 (.c 9))) rfl hc)
 delta b_shown_codes
 refine s_ite ?_
 simp only[↓s_nil,↓nk_n,↓e_glob,↓e_var,↓e_cmp,↓l_0,↓p_b,↓c_eq,↓dF h10,↓dF' h10,↓nF h10,↓nF' h10]
 refine s_ite ?_
 simp only[↓s_nil,↓nk_n,↓e_glob,↓e_var,↓e_cmp,↓l_0,↓p_b,↓c_eq,↓dF h9,↓dF' h9,↓nF h9,↓nF' h9]
 refine s_ite ?_
 simp only[↓e_var,↓e_not,↓e_and,↓e_or,↓e_attr,↓e_call,↓es_n,↓es_c,↓l_0,↓l_s,↓p_b,↓sT,↓sF]
 refine sp_is_raw t (lv hn rfl) hc ?_
 simp only[↓p_b,↓sF']
 refine sp_is_control t (lv hn rfl) hc h10 ?_
 simp only[↓p_b,↓n_b,↓gF ho (k:=4) rfl rfl]
 refine dD (fun h1=>?_) fun h1=>?_
 ·simp only[↓nbT,↓s_nil,↓nk_n]
  refine s_ite ?_
  simp only[↓e_var,↓e_call,↓es_n,↓es_c,↓l_0]
  refine sp_is_control t (lv hn rfl) hc h10 ?_
  simp only[↓s_ret,↓nk_r,↓retV_r,↓e_int,↓e_glob,↓e_var,↓e_bin,↓e_cmp,↓e_ite,↓e_lst,↓es_n,↓es_c,↓l_0,↓p_b,↓b_add,↓c_eq,↓ln2,↓dT h1,↓dT' h1,↓nT h1,↓nT' h1,↓dF (by(exact li1 1 [_] [] (.eq J0 I1) (.no (.eq J0 (.c 127))) rfl h1):¬c=127),↓dF' (by(exact li1 1 [_] [] (.eq J0 I1) (.no (.eq J0 (.c 127))) rfl h1):¬c=127),↓nF (by(exact li1 1 [_] [] (.eq J0 I1) (.no (.eq J0 (.c 127))) rfl h1):¬c=127),↓nF' (by(exact li1 1 [_] [] (.eq J0 I1) (.no (.eq J0 (.c 127))) rfl h1):¬c=127)]
  rw[cc,if_pos h1] at q;subst h1;exact q
 ·simp only[↓s_nil,↓nk_n]
  refine s_ite ?_
  simp only[↓e_var,↓e_call,↓es_n,↓es_c,↓l_0]
  refine sp_is_control t (lv hn rfl) hc h10 ?_
  simp only[↓s_nil,↓s_ret,↓nk_n,↓retV_r,↓e_var,↓e_lst,↓es_n,↓es_c,↓l_0,↓p_b,↓ln1,↓dF h1,↓dF' h1,↓nF h1,↓nF' h1]
  rw[cc,if_neg h1] at q;exact q
theorem sp_number_of(t:TX K h0)(hn:2≤n)(q:Q (.int 0) H):Fn w h0 n 878 [.ref ft,.tup []] H Q X:=by
 refine fn_row t hn 69 rfl [some (.ref ft),some (.tup []),none] args_all (by kernel_rfl) ?_
 delta b_FaceTable_number_of
 refine s_ite ?_
 simp only[↓e_var,↓e_tup,↓es_n,↓l_0,↓l_s,↓p_b,↓ln0,↓e_cmpDe]
 refine⟨.tuple [],.tuple [],rfl,rfl,rfl,rfl,fun p h=>?_⟩
 rw[h.mpr rfl]
 simp only[↓s_ret,↓nk_r,↓retV_r,↓e_int,↓sT]
 exact q
theorem sp_string_signs(t:TX K h0)(hn:4≤n)(E:WE H v ft op T lo hi cut)(q:Q (.lst []) H):Fn w h0 n 222 [.ref v,.ref ft,.int p] H Q X:=by
 refine bc fun ng=>?_
 refine xe5 (E.vw.ex) ?_
 intro A σ g G dv qz195
 refine xa5 qz195 ?_
 clear qz195
 rintro hv B gd _ _
 refine ng ?_
 refine fn_row t (lv0 hn rfl) 15 rfl [some (.ref v),some (.ref ft),some (.int p),none,none,none,none] args_all (by kernel_rfl) ?_
 delta b_string_signs;simp only[↓s_set,↓sl_0,↓sl_s,↓e_lst,↓es_n,↓ln0]
 refine s_for ?_
 simp only[↓e_none,↓e_var,↓e_meth,↓es_n,↓es_c,↓l_0,↓l_s,↓gI hv (k:=64) rfl]
 refine sp_strings t (lv hn rfl) ?_
 simp only[↓it_t]
 refine⟨Nat.zero_le _,?_⟩
 exact q
theorem sp_Signs(t:TX K h0)(hn:2≤n){af re:Int}(q:Q .none (H.set a (.inst 199 dx [(8,.lst rows),(9,.int af),(10,.int re)]))):Fn w h0 n 196 [.ref a,.lst rows,.int af,.int re] (H.set a (.inst 199 dx [])) Q X:=by
 refine fn_row t (lv0 hn rfl) 13 rfl [some (.ref a),some (.lst rows),some (.int af),some (.int re)] args_all (by kernel_rfl) ?_
 delta b_Signs_init;simp only[↓s_nil,↓s_setA,↓retV_n,↓e_var,↓l_0,↓l_s,↓pN (H:=H) (a:=a) (k:=8) (y:=.lst rows) (fs:=[]) (gs:=[(8,.lst rows)]) (bl rfl) rfl,↓pN (H:=H) (a:=a) (k:=9) (y:=.int af) (fs:=[(8,.lst rows)]) (gs:=[(8,.lst rows),(9,.int af)]) (bl rfl) rfl,↓pN (H:=H) (a:=a) (k:=10) (y:=.int re) (fs:=[(8,.lst rows),(9,.int af)]) (gs:=[(8,.lst rows),(9,.int af),(10,.int re)]) (bl rfl) rfl]
 exact q
theorem sp_signs_at(t:TX K h0)(hn:10≤n)(E:WE H v ft op T lo hi cut)(h1:lo≤p)(q:Q (sgV T hi p) H):Fn w h0 n 234 [.ref v,.ref ft,.int p] H Q X:=by
 refine bc fun ng=>?_
 refine xe5 (E.vw.ex) ?_
 intro A σ g G dv qz196
 refine xa5 qz196 ?_
 clear qz196
 rintro hv B gd _ _
 refine xe2 (E.f) ?_
 intro dft fsT qz197
 refine xa2 qz197 ?_
 clear qz197
 rintro hf hfl
 refine ng ?_
 refine fn_row t (by exact lv0 hn rfl) 16 rfl [some (.ref v),some (.ref ft),some (.int p),none,none,none,none,none,none] args_all (by kernel_rfl) ?_
 delta b_signs_at;simp only[↓s_set,↓sl_0,↓sl_s,↓e_var,↓e_call,↓es_n,↓es_c,↓l_0,↓l_s]
 refine sp_string_signs t (by exact lv hn rfl) E ?_
 refine s_ite ?_
 simp only[↓e_var,↓e_cmp,↓e_meth,↓es_n,↓l_0,↓l_s,↓p_b,↓gI hv (k:=18) rfl]
 refine sp_vend t (by exact lv hn rfl) E.vw ?_
 simp only[↓c_ge]
 refine dD (fun h=>?_) fun h=>?_
 ·simp only[↓s_ret,↓nk_r,↓retV_r,↓e_int,↓e_var,↓e_bin,↓e_new,↓es_n,↓es_c,↓l_0,↓l_s,↓b_add,↓e_frz]
  intro a dx ha
  refine sp_Signs t (by exact lv hn rfl) ⟨rfl,frz_new ha ?_⟩
  delta sgV rws aft at q;rw[if_neg (by exact li1 2 [_,_] [] (.le J0 J1) (.no (.lt J1 J0)) rfl h),if_neg (by exact li1 2 [_,_] [] (.le J0 J1) (.no (.lt J1 J0)) rfl h)] at q;exact q
 ·simp only[↓s_nil,↓nk_n]
  refine s_ite ?_
  simp only[↓e_glob,↓e_var,↓e_cmp,↓e_meth,↓es_n,↓es_c,↓l_0,↓l_s,↓p_b,↓gI hv (k:=62) rfl]
  refine sp_hidden t (by exact lv hn rfl) ?_
  simp only[↓s_nil,↓nk_n,↓s_set,↓sl_0,↓sl_s,↓e_var,↓e_meth,↓es_n,↓es_c,↓l_0,↓l_s,↓c_ne,↓dT (rfl:(0:Int)=0),↓dT' (rfl:(0:Int)=0),↓nT (rfl:(0:Int)=0),↓nT' (rfl:(0:Int)=0),↓gI hv (k:=63) rfl]
  refine sp_shown t (by exact lv hn rfl) ?_
  refine s_ite ?_
  simp only[↓s_nil,↓s_ret,↓nk_n,↓retV_r,↓s_set,↓sl_0,↓sl_s,↓e_int,↓e_none,↓e_var,↓e_bin,↓e_cmp,↓e_tup,↓e_lst,↓e_meth,↓e_new,↓es_n,↓es_c,↓l_0,↓l_s,↓p_b,↓b_add,↓c_inn,↓sF,↓ln1,↓ln3,↓e_frz,↓gI hf hfl,↓gI hv (k:=61) rfl]
  refine sp_faces t (by exact lv hn rfl) ?_
  refine sp_number_of t (by exact lv hn rfl) ?_
  simp only[↓gI hv (k:=60) rfl]
  refine sp_vcode t (by exact lv hn rfl) E.vw ?_
  refine bAL (bl rfl) ?_
  intro a dx ha
  refine sp_Signs t (by exact lv hn rfl) ⟨rfl,frz_new ha ?_⟩
  delta sgV rws aft sgO sgT at q;rw[if_pos (by exact li1 2 [_,_] [] (.no (.le J0 J1)) (.lt J1 J0) rfl h),if_pos (by exact li1 2 [_,_] [] (.no (.le J0 J1)) (.lt J1 J0) rfl h)] at q;unfold cda;rw[if_pos ⟨h1,by exact li1 2 [_,_] [] (.no (.le J0 J1)) (.lt J1 J0) rfl h⟩];exact q
end
noncomputable def wkFs(v ft:Addr)(p num:Int)(here:V)(reach:Int):List (Nat×V):=[(11,.ref v),(12,.ref ft),(13,.int p),(14,.int num),(15,here),(10,.int reach)]
section
variable{v:Addr}{p num:Int}{Q:Hp→Prop}{T:List Int}
theorem wW13:putF (R.set W (.inst 279 dW (wkFs v ft p num here reach))) 13 (.ref W) (.int z) Q=Q (R.set W (.inst 279 dW (wkFs v ft z num here reach))):=pN (bl rfl) rfl
theorem wW14:putF (R.set W (.inst 279 dW (wkFs v ft p num here reach))) 14 (.ref W) (.int z) Q=Q (R.set W (.inst 279 dW (wkFs v ft p z here reach))):=pN (bl rfl) rfl
theorem wW15:putF (R.set W (.inst 279 dW (wkFs v ft p num here reach))) 15 (.ref W) y Q=Q (R.set W (.inst 279 dW (wkFs v ft p num y reach))):=pN (bl rfl) rfl
theorem wW10:putF (R.set W (.inst 279 dW (wkFs v ft p num here reach))) 10 (.ref W) (.int z) Q=Q (R.set W (.inst 279 dW (wkFs v ft p num here z))):=pN (bl rfl) rfl
theorem rN(hl:look k fs=some u)(ho:isOpq u=false):(OptP (getF (R.set W (.inst C dx fs)) k (.ref W)) fun u=>isOpq u=false∧q u)=q u:=gF (R.set_self W _) hl ho
theorem rW11:(OptP (getF (R.set W (.inst 279 dW (wkFs v ft p num here reach))) 11 (.ref W)) fun u=>isOpq u=false∧q u)=q (.ref v):=rN rfl rfl
theorem rW12:(OptP (getF (R.set W (.inst 279 dW (wkFs v ft p num here reach))) 12 (.ref W)) fun u=>isOpq u=false∧q u)=q (.ref ft):=rN rfl rfl
theorem rW13:(OptP (getF (R.set W (.inst 279 dW (wkFs v ft p num here reach))) 13 (.ref W)) fun u=>isOpq u=false∧q u)=q (.int p):=rN rfl rfl
theorem rW14:(OptP (getF (R.set W (.inst 279 dW (wkFs v ft p num here reach))) 14 (.ref W)) fun u=>isOpq u=false∧q u)=q (.int num):=rN rfl rfl
theorem rW15{x:Int}:(OptP (getF (R.set W (.inst 279 dW (wkFs v ft p num (sgV T hi x) reach))) 15 (.ref W)) fun u=>isOpq u=false∧q u)=q (sgV T hi x):=rN rfl rfl
theorem rW10:(OptP (getF (R.set W (.inst 279 dW (wkFs v ft p num here reach))) 10 (.ref W)) fun u=>isOpq u=false∧q u)=q (.int reach):=rN rfl rfl
theorem iW{P:Prop}(hl:look k (wkFs v ft p num here reach)=none):((OptP (instOf (R.set W (.inst 279 dW (wkFs v ft p num here reach))) (.ref W)) fun p=>p.1=279∧look k p.2=none)∧P)=P:=gI (R.set_self W _) hl
theorem gS8:(OptP (getF H 8 (sgV T hi p)) fun u=>isOpq u=false∧q u)=q (.lst (rws T hi p)):=gO rfl rfl
theorem gS9:(OptP (getF H 9 (sgV T hi p)) fun u=>isOpq u=false∧q u)=q (.int (aft hi p)):=gO rfl rfl
theorem gS10:(OptP (getF H 10 (sgV T hi p)) fun u=>isOpq u=false∧q u)=q (.int (p+1)):=gO rfl rfl
theorem rws_len:(rws T hi p).length=if p< hi then 1 else 0:=by delta rws;split<;>rfl
theorem rws_lt:(rws T hi p).length< 2^60:=by rw[rws_len];split<;>decide
end
section
variable{v op:Addr}{T:List Int}{p num:Int}{cut:Bool}
theorem WE.new(E:WE R v ft op T lo hi cut)(hW:R W=none):WE (R.set W o) v ft op T lo hi cut:=E.sub ((Sub.refl R).new hW)
theorem sp_Walk(t:TX K h0)(hn:12≤n)(E:WE R v ft op T lo hi cut)(hW:R W=none)(h1:lo≤p)(q:∀reach,Q .none (R.set W (.inst 279 dW (wkFs v ft p 0 (sgV T hi p) reach)))):
  Fn w h0 n 248 [.ref W,.ref v,.ref ft,.tup [.int p,.int 0]] (R.set W (.inst 279 dW [])) Q X:=by
 refine fn_row t (lv0 hn rfl) 17 rfl [some (.ref W),some (.ref v),some (.ref ft),some (.tup [.int p,.int 0])] args_all (by kernel_rfl) ?_
 delta b_Walk_init;simp only[↓s_nil,↓s_setA,↓retV_n,↓e_var,↓e_attr,↓e_call,↓es_n,↓es_c,↓l_0,↓l_s,↓p_t,↓pN (H:=R) (a:=W) (k:=11) (y:=.ref v) (fs:=[]) (gs:=[(11,.ref v)]) (bl rfl) rfl,↓pN (H:=R) (a:=W) (k:=12) (y:=.ref ft) (fs:=[(11,.ref v)]) (gs:=[(11,.ref v),(12,.ref ft)]) (bl rfl) rfl,↓s_setT]
 refine⟨rfl,?_⟩
 simp only[↓vT_n,↓vT_at,↓e_var,↓l_0,↓l_s,↓pN (H:=R) (a:=W) (k:=13) (y:=.int p) (fs:=[(11,.ref v),(12,.ref ft)]) (gs:=[(11,.ref v),(12,.ref ft),(13,.int p)]) (bl rfl) rfl,↓pN (H:=R) (a:=W) (k:=14) (y:=.int 0) (fs:=[(11,.ref v),(12,.ref ft),(13,.int p)]) (gs:=[(11,.ref v),(12,.ref ft),(13,.int p),(14,.int 0)]) (bl rfl) rfl]
 simp only[↓rN (R:=R) (W:=W) (k:=13) (fs:=[(11,.ref v),(12,.ref ft),(13,.int p),(14,.int 0)]) (u:=.int p) rfl rfl]
 refine sp_signs_at t (lv hn rfl) (E.new hW) h1 ?_
 simp only[↓pN (H:=R) (a:=W) (k:=15) (y:=sgV T hi p) (fs:=[(11,.ref v),(12,.ref ft),(13,.int p),(14,.int 0)]) (gs:=[(11,.ref v),(12,.ref ft),(13,.int p),(14,.int 0),(15,sgV T hi p)]) (bl rfl) rfl,↓rN (R:=R) (W:=W) (k:=15) (fs:=[(11,.ref v),(12,.ref ft),(13,.int p),(14,.int 0),(15,sgV T hi p)]) (u:=sgV T hi p) rfl rfl,↓gS10,↓pN (H:=R) (a:=W) (k:=10) (y:=.int (p+1)) (fs:=[(11,.ref v),(12,.ref ft),(13,.int p),(14,.int 0),(15,sgV T hi p)]) (gs:=wkFs v ft p 0 (sgV T hi p) (p+1)) (bl rfl) rfl]
 exact q _
theorem sp_settle(t:TX K h0)(hn:12≤n)(E:WE R v ft op T lo hi cut)(hW:R W=none)(h:num=0∨num=1∧p< hi)(h1:lo≤p)(h2:p≤hi)
  (q:∀reach,Q (.bool (decide (p+num< hi))) (R.set W (.inst 279 dW (wkFs v ft (p+num) 0 (sgV T hi (p+num)) reach)))):
  Fn w h0 n 255 [.ref W] (R.set W (.inst 279 dW (wkFs v ft p num (sgV T hi p) reach))) Q X:=by
 refine fn_row t (by exact lv0 hn rfl) 18 rfl [some (.ref W)] args_all (by kernel_rfl) ?_
 delta b_Walk_settle
 refine s_whlI (m:=num.toNat) (fun m l H'=>∃p' num' r',l=[some (.ref W)]∧H'=R.set W (.inst 279 dW (wkFs v ft p' num' (sgV T hi p') r'))∧m=num'.toNat∧(num'=0∨num'=1∧p'< hi)∧lo≤p'∧p'≤hi∧p'+num'=p+num)
  ⟨p,num,reach,rfl,rfl,rfl,h,h1,h2,rfl⟩ ?_
 rintro m l H' K' ⟨p',num',r',rfl,rfl,rfl,k1,k2,k3,k4⟩ kn kr
 simp only[↓e_var,↓e_cmp,↓e_attr,↓e_b1,↓l_0,↓p_b,↓c_ge,↓rW14,↓rW15,↓gS8,↓lenP rws_lt,rws_len]
 refine bc fun ng=>?_
 refine xe5 ((E.new (o:=.inst 279 dW (wkFs v ft p' num' (sgV T hi p') r')) hW).vw.ex) ?_
 intro A σ g G dv qz198
 refine xa2 qz198 ?_
 clear qz198
 rintro hv _
 refine ng ?_
 refine dD (fun c=>?_) fun c=>?_
 ·refine s_ite ?_
  simp only[↓e_var,↓e_cmp,↓e_attr,↓e_meth,↓es_n,↓l_0,↓p_b,↓rW11,↓rW13,↓gI hv (k:=18) rfl]
  refine sp_vend t (by exact lv hn rfl) (E.new hW).vw ?_
  simp only[↓c_ge]
  refine dD (fun c2=>?_) fun c2=>?_
  ·simp only[↓s_ret,↓nk_r,↓e_bool]
   have q:=q r'
   rw[decide_eq_false (by exact li3 5 [_,_,_,_,_] [_] (.eq (.a J0 J1) (.a J2 J3)) (.le (.n U0) J1) (.le J4 J0) (.no (.lt (.a J2 J3) J4)) rfl k4 c c2)] at q
   have e1:num'=0:=by exact li2 3 [_,_,_] [] (.or (.eq J0 I0) (.and (.eq J0 I1) (.lt J1 J2))) (.le J2 J1) (.eq J0 I0) rfl k1 c2
   rw[←k4,e1,Int.add_zero] at q
   rw[e1];exact kr _ _ _ q
  ·have c3:p'< hi:=by exact li1 2 [_,_] [] (.no (.le J0 J1)) (.lt J1 J0) rfl c2
   rw[if_pos c3] at c
   have e1:num'=1:=by exact li2 3 [_,_,_] [] (.or (.eq J0 I0) (.and (.eq J0 I1) (.lt J1 J2))) (.le (.n O1) J0) (.eq J0 I1) rfl k1 c
   subst e1
   simp only[↓s_nil,↓s_setA,↓nk_n,↓e_var,↓e_bin,↓e_attr,↓e_call,↓e_b1,↓e_b2,↓es_n,↓es_c,↓l_0,↓b_sub,↓rW11,↓rW12,↓rW13,↓rW14,↓rW15,↓gS8,↓gS9,↓lenP rws_lt,rws_len,↓wW13,↓wW14,if_pos c3]
   refine sp_signs_at t (by exact lv hn rfl) (E.new hW) (by delta aft;rw[if_pos c3];(exact li1 2 [_,_] [] (.le J0 J1) (.le J0 (.a J1 I1)) rfl k2)) ?_
   simp only[↓m_max,↓rW10,↓rW15,↓gS10,↓wW15,↓wW10]
   have e2:aft hi p'=p'+1:=if_pos c3
   rw[e2]
   exact kn _ _ _ (by decide) ⟨p'+1,0,_,rfl,rfl,rfl,.inl rfl,by exact li1 2 [_,_] [] (.le J0 J1) (.le J0 (.a J1 I1)) rfl k2,by exact li1 2 [_,_] [] (.no (.le J0 J1)) (.lt J1 J0) rfl c2,by exact li1 3 [_,_,_] [] (.eq (.a J0 I1) (.a J1 J2)) (.eq (.a (.a J0 I1) I0) (.a J1 J2)) rfl k4⟩
 ·simp only[↓s_ret,↓retV_r,↓e_bool]
  have c3:p'< hi:=by
   by_cases c3:p'< hi
   ·exact c3
   ·rw[if_neg c3] at c;(exact li2 3 [_,_,_] [] (.or (.eq J0 I0) (.and (.eq J0 I1) (.lt J1 J2))) (.no (.le (.n O0) J0)) (.lt J1 J2) rfl k1 c)
  rw[if_pos c3] at c
  have e1:num'=0:=by exact li2 3 [_,_,_] [] (.or (.eq J0 I0) (.and (.eq J0 I1) (.lt J1 J2))) (.no (.le (.n O1) J0)) (.eq J0 I0) rfl k1 c
  have q:=q r'
  rw[←k4,e1,Int.add_zero,decide_eq_true c3] at q
  rw[e1];exact q
theorem sp_sign(t:TX K h0)(hn:14≤n)(E:WE R v ft op T lo hi cut)(hW:R W=none)(h:num=0∨num=1∧p< hi)(h1:lo≤p)(h2:p≤hi)
  (q:∀reach,Q (if p+num< hi then sgT T (p+num) else .none) (R.set W (.inst 279 dW (wkFs v ft (p+num) 0 (sgV T hi (p+num)) reach)))):
  Fn w h0 n 262 [.ref W] (R.set W (.inst 279 dW (wkFs v ft p num (sgV T hi p) reach))) Q X:=by
 refine fn_row t (lv0 hn rfl) 19 rfl [some (.ref W)] args_all (by kernel_rfl) ?_
 delta b_Walk_sign;simp only[↓s_ret,↓retV_r,↓e_none,↓e_var,↓e_ite,↓e_attr,↓e_sub,↓e_meth,↓es_n,↓l_0,↓iW (k:=65) rfl]
 refine sp_settle t (lv hn rfl) E hW h h1 h2 fun r=>?_
 have q:=q r
 simp only[↓p_b]
 refine dD (fun c=>?_) fun c=>?_
 ·rw[if_pos c] at q
  have e:rws T hi (p+num)=[sgT T (p+num)]:=if_pos c
  simp only[↓rW14,↓rW15,↓gS8,e,↓iP (xs:=[sgT T (p+num)]) (i:=0) (Int.le_refl _) (by decide) rfl]
  exact q
 ·rw[if_neg c] at q;exact q
theorem sp_step(t:TX K h0)(hn:2≤n)(q:Q .none (R.set W (.inst 279 dW (wkFs v ft p (num+1) here reach)))):Fn w h0 n 269 [.ref W] (R.set W (.inst 279 dW (wkFs v ft p num here reach))) Q X:=by
 refine fn_row t hn 20 rfl [some (.ref W)] args_all (by kernel_rfl) ?_
 delta b_Walk_step;simp only[↓s_nil,↓s_setA,↓retV_n,↓e_int,↓e_var,↓e_bin,↓e_attr,↓l_0,↓b_add,↓rW14,↓wW14]
 exact q
theorem sp_spot(t:TX K h0)(hn:14≤n)(E:WE R v ft op T lo hi cut)(hW:R W=none)(h:num=0∨num=1∧p< hi)(h1:lo≤p)(h2:p≤hi)
  (q:∀reach,Q (.tup [.int (p+num),.int 0]) (R.set W (.inst 279 dW (wkFs v ft (p+num) 0 (sgV T hi (p+num)) reach)))):
  Fn w h0 n 276 [.ref W] (R.set W (.inst 279 dW (wkFs v ft p num (sgV T hi p) reach))) Q X:=by
 refine fn_row t (lv0 hn rfl) 21 rfl [some (.ref W)] args_all (by kernel_rfl) ?_
 delta b_Walk_spot;simp only[↓s_expr,↓s_ret,↓retV_r,↓e_var,↓e_attr,↓e_tup,↓e_meth,↓es_n,↓es_c,↓l_0,↓ln2,↓iW (k:=65) rfl]
 refine sp_settle t (lv hn rfl) E hW h h1 h2 fun r=>?_
 simp only[↓rW13,↓rW14]
 exact q r
end
structure RS where
 s:Int
 col:Int
 e:Int
 nc:Int
 le:Bool
 br:Bool
 en:Bool
 mark:Int
 re:Int
noncomputable def rwFs(x:RS)(g:V):List (Nat×V):=[(16,.tup [.int x.s,.int 0]),(17,.int x.col),(18,.tup [.int x.e,.int 0]),(19,.int x.nc),(20,g),(21,.bool x.le),(22,.bool x.br),(23,.bool x.en),(24,.int x.mark),(10,.int x.re)]
noncomputable def rh(R:Hp)(r gl W dr:Addr)(x:RS)(xs:List V)(wk:AObj):Hp:=((R.set r (.inst 314 dr (rwFs x (.ref gl)))).set gl (.list xs)).set W wk
structure RD(R:Hp)(r gl W:Addr):Prop where
 rg:r≠gl
 rW:r≠W
 gW:gl≠W
 r0:R r=none
 g0:R gl=none
 W0:R W=none
section
variable{r:Addr}{x:RS}{ys:List V}{Q:Hp→Prop}{c:Bool}{P:Prop}
theorem rh_r(d:RD R r gl W):rh R r gl W dr x xs wk r=some (.inst 314 dr (rwFs x (.ref gl))):=by
 delta rh;rw[Hp.set_ne _ _ d.rW,Hp.set_ne _ _ d.rg,Hp.set_self]
theorem rh_g(d:RD R r gl W):rh R r gl W dr x xs wk gl=some (.list xs):=by
 delta rh;rw[Hp.set_ne _ _ d.gW,Hp.set_self]
theorem rh_set_r(d:RD R r gl W):(rh R r gl W dr x xs wk).set r (.inst 314 dr (rwFs x' (.ref gl)))=rh R r gl W dr x' xs wk:=by
 delta rh;rw[set_comm d.rW.symm,set_comm d.rg.symm,set_set]
theorem rh_set_g(d:RD R r gl W):(rh R r gl W dr x xs wk).set gl (.list ys)=rh R r gl W dr x ys wk:=by
 delta rh;rw[set_comm d.gW.symm,set_set]
theorem RD.sub(d:RD R r gl W):Sub R ((R.set r (.inst 314 dr (rwFs x (.ref gl)))).set gl (.list xs)):=((Sub.refl R).new d.r0).new d.g0
theorem RD.w0(d:RD R r gl W):((R.set r (.inst 314 dr (rwFs x (.ref gl)))).set gl (.list xs)) W=none:=by rw[Hp.set_ne _ _ d.gW.symm,Hp.set_ne _ _ d.rW.symm];exact d.W0
theorem pR(d:RD R r gl W)(h:setF k y (rwFs x (.ref gl))=rwFs x' (.ref gl)):putF (rh R r gl W dr x xs wk) k (.ref r) y Q=Q (rh R r gl W dr x' xs wk):=(pF (rh_r d) (bl rfl) h).trans (congrArg Q (rh_set_r d))
theorem wR18(d:RD R r gl W):putF (rh R r gl W dr x xs wk) 18 (.ref r) (.tup [.int z,.int 0]) Q=Q (rh R r gl W dr {x with e:=z} xs wk):=pR d rfl
theorem wR19(d:RD R r gl W):putF (rh R r gl W dr x xs wk) 19 (.ref r) (.int z) Q=Q (rh R r gl W dr {x with nc:=z} xs wk):=pR d rfl
theorem wR21(d:RD R r gl W):putF (rh R r gl W dr x xs wk) 21 (.ref r) (.bool c) Q=Q (rh R r gl W dr {x with le:=c} xs wk):=pR d rfl
theorem wR22(d:RD R r gl W):putF (rh R r gl W dr x xs wk) 22 (.ref r) (.bool c) Q=Q (rh R r gl W dr {x with br:=c} xs wk):=pR d rfl
theorem wR23(d:RD R r gl W):putF (rh R r gl W dr x xs wk) 23 (.ref r) (.bool c) Q=Q (rh R r gl W dr {x with en:=c} xs wk):=pR d rfl
theorem wR24(d:RD R r gl W):putF (rh R r gl W dr x xs wk) 24 (.ref r) (.int z) Q=Q (rh R r gl W dr {x with mark:=z} xs wk):=pR d rfl
theorem wR10(d:RD R r gl W):putF (rh R r gl W dr x xs wk) 10 (.ref r) (.int z) Q=Q (rh R r gl W dr {x with re:=z} xs wk):=pR d rfl
theorem rR20(d:RD R r gl W):(OptP (getF (rh R r gl W dr x xs wk) 20 (.ref r)) fun u=>isOpq u=false∧q u)=q (.ref gl):=gF (rh_r d) rfl rfl
theorem rR10(d:RD R r gl W):(OptP (getF (rh R r gl W dr x xs wk) 10 (.ref r)) fun u=>isOpq u=false∧q u)=q (.int x.re):=gF (rh_r d) rfl rfl
theorem apR(d:RD R r gl W)(hl:xs.length≤100000):((asL (rh R r gl W dr x xs wk) (.ref gl)).isSome=true∧P)=P:=and_t (by rw[aL (rh_g d)];rfl)
theorem apV(d:RD R r gl W)(hl:xs.length≤100000):appV (rh R r gl W dr x xs wk) (.ref gl) y Q=Q (rh R r gl W dr x (xs++[y]) wk):=by
 refine Eq.trans ?_ (congrArg Q (rh_set_g (xs:=xs) d));(conv=>lhs;whnf);rw[rh_g d];exact and_t hl
theorem pr_set(h:look k fs=some u)(p:Pr D u y):(∀j,(look j fs).isSome=(look j (setF k y fs)).isSome)∧∀(j:Nat) (a b:V),look j fs=some a→look j (setF k y fs)=some b→Pr D a b:=by
 refine⟨fun j=>?_,fun j a b e1 e2=>?_⟩
 ·rw[setF_lookup];by_cases hj:j=k
  ·subst hj;rw[if_pos rfl,h];rfl
  ·rw[if_neg hj]
 ·rw[setF_lookup] at e2;by_cases hj:j=k
  ·subst hj;rw[if_pos rfl] at e2;rw[h] at e1;obtain rfl:=sj e1;obtain rfl:=sj e2;exact p
  ·rw[if_neg hj,e1] at e2;obtain rfl:=sj e2;exact .same _
theorem frz_row(d:RD R r gl W){Q:V→Hp→Prop}(q:Q (.obj 314 (rwFs x (.lst xs))) (R.set W wk)):Frz (.ref r) (rh R r gl W dr x xs wk) Q:=by
 obtain⟨p1,p2⟩:=pr_set (D:=fun b=>if b=r then some (.inst 314 dr (rwFs x (.ref gl))) else if b=gl then some (.list xs) else none) (k:=20) (u:=.ref gl) (y:=.lst xs) (fs:=rwFs x (.ref gl)) rfl
  (.lst ((if_neg d.rg.symm).trans (if_pos rfl)) rfl fun i x y e1 e2=>by rw[e1] at e2;obtain rfl:=sj e2;exact .same _)
 refine⟨_,R.set W wk,_,fun b o e=>?_,fun b o e=>?_,.obj (if_pos rfl) p1 p2,q⟩
 ·delta rh
  by_cases hW:b=W
  ·subst hW;rw[Hp.set_self] at e⊢;exact e
  ·rw[Hp.set_ne _ _ hW] at e⊢;exact d.sub b o e
 ·by_cases h1:b=r
  ·subst h1;simp only[if_pos] at e;exact⟨(rh_r d).trans e,by rw[Hp.set_ne _ _ d.rW];exact d.r0⟩
  ·by_cases h2:b=gl
   ·subst h2;simp only[if_neg h1,if_pos] at e;exact⟨(rh_g d).trans e,by rw[Hp.set_ne _ _ d.gW];exact d.g0⟩
   ·simp only[if_neg h1,if_neg h2] at e;exact nope1 e
end
section
variable{r v op:Addr}{x:RS}{T:List Int}{p num s:Int}{cut:Bool}
theorem sp_Row(t:TX K h0)(hn:2≤n)(hW:R W=none)(hr:(R.set W wk) r=none)(q:∀gl,RD R r gl W→Q .none (rh R r gl W dr ⟨s,col,s,col,false,false,false,32,s⟩ [] wk)):
  Fn w h0 n 297 [.ref r,.tup [.int s,.int 0],.int col] ((R.set W wk).set r (.inst 314 dr [])) Q X:=by
 refine fn_row t hn 22 rfl [some (.ref r),some (.tup [.int s,.int 0]),some (.int col)] args_all (by kernel_rfl) ?_
 have rW:r≠W:=ne_new hr
 have r0:R r=none:=by rw[Hp.set_ne _ _ rW] at hr;exact hr
 delta b_Row_init;simp only[↓s_nil,↓s_setA,↓retV_n,↓e_int,↓e_bool,↓e_glob,↓e_var,↓e_sub,↓e_lstM,↓es_n,↓l_0,↓l_s,↓ln0,↓pN (H:=R.set W wk) (a:=r) (k:=16) (y:=.tup [.int s,.int 0]) (fs:=[]) (gs:=[(16,.tup [.int s,.int 0])]) (bl rfl) rfl,↓pN (H:=R.set W wk) (a:=r) (k:=17) (y:=.int col) (fs:=[(16,.tup [.int s,.int 0])]) (gs:=[(16,.tup [.int s,.int 0]),(17,.int col)]) (bl rfl) rfl,↓pN (H:=R.set W wk) (a:=r) (k:=18) (y:=.tup [.int s,.int 0]) (fs:=[(16,.tup [.int s,.int 0]),(17,.int col)]) (gs:=[(16,.tup [.int s,.int 0]),(17,.int col),(18,.tup [.int s,.int 0])]) (bl rfl) rfl,↓pN (H:=R.set W wk) (a:=r) (k:=19) (y:=.int col) (fs:=[(16,.tup [.int s,.int 0]),(17,.int col),(18,.tup [.int s,.int 0])]) (gs:=[(16,.tup [.int s,.int 0]),(17,.int col),(18,.tup [.int s,.int 0]),(19,.int col)]) (bl rfl) rfl]
 intro gl hg
 have rg:gl≠r:=ne_new hg
 replace hg:=old_none hg
 have gW:gl≠W:=ne_new hg
 replace hg:=old_none hg
 have d:RD R r gl W:=⟨rg.symm,rW,gW,r0,hg,hW⟩
 have wr:∀{fs gs:List (Nat×V)} {k:Nat} {y:V} {Q:Hp→Prop},fs.length≤900→setF k y fs=gs→putF (((R.set W wk).set r (.inst 314 dr fs)).set gl (.list [])) k (.ref r) y Q=Q (((R.set W wk).set r (.inst 314 dr gs)).set gl (.list [])):=by
  intro fs gs k y Q hl hg
  refine(pF ((Hp.set_ne _ _ rg.symm).trans (Hp.set_self _ _ _)) hl hg).trans ?_
  rw[set_comm rg,set_set]
 have q9:=q gl d
 unfold rh at q9
 rw[←set_comm gW.symm,←set_comm rW.symm] at q9
 rw[wr (bl rfl) rfl,wr (bl rfl) rfl,wr (bl rfl) rfl,wr (bl rfl) rfl,wr (bl rfl) rfl,iT (xs:=[.int s,.int 0]) (i:=0) (Int.le_refl _) (by decide) rfl,wr (bl rfl) rfl]
 exact q9
end
theorem for_inv{body:Loc→Hp→(Fl→Loc→Hp→Prop)→Prop}{Q:Fl→Loc→Hp→Prop}(I:List V→Loc→Hp→Prop)
  (h:∀x r l H K,I (x::r) l H→(∀l' H',I r l' H'→K .next l' H')→(∀v l' H',Q (.ret v) l' H'→K (.ret v) l' H')→body (setL l k x) H K) (e:∀l H,I [] l H→Q .next l H):
  ∀(xs:List V) (l:Loc) (H:Hp),I xs l H→forV body (.nm k) xs l H Q
 |[],l,H,i=>e l H i
 |x::r,l,H,i=>h x r l H _ i (fun l' H' i'=>for_inv I h e r l' H' i') fun _ _ _ q=>q
noncomputable abbrev wkA(dW v ft:Addr)(T:List Int)(hi p num reach:Int):AObj:=.inst 279 dW (wkFs v ft p num (sgV T hi p) reach)
section
variable{r v op:Addr}{x:RS}{T:List Int}{p num s:Int}{cut:Bool}
theorem sp_rsign(t:TX K h0)(hn:14≤n)(E:WE R v ft op T lo hi cut)(d:RD R r gl W)(h:num=0∨num=1∧p< hi)(h1:lo≤p)(h2:p≤hi)
  (q:∀reach,Q (if p+num< hi then sgT T (p+num) else .none) (rh R r gl W dr x xs (wkA dW v ft T hi (p+num) 0 reach))):Fn w h0 n 262 [.ref W] (rh R r gl W dr x xs (wkA dW v ft T hi p num reach)) Q X:=
 sp_sign t hn (E.sub d.sub) d.w0 h h1 h2 q
theorem sp_rspot(t:TX K h0)(hn:14≤n)(E:WE R v ft op T lo hi cut)(d:RD R r gl W)(h:num=0∨num=1∧p< hi)(h1:lo≤p)(h2:p≤hi)
  (q:∀reach,Q (.tup [.int (p+num),.int 0]) (rh R r gl W dr x xs (wkA dW v ft T hi (p+num) 0 reach))):Fn w h0 n 276 [.ref W] (rh R r gl W dr x xs (wkA dW v ft T hi p num reach)) Q X:=
 sp_spot t hn (E.sub d.sub) d.w0 h h1 h2 q
theorem sp_rstep(t:TX K h0)(hn:2≤n)(q:Q .none (rh R r gl W dr x xs (wkA dW v ft T hi p 1 reach))):Fn w h0 n 269 [.ref W] (rh R r gl W dr x xs (wkA dW v ft T hi p 0 reach)) Q X:=
 sp_step t hn q
theorem rK10{num:Int}:(OptP (getF (rh R r gl W dr x xs (wkA dW v ft T hi p num reach)) 10 (.ref W)) fun u=>isOpq u=false∧q u)=q (.int reach):=rW10
theorem rK11{num:Int}:(OptP (getF (rh R r gl W dr x xs (wkA dW v ft T hi p num reach)) 11 (.ref W)) fun u=>isOpq u=false∧q u)=q (.ref v):=rW11
theorem iK{P:Prop}{num:Int}(hl:look k (wkFs v ft p num (sgV T hi p) reach)=none):((OptP (instOf (rh R r gl W dr x xs (wkA dW v ft T hi p num reach)) (.ref W)) fun p=>p.1=279∧look k p.2=none)∧P)=P:=iW hl
theorem iR{P:Prop}(d:RD R r gl W)(hl:look k (rwFs x (.ref gl))=none):((OptP (instOf (rh R r gl W dr x xs wk) (.ref r)) fun p=>p.1=314∧look k p.2=none)∧P)=P:=gI (rh_r d) hl
noncomputable def g3(p:Int)(c:Int):V:=.tup [.int c,.int 0,.int p]
theorem sp_put_sign(t:TX K h0)(hn:2≤n)(d:RD R r gl W){cs:List Int}(hl:xs.length+cs.length≤100000)(q:Q .none (rh R r gl W dr x (xs++cs.map (g3 p)) wk)):
  Fn w h0 n 325 [.ref r,.tup [y,.int 0,.int p],.lst (cs.map V.int)] (rh R r gl W dr x xs wk) Q X:=by
 refine fn_row t hn 24 rfl [some (.ref r),some (.tup [y,.int 0,.int p]),some (.lst (cs.map V.int)),none] args_all (by kernel_rfl) ?_
 delta b_put_sign
 refine s_for ?_
 simp only[↓e_none,↓e_var,↓l_0,↓l_s,↓it_l]
 refine⟨by rw[List.length_map];(exact li1 2 [] [_,_] (.nle (.a U0 U1) (.c 100000)) (.nle U1 (.c 100000)) rfl hl),?_⟩
 refine for_inv (fun ys l H'=>∃cs' xs' z,ys=cs'.map V.int∧l=[some (.ref r),some (.tup [y,.int 0,.int p]),some (.lst (cs.map V.int)),z]∧H'=rh R r gl W dr x xs' wk∧xs'++cs'.map (g3 p)=xs++cs.map (g3 p)∧xs'.length+cs'.length≤100000) ?_ ?_ _ _ _ ⟨cs,xs,none,rfl,rfl,rfl,rfl,hl⟩
 ·rintro a ys l H' K' ⟨cs',xs',z,h1,rfl,rfl,h2,h3⟩ k1 k2
  cases cs' with
  |nil=>cases h1
  |cons c cs'=>
   cases h1
   simp only[↓s_nil,↓s_expr,↓sl_0,↓sl_s,↓e_int,↓e_var,↓e_attr,↓e_sub,↓e_tup,↓e_app,↓es_n,↓es_c,↓l_0,↓l_s,↓ln3,↓rR20 d,↓apR d (by rw[List.length_cons] at h3;(exact li1 2 [] [_,_] (.nle (.a U0 (.a U1 O1)) (.c 100000)) (.nle U0 (.c 100000)) rfl h3):xs'.length≤100000),↓iT (xs:=[y,.int 0,.int p]) (i:=1) (by decide) (by decide) rfl,↓iT (xs:=[y,.int 0,.int p]) (i:=2) (by decide) (by decide) rfl,↓apV d (by rw[List.length_cons] at h3;(exact li1 2 [] [_,_] (.nle (.a U0 (.a U1 O1)) (.c 100000)) (.nle U0 (.c 100000)) rfl h3):xs'.length≤100000)]
   exact k1 _ _ ⟨cs',xs'++[g3 p c],_,rfl,rfl,rfl,by rw[←h2,List.append_assoc];rfl,by rw[List.length_append];rw[List.length_cons] at h3;show xs'.length+1+_≤_;(exact li1 2 [] [_,_] (.nle (.a U0 (.a U1 O1)) (.c 100000)) (.nle (.a (.a U0 O1) U1) (.c 100000)) rfl h3)⟩
 ·rintro l H' ⟨cs',xs',z,h1,rfl,rfl,h2,h3⟩
  cases cs' with
  |cons c cs'=>cases h1
  |nil=>rw[List.map_nil,List.append_nil] at h2;subst h2;exact q
theorem sp_rstop(t:TX K h0)(hn:16≤n)(E:WE R v ft op T lo hi cut)(d:RD R r gl W)(h:num=0∨num=1∧p< hi)(h1:lo≤p)(h2:p≤hi)
  (q:∀re wr,Q .none (rh R r gl W dr {x with e:=p+num,nc:=col,re:=re} xs (wkA dW v ft T hi (p+num) 0 wr))):Fn w h0 n 304 [.ref r,.ref W,.int col] (rh R r gl W dr x xs (wkA dW v ft T hi p num reach)) Q X:=by
 refine fn_row t (lv0 hn rfl) 23 rfl [some (.ref r),some (.ref W),some (.int col)] args_all (by kernel_rfl) ?_
 delta b_Row_stop;simp only[↓s_nil,↓s_setA,↓retV_n,↓e_var,↓e_attr,↓e_meth,↓e_b2,↓es_n,↓l_0,↓l_s,↓iK (k:=68) rfl]
 refine sp_rspot t (lv hn rfl) E d h h1 h2 fun wr=>?_
 simp only[↓m_max,↓wR18 d,↓wR19 d,↓rR10 d,↓rK10,↓wR10 d]
 exact q _ _
theorem sp_eol_none(t:TX K h0)(hn:18≤n)(E:WE R v ft op T lo hi cut)(d:RD R r gl W)(h1:lo≤p)(h2:p≤hi)
  (q:∀re wr,Q .none (rh R r gl W dr {x with en:=true,e:=p,nc:=col,re:=re} xs (wkA dW v ft T hi p 0 wr))):Fn w h0 n 332 [.ref r,.ref W,.none,.int col] (rh R r gl W dr x xs (wkA dW v ft T hi p 0 reach)) Q X:=by
 refine fn_row t (lv0 hn rfl) 25 rfl [some (.ref r),some (.ref W),some .none,some (.int col)] args_all (by kernel_rfl) ?_
 delta b_end_of_line
 refine s_ite ?_
 simp only[↓s_nil,↓s_expr,↓s_setA,↓nk_n,↓retV_n,↓e_bool,↓e_none,↓e_var,↓e_cmp,↓e_meth,↓es_n,↓es_c,↓l_0,↓l_s,↓p_b,↓c_isn,↓sT,↓wR23 d,↓iR d (k:=69) rfl]
 refine sp_rstop t (lv hn rfl) E d (.inl rfl) h1 h2 fun re wr=>?_
 rw[Int.add_zero]
 exact q _ _
theorem sp_eol_some(t:TX K h0)(hn:18≤n)(E:WE R v ft op T lo hi cut)(d:RD R r gl W)(h1:lo≤p)(h2:p< hi)
  (q:∀br re wr,Q .none (rh R r gl W dr {x with le:=true,br:=br,e:=p+1,nc:=0,re:=re} xs (wkA dW v ft T hi (p+1) 0 wr))):Fn w h0 n 332 [.ref r,.ref W,sgT T p,.int col] (rh R r gl W dr x xs (wkA dW v ft T hi p 0 reach)) Q X:=by
 refine fn_row t (lv0 hn rfl) 25 rfl [some (.ref r),some (.ref W),some (sgT T p),some (.int col)] args_all (by kernel_rfl) ?_
 have l1:=E.vw.l1
 delta b_end_of_line
 refine s_ite ?_
 delta sgT
 simp only[↓s_nil,↓s_expr,↓s_setA,↓nk_n,↓retV_n,↓e_int,↓e_bool,↓e_none,↓e_glob,↓e_var,↓e_cmp,↓e_and,↓e_attr,↓e_sub,↓e_call,↓e_meth,↓es_n,↓es_c,↓l_0,↓l_s,↓p_b,↓c_ist,↓sF,↓iK (k:=67) rfl]
 refine sp_rstep t (lv hn rfl) ?_
 simp only[↓c_ne,↓wR21 d,↓rK11,↓iT (xs:=[.int (cd T p),.int 0,.int p]) (i:=2) (by decide) (by decide) rfl,↓dF (by(exact li2 2 [_,_] [] (.le J0 J1) (.le I1 J0) (.no (.eq J1 (.c (-1)))) rfl h1 l1):¬p=-1),↓dF' (by(exact li2 2 [_,_] [] (.le J0 J1) (.le I1 J0) (.no (.eq J1 (.c (-1)))) rfl h1 l1):¬p=-1),↓nF (by(exact li2 2 [_,_] [] (.le J0 J1) (.le I1 J0) (.no (.eq J1 (.c (-1)))) rfl h1 l1):¬p=-1),↓nF' (by(exact li2 2 [_,_] [] (.le J0 J1) (.le I1 J0) (.no (.eq J1 (.c (-1)))) rfl h1 l1):¬p=-1)]
 refine sp_is_break t (lv hn rfl) ((E.sub d.sub).new d.w0).vw ?_
 simp only[↓wR22 d,↓iR d (k:=69) rfl]
 refine sp_rstop t (lv hn rfl) E d (.inr ⟨rfl,h2⟩) h1 (li1 2 [_,_] [] (.lt J0 J1) (.le J0 J1) rfl h2) fun re wr=>?_
 exact q _ _ _
theorem sp_overflow(t:TX K h0)(hn:18≤n)(E:WE R v ft op T lo hi cut)(d:RD R r gl W)(h1:lo≤p)(h2:p< hi)(h9:cd T p≠9)(hx:xs≠[])(hl:xs.length≤1000){room:V}
  (q:∀re wr,Q .none (rh R r gl W dr {x with e:=p,nc:=col,re:=re} xs (wkA dW v ft T hi p 0 wr))):Fn w h0 n 339 [.ref r,.ref W,sgT T p,y,.int col,room,.none] (rh R r gl W dr x xs (wkA dW v ft T hi p 0 reach)) Q X:=by
 refine fn_row t (lv0 hn rfl) 26 rfl [some (.ref r),some (.ref W),some (sgT T p),some y,some (.int col),some room,some .none,none] args_all (by kernel_rfl) ?_
 have hx':0< xs.length:=List.length_pos_iff.mpr hx
 have hl2:xs.length< 2^60:=li1 1 [] [_] (.nle U0 (.c 1000)) (.nlt U0 (.c (2^60))) rfl hl
 delta sgT
 delta b_overflow;simp only[↓s_set,↓sl_0,↓sl_s,↓e_var,↓e_attr,↓e_b1,↓l_0,↓rR20 d,↓lenL (rh_g d) hl2]
 refine s_ite ?_
 simp only[↓s_nil,↓s_expr,↓retV_n,↓e_int,↓e_glob,↓e_var,↓e_cmp,↓e_and,↓e_or,↓e_sub,↓e_meth,↓es_n,↓es_c,↓l_0,↓l_s,↓p_b,↓c_eq,↓sF',↓iT (xs:=[.int (cd T p),.int 0,.int p]) (i:=0) (by decide) (by decide) rfl,↓dF h9,↓dF' h9,↓nF h9,↓nF' h9,↓dF (by(exact li1 1 [] [_] (.nlt O0 U0) (.no (.eq (.n U0) I0)) rfl hx'):¬(xs.length:Int)=0),↓dF' (by(exact li1 1 [] [_] (.nlt O0 U0) (.no (.eq (.n U0) I0)) rfl hx'):¬(xs.length:Int)=0),↓nF (by(exact li1 1 [] [_] (.nlt O0 U0) (.no (.eq (.n U0) I0)) rfl hx'):¬(xs.length:Int)=0),↓nF' (by(exact li1 1 [] [_] (.nlt O0 U0) (.no (.eq (.n U0) I0)) rfl hx'):¬(xs.length:Int)=0),↓iR d (k:=69) rfl]
 refine sp_rstop t (lv hn rfl) E d (.inl rfl) h1 (li1 2 [_,_] [] (.lt J0 J1) (.le J0 J1) rfl h2) fun re wr=>?_
 rw[Int.add_zero]
 refine s_ite ?_
 simp only[↓s_nil,↓nk_n,↓e_none,↓e_var,↓e_cmp,↓l_0,↓l_s,↓p_b,↓c_inn,↓sF]
 exact q _ _
end
structure Rw where
 st:Int
 gl:List (Int×Int)
 mark:Int
noncomputable def sgn(T:List Int)(p:Int):List (Int×Int):=(cc (cd T p)).map fun c=>(c,p)
noncomputable def fin(cut:Bool)(wd st:Int)(acc:List (Int×Int)):Rw:=if cut=true then⟨st,acc.take (wd-1).toNat,if wd≤acc.length then 36 else 32⟩ else⟨st,acc,32⟩
noncomputable def rowsL(cut:Bool)(wd:Int)(T:List Int):Nat→Int→List (Int×Int)→Int→List Rw
 |0,p,acc,st=>[fin cut wd st acc]
 |k+1,p,acc,st=>if cd T p=10 then fin cut wd st acc::rowsL cut wd T k (p+1) [] (p+1) else
  if cut=false∧wd-1< acc.length+(sgn T p).length then⟨st,acc,92⟩::rowsL cut wd T k (p+1) (sgn T p) p else rowsL cut wd T k (p+1) (acc++sgn T p) st
theorem rowsL_0{cut:Bool}{T:List Int}{p:Int}:rowsL cut wd T 0 p acc st=[fin cut wd st acc]:=rfl
theorem rowsL_s{cut:Bool}{T:List Int}{p:Int}:rowsL cut wd T (k+1) p acc st=if cd T p=10 then fin cut wd st acc::rowsL cut wd T k (p+1) [] (p+1) else
  if cut=false∧wd-1< acc.length+(sgn T p).length then⟨st,acc,92⟩::rowsL cut wd T k (p+1) (sgn T p) p else rowsL cut wd T k (p+1) (acc++sgn T p) st:=rfl
noncomputable def tot(cut:Bool)(wd:Int)(T:List Int)(hi p:Int):List Rw:=rowsL cut wd T (hi-p).toNat p [] p
noncomputable def g3'(a:Int×Int):V:=.tup [.int a.1,.int 0,.int a.2]
theorem sgn_map{T:List Int}{p:Int}:(sgn T p).map g3'=(cc (cd T p)).map (g3 p):=by delta sgn;rw[List.map_map];rfl
theorem cc_len{c:Int}:1≤(cc c).length∧(cc c).length≤2:=by delta cc;split<;>exact⟨bl rfl,bl rfl⟩
theorem sgn_len{T:List Int}{p:Int}:(sgn T p).length=(cc (cd T p)).length:=List.length_map _
section
variable{cut:Bool}{T:List Int}{p:Int}
theorem rL_end(h:hi≤p):rowsL cut wd T (hi-p).toNat p acc st=[fin cut wd st acc]:=by rw[show(hi-p).toNat=0 by(exact li2 2 [_,_] [_] (.tn (.s J0 J1) U0) (.le J0 J1) (.neq U0 O0) rfl (tn (hi-p)) h)];rfl
theorem rL_nl(h:p< hi)(c:cd T p=10):rowsL cut wd T (hi-p).toNat p acc st=fin cut wd st acc::tot cut wd T hi (p+1):=by
 rw[show(hi-p).toNat=(hi-(p+1)).toNat+1 by exact li3 2 [_,_] [_,_] (.tn (.s J0 J1) U0) (.tn (.s J0 (.a J1 I1)) U1) (.lt J1 J0) (.neq U0 (.a U1 O1)) rfl (tn (hi-p)) (tn (hi-(p+1))) h,rowsL_s,if_pos c];rfl
theorem rL_go(h:p< hi)(c:cd T p≠10)(f:¬(cut=false∧wd-1< acc.length+(sgn T p).length)):rowsL cut wd T (hi-p).toNat p acc st=rowsL cut wd T (hi-(p+1)).toNat (p+1) (acc++sgn T p) st:=by
 rw[show(hi-p).toNat=(hi-(p+1)).toNat+1 by exact li3 2 [_,_] [_,_] (.tn (.s J0 J1) U0) (.tn (.s J0 (.a J1 I1)) U1) (.lt J1 J0) (.neq U0 (.a U1 O1)) rfl (tn (hi-p)) (tn (hi-(p+1))) h,rowsL_s,if_neg c,if_neg f]
theorem rL_fold(h:p< hi)(c:cd T p≠10)(hw:3≤wd)(f:wd-1< acc.length+(sgn T p).length):rowsL false wd T (hi-p).toNat p acc st=⟨st,acc,92⟩::tot false wd T hi p:=by
 have k:=@cc_len (cd T p)
 rw[tot,rL_go (acc:=[]) h c (fun f=>by have:=f.2;rw[sgn_len] at this;rw[List.length_nil] at this;(exact li3 1 [_] [_] (.le (.c 3) J0) (.nle U0 O2) (.lt (.s J0 I1) (.a (.n O0) (.n U0))) .ff rfl hw k.2 this))]
 rw[show(hi-p).toNat=(hi-(p+1)).toNat+1 by exact li3 2 [_,_] [_,_] (.tn (.s J0 J1) U0) (.tn (.s J0 (.a J1 I1)) U1) (.lt J1 J0) (.neq U0 (.a U1 O1)) rfl (tn (hi-p)) (tn (hi-(p+1))) h,rowsL_s,if_neg c,if_pos ⟨rfl,f⟩];rfl
end
section
variable{v op:Addr}{T:List Int}{p:Int}{cut:Bool}
noncomputable def RowQ(Q:V→Hp→Prop)(H:Hp)(cut:Bool)(wd:Int)(T:List Int)(hi p:Int):Prop:=
 ∀(x:RS) (gl:List (Int×Int)) (W:Addr) (o:AObj),H W=none→x.s=p→p≤x.e→x.e≤hi→tot cut wd T hi p=⟨p,gl,x.mark⟩::(if x.en=true then[] else tot cut wd T hi x.e)→Q (.obj 314 (rwFs x (.lst (gl.map g3')))) (H.set W o)
theorem codes_at(E:WE H v ft op T lo hi cut)(h1:lo≤p)(h2:p< hi):OKc (cd T p):=by
 have l1:=E.vw.l1
 have l3:=E.vw.l3
 exact E.c _ (List.mem_of_getElem? (cd_at (li2 2 [_,_] [] (.le J0 J1) (.le I1 J0) (.le I1 J1) rfl h1 l1) (li2 2 [_,_] [_] (.lt J0 J1) (.le J1 (.a (.n U0) I1)) (.le J0 (.n U0)) rfl h2 l3)))
theorem op_at{r:Addr}(E:WE H v ft op T lo hi cut)(d:RD H r gl W):∃dop,∀dr x xs wk,rh H r gl W dr x xs wk op=some (.inst 39 dop (opFs cut)):=by
 refine bc fun ng=>?_
 refine xe1 (E.o) ?_
 rintro dop ho
 refine ng ?_
 exact⟨dop,fun dr x xs wk=>((Sub.refl _).new d.w0) _ _ (d.sub _ _ ho)⟩
theorem sp_folded(t:TX K h0)(hn:22≤n)(E:WE H v ft op T lo hi false)(h1:lo≤p)(h2:p≤hi)(hw:3≤wd)(hw2:wd≤100)(q:RowQ Q H false wd T hi p):
  Fn w h0 n 346 [.ref v,.ref ft,.tup [.int p,.int 0],.int col,.int wd,.ref op] H Q X:=by
 refine fn_row t (by exact lv0 hn rfl) 27 rfl [some (.ref v),some (.ref ft),some (.tup [.int p,.int 0]),some (.int col),some (.int wd),some (.ref op),none,none,none,none,none,none] args_all (by kernel_rfl) ?_
 delta b_folded_row;simp only[↓s_setR,↓e_int,↓e_none,↓e_var,↓e_bin,↓e_tup,↓e_new,↓es_n,↓es_c,↓l_0,↓l_s,↓p_t,↓b_sub,↓ln3]
 intro W dW hW
 refine sp_Walk t (by exact lv hn rfl) E hW h1 fun reach=>⟨rfl,?_⟩
 refine⟨rfl,?_⟩
 show vcSs _ _ _ _ _ [some (.ref v),some (.ref ft),some (.tup [.int p,.int 0]),some (.int col),some (.int wd),some (.ref op),some (.ref W),some (.int (wd-1)),some .none,none,none,none] _ _
 simp only[↓s_set,↓sl_0,↓sl_s,↓e_var,↓e_meth,↓e_new,↓es_n,↓es_c,↓l_0,↓l_s,↓iW (k:=68) rfl]
 refine sp_spot t (by exact lv hn rfl) E hW (.inl rfl) h1 h2 fun reach=>?_
 rw[Int.add_zero]
 intro r dr hr
 refine sp_Row t (by exact lv hn rfl) hW hr fun gl d=>⟨rfl,?_⟩
 refine s_whlI (m:=(hi-p).toNat) (fun m l H'=>∃pp num col reach x acc y10 y11,l=[some (.ref v),some (.ref ft),some (.tup [.int p,.int 0]),some (.int col),some (.int wd),some (.ref op),some (.ref W),some (.int (wd-1)),some .none,some (.ref r),y10,y11]∧
  H'=rh H r gl W dr x (acc.map g3') (wkA dW v ft T hi pp num reach)∧m=(hi-(pp+num)).toNat∧(num=0∨num=1∧pp< hi)∧p≤pp∧pp≤hi∧x.s=p∧x.mark=32∧x.en=false∧acc.length≤wd-1∧rowsL false wd T (hi-(pp+num)).toNat (pp+num) acc p=tot false wd T hi p)
  ⟨p,0,col,reach,_,[],_,_,rfl,rfl,by rw[Int.add_zero],.inl rfl,Int.le_refl _,h2,rfl,rfl,rfl,by show(0:Int)≤_;(exact li1 1 [_] [] (.le (.c 3) J0) (.le I0 (.s J0 I1)) rfl hw),by rw[Int.add_zero];rfl⟩ ?_
 rintro m l H' K' ⟨pp,num,col,reach,x,acc,y10,y11,rfl,rfl,rfl,i1,i2,i3,i4,i5,i6,i7,i8⟩ kn kr
 simp only[↓s_set,↓sl_0,↓sl_s,↓e_bool,↓e_var,↓e_meth,↓es_n,↓l_0,↓l_s,↓p_b,↓sT,↓iK (k:=66) rfl]
 refine sp_rsign t (by exact lv hn rfl) E d i1 (by exact li2 3 [_,_,_] [] (.le J0 J1) (.le J1 J2) (.le J0 J2) rfl h1 i2) i3 fun reach=>?_
 have i9:p≤pp+num:=by exact li2 4 [_,_,_,_] [] (.or (.eq J0 I0) (.and (.eq J0 I1) (.lt J1 J2))) (.le J3 J1) (.le J3 (.a J1 J0)) rfl i1 i2
 have i10:pp+num≤hi:=by exact li2 3 [_,_,_] [] (.or (.eq J0 I0) (.and (.eq J0 I1) (.lt J1 J2))) (.le J1 J2) (.le (.a J1 J0) J2) rfl i1 i3
 generalize pp+num=P at*
 have E':=(E.sub (d.sub (dr:=dr) (x:=x) (xs:=acc.map g3'))).new (o:=wkA dW v ft T hi P 0 reach) d.w0
 by_cases c:P< hi
 ·rw[if_pos c]
  refine s_ite ?_
  unfold sgT
  simp only[↓e_int,↓e_none,↓e_glob,↓e_var,↓e_cmp,↓e_or,↓e_sub,↓l_0,↓l_s,↓p_b,↓c_eq,↓c_ist,↓sF',↓iT (xs:=[.int (cd T P),.int 0,.int P]) (i:=0) (by decide) (by decide) rfl]
  refine dD (fun h=>?_) fun h=>?_
  ·simp only[↓s_expr,↓s_ret,↓nk_r,↓e_var,↓e_call,↓es_n,↓es_c,↓l_0,↓l_s]
   refine sp_eol_some t (by exact lv hn rfl) E d (by exact li2 3 [_,_,_] [] (.le J0 J1) (.le J1 J2) (.le J0 J2) rfl h1 i9) c fun br re wr=>?_
   simp only[↓e_frz,↓e_var,↓l_0,↓l_s]
   refine frz_row d ?_
   refine kr _ _ _ ?_
   refine q _ acc W _ d.W0 i4 (by show p≤P+1;(exact li1 2 [_,_] [] (.le J0 J1) (.le J0 (.a J1 I1)) rfl i9)) (by show P+1≤hi;(exact li1 2 [_,_] [] (.lt J0 J1) (.lt J0 J1) rfl c)) ?_
   rw[←i8,rL_nl c h];show _=(⟨p,acc,x.mark⟩:Rw)::if x.en=true then _ else _;rw[i5,i6];rfl
  ·simp only[↓s_nil,↓nk_n,↓s_set,↓sl_0,↓sl_s,↓e_int,↓e_var,↓e_sub,↓e_call,↓es_n,↓es_c,↓l_0,↓l_s,↓iT (xs:=[.int (cd T P),.int 0,.int P]) (i:=0) (by decide) (by decide) rfl]
   refine sp_shown_codes t (by exact lv hn rfl) (codes_at E (by exact li2 3 [_,_,_] [] (.le J0 J1) (.le J1 J2) (.le J0 J2) rfl h1 i9) c) h E' ?_
   have k1:=@cc_len (cd T P)
   have k2:((cc (cd T P)).map V.int).length=(cc (cd T P)).length:=List.length_map _
   have k3:((cc (cd T P)).map V.int).length< 2^60:=by exact li2 2 [] [_,_] (.nle U0 O2) (.neq U1 U0) (.nlt U1 (.c (2^60))) rfl k1.2 k2
   have k4:(acc.map g3').length=acc.length:=List.length_map _
   have k5:(acc.map g3').length< 2^60:=by exact li3 2 [_] [_,_] (.le J0 (.c 100)) (.le (.n U0) (.s J0 I1)) (.neq U1 U0) (.nlt U1 (.c (2^60))) rfl hw2 i7 k4
   refine s_ite ?_
   simp only[↓e_var,↓e_bin,↓e_cmp,↓e_attr,↓e_b1,↓l_0,↓l_s,↓p_b,↓b_add,↓c_gt,↓rR20 d,↓lenL (rh_g d) k5,↓lenP k3,k2,k4]
   refine dD (fun f=>?_) fun f=>?_
   ·simp only[↓s_expr,↓s_ret,↓s_setA,↓nk_r,↓e_glob,↓e_var,↓e_ite,↓e_attr,↓e_call,↓es_n,↓es_c,↓l_0,↓l_s]
    refine sp_overflow t (by exact lv hn rfl) E d (by exact li2 3 [_,_,_] [] (.le J0 J1) (.le J1 J2) (.le J0 J2) rfl h1 i9) c ?_ ?_ ?_ fun re wr=>?_
    ·have:=codes_at E (by exact li2 3 [_,_,_] [] (.le J0 J1) (.le J1 J2) (.le J0 J2) rfl h1 i9) c;unfold OKc at this;(exact li1 1 [_] [] (.ok5 J0) (.no (.eq J0 (.c 9))) rfl this)
    ·intro e;rw[e] at k4;have k4:(0:Nat)=acc.length:=k4;(exact li4 2 [_] [_,_] (.le (.c 3) J0) (.nle U0 O2) (.lt (.s J0 I1) (.a (.n U1) (.n U0))) (.neq O0 U1) .ff rfl hw k1.2 f k4)
    ·(exact li3 2 [_] [_,_] (.le J0 (.c 100)) (.le (.n U0) (.s J0 I1)) (.neq U1 U0) (.nle U1 (.c 1000)) rfl hw2 i7 k4)
    refine bc fun ng=>?_
    refine xe1 (op_at E d) ?_
    rintro dop ho
    refine ng ?_
    simp only[↓e_var,↓l_0,↓l_s,↓p_b,↓sF,↓gF (ho _ _ _ _) (k:=6) rfl rfl,↓wR24 d,↓e_frz]
    refine frz_row d ?_
    refine kr _ _ _ ?_
    refine q _ acc W _ d.W0 i4 i9 i10 ?_
    rw[←i8,rL_fold c h hw (by rw[sgn_len];(exact li1 2 [_] [_,_] (.lt (.s J0 I1) (.a (.n U0) (.n U1))) (.lt (.s J0 I1) (.a (.n U0) (.n U1))) rfl f))];show _=(⟨p,acc,92⟩:Rw)::if x.en=true then _ else _;rw[i6];rfl
   ·simp only[↓s_nil,↓s_expr,↓nk_n,↓s_set,↓sl_0,↓sl_s,↓e_var,↓e_bin,↓e_call,↓e_meth,↓e_b1,↓es_n,↓es_c,↓l_0,↓l_s]
    refine sp_put_sign t (by exact lv hn rfl) d (by exact li4 3 [_] [_,_,_] (.le J0 (.c 100)) (.le (.n U0) (.s J0 I1)) (.nle U1 O2) (.neq U2 U0) (.nle (.a U2 U1) (.c 100000)) rfl hw2 i7 k1.2 k4) ?_
    simp only[↓b_add,↓lenP k3,k2,↓iK (k:=67) rfl]
    refine sp_rstep t (by exact lv hn rfl) ?_
    refine s_ite ?_
    refine bc fun ng=>?_
    refine xe1 (op_at E d) ?_
    rintro dop ho
    refine ng ?_
    simp only[↓s_nil,↓nk_n,↓e_var,↓e_and,↓e_attr,↓l_0,↓l_s,↓p_b,↓sF,↓gF (ho _ _ _ _) (k:=6) rfl rfl]
    refine kn (hi-(P+1)).toNat _ _ ?_ ⟨P,1,_,reach,x,acc++sgn T P,_,_,rfl,?_,rfl,.inr ⟨rfl,c⟩,i9,i10,i4,i5,i6,?_,?_⟩
    ·(exact li3 2 [_,_] [_,_] (.tn (.s J0 (.a J1 I1)) U0) (.tn (.s J0 J1) U1) (.lt J1 J0) (.nlt U0 U1) rfl (tn (hi-(P+1))) (tn (hi-P)) c)
    ·rw[List.map_append,sgn_map]
    ·rw[List.length_append,sgn_len];(exact li1 2 [_] [_,_] (.no (.lt (.s J0 I1) (.a (.n U0) (.n U1)))) (.le (.n (.a U0 U1)) (.s J0 I1)) rfl f)
    ·rw[←i8,rL_go c h (by rw[sgn_len];exact fun q=>f q.2)]
 ·rw[if_neg c]
  refine s_ite ?_
  simp only[↓s_expr,↓s_ret,↓nk_r,↓e_none,↓e_var,↓e_cmp,↓e_or,↓e_call,↓es_n,↓es_c,↓l_0,↓l_s,↓p_b,↓c_isn,↓sT,↓sT']
  refine sp_eol_none t (by exact lv hn rfl) E d (by exact li3 4 [_,_,_,_] [] (.le J0 J1) (.le J1 J2) (.no (.lt J3 J2)) (.le J0 J3) rfl h1 h2 c) i10 fun re wr=>?_
  simp only[↓e_frz,↓e_var,↓l_0,↓l_s]
  refine frz_row d ?_
  refine kr _ _ _ ?_
  refine q _ acc W _ d.W0 i4 (by show p≤P;(exact li2 3 [_,_,_] [] (.le J0 J1) (.no (.lt J2 J1)) (.le J0 J2) rfl h2 c)) i10 ?_
  rw[←i8,rL_end (by exact li1 2 [_,_] [] (.no (.lt J0 J1)) (.le J1 J0) rfl c)];show _=[(⟨p,acc,x.mark⟩:Rw)];rw[i5];rfl
end
theorem sliceP{Q:List V→Prop}(h0:0≤lo)(h1:lo< 2^60)(h2:0≤hi)(h3:hi< 2^60)(hl:xs.length≤1000000):
  sliceV H (.lst xs) (.int lo) (.int hi) Q=Q ((xs.take hi.toNat).drop lo.toNat):=by
 exact sl2 asS_l (prI h0 h1) (prI h2 h3) hl
theorem mm1(n:Nat):max 0 (0-(n:Int))=0:=li1 1 [_] [_] (.mx I0 (.s I0 (.n U0)) J0) (.eq J0 I0) rfl (xI (0) (0-(↑n:Int)))
theorem mm2(wd:Int)(n:Nat):(max 0 (0+wd-1-(n:Int))).toNat=(wd-1).toNat-n:=li4 4 [_,_] [_,_,_,_] (.tn J0 U0) (.mx I0 (.s (.s (.a I0 J1) I1) (.n U1)) J0) (.sb U2 U1 U3) (.tn (.s J1 I1) U2) (.neq U0 U3) rfl (tn (max 0 (0+wd-1-(↑n:Int)))) (xI (0) (0+wd-1-(↑n:Int))) (ns ((wd-1).toNat) (n)) (tn (wd-1))
theorem mm3(wd:Int)(n:Nat)(h:wd≤100):max 0 (0+wd-1-(n:Int))< 2^60:=li2 2 [_,_] [_] (.mx I0 (.s (.s (.a I0 J0) I1) (.n U0)) J1) (.le J0 (.c 100)) (.lt J1 (.c (2^60))) rfl (xI (0) (0+wd-1-(↑n:Int))) h
theorem slice_mm{Q:List V→Prop}(h2:wd≤100)(hl:xs.length≤1000000):sliceV H (.lst xs) (.int (max 0 (0-(n:Int)))) (.int (max 0 (0+wd-1-(n:Int)))) Q=Q (xs.take ((wd-1).toNat-n)):=by
 rw[mm1,sliceP (Int.le_refl _) (by decide) (Int.le_max_left _ _) (mm3 wd n h2) hl,mm2];rfl
section
variable{v op:Addr}{T:List Int}{p:Int}{cut:Bool}
theorem sp_cut(t:TX K h0)(hn:22≤n)(E:WE H v ft op T lo hi true)(h1:lo≤p)(h2:p≤hi)(hw:3≤wd)(hw2:wd≤100)(q:RowQ Q H true wd T hi p):
  Fn w h0 n 353 [.ref v,.ref ft,.tup [.int p,.int 0],.int wd,.ref op] H Q X:=by
 refine fn_row t (by exact lv0 hn rfl) 28 rfl [some (.ref v),some (.ref ft),some (.tup [.int p,.int 0]),some (.int wd),some (.ref op),none,none,none,none,none,none,none] args_all (by kernel_rfl) ?_
 delta b_cut_row
 rw[s_setR]
 simp only[↓e_int,↓e_var,↓e_attr,↓e_tup,↓e_new,↓es_n,↓es_c,↓l_0,↓l_s,↓p_t,↓ln3]
 intro W dW hW
 refine sp_Walk t (by exact lv hn rfl) E hW h1 fun reach=>⟨rfl,?_⟩
 refine bc fun ng=>?_
 refine xe1 ((E.new (o:=wkA dW v ft T hi p 0 reach) hW).o) ?_
 rintro dop ho
 refine ng ?_
 simp only[↓gF ho (k:=7) rfl rfl]
 refine⟨rfl,?_⟩
 show vcSs _ _ _ _ _ [some (.ref v),some (.ref ft),some (.tup [.int p,.int 0]),some (.int wd),some (.ref op),some (.ref W),some (.int 0),some (.int 0),none,none,none,none] _ _
 rw[s_setR]
 simp only[↓e_int,↓e_var,↓e_bin,↓e_tup,↓e_meth,↓e_new,↓es_n,↓es_c,↓l_0,↓l_s,↓p_t,↓b_add,↓b_sub,↓ln2,↓iW (k:=68) rfl]
 refine sp_spot t (by exact lv hn rfl) E hW (.inl rfl) h1 h2 fun reach=>?_
 rw[Int.add_zero]
 intro r dr hr
 refine sp_Row t (by exact lv hn rfl) hW hr fun gl d=>⟨rfl,?_⟩
 refine⟨rfl,?_⟩
 show vcSs _ _ _ _ _ [some (.ref v),some (.ref ft),some (.tup [.int p,.int 0]),some (.int wd),some (.ref op),some (.ref W),some (.int 0),some (.int 0),some (.ref r),some (.int (0+wd-1)),none,none] _ _
 simp only[↓s_set,↓sl_0,↓sl_s,↓e_var,↓e_meth,↓es_n,↓l_0,↓l_s,↓iK (k:=66) rfl]
 refine sp_rsign t (by exact lv hn rfl) E d (.inl rfl) h1 h2 fun reach=>?_
 rw[Int.add_zero]
 refine s_whlI (m:=(hi-p).toNat) (fun m l H'=>∃P reach x acc y11,l=[some (.ref v),some (.ref ft),some (.tup [.int p,.int 0]),some (.int wd),some (.ref op),some (.ref W),some (.int (acc.length:Int)),some (.int 0),some (.ref r),some (.int (0+wd-1)),some (if P< hi then sgT T P else .none),y11]∧
  H'=rh H r gl W dr x ((acc.take (wd-1).toNat).map g3') (wkA dW v ft T hi P 0 reach)∧m=(hi-P).toNat∧p≤P∧P≤hi∧x.s=p∧x.mark=32∧x.en=false∧rowsL true wd T (hi-P).toNat P acc p=tot true wd T hi p)
  ⟨p,reach,_,[],_,rfl,by rw[List.take_nil];rfl,rfl,Int.le_refl _,h2,rfl,rfl,rfl,rfl⟩ ?_
 rintro m l H' K' ⟨P,reach,x,acc,y11,rfl,rfl,rfl,i2,i3,i4,i5,i6,i8⟩ kn kr
 have E':=(E.sub (d.sub (dr:=dr) (x:=x) (xs:=(acc.take (wd-1).toNat).map g3'))).new (o:=wkA dW v ft T hi P 0 reach) d.w0
 have k6:(0+wd-1:Int)=wd-1:=by exact li0 1 [_] [] (.eq (.s (.a I0 J0) I1) (.s J0 I1)) rfl
 have fin:∀(x:RS) (xs:List V) (wr e:Int) (y10 y11:Option V),x.s=p→x.mark=32→xs=(acc.take (wd-1).toNat).map g3'→p≤x.e→x.e≤hi→tot true wd T hi p=fin true wd p acc::(if x.en=true then[] else tot true wd T hi x.e)→
   vcSs w h0 (n-2) (fun x H'=>X H') (.cons (.ite (.cmp .Gt (.var 6) (.var 9)) (.cons (.setA (.var 8) 24 (.glob "DOLLAR" (.int 36))) .nil) .nil) (.cons (.ite (.and (.cmp .Gt (.var 7) (.int 0)) .stop) (.cons .stop .nil) .nil) (.cons (.ret (.frz (.var 8))) .nil)))
    [some (.ref v),some (.ref ft),some (.tup [.int p,.int 0]),some (.int wd),some (.ref op),some (.ref W),some (.int (acc.length:Int)),some (.int 0),some (.ref r),some (.int (0+wd-1)),y10,y11]
    (rh H r gl W dr x xs (wkA dW v ft T hi e 0 wr)) (fun fl x H'=>Q (retV fl) H'):=by
  rintro x xs wr e y10 y11 j1 j2 rfl j3 j4 j5
  have d':∀(x:RS),x.s=p→p≤x.e→x.e≤hi→x.mark=(if wd≤(acc.length:Int) then 36 else 32)→tot true wd T hi p=Mine.fin true wd p acc::(if x.en=true then[] else tot true wd T hi x.e)→Q (.obj 314 (rwFs x (.lst ((acc.take (wd-1).toNat).map g3')))) (H.set W (wkA dW v ft T hi e 0 wr)):=
   fun x a1 a2 a3 a4 a5=>q x _ W _ d.W0 a1 a2 a3 (by rw[a5,a4];rfl)
  refine s_ite ?_
  simp only[↓e_var,↓e_cmp,↓l_0,↓l_s,↓p_b,↓c_gt,k6]
  refine dD (fun f=>?_) fun f=>?_
  ·simp only[↓s_nil,↓s_setA,↓nk_n,↓e_glob,↓e_var,↓l_0,↓l_s,↓wR24 d]
   refine s_ite ?_
   simp only[↓s_nil,↓s_ret,↓nk_n,↓retV_r,↓e_int,↓e_var,↓e_cmp,↓e_and,↓l_0,↓l_s,↓p_b,↓c_gt,↓sF,↓dF (by decide:¬(0:Int)< 0),↓dF' (by decide:¬(0:Int)< 0),↓nF (by decide:¬(0:Int)< 0),↓nF' (by decide:¬(0:Int)< 0),↓e_frz]
   refine frz_row d ?_
   exact d' _ j1 j3 j4 (by rw[if_pos (by exact li1 1 [_] [_] (.lt (.s J0 I1) (.n U0)) (.le J0 (.n U0)) rfl f)]) j5
  ·simp only[↓s_nil,↓nk_n]
   refine s_ite ?_
   simp only[↓s_nil,↓s_ret,↓nk_n,↓retV_r,↓e_int,↓e_var,↓e_cmp,↓e_and,↓l_0,↓l_s,↓p_b,↓c_gt,↓sF,↓dF (by decide:¬(0:Int)< 0),↓dF' (by decide:¬(0:Int)< 0),↓nF (by decide:¬(0:Int)< 0),↓nF' (by decide:¬(0:Int)< 0),↓e_frz]
   refine frz_row d ?_
   exact d' _ j1 j3 j4 (by rw[if_neg (by exact li1 1 [_] [_] (.no (.lt (.s J0 I1) (.n U0))) (.no (.le J0 (.n U0))) rfl f)];exact j2) j5
 by_cases c:P< hi
 ·rw[if_pos c]
  delta sgT
  simp only[↓e_int,↓e_none,↓e_glob,↓e_var,↓e_cmp,↓e_and,↓e_sub,↓l_0,↓l_s,↓p_b,↓c_ne,↓c_int,↓sT,↓iT (xs:=[.int (cd T P),.int 0,.int P]) (i:=0) (by decide) (by decide) rfl]
  refine dN (fun h=>?_) fun h=>?_
  ·have k1:=@cc_len (cd T P)
   have k2:((cc (cd T P)).map V.int).length=(cc (cd T P)).length:=List.length_map _
   have k3:((cc (cd T P)).map V.int).length< 2^60:=by exact li2 2 [] [_,_] (.nle U0 O2) (.neq U1 U0) (.nlt U1 (.c (2^60))) rfl k1.2 k2
   simp only[↓s_nil,↓s_expr,↓s_set,↓sl_0,↓sl_s,↓e_int,↓e_var,↓e_bin,↓e_sub,↓e_slice,↓e_call,↓e_meth,↓e_b1,↓e_b2,↓es_n,↓es_c,↓l_0,↓l_s,↓b_sub,↓m_max,↓iT (xs:=[.int (cd T P),.int 0,.int P]) (i:=0) (by decide) (by decide) rfl]
   refine sp_shown_codes t (by exact lv hn rfl) (codes_at E (by exact li2 3 [_,_,_] [] (.le J0 J1) (.le J1 J2) (.le J0 J2) rfl h1 i2) c) h E' ?_
   simp only[↓slice_mm (xs:=(cc (cd T P)).map V.int) (n:=acc.length) hw2 (Nat.le_trans (Nat.le_of_eq k2) (Nat.le_trans k1.2 (bl rfl)))]
   rw[←List.map_take]
   refine sp_put_sign t (by exact lv hn rfl) d ?_ ?_
   ·rw[List.length_map,List.length_take,List.length_take];exact a_cut hw2/-(first|lia|omega)-/
   simp only[↓b_add,↓lenP k3,k2,↓iK (k:=67) rfl]
   refine sp_rstep t (by exact lv hn rfl) ?_
   simp only[↓iK (k:=66) rfl]
   refine sp_rsign t (by exact lv hn rfl) E d (.inr ⟨rfl,c⟩) (by exact li2 3 [_,_,_] [] (.le J0 J1) (.le J1 J2) (.le J0 J2) rfl h1 i2) i3 fun reach=>?_
   refine kn (hi-(P+1)).toNat _ _ (by exact li3 2 [_,_] [_,_] (.tn (.s J0 (.a J1 I1)) U0) (.tn (.s J0 J1) U1) (.lt J1 J0) (.nlt U0 U1) rfl (tn (hi-(P+1))) (tn (hi-P)) c) ⟨P+1,reach,x,acc++sgn T P,some (.lst ((cc (cd T P)).map V.int)),?_,?_,rfl,by exact li1 2 [_,_] [] (.le J0 J1) (.le J0 (.a J1 I1)) rfl i2,by exact li1 2 [_,_] [] (.lt J0 J1) (.lt J0 J1) rfl c,i4,i5,i6,?_⟩
   ·rw[List.length_append,sgn_len];rfl
   ·rw[List.take_append,List.map_append,List.map_take (l:=sgn T P),sgn_map,←List.map_take]
   ·rw[←i8,rL_go (cut:=true) c h fun f=>Bool.false_ne_true f.1.symm]
  ·simp only[↓s_expr,↓e_int,↓e_var,↓e_call,↓es_n,↓es_c,↓l_0,↓l_s]
   refine sp_eol_some t (by exact lv hn rfl) E d (by exact li2 3 [_,_,_] [] (.le J0 J1) (.le J1 J2) (.le J0 J2) rfl h1 i2) c fun br re wr=>?_
   refine fin _ _ _ _ _ _ i4 i5 rfl (by show p≤P+1;(exact li1 2 [_,_] [] (.le J0 J1) (.le J0 (.a J1 I1)) rfl i2)) (by show P+1≤hi;(exact li1 2 [_,_] [] (.lt J0 J1) (.lt J0 J1) rfl c)) ?_
   rw[←i8,rL_nl c h];show _=_::if x.en=true then _ else _;rw[i6];rfl
 ·rw[if_neg c]
  simp only[↓s_expr,↓e_int,↓e_none,↓e_var,↓e_cmp,↓e_and,↓e_call,↓es_n,↓es_c,↓l_0,↓l_s,↓p_b,↓c_inn,↓sF]
  refine sp_eol_none t (by exact lv hn rfl) E d (by exact li3 4 [_,_,_,_] [] (.le J0 J1) (.le J1 J2) (.no (.lt J3 J2)) (.le J0 J3) rfl h1 h2 c) i3 fun re wr=>?_
  refine fin _ _ _ _ _ _ i4 i5 rfl (by show p≤P;(exact li2 3 [_,_,_] [] (.le J0 J1) (.no (.lt J2 J1)) (.le J0 J2) rfl h2 c)) i3 ?_
  rw[←i8,rL_end (by exact li1 2 [_,_] [] (.no (.lt J0 J1)) (.le J1 J0) rfl c)];rfl
end
section
variable{v op:Addr}{T:List Int}{p:Int}{cut:Bool}
theorem sp_laid_row(t:TX K h0)(hn:24≤n)(E:WE H v ft op T lo hi cut)(h1:lo≤p)(h2:p≤hi)(hw:3≤wd)(hw2:wd≤100)(q:RowQ Q H cut wd T hi p):
  Fn w h0 n 360 [.ref v,.ref ft,.tup [.int p,.int 0],.int col,.int wd,.ref op] H Q X:=by
 refine fn_row t (lv0 hn rfl) 29 rfl [some (.ref v),some (.ref ft),some (.tup [.int p,.int 0]),some (.int col),some (.int wd),some (.ref op)] args_all (by kernel_rfl) ?_
 refine bc fun ng=>?_
 refine xe1 (E.o) ?_
 rintro dop ho
 refine ng ?_
 delta b_laid_row
 refine s_ite ?_
 simp only[↓e_var,↓e_attr,↓l_0,↓l_s,↓p_b,↓gF ho (k:=5) rfl rfl]
 cases cut with
 |true=>simp only[↓s_ret,↓nk_r,↓retV_r,↓e_var,↓e_call,↓es_n,↓es_c,↓l_0,↓l_s,↓sT];exact sp_cut t (lv hn rfl) E h1 h2 hw hw2 q
 |false=>simp only[↓s_nil,↓s_ret,↓nk_n,↓retV_r,↓e_var,↓e_call,↓es_n,↓es_c,↓l_0,↓l_s,↓sF];exact sp_folded t (lv hn rfl) E h1 h2 hw hw2 q
theorem rX23{x:RS}{g:V}:(OptP (getF H 23 (.obj 314 (rwFs x g))) fun u=>isOpq u=false∧q u)=q (.bool x.en):=gO rfl rfl
theorem rX18{x:RS}{g:V}:(OptP (getF H 18 (.obj 314 (rwFs x g))) fun u=>isOpq u=false∧q u)=q (.tup [.int x.e,.int 0]):=gO rfl rfl
theorem rX19{x:RS}{g:V}:(OptP (getF H 19 (.obj 314 (rwFs x g))) fun u=>isOpq u=false∧q u)=q (.int x.nc):=gO rfl rfl
structure RX where
 x:RS
 gl:List (Int×Int)
noncomputable def RX.va(a:RX):V:=.obj 314 (rwFs a.x (.lst (a.gl.map g3')))
noncomputable def RX.rw(a:RX):Rw:=⟨a.x.s,a.gl,a.x.mark⟩
theorem sp_laid_rows(t:TX K h0)(hn:26≤n)(E:WE H v ft op T lo hi cut)(h1:lo≤p)(h2:p≤hi)(hw:3≤wd)(hw2:wd≤100)
  (q:∀(xs:List RX) H',Sub H H'→xs.map RX.rw=(tot cut wd T hi p).take 3→Q (.lst (xs.map RX.va)) H'):
  Fn w h0 n 367 [.ref v,.ref ft,.tup [.int p,.int 0],.int col,.int 3,.int wd,.ref op] H Q X:=by
 refine fn_row t (lv0 hn rfl) 30 rfl [some (.ref v),some (.ref ft),some (.tup [.int p,.int 0]),some (.int col),some (.int 3),some (.int wd),some (.ref op),none,none] args_all (by kernel_rfl) ?_
 delta b_laid_rows;simp only[↓s_set,↓sl_0,↓sl_s,↓e_lstM,↓es_n,↓ln0]
 intro fl hfl
 refine s_whlI (m:=3) (fun m l H'=>∃P col xs y8 H₁,l=[some (.ref v),some (.ref ft),some (.tup [.int P,.int 0]),some (.int col),some (.int 3),some (.int wd),some (.ref op),some (.ref fl),y8]∧
  H'=H₁.set fl (.list (xs.map RX.va))∧m=3-xs.length∧Sub H H₁∧H₁ fl=none∧xs.length≤3∧p≤P∧P≤hi∧xs.map RX.rw++tot cut wd T hi P=tot cut wd T hi p)
  ⟨p,col,[],_,H,rfl,rfl,rfl,Sub.refl _,hfl,by decide,Int.le_refl _,h2,rfl⟩ ?_
 rintro m l H' K' ⟨P,col,xs,y8,H₁,rfl,rfl,rfl,i1,i2,i3,i4,i5,i6⟩ kn kr
 have k1:(xs.map RX.va).length=xs.length:=List.length_map _
 have k2:(xs.map RX.va).length< 2^60:=li2 2 [] [_,_] (.nle U0 (.c 3)) (.neq U1 U0) (.nlt U1 (.c (2^60))) rfl i3 k1
 simp only[↓e_var,↓e_cmp,↓e_b1,↓l_0,↓l_s,↓p_b,↓c_lt,↓lenL (H₁.set_self fl _) k2,k1]
 refine dD (fun c=>?_) fun c=>?_
 ·simp only[↓s_expr,↓s_set,↓sl_0,↓sl_s,↓e_var,↓e_call,↓e_app,↓es_n,↓es_c,↓l_0,↓l_s]
  have E':WE (H₁.set fl (.list (xs.map RX.va))) v ft op T lo hi cut:=E.sub (i1.trans ((Sub.refl _).new i2))
  refine sp_laid_row t (lv hn rfl) E' (li2 3 [_,_,_] [] (.le J0 J1) (.le J1 J2) (.le J0 J2) rfl h1 i4) i5 hw hw2 fun x gl W o hW j1 j2 j3 j4=>?_
  have fW:fl≠W:=(ne_new hW).symm
  have hW1:H₁ W=none:=by rw[Hp.set_ne _ _ fW.symm] at hW;exact hW
  have e1:(H₁.set fl (.list (xs.map RX.va))).set W o=(H₁.set W o).set fl (.list (xs.map RX.va)):=set_comm fW
  have e2:((H₁.set W o).set fl (.list (xs.map RX.va))) fl=some (.list (xs.map RX.va)):=Hp.set_self _ _ _
  have k3:(asL ((H₁.set W o).set fl (.list (xs.map RX.va))) (.ref fl)).isSome=true:=by rw[aL e2];rfl
  have k4:(xs++[⟨x,gl⟩]:List RX).map RX.va=xs.map RX.va++[.obj 314 (rwFs x (.lst (gl.map g3')))]:=by rw[List.map_append];rfl
  have k5:∀Q:Hp→Prop,appV ((H₁.set W o).set fl (.list (xs.map RX.va))) (.ref fl) (.obj 314 (rwFs x (.lst (gl.map g3')))) Q=Q ((H₁.set W o).set fl (.list ((xs++[⟨x,gl⟩]:List RX).map RX.va))):=by
   intro Q;simp only[appV,e2];rw[set_set,k4];exact and_t (li2 2 [] [_,_] (.neq U0 U1) (.lt (.n U1) (.c 3)) (.nle U0 (.c 100000)) rfl k1 c)
  have k6:(xs++[⟨x,gl⟩]:List RX).map RX.rw=xs.map RX.rw++[⟨P,gl,x.mark⟩]:=by rw[List.map_append,←j1];rfl
  have k7:(xs++[⟨x,gl⟩]:List RX).length=xs.length+1:=by rw[List.length_append];rfl
  have k8:Sub H (H₁.set W o):=i1.trans ((Sub.refl _).new hW1)
  have k9:(H₁.set W o) fl=none:=by rw[Hp.set_ne _ _ fW];exact i2
  simp only[e1,↓and_t k3,k5]
  refine s_ite ?_
  simp only[↓e_var,↓e_attr,↓l_0,↓l_s,↓p_b,↓rX23]
  refine⟨fun h=>?_,fun h=>?_⟩
  ·simp only[↓s_ret,↓nk_r,↓e_var,↓l_0,↓l_s,↓e_frz]
   refine frz_lst k9 ?_
   refine kr _ _ _ ?_
   refine q _ _ k8 ?_
   rw[k6,←i6,j4,if_pos h,List.take_of_length_le]
   rw[List.length_append,List.length_map];show xs.length+1≤3;(exact li1 1 [] [_] (.lt (.n U0) (.c 3)) (.nlt U0 (.c 3)) rfl c)
  ·simp only[↓s_nil,↓nk_n]
   rw[s_setR]
   simp only[↓e_var,↓e_attr,↓e_tup,↓es_n,↓es_c,↓l_0,↓l_s,↓p_t,↓ln2,↓rX18,↓rX19]
   refine⟨rfl,?_⟩
   refine kn (3-(xs.length+1)) _ _ (li3 3 [] [_,_,_] (.sb (.c 3) (.a U0 O1) U1) (.sb (.c 3) U0 U2) (.lt (.n U0) (.c 3)) (.nlt U1 U2) rfl (ns (3) (xs.length+1)) (ns (3) (xs.length)) c) ⟨x.e,x.nc,xs++[⟨x,gl⟩],some (.obj 314 (rwFs x (.lst (gl.map g3')))),H₁.set W o,rfl,rfl,by rw[k7],k8,k9,by exact li2 2 [] [_,_] (.lt (.n U0) (.c 3)) (.neq U1 (.a U0 O1)) (.nle U1 (.c 3)) rfl c k7,by exact li2 3 [_,_,_] [] (.le J0 J1) (.le J1 J2) (.le J0 J2) rfl i4 j2,by exact li1 2 [_,_] [] (.le J0 J1) (.le J0 J1) rfl j3,?_⟩
   rw[k6,←i6,j4,if_neg (by rw[h];exact Bool.false_ne_true),List.append_assoc];rfl
 ·simp only[↓s_ret,↓retV_r,↓e_var,↓l_0,↓l_s,↓e_frz]
  refine frz_lst i2 ?_
  refine q _ _ i1 ?_
  rw[←i6,List.take_left' (by rw[List.length_map];(exact li2 1 [] [_] (.nle U0 (.c 3)) (.no (.lt (.n U0) (.c 3))) (.neq U0 (.c 3)) rfl i3 c))]
end
noncomputable def g2(a:Int×Int):V:=.tup [.int a.1,.int a.2]
noncomputable def rwV(r:Rw):V:=.tup [.int r.st,.lst (r.gl.map g2),.int r.mark]
noncomputable def sV(s:List (Int×Int)):V:=.lst (s.map g2)
noncomputable def sgs(T:List Int):Nat→Int→List (List (Int×Int))
 |0,_=>[]
 |k+1,p=>sgn T p::sgs T k (p+1)
noncomputable def fst2(s:List (Int×Int)):Int:=((s.head?).map (·.2)).getD 0
noncomputable def FoldR(room:Int):List (List (Int×Int))→List (Int×Int)→Int→List Rw
 |[],acc,st=>[⟨st,acc,32⟩]
 |s::r,acc,st=>if room< acc.length+s.length then⟨st,acc,92⟩::FoldR room r s (fst2 s) else FoldR room r (acc++s) st
theorem sgs_0{T:List Int}{p:Int}:sgs T 0 p=[]:=rfl
theorem sgs_s{T:List Int}{p:Int}:sgs T (k+1) p=sgn T p::sgs T k (p+1):=rfl
theorem FoldR_n{room:Int}:FoldR room [] acc st=[⟨st,acc,32⟩]:=rfl
theorem FoldR_c{room:Int}{s:List (Int×Int)}{r:List (List (Int×Int))}:FoldR room (s::r) acc st=if room< acc.length+s.length then⟨st,acc,92⟩::FoldR room r s (fst2 s) else FoldR room r (acc++s) st:=rfl
theorem flatV_c{ys:List V}{r:List V}:flatV (.lst ys::r)=(flatV r).map (ys++·):=rfl
theorem fst2_sgn{T:List Int}{p:Int}:fst2 (sgn T p)=p:=by delta sgn cc;split<;>rfl
theorem sgs_len{T:List Int}:∀{k:Nat} {p:Int},(sgs T k p).length=k
 |0,_=>rfl
 |k+1,p=>by rw[sgs_s,List.length_cons,sgs_len]
theorem sgs_mem{T:List Int}:∀{k:Nat} {p:Int} {s:List (Int×Int)},s∈sgs T k p→∃c,s=sgn T c
 |0,_,s,h=>(by exact nomatch h)
 |k+1,p,s,h=>by
  rcases List.mem_cons.mp h with h|h
  ·exact⟨p,h⟩
  ·exact sgs_mem h
theorem rL_len{cut:Bool}{T:List Int}:∀{k:Nat} {p:Int} {acc:List (Int×Int)} {st:Int},(rowsL cut wd T k p acc st).length≤k+1
 |0,_,_,_=>Nat.le_refl _
 |k+1,p,acc,st=>by
  rw[rowsL_s]
  split
  ·rw[List.length_cons];exact Nat.succ_le_succ rL_len
  ·split
   ·rw[List.length_cons];exact Nat.succ_le_succ rL_len
   ·exact Nat.le_succ_of_le rL_len
section
variable{T:List Int}
noncomputable def rest(cut:Bool)(wd:Int)(T:List Int)(hi e:Int):List Rw:=if hi≤e then[] else tot cut wd T hi (e+1)
theorem line_cut:∀(k:Nat) (p:Int) (acc:List (Int×Int)) (st:Int),k=(e-p).toNat→p≤e→e≤hi→(∀q,p≤q→q< e→cd T q≠10)→(e=hi∨cd T e=10)→
  rowsL true wd T (hi-p).toNat p acc st=fin true wd st (acc++(sgs T k p).flatten)::rest true wd T hi e
 |0,p,acc,st,hk,h1,h2,h3,h4=>by
  obtain rfl:p=e:=by exact li3 2 [_,_] [_] (.tn (.s J0 J1) U0) (.neq O0 U0) (.le J1 J0) (.eq J1 J0) rfl (tn (e-p)) hk h1
  rw[sgs_0,List.flatten_nil,List.append_nil,rest]
  by_cases c:hi≤p
  ·rw[if_pos c,rL_end c]
  ·rw[if_neg c,rL_nl (by exact li1 2 [_,_] [] (.no (.le J0 J1)) (.lt J1 J0) rfl c) (h4.resolve_left (by exact li1 2 [_,_] [] (.no (.le J0 J1)) (.no (.eq J1 J0)) rfl c))]
 |k+1,p,acc,st,hk,h1,h2,h3,h4=>by
  rw[rL_go (cut:=true) (by exact li3 3 [_,_,_] [_,_] (.tn (.s J0 J1) U0) (.neq (.a U1 O1) U0) (.le J0 J2) (.lt J1 J2) rfl (tn (e-p)) hk h2) (h3 p (Int.le_refl _) (by exact li2 2 [_,_] [_,_] (.tn (.s J0 J1) U0) (.neq (.a U1 O1) U0) (.lt J1 J0) rfl (tn (e-p)) hk)) fun f=>Bool.false_ne_true f.1.symm,line_cut k (p+1) (acc++sgn T p) st (by exact li3 3 [_,_] [_,_,_] (.tn (.s J0 (.a J1 I1)) U0) (.tn (.s J0 J1) U1) (.neq (.a U2 O1) U1) (.neq U2 U0) rfl (tn (e-(p+1))) (tn (e-p)) hk) (by exact li2 2 [_,_] [_,_] (.tn (.s J0 J1) U0) (.neq (.a U1 O1) U0) (.lt J1 J0) rfl (tn (e-p)) hk) h2 (fun q a b=>h3 q (by exact li1 2 [_,_] [] (.lt J0 J1) (.le J0 J1) rfl a) b) h4,sgs_s,List.flatten_cons,List.append_assoc]
theorem line_fold(hw:3≤wd):∀(k:Nat) (p:Int) (acc:List (Int×Int)) (st:Int),k=(e-p).toNat→p≤e→e≤hi→(∀q,p≤q→q< e→cd T q≠10)→(e=hi∨cd T e=10)→
  rowsL false wd T (hi-p).toNat p acc st=FoldR (wd-1) (sgs T k p) acc st++rest false wd T hi e
 |0,p,acc,st,hk,h1,h2,h3,h4=>by
  obtain rfl:p=e:=by exact li3 2 [_,_] [_] (.tn (.s J0 J1) U0) (.neq O0 U0) (.le J1 J0) (.eq J1 J0) rfl (tn (e-p)) hk h1
  rw[sgs_0,FoldR_n,rest]
  by_cases c:hi≤p
  ·rw[if_pos c,rL_end c];rfl
  ·rw[if_neg c,rL_nl (by exact li1 2 [_,_] [] (.no (.le J0 J1)) (.lt J1 J0) rfl c) (h4.resolve_left (by exact li1 2 [_,_] [] (.no (.le J0 J1)) (.no (.eq J1 J0)) rfl c))];rfl
 |k+1,p,acc,st,hk,h1,h2,h3,h4=>by
  have nl:=h3 p (Int.le_refl _) (by exact li2 2 [_,_] [_,_] (.tn (.s J0 J1) U0) (.neq (.a U1 O1) U0) (.lt J1 J0) rfl (tn (e-p)) hk)
  have go:=fun acc st=>line_fold hw k (p+1) acc st (by exact li3 3 [_,_] [_,_,_] (.tn (.s J0 (.a J1 I1)) U0) (.tn (.s J0 J1) U1) (.neq (.a U2 O1) U1) (.neq U2 U0) rfl (tn (e-(p+1))) (tn (e-p)) hk) (by exact li2 2 [_,_] [_,_] (.tn (.s J0 J1) U0) (.neq (.a U1 O1) U0) (.lt J1 J0) rfl (tn (e-p)) hk) h2 (fun q a b=>h3 q (by exact li1 2 [_,_] [] (.lt J0 J1) (.le J0 J1) rfl a) b) h4
  rw[sgs_s,FoldR_c]
  by_cases f:wd-1< acc.length+(sgn T p).length
  ·have s0:¬(false=false∧wd-1< (([]:List (Int×Int)).length:Int)+(sgn T p).length):=fun f=>by have:=f.2;have k1:=@cc_len (cd T p);rw[sgn_len] at this;rw[List.length_nil] at this;(exact li3 1 [_] [_] (.le (.c 3) J0) (.lt (.s J0 I1) (.a (.n O0) (.n U0))) (.nle U0 O2) .ff rfl hw this k1.2)
   rw[if_pos f,rL_fold (by exact li3 3 [_,_,_] [_,_] (.tn (.s J0 J1) U0) (.neq (.a U1 O1) U0) (.le J0 J2) (.lt J1 J2) rfl (tn (e-p)) hk h2) nl hw f,tot,rL_go (by exact li3 3 [_,_,_] [_,_] (.tn (.s J0 J1) U0) (.neq (.a U1 O1) U0) (.le J0 J2) (.lt J1 J2) rfl (tn (e-p)) hk h2) nl s0,List.nil_append,go,fst2_sgn];rfl
  ·rw[if_neg f,rL_go (by exact li3 3 [_,_,_] [_,_] (.tn (.s J0 J1) U0) (.neq (.a U1 O1) U0) (.le J0 J2) (.lt J1 J2) rfl (tn (e-p)) hk h2) nl fun g=>f g.2,go]
end
theorem flat_sV:∀(ss:List (List (Int×Int))),flatV (ss.map sV)=some (ss.flatten.map g2)
 |[]=>rfl
 |s::r=>by rw[List.map_cons,sV,flatV_c,flat_sV r,List.flatten_cons,List.map_append];rfl
theorem frz_drop{v:V}(h:H a=none)(q:Q v H):Frz v (H.set a o) Q:=
 ⟨v,H,fun _=>none,(Sub.refl H).new h,fun b o e=>((by exact nope1 e)),.same _,q⟩
theorem bAdd{x:V}{ys:List V}(hx:asL H x=some xs)(hy:asL H y=some ys)(hl:xs.length+ys.length≤1000000)(h:Q (.lst (xs++ys)) H)(hn:(∃a,x=.ref a)∨∃zs,x=.lst zs):binV .Add x y H Q:=by
 rcases hn with⟨a,rfl⟩|⟨zs,rfl⟩<;>exact⟨xs,ys,hx,hy,hl,.inl h⟩
section
variable{T:List Int}{b room:Int}{cut:Bool}
theorem sp_law_folded(t:TX K h0)(hn:2≤n)(hs:∀s∈ss,1≤s.length∧s.length≤2)(hl:ss.length≤20000)(hr:room≤100)(q:Q (.lst ((FoldR room ss [] b).map rwV)) H):
  Fn w h0 n 949 [.lst (ss.map sV),.int b,.int room] H Q X:=by
 refine fn_row t hn 78 rfl [some (.lst (ss.map sV)),some (.int b),some (.int room),none,none,none,none] args_all (by kernel_rfl) ?_
 delta b_law_folded_rows
 rw[s_setR]
 simp only[↓e_var,↓e_tup,↓e_lst,↓e_lstM,↓es_n,↓es_c,↓l_0,↓l_s,↓p_t,↓ln0,↓ln3]
 intro fl hfl
 refine⟨rfl,?_⟩
 show vcSs _ _ _ _ _ [some (.lst (ss.map sV)),some (.int b),some (.int room),some (.ref fl),some (.lst []),some (.int b),none] _ _
 refine s_for ?_
 simp only[↓e_none,↓e_var,↓l_0,↓it_l]
 refine⟨by rw[List.length_map];(exact li1 1 [] [_] (.nle U0 (.c 20000)) (.nle U0 (.c 100000)) rfl hl),?_⟩
 refine for_inv (fun ys l H'=>∃ts acc st found y6,ys=ts.map sV∧l=[some (.lst (ss.map sV)),some (.int b),some (.int room),some (.ref fl),some (.lst (acc.map g2)),some (.int st),y6]∧H'=H.set fl (.list (found.map rwV))∧
  (∀s∈ts,1≤s.length∧s.length≤2)∧acc.length≤200∧found.length+ts.length≤20000∧found++FoldR room ts acc st=FoldR room ss [] b) ?_ ?_ _ _ _ ⟨ss,[],b,[],none,rfl,rfl,rfl,hs,by decide,by show 0+_≤_;(exact li1 1 [] [_] (.nle U0 (.c 20000)) (.nle (.a O0 U0) (.c 20000)) rfl hl),rfl⟩
 ·rintro a ys l H' K' ⟨ts,acc,st,found,y6,h1,rfl,rfl,h2,h3,h4,h5⟩ k1 k2
  cases ts with
  |nil=>cases h1
  |cons s ts=>
   cases h1
   refine bc fun ng=>?_
   refine xa2 (h2 s (.head _)) ?_
   rintro s1 s2
   refine ng ?_
   have l1:(s.map g2).length=s.length:=List.length_map _
   have l2:(acc.map g2).length=acc.length:=List.length_map _
   have l3:(s.map g2).length< 2^60:=li2 2 [] [_,_] (.nle U0 O2) (.neq U1 U0) (.nlt U1 (.c (2^60))) rfl s2 l1
   have l4:(acc.map g2).length< 2^60:=li2 2 [] [_,_] (.nle U0 (.c 200)) (.neq U1 U0) (.nlt U1 (.c (2^60))) rfl h3 l2
   rw[List.length_cons] at h4
   refine s_ite ?_
   simp only[↓sl_0,↓sl_s,sV,↓e_var,↓e_bin,↓e_cmp,↓e_b1,↓l_0,↓l_s,↓p_b,↓b_add,↓c_gt,↓lenP l3,↓lenP l4,l1,l2]
   rw[FoldR_c] at h5
   refine dD (fun f=>?_) fun f=>?_
   ·rw[if_pos f] at h5
    have e1:asL (H.set fl (.list (found.map rwV))) (.ref fl)=some (found.map rwV):=aL (Hp.set_self _ _ _)
    have e2:(asL (H.set fl (.list (found.map rwV))) (.ref fl)).isSome=true:=by rw[e1];rfl
    have e3:∀Q:Hp→Prop,appV (H.set fl (.list (found.map rwV))) (.ref fl) (.tup [.int st,.lst (acc.map g2),.int 92]) Q=Q (H.set fl (.list ((found++[(⟨st,acc,92⟩:Rw)]).map rwV))):=by
     intro Q;simp only[appV,Hp.set_self];rw[set_set,List.map_append];exact and_t (by rw[List.length_map];(exact li1 2 [] [_,_] (.nle (.a U0 (.a U1 O1)) (.c 20000)) (.nle U0 (.c 100000)) rfl h4))
    simp only[↓s_expr,↓e_int,↓e_var,↓e_tup,↓e_app,↓es_n,↓es_c,↓l_0,↓l_s,↓ln3,↓and_t e2,e3]
    rw[s_setR]
    cases s with
    |nil=>exact absurd s1 (by decide)
    |cons p s=>
    simp only[↓e_int,↓e_var,↓e_sub,↓e_tup,↓e_lst,↓es_n,↓es_c,↓l_0,↓l_s,↓p_t,↓ln0,↓ln2,List.map_cons,g2,↓iP (xs:=V.tup [.int p.1,.int p.2]::s.map g2) (i:=0) (Int.le_refl _) (by decide) rfl,↓iT (xs:=[V.int p.1,V.int p.2]) (i:=1) (by decide) (by decide) rfl]
    refine⟨rfl,?_⟩
    show vcSs _ _ _ _ _ [some (.lst (ss.map sV)),some (.int b),some (.int room),some (.ref fl),some (.lst []),some (.int p.2),some (.lst (V.tup [.int p.1,.int p.2]::s.map g2))] _ _
    simp only[↓s_nil,↓nk_n,↓s_set,↓sl_0,↓sl_s,↓e_var,↓e_bin,↓l_0,↓l_s]
    refine bAL (by rw[List.length_cons] at s2;rw[List.length_nil,List.length_cons,List.length_map];(exact li1 1 [] [_] (.nlt U0 O2) (.nle (.a O0 (.a U0 O1)) (.c 1000000)) rfl s2)) ?_
    exact k1 _ _ ⟨ts,p::s,p.2,found++[(⟨st,acc,92⟩:Rw)],_,rfl,rfl,rfl,fun s hs=>h2 s (.tail _ hs),by exact li1 1 [] [_] (.nle U0 O2) (.nle U0 (.c 200)) rfl s2,by rw[List.length_append];show _+1+_≤_;(exact li1 2 [] [_,_] (.nle (.a U0 (.a U1 O1)) (.c 20000)) (.nle (.a (.a U0 O1) U1) (.c 20000)) rfl h4),by rw[←h5,List.append_assoc];rfl⟩
   ·rw[if_neg f] at h5
    simp only[↓s_nil,↓nk_n,↓s_set,↓sl_0,↓sl_s,↓e_var,↓e_bin,↓l_0,↓l_s]
    refine bAL (li4 4 [] [_,_,_,_] (.nle U0 (.c 200)) (.nle U1 O2) (.neq U2 U1) (.neq U3 U0) (.nle (.a U3 U2) (.c 1000000)) rfl h3 s2 l1 l2) ?_
    rw[←List.map_append]
    exact k1 _ _ ⟨ts,acc++s,st,found,_,rfl,rfl,rfl,fun s hs=>h2 s (.tail _ hs),by rw[List.length_append];(exact li2 2 [_] [_,_] (.le J0 (.c 100)) (.no (.lt J0 (.a (.n U0) (.n U1)))) (.nle (.a U0 U1) (.c 200)) rfl hr f),by exact li1 2 [] [_,_] (.nle (.a U0 (.a U1 O1)) (.c 20000)) (.nle (.a U0 U1) (.c 20000)) rfl h4,h5⟩
 ·rintro l H' ⟨ts,acc,st,found,y6,h1,rfl,rfl,h2,h3,h4,h5⟩
  cases ts with
  |cons c cs'=>cases h1
  |nil=>
   rw[FoldR_n] at h5
   simp only[↓s_ret,↓nk_n,↓retV_r,↓e_int,↓e_var,↓e_bin,↓e_tup,↓e_lst,↓es_n,↓es_c,↓l_0,↓l_s,↓ln1,↓ln3,↓nk_n,↓e_frz]
   refine bAdd (aL (Hp.set_self _ _ _)) rfl ?_ ?_ (.inl ⟨_,rfl⟩)
   ·rw[List.length_map];show _+1≤_;rw[List.length_nil] at h4;(exact li1 1 [] [_] (.nle (.a U0 O0) (.c 20000)) (.nlt U0 (.c 1000000)) rfl h4)
   ·refine frz_drop hfl ?_
    rw[←h5,List.map_append] at q;exact q
end
theorem range_nil{a b:Int}(h:b≤a):rangeV a b=[]:=by delta rangeV;rw[show(b-a).toNat=0 by(exact li2 2 [_,_] [_] (.tn (.s J0 J1) U0) (.le J0 J1) (.neq U0 O0) rfl (tn (b-a)) h)];rfl
theorem range_cons{a b:Int}(h:a< b):rangeV a b=.int a::rangeV (a+1) b:=by
 delta rangeV
 rw[show(b-a).toNat=(b-(a+1)).toNat+1 by exact li3 2 [_,_] [_,_] (.tn (.s J0 J1) U0) (.tn (.s J0 (.a J1 I1)) U1) (.lt J1 J0) (.neq U0 (.a U1 O1)) rfl (tn (b-a)) (tn (b-(a+1))) h,List.range_succ_eq_map,List.map_cons,List.map_map]
 congr 1
 ·show V.int (a+((0:Nat):Int))=_;rw[Int.natCast_zero,Int.add_zero]
 ·refine List.map_congr_left fun i _=>?_
  show V.int (a+((i+1:Nat):Int))=V.int (a+1+(i:Int));congr 1;(exact li0 1 [_] [_] (.eq (.a J0 (.n (.a U0 O1))) (.a (.a J0 I1) (.n U0))) rfl)
theorem range_len{a b:Int}:(rangeV a b).length=(b-a).toNat:=by delta rangeV;rw[List.length_map,List.length_range]
theorem codeV{T:List Int}{p:Int}(h1:1≤p)(h2:p≤T.length):(T.map V.int)[(p-1).toNat]? =some (.int (cd T p)):=by rw[List.getElem?_map,cd_at h1 h2];rfl
theorem sgs_flat_len{T:List Int}:∀{k:Nat} {p:Int},(sgs T k p).flatten.length≤2*k
 |0,_=>Nat.le_refl _
 |k+1,p=>by
  have:=@sgs_flat_len T k (p+1)
  have k1:=@cc_len (cd T p)
  rw[sgs_s,List.flatten_cons,List.length_append,sgn_len];(exact li2 3 [] [_,_,_] (.nle U0 (.m 2 U1)) (.nle U2 O2) (.nle (.a U2 U0) (.m 2 (.a U1 O1))) rfl this k1.2)
theorem absorb{P G A:Prop}(h:(P→G)→A)(f:P→G):A:=h f
theorem asS1{P:Prop}:((asL (H.set a (.list xs)) (.ref a)).isSome=true∧P)=P:=and_t (by rw[aL (H.set_self a _)];rfl)
theorem apS{Q:Hp→Prop}(hl:xs.length≤100000):appV (H.set a (.list xs)) (.ref a) y Q=Q (H.set a (.list (xs++[y]))):=by
 (conv=>lhs;whnf);rw[Hp.set_self];exact(and_t hl).trans (congrArg Q set_set)
theorem e_flat{e:E}{q:V→Hp→Prop}:vcE w h0 n Y (.flat k e) l H q=vcE w h0 n Y e l H fun v H₁=>LstP v fun xs=>OptP (flatV xs) fun ys=>(xs.length≤10000∧ys.length≤100000)∧q (.lst ys) H₁:=rfl
section
variable{T:List Int}{b room:Int}{cut:Bool}
theorem sp_law_rows(t:TX K h0)(hn:4≤n)(l1:1≤lo)(l2:lo≤hi)(l3:hi≤T.length+1)(l4:T.length≤5000)(hw:3≤wd)(hw2:wd≤100)(q:Q (.lst ((tot cut wd T hi lo).map rwV)) H):
  Fn w h0 n 942 [.lst (T.map .int),.int lo,.int hi,.int wd,.bool cut] H Q X:=by
 refine fn_row t (by exact lv0 hn rfl) 77 rfl [some (.lst (T.map .int)),some (.int lo),some (.int hi),some (.int wd),some (.bool cut),none,none,none,none,none,none] args_all (by kernel_rfl) ?_
 delta b_law_rows
 rw[s_setR]
 simp only[↓e_var,↓e_tup,↓e_lstM,↓es_n,↓es_c,↓l_0,↓l_s,↓p_t,↓ln0,↓ln2]
 intro fl hfl
 refine⟨rfl,?_⟩
 show vcSs _ _ _ _ _ [some (.lst (T.map .int)),some (.int lo),some (.int hi),some (.int wd),some (.bool cut),some (.ref fl),some (.int lo),none,none,none,none] _ _
 refine s_whlI (m:=(hi-lo).toNat) (fun m l H'=>∃b found y7 y8 y9 y10,l=[some (.lst (T.map .int)),some (.int lo),some (.int hi),some (.int wd),some (.bool cut),some (.ref fl),some (.int b),y7,y8,y9,y10]∧
  H'=H.set fl (.list (found.map rwV))∧m=(hi-b).toNat∧lo≤b∧b≤hi∧found++tot cut wd T hi b=tot cut wd T hi lo) ⟨lo,[],_,_,_,_,rfl,rfl,rfl,Int.le_refl _,l2,rfl⟩ ?_
 rintro m l H' Ko ⟨b,found,y7,y8,y9,y10,rfl,rfl,rfl,b1,b2,b3⟩ kn kr
 have fl1:found.length≤5001:=by
  have e:=congrArg List.length b3
  have e2:(tot cut wd T hi lo).length≤(hi-lo).toNat+1:=rL_len
  rw[List.length_append] at e;(exact li6 5 [_,_] [_,_,_,_,_] (.tn (.s J0 J1) U0) (.le I1 J1) (.le J0 (.a (.n U1) I1)) (.nle U1 (.c 5000)) (.neq (.a U2 U3) U4) (.nle U4 (.a U0 O1)) (.nle U2 (.c 5001)) rfl (tn (hi-lo)) l1 l3 l4 e e2)
 simp only[↓s_set,↓sl_0,↓sl_s,↓e_bool,↓e_var,↓l_0,↓l_s,↓p_b,↓sT]
 refine s_whlI (m:=(hi-b).toNat) (fun m l H'=>∃e,l=[some (.lst (T.map .int)),some (.int lo),some (.int hi),some (.int wd),some (.bool cut),some (.ref fl),some (.int b),some (.int e),y8,y9,y10]∧
  H'=H.set fl (.list (found.map rwV))∧m=(hi-e).toNat∧b≤e∧e≤hi∧∀q,b≤q→q< e→cd T q≠10) ⟨b,rfl,rfl,rfl,Int.le_refl _,b2,fun q a c=>absurd a (by exact li1 2 [_,_] [] (.lt J0 J1) (.no (.le J1 J0)) rfl c)⟩ ?_
 rintro m l H' Ki ⟨e,rfl,rfl,rfl,e1,e2,e3⟩ kn2 kr2
 apply absorb (P:=e=hi∨cd T e=10)
 ·intro fin
  simp only[↓e_int,↓e_var,↓e_bin,↓e_cmp,↓e_and,↓e_sub,↓l_0,↓l_s,↓p_b,↓b_sub,↓c_lt,↓sF]
  refine dD (fun c=>?_) fun c=>?_
  ·simp only[↓iP (xs:=T.map .int) (i:=e-1) (by exact li3 3 [_,_,_] [] (.le I1 J0) (.le J0 J1) (.le J1 J2) (.le I0 (.s J2 I1)) rfl l1 b1 e1) (by exact li3 2 [_,_] [_] (.le J0 (.a (.n U0) I1)) (.nle U0 (.c 5000)) (.lt J1 J0) (.lt (.s J1 I1) (.c (2^60))) rfl l3 l4 c) (codeV (T:=T) (p:=e) (by exact li3 3 [_,_,_] [] (.le I1 J0) (.le J0 J1) (.le J1 J2) (.le I1 J2) rfl l1 b1 e1) (by exact li2 2 [_,_] [_] (.le J0 (.a (.n U0) I1)) (.lt J1 J0) (.le J1 (.n U0)) rfl l3 c)),↓e_int,↓e_str,↓e_bool,↓e_none,↓e_glob,↓e_var,↓e_neg,↓e_not,↓e_bin,↓e_addM,↓e_cmp,↓e_cmp2,↓e_cmp3,↓e_and,↓e_or,↓e_ite,↓e_attr,↓e_sub,↓e_subK,↓e_slice,↓e_tup,↓e_lst,↓e_lstM,↓e_call,↓e_meth,↓e_clsM,↓e_new,↓e_b1,↓e_b2,↓e_app,↓e_ext,↓es_n,↓es_c,↓o_s,↓l_0,↓l_s,↓p_b,↓p_t,↓n_i,↓n_b,↓b_add,↓b_sub,↓c_eq,↓c_ne,↓c_lt,↓c_le,↓c_gt,↓c_ge,↓c_isn,↓c_isl,↓c_ist,↓c_isr,↓c_inn,↓c_int,↓c_inr,↓m_min,↓m_max,↓b_abs,↓sT,↓sF,↓sT',↓sF',↓ln0,↓ln1,↓ln2,↓ln3,↓ln4,↓ln5,↓ln6]
   refine dN (fun h=>?_) fun h=>?_
   ·simp only[↓s_nil,↓s_set,↓sl_0,↓sl_s,↓e_int,↓e_var,↓e_bin,↓l_0,↓l_s,↓b_add]
    refine kn2 (hi-(e+1)).toNat _ _ (by exact li3 2 [_,_] [_,_] (.tn (.s J0 (.a J1 I1)) U0) (.tn (.s J0 J1) U1) (.lt J1 J0) (.nlt U0 U1) rfl (tn (hi-(e+1))) (tn (hi-e)) c) ⟨e+1,rfl,rfl,rfl,by exact li1 2 [_,_] [] (.le J0 J1) (.le J0 (.a J1 I1)) rfl e1,by exact li1 2 [_,_] [] (.lt J0 J1) (.lt J0 J1) rfl c,fun q a c=>?_⟩
    by_cases k:q=e
    ·rw[k];exact h
    ·exact e3 q a (by exact li2 2 [_,_] [] (.lt J0 (.a J1 I1)) (.no (.eq J0 J1)) (.lt J0 J1) rfl c k)
   ·exact fin (.inr h)
  ·exact fin (.inl (by exact li2 2 [_,_] [] (.le J0 J1) (.no (.lt J0 J1)) (.eq J0 J1) rfl e2 c))
 intro he
 simp only[↓s_set,↓sl_0,↓sl_s,↓e_lstM,↓es_n,↓ln0]
 intro sl hsl
 have sf:fl≠sl:=(ne_new hsl).symm
 refine s_for ?_
 simp only[↓e_var,↓l_0,↓l_s,↓it_r]
 refine⟨⟨by exact li2 2 [_,_] [] (.le I1 J0) (.le J0 J1) (.le (.c (-100000)) J1) rfl l1 b1,by exact li3 2 [_,_] [_] (.le J0 (.a (.n U0) I1)) (.nle U0 (.c 5000)) (.le J1 J0) (.le J1 (.c 100000)) rfl l3 l4 b2,by exact li3 3 [_,_,_] [] (.le I1 J0) (.le J0 J1) (.le J1 J2) (.le (.c (-100000)) J2) rfl l1 b1 e1,by exact li3 2 [_,_] [_] (.le J0 (.a (.n U0) I1)) (.nle U0 (.c 5000)) (.le J1 J0) (.le J1 (.c 100000)) rfl l3 l4 e2⟩,by rw[range_len];(exact li6 4 [_,_,_,_] [_,_] (.tn (.s J0 J1) U0) (.le I1 J2) (.le J3 (.a (.n U1) I1)) (.nle U1 (.c 5000)) (.le J2 J1) (.le J0 J3) (.nle U0 (.c 100000)) rfl (tn (e-b)) l1 l3 l4 b1 e2),?_⟩
 refine for_inv (fun ys l H'=>∃P ss y9,ys=rangeV P e∧l=[some (.lst (T.map .int)),some (.int lo),some (.int hi),some (.int wd),some (.bool cut),some (.ref fl),some (.int b),some (.int e),some (.ref sl),y9,y10]∧
  H'=(H.set fl (.list (found.map rwV))).set sl (.list (ss.map sV))∧b≤P∧P≤e∧ss++sgs T (e-P).toNat P=sgs T (e-b).toNat b) ?_ ?_ _ _ _ ⟨b,[],y9,rfl,rfl,rfl,Int.le_refl _,e1,rfl⟩
 ·rintro a ys l H' K' ⟨P,ss,y9,h1,rfl,rfl,h2,h3,h4⟩ k1 k2
  have c:P< e:=by
   by_cases c:P< e
   ·exact c
   ·rw[range_nil (by exact li1 2 [_,_] [] (.no (.lt J0 J1)) (.le J1 J0) rfl c)] at h1;cases h1
  rw[range_cons c] at h1
  cases h1
  have ls:ss.length≤5001:=by
   have q:=congrArg List.length h4
   rw[List.length_append,sgs_len,sgs_len] at q;exact li7 4 [_,_,_,_] [_,_,_,_] (.tn (.s J0 J1) U0) (.le I1 J2) (.le J3 (.a (.n U1) I1)) (.nle U1 (.c 5000)) (.le J2 J1) (.le J0 J3) (.neq (.a U2 U3) U0) (.nle U2 (.c 5001)) rfl (tn (e-b)) l1 l3 l4 b1 e2 q
  have h5:sgs T (e-P).toNat P=sgn T P::sgs T (e-(P+1)).toNat (P+1):=by rw[show(e-P).toNat=(e-(P+1)).toNat+1 by exact li3 2 [_,_] [_,_] (.tn (.s J0 J1) U0) (.tn (.s J0 (.a J1 I1)) U1) (.lt J1 J0) (.neq U0 (.a U1 O1)) rfl (tn (e-P)) (tn (e-(P+1))) c,sgs_s]
  rw[h5] at h4
  have go:K' .next [some (.lst (T.map .int)),some (.int lo),some (.int hi),some (.int wd),some (.bool cut),some (.ref fl),some (.int b),some (.int e),some (.ref sl),some (.int P),y10] ((H.set fl (.list (found.map rwV))).set sl (.list (ss.map sV++[sV (sgn T P)]))):=
   k1 _ _ ⟨P+1,ss++[sgn T P],_,rfl,rfl,by rw[List.map_append];rfl,by exact li1 2 [_,_] [] (.le J0 J1) (.le J0 (.a J1 I1)) rfl h2,by exact li1 2 [_,_] [] (.lt J0 J1) (.lt J0 J1) rfl c,by rw[←h4,List.append_assoc];rfl⟩
  have ls2:(ss.map sV).length≤100000:=by rw[List.length_map];(exact li1 1 [] [_] (.nle U0 (.c 5001)) (.nle U0 (.c 100000)) rfl ls)
  simp only[↓s_nil,↓s_expr,↓sl_0,↓sl_s,↓e_int,↓e_var,↓e_bin,↓e_cmp,↓e_ite,↓e_sub,↓e_tup,↓e_lst,↓e_app,↓es_n,↓es_c,↓l_0,↓l_s,↓p_b,↓b_sub,↓c_eq,↓ln1,↓ln2,↓asS1,↓iP (xs:=T.map .int) (i:=P-1) (by exact li3 3 [_,_,_] [] (.le I1 J0) (.le J0 J1) (.le J1 J2) (.le I0 (.s J2 I1)) rfl l1 b1 h2) (by exact li4 3 [_,_,_] [_] (.le J0 (.a (.n U0) I1)) (.nle U0 (.c 5000)) (.le J1 J0) (.lt J2 J1) (.lt (.s J2 I1) (.c (2^60))) rfl l3 l4 e2 c) (codeV (T:=T) (p:=P) (by exact li3 3 [_,_,_] [] (.le I1 J0) (.le J0 J1) (.le J1 J2) (.le I1 J2) rfl l1 b1 h2) (by exact li3 3 [_,_,_] [_] (.le J0 (.a (.n U0) I1)) (.le J1 J0) (.lt J2 J1) (.le J2 (.n U0)) rfl l3 e2 c))]
  refine dD (fun h=>?_) fun h=>?_
  ·simp only[↓apS ls2]
   have h6:sV (sgn T P)=.lst [.tup [.int 94,.int P],.tup [.int 65,.int P]]:=by delta sgn cc;rw[if_pos h];rfl
   rw[h6] at go;exact go
  ·simp only[↓iP (xs:=T.map .int) (i:=P-1) (by exact li3 3 [_,_,_] [] (.le I1 J0) (.le J0 J1) (.le J1 J2) (.le I0 (.s J2 I1)) rfl l1 b1 h2) (by exact li4 3 [_,_,_] [_] (.le J0 (.a (.n U0) I1)) (.nle U0 (.c 5000)) (.le J1 J0) (.lt J2 J1) (.lt (.s J2 I1) (.c (2^60))) rfl l3 l4 e2 c) (codeV (T:=T) (p:=P) (by exact li3 3 [_,_,_] [] (.le I1 J0) (.le J0 J1) (.le J1 J2) (.le I1 J2) rfl l1 b1 h2) (by exact li3 3 [_,_,_] [_] (.le J0 (.a (.n U0) I1)) (.le J1 J0) (.lt J2 J1) (.le J2 (.n U0)) rfl l3 e2 c)),↓apS ls2]
   have h6:sV (sgn T P)=.lst [.tup [.int (cd T P),.int P]]:=by delta sgn cc;rw[if_neg h];rfl
   rw[h6] at go;exact go
 ·rintro l H' ⟨P,ss,y9,h1,rfl,rfl,h2,h3,h4⟩
  have c:P=e:=by
   by_cases c:P< e
   ·rw[range_cons c] at h1;cases h1
   ·(exact li2 2 [_,_] [] (.le J0 J1) (.no (.lt J0 J1)) (.eq J0 J1) rfl h3 c)
  subst c
  rw[Int.sub_self] at h4
  rw[show sgs T (0:Int).toNat P=[] from rfl,List.append_nil] at h4
  subst h4
  simp only[↓nk_n,↓s_frz,↓l_s,↓l_0]
  refine frz_lst hsl ?_
  simp only[setL]
  have ks:(sgs T (P-b).toNat b).length=(P-b).toNat:=sgs_len
  have kf:=@sgs_flat_len T (P-b).toNat b
  have kf1:((sgs T (P-b).toNat b).flatten.map g2).length=(sgs T (P-b).toNat b).flatten.length:=List.length_map _
  have kf2:((sgs T (P-b).toNat b).flatten.map g2).length< 2^60:=by exact li8 4 [_,_,_,_] [_,_,_,_] (.tn (.s J0 J1) U0) (.le I1 J2) (.le J3 (.a (.n U1) I1)) (.nle U1 (.c 5000)) (.le J2 J1) (.le J0 J3) (.nle U2 (.m 2 U0)) (.neq U3 U2) (.nlt U3 (.c (2^60))) rfl (tn (P-b)) l1 l3 l4 b1 e2 kf kf1
  have tail:∀(rs:List Rw),rs++rest cut wd T hi P=tot cut wd T hi b→(hi≤P→(found++rs)=tot cut wd T hi lo)∧(¬hi≤P→found++rs++tot cut wd T hi (P+1)=tot cut wd T hi lo):=by
   intro rs hrs
   rw[rest] at hrs
   refine⟨fun c=>?_,fun c=>?_⟩
   ·rw[if_pos c,List.append_nil] at hrs;rw[hrs,b3]
   ·rw[if_neg c] at hrs;rw[List.append_assoc,hrs,b3]
  have ln:∀(rs:List Rw),rs++rest cut wd T hi P=tot cut wd T hi b→rs.length≤5001:=by
   intro rs hrs
   have e:=congrArg List.length hrs
   have e2:(tot cut wd T hi b).length≤(hi-b).toNat+1:=rL_len
   rw[List.length_append] at e;(exact li7 5 [_,_,_] [_,_,_,_,_] (.tn (.s J0 J1) U0) (.le I1 J2) (.le J0 (.a (.n U1) I1)) (.nle U1 (.c 5000)) (.le J2 J1) (.neq (.a U2 U3) U4) (.nle U4 (.a U0 O1)) (.nle U2 (.c 5001)) rfl (tn (hi-b)) l1 l3 l4 b1 e e2)
  refine s_ite ?_
  simp only[↓e_var,↓l_0,↓l_s,↓p_b]
  cases cut with
  |true=>
   refine bc fun ng=>?_
   refine xa2 (tail [fin true wd b (sgs T (P-b).toNat b).flatten] (line_cut (wd:=wd) (hi:=hi) _ b [] b rfl e1 e2 e3 he).symm) ?_
   rintro t1 t2
   refine ng ?_
   simp only[↓s_nil,↓s_expr,↓nk_n,↓sl_0,↓sl_s,↓e_int,↓e_none,↓e_var,↓e_bin,↓e_cmp,↓e_ite,↓e_slice,↓e_tup,↓e_b1,↓e_app,↓es_n,↓es_c,↓o_s,↓l_0,↓l_s,↓p_b,↓b_sub,↓c_ge,↓sT,↓ln3,↓s_setC,↓sl_0,↓sl_s,↓e_flat,↓p_l,flat_sV,↓asS1,↓lenP kf2,kf1]
   refine⟨⟨by rw[List.length_map];(exact li7 4 [_,_,_,_] [_,_,_] (.tn (.s J0 J1) U0) (.le I1 J2) (.le J3 (.a (.n U1) I1)) (.nle U1 (.c 5000)) (.le J2 J1) (.le J0 J3) (.neq U2 U0) (.nle U2 (.c 10000)) rfl (tn (P-b)) l1 l3 l4 b1 e2 ks),by exact li7 4 [_,_,_,_] [_,_,_] (.tn (.s J0 J1) U0) (.le I1 J2) (.le J3 (.a (.n U1) I1)) (.nle U1 (.c 5000)) (.le J2 J1) (.le J0 J3) (.nle U2 (.m 2 U0)) (.nle U2 (.c 100000)) rfl (tn (P-b)) l1 l3 l4 b1 e2 kf⟩,?_⟩
   have e5:∀Q:List V→Prop,sliceV (H.set fl (.list (found.map rwV))) (.lst ((sgs T (P-b).toNat b).flatten.map g2)) .none (.int (wd-1)) Q=Q (((sgs T (P-b).toNat b).flatten.take (wd-1).toNat).map g2):=by
    intro Q
    exact(sl2 asS_l prN (prI (by(exact li1 1 [_] [] (.le (.c 3) J0) (.le I0 (.s J0 I1)) rfl hw):0≤wd-1) (by(exact li1 1 [_] [] (.le J0 (.c 100)) (.lt (.s J0 I1) (.c (2^60))) rfl hw2):wd-1< 2^60)) (by exact li8 4 [_,_,_,_] [_,_,_,_] (.tn (.s J0 J1) U0) (.le I1 J2) (.le J3 (.a (.n U1) I1)) (.nle U1 (.c 5000)) (.le J2 J1) (.le J0 J3) (.nle U2 (.m 2 U0)) (.neq U3 U2) (.nle U3 (.c 1000000)) rfl (tn (P-b)) l1 l3 l4 b1 e2 kf kf1)).trans (congrArg Q List.map_take.symm)
   have fl2:(found.map rwV).length≤100000:=by rw[List.length_map];(exact li1 1 [] [_] (.nle U0 (.c 5001)) (.nle U0 (.c 100000)) rfl fl1)
   have e7:∀m:Int,m=(if wd≤((sgs T (P-b).toNat b).flatten.length:Int) then 36 else 32)→found.map rwV++[V.tup [.int b,.lst (((sgs T (P-b).toNat b).flatten.take (wd-1).toNat).map g2),.int m]]=(found++[fin true wd b (sgs T (P-b).toNat b).flatten]).map rwV:=by
    rintro m rfl;rw[List.map_append];rfl
   simp only[e5,↓apS fl2]
   apply absorb (P:=True)
   ·intro go
    refine dD (fun c=>?_) fun c=>?_
    ·rw[e7 36 (by rw[if_pos c])];exact go trivial
    ·rw[e7 32 (by rw[if_neg c])];exact go trivial
   ·intro _
    refine s_ite ?_
    simp only[↓e_var,↓e_cmp,↓l_0,↓l_s,↓p_b,↓c_ge]
    refine dD (fun c=>?_) fun c=>?_
    ·simp only[↓s_ret,↓nk_r,↓e_var,↓l_0,↓l_s,↓e_frz]
     refine frz_lst hfl ?_
     rw[t1 c];exact kr _ _ _ q
    ·simp only[↓s_nil,↓nk_n,↓s_set,↓sl_0,↓sl_s,↓e_int,↓e_var,↓e_bin,↓l_0,↓l_s,↓b_add]
     exact kn (hi-(P+1)).toNat _ _ (by exact li4 3 [_,_,_] [_,_] (.tn (.s J0 (.a J1 I1)) U0) (.tn (.s J0 J2) U1) (.le J2 J1) (.no (.le J0 J1)) (.nlt U0 U1) rfl (tn (hi-(P+1))) (tn (hi-b)) h2 c) ⟨P+1,_,_,_,_,_,rfl,rfl,rfl,by exact li2 3 [_,_,_] [] (.le J0 J1) (.le J1 J2) (.le J0 (.a J2 I1)) rfl b1 h2,by exact li1 2 [_,_] [] (.no (.le J0 J1)) (.lt J1 J0) rfl c,t2 c⟩
  |false=>
   refine bc fun ng=>?_
   refine xa2 (tail (FoldR (wd-1) (sgs T (P-b).toNat b) [] b) (line_fold (wd:=wd) (hi:=hi) hw _ b [] b rfl e1 e2 e3 he).symm) ?_
   rintro t1 t2
   refine ng ?_
   have ln:=ln (FoldR (wd-1) (sgs T (P-b).toNat b) [] b) (line_fold (wd:=wd) (hi:=hi) hw _ b [] b rfl e1 e2 e3 he).symm
   simp only[↓s_nil,↓s_expr,↓nk_n,↓e_int,↓e_var,↓e_bin,↓e_call,↓e_ext,↓es_n,↓es_c,↓l_0,↓l_s,↓b_sub,↓sF,↓asS1]
   refine sp_law_folded t (by exact lv hn rfl) (fun s hs=>?_) (by exact li7 4 [_,_,_,_] [_,_,_] (.tn (.s J0 J1) U0) (.le I1 J2) (.le J3 (.a (.n U1) I1)) (.nle U1 (.c 5000)) (.le J2 J1) (.le J0 J3) (.neq U2 U0) (.nle U2 (.c 20000)) rfl (tn (P-b)) l1 l3 l4 b1 e2 ks) (by exact li1 1 [_] [] (.le J0 (.c 100)) (.le (.s J0 I1) (.c 100)) rfl hw2) ?_
   ·obtain⟨c,rfl⟩:=sgs_mem hs;rw[sgn_len];exact cc_len
   simp only[extV,Hp.set_self,↓p_l]
   refine⟨⟨by rw[List.length_map];(exact li1 1 [] [_] (.nle U0 (.c 5001)) (.nle U0 (.c 100000)) rfl fl1),by rw[List.length_map];(exact li1 1 [] [_] (.nle U0 (.c 5001)) (.nle U0 (.c 100000)) rfl ln)⟩,?_⟩
   rw[set_set,←List.map_append]
   refine s_ite ?_
   simp only[↓e_var,↓e_cmp,↓l_0,↓l_s,↓p_b,↓c_ge]
   refine dD (fun c=>?_) fun c=>?_
   ·simp only[↓s_ret,↓nk_r,↓e_var,↓l_0,↓l_s,↓e_frz]
    refine frz_lst hfl ?_
    rw[t1 c];exact kr _ _ _ q
   ·simp only[↓s_nil,↓nk_n,↓s_set,↓sl_0,↓sl_s,↓e_int,↓e_var,↓e_bin,↓l_0,↓l_s,↓b_add]
    exact kn (hi-(P+1)).toNat _ _ (by exact li4 3 [_,_,_] [_,_] (.tn (.s J0 (.a J1 I1)) U0) (.tn (.s J0 J2) U1) (.le J2 J1) (.no (.le J0 J1)) (.nlt U0 U1) rfl (tn (hi-(P+1))) (tn (hi-b)) h2 c) ⟨P+1,_,_,_,_,_,rfl,rfl,rfl,by exact li2 3 [_,_,_] [] (.le J0 J1) (.le J1 J2) (.le J0 (.a J2 I1)) rfl b1 h2,by exact li1 2 [_,_] [] (.no (.le J0 J1)) (.lt J1 J0) rfl c,t2 c⟩
end
noncomputable def PotO(o:AObj):Prop:=∃(cs:List Int) (at' r:Int),o=.list [.lst (cs.map V.int),.int at',.int r]∧0≤at'∧0≤r∧r≤100000∧cs.length≤100
theorem comp_inv{body:V→Hp→(Option V→Hp→Prop)→Prop}{Q:List V→Hp→Prop}(I:List V→List V→Hp→Prop)
  (h:∀x r acc H K,I (x::r) acc H→(∀v H',I r (acc++[v]) H'→K (some v) H')→(∀H',I r acc H'→K none H')→body x H K) (e:∀acc H,I [] acc H→Q acc H):
  ∀(xs acc:List V) (H:Hp),I xs acc H→compV body xs acc H Q
 |[],acc,H,i=>e acc H i
 |x::r,acc,H,i=>h x r acc H _ i (fun v H' i'=>comp_inv I h e r _ H' i') fun H' i'=>comp_inv I h e r _ H' i'
theorem e_comp{r:Bool}{it cond elt:E}{q:V→Hp→Prop}:vcE w h0 n Y (.comp nv cap t r it cond elt) l H q=vcE w h0 n Y it l H fun v H₁=>itemsP r v fun xs=>xs.length≤100000∧
   compV (fun x H₂ K=>OptP (bindT t x (capL nv cap l)) fun l'=>vcE w h0 n (fun _=>False) cond l' H₂ fun p H₃=>BoolP p fun b=>(b=true→vcE w h0 n (fun _=>False) elt l' H₃ fun u H₄=>K (some u) H₄)∧(b=false→K none H₃)) xs [] H₁ fun ys H₂=>q (.lst ys) H₂:=rfl
theorem b_sum:b1V H .sum (.lst xs) q=OptP (intsOf xs) fun is=>q (.int is.sum):=rfl
theorem it_t0{b:Int}{Q:List V→Prop}:itemsP true (.int b) Q=(-100000≤b∧Q (rangeV 0 b)):=rfl
theorem it_f0{Q:List V→Prop}:itemsP false (.lst xs) Q=Q xs:=rfl
theorem intsOf_c{r:List V}:intsOf (.int i::r)=(intsOf r).map (i::·):=rfl
theorem ints_of:∀(is:List Int),intsOf (is.map V.int)=some is
 |[]=>rfl
 |i::r=>by rw[List.map_cons,intsOf_c,ints_of r];rfl
theorem fm_lo{j:Int}(h:0< j):0≤i.fmod j:=Int.fmod_nonneg_of_pos i h
theorem fm_hi{j:Int}(h:0< j):i.fmod j< j:=Int.fmod_lt_of_pos i h
theorem putIL{k:Int}{v:V}{Q:Hp→Prop}(g:0≤k∧k< 2^60∧k< xs.length):putI (H.set a (.list xs)) (.ref a) (.int k) v Q=Q (H.set a (.list (xs.set k.toNat v))):=by
 (conv=>lhs;whnf);rw[Hp.set_self];exact(and_t g).trans (congrArg Q set_set)
section
variable{p:Addr}{m k:Int}
theorem sp_dip(t:TX K h0)(hn:2≤n)(hp:H p=some o)(ho:PotO o)(hm:0< m)(q:∀v o,0≤v→v< m→PotO o→Q (.int v) (H.set p o)):Fn w h0 n 932 [.ref p,.int m] H Q X:=by
 refine fn_row t hn 75 rfl [some (.ref p),some (.int m),none] args_all (by kernel_rfl) ?_
 refine bc fun ng=>?_
 obtain⟨cs,a,r,rfl,h1,h2,h3,h4⟩:=ho
 refine ng ?_
 rw[←set_same hp]
 have l1:(cs.map V.int).length=cs.length:=List.length_map _
 have l2:(cs.map V.int).length< 2^60:=by exact li2 2 [] [_,_] (.nle U0 (.c 100)) (.neq U1 U0) (.nlt U1 (.c (2^60))) rfl h4 l1
 have s2:∀v o,0≤v→v< m→PotO o→Q (.int v) ((H.set p (.list [.lst (cs.map V.int),.int a,.int r])).set p o):=by
  intro v o a b c;rw[set_set];exact q v o a b c
 rw[set_same hp] at s2
 have rd:∀{xs:List V} {i:Int} {u:V} {q:V→Prop},0≤i→i< 2^60→xs[i.toNat]? =some u→OptP (subV (H.set p (.list xs)) (.ref p) (.int i)) q=q u:=fun a b c=>iL (Hp.set_self _ _ _) a b c
 delta b_law_dip;simp only[↓s_setI,↓s_set,↓sl_0,↓sl_s,↓e_int,↓e_var,↓e_bin,↓e_sub,↓l_0,↓l_s,↓b_add,↓rd (xs:=[.lst (cs.map V.int),.int a,.int r]) (i:=1) (by decide) (by decide) rfl,↓putIL (xs:=[.lst (cs.map V.int),.int a,.int r]) (k:=1) ⟨by decide,by decide,by show(1:Int)< ((3:Nat):Int);decide⟩]
 refine s_ite ?_
 simp only[↓e_int,↓e_var,↓e_cmp,↓e_sub,↓e_b1,↓l_0,↓l_s,↓p_b,↓c_lt,↓rd (xs:=[.lst (cs.map V.int),.int (a+1),.int r]) (i:=0) (by decide) (by decide) rfl,↓lenP l2,l1,List.set,Int.toNat_one]
 refine dD (fun c=>?_) fun c=>?_
 ·have hx:(cs.map V.int)[a.toNat]? =some (.int (cs[a.toNat]'(by exact li3 2 [_] [_,_] (.tn J0 U0) (.le I0 J0) (.lt J0 (.n U1)) (.nlt U0 U1) rfl (tn (a)) h1 c))):=by rw[List.getElem?_map,List.getElem?_eq_getElem (by exact li3 2 [_] [_,_] (.tn J0 U0) (.le I0 J0) (.lt J0 (.n U1)) (.nlt U0 U1) rfl (tn (a)) h1 c)];rfl
  simp only[↓s_ret,↓nk_r,↓retV_r,↓e_int,↓e_var,↓e_bin,↓e_sub,↓l_0,↓l_s,↓rd (xs:=[.lst (cs.map V.int),.int (a+1),.int r]) (i:=0) (by decide) (by decide) rfl,↓iP (xs:=cs.map V.int) h1 (by exact li2 1 [_] [_] (.nle U0 (.c 100)) (.lt J0 (.n U0)) (.lt J0 (.c (2^60))) rfl h4 c) hx,↓b_mod]
  exact⟨by exact li1 1 [_] [] (.lt I0 J0) (.no (.eq J0 I0)) rfl hm,q _ _ (fm_lo hm) (fm_hi hm) ⟨cs,a+1,r,rfl,by exact li1 1 [_] [] (.le I0 J0) (.le I0 (.a J0 I1)) rfl h1,h2,h3,h4⟩⟩
 ·have f1:=@fm_lo (r*75+74) 65537 (by decide)
  have f2:=@fm_hi (r*75+74) 65537 (by decide)
  simp only[↓s_nil,↓s_ret,↓s_setI,↓nk_n,↓retV_r,↓e_int,↓e_var,↓e_bin,↓e_sub,↓l_0,↓l_s,↓b_add,↓rd (xs:=[.lst (cs.map V.int),.int (a+1),.int r]) (i:=2) (by decide) (by decide) rfl,↓b_mod,↓b_mul]
  refine⟨⟨a_na h2 h3/-(first|lia|omega)-/,by decide⟩,by decide,?_⟩
  rw[putIL (xs:=[.lst (cs.map V.int),.int (a+1),.int r]) (k:=2) ⟨by decide,by decide,by show(2:Int)< ((3:Nat):Int);decide⟩]
  simp only[List.set,show(2:Int).toNat=2 from rfl,↓rd (xs:=[.lst (cs.map V.int),.int (a+1),.int ((r*75+74).fmod 65537)]) (i:=2) (by decide) (by decide) rfl,↓b_mod]
  exact⟨by exact li1 1 [_] [] (.lt I0 J0) (.no (.eq J0 I0)) rfl hm,q _ _ (fm_lo hm) (fm_hi hm) ⟨cs,a+1,_,rfl,by exact li1 1 [_] [] (.le I0 J0) (.le I0 (.a J0 I1)) rfl h1,f1,Int.le_trans (Int.le_of_lt f2) (by decide)/-(first|lia|omega)-/,h4⟩⟩
theorem sp_law_moved(t:TX K h0)(hn:2≤n){s m p:Int}(q:Q (.int (mv s e m adv p)) H):Fn w h0 n 956 [.int p,.int s,.int e,.int m,.bool adv] H Q X:=by
 refine fn_row t hn 79 rfl [some (.int p),some (.int s),some (.int e),some (.int m),some (.bool adv)] args_all (by kernel_rfl) ?_
 have yes:(e< p∨(p=e∧(s< e∨adv=true)))→Q (.int (p+m-(e-s))) H:=fun h=>by rw[mv,if_pos h] at q;exact q
 have no:¬(e< p∨(p=e∧(s< e∨adv=true)))→Q (.int (if s< p then min p s else p)) H:=fun h=>by rw[mv,if_neg h] at q;exact q
 have tl:¬(e< p∨(p=e∧(s< e∨adv=true)))→(decide (s< p)=true→Q (.int (min p s)) H)∧(decide (s< p)=false→Q (.int p) H):=fun h=>by
  have q:=no h
  refine dD (fun c=>?_) fun c=>?_
  ·rw[if_pos c] at q;exact q
  ·rw[if_neg c] at q;exact q
 delta b_law_moved
 refine s_ite ?_
 by_cases h1:e< p
 ·simp only[↓s_ret,↓nk_r,↓retV_r,↓e_var,↓e_bin,↓e_cmp,↓e_or,↓l_0,↓l_s,↓p_b,↓b_add,↓b_sub,↓c_gt,↓sT,↓dT h1,↓dT' h1,↓nT h1,↓nT' h1];exact yes (.inl h1)
 ·by_cases h2:p=e
  ·by_cases h3:s< e
   ·simp only[↓s_ret,↓nk_r,↓retV_r,↓e_var,↓e_bin,↓e_cmp,↓e_and,↓e_or,↓l_0,↓l_s,↓p_b,↓b_add,↓b_sub,↓c_eq,↓c_gt,↓sT,↓dF h1,↓dF' h1,↓nF h1,↓nF' h1,↓dT h2,↓dT' h2,↓nT h2,↓nT' h2,↓dT h3,↓dT' h3,↓nT h3,↓nT' h3];exact yes (.inr ⟨h2,.inl h3⟩)
   ·cases adv with
    |true=>simp only[↓s_ret,↓nk_r,↓retV_r,↓e_var,↓e_bin,↓e_cmp,↓e_and,↓e_or,↓l_0,↓l_s,↓p_b,↓b_add,↓b_sub,↓c_eq,↓c_gt,↓sT,↓dF h1,↓dF' h1,↓nF h1,↓nF' h1,↓dF h3,↓dF' h3,↓nF h3,↓nF' h3,↓dT h2,↓dT' h2,↓nT h2,↓nT' h2];exact yes (.inr ⟨h2,.inr rfl⟩)
    |false=>simp only[↓s_nil,↓s_ret,↓nk_n,↓retV_r,↓e_var,↓e_cmp,↓e_and,↓e_or,↓e_ite,↓e_b2,↓l_0,↓l_s,↓p_b,↓c_eq,↓c_gt,↓m_min,↓sF,↓dF h1,↓dF' h1,↓nF h1,↓nF' h1,↓dF h3,↓dF' h3,↓nF h3,↓nF' h3,↓dT h2,↓dT' h2,↓nT h2,↓nT' h2];exact tl (by simp[h1,h3])
  ·simp only[↓s_nil,↓s_ret,↓nk_n,↓retV_r,↓e_var,↓e_cmp,↓e_and,↓e_or,↓e_ite,↓e_b2,↓l_0,↓l_s,↓p_b,↓c_eq,↓c_gt,↓m_min,↓sF,↓dF h1,↓dF' h1,↓nF h1,↓nF' h1,↓dF h2,↓dF' h2,↓nF h2,↓nF' h2];exact tl (by simp[h1,h2])
theorem sp_law_codes(t:TX K h0)(hn:4≤n)(hp:H p=some o)(ho:PotO o)(hk:0≤k)(hk2:k≤1000)(q:∀(ys:List Int) o,(ys.length:Int)=k→(∀x∈ys,OKc x)→PotO o→Q (.lst (ys.map V.int)) (H.set p o)):
  Fn w h0 n 937 [.ref p,.int k] H Q X:=by
 refine fn_row t (by exact lv0 hn rfl) 76 rfl [some (.ref p),some (.int k)] args_all (by kernel_rfl) ?_
 delta b_law_codes;simp only[↓s_ret,↓retV_r,↓e_int,↓e_bool,↓e_var,↓e_sub,↓e_lst,↓e_call,↓es_n,↓es_c,↓l_0,↓l_s,↓p_b,↓sT,↓ln5,↓e_comp]
 refine⟨by exact li1 1 [_] [] (.le I0 J0) (.le (.c (-100000)) J0) rfl hk,by rw[range_len];(exact li2 1 [_] [_] (.tn (.s J0 I0) U0) (.le J0 (.c 1000)) (.nle U0 (.c 100000)) rfl (tn (k-0)) hk2),?_⟩
 refine comp_inv (fun xs acc H'=>∃i ys o,xs=rangeV i k∧acc=ys.map V.int∧H'=H.set p o∧PotO o∧(ys.length:Int)=i∧i≤k∧∀x∈ys,OKc x) ?_ ?_ _ _ _ ⟨0,[],o,rfl,rfl,(set_same hp).symm,ho,rfl,hk,fun x h=>(by exact nomatch h)⟩
 ·rintro x r acc H' K' ⟨i,ys,o,h1,rfl,rfl,h2,h3,h4,h5⟩ k1 k2
  have c:i< k:=by
   by_cases c:i< k
   ·exact c
   ·rw[range_nil (by exact li1 2 [_,_] [] (.no (.lt J0 J1)) (.le J1 J0) rfl c)] at h1;cases h1
  rw[range_cons c] at h1
  cases h1
  have eb:bindT (Tg.nm 1) (V.int i) (capL 2 [some 0] [some (.ref p),some (.int k)])=some [none,some (.int i),some (.ref p)]:=rfl
  simp only[eb,↓o_s,↓l_0,↓l_s]
  refine sp_dip t (by exact lv hn rfl) (Hp.set_self _ _ _) h2 (by decide) fun v o v1 v2 ho=>?_
  rw[set_set]
  have fin:∀u,OKc u→K' (some (.int u)) (H.set p o):=fun u hu=>k1 _ _ ⟨i+1,ys++[u],o,rfl,by rw[List.map_append];rfl,rfl,ho,by rw[List.length_append];show((_+1:Nat):Int)=_;(exact li1 1 [_] [_] (.eq (.n U0) J0) (.eq (.n (.a U0 O1)) (.a J0 I1)) rfl h3),by exact li1 2 [_,_] [] (.lt J0 J1) (.lt J0 J1) rfl c,fun x hx=>by
   rcases List.mem_append.mp hx with hx|hx
   ·exact h5 x hx
   ·rw[List.mem_singleton.mp hx];exact hu⟩
  have v3:v=0∨v=1∨v=2∨v=3∨v=4:=by exact li2 1 [_] [] (.le I0 J0) (.lt J0 (.c 5)) (.or (.eq J0 I0) (.or (.eq J0 I1) (.or (.eq J0 I2) (.or (.eq J0 (.c 3)) (.eq J0 (.c 4)))))) rfl v1 v2
  rcases v3 with rfl|rfl|rfl|rfl|rfl
  ·rw[iP (xs:=[.int 97,.int 98,.int 10,.int 32,.int 1]) (i:=0) (by decide) (by decide) rfl];exact fin _ (by delta OKc;decide)
  ·rw[iP (xs:=[.int 97,.int 98,.int 10,.int 32,.int 1]) (i:=1) (by decide) (by decide) rfl];exact fin _ (by delta OKc;decide)
  ·rw[iP (xs:=[.int 97,.int 98,.int 10,.int 32,.int 1]) (i:=2) (by decide) (by decide) rfl];exact fin _ (by delta OKc;decide)
  ·rw[iP (xs:=[.int 97,.int 98,.int 10,.int 32,.int 1]) (i:=3) (by decide) (by decide) rfl];exact fin _ (by delta OKc;decide)
  ·rw[iP (xs:=[.int 97,.int 98,.int 10,.int 32,.int 1]) (i:=4) (by decide) (by decide) rfl];exact fin _ (by delta OKc;decide)
 ·rintro acc H' ⟨i,ys,o,h1,rfl,rfl,h2,h3,h4,h5⟩
  have c:i=k:=by
   by_cases c:i< k
   ·rw[range_cons c] at h1;cases h1
   ·(exact li2 2 [_,_] [] (.le J0 J1) (.no (.lt J0 J1)) (.eq J0 J1) rfl h4 c)
  exact q ys o (h3.trans c) h5 h2
theorem sp_law_pot(t:TX K h0)(hn:2≤n)(hl:is.length≤1000)(q:∀p o,H p=none→PotO o→Q (.ref p) (H.set p o)):Fn w h0 n 925 [.scr is] H Q X:=by
 refine fn_row t hn 74 rfl [some (.scr is),none] args_all (by kernel_rfl) ?_
 have e1:∀Q:List V→Prop,sliceV H (.scr is) .none (.int 48) Q=Q ((is.take 48).map V.int):=by
  intro Q
  exact(sl2 asS_s prN (prI (by decide) (by decide)) (by rw[List.length_map];(exact li1 1 [] [_] (.nle U0 (.c 1000)) (.nle U0 (.c 1000000)) rfl hl))).trans (congrArg Q List.map_take.symm)
 delta b_law_pot;simp only[↓s_setC,↓sl_0,↓sl_s,↓e_comp,↓e_int,↓e_bool,↓e_none,↓e_var,↓e_bin,↓e_slice,↓e_b1,↓l_0,↓p_b,↓sT,e1,↓it_f0]
 refine⟨by rw[List.length_map,List.length_take];(exact li1 2 [] [_,_] (.nmn (.c 48) U0 U1) (.nle U1 (.c 100000)) rfl (mN (48) (is.length))),?_⟩
 refine comp_inv (fun xs acc H'=>∃is' ys:List Int,xs=is'.map V.int∧acc=ys.map V.int∧H'=H∧ys.length+is'.length≤48) ?_ ?_ _ _ _ ⟨_,[],rfl,rfl,rfl,by rw[List.length_take];show 0+_≤_;(exact li1 2 [] [_,_] (.nmn (.c 48) U0 U1) (.nle (.a O0 U1) (.c 48)) rfl (mN (48) (is.length)))⟩
 ·rintro x r acc H' K' ⟨is',ys,h1,rfl,rfl,h2⟩ k1 k2
  cases is' with
  |nil=>cases h1
  |cons i is'=>
   cases h1
   have eb:bindT (Tg.nm 1) (V.int i) (capL 2 [] [some (.scr is),none])=some [none,some (.int i)]:=rfl
   simp only[eb,↓o_s,↓l_0,↓l_s,↓b_abs,↓b_mod]
   exact⟨by decide,k1 _ _ ⟨is',ys++[_],rfl,by rw[List.map_append];rfl,rfl,by rw[List.length_append];rw[List.length_cons] at h2;show _+1+_≤_;(exact li1 2 [] [_,_] (.nle (.a U0 (.a U1 O1)) (.c 48)) (.nle (.a (.a U0 O1) U1) (.c 48)) rfl h2)⟩⟩
 ·rintro acc H' ⟨is',ys,h1,rfl,rfl,h2⟩
  have f1:=@fm_lo ys.sum 65519 (by decide)
  have f2:=@fm_hi ys.sum 65519 (by decide)
  simp only[↓s_ret,↓retV_r,↓e_int,↓e_var,↓e_bin,↓e_lstM,↓e_b1,↓es_n,↓es_c,↓o_s,↓l_0,↓l_s,↓b_add,↓ln3,↓b_sum,ints_of,↓b_mod]
  refine⟨by decide,fun p hp=>q p _ hp ⟨ys,0,_,rfl,Int.le_refl _,?_,?_,?_⟩⟩
  all_goals first|exact Int.le_trans (Int.add_le_add_left (Int.le_of_lt f2) 251) (by decide)|exact Int.add_nonneg (by decide) f1|exact Nat.le_trans (Nat.le_trans (Nat.le_add_right _ _) h2) (bl rfl)
end
theorem del_new{c:Addr}(h:H c=none):(H.set c o).del c=H:=by
 funext b;delta Hp.del Hp.set;by_cases e:b=c
 ·rw[if_pos e,e,h]
 ·rw[if_neg e,if_neg e]
noncomputable def plainV:V:=.tup [.int 0,.int 0,.int 0,.int 0,.int 0,.int 0]
noncomputable def dG(a:Int×Int):Dat:=.tuple [.int a.1,.int a.2]
noncomputable def dRw(r:Rw):Dat:=.tuple [.int r.st,.list (r.gl.map dG),.int r.mark]
theorem toDs_g2:∀(gl:List (Int×Int)),toDs (gl.map g2)=some (gl.map dG)
 |[]=>rfl
 |a::r=>by rw[List.map_cons,toDs_c,toDs_g2 r];rfl
theorem toD_rw(r:Rw):toD (rwV r)=some (dRw r):=by
 rw[show rwV r=.tup [.int r.st,.lst (r.gl.map g2),.int r.mark] from rfl,toD_t,toDs_c,toDs_c,toDs_c,toD_l,toDs_g2];rfl
theorem toDs_rw:∀(rs:List Rw),toDs (rs.map rwV)=some (rs.map dRw)
 |[]=>rfl
 |a::r=>by rw[List.map_cons,toDs_c,toDs_rw r,toD_rw];rfl
theorem kq_rw(rs:List Rw):kqdOk 8 (.list (rs.map dRw))=true:=by
 rw[kqdOk,List.all_eq_true]
 intro d hd
 refine bc fun ng=>?_
 refine xe1 (List.mem_map.mp hd) ?_
 intro r qz199
 refine xa2 qz199 ?_
 clear qz199
 rintro _ rfl
 refine ng ?_
 have h:kqdOk 6 (.list (r.gl.map dG))=true:=by
  rw[kqdOk,List.all_eq_true]
  intro d hd
  refine bc fun ng=>?_
  refine xe1 (List.mem_map.mp hd) ?_
  intro a qz200
  refine xa2 qz200 ?_
  clear qz200
  rintro _ rfl
  refine ng ?_
  rfl
 show(kqdOk 6 (.int r.st)&&(kqdOk 6 (.list (r.gl.map dG))&&(kqdOk 6 (.int r.mark)&&true)))=true
 rw[h];rfl
theorem rL_st{cut:Bool}{T:List Int}:∀{k:Nat} {p:Int} {acc:List (Int×Int)} {st b:Int},b≤st→b≤p→(rowsL cut wd T k p acc st).filter (fun r=>decide (b≤r.st))=rowsL cut wd T k p acc st
 |0,p,acc,st,b,h1,h2=>by
  rw[rowsL_0,List.filter_cons,if_pos];·rfl
  have:(fin cut wd st acc).st=st:=by delta fin;split<;>rfl
  rw[this];exact decide_eq_true h1
 |k+1,p,acc,st,b,h1,h2=>by
  have f1:(fin cut wd st acc).st=st:=by delta fin;split<;>rfl
  rw[rowsL_s]
  split
  ·rw[List.filter_cons,if_pos (by rw[f1];exact decide_eq_true h1),rL_st (by exact li1 2 [_,_] [] (.le J0 J1) (.le J0 (.a J1 I1)) rfl h2) (by exact li1 2 [_,_] [] (.le J0 J1) (.le J0 (.a J1 I1)) rfl h2)]
  ·split
   ·rw[List.filter_cons,if_pos (decide_eq_true h1),rL_st h2 (by exact li1 2 [_,_] [] (.le J0 J1) (.le J0 (.a J1 I1)) rfl h2)]
   ·exact rL_st h1 (by exact li1 2 [_,_] [] (.le J0 J1) (.le J0 (.a J1 I1)) rfl h2)
theorem rL_from{cut:Bool}{T:List Int}{b:Int}(hb:b≤hi)(hn:cd T (b-1)=10):∀(k:Nat) (p:Int) (acc:List (Int×Int)) (st:Int),k=(b-p).toNat→p< b→st< b→(rowsL cut wd T (hi-p).toNat p acc st).filter (fun r=>decide (b≤r.st))=tot cut wd T hi b
 |0,p,acc,st,hk,h1,h2=>(a_pos h1 hk).elim/-(first|lia|omega)-/
 |k+1,p,acc,st,hk,h1,h2=>by
  have f1:(fin cut wd st acc).st=st:=by delta fin;split<;>rfl
  rw[show(hi-p).toNat=(hi-(p+1)).toNat+1 by exact li4 3 [_,_,_] [_,_] (.tn (.s J0 J1) U0) (.tn (.s J0 (.a J1 I1)) U1) (.le J2 J0) (.lt J1 J2) (.neq U0 (.a U1 O1)) rfl (tn (hi-p)) (tn (hi-(p+1))) hb h1,rowsL_s]
  have e1:∀st,st< b→¬decide (b≤st)=true:=fun st h=>by rw[decide_eq_false (by exact li1 2 [_,_] [] (.lt J0 J1) (.no (.le J1 J0)) rfl h)];exact Bool.false_ne_true
  by_cases c:cd T p=10
  ·rw[if_pos c,List.filter_cons,if_neg (by rw[f1];exact e1 _ h2)]
   by_cases q:p+1=b
   ·rw[q];exact rL_st (Int.le_refl _) (Int.le_refl _)
   ·exact rL_from hb hn k (p+1) [] (p+1) (by exact li3 3 [_,_] [_,_,_] (.tn (.s J0 (.a J1 I1)) U0) (.tn (.s J0 J1) U1) (.neq (.a U2 O1) U1) (.neq U2 U0) rfl (tn (b-(p+1))) (tn (b-p)) hk) (by exact li2 2 [_,_] [] (.lt J0 J1) (.no (.eq (.a J0 I1) J1)) (.lt (.a J0 I1) J1) rfl h1 q) (by exact li2 2 [_,_] [] (.lt J0 J1) (.no (.eq (.a J0 I1) J1)) (.lt (.a J0 I1) J1) rfl h1 q)
  ·have q:p+1≠b:=by rintro rfl;rw[Int.add_sub_cancel] at hn;exact c hn
   rw[if_neg c]
   split
   ·rw[List.filter_cons,if_neg (e1 _ h2)]
    exact rL_from hb hn k (p+1) _ p (by exact li3 3 [_,_] [_,_,_] (.tn (.s J0 (.a J1 I1)) U0) (.tn (.s J0 J1) U1) (.neq (.a U2 O1) U1) (.neq U2 U0) rfl (tn (b-(p+1))) (tn (b-p)) hk) (by exact li2 2 [_,_] [] (.lt J0 J1) (.no (.eq (.a J0 I1) J1)) (.lt (.a J0 I1) J1) rfl h1 q) h1
   ·exact rL_from hb hn k (p+1) _ st (by exact li3 3 [_,_] [_,_,_] (.tn (.s J0 (.a J1 I1)) U0) (.tn (.s J0 J1) U1) (.neq (.a U2 O1) U1) (.neq U2 U0) rfl (tn (b-(p+1))) (tn (b-p)) hk) (by exact li2 2 [_,_] [] (.lt J0 J1) (.no (.eq (.a J0 I1) J1)) (.lt (.a J0 I1) J1) rfl h1 q) h2
theorem tot_from{cut:Bool}{T:List Int}{p b:Int}(h:IsLB T lo p b)(hp:p≤hi):(tot cut wd T hi lo).filter (fun r=>decide (b≤r.st))=tot cut wd T hi b:=by
 refine bc fun ng=>?_
 obtain⟨h1,h2,h3,h4⟩:=h
 refine ng ?_
 by_cases c:b=lo
 ·subst c;exact rL_st (Int.le_refl _) (Int.le_refl _)
 ·exact rL_from (li2 3 [_,_,_] [] (.le J0 J1) (.le J2 J0) (.le J2 J1) rfl hp h2) (h3.resolve_left c) _ lo [] lo rfl (li2 2 [_,_] [] (.le J0 J1) (.no (.eq J1 J0)) (.lt J0 J1) rfl h1 c) (li2 2 [_,_] [] (.le J0 J1) (.no (.eq J1 J0)) (.lt J0 J1) rfl h1 c)
section
variable{cut:Bool}
theorem sp_Options(t:TX K h0)(hn:2≤n)(q:Q .none (H.set a (.inst 39 dx (opFs cut)))):Fn w h0 n 36 [.ref a,.int 4,.bool true,.bool cut,.bool false,.int 0] (H.set a (.inst 39 dx [])) Q X:=by
 refine fn_row t hn 0 rfl [some (.ref a),some (.int 4),some (.bool true),some (.bool cut),some (.bool false),some (.int 0)] ⟨bl rfl,bl rfl⟩ (by kernel_rfl) ?_
 delta b_Options_init;simp only[↓s_nil,↓s_setA,↓retV_n,↓e_var,↓l_0,↓l_s]
 rw[pN (bl rfl) rfl,pN (bl rfl) rfl,pN (bl rfl) rfl,pN (bl rfl) rfl,pN (bl rfl) rfl]
 exact q
theorem sp_TextView(t:TX K h0)(hn:4≤n)(q:Q .none (H.set a (.inst 180 dx [(0,.lst []),(1,.int 1),(2,.ref b)]))):Fn w h0 n 156 [.ref a,.ref b] (H.set a (.inst 180 dx [])) Q X:=by
 refine fn_row t (lv0 hn rfl) 9 rfl [some (.ref a),some (.ref b)] args_all (by kernel_rfl) ?_
 delta b_TextView_init;simp only[↓s_nil,↓s_expr,↓s_setA,↓retV_n,↓e_var,↓e_lst,↓e_clsM,↓es_n,↓es_c,↓l_0,↓l_s,↓ln0]
 refine fn_row t (lv hn rfl) 4 rfl [some (.ref a),some (.lst []),some (.int 1)] ⟨bl rfl,bl rfl⟩ (by kernel_rfl) ?_
 delta b_View_init;simp only[↓s_nil,↓s_setA,↓e_var,↓l_0,↓l_s]
 rw[pN (bl rfl) rfl,pN (bl rfl) rfl,pN (bl rfl) rfl]
 exact q
theorem sp_Face(t:TX K h0)(hn:2≤n)(q:∀o,Q .none (H.set a o)):Fn w h0 n 838 [.ref a,y] (H.set a (.inst 841 dx [])) Q X:=by
 refine fn_row t hn 67 rfl [some (.ref a),some y,some .opq] ⟨bl rfl,bl rfl⟩ (by kernel_rfl) ?_
 delta b_Face_init;simp only[↓s_nil,↓s_setA,↓retV_n,↓e_var,↓l_0,↓l_s]
 rw[pN (bl rfl) rfl,pN (bl rfl) rfl]
 exact q _
theorem sp_FaceTable(t:TX K h0)(hn:4≤n)(ha:R a=none)(q:∀H' fs,Sub R H'→H' a=some (.inst 888 dx fs)→look 85 fs=none→Q .none H'):Fn w h0 n 859 [.ref a] (R.set a (.inst 888 dx [])) Q X:=by
 refine fn_row t (lv0 hn rfl) 68 rfl [some (.ref a)] args_all (by kernel_rfl) ?_
 delta b_FaceTable_init;simp only[↓s_nil,↓s_setA,↓retV_n,↓e_int,↓e_glob,↓e_var,↓e_lst,↓e_new,↓es_n,↓es_c,↓l_0,↓ln1,↓e_dict1]
 intro c hc f df hf
 have cf:f≠c:=ne_new hf
 replace hf:=old_none hf
 have fa:f≠a:=ne_new hf
 refine sp_Face t (lv hn rfl) fun o=>⟨rfl,?_⟩
 refine⟨by rw[Hp.set_ne _ _ cf.symm,Hp.set_self],rfl,?_⟩
 rw[←set_comm cf,del_new (by rw[Hp.set_ne _ _ cf.symm];exact hc),set_comm fa.symm,pN (bl rfl) rfl,pN (bl rfl) rfl]
 intro c2 hc2
 refine⟨Hp.set_self _ _ _,rfl,?_⟩
 rw[del_new hc2,pN (bl rfl) rfl]
 refine q _ _ ?_ (Hp.set_self _ _ _) rfl
 have fR:R f=none:=by rw[Hp.set_ne _ _ fa] at hf;exact hf
 exact((Sub.refl R).new fR).new ha
end
theorem iterF{K:List V→Prop}:itemsP false (.lst xs) K=K xs:=rfl
theorem sliceN{Q:List V→Prop}(h2:0≤hi)(h3:hi< 2^60)(hl:xs.length≤1000000):sliceV H (.lst xs) .none (.int hi) Q=Q (xs.take hi.toNat):=by
 exact sl2 asS_l prN (prI h2 h3) hl
theorem sliceE{Q:List V→Prop}(h2:0≤lo)(h3:lo< 2^60)(hl:xs.length≤1000000):sliceV H (.lst xs) (.int lo) .none Q=Q (xs.drop lo.toNat):=by
 exact sl2 asS_l (prI h2 h3) prN hl
theorem rL_gl{cut:Bool}{T:List Int}:∀{k:Nat} {p:Int} {acc:List (Int×Int)} {st:Int} {r:Rw},r∈rowsL cut wd T k p acc st→r.gl.length≤acc.length+2*k
 |0,p,acc,st,r,h=>by
  rw[rowsL_0] at h
  obtain rfl:=List.mem_singleton.mp h
  delta fin;split
  ·show(acc.take _).length≤_;rw[List.length_take];(exact li1 3 [] [_,_,_] (.nmn U0 U1 U2) (.nle U2 (.a U1 (.m 2 O0))) rfl (mN ((wd-1).toNat) (acc.length)))
  ·exact Nat.le_refl _
 |k+1,p,acc,st,r,h=>by
  have f1:(fin cut wd st acc).gl.length≤acc.length:=by
   delta fin;split
   ·show(acc.take _).length≤_;rw[List.length_take];(exact li1 3 [] [_,_,_] (.nmn U0 U1 U2) (.nle U2 U1) rfl (mN ((wd-1).toNat) (acc.length)))
   ·exact Nat.le_refl _
  have k1:=@cc_len (cd T p)
  have k2:=@sgn_len T p
  rw[rowsL_s] at h
  split at h
  ·rcases List.mem_cons.mp h with rfl|h
   ·(exact li1 3 [] [_,_,_] (.nle U0 U1) (.nle U0 (.a U1 (.m 2 (.a U2 O1)))) rfl f1)
   ·have:=rL_gl h;rw[List.length_nil] at this;(exact li1 3 [] [_,_,_] (.nle U0 (.a O0 (.m 2 U1))) (.nle U0 (.a U2 (.m 2 (.a U1 O1)))) rfl this)
  ·split at h
   ·rcases List.mem_cons.mp h with rfl|h
    ·show acc.length≤_;(exact li0 2 [] [_,_] (.nle U0 (.a U0 (.m 2 (.a U1 O1)))) rfl)
    ·have:=rL_gl h;(exact li3 5 [] [_,_,_,_,_] (.nle U0 O2) (.neq U1 U0) (.nle U2 (.a U1 (.m 2 U3))) (.nle U2 (.a U4 (.m 2 (.a U3 O1)))) rfl k1.2 k2 this)
   ·have:=rL_gl h;rw[List.length_append] at this;(exact li3 5 [] [_,_,_,_,_] (.nle U0 O2) (.neq U1 U0) (.nle U2 (.a (.a U3 U1) (.m 2 U4))) (.nle U2 (.a U3 (.m 2 (.a U4 O1)))) rfl k1.2 k2 this)
section
variable{A:Ad}{T:List Int}{g:Nat}{pos k:Int}{cut:Bool}{bb:V}
theorem rX16{x:RS}:(OptP (getF H 16 (.obj 314 (rwFs x y))) fun u=>isOpq u=false∧q u)=q (.tup [.int x.s,.int 0]):=gO rfl rfl
theorem rX20{x:RS}{ys:List V}:(OptP (getF H 20 (.obj 314 (rwFs x (.lst ys)))) fun u=>isOpq u=false∧q u)=q (.lst ys):=gO rfl rfl
theorem rX24{x:RS}:(OptP (getF H 24 (.obj 314 (rwFs x y))) fun u=>isOpq u=false∧q u)=q (.int x.mark):=gO rfl rfl
theorem sp_shown_right(t:TX K h0)(hn:30≤n)(B:BufAt H A σ)(gd:Good σ T g G)(hbv:σ.bv=lo)(hzv:σ.zv=hi)(l1:1≤lo)(l2:lo≤hi)(l3:hi≤T.length+1)(l4:T.length≤5000)(hc:∀x∈T,OKc x)
  (hmk:H mk=some (.inst 531 dm (mkFs k adv bb pos))) (hmd:H md=some (.sdict [(0,.lst (T.map .int)),(56,.int lo),(57,.int hi),(58,.ref ms)])) (hms:H ms=some (.idict es)) (hes:find2 k es=some (.int pos))
  (hw:3≤wd) (hw2:wd≤100) (q:∀H',Sub H H'→Q (.bool true) H'):Fn w h0 n 961 [.ref A.b,.ref md,.tup [.ref mk,.int wd,.bool cut]] H Q X:=by
 refine fn_row t (lv0 hn rfl) 80 rfl [some (.ref A.b),some (.ref md),some (.tup [.ref mk,.int wd,.bool cut]),none,none,none,none,none,none,none,none,none,none,none] args_all (by kernel_rfl) ?_
 delta b_law_shown_right
 rw[s_setT]
 simp only[↓e_var,↓l_0,↓l_s,↓p_t]
 refine⟨rfl,?_⟩
 show vcSs _ _ _ _ _ [some (.ref A.b),some (.ref md),some (.tup [.ref mk,.int wd,.bool cut]),some (.ref mk),some (.int wd),some (.bool cut),none,none,none,none,none,none,none,none] _ _
 rw[s_setR]
 simp only[↓e_var,↓e_subK,↓e_tup,↓es_n,↓es_c,↓l_0,↓l_s,↓p_t,↓ln3,↓kD (k:=0) hmd rfl,↓kD (k:=56) hmd rfl,↓kD (k:=57) hmd rfl]
 refine⟨rfl,?_⟩
 show vcSs _ _ _ _ _ [some (.ref A.b),some (.ref md),some (.tup [.ref mk,.int wd,.bool cut]),some (.ref mk),some (.int wd),some (.bool cut),some (.lst (T.map .int)),some (.int lo),some (.int hi),none,none,none,none,none] _ _
 simp only[↓s_set,↓sl_0,↓sl_s,↓e_var,↓e_attr,↓e_sub,↓e_subK,↓e_b2,↓l_0,↓l_s,↓m_min,↓m_max,↓kD (k:=58) hmd rfl,↓gF hmk (k:=14) rfl rfl,↓iD hms hes]
 generalize hp:min (max pos lo) hi=p
 have p1:lo≤p:=li4 6 [_,_,_,_,_,_] [] (.mn J0 J1 J2) (.mx J3 J4 J0) (.le J4 J1) (.eq J2 J5) (.le J4 J5) rfl (mI (max pos lo) (hi)) (xI (pos) (lo)) l2 hp
 have p2:p≤hi:=li2 4 [_,_,_,_] [] (.mn J0 J1 J2) (.eq J2 J3) (.le J3 J1) rfl (mI (max pos lo) (hi)) hp
 refine s_whlI (m:=(p-lo).toNat) (fun m l H'=>∃b,l=[some (.ref A.b),some (.ref md),some (.tup [.ref mk,.int wd,.bool cut]),some (.ref mk),some (.int wd),some (.bool cut),some (.lst (T.map .int)),some (.int lo),some (.int hi),some (.int b),none,none,none,none]∧H=H'∧m=(b-lo).toNat∧lo≤b∧b≤p∧∀q,b≤q→q< p→cd T q≠10)
  ⟨p,rfl,rfl,rfl,p1,Int.le_refl _,fun q a b=>absurd a (li1 2 [_,_] [] (.lt J0 J1) (.no (.le J1 J0)) rfl b)⟩ ?_
 rintro m l H' K' ⟨b,rfl,rfl,rfl,b1,b2,b3⟩ kn kr
 apply absorb (P:=IsLB T lo p b)
 ·intro fin
  simp only[↓e_int,↓e_var,↓e_bin,↓e_cmp,↓e_and,↓e_sub,↓l_0,↓l_s,↓p_b,↓b_sub,↓c_gt,↓sF]
  refine dD (fun h=>?_) fun h=>?_
  ·have ei:(b-2).toNat=(b-1-1).toNat:=li2 2 [_] [_,_] (.tn (.s J0 I2) U0) (.tn (.s (.s J0 I1) I1) U1) (.neq U0 U1) rfl (tn (b-2)) (tn (b-1-1))
   have hx:(T.map V.int)[(b-2).toNat]? =some (.int (cd T (b-1))):=by rw[ei];exact codeV (li2 2 [_,_] [] (.le I1 J0) (.lt J0 J1) (.le I1 (.s J1 I1)) rfl l1 h) (li3 3 [_,_,_] [_] (.le J0 (.a (.n U0) I1)) (.le J1 J0) (.le J2 J1) (.le (.s J2 I1) (.n U0)) rfl l3 p2 b2)
   simp only[↓iP (xs:=T.map V.int) (i:=b-2) (li2 2 [_,_] [] (.le I1 J0) (.lt J0 J1) (.le I0 (.s J1 I2)) rfl l1 h) (li4 3 [_,_,_] [_] (.le J0 (.a (.n U0) I1)) (.nle U0 (.c 5000)) (.le J1 J0) (.le J2 J1) (.lt (.s J2 I2) (.c (2^60))) rfl l3 l4 p2 b2) hx,↓e_int,↓e_str,↓e_bool,↓e_none,↓e_glob,↓e_var,↓e_neg,↓e_not,↓e_bin,↓e_addM,↓e_cmp,↓e_cmp2,↓e_cmp3,↓e_and,↓e_or,↓e_ite,↓e_attr,↓e_sub,↓e_subK,↓e_slice,↓e_tup,↓e_lst,↓e_lstM,↓e_call,↓e_meth,↓e_clsM,↓e_new,↓e_b1,↓e_b2,↓e_app,↓e_ext,↓es_n,↓es_c,↓o_s,↓l_0,↓l_s,↓p_b,↓p_t,↓n_i,↓n_b,↓b_add,↓b_sub,↓c_eq,↓c_ne,↓c_lt,↓c_le,↓c_gt,↓c_ge,↓c_isn,↓c_isl,↓c_ist,↓c_isr,↓c_inn,↓c_int,↓c_inr,↓m_min,↓m_max,↓b_abs,↓sT,↓sF,↓sT',↓sF',↓ln0,↓ln1,↓ln2,↓ln3,↓ln4,↓ln5,↓ln6]
   refine dN (fun h'=>?_) fun h'=>?_
   ·simp only[↓s_nil,↓s_set,↓sl_0,↓sl_s,↓e_int,↓e_var,↓e_bin,↓l_0,↓l_s,↓b_sub]
    refine kn (b-1-lo).toNat _ _ (li3 2 [_,_] [_,_] (.tn (.s (.s J0 I1) J1) U0) (.tn (.s J0 J1) U1) (.lt J1 J0) (.nlt U0 U1) rfl (tn (b-1-lo)) (tn (b-lo)) h) ⟨b-1,rfl,rfl,rfl,by exact li1 2 [_,_] [] (.lt J0 J1) (.le J0 (.s J1 I1)) rfl h,by exact li1 2 [_,_] [] (.le J0 J1) (.le (.s J0 I1) J1) rfl b2,fun q a c=>?_⟩
    by_cases k:q=b-1
    ·rw[k];exact h'
    ·exact b3 q (li2 2 [_,_] [] (.le (.s J0 I1) J1) (.no (.eq J1 (.s J0 I1))) (.le J0 J1) rfl a k) c
   ·exact fin ⟨b1,b2,.inr h',b3⟩
  ·exact fin ⟨b1,b2,.inl (li2 2 [_,_] [] (.le J0 J1) (.no (.lt J0 J1)) (.eq J1 J0) rfl b1 h),b3⟩
 intro lb
 simp only[↓s_set,↓sl_0,↓sl_s,↓e_var,↓e_new,↓es_n,↓es_c,↓l_0]
 intro v dv hv
 refine sp_TextView t (lv hn rfl) ⟨rfl,?_⟩
 have s1:Sub H (H.set v (.inst 180 dv [(0,.lst []),(1,.int 1),(2,.ref A.b)])):=(Sub.refl H).new hv
 have V1:Vw (H.set v (.inst 180 dv [(0,.lst []),(1,.int 1),(2,.ref A.b)])) v T lo hi:=⟨⟨A,σ,g,G,dv,Hp.set_self _ _ _,B.sub s1,gd,hbv,hzv⟩,l1,l2,l3,by exact li1 1 [] [_] (.nle U0 (.c 5000)) (.nle U0 (.c 10000)) rfl l4⟩
 have hv1:(H.set v (.inst 180 dv [(0,.lst []),(1,.int 1),(2,.ref A.b)])) v=some (.inst 180 dv [(0,.lst []),(1,.int 1),(2,.ref A.b)]):=Hp.set_self _ _ _
 have hmk1:=s1 _ _ hmk
 generalize H.set v (.inst 180 dv [(0,.lst []),(1,.int 1),(2,.ref A.b)])=H1 at*
 refine s_ite ?_
 simp only[↓e_var,↓e_cmp,↓e_attr,↓e_call,↓e_meth,↓e_b2,↓es_n,↓es_c,↓l_0,↓l_s,↓p_b,↓gF hmk1 (k:=31) rfl rfl,↓gI hv1 (k:=59) rfl]
 refine sp_vbegin t (lv hn rfl) V1 ?_
 simp only[↓m_max,↓gI hv1 (k:=18) rfl]
 refine sp_vend t (lv hn rfl) V1 ?_
 simp only[↓m_min,hp]
 refine sp_line_begin t (lv hn rfl) V1 p1 p2 fun b' lb'=>?_
 obtain rfl:=lb.uniq lb'
 simp only[↓s_nil,↓s_ret,↓nk_n,↓retV_r,↓s_set,↓sl_0,↓sl_s,↓e_int,↓e_bool,↓e_none,↓e_var,↓e_slice,↓e_tup,↓e_call,↓e_new,↓es_n,↓es_c,↓l_0,↓l_s,↓c_ne,↓ln2,↓dT (rfl:b=b),↓dT' (rfl:b=b),↓nT (rfl:b=b),↓nT' (rfl:b=b)]
 intro op dop hop
 refine sp_Options t (lv hn rfl) ⟨rfl,?_⟩
 have s2:Sub H1 (H1.set op (.inst 39 dop (opFs cut))):=(Sub.refl H1).new hop
 have ho2:(H1.set op (.inst 39 dop (opFs cut))) op=some (.inst 39 dop (opFs cut)):=Hp.set_self _ _ _
 generalize H1.set op (.inst 39 dop (opFs cut))=H2 at*
 simp only[↓e_int,↓e_var,↓e_cmp,↓e_sub,↓e_call,↓es_n,↓es_c,↓l_0,↓l_s,↓p_b,↓e_comp]
 refine sp_law_rows t (lv hn rfl) l1 l2 l3 l4 hw hw2 ?_
 simp only[↓iterF]
 have tl:(tot cut wd T hi lo).length≤5001:=by
  have e2:(tot cut wd T hi lo).length≤(hi-lo).toNat+1:=rL_len
  (exact li5 3 [_,_] [_,_,_] (.tn (.s J0 J1) U0) (.le I1 J1) (.le J0 (.a (.n U1) I1)) (.nle U1 (.c 5000)) (.nle U2 (.a U0 O1)) (.nle U2 (.c 5001)) rfl (tn (hi-lo)) l1 l3 l4 e2)
 have tlb:(tot cut wd T hi b).length≤5001:=by
  have e2:(tot cut wd T hi b).length≤(hi-b).toNat+1:=rL_len
  (exact li6 3 [_,_,_] [_,_,_] (.tn (.s J0 J1) U0) (.le I1 J2) (.le J0 (.a (.n U1) I1)) (.nle U1 (.c 5000)) (.le J2 J1) (.nle U2 (.a U0 O1)) (.nle U2 (.c 5001)) rfl (tn (hi-b)) l1 l3 l4 b1 e2)
 refine⟨by rw[List.length_map];(exact li1 1 [] [_] (.nle U0 (.c 5001)) (.nle U0 (.c 100000)) rfl tl),?_⟩
 refine comp_inv (fun xs acc H'=>∃rs ds,xs=rs.map rwV∧acc=ds.map rwV∧H2=H'∧ds++rs.filter (fun r=>decide (b≤r.st))=tot cut wd T hi b) ?_ ?_ _ _ _ ⟨tot cut wd T hi lo,[],rfl,rfl,rfl,tot_from lb p2⟩
 ·rintro x r acc H' K' ⟨rs,ds,h1,rfl,rfl,h2⟩ k1 k2
  cases rs with
  |nil=>cases h1
  |cons a rs=>
   cases h1
   have eb:bindT (Tg.nm 1) (rwV a) (capL 2 [some 9] [some (.ref A.b),some (.ref md),some (.tup [.ref mk,.int wd,.bool cut]),some (.ref mk),some (.int wd),some (.bool cut),some (.lst (T.map .int)),some (.int lo),some (.int hi),some (.int b),some (.ref v),some (.ref op),none,none])=some [none,some (.tup [.int a.st,.lst (a.gl.map g2),.int a.mark]),some (.int b)]:=rfl
   simp only[eb,↓o_s,↓l_0,↓l_s,↓c_ge,↓iT (xs:=[V.int a.st,.lst (a.gl.map g2),.int a.mark]) (i:=0) (by decide) (by decide) rfl]
   refine dD (fun c=>?_) fun c=>?_
   ·refine k1 (rwV a) _ ⟨rs,ds++[a],rfl,by rw[List.map_append];rfl,rfl,?_⟩
    rw[List.filter_cons,if_pos (decide_eq_true c)] at h2;rw[List.append_assoc];exact h2
   ·refine k2 _ ⟨rs,ds,rfl,rfl,rfl,?_⟩
    rw[List.filter_cons,if_neg (by rw[decide_eq_false c];exact Bool.false_ne_true)] at h2;exact h2
 rintro acc H' ⟨rs,ds,h1,rfl,rfl,h2⟩
 cases rs with
 |cons a rs=>cases h1
 |nil=>
 rw[List.filter_nil,List.append_nil] at h2
 subst h2
 have tl3:((tot cut wd T hi b).map rwV).length≤1000000:=by rw[List.length_map];(exact li1 1 [] [_] (.nle U0 (.c 5001)) (.nle U0 (.c 1000000)) rfl tlb)
 simp only[↓sliceN (hi:=3) (by decide) (by decide) tl3,←List.map_take,show(3:Int).toNat=3 from rfl]
 intro ft dft hft
 refine sp_FaceTable t (lv hn rfl) hft fun H3 fs s3 hf3 hl3=>⟨rfl,?_⟩
 have E3:WE H3 v ft op T lo hi cut:=⟨V1.sub (s2.trans s3),⟨dft,fs,hf3,hl3⟩,⟨dop,s3 _ _ ho2⟩,hc⟩
 refine sp_laid_rows t (lv hn rfl) E3 lb.h1 (li2 3 [_,_,_] [] (.le J0 J1) (.le J2 J0) (.le J2 J1) rfl p2 b2) hw hw2 fun xs H4 s4 hx=>?_
 have q:=q H4 (s1.trans (s2.trans (s3.trans s4)))
 simp only[↓e_int,↓e_bool,↓e_var,↓e_attr,↓e_sub,↓e_tup,↓es_n,↓es_c,↓l_0,↓l_s,↓p_b,↓sT,↓ln2,↓ln3,↓e_cmpDe,↓e_comp,↓iterF]
 have lx:xs.length≤3:=by
  have e:=congrArg List.length hx
  rw[List.length_map,List.length_take] at e;(exact li2 3 [] [_,_,_] (.nmn (.c 3) U0 U1) (.neq U2 U1) (.nle U2 (.c 3)) rfl (mN (3) ((tot cut wd T hi b).length)) e)
 refine⟨by rw[List.length_map];(exact li1 1 [] [_] (.nle U0 (.c 3)) (.nle U0 (.c 100000)) rfl lx),?_⟩
 refine comp_inv (fun ys acc H'=>∃rs ds,ys=rs.map RX.va∧acc=ds.map rwV∧H4=H'∧ds++rs.map RX.rw=xs.map RX.rw) ?_ ?_ _ _ _ ⟨xs,[],rfl,rfl,rfl,rfl⟩
 ·rintro x r acc H' K' ⟨rs,ds,h1,rfl,rfl,h2⟩ k1 k2
  cases rs with
  |nil=>cases h1
  |cons a rs=>
   cases h1
   have eb:bindT (Tg.nm 1) (RX.va a) (capL 2 [] [some (.ref A.b),some (.ref md),some (.tup [.ref mk,.int wd,.bool cut]),some (.ref mk),some (.int wd),some (.bool cut),some (.lst (T.map .int)),some (.int lo),some (.int hi),some (.int b),some (.ref v),some (.ref op),some (.lst (((tot cut wd T hi b).take 3).map rwV)),some (.lst (xs.map RX.va))])=some [none,some (.obj 314 (rwFs a.x (.lst (a.gl.map g3'))))]:=rfl
   simp only[eb,↓o_s,↓l_0,↓l_s,↓rX16,↓rX20,↓rX24,↓iT (xs:=[V.int a.x.s,.int 0]) (i:=0) (by decide) (by decide) rfl,↓iterF]
   have la:a.gl.length≤20000:=by
    have m1:a.rw∈xs.map RX.rw:=by rw[←h2];exact List.mem_append.mpr (.inr (.head _))
    rw[hx] at m1
    have:=rL_gl (List.mem_of_mem_take m1)
    rw[List.length_nil] at this
    have e3:a.rw.gl=a.gl:=rfl
    rw[e3] at this;(exact li6 3 [_,_,_] [_,_,_] (.tn (.s J0 J1) U0) (.le I1 J2) (.le J0 (.a (.n U1) I1)) (.nle U1 (.c 5000)) (.le J2 J1) (.nle U2 (.a O0 (.m 2 U0))) (.nle U2 (.c 20000)) rfl (tn (hi-b)) l1 l3 l4 b1 this)
   refine⟨by rw[List.length_map];(exact li1 1 [] [_] (.nle U0 (.c 20000)) (.nle U0 (.c 100000)) rfl la),?_⟩
   refine comp_inv (fun ys acc H'=>∃gs es,ys=gs.map g3'∧acc=es.map g2∧H4=H'∧es++gs=a.gl) ?_ ?_ _ _ _ ⟨a.gl,[],rfl,rfl,rfl,rfl⟩
   ·rintro x r acc H' K' ⟨gs,es,h1,rfl,rfl,h3⟩ j1 j2
    cases gs with
    |nil=>cases h1
    |cons u gs=>
     cases h1
     have eb:bindT (Tg.tp [1,2,3]) (g3' u) (capL 4 [] [none,some (.obj 314 (rwFs a.x (.lst (a.gl.map g3'))))])=some [none,some (.int u.1),some (.int 0),some (.int u.2)]:=rfl
     simp only[eb,↓o_s,↓l_0,↓l_s]
     exact j1 _ _ ⟨gs,es++[u],rfl,by rw[List.map_append];rfl,rfl,by rw[List.append_assoc];exact h3⟩
   rintro acc H' ⟨gs,es,h1,rfl,rfl,h3⟩
   cases gs with
   |cons a rs=>cases h1
   |nil=>
   rw[List.append_nil] at h3
   subst h3
   exact k1 _ _ ⟨rs,ds++[a.rw],rfl,by rw[List.map_append];rfl,rfl,by rw[List.append_assoc];exact h2⟩
 rintro acc H' ⟨rs,ds,h1,rfl,rfl,h2⟩
 cases rs with
 |cons a rs=>cases h1
 |nil=>
 rw[List.map_nil,List.append_nil] at h2
 subst h2
 simp only[↓l_s,↓l_0,hx]
 refine⟨.list (((tot cut wd T hi b).take 3).map dRw),.list (((tot cut wd T hi b).take 3).map dRw),by rw[toD_l,toDs_rw];rfl,by rw[toD_l,toDs_rw];rfl,kq_rw _,kq_rw _,fun p hp=>?_⟩
 rw[hp.mpr rfl];exact q
end
noncomputable def Ad.has(A:Ad)(a:Addr):Prop:=a=A.b∨a=A.t∨a=A.c∨a=A.m∨a=A.rd∨a=A.m1∨a=A.m2
noncomputable def Ad.has0(A:Ad)(a:Addr):Prop:=a=A.b∨a=A.t∨a=A.c∨a=A.m∨a=A.rd
section
variable{R':Hp}{A:Ad}{σ':Bs}{P:Int×Int}
theorem upd_off(h:¬A.has a):upd R A σ a=R a:=by
 delta Ad.has at h
 simp only[not_or] at h
 delta upd
 rw[if_neg h.1,if_neg h.2.1,if_neg h.2.2.1,if_neg h.2.2.2.1]
 cases σ.ms with
 |none=>exact if_neg h.2.2.2.2.1
 |some p=>simp only[if_neg h.2.2.2.2.1,if_neg h.2.2.2.2.2.1,if_neg h.2.2.2.2.2.2]
theorem upd_off0(hm:σ.ms=none)(h:¬A.has0 a):upd R A σ a=R a:=by
 delta Ad.has0 at h
 simp only[not_or] at h
 delta upd
 rw[if_neg h.1,if_neg h.2.1,if_neg h.2.2.1,if_neg h.2.2.2.1,hm]
 exact if_neg h.2.2.2.2
theorem upd_on(hm:σ.ms=some P)(h:A.has a):upd R A σ a=upd R' A σ a∧∃o,upd R A σ a=some o:=by
 delta upd
 rw[hm]
 by_cases h1:a=A.b
 ·rw[if_pos h1,if_pos h1];exact⟨rfl,_,rfl⟩
 rw[if_neg h1,if_neg h1]
 by_cases h2:a=A.t
 ·rw[if_pos h2,if_pos h2];exact⟨rfl,_,rfl⟩
 rw[if_neg h2,if_neg h2]
 by_cases h3:a=A.c
 ·rw[if_pos h3,if_pos h3];exact⟨rfl,_,rfl⟩
 rw[if_neg h3,if_neg h3]
 by_cases h4:a=A.m
 ·rw[if_pos h4,if_pos h4];exact⟨rfl,_,rfl⟩
 rw[if_neg h4,if_neg h4]
 by_cases h5:a=A.rd
 ·simp only[if_pos h5];exact⟨trivial,_,rfl⟩
 by_cases h6:a=A.m1
 ·simp only[if_neg h5,if_pos h6];exact⟨trivial,_,rfl⟩
 by_cases h7:a=A.m2
 ·simp only[if_neg h5,if_neg h6,if_pos h7];exact⟨trivial,_,rfl⟩
 ·exact absurd h (by delta Ad.has;simp[h1,h2,h3,h4,h5,h6,h7])
theorem upd_sub(hm:σ.ms=some P)(e:H=upd H A σ)(s:Sub H H'):H'=upd H' A σ:=by
 funext a
 by_cases h:A.has a
 ·refine bc fun ng=>?_
  obtain⟨e1,o,e2⟩:=upd_on (R:=H) (R':=H') hm h
  refine ng ?_
  rw[←e1,e2];exact s a o (by rw[e];exact e2)
 ·exact(upd_off h).symm
theorem upd_set(hm:σ.ms=some P)(e:H=upd H A σ)(h:¬A.has a):H.set a o=upd (H.set a o) A σ:=by
 funext b
 by_cases hb:A.has b
 ·refine bc fun ng=>?_
  refine xa2 (upd_on (R:=H) (R':=H.set a o) hm hb) ?_
  rintro e1 _
  refine ng ?_
  rw[←e1,←e,Hp.set_ne _ _ (by rintro rfl;exact h hb)]
 ·exact(upd_off hb).symm
theorem upd_new(hm:σ.ms=some P)(hm':σ'.ms=some P'):upd H A σ'=upd (upd H A σ') A σ':=by
 funext b
 by_cases hb:A.has b
 ·exact(upd_on (R:=H) (R':=upd H A σ') hm' hb).1
 ·exact(upd_off hb).symm
theorem upd_set0(hm:σ.ms=none)(h:¬A.has0 a):(upd R A σ).set a o=upd (R.set a o) A σ:=by
 delta Ad.has0 at h
 simp only[not_or] at h
 funext b
 delta Hp.set upd
 by_cases hb:b=a
 ·subst hb;rw[if_pos rfl,if_neg h.1,if_neg h.2.1,if_neg h.2.2.1,if_neg h.2.2.2.1,hm]
  simp only[if_neg h.2.2.2.2,if_pos]
 ·simp only[if_neg hb]
end
structure PF(H:Hp)(A:Ad)(σ:Bs):Prop where
 B:BufAt H A σ
 m:H A.m=some (.inst 599 A.dm [(8,.ref A.rd)])
section
variable{A:Ad}{T:List Int}{g:Nat}{m:Addr}{P:Int×Int}{k:Int}
theorem sp_GapText(t:TX K h0)(hn:2≤n)(hR:R a=none)(q:∀c,c≠a→R c=none→Q .none ((R.set a (.inst 454 dx (txtFs c 0 4))).set c (.list (cells [] 0 [0,0,0,0])))):Fn w h0 n 381 [.ref a,.lst [],.int 4] (R.set a (.inst 454 dx [])) Q X:=by
 refine fn_row t hn 31 rfl [some (.ref a),some (.lst []),some (.int 4)] args_all (by kernel_rfl) ?_
 delta b_GapText_init;simp only[↓s_nil,↓s_setA,↓retV_n,↓e_int,↓e_var,↓e_bin,↓e_addM,↓e_lst,↓e_b1,↓es_n,↓es_c,↓l_0,↓l_s,↓ln1,↓b_list]
 rw[pN (bl rfl) rfl]
 refine⟨by decide,bML (by decide) (by decide) (bl rfl) ⟨bl rfl,fun c hc=>?_⟩⟩
 have ca:c≠a:=ne_new hc
 replace hc:=old_none hc
 have wr:∀{fs gs:List (Nat×V)} {k:Nat} {y:V} {Q:Hp→Prop} {l:AObj},fs.length≤900→setF k y fs=gs→putF ((R.set a (.inst 454 dx fs)).set c l) k (.ref a) y Q=Q ((R.set a (.inst 454 dx gs)).set c l):=by
  intro fs gs k y Q l hl hg
  refine(pF ((Hp.set_ne _ _ ca.symm).trans (Hp.set_self _ _ _)) hl hg).trans ?_
  rw[set_comm ca,set_set]
 rw[wr (bl rfl) rfl,lenP (by decide),wr (bl rfl) rfl,lenP (by decide),b_add,wr (bl rfl) rfl]
 exact q c ca hc
theorem sp_Markers(t:TX K h0)(hn:2≤n)(hR:R a=none)(q:∀c,c≠a→R c=none→Q .none ((R.set a (.inst 599 dx [(8,.ref c)])).set c (.idict []))):Fn w h0 n 547 [.ref a] (R.set a (.inst 599 dx [])) Q X:=by
 refine fn_row t hn 40 rfl [some (.ref a)] args_all (by kernel_rfl) ?_
 delta b_Markers_init;simp only[↓s_nil,↓s_setA,↓retV_n,↓e_var,↓l_0,↓e_dict0]
 intro c hc
 have ca:c≠a:=ne_new hc
 replace hc:=old_none hc
 rw[pF ((Hp.set_ne _ _ ca.symm).trans (Hp.set_self _ _ _)) (bl rfl) rfl,set_comm ca,set_set]
 exact q c ca hc
theorem sp_Marker(t:TX K h0)(hn:2≤n)(q:Q .none (H.set a (.inst 531 dx (mkFs k adv .none 0)))):Fn w h0 n 507 [.ref a,.int k,.bool adv] (H.set a (.inst 531 dx [])) Q X:=by
 refine fn_row t hn 39 rfl [some (.ref a),some (.int k),some (.bool adv)] args_all (by kernel_rfl) ?_
 delta b_Marker_init;simp only[↓s_nil,↓s_setA,↓retV_n,↓e_int,↓e_none,↓e_var,↓l_0,↓l_s]
 rw[pN (bl rfl) rfl,pN (bl rfl) rfl,pN (bl rfl) rfl,pN (bl rfl) rfl]
 exact q
end
theorem ne_ii{D dy:Addr}(ha:H a=some (.inst C dx fs))(hb:H b=some (.inst D dy gs))(h:C≠D):a≠b:=by
 rintro rfl;rw[ha] at hb;injection hb with hb;injection hb with hb;exact h hb
theorem ne_oo(ha:H a=some o)(hb:H b=some o')(h:o≠o'):a≠b:=by
 rintro rfl;rw[ha] at hb;injection hb with hb;exact h hb
noncomputable def σ0:Bs:=⟨cells [] 0 [0,0,0,0],0,4,1,1,1,1,1,none⟩
section
variable{A:Ad}{T:List Int}{g:Nat}{k:Int}
theorem sp_Buffer(t:TX K h0)(hn:4≤n)(hR:R b=none)(q:∀A:Ad,A.OK→A.b=b→R A.t=none→R A.c=none→R A.m=none→R A.rd=none→Q .none (upd R A σ0)):
  Fn w h0 n 618 [.ref b,.int 1,.str "b",.int 4] (R.set b (.inst 705 dx [])) Q X:=by
 refine fn_row t (lv0 hn rfl) 46 rfl [some (.ref b),some (.int 1),some (.str "b"),some (.int 4)] ⟨bl rfl,bl rfl⟩ (by kernel_rfl) ?_
 refine r_setA (ev_var rfl) (ev_var rfl) (pNr (gs:=[(14,.int 1)]) (by exact bl rfl) rfl) ?_
 refine r_setA (ev_var rfl) (ev_var rfl) (pNr (gs:=[(14,.int 1),(32,.str "b")]) (by exact bl rfl) rfl) ?_
 refine r_sA (x_new (evs_c (ev_lst evs_n (Nat.zero_le _)) (evs_c (ev_var rfl) evs_n)) ?_)
 intro tt dt htt
 have tb:tt≠b:=ne_new htt
 refine sp_GapText t (lv hn rfl) htt fun c ct hc=>⟨rfl,?_⟩
 have cb:c≠b:=ne_new hc
 replace htt:=old_none htt
 replace hc:=old_none hc
 rw[set_comm tb.symm,set_comm cb.symm]
 refine(ev_var rfl).g (pNr (gs:=[(14,.int 1),(32,.str "b"),(2,.ref tt)]) (by exact bl rfl) rfl _ ?_)
 refine r_sA (x_new evs_n ?_)
 intro m dm hm
 have mb:m≠b:=ne_new hm
 refine sp_Markers t (lv hn rfl) hm fun rd rm hrd=>⟨rfl,?_⟩
 have rb:rd≠b:=ne_new hrd
 replace hm:=old_none hm
 replace hrd:=old_none hrd
 have mc:m≠c:=ne_new hm
 have rc:rd≠c:=ne_new hrd
 replace hm:=old_none hm
 replace hrd:=old_none hrd
 have mt:m≠tt:=ne_new hm
 have rt:rd≠tt:=ne_new hrd
 replace hm:=old_none hm
 replace hrd:=old_none hrd
 have q9:=q ⟨b,dx,tt,dt,c,m,dm,rd,0,0,0,0⟩ ⟨tb,cb,ct,mb,mt,mc,rb,rt,rc,rm⟩ rfl htt hc hm hrd
 rw[set_comm mb.symm,set_comm rb.symm]
 refine(ev_var rfl).g (pNr (gs:=(bufFs tt m 1 1 1 1 1).take 4) (by exact bl rfl) rfl _ ?_)
 refine r_setA ev_int (ev_var rfl) (pNr (gs:=(bufFs tt m 1 1 1 1 1).take 5) (by exact bl rfl) rfl) ?_
 refine r_setA ev_int (ev_var rfl) (pNr (gs:=(bufFs tt m 1 1 1 1 1).take 6) (by exact bl rfl) rfl) ?_
 refine r_setA ev_int (ev_var rfl) (pNr (gs:=(bufFs tt m 1 1 1 1 1).take 7) (by exact bl rfl) rfl) ?_
 refine r_setA ev_none (ev_var rfl) (pNr (gs:=(bufFs tt m 1 1 1 1 1).take 8) (by exact bl rfl) rfl) ?_
 refine r_setA ev_bool (ev_var rfl) (pNr (gs:=(bufFs tt m 1 1 1 1 1).take 9) (by exact bl rfl) rfl) ?_
 refine r_setA ev_bool (ev_var rfl) (pNr (gs:=(bufFs tt m 1 1 1 1 1).take 10) (by exact bl rfl) rfl) ?_
 refine r_setA ev_int (ev_var rfl) (pNr (gs:=(bufFs tt m 1 1 1 1 1).take 11) (by exact bl rfl) rfl) ?_
 refine r_setA ev_int (ev_var rfl) (pNr (gs:=(bufFs tt m 1 1 1 1 1).take 12) (by exact bl rfl) rfl) ?_
 refine r_setA ev_int (ev_var rfl) (pNr (gs:=(bufFs tt m 1 1 1 1 1).take 13) (by exact bl rfl) rfl) ?_
 refine r_setA (ev_lst evs_n (Nat.zero_le _)) (ev_var rfl) (pNr (gs:=(bufFs tt m 1 1 1 1 1).take 14) (by exact bl rfl) rfl) ?_
 refine r_setA ev_none (ev_var rfl) (pNr (gs:=(bufFs tt m 1 1 1 1 1).take 15) (by exact bl rfl) rfl) ?_
 refine r_setA ev_none (ev_var rfl) (pNr (gs:=(bufFs tt m 1 1 1 1 1).take 16) (by exact bl rfl) rfl) ?_
 refine r_setA ev_none (ev_var rfl) (pNr (gs:=(bufFs tt m 1 1 1 1 1).take 17) (by exact bl rfl) rfl) ?_
 refine r_setA ev_none (ev_var rfl) (pNr (gs:=(bufFs tt m 1 1 1 1 1).take 18) (by exact bl rfl) rfl) ?_
 refine r_setA ev_none (ev_var rfl) (pNr (gs:=(bufFs tt m 1 1 1 1 1).take 19) (by exact bl rfl) rfl) ?_
 refine r_setA ev_none (ev_var rfl) (pNr (gs:=(bufFs tt m 1 1 1 1 1).take 20) (by exact bl rfl) rfl) ?_
 have e:((((R.set tt (.inst 454 dt (txtFs c 0 4))).set c (.list (cells [] 0 [0,0,0,0]))).set m (.inst 599 dm [(8,.ref rd)])).set rd (.idict [])).set b (.inst 705 dx (bufFs tt m 1 1 1 1 1))=upd R ⟨b,dx,tt,dt,c,m,dm,rd,0,0,0,0⟩ σ0:=by
  have ok':Ad.OK ⟨b,dx,tt,dt,c,m,dm,rd,0,0,0,0⟩:=⟨tb,cb,ct,mb,mt,mc,rb,rt,rc,rm⟩
  funext a
  by_cases h1:a=b
  ·rw[h1];exact(Hp.set_self _ _ _).trans (u_b (R:=R) (A:=⟨b,dx,tt,dt,c,m,dm,rd,0,0,0,0⟩) (σ:=σ0)).symm
  refine(Hp.set_ne _ _ h1).trans ?_
  by_cases h5:a=rd
  ·rw[h5];exact(Hp.set_self _ _ _).trans (u_rd0 (R:=R) (σ:=σ0) ok' rfl).symm
  refine(Hp.set_ne _ _ h5).trans ?_
  by_cases h4:a=m
  ·rw[h4];exact(Hp.set_self _ _ _).trans (u_m (R:=R) (σ:=σ0) ok').symm
  refine(Hp.set_ne _ _ h4).trans ?_
  by_cases h3:a=c
  ·rw[h3];exact(Hp.set_self _ _ _).trans (u_c (R:=R) (σ:=σ0) ok').symm
  refine(Hp.set_ne _ _ h3).trans ?_
  by_cases h2:a=tt
  ·rw[h2];exact(Hp.set_self _ _ _).trans (u_t (R:=R) (σ:=σ0) ok').symm
  refine(Hp.set_ne _ _ h2).trans ?_
  exact(upd_off0 rfl fun k=>k.elim h1 fun k=>k.elim h2 fun k=>k.elim h3 fun k=>k.elim h4 h5).symm
 rw[←e] at q9
 exact r_nil q9
theorem sp_set_marker(t:TX K h0)(hn:8≤n)(F:PF H A σ)(gd:Good σ T g G)(hr:H A.rd=some (.idict es))(hes:es.length≤10)(hm:H mk=some (.inst 531 dm (mkFs k adv .none 0)))(h1:1≤place)(h2:place≤T.length+1)
  (q:Q .none ((H.set A.rd (.idict (putD k (.ref mk) es))).set mk (.inst 531 dm (mkFs k adv (.ref A.b) place)))):Fn w h0 n 913 [.ref mk,.ref A.b,.int place] H Q X:=by
 refine fn_row t (lv0 hn rfl) 72 rfl [some (.ref mk),some (.ref A.b),some (.int place)] args_all (by kernel_rfl) ?_
 have nb:A.b≠mk:=ne_ii F.B.b hm (by decide)
 have nt:A.t≠mk:=ne_ii F.B.t hm (by decide)
 have nm:A.m≠mk:=ne_ii F.m hm (by decide)
 have nc:A.c≠mk:=ne_oo F.B.c hm (fun e=>(by exact nomatch e))
 have nr:A.rd≠mk:=ne_oo hr hm (fun e=>(by exact nomatch e))
 have B':BufAt (H.set mk (.inst 531 dm (mkFs k adv (.ref A.b) 0))) A σ:=⟨(Hp.set_ne _ _ nb).trans F.B.b,(Hp.set_ne _ _ nt).trans F.B.t,(Hp.set_ne _ _ nc).trans F.B.c⟩
 have m':(H.set mk (.inst 531 dm (mkFs k adv (.ref A.b) 0))) A.m=some (.inst 599 A.dm [(8,.ref A.rd)]):=(Hp.set_ne _ _ nm).trans F.m
 have r':(H.set mk (.inst 531 dm (mkFs k adv (.ref A.b) 0))) A.rd=some (.idict es):=(Hp.set_ne _ _ nr).trans hr
 have k':(H.set mk (.inst 531 dm (mkFs k adv (.ref A.b) 0))) mk=some (.inst 531 dm (mkFs k adv (.ref A.b) 0)):=Hp.set_self _ _ _
 have hw:=fun(Q:Hp→Prop)=>pF (y:=.ref A.b) (k:=30) (Q:=Q) hm (bl rfl) (show setF 30 (.ref A.b) (mkFs k adv .none 0)=mkFs k adv (.ref A.b) 0 from rfl)
 delta b_set_marker
 refine s_ite ?_
 simp only[↓s_nil,↓s_setA,↓nk_n,↓e_none,↓e_var,↓e_cmp,↓e_and,↓e_attr,↓l_0,↓l_s,↓p_b,↓c_inn,↓sF,↓gF hm (k:=30) rfl rfl,hw]
 have hH:∀X Y,((H.set mk (.inst 531 dm (mkFs k adv (.ref A.b) 0))).set A.rd X).set mk Y=(H.set A.rd X).set mk Y:=fun X Y=>by rw[set_comm nr.symm,set_set]
 generalize H.set mk (.inst 531 dm (mkFs k adv (.ref A.b) 0))=H1 at*
 refine s_ite ?_
 simp only[↓s_nil,↓s_expr,↓nk_n,↓retV_n,↓e_int,↓e_none,↓e_var,↓e_bin,↓e_cmp,↓e_attr,↓e_meth,↓e_b2,↓es_n,↓es_c,↓l_0,↓l_s,↓p_b,↓c_isr,↓m_max,↓sF,↓gF B'.b (k:=33) rfl rfl,↓gI m' (k:=77) rfl,↓gI B'.b (k:=71) rfl]
 refine sp_bsize t (lv hn rfl) B' gd ?_
 have e:min (max place 1) ((T.length:Int)+1)=place:=li4 3 [_,_,_] [_] (.mn J0 (.a (.n U0) I1) J1) (.mx J2 I1 J0) (.le I1 J2) (.le J2 (.a (.n U0) I1)) (.eq J1 J2) rfl (mI (max place 1) ((↑T.length:Int)+1)) (xI (place) (1)) h1 h2
 simp only[↓b_add,↓m_min,e]
 refine fn_row t (lv hn rfl) 42 rfl [some (.ref A.m),some (.ref mk),some (.int place)] args_all (by kernel_rfl) ?_
 delta b_Markers_put;simp only[↓s_nil,↓s_setA,↓s_setI,↓e_var,↓e_attr,↓l_0,↓l_s,↓gF m' (k:=8) rfl rfl,↓gF k' (k:=14) rfl rfl]
 simp only[putI,r']
 refine⟨by exact li1 1 [] [_] (.nle U0 (.c 10)) (.nle U0 (.c 1000)) rfl hes,?_⟩
 rw[pF ((Hp.set_ne _ _ nr.symm).trans k') (bl rfl) (show setF 31 (.int place) (mkFs k adv (.ref A.b) 0)=mkFs k adv (.ref A.b) place from rfl),hH]
 exact q
theorem sp_widen_b(t:TX K h0)(hn:6≤n)(ok:A.OK)(gd:Good σ T g G)(q:Q .none (upd R A {σ with bv:=1,zv:=T.length+1})):Fn w h0 n 906 [.ref A.b] (upd R A σ) Q X:=by
 refine fn_row t (lv0 hn rfl) 71 rfl [some (.ref A.b)] args_all (by kernel_rfl) ?_
 delta b_widen
 rw[s_setT]
 simp only[↓e_int,↓e_var,↓e_bin,↓e_tup,↓e_meth,↓es_n,↓es_c,↓l_0,↓p_t,↓ln2,↓gI u_b (k:=71) rfl]
 refine sp_bsize t (lv hn rfl) (upd_at ok) gd ?_
 simp only[↓b_add]
 refine⟨rfl,?_⟩
 simp only[↓vT_n,↓vT_at,↓s_nil,↓retV_n,↓e_var,↓l_0,↓wB35,↓wB36]
 exact q
theorem sp_narrow(t:TX K h0)(hn:6≤n)(ok:A.OK)(gd:Good σ T g G)(h1:1≤lo)(h2:lo≤hi)(h3:hi≤T.length+1)(q:∀pt,Q .none (upd R A {σ with bv:=lo,zv:=hi,pt:=pt})):
  Fn w h0 n 899 [.ref A.b,.int hi,.int lo] (upd R A σ) Q X:=by
 refine fn_row t (lv0 hn rfl) 70 rfl [some (.ref A.b),some (.int hi),some (.int lo),none,none] args_all (by kernel_rfl) ?_
 have e1:min hi lo=lo:=li2 3 [_,_,_] [] (.mn J0 J1 J2) (.le J1 J0) (.eq J2 J1) rfl (mI (hi) (lo)) h2
 have e2:max hi lo=hi:=li3 4 [_,_,_,_] [] (.mx J0 J1 J2) (.mn J0 J1 J3) (.eq J3 J1) (.eq J2 J0) rfl (xI (hi) (lo)) (mI (hi) (lo)) e1
 delta b_narrow
 rw[s_setR]
 simp only[↓e_var,↓e_tup,↓e_b2,↓es_n,↓es_c,↓l_0,↓l_s,↓p_t,↓m_min,↓m_max,↓ln2,e1,e2]
 refine⟨rfl,?_⟩
 show vcSs _ _ _ _ _ [some (.ref A.b),some (.int hi),some (.int lo),some (.int lo),some (.int hi)] _ _
 refine s_ite ?_
 simp only[↓e_int,↓e_var,↓e_bin,↓e_cmp,↓e_or,↓e_meth,↓es_n,↓l_0,↓l_s,↓p_b,↓c_lt,↓dF (by(exact li1 1 [_] [] (.le I1 J0) (.no (.lt J0 I1)) rfl h1):¬lo< 1),↓dF' (by(exact li1 1 [_] [] (.le I1 J0) (.no (.lt J0 I1)) rfl h1):¬lo< 1),↓nF (by(exact li1 1 [_] [] (.le I1 J0) (.no (.lt J0 I1)) rfl h1):¬lo< 1),↓nF' (by(exact li1 1 [_] [] (.le I1 J0) (.no (.lt J0 I1)) rfl h1):¬lo< 1),↓gI u_b (k:=71) rfl]
 refine sp_bsize t (lv hn rfl) (upd_at ok) gd ?_
 simp only[↓b_add,↓c_gt,↓dF (by(exact li1 1 [_] [_] (.le J0 (.a (.n U0) I1)) (.no (.lt (.a (.n U0) I1) J0)) rfl h3):¬(T.length:Int)+1< hi),↓dF' (by(exact li1 1 [_] [_] (.le J0 (.a (.n U0) I1)) (.no (.lt (.a (.n U0) I1) J0)) rfl h3):¬(T.length:Int)+1< hi),↓nF (by(exact li1 1 [_] [_] (.le J0 (.a (.n U0) I1)) (.no (.lt (.a (.n U0) I1) J0)) rfl h3):¬(T.length:Int)+1< hi),↓nF' (by(exact li1 1 [_] [_] (.le J0 (.a (.n U0) I1)) (.no (.lt (.a (.n U0) I1) J0)) rfl h3):¬(T.length:Int)+1< hi)]
 simp only[↓s_nil,↓nk_n]
 rw[s_setT]
 simp only[↓e_var,↓e_tup,↓es_n,↓es_c,↓l_0,↓l_s,↓p_t,↓ln2]
 refine⟨rfl,?_⟩
 simp only[↓vT_n,↓vT_at,↓s_nil,↓s_expr,↓retV_n,↓e_var,↓e_attr,↓e_meth,↓es_n,↓es_c,↓l_0,↓wB35,↓wB36,↓gI u_b (k:=83) rfl,↓gF u_b (k:=34) rfl rfl]
 refine fn_row t (lv hn rfl) 52 rfl [some (.ref A.b),some (.int σ.pt)] args_all (by kernel_rfl) ?_
 delta b_Buffer_goto;simp only[↓s_ret,↓s_setA,↓e_var,↓e_attr,↓e_b2,↓l_0,↓l_s,↓m_min,↓m_max,↓gF u_b (k:=34) rfl rfl,↓gF u_b (k:=35) rfl rfl,↓gF u_b (k:=36) rfl rfl,↓wB34]
 exact q _
end
structure LB(H:Hp)(A:Ad)(T:List Int)(lo hi m1 m2:Int)(N:Nat):Prop where
 ok:A.OK
 om:A.OM
 st:∃σ g G,H=upd H A σ∧Good σ T g G∧σ.bv=lo∧σ.zv=hi∧σ.ms=some (m1,m2)∧T.length+G.length≤N
 l1:1≤lo
 l2:lo≤hi
 l3:hi≤T.length+1
 c:∀x∈T,OKc x
noncomputable def mdO(T:List Int)(lo hi:Int)(ms:Addr):AObj:=.sdict [(0,.lst (T.map .int)),(56,.int lo),(57,.int hi),(58,.ref ms)]
noncomputable def msO(m1 m2:Int):AObj:=.idict [(1,.int m1),(2,.int m2)]
structure LM(H:Hp)(A:Ad)(pot md ms:Addr)(T:List Int)(lo hi m1 m2:Int):Prop where
 po:∃o,H pot=some o∧PotO o
 mdv:H md=some (mdO T lo hi ms)
 msv:H ms=some (msO m1 m2)
 pA:¬A.has pot
 dA:¬A.has md
 mA:¬A.has ms
theorem pot_md{A:Ad}{T:List Int}(M:LM H A pot md ms T lo hi m1 m2):pot≠md∧pot≠ms∧md≠ms:=by
 refine bc fun ng=>?_
 obtain⟨o,h1,cs,a,r,rfl,_⟩:=M.po
 refine ng ?_
 exact⟨ne_oo h1 M.mdv (fun e=>(by exact nomatch e)),ne_oo h1 M.msv (fun e=>(by exact nomatch e)),ne_oo M.mdv M.msv (fun e=>(by exact nomatch e))⟩
section
variable{A:Ad}{x:Addr}{T:List Int}{lo' hi' m1' m2':Int}{N':Nat}
theorem LB.off(B:LB H A T lo hi m1 m2 N)(h:¬A.has x):LB (H.set x o) A T lo hi m1 m2 N:=by
 refine bc fun ng=>?_
 refine xe3 (B.st) ?_
 intro σ g G qz201
 refine xa6 qz201 ?_
 clear qz201
 rintro e gd a b c d
 refine ng ?_
 exact {B with st:=⟨σ,g,G,upd_set c e h,gd,a,b,c,d⟩}
theorem LB.sub(B:LB H A T lo hi m1 m2 N)(s:Sub H H'):LB H' A T lo hi m1 m2 N:=by
 refine bc fun ng=>?_
 refine xe3 (B.st) ?_
 intro σ g G qz202
 refine xa6 qz202 ?_
 clear qz202
 rintro e gd a b c d
 refine ng ?_
 exact {B with st:=⟨σ,g,G,upd_sub c e s,gd,a,b,c,d⟩}
theorem LM.pot_set(M:LM H A pot md ms T lo hi m1 m2)(h:PotO o):LM (H.set pot o) A pot md ms T lo hi m1 m2:=by
 refine bc fun ng=>?_
 refine xa3 (pot_md M) ?_
 rintro n1 n2 n3
 refine ng ?_
 exact {M with po:=⟨o,Hp.set_self _ _ _,h⟩,mdv:=(Hp.set_ne _ _ n1.symm).trans M.mdv,msv:=(Hp.set_ne _ _ n2.symm).trans M.msv}
theorem LM.md_set(M:LM H A pot md ms T lo hi m1 m2):LM (H.set md (mdO T' lo' hi' ms)) A pot md ms T' lo' hi' m1 m2:=by
 refine bc fun ng=>?_
 refine xa3 (pot_md M) ?_
 rintro n1 n2 n3
 refine ng ?_
 exact {M with po:=let⟨o,a,b⟩:=M.po;⟨o,(Hp.set_ne _ _ n1).trans a,b⟩,mdv:=Hp.set_self _ _ _,msv:=(Hp.set_ne _ _ n3.symm).trans M.msv}
theorem LM.ms_set(M:LM H A pot md ms T lo hi m1 m2):LM (H.set ms (msO m1' m2')) A pot md ms T lo hi m1' m2':=by
 refine bc fun ng=>?_
 refine xa3 (pot_md M) ?_
 rintro n1 n2 n3
 refine ng ?_
 exact {M with po:=let⟨o,a,b⟩:=M.po;⟨o,(Hp.set_ne _ _ n2).trans a,b⟩,mdv:=(Hp.set_ne _ _ n3).trans M.mdv,msv:=Hp.set_self _ _ _}
theorem LM.sub(M:LM H A pot md ms T lo hi m1 m2)(s:Sub H H'):LM H' A pot md ms T lo hi m1 m2:=
 {M with po:=let⟨o,a,b⟩:=M.po;⟨o,s _ _ a,b⟩,mdv:=s _ _ M.mdv,msv:=s _ _ M.msv}
theorem LM.buf(M:LM H A pot md ms T lo hi m1 m2):LM (upd H A σ) A pot md ms T lo hi m1 m2:=
 {M with po:=let⟨o,a,b⟩:=M.po;⟨o,(upd_off M.pA).trans a,b⟩,mdv:=(upd_off M.dA).trans M.mdv,msv:=(upd_off M.mA).trans M.msv}
theorem LB.new(B:LB H A T lo hi m1 m2 N){g:Nat}(gd:Good σ T' g G)(h1:σ.bv=lo')(h2:σ.zv=hi')(h3:σ.ms=some (m1',m2'))(h4:T'.length+G.length≤N')
  (l1:1≤lo') (l2:lo'≤hi') (l3:hi'≤T'.length+1) (c:∀x∈T',OKc x):LB (upd H A σ) A T' lo' hi' m1' m2' N':=
 ⟨B.ok,B.om,⟨σ,g,G,upd_new (P:=(m1',m2')) h3 h3,gd,h1,h2,h3,h4⟩,l1,l2,l3,c⟩
end
theorem putKL{es:List (Nat×V)}{v:V}{Q:Hp→Prop}(h:H a=some (.sdict es))(hl:es.length≤1000):putK H (.ref a) k v Q=Q (H.set a (.sdict (putD k v es))):=by
 (conv=>lhs;whnf);rw[h];exact and_t hl
theorem putIL2{k:Int}{v:V}{Q:Hp→Prop}(h:H a=some (.idict es))(hl:es.length≤1000):putI H (.ref a) (.int k) v Q=Q (H.set a (.idict (putD k v es))):=by
 simp only[putI,h];exact and_t hl
section
variable{A:Ad}{T:List Int}{Q:Hp→Prop}
theorem pM0(M:LM H A pot md ms T lo hi m1 m2):putK H (.ref md) 0 (.lst (T'.map V.int)) Q=Q (H.set md (mdO T' lo hi ms)):=putKL M.mdv (bl rfl)
theorem pM56(M:LM H A pot md ms T lo hi m1 m2):putK H (.ref md) 56 (.int z) Q=Q (H.set md (mdO T z hi ms)):=putKL M.mdv (bl rfl)
theorem pM57(M:LM H A pot md ms T lo hi m1 m2):putK H (.ref md) 57 (.int z) Q=Q (H.set md (mdO T lo z ms)):=putKL M.mdv (bl rfl)
theorem pS1(M:LM H A pot md ms T lo hi m1 m2):putI H (.ref ms) (.int 1) (.int z) Q=Q (H.set ms (msO z m2)):=putIL2 M.msv (bl rfl)
theorem pS2(M:LM H A pot md ms T lo hi m1 m2):putI H (.ref ms) (.int 2) (.int z) Q=Q (H.set ms (msO m1 z)):=putIL2 M.msv (bl rfl)
end
theorem sort2{x y:Int}(h:ys.Perm [x,y])(p:ys.Pairwise (·≤·)):∃u v,ys=[u,v]∧u≤v∧(u=x∨u=y)∧(v=x∨v=y):=by
 have hl:=h.length_eq
 match ys,hl with
 |[a,b],_=>
  have h1:a∈[x,y]:=h.mem_iff.mp (.head _)
  have h2:b∈[x,y]:=h.mem_iff.mp (.tail _ (.head _))
  simp only[List.mem_cons,List.not_mem_nil,or_false,List.pairwise_cons] at h1 h2 p
  exact⟨a,b,rfl,p.1 b rfl,h1,h2⟩
section
variable{A:Ad}{T:List Int}{m:Int}
theorem sp_dipL(t:TX K h0)(hn:2≤n)(B:LB H A T lo hi m1 m2 N)(M:LM H A pot md ms T lo hi m1 m2)(hm:0< m)
  (q:∀v H',0≤v→v< m→LB H' A T lo hi m1 m2 N→LM H' A pot md ms T lo hi m1 m2→Q (.int v) H'):Fn w h0 n 932 [.ref pot,.int m] H Q X:=by
 refine bc fun ng=>?_
 refine xe1 (M.po) ?_
 intro o qz203
 refine xa2 qz203 ?_
 clear qz203
 rintro h1 h2
 refine ng ?_
 exact sp_dip t hn h1 h2 hm fun v o a b c=>q v _ a b (B.off M.pA) (M.pot_set c)
theorem sp_bounded(t:TX K h0)(hn:10≤n)(B:LB H A T lo hi m1 m2 N)(hN:N≤5000)(M:LM H A pot md ms T lo hi m1 m2)
  (q:∀H' lo' hi',LB H' A T lo' hi' m1 m2 N→LM H' A pot md ms T lo' hi' m1 m2→Q (.bool true) H'):Fn w h0 n 975 [.ref A.b,.ref pot,.ref md] H Q X:=by
 refine fn_row t (lv0 hn rfl) 82 rfl [some (.ref A.b),some (.ref pot),some (.ref md),none,none] args_all (by kernel_rfl) ?_
 have tl:T.length≤N:=by obtain⟨σ,g,G,e,gd,a,b,c,d⟩:=B.st;(exact li1 3 [] [_,_,_] (.nle (.a U0 U1) U2) (.nle U0 U2) rfl d)
 have l1:(T.map V.int).length=T.length:=List.length_map _
 have l2:(T.map V.int).length< 2^60:=li3 3 [] [_,_,_] (.nle U0 (.c 5000)) (.nle U1 U0) (.neq U2 U1) (.nlt U2 (.c (2^60))) rfl hN tl l1
 delta b_law_bounded;simp only[↓s_set,↓sl_0,↓sl_s,↓e_var,↓e_subK,↓e_b1,↓l_0,↓l_s,↓kD (k:=0) M.mdv rfl,↓lenP l2,l1]
 refine s_ite ?_
 simp only[↓e_int,↓e_var,↓e_cmp,↓e_call,↓es_n,↓es_c,↓l_0,↓l_s,↓p_b]
 refine sp_dipL t (lv hn rfl) B M (by decide) fun v H' _ _ B M=>?_
 simp only[↓c_eq]
 refine dD (fun _=>?_) fun _=>?_
 ·simp only[↓s_expr,↓s_ret,↓retV_r,↓e_bool,↓e_var,↓e_call,↓es_n,↓es_c,↓l_0]
  refine bc fun ng=>?_
  refine xe3 (B.st) ?_
  intro σ g G qz204
  refine xa6 qz204 ?_
  clear qz204
  rintro e gd a b c d
  refine ng ?_
  rw[e]
  refine sp_widen_b t (lv hn rfl) B.ok gd ?_
  have B2:LB (upd H' A {σ with bv:=1,zv:=T.length+1}) A T 1 (T.length+1) m1 m2 N:=B.new (σ:={σ with bv:=1,zv:=T.length+1}) ⟨gd.cs,gd.gs,gd.ge,gd.le,gd.lim⟩ rfl rfl c d (li0 0 [] [] (.le I1 I1) rfl) (li0 1 [] [_] (.le I1 (.a (.n U0) I1)) rfl) (li0 1 [] [_] (.lt (.n U0) (.a (.n U0) I1)) rfl) B.c
  have M2:=M.buf (σ:={σ with bv:=1,zv:=T.length+1})
  rw[s_setT]
  simp only[↓e_int,↓e_var,↓e_bin,↓e_tup,↓es_n,↓es_c,↓l_0,↓l_s,↓p_t,↓b_add,↓ln2]
  refine⟨rfl,?_⟩
  simp only[↓vT_n,↓vT_iK,↓s_nil,↓nk_n,↓e_var,↓l_0,↓l_s,↓pM56 M2,↓pM57 (M2.md_set (T':=T) (lo':=1) (hi':=hi))]
  exact q _ _ _ ((B2.off M.dA).off M.dA) ((M2.md_set (T':=T) (lo':=1) (hi':=hi)).md_set)
 ·simp only[↓s_set,↓sl_0,↓sl_s,↓e_int,↓e_var,↓e_bin,↓e_lst,↓e_call,↓e_b1,↓es_n,↓es_c,↓l_0,↓l_s,↓b_add,↓ln2]
  refine sp_dipL t (lv hn rfl) B M (li0 1 [] [_] (.lt I0 (.a (.n U0) I1)) rfl) fun x H' x1 x2 B M=>?_
  simp only[↓b_add]
  refine sp_dipL t (lv hn rfl) B M (li0 1 [] [_] (.lt I0 (.a (.n U0) I1)) rfl) fun y H' y1 y2 B M=>?_
  simp only[↓b_add]
  refine⟨bl rfl,fun ys h1 h2=>?_⟩
  refine bc fun ng=>?_
  refine xe2 (sort2 h1 h2) ?_
  intro u v qz205
  refine xa4 qz205 ?_
  clear qz205
  rintro rfl h3 h4 h5
  refine ng ?_
  simp only[↓s_expr,↓s_ret,↓retV_r,↓e_int,↓e_bool,↓e_var,↓e_sub,↓e_call,↓es_n,↓es_c,↓l_0,↓l_s,List.map_cons,List.map_nil,↓iP (xs:=[V.int u,V.int v]) (i:=0) (by decide) (by decide) rfl,↓iP (xs:=[V.int u,V.int v]) (i:=1) (by decide) (by decide) rfl]
  refine bc fun ng=>?_
  refine xe3 (B.st) ?_
  intro σ g G qz206
  refine xa6 qz206 ?_
  clear qz206
  rintro e gd a b c d
  refine ng ?_
  rw[e]
  refine sp_narrow t (lv hn rfl) B.ok gd (li3 3 [_,_,_] [] (.le I0 J0) (.le I0 J1) (.or (.eq J2 (.a I1 J0)) (.eq J2 (.a I1 J1))) (.le I1 J2) rfl x1 y1 h4) h3 (li3 3 [_,_,_] [_] (.lt J0 (.a (.n U0) I1)) (.lt J1 (.a (.n U0) I1)) (.or (.eq J2 (.a I1 J0)) (.eq J2 (.a I1 J1))) (.le J2 (.a (.n U0) I1)) rfl x2 y2 h5) fun pt=>?_
  have B2:LB (upd H' A {σ with bv:=u,zv:=v,pt:=pt}) A T u v m1 m2 N:=B.new (σ:={σ with bv:=u,zv:=v,pt:=pt}) ⟨gd.cs,gd.gs,gd.ge,gd.le,gd.lim⟩ rfl rfl c d (li3 3 [_,_,_] [] (.le I0 J0) (.le I0 J1) (.or (.eq J2 (.a I1 J0)) (.eq J2 (.a I1 J1))) (.le I1 J2) rfl x1 y1 h4) (li1 2 [_,_] [] (.le J0 J1) (.le J0 J1) rfl h3) (li3 3 [_,_,_] [_] (.lt J0 (.a (.n U0) I1)) (.lt J1 (.a (.n U0) I1)) (.or (.eq J2 (.a I1 J0)) (.eq J2 (.a I1 J1))) (.le J2 (.a (.n U0) I1)) rfl x2 y2 h5) B.c
  have M2:=M.buf (σ:={σ with bv:=u,zv:=v,pt:=pt})
  rw[s_setT]
  simp only[↓e_int,↓e_var,↓e_sub,↓e_tup,↓es_n,↓es_c,↓l_0,↓l_s,↓p_t,↓ln2,↓iP (xs:=[V.int u,V.int v]) (i:=0) (by decide) (by decide) rfl,↓iP (xs:=[V.int u,V.int v]) (i:=1) (by decide) (by decide) rfl]
  refine⟨rfl,?_⟩
  simp only[↓vT_n,↓vT_iK,↓s_nil,↓nk_n,↓e_var,↓l_0,↓l_s,↓pM56 M2,↓pM57 (M2.md_set (T':=T) (lo':=u) (hi':=hi))]
  exact q _ _ _ ((B2.off M.dA).off M.dA) ((M2.md_set (T':=T) (lo':=u) (hi':=hi)).md_set)
end
noncomputable def dropS:Nat→Ss→Ss
 |0,s=>s
 |k+1,.cons _ r=>dropS k r
 |_+1,.nil=>.nil
theorem c_eqs{a b:Str}{Q:Bool→Prop}:OptP (cmpV .Eq (.str a) (.str b)) Q=Q (decide (a=b)):=rfl
section
variable{X:Loc→Hp→Prop}{Q:Fl→Loc→Hp→Prop}{q:V→Hp→Prop}{r sb sh:Ss}{e:E}
theorem s_try:vcSs w h0 n X (.cons (.try_ sb k sh) r) l H Q=vcSs w h0 n (fun l' H'=>vcSs w h0 n (fun _ _=>False) sh (setL l' k (.exc (Str.ofString "args-out-of-range"))) H' fun f l₁ H₁=>nextK (fun l' H'=>vcSs w h0 n X r l' H' Q) Q f (unL l₁ k) H₁) sb l H (nextK (fun l' H'=>vcSs w h0 n X r l' H' Q) Q):=rfl
end
section
variable{A:Ad}{T:List Int}{m:Int}{a b:Nat}
theorem dS_0{r:Ss}:dropS 0 r=r:=rfl
theorem dS_s{s:S}{r:Ss}:dropS (k+1) (.cons s r)=dropS k r:=rfl
theorem edit_ok(t:TX K h0)(hn:4≤n)(M:LM H A pot md ms T lo hi m1 m2)(hab:a≤b)(hb:b≤T.length)(hT:T.length≤5000)(hy:ys.length≤3)(r1:lo≤(a:Int)+1)(r2:(b:Int)+1≤hi)
  (q:∀H',(∀{T' lo' hi' m1' m2' N'},LB H A T' lo' hi' m1' m2' N'→LB H' A T' lo' hi' m1' m2' N')→LM H' A pot md ms (edT T a b ys) lo (hi+ys.length-((b:Int)-a)) (mv (a+1) (b+1) ys.length false m1) (mv (a+1) (b+1) ys.length true m2)→Q (.bool true) H'):
  vcSs w h0 n XX (dropS 6 b_law_edit) [some (.ref A.b),some (.ref pot),some (.ref md),some (.int T.length),some (.int ((a:Int)+1)),some (.int ((b:Int)+1)),some wy,some (.lst (ys.map V.int)),none,none] H (fun fl _ H'=>Q (retV fl) H'):=by
 have l1:(ys.map V.int).length=ys.length:=List.length_map _
 have l2:(ys.map V.int).length< 2^60:=li2 2 [] [_,_] (.nle U0 (.c 3)) (.neq U1 U0) (.nlt U1 (.c (2^60))) rfl hy l1
 have l4:(T.map V.int).length=T.length:=List.length_map _
 have l3:(T.map V.int).length≤1000000:=by rw[List.length_map];(exact li1 1 [] [_] (.nle U0 (.c 5000)) (.nle U0 (.c 1000000)) rfl hT)
 have e2:(b:Int)+1-(a+1)=b-a:=li0 2 [] [_,_] (.eq (.s (.a (.n U0) I1) (.a (.n U1) I1)) (.s (.n U0) (.n U1))) rfl
 have e3:edT T a b ys=T.take a++ys++T.drop b:=rfl
 delta b_law_edit;simp only[↓dS_s,↓dS_0]
 refine s_ite ?_
 simp only[↓e_var,↓e_not,↓e_cmp3,↓e_subK,↓l_0,↓l_s,↓p_b,↓n_b,↓c_le,↓kD (k:=56) M.mdv rfl,↓kD (k:=57) M.mdv rfl,↓dT r1,↓dT' r1,↓nT r1,↓nT' r1,↓dT r2,↓dT' r2,↓nT r2,↓nT' r2,↓dT (by(exact li1 2 [] [_,_] (.nle U0 U1) (.lt (.n U0) (.a (.n U1) I1)) rfl hab):(a:Int)+1≤b+1),↓dT' (by(exact li1 2 [] [_,_] (.nle U0 U1) (.lt (.n U0) (.a (.n U1) I1)) rfl hab):(a:Int)+1≤b+1),↓nT (by(exact li1 2 [] [_,_] (.nle U0 U1) (.lt (.n U0) (.a (.n U1) I1)) rfl hab):(a:Int)+1≤b+1),↓nT' (by(exact li1 2 [] [_,_] (.nle U0 U1) (.lt (.n U0) (.a (.n U1) I1)) rfl hab):(a:Int)+1≤b+1)]
 simp only[↓s_nil,↓s_setK,↓nk_n,↓e_int,↓e_none,↓e_var,↓e_bin,↓e_subK,↓e_slice,↓e_b1,↓l_0,↓l_s,↓b_sub,↓kD (k:=0) M.mdv rfl,Int.add_sub_cancel,↓sliceN (xs:=T.map V.int) (hi:=(a:Int)) (li0 1 [] [_] (.le I0 (.n U0)) rfl) (li3 3 [] [_,_,_] (.nle U0 U1) (.nle U1 U2) (.nle U2 (.c 5000)) (.lt (.n U0) (.c (2^60))) rfl hab hb hT) l3,Int.toNat_natCast]
 refine bAL (by rw[List.length_take];(exact li5 6 [] [_,_,_,_,_,_] (.nmn U0 U1 U2) (.nle U3 (.c 5000)) (.nle U4 (.c 3)) (.neq U5 U4) (.neq U1 U3) (.nle (.a U2 U5) (.c 1000000)) rfl (mN (a) ((List.map V.int T).length)) hT hy l1 l4)) ?_
 simp only[↓kD (k:=0) M.mdv rfl,↓sliceE (xs:=T.map V.int) (lo:=(b:Int)) (li0 1 [] [_] (.le I0 (.n U0)) rfl) (li2 2 [] [_,_] (.nle U0 U1) (.nle U1 (.c 5000)) (.lt (.n U0) (.c (2^60))) rfl hb hT) l3,Int.toNat_natCast]
 refine bAL (by rw[List.length_append,List.length_take,List.length_drop,l4];exact a_mil hT (l1▸hy)/-(first|lia|omega)-/) ?_
 rw[←List.map_take,←List.map_drop,←List.map_append,←List.map_append,←e3,pM0 M]
 have M1:=M.md_set (T':=edT T a b ys) (lo':=lo) (hi':=hi)
 have B1:∀{T' lo' hi' m1' m2' N'},LB H A T' lo' hi' m1' m2' N'→LB (H.set md (mdO (edT T a b ys) lo hi ms)) A T' lo' hi' m1' m2' N':=fun B=>B.off M.dA
 generalize H.set md (mdO (edT T a b ys) lo hi ms)=H1 at*
 simp only[↓b_add,↓b_sub,↓kD (k:=57) M1.mdv rfl,↓lenP l2,l1,e2,↓pM57 M1]
 have M2:=M1.md_set (T':=edT T a b ys) (lo':=lo) (hi':=hi+ys.length-((b:Int)-a))
 have B2:∀{T' lo' hi' m1' m2' N'},LB H A T' lo' hi' m1' m2' N'→LB (H1.set md (mdO (edT T a b ys) lo (hi+ys.length-((b:Int)-a)) ms)) A T' lo' hi' m1' m2' N':=fun B=>(B1 B).off M.dA
 generalize H1.set md (mdO (edT T a b ys) lo (hi+ys.length-((b:Int)-a)) ms)=H2 at*
 refine s_for ?_
 simp only[↓e_int,↓e_none,↓e_tup,↓es_n,↓es_c,↓ln2,↓it_t]
 refine⟨bl rfl,?_⟩
 simp only[↓f_cons,↓s_nil,↓s_ret,↓s_setI,↓retV_r,↓sl_0,↓sl_s,↓e_int,↓e_bool,↓e_var,↓e_cmp,↓e_sub,↓e_subK,↓e_call,↓e_b1,↓es_n,↓es_c,↓l_0,↓l_s,↓c_eq,↓kD (k:=58) M2.mdv rfl,↓iD (i:=1) M2.msv rfl,↓lenP l2,l1]
 rw[show decide ((1:Int)=2)=false from rfl]
 refine sp_law_moved t (lv0 hn rfl) ?_
 simp only[↓kD (k:=58) M2.mdv rfl,↓pS1 M2]
 have M3:=M2.ms_set (m1':=mv (a+1) (b+1) ys.length false m1) (m2':=m2)
 have B3:∀{T' lo' hi' m1' m2' N'},LB H A T' lo' hi' m1' m2' N'→LB (H2.set ms (msO (mv (a+1) (b+1) ys.length false m1) m2)) A T' lo' hi' m1' m2' N':=fun B=>(B2 B).off M.mA
 generalize H2.set ms (msO (mv (a+1) (b+1) ys.length false m1) m2)=H3 at*
 simp only[↓tk_n,↓sl_0,↓sl_s,↓l_0,↓l_s,↓c_eq,↓kD (k:=58) M3.mdv rfl,↓iD (i:=2) M3.msv rfl,↓lenP l2,l1,decide_true]
 refine sp_law_moved t (lv0 hn rfl) ?_
 simp only[↓kD (k:=58) M3.mdv rfl,↓pS2 M3]
 simp only[↓f_nil,↓nk_n]
 exact q _ (fun B=>(B3 B).off M.mA) M3.ms_set
end
section
variable{A:Ad}{T:List Int}{m wy:Int}{a b:Nat}
theorem e_sym8{q:V→Hp→Prop}{r:Loc}:vcE w h0 n Y (.excSym (.var 8)) (x0::x1::x2::x3::x4::x5::x6::x7::some (.exc x)::r) H q=q (.str x) H:=rfl
noncomputable def EdP(Q:V→Hp→Prop)(A:Ad)(pot md ms:Addr)(lo:Int)(N:Nat):Prop:=∀H' T' hi' m1' m2',LB H' A T' lo hi' m1' m2' N→LM H' A pot md ms T' lo hi' m1' m2'→Q (.bool true) H'
theorem edit_tail(t:TX K h0)(hn:20≤n)(B:LB H A T lo hi m1 m2 N)(hN:N≤1000)(M:LM H A pot md ms T lo hi m1 m2)(hab:a≤b)(hb:b≤T.length)(hy:ys.length≤3)(hc:∀x∈ys,OKc x)
  (hw:wy=0∧a=b∧ys≠[]∨wy=1∧ys=[]∨wy=2∧ys≠[]) (q0:EdP Q A pot md ms lo N) (q:EdP Q A pot md ms lo (N+10)):
  vcSs w h0 n XX (dropS 5 b_law_edit) [some (.ref A.b),some (.ref pot),some (.ref md),some (.int T.length),some (.int ((a:Int)+1)),some (.int ((b:Int)+1)),some (.int wy),some (.lst (ys.map V.int)),none,none] H (fun fl _ H'=>Q (retV fl) H'):=by
 refine bc fun ng=>?_
 refine xe3 (B.st) ?_
 intro σ g G qz207
 refine xa6 qz207 ?_
 clear qz207
 rintro e gd h1 h2 h3 h4
 refine ng ?_
 have e':H=upd H A (σ.re T g G):=by rw[gd.re_self];exact e
 have gle:=gd.le
 have xx:¬(σ.bv≤(a:Int)+1∧(b:Int)+1≤σ.zv)→vcSs w h0 n (fun _ _=>False) (.cons (.ret (.and (.cmp .Eq (.excSym (.var 8)) (.str "args-out-of-range")) (.not (.cmp3 .LtE .LtE .LtE (.subK (.var 2) 56) (.var 4) (.var 5) (.subK (.var 2) 57))))) .nil)
   [some (.ref A.b),some (.ref pot),some (.ref md),some (.int T.length),some (.int ((a:Int)+1)),some (.int ((b:Int)+1)),some (.int wy),some (.lst (ys.map V.int)),some (.exc (Str.ofString "args-out-of-range")),none] (upd H A (σ.re T g G))
   fun f l₁ H₁=>nextK (fun l' H'=>vcSs w h0 n XX (dropS 6 b_law_edit) l' H' (fun fl _ H'=>Q (retV fl) H')) (fun fl _ H'=>Q (retV fl) H') f (unL l₁ 8) H₁:=by
  intro hx
  rw[←e']
  rw[h1,h2] at hx
  have fin:=q0 H T hi m1 m2 B M
  simp only[↓s_ret,↓e_and,↓e_cmp,↓e_sym8,↓e_str,↓c_eqs,↓e_str,↓e_var,↓e_not,↓e_cmp,↓e_cmp3,↓e_and,↓e_subK,↓l_0,↓l_s,↓p_b,↓n_b,↓c_le,↓kD (k:=56) M.mdv rfl,↓kD (k:=57) M.mdv rfl]
  refine⟨fun _=>?_,fun h=>absurd h (by decide)⟩
  refine dD (fun r1=>?_) fun r1=>?_
  ·simp only[↓dT (by(exact li1 2 [] [_,_] (.nle U0 U1) (.lt (.n U0) (.a (.n U1) I1)) rfl hab):(a:Int)+1≤b+1),↓dT' (by(exact li1 2 [] [_,_] (.nle U0 U1) (.lt (.n U0) (.a (.n U1) I1)) rfl hab):(a:Int)+1≤b+1),↓nT (by(exact li1 2 [] [_,_] (.nle U0 U1) (.lt (.n U0) (.a (.n U1) I1)) rfl hab):(a:Int)+1≤b+1),↓nT' (by(exact li1 2 [] [_,_] (.nle U0 U1) (.lt (.n U0) (.a (.n U1) I1)) rfl hab):(a:Int)+1≤b+1)]
   rw[decide_eq_false (by(exact li2 2 [_,_] [_,_] (.no (.and (.le J0 (.a (.n U0) I1)) (.lt (.n U1) J1))) (.le J0 (.a (.n U0) I1)) (.no (.lt (.n U1) J1)) rfl hx r1):¬(b:Int)+1≤hi)]
   exact fin
  ·exact fin
 have ok:σ.bv≤(a:Int)+1∧(b:Int)+1≤σ.zv→EdQ (fun _ H'=>vcSs w h0 n XX (dropS 6 b_law_edit) [some (.ref A.b),some (.ref pot),some (.ref md),some (.int T.length),some (.int ((a:Int)+1)),some (.int ((b:Int)+1)),some (.int wy),some (.lst (ys.map V.int)),none,none] H' (fun fl _ H'=>Q (retV fl) H')) H A σ T G a b ys:=by
  intro hr v pt tk ct g' G' k1 k2
  rw[h1,h2] at hr
  have l2:=B.l2
  have l3:=B.l3
  have l1:=B.l1
  have el:(edT T a b ys).length=a+ys.length+(T.length-b):=edT_len (li2 3 [] [_,_,_] (.nle U0 U1) (.nle U1 U2) (.nle U0 U2) rfl hab hb)
  refine edit_ok t (lv0 hn rfl) M.buf hab hb (li2 3 [] [_,_,_] (.nle U0 (.c 1000)) (.nle (.a U1 U2) U0) (.nle U1 (.c 5000)) rfl hN h4) hy hr.1 hr.2 fun H' hB hM=>?_
  refine q _ _ _ _ _ (hB (N':=N+10) (lo':=lo) (hi':=hi+ys.length-((b:Int)-a)) (T':=edT T a b ys) (m1':=mv (a+1) (b+1) ys.length false m1) (m2':=mv (a+1) (b+1) ys.length true m2)
   (B.new (re_good k1 (Nat.le_trans (a_ed hab hb hy el k2 h4) (Nat.le_trans (Nat.add_le_add_right hN 10) (bl rfl)))/-(first|lia|omega)-/) h1 (show σ.zv+((ys.length:Nat):Int)-((b:Int)-a)=_ by rw[h2]) (show Option.map _ σ.ms=_ by rw[h3];rfl) (a_ed hab hb hy el k2 h4)/-(first|lia|omega)-/l1 (li2 3 [_,_] [_,_,_] (.le J0 (.a (.n U0) I1)) (.lt (.n U1) J1) (.le J0 (.s (.a J1 (.n U2)) (.s (.n U1) (.n U0)))) rfl hr.1 hr.2) (li3 6 [_] [_,_,_,_,_,_] (.sb U1 U0 U2) (.le J0 (.a (.n U1) I1)) (.neq U3 (.a (.a U4 U5) U2)) (.le (.s (.a J0 (.n U5)) (.s (.n U0) (.n U4))) (.a (.n U3) I1)) rfl (ns (T.length) (b)) l3 el) ?_)) hM
  intro x hx
  rcases List.mem_append.mp hx with hx|hx
  ·rcases List.mem_append.mp hx with hx|hx
   ·exact B.c x (List.mem_of_mem_take hx)
   ·exact hc x hx
  ·exact B.c x (List.mem_of_mem_drop hx)
 rw[show dropS 5 b_law_edit=.cons (.try_ (.cons (.ite (.cmp .Eq (.var 6) (.int 0)) (.cons (.expr (.call 805 "insert_at" (.cons (.var 0) (.cons (.var 4) (.cons (.var 7) .nil)))))
 .nil) (.cons (.ite (.cmp .Eq (.var 6) (.int 1)) (.cons (.expr (.call 812 "delete" (.cons (.var 0) (.cons (.var 4) (.cons (.var 5) .nil)))))
 .nil) (.cons (.expr (.call 820 "replace" (.cons (.var 0) (.cons (.var 4) (.cons (.var 5) (.cons (.var 7) .nil))))))
 .nil))
 .nil))
 .nil) 8 (.cons (.ret (.and (.cmp .Eq (.excSym (.var 8)) (.str "args-out-of-range")) (.not (.cmp3 .LtE .LtE .LtE (.subK (.var 2) 56) (.var 4) (.var 5) (.subK (.var 2) 57)))))
 .nil)) (dropS 6 b_law_edit) from rfl,s_try,e']
 refine s_ite ?_
 rcases hw with⟨rfl,rfl,hy0⟩|⟨rfl,rfl⟩|⟨rfl,hy0⟩
 ·simp only[↓s_nil,↓s_expr,↓s_ret,↓nk_n,↓nk_r,↓retV_r,↓sl_0,↓sl_s,↓e_int,↓e_str,↓e_var,↓e_not,↓e_cmp,↓e_cmp3,↓e_and,↓e_subK,↓e_call,↓es_n,↓es_c,↓l_0,↓l_s,↓p_b,↓n_b,↓c_eq,↓c_le,↓dT (rfl:(0:Int)=0),↓dT' (rfl:(0:Int)=0),↓nT (rfl:(0:Int)=0),↓nT' (rfl:(0:Int)=0)]
  refine sp_insert t (lv0 hn rfl) B.ok (fun _=>B.om) gle (li3 4 [] [_,_,_,_] (.nle U0 (.c 1000)) (.nle U1 (.c 3)) (.nle (.a U2 U3) U0) (.nle (.a (.a U2 U3) U1) (.c 4000)) rfl hN hy h4) (li1 1 [] [_] (.nle U0 (.c 3)) (.nle U0 (.c 900)) rfl hy) (li1 2 [] [_,_] (.nle U0 U1) (.nle U0 U1) rfl hb) ok xx
 ·simp only[↓e_int,↓e_var,↓e_cmp,↓l_0,↓l_s,↓p_b,↓c_eq,↓dF (by decide:¬(1:Int)=0),↓dF' (by decide:¬(1:Int)=0),↓nF (by decide:¬(1:Int)=0),↓nF' (by decide:¬(1:Int)=0)]
  refine s_ite ?_
  simp only[↓s_nil,↓s_expr,↓s_ret,↓nk_n,↓nk_r,↓retV_r,↓sl_0,↓sl_s,↓e_int,↓e_str,↓e_var,↓e_not,↓e_cmp,↓e_cmp3,↓e_and,↓e_subK,↓e_call,↓es_n,↓es_c,↓l_0,↓l_s,↓p_b,↓n_b,↓c_eq,↓c_le,↓dT (rfl:(1:Int)=1),↓dT' (rfl:(1:Int)=1),↓nT (rfl:(1:Int)=1),↓nT' (rfl:(1:Int)=1)]
  exact sp_delete t (lv0 hn rfl) B.ok B.om h3 gle (li2 3 [] [_,_,_] (.nle U0 (.c 1000)) (.nle (.a U1 U2) U0) (.nle (.a U1 U2) (.c 4000)) rfl hN h4) hab hb ok xx
 ·simp only[↓e_int,↓e_var,↓e_cmp,↓l_0,↓l_s,↓p_b,↓c_eq,↓dF (by decide:¬(2:Int)=0),↓dF' (by decide:¬(2:Int)=0),↓nF (by decide:¬(2:Int)=0),↓nF' (by decide:¬(2:Int)=0)]
  refine s_ite ?_
  simp only[↓s_nil,↓s_expr,↓s_ret,↓nk_n,↓nk_r,↓retV_r,↓sl_0,↓sl_s,↓e_int,↓e_str,↓e_var,↓e_not,↓e_cmp,↓e_cmp3,↓e_and,↓e_subK,↓e_call,↓es_n,↓es_c,↓l_0,↓l_s,↓p_b,↓n_b,↓c_eq,↓c_le,↓dF (by decide:¬(2:Int)=1),↓dF' (by decide:¬(2:Int)=1),↓nF (by decide:¬(2:Int)=1),↓nF' (by decide:¬(2:Int)=1)]
  exact sp_replace t (lv0 hn rfl) B.ok B.om h3 gle (li3 4 [] [_,_,_,_] (.nle U0 (.c 1000)) (.nle U1 (.c 3)) (.nle (.a U2 U3) U0) (.nle (.a (.a U2 U3) U1) (.c 3000)) rfl hN hy h4) (li1 1 [] [_] (.nle U0 (.c 3)) (.nle U0 (.c 900)) rfl hy) hab hb hy0 ok xx
theorem setR2{X:Loc→Hp→Prop}{k1 k2:Nat}{v1 v2:V}(h:Kk (setL (setL l k2 v2) k1 v1) H):vcTs w h0 n X ([k1,k2].reverse.map Mine.T.nm) [v1,v2].reverse l H Kk:=h
theorem s_set5'{X:Loc→Hp→Prop}{r:Ss}{e:E}{Q:Fl→Loc→Hp→Prop}:vcSs w h0 n X (.cons (.set 5 e) r) (x0::x1::x2::x3::x4::x5::l) H Q=vcE w h0 n (X (x0::x1::x2::x3::x4::x5::l)) e (x0::x1::x2::x3::x4::x5::l) H fun v H₁=>vcSs w h0 n X r (x0::x1::x2::x3::x4::some v::l) H₁ Q:=(rfl)
section
variable{q:V→Hp→Prop}{v:V}{r:Loc}{a c:E}
theorem e_v4:vcE w h0 n Y (.var 4) (x0::x1::x2::x3::some v::r) H q=q v H:=(rfl)
theorem e_v5:vcE w h0 n Y (.var 5) (x0::x1::x2::x3::x4::some v::r) H q=q v H:=(rfl)
theorem e_v6:vcE w h0 n Y (.var 6) (x0::x1::x2::x3::x4::x5::some v::r) H q=q v H:=(rfl)
theorem e_int'{j:Int}:vcE w h0 n Y (.int j) l H q=q (.int j) H:=(rfl)
theorem e_max:vcE w h0 n Y (.b2 .max a c) l H q=vcE w h0 n Y a l H fun v H₁=>vcE w h0 n Y c l H₁ fun u H₂=>b2V .max v u fun r=>q r H₂:=(rfl)
theorem m_max'{j:Int}{q:V→Prop}:b2V .max (.int i) (.int j) q=q (.int (max i j)):=(rfl)
end
theorem edit_split:b_law_edit=(.cons (.set 3 (.b1 .len (.subK (.var 2) 0)))
 (.cons (.setR [4,5] (.tup (.cons (.bin .Add (.int 1) (.call 932 "_law_dip" (.cons (.var 1) (.cons (.bin .Add (.var 3) (.int 1)) .nil)))) (.cons (.bin .Add (.int 1) (.call 932 "_law_dip" (.cons (.var 1) (.cons (.bin .Add (.var 3) (.int 1)) .nil)))) .nil))))
 (.cons (.setR [6,7] (.tup (.cons (.call 932 "_law_dip" (.cons (.var 1) (.cons (.int 3) .nil))) (.cons (.call 937 "_law_codes" (.cons (.var 1) (.cons (.bin .Add (.int 1) (.call 932 "_law_dip" (.cons (.var 1) (.cons (.int 3) .nil)))) .nil))) .nil))))
 (.cons (.set 5 (.ite (.cmp .Eq (.var 6) (.int 0)) (.var 4) (.b2 .max (.var 4) (.var 5))))
 (.cons (.setR [4,7] (.tup (.cons (.b2 .min (.var 4) (.var 5)) (.cons (.ite (.cmp .NotEq (.var 6) (.int 1)) (.var 7) (.lst .nil)) .nil))))
 (dropS 5 b_law_edit)))))):=rfl
theorem sp_edit(t:TX K h0)(hn:22≤n)(B:LB H A T lo hi m1 m2 N)(hN:N≤1000)(M:LM H A pot md ms T lo hi m1 m2)(q0:EdP Q A pot md ms lo N)(q:EdP Q A pot md ms lo (N+10)):
  Fn w h0 n 968 [.ref A.b,.ref pot,.ref md] H Q X:=by
 refine fn_row t (lv0 hn rfl) 81 rfl [some (.ref A.b),some (.ref pot),some (.ref md),none,none,none,none,none,none,none] args_all (by kernel_rfl) ?_
 have tl:T.length≤N:=by obtain⟨σ,g,G,e,gd,a,b,c,d⟩:=B.st;(exact li1 3 [] [_,_,_] (.nle (.a U0 U1) U2) (.nle U0 U2) rfl d)
 have l1:(T.map V.int).length=T.length:=List.length_map _
 have l2:(T.map V.int).length< 2^60:=li3 3 [] [_,_,_] (.nle U0 (.c 1000)) (.nle U1 U0) (.neq U2 U1) (.nlt U2 (.c (2^60))) rfl hN tl l1
 rw[edit_split]
 simp only[↓s_set,↓sl_0,↓sl_s,↓e_var,↓e_subK,↓e_b1,↓l_0,↓l_s,↓kD (k:=0) M.mdv rfl,↓lenP l2,l1]
 rw[s_setR]
 simp only[↓e_int,↓e_var,↓e_bin,↓e_tup,↓e_call,↓es_n,↓es_c,↓l_0,↓l_s,↓p_t,↓b_add,↓ln2]
 refine sp_dipL t (lv hn rfl) B M (li0 1 [] [_] (.lt I0 (.a (.n U0) I1)) rfl) fun v1 H1 a1 a2 B M=>?_
 refine sp_dipL t (lv hn rfl) B M (li0 1 [] [_] (.lt I0 (.a (.n U0) I1)) rfl) fun v2 H2 b1 b2 B M=>?_
 refine bc fun ng=>?_
 obtain⟨a,rfl⟩:∃a:Nat,v1=a:=⟨v1.toNat,by exact li2 1 [_] [_] (.tn J0 U0) (.le I0 J0) (.eq J0 (.n U0)) rfl (tn (v1)) a1⟩
 obtain⟨b,rfl⟩:∃b:Nat,v2=b:=⟨v2.toNat,by exact li2 1 [_] [_] (.tn J0 U0) (.le I0 J0) (.eq J0 (.n U0)) rfl (tn (v2)) b1⟩
 refine ng ?_
 refine⟨rfl,setR2 ?_⟩
 simp only[setL]
 rw[s_setR]
 simp only[↓e_int,↓e_var,↓e_bin,↓e_tup,↓e_call,↓es_n,↓es_c,↓l_0,↓l_s,↓p_t,↓ln2]
 refine sp_dipL t (lv hn rfl) B M (by decide) fun wy H3 w1 w2 B M=>?_
 refine sp_dipL t (lv hn rfl) B M (by decide) fun k H4 k1 k2 B M=>?_
 refine bc fun ng=>?_
 refine xe1 (M.po) ?_
 intro o qz208
 refine xa2 qz208 ?_
 clear qz208
 rintro p1 p2
 refine ng ?_
 refine sp_law_codes t (lv hn rfl) p1 p2 (li1 1 [_] [] (.le I0 J0) (.le I0 (.a I1 J0)) rfl k1) (li1 1 [_] [] (.lt J0 (.c 3)) (.le (.a I1 J0) (.c 1000)) rfl k2) fun ys o y1 y2 p3=>?_
 have B:=B.off (o:=o) M.pA
 have M:=M.pot_set p3
 generalize H4.set pot o=H5 at*
 refine⟨rfl,setR2 ?_⟩
 simp only[setL]
 have ey:ys≠[]:=by rintro rfl;rw[List.length_nil] at y1;(exact li2 1 [_] [] (.le I0 J0) (.eq (.n O0) (.a I1 J0)) .ff rfl k1 y1)
 have w3:wy=0∨wy=1∨wy=2:=li2 1 [_] [] (.le I0 J0) (.lt J0 (.c 3)) (.or (.eq J0 I0) (.or (.eq J0 I1) (.eq J0 I2))) rfl w1 w2
 rcases w3 with rfl|rfl|rfl
 ·rw[s_set5',e_ite,e_cmp,e_v6,e_int',c_eq,p_b,dT rfl,e_v4]
  rw[s_setR]
  simp only[↓e_int,↓e_var,↓e_cmp,↓e_ite,↓e_tup,↓e_b2,↓es_n,↓es_c,↓l_0,↓l_s,↓p_b,↓p_t,↓c_ne,↓m_min,↓ln2,↓dF (by decide:¬(0:Int)=1),↓dF' (by decide:¬(0:Int)=1),↓nF (by decide:¬(0:Int)=1),↓nF' (by decide:¬(0:Int)=1)]
  refine⟨rfl,setR2 ?_⟩
  simp only[setL]
  have e1:min (1+(a:Int)) (1+(a:Int))=(a:Int)+1:=li1 1 [_] [_] (.mn (.a I1 (.n U0)) (.a I1 (.n U0)) J0) (.eq J0 (.a (.n U0) I1)) rfl (mI (1+(↑a:Int)) (1+(↑a:Int)))
  rw[e1,Int.add_comm 1 (a:Int)]
  exact edit_tail t (lv hn rfl) B hN M (Nat.le_refl a) (li1 2 [] [_,_] (.lt (.n U0) (.a (.n U1) I1)) (.nle U0 U1) rfl a2) (li2 1 [_] [_] (.lt J0 (.c 3)) (.eq (.n U0) (.a I1 J0)) (.nle U0 (.c 3)) rfl k2 y1) y2 (.inl ⟨rfl,rfl,ey⟩) q0 q
 ·rw[s_set5',e_ite,e_cmp,e_v6,e_int',c_eq,p_b,dF (by decide),e_max,e_v4,e_v5,m_max']
  rw[s_setR]
  simp only[↓e_int,↓e_var,↓e_cmp,↓e_ite,↓e_tup,↓e_lst,↓e_b2,↓es_n,↓es_c,↓l_0,↓l_s,↓p_b,↓p_t,↓c_ne,↓m_min,↓ln0,↓ln2,↓dT (rfl:(1:Int)=1),↓dT' (rfl:(1:Int)=1),↓nT (rfl:(1:Int)=1),↓nT' (rfl:(1:Int)=1)]
  refine⟨rfl,setR2 ?_⟩
  simp only[setL]
  have e1:min (1+(a:Int)) (max (1+(a:Int)) (1+(b:Int)))=(a:Int)+1:=li2 2 [_,_] [_,_] (.mn (.a I1 (.n U0)) J0 J1) (.mx (.a I1 (.n U0)) (.a I1 (.n U1)) J0) (.eq J1 (.a (.n U0) I1)) rfl (mI (1+(↑a:Int)) (max (1+(↑a:Int)) (1+(↑b:Int)))) (xI (1+(↑a:Int)) (1+(↑b:Int)))
  have e2:max (1+(a:Int)) (1+(b:Int))=((max a b:Nat):Int)+1:=li2 3 [_] [_,_,_] (.mx (.a I1 (.n U0)) (.a I1 (.n U1)) J0) (.nmx U0 U1 U2) (.eq J0 (.a (.n U2) I1)) rfl (xI (1+(↑a:Int)) (1+(↑b:Int))) (xN (a) (b))
  rw[e1,e2]
  exact edit_tail (ys:=[]) t (lv hn rfl) B hN M (Nat.le_max_left a b) (li3 4 [] [_,_,_,_] (.nmx U0 U1 U2) (.lt (.n U0) (.a (.n U3) I1)) (.lt (.n U1) (.a (.n U3) I1)) (.nle U2 U3) rfl (xN (a) (b)) a2 b2) (by decide) (fun x h=>(by exact nomatch h)) (.inr (.inl ⟨rfl,rfl⟩)) q0 q
 ·rw[s_set5',e_ite,e_cmp,e_v6,e_int',c_eq,p_b,dF (by decide),e_max,e_v4,e_v5,m_max']
  rw[s_setR]
  simp only[↓e_int,↓e_var,↓e_cmp,↓e_ite,↓e_tup,↓e_b2,↓es_n,↓es_c,↓l_0,↓l_s,↓p_b,↓p_t,↓c_ne,↓m_min,↓ln2,↓dF (by decide:¬(2:Int)=1),↓dF' (by decide:¬(2:Int)=1),↓nF (by decide:¬(2:Int)=1),↓nF' (by decide:¬(2:Int)=1)]
  refine⟨rfl,setR2 ?_⟩
  simp only[setL]
  have e1:min (1+(a:Int)) (max (1+(a:Int)) (1+(b:Int)))=(a:Int)+1:=li2 2 [_,_] [_,_] (.mn (.a I1 (.n U0)) J0 J1) (.mx (.a I1 (.n U0)) (.a I1 (.n U1)) J0) (.eq J1 (.a (.n U0) I1)) rfl (mI (1+(↑a:Int)) (max (1+(↑a:Int)) (1+(↑b:Int)))) (xI (1+(↑a:Int)) (1+(↑b:Int)))
  have e2:max (1+(a:Int)) (1+(b:Int))=((max a b:Nat):Int)+1:=li2 3 [_] [_,_,_] (.mx (.a I1 (.n U0)) (.a I1 (.n U1)) J0) (.nmx U0 U1 U2) (.eq J0 (.a (.n U2) I1)) rfl (xI (1+(↑a:Int)) (1+(↑b:Int))) (xN (a) (b))
  rw[e1,e2]
  exact edit_tail t (lv hn rfl) B hN M (Nat.le_max_left a b) (li3 4 [] [_,_,_,_] (.nmx U0 U1 U2) (.lt (.n U0) (.a (.n U3) I1)) (.lt (.n U1) (.a (.n U3) I1)) (.nle U2 U3) rfl (xN (a) (b)) a2 b2) (li2 1 [_] [_] (.lt J0 (.c 3)) (.eq (.n U0) (.a I1 J0)) (.nle U0 (.c 3)) rfl k2 y1) y2 (.inr (.inr ⟨rfl,ey⟩)) q0 q
end
section
open E Es S Ss
noncomputable def b_turn:Ss:=
 (.cons (.set 6 (.new 531 507 "Marker" (.cons (.var 5) (.cons (.cmp .Eq (.var 5) (.int 2)) .nil))))
 (.cons (.setI (.subK (.var 3) 58) (.var 5) (.bin .Add (.int 1) (.call 932 "_law_dip" (.cons (.var 1) (.cons (.bin .Add (.b1 .len (.subK (.var 3) 0)) (.int 1)) .nil)))))
 (.cons (.expr (.call 913 "set_marker" (.cons (.var 6) (.cons (.var 2) (.cons (.sub (.subK (.var 3) 58) (.var 5)) .nil)))))
 (.cons (.expr (.app (.var 4) (.tup (.cons (.var 6) (.cons (.bin .Add (.int 3) (.call 932 "_law_dip" (.cons (.var 1) (.cons (.int 4) .nil)))) (.cons (.cmp .Eq (.call 932 "_law_dip" (.cons (.var 1) (.cons (.int 3) .nil))) (.int 0)) .nil))))))
 .nil))))
noncomputable def b_win:Ss:=
 (.cons (.ite (.cmp .NotEq (.attr (.sub (.var 9) (.int 0)) 31) (.sub (.subK (.var 3) 58) (.attr (.sub (.var 9) (.int 0)) 14))) (.cons (.ret (.bool false))
 .nil) .nil)
 (.cons (.ite (.not (.call 961 "_law_shown_right" (.cons (.var 2) (.cons (.var 3) (.cons (.var 9) .nil))))) (.cons (.ret (.bool false))
 .nil) .nil)
 .nil))
noncomputable def b_rest:Ss:=
 (.cons (.ite (.cmpD .NotEq (.lst (.cons (.meth (.var 2) 705 59 639 .nil) (.cons (.meth (.var 2) 705 18 646 .nil) (.cons (.meth (.var 2) 705 71 653 .nil) .nil)))) (.lst (.cons (.subK (.var 3) 56) (.cons (.subK (.var 3) 57) (.cons (.b1 .len (.subK (.var 3) 0)) .nil))))) (.cons (.ret (.bool false))
 .nil) .nil)
 (.cons (.ite (.cmpD .NotEq (.meth (.var 2) 705 0 667 (.cons (.int 1) (.cons (.bin .Add (.meth (.var 2) 705 71 653 .nil) (.int 1)) .nil))) (.subK (.var 3) 0)) (.cons (.ret (.bool false))
 .nil) .nil)
 (.cons (.for_ (.nm 9) false (.var 4) .none b_win)
 .nil)))
noncomputable def b_main:Ss:=
 (.cons (.set 8 (.ite (.cmp .Eq (.call 932 "_law_dip" (.cons (.var 1) (.cons (.int 3) .nil))) (.int 0)) (.glob "_law_bounded" (.ref 975)) (.glob "_law_edit" (.ref 968))))
 (.cons (.ite (.not (.callV (.var 8) (.cons (.var 2) (.cons (.var 1) (.cons (.var 3) .nil))))) (.cons (.ret (.bool false))
 .nil) .nil)
 b_rest))
theorem law_split:b_law=(.cons (.setR [1,2] (.tup (.cons (.call 925 "_law_pot" (.cons (.var 0) .nil)) (.cons (.new 705 618 "Buffer" (.cons (.int 1) (.cons (.str "b") (.cons (.int 4) .nil)))) .nil))))
 (.cons (.set 3 (.dictK [0,56,57,58] (.cons (.call 937 "_law_codes" (.cons (.var 1) (.cons (.call 932 "_law_dip" (.cons (.var 1) (.cons (.int 10) .nil))) .nil))) (.cons (.int 1) (.cons (.int 1) (.cons .dict0 .nil))))))
 (.cons (.expr (.call 805 "insert_at" (.cons (.var 2) (.cons (.int 1) (.cons (.subK (.var 3) 0) .nil)))))
 (.cons (.setK (.var 3) 57 (.bin .Add (.int 1) (.b1 .len (.subK (.var 3) 0))))
 (.cons (.set 4 (.lstM .nil))
 (.cons (.for_ (.nm 5) false (.tup (.cons (.int 1) (.cons (.int 2) .nil))) .none b_turn)
 (.cons (.frz 4)
 (.cons (.for_ (.nm 7) true (.int 0) (.bin .Add (.int 1) (.call 932 "_law_dip" (.cons (.var 1) (.cons (.int 4) .nil)))) b_main)
 (.cons (.ret (.bool true))
 .nil))))))))):=rfl
end
theorem dInts:∀(xs:List Int),toDs (xs.map V.int)=some (xs.map Dat.int)
 |[]=>rfl
 |a::r=>by rw[List.map_cons,toDs_c,dInts r];rfl
theorem kq_ints(xs:List Int):kqdOk 8 (.list (xs.map Dat.int))=true:=by
 rw[kqdOk,List.all_eq_true]
 intro d hd
 refine bc fun ng=>?_
 refine xe1 (List.mem_map.mp hd) ?_
 intro a qz209
 refine xa2 qz209 ?_
 clear qz209
 rintro _ rfl
 refine ng ?_
 rfl
theorem ne_ints{xs:List Int}{P:Bool→Prop}(h:P false):∃d e,toD (.lst (xs.map V.int))=some d∧toD (.lst (xs.map V.int))=some e∧kqdOk 8 d=true∧kqdOk 8 e=true∧∀p:Bool,(p=true↔d≠e)→P p:=by
 refine⟨.list (xs.map Dat.int),.list (xs.map Dat.int),by rw[toD_l,dInts];rfl,by rw[toD_l,dInts];rfl,kq_ints xs,kq_ints xs,fun p hp=>?_⟩
 cases p with
 |false=>exact h
 |true=>exact absurd rfl (hp.mp rfl)
section
variable{A:Ad}{T:List Int}{m k pos:Int}{cut:Bool}{bb:V}
theorem sp_bbegin(t:TX K h0)(hn:2≤n)(B:BufAt H A σ)(q:Q (.int σ.bv) H):Fn w h0 n 639 [.ref A.b] H Q X:=by
 refine fn_row t hn 47 rfl [some (.ref A.b)] args_all (by kernel_rfl) ?_
 delta b_Buffer_begin;simp only[↓s_ret,↓retV_r,↓e_var,↓e_attr,↓l_0,↓gF B.b (k:=35) rfl rfl]
 exact q
theorem sp_bend(t:TX K h0)(hn:2≤n)(B:BufAt H A σ)(q:Q (.int σ.zv) H):Fn w h0 n 646 [.ref A.b] H Q X:=by
 refine fn_row t hn 48 rfl [some (.ref A.b)] args_all (by kernel_rfl) ?_
 delta b_Buffer_end;simp only[↓s_ret,↓retV_r,↓e_var,↓e_attr,↓l_0,↓gF B.b (k:=36) rfl rfl]
 exact q
theorem LB.at(B:LB H A T lo hi m1 m2 N):∃σ g G,BufAt H A σ∧Good σ T g G∧σ.bv=lo∧σ.zv=hi∧H A.m1=some (.inst 531 A.d1 (mkFs 1 false (.ref A.b) m1))∧H A.m2=some (.inst 531 A.d2 (mkFs 2 true (.ref A.b) m2))∧T.length≤N:=by
 refine bc fun ng=>?_
 refine xe3 (B.st) ?_
 intro σ g G qz210
 refine xa6 qz210 ?_
 clear qz210
 rintro e gd a b c d
 refine ng ?_
 refine⟨σ,g,G,?_,gd,a,b,?_,?_,by exact li1 3 [] [_,_,_] (.nle (.a U0 U1) U2) (.nle U0 U2) rfl d⟩
 ·rw[e];exact upd_at B.ok
 ·rw[e];exact u_m1 B.om c
 ·rw[e];exact u_m2 B.om c
theorem win_turn(t:TX K h0)(hn:30≤n)(B:LB H A T lo hi m1 m2 N)(hN:N≤1000)(M:LM H A pot md ms T lo hi m1 m2)
  (hmk:H mk=some (.inst 531 dm (mkFs k adv bb pos))) (hes:find2 k [(1,V.int m1),(2,.int m2)]=some (.int pos)) (hw:3≤wd) (hw2:wd≤100)
  (q:∀H',Sub H H'→QQ .next [x0,x1,some (.ref A.b),some (.ref md),x4,x5,x6,x7,x8,some (.tup [.ref mk,.int wd,.bool cut])] H'):
  vcSs w h0 n (fun _ _=>False) b_win [x0,x1,some (.ref A.b),some (.ref md),x4,x5,x6,x7,x8,some (.tup [.ref mk,.int wd,.bool cut])] H QQ:=by
 refine bc fun ng=>?_
 refine xe3 (B.at) ?_
 intro σ g G qz211
 refine xa7 qz211 ?_
 clear qz211
 rintro Bb gd h1 h2 _ _ h3
 refine ng ?_
 simp only[b_win]
 refine s_ite ?_
 simp only[↓e_int,↓e_var,↓e_cmp,↓e_attr,↓e_sub,↓e_subK,↓l_0,↓l_s,↓p_b,↓c_ne,↓iT (xs:=[.ref mk,.int wd,.bool cut]) (i:=0) (by decide) (by decide) rfl,↓gF hmk (k:=31) rfl rfl,↓gF hmk (k:=14) rfl rfl,↓kD (k:=58) M.mdv rfl,↓iD M.msv hes,↓dT (rfl:pos=pos),↓dT' (rfl:pos=pos),↓nT (rfl:pos=pos),↓nT' (rfl:pos=pos)]
 simp only[↓s_nil,↓nk_n]
 refine s_ite ?_
 simp only[↓e_var,↓e_not,↓e_call,↓es_n,↓es_c,↓l_0,↓l_s]
 refine sp_shown_right t hn Bb gd h1 h2 B.l1 B.l2 B.l3 (li2 2 [] [_,_] (.nle U0 (.c 1000)) (.nle U1 U0) (.nle U1 (.c 5000)) rfl hN h3) B.c hmk M.mdv M.msv hes hw hw2 fun H' s=>?_
 simp only[↓s_nil,↓nk_n,↓p_b,↓n_b,↓nbT]
 exact q H' s
end
section
variable{A:Ad}{T:List Int}{w1 w2:Int}{c1 c2:Bool}
noncomputable def winsV(A:Ad)(w1 w2:Int)(c1 c2:Bool):V:=.lst [.tup [.ref A.m1,.int w1,.bool c1],.tup [.ref A.m2,.int w2,.bool c2]]
theorem main_rest(t:TX K h0)(hn:32≤n)(B:LB H A T lo hi m1 m2 N)(hN:N≤1000)(M:LM H A pot md ms T lo hi m1 m2)(h1:3≤w1)(h2:w1≤100)(h3:3≤w2)(h4:w2≤100)
  (q:∀H' x9,Sub H H'→QQ .next [x0,some (.ref pot),some (.ref A.b),some (.ref md),some (winsV A w1 w2 c1 c2),x5,x6,x7,x8,x9] H'):
  vcSs w h0 n (fun _ _=>False) b_rest [x0,some (.ref pot),some (.ref A.b),some (.ref md),some (winsV A w1 w2 c1 c2),x5,x6,x7,x8,x9] H QQ:=by
 refine bc fun ng=>?_
 refine xe3 (B.at) ?_
 intro σ g G qz212
 refine xa7 qz212 ?_
 clear qz212
 rintro Bb gd e1 e2 k1 k2 tl
 refine ng ?_
 have l1:(T.map V.int).length=T.length:=List.length_map _
 have l2:(T.map V.int).length< 2^60:=li3 3 [] [_,_,_] (.nle U0 (.c 1000)) (.nle U1 U0) (.neq U2 U1) (.nlt U2 (.c (2^60))) rfl hN tl l1
 delta winsV
 simp only[b_rest]
 refine s_ite ?_
 simp only[↓e_cmpDn,↓e_var,↓e_subK,↓e_lst,↓e_meth,↓e_b1,↓es_n,↓es_c,↓l_0,↓l_s,↓p_b,↓ln3,↓gI Bb.b (k:=59) rfl]
 refine sp_bbegin t (by exact lv0 hn rfl) Bb ?_
 simp only[↓gI Bb.b (k:=18) rfl]
 refine sp_bend t (by exact lv0 hn rfl) Bb ?_
 simp only[↓gI Bb.b (k:=71) rfl]
 refine sp_bsize t (by exact lv0 hn rfl) Bb gd ?_
 simp only[↓kD (k:=56) M.mdv rfl,↓kD (k:=57) M.mdv rfl,↓kD (k:=0) M.mdv rfl,↓lenP l2,l1,e1,e2]
 refine ne_ints (xs:=[lo,hi,T.length]) ?_
 simp only[↓sF,↓s_nil,↓nk_n]
 refine s_ite ?_
 simp only[↓e_cmpDn,↓e_int,↓e_var,↓e_bin,↓e_subK,↓e_meth,↓es_n,↓es_c,↓l_0,↓l_s,↓p_b,↓gI Bb.b (k:=0) rfl,↓gI Bb.b (k:=71) rfl]
 refine sp_bsize t (by exact lv0 hn rfl) Bb gd ?_
 simp only[↓b_add]
 refine sp_bcodes (a:=0) (b:=T.length) t (by exact lv0 hn rfl) Bb gd (Nat.zero_le _) (Nat.le_refl _) ?_
 rw[List.take_length,List.drop_zero]
 simp only[↓kD (k:=0) M.mdv rfl]
 refine ne_ints (xs:=T) ?_
 simp only[↓sF,↓s_nil,↓nk_n]
 refine s_for ?_
 simp only[↓e_none,↓e_var,↓l_0,↓l_s,↓it_l]
 refine⟨bl rfl,?_⟩
 simp only[↓f_cons,↓sl_0,↓sl_s]
 refine win_turn t (by exact lv0 hn rfl) B hN M k1 rfl h1 h2 fun H1 s1=>?_
 simp only[↓tk_n,↓f_cons,setL]
 refine win_turn t (by exact lv0 hn rfl) (B.sub s1) hN (M.sub s1) (s1 _ _ k2) rfl h3 h4 fun H2 s2=>?_
 exact q H2 _ (s1.trans s2)
theorem main_turn(t:TX K h0)(hn:32≤n)(B:LB H A T lo hi m1 m2 N)(hN:N≤900)(M:LM H A pot md ms T lo hi m1 m2)(h1:3≤w1)(h2:w1≤100)(h3:3≤w2)(h4:w2≤100)
  (q:∀H' T' lo' hi' m1' m2' x8 x9,LB H' A T' lo' hi' m1' m2' (N+10)→LM H' A pot md ms T' lo' hi' m1' m2'→QQ .next [x0,some (.ref pot),some (.ref A.b),some (.ref md),some (winsV A w1 w2 c1 c2),x5,x6,x7,x8,x9] H'):
  vcSs w h0 n (fun _ _=>False) b_main [x0,some (.ref pot),some (.ref A.b),some (.ref md),some (winsV A w1 w2 c1 c2),x5,x6,x7,x8,x9] H QQ:=by
 have up:∀{H' T' lo' hi' m1' m2' N'},N'≤N+10→LB H' A T' lo' hi' m1' m2' N'→LB H' A T' lo' hi' m1' m2' (N+10):=fun h B=>{B with st:=let⟨σ,g,G,a,b,c,d,e,f⟩:=B.st;⟨σ,g,G,a,b,c,d,e,Nat.le_trans f h⟩}
 have go:∀{H' T' lo' hi' m1' m2' x8},LB H' A T' lo' hi' m1' m2' (N+10)→LM H' A pot md ms T' lo' hi' m1' m2'→vcSs w h0 n (fun _ _=>False) b_rest [x0,some (.ref pot),some (.ref A.b),some (.ref md),some (winsV A w1 w2 c1 c2),x5,x6,x7,x8,x9] H' QQ:=
  fun B M=>main_rest t hn B (li1 1 [] [_] (.nle U0 (.c 900)) (.nle (.a U0 (.c 10)) (.c 1000)) rfl hN) M h1 h2 h3 h4 fun H'' x9 s=>q _ _ _ _ _ _ _ _ (B.sub s) (M.sub s)
 simp only[b_main,↓s_set,↓sl_0,↓sl_s,↓e_int,↓e_glob,↓e_var,↓e_cmp,↓e_ite,↓e_call,↓es_n,↓es_c,↓l_0,↓l_s,↓p_b]
 refine sp_dipL t (by exact lv0 hn rfl) B M (by decide) fun v H1 _ _ B M=>?_
 simp only[↓c_eq]
 refine dD (fun _=>?_) fun _=>?_
 ·refine s_ite ?_
  simp only[↓e_var,↓e_not,↓es_n,↓es_c,↓l_0,↓l_s,↓e_callV]
  refine⟨.inr trivial,fun h=>absurd h (fun h=>by injection h with h;exact absurd h (by decide)),fun _=>?_⟩
  refine sp_bounded t (by exact lv0 hn rfl) B (li1 1 [] [_] (.nle U0 (.c 900)) (.nle U0 (.c 5000)) rfl hN) M fun H2 lo' hi' B M=>?_
  simp only[↓p_b,↓n_b,↓nbT,↓s_nil,↓nk_n]
  exact go (up (li0 1 [] [_] (.nle U0 (.a U0 (.c 10))) rfl) B) M
 ·refine s_ite ?_
  simp only[↓e_var,↓e_not,↓es_n,↓es_c,↓l_0,↓l_s,↓e_callV]
  refine⟨.inl trivial,fun _=>?_,fun h=>absurd h (fun h=>by injection h with h;exact absurd h (by decide))⟩
  refine sp_edit t (by exact lv0 hn rfl) B (li1 1 [] [_] (.nle U0 (.c 900)) (.nle U0 (.c 1000)) rfl hN) M (fun H2 T' hi' m1' m2' B M=>?_) fun H2 T' hi' m1' m2' B M=>?_
  ·simp only[↓p_b,↓n_b,↓nbT,↓s_nil,↓nk_n]
   exact go (up (li0 1 [] [_] (.nle U0 (.a U0 (.c 10))) rfl) B) M
  ·simp only[↓p_b,↓n_b,↓nbT,↓s_nil,↓nk_n]
   exact go B M
end
structure SU(H:Hp)(A:Ad)(pot md ms wl:Addr)(T:List Int)(es ns:List (Int×V))(ws:List V):Prop where
 F:∃σ g G,PF H A σ∧Good σ T g G∧σ.bv=1∧σ.zv=T.length+1∧T.length+G.length≤100
 rdv:H A.rd=some (.idict es)
 po:∃o,H pot=some o∧PotO o
 mdv:H md=some (mdO T 1 (T.length+1) ms)
 msv:H ms=some (.idict ns)
 wlv:H wl=some (.list ws)
 n1:pot≠A.c
 n2:wl≠A.c
 n3:wl≠pot
 n4:ms≠A.rd
theorem PF.set{A:Ad}{x:Addr}(F:PF H A σ)(h1:x≠A.b)(h2:x≠A.t)(h3:x≠A.c)(h4:x≠A.m):PF (H.set x o) A σ:=
 ⟨⟨(Hp.set_ne _ _ h1.symm).trans F.B.b,(Hp.set_ne _ _ h2.symm).trans F.B.t,(Hp.set_ne _ _ h3.symm).trans F.B.c⟩,(Hp.set_ne _ _ h4.symm).trans F.m⟩
section
variable{A:Ad}{x:Addr}{T:List Int}{ns es' ns':List (Int×V)}{ws ws':List V}
theorem SU.sub(S:SU H A pot md ms wl T es ns ws)(s:Sub H H'):SU H' A pot md ms wl T es ns ws:=
 {S with F:=let⟨σ,g,G,F,r⟩:=S.F;⟨σ,g,G,⟨F.B.sub s,s _ _ F.m⟩,r⟩,rdv:=s _ _ S.rdv,po:=let⟨o,a,b⟩:=S.po;⟨o,s _ _ a,b⟩,mdv:=s _ _ S.mdv,msv:=s _ _ S.msv,wlv:=s _ _ S.wlv}
theorem SU.pot_set(S:SU H A pot md ms wl T es ns ws)(h:PotO o):SU (H.set pot o) A pot md ms wl T es ns ws:=by
 refine bc fun ng=>?_
 refine xe3 (S.F) ?_
 intro σ g G qz213
 refine xa2 qz213 ?_
 clear qz213
 rintro F r
 obtain⟨o',p1,cs,a,b,rfl,_⟩:=S.po
 refine ng ?_
 exact {S with F:=⟨σ,g,G,F.set (ne_oo p1 F.B.b (fun e=>(by exact nomatch e))) (ne_oo p1 F.B.t (fun e=>(by exact nomatch e))) S.n1 (ne_oo p1 F.m (fun e=>(by exact nomatch e))),r⟩,rdv:=(Hp.set_ne _ _ (ne_oo S.rdv p1 (fun e=>(by exact nomatch e)))).trans S.rdv,po:=⟨o,Hp.set_self _ _ _,h⟩,mdv:=(Hp.set_ne _ _ (ne_oo S.mdv p1 (fun e=>(by exact nomatch e)))).trans S.mdv,msv:=(Hp.set_ne _ _ (ne_oo S.msv p1 (fun e=>(by exact nomatch e)))).trans S.msv,wlv:=(Hp.set_ne _ _ S.n3).trans S.wlv}
theorem SU.ms_set(S:SU H A pot md ms wl T es ns ws):SU (H.set ms (.idict ns')) A pot md ms wl T es ns' ws:=by
 refine bc fun ng=>?_
 refine xe3 (S.F) ?_
 intro σ g G qz214
 refine xa2 qz214 ?_
 clear qz214
 rintro F r
 obtain⟨o',p1,cs,a,b,rfl,p2⟩:=id S.po
 refine ng ?_
 exact {S with F:=⟨σ,g,G,F.set (ne_oo S.msv F.B.b (fun e=>(by exact nomatch e))) (ne_oo S.msv F.B.t (fun e=>(by exact nomatch e))) (ne_oo S.msv F.B.c (fun e=>(by exact nomatch e))) (ne_oo S.msv F.m (fun e=>(by exact nomatch e))),r⟩,rdv:=(Hp.set_ne _ _ S.n4.symm).trans S.rdv,po:=⟨_,(Hp.set_ne _ _ (ne_oo p1 S.msv (fun e=>(by exact nomatch e)))).trans p1,cs,a,b,rfl,p2⟩,mdv:=(Hp.set_ne _ _ (ne_oo S.mdv S.msv (fun e=>(by exact nomatch e)))).trans S.mdv,msv:=Hp.set_self _ _ _,wlv:=(Hp.set_ne _ _ (ne_oo S.wlv S.msv (fun e=>(by exact nomatch e)))).trans S.wlv}
theorem SU.rd_set(S:SU H A pot md ms wl T es ns ws):SU (H.set A.rd (.idict es')) A pot md ms wl T es' ns ws:=by
 refine bc fun ng=>?_
 refine xe3 (S.F) ?_
 intro σ g G qz215
 refine xa2 qz215 ?_
 clear qz215
 rintro F r
 obtain⟨o',p1,cs,a,b,rfl,p2⟩:=id S.po
 refine ng ?_
 exact {S with F:=⟨σ,g,G,F.set (ne_oo S.rdv F.B.b (fun e=>(by exact nomatch e))) (ne_oo S.rdv F.B.t (fun e=>(by exact nomatch e))) (ne_oo S.rdv F.B.c (fun e=>(by exact nomatch e))) (ne_oo S.rdv F.m (fun e=>(by exact nomatch e))),r⟩,rdv:=Hp.set_self _ _ _,po:=⟨_,(Hp.set_ne _ _ (ne_oo p1 S.rdv (fun e=>(by exact nomatch e)))).trans p1,cs,a,b,rfl,p2⟩,mdv:=(Hp.set_ne _ _ (ne_oo S.mdv S.rdv (fun e=>(by exact nomatch e)))).trans S.mdv,msv:=(Hp.set_ne _ _ S.n4).trans S.msv,wlv:=(Hp.set_ne _ _ (ne_oo S.wlv S.rdv (fun e=>(by exact nomatch e)))).trans S.wlv}
theorem SU.wl_set(S:SU H A pot md ms wl T es ns ws):SU (H.set wl (.list ws')) A pot md ms wl T es ns ws':=by
 refine bc fun ng=>?_
 refine xe3 (S.F) ?_
 intro σ g G qz216
 refine xa2 qz216 ?_
 clear qz216
 rintro F r
 refine xe1 (S.po) ?_
 intro o' qz217
 refine xa2 qz217 ?_
 clear qz217
 rintro p1 p2
 refine ng ?_
 exact {S with F:=⟨σ,g,G,F.set (ne_oo S.wlv F.B.b (fun e=>(by exact nomatch e))) (ne_oo S.wlv F.B.t (fun e=>(by exact nomatch e))) S.n2 (ne_oo S.wlv F.m (fun e=>(by exact nomatch e))),r⟩,rdv:=(Hp.set_ne _ _ (ne_oo S.rdv S.wlv (fun e=>(by exact nomatch e)))).trans S.rdv,po:=⟨o',(Hp.set_ne _ _ S.n3.symm).trans p1,p2⟩,mdv:=(Hp.set_ne _ _ (ne_oo S.mdv S.wlv (fun e=>(by exact nomatch e)))).trans S.mdv,msv:=(Hp.set_ne _ _ (ne_oo S.msv S.wlv (fun e=>(by exact nomatch e)))).trans S.msv,wlv:=Hp.set_self _ _ _}
theorem SU.mk_set(S:SU H A pot md ms wl T es ns ws)(h:H x=some (.inst 531 dx fs)):SU (H.set x o) A pot md ms wl T es ns ws:=by
 refine bc fun ng=>?_
 refine xe3 (S.F) ?_
 intro σ g G qz218
 refine xa2 qz218 ?_
 clear qz218
 rintro F r
 obtain⟨o',p1,cs,a,b,rfl,p2⟩:=id S.po
 refine ng ?_
 exact {S with F:=⟨σ,g,G,F.set (ne_ii h F.B.b (by decide)) (ne_ii h F.B.t (by decide)) (ne_oo h F.B.c (fun e=>(by exact nomatch e))) (ne_ii h F.m (by decide)),r⟩,rdv:=(Hp.set_ne _ _ (ne_oo S.rdv h (fun e=>(by exact nomatch e)))).trans S.rdv,po:=⟨_,(Hp.set_ne _ _ (ne_oo p1 h (fun e=>(by exact nomatch e)))).trans p1,cs,a,b,rfl,p2⟩,mdv:=(Hp.set_ne _ _ (ne_oo S.mdv h (fun e=>(by exact nomatch e)))).trans S.mdv,msv:=(Hp.set_ne _ _ (ne_oo S.msv h (fun e=>(by exact nomatch e)))).trans S.msv,wlv:=(Hp.set_ne _ _ (ne_oo S.wlv h (fun e=>(by exact nomatch e)))).trans S.wlv}
end
theorem find2_put{k:Int}{v:V}:∀(es:List (Int×V)),find2 k (putD k v es)=some v
 |[]=>if_pos rfl
 |(j,u)::r=>by
  unfold putD
  by_cases h:k=j
  ·rw[if_pos h,find2,if_pos h]
  ·rw[if_neg h,find2,if_neg h,find2_put r]
noncomputable def Keep(H H':Hp):Prop:=∀x C dx fs,H x=some (.inst C dx fs)→H' x=some (.inst C dx fs)
theorem Keep.set(k:Keep H H')(h:H' a=some o)(hn:∀C dx fs,o≠.inst C dx fs):Keep H (H'.set a o'):=fun x C dx fs e=>by
 have e:=k x C dx fs e
 exact(Hp.set_ne _ _ (by rintro rfl;rw[h] at e;injection e with e;exact hn _ _ _ e)).trans e
section
variable{A:Ad}{T:List Int}{k:Int}{ns:List (Int×V)}{ws:List V}
theorem mk_turn(t:TX K h0)(hn:10≤n)(S:SU H A pot md ms wl T es ns ws)(he:es.length≤5)(hns:ns.length≤5)(hws:ws.length≤5)
  (q:∀H' mk dk (pos wd:Int) cut,H mk=none→H' mk=some (.inst 531 dk (mkFs k (decide (k=2)) (.ref A.b) pos))→Keep H H'→1≤pos→pos≤T.length+1→3≤wd→wd≤6→
   SU H' A pot md ms wl T (putD k (.ref mk) es) (putD k (.int pos) ns) (ws++[.tup [.ref mk,.int wd,.bool cut]])→QQ .next [x0,some (.ref pot),some (.ref A.b),some (.ref md),some (.ref wl),some (.int k),some (.ref mk),x7,x8,x9] H'):
  vcSs w h0 n (fun _ _=>False) b_turn [x0,some (.ref pot),some (.ref A.b),some (.ref md),some (.ref wl),some (.int k),x6,x7,x8,x9] H QQ:=by
 have tl:T.length≤100:=by obtain⟨σ,g,G,_,_,_,_,d⟩:=S.F;(exact li1 2 [] [_,_] (.nle (.a U0 U1) (.c 100)) (.nle U0 (.c 100)) rfl d)
 have l1:(T.map V.int).length=T.length:=List.length_map _
 have l2:(T.map V.int).length< 2^60:=li2 2 [] [_,_] (.nle U0 (.c 100)) (.neq U1 U0) (.nlt U1 (.c (2^60))) rfl tl l1
 simp only[b_turn,↓s_nil,↓s_expr,↓s_setI,↓s_set,↓sl_0,↓sl_s,↓e_int,↓e_var,↓e_bin,↓e_cmp,↓e_sub,↓e_subK,↓e_tup,↓e_call,↓e_new,↓e_b1,↓e_app,↓es_n,↓es_c,↓l_0,↓l_s,↓c_eq,↓ln3]
 intro mk dk hmk
 refine sp_Marker t (by exact lv0 hn rfl) ⟨rfl,?_⟩
 have K1:Keep H (H.set mk (.inst 531 dk (mkFs k (decide (k=2)) .none 0))):=fun x C dx fs e=>((Sub.refl H).new hmk) _ _ e
 have S:=S.sub ((Sub.refl H).new (o:=.inst 531 dk (mkFs k (decide (k=2)) .none 0)) hmk)
 have M1:(H.set mk (.inst 531 dk (mkFs k (decide (k=2)) .none 0))) mk=some (.inst 531 dk (mkFs k (decide (k=2)) .none 0)):=Hp.set_self _ _ _
 generalize H.set mk (.inst 531 dk (mkFs k (decide (k=2)) .none 0))=H1 at*
 simp only[↓b_add,↓kD (k:=0) S.mdv rfl,↓lenP l2,l1]
 refine bc fun ng=>?_
 refine xe1 (S.po) ?_
 intro o qz219
 refine xa2 qz219 ?_
 clear qz219
 rintro p1 p2
 refine ng ?_;clear ng
 refine sp_dip t (by exact lv0 hn rfl) p1 p2 (li0 1 [] [_] (.lt I0 (.a (.n U0) I1)) rfl) fun pos o a1 a2 p3=>?_
 have S:=S.pot_set p3
 have K2:=K1.set p1 (o':=o) (by obtain⟨cs,a,b,rfl,_⟩:=p2;exact fun C dx fs e=>(by exact nomatch e))
 have M2:(H1.set pot o) mk=some (.inst 531 dk (mkFs k (decide (k=2)) .none 0)):=(Hp.set_ne _ _ (by obtain⟨cs,a,b,rfl,_⟩:=p2;exact ne_oo M1 p1 (fun e=>(by exact nomatch e)))).trans M1
 generalize H1.set pot o=H2 at*
 simp only[↓b_add,↓kD (k:=58) S.mdv rfl,↓putIL2 S.msv (by(exact li1 1 [] [_] (.nle U0 (.c 5)) (.nle U0 (.c 1000)) rfl hns):ns.length≤1000)]
 have K3:=K2.set S.msv (o':=.idict (putD k (.int (1+pos)) ns)) (fun C dx fs e=>(by exact nomatch e))
 have M3:(H2.set ms (.idict (putD k (.int (1+pos)) ns))) mk=some (.inst 531 dk (mkFs k (decide (k=2)) .none 0)):=(Hp.set_ne _ _ (ne_oo M2 S.msv (fun e=>(by exact nomatch e)))).trans M2
 have S:=S.ms_set (ns':=putD k (.int (1+pos)) ns)
 generalize H2.set ms (.idict (putD k (.int (1+pos)) ns))=H3 at*
 simp only[↓kD (k:=58) S.mdv rfl,↓iD S.msv (find2_put ns)]
 refine bc fun ng=>?_
 refine xe3 (id S.F) ?_
 intro σ g G qz220
 refine xa5 qz220 ?_
 clear qz220
 rintro F gd c1 c2 c3
 refine ng ?_;clear ng
 refine sp_set_marker t (by exact lv0 hn rfl) F gd S.rdv (li1 1 [] [_] (.nle U0 (.c 5)) (.nle U0 (.c 10)) rfl he) M3 (li1 1 [_] [] (.le I0 J0) (.le I1 (.a I1 J0)) rfl a1) (li1 1 [_] [_] (.lt J0 (.a (.n U0) I1)) (.le (.a I1 J0) (.a (.n U0) I1)) rfl a2) ?_
 have K4:=K3.set S.rdv (o':=.idict (putD k (.ref mk) es)) (fun C dx fs e=>(by exact nomatch e))
 have M4:(H3.set A.rd (.idict (putD k (.ref mk) es))) mk=some (.inst 531 dk (mkFs k (decide (k=2)) .none 0)):=(Hp.set_ne _ _ (ne_oo M3 S.rdv (fun e=>(by exact nomatch e)))).trans M3
 have S:=S.rd_set (es':=putD k (.ref mk) es)
 generalize H3.set A.rd (.idict (putD k (.ref mk) es))=H4 at*
 have K5:Keep H (H4.set mk (.inst 531 dk (mkFs k (decide (k=2)) (.ref A.b) (1+pos)))):=fun x C dx fs e=>(Hp.set_ne _ _ (by rintro rfl;rw[hmk] at e;(first|exact nope1 e|exact nope2 e|exact nope3 e|exact nope4 e|obtain rfl:=sj e|cases e))).trans (K4 x C dx fs e)
 have M5:(H4.set mk (.inst 531 dk (mkFs k (decide (k=2)) (.ref A.b) (1+pos)))) mk=some (.inst 531 dk (mkFs k (decide (k=2)) (.ref A.b) (1+pos))):=Hp.set_self _ _ _
 have S:=S.mk_set M4 (o:=.inst 531 dk (mkFs k (decide (k=2)) (.ref A.b) (1+pos)))
 generalize H4.set mk (.inst 531 dk (mkFs k (decide (k=2)) (.ref A.b) (1+pos)))=H5 at*
 refine⟨by rw[aL S.wlv];rfl,?_⟩
 clear p1 p2 p3
 refine bc fun ng=>?_
 refine xe1 (S.po) ?_
 intro o qz221
 refine xa2 qz221 ?_
 clear qz221
 rintro p1 p2
 refine ng ?_;clear ng
 refine sp_dip t (by exact lv0 hn rfl) p1 p2 (by decide) fun wd o b1 b2 p3=>?_
 have S:=S.pot_set p3
 have K6:=K5.set p1 (o':=o) (by obtain⟨cs,a,b,rfl,_⟩:=p2;exact fun C dx fs e=>(by exact nomatch e))
 have M6:(H5.set pot o) mk=some (.inst 531 dk (mkFs k (decide (k=2)) (.ref A.b) (1+pos))):=(Hp.set_ne _ _ (by obtain⟨cs,a,b,rfl,_⟩:=p2;exact ne_oo M5 p1 (fun e=>(by exact nomatch e)))).trans M5
 generalize H5.set pot o=H6 at*
 clear p1 p2 p3
 refine bc fun ng=>?_
 refine xe1 (S.po) ?_
 intro o qz222
 refine xa2 qz222 ?_
 clear qz222
 rintro p1 p2
 refine ng ?_;clear ng
 refine sp_dip t (by exact lv0 hn rfl) p1 p2 (by decide) fun ct o d1 d2 p3=>?_
 have S:=S.pot_set p3
 have K7:=K6.set p1 (o':=o) (by obtain⟨cs,a,b,rfl,_⟩:=p2;exact fun C dx fs e=>(by exact nomatch e))
 have M7:(H6.set pot o) mk=some (.inst 531 dk (mkFs k (decide (k=2)) (.ref A.b) (1+pos))):=(Hp.set_ne _ _ (by obtain⟨cs,a,b,rfl,_⟩:=p2;exact ne_oo M6 p1 (fun e=>(by exact nomatch e)))).trans M6
 generalize H6.set pot o=H7 at*
 simp only[↓c_eq]
 simp only[appV,S.wlv]
 refine⟨by exact li1 1 [] [_] (.nle U0 (.c 5)) (.nle U0 (.c 100000)) rfl hws,?_⟩
 have M8:(H7.set wl (.list (ws++[.tup [.ref mk,.int (3+wd),.bool (decide (ct=0))]]))) mk=some (.inst 531 dk (mkFs k (decide (k=2)) (.ref A.b) (1+pos))):=(Hp.set_ne _ _ (ne_oo M7 S.wlv (fun e=>(by exact nomatch e)))).trans M7
 exact q _ mk dk (1+pos) (3+wd) (decide (ct=0)) hmk M8 (K7.set S.wlv (fun C dx fs e=>(by exact nomatch e))) (li1 1 [_] [] (.le I0 J0) (.le I1 (.a I1 J0)) rfl a1) (li1 1 [_] [_] (.lt J0 (.a (.n U0) I1)) (.le (.a I1 J0) (.a (.n U0) I1)) rfl a2) (li1 1 [_] [] (.le I0 J0) (.le (.c 3) (.a (.c 3) J0)) rfl b1) (li1 1 [_] [] (.lt J0 (.c 4)) (.le (.a (.c 3) J0) (.c 6)) rfl b2) S.wl_set
end
theorem upd_of{A:Ad}{p:Int×Int}(F:PF H A σ)(hr:H A.rd=some (.idict [(1,.ref A.m1),(2,.ref A.m2)]))(h1:H A.m1=some (.inst 531 A.d1 (mkFs 1 false (.ref A.b) p.1)))(h2:H A.m2=some (.inst 531 A.d2 (mkFs 2 true (.ref A.b) p.2)))
  (hm:σ.ms=some p):H=upd H A σ:=by
 funext a
 delta upd
 rw[hm]
 by_cases k1:a=A.b
 ·rw[if_pos k1,k1];exact F.B.b
 rw[if_neg k1]
 by_cases k2:a=A.t
 ·rw[if_pos k2,k2];exact F.B.t
 rw[if_neg k2]
 by_cases k3:a=A.c
 ·rw[if_pos k3,k3];exact F.B.c
 rw[if_neg k3]
 by_cases k4:a=A.m
 ·rw[if_pos k4,k4];exact F.m
 rw[if_neg k4]
 show H a=if a=A.rd then _ else _
 by_cases k5:a=A.rd
 ·rw[if_pos k5,k5];exact hr
 rw[if_neg k5]
 by_cases k6:a=A.m1
 ·rw[if_pos k6,k6];exact h1
 rw[if_neg k6]
 by_cases k7:a=A.m2
 ·rw[if_pos k7,k7];exact h2
 rw[if_neg k7]
theorem upd_has0{A:Ad}{x:Addr}(hm:σ.ms=none)(h:upd R A σ x=none):¬A.has0 x:=by
 intro k
 delta upd at h
 rw[hm] at h
 rcases k with rfl|k
 ·rw[if_pos rfl] at h;(first|exact nope1 h|exact nope2 h|exact nope3 h|exact nope4 h|obtain rfl:=sj h|cases h)
 by_cases k1:x=A.b
 ·rw[if_pos k1] at h;(first|exact nope1 h|exact nope2 h|exact nope3 h|exact nope4 h|obtain rfl:=sj h|cases h)
 rw[if_neg k1] at h
 rcases k with rfl|k
 ·rw[if_pos rfl] at h;(first|exact nope1 h|exact nope2 h|exact nope3 h|exact nope4 h|obtain rfl:=sj h|cases h)
 by_cases k2:x=A.t
 ·rw[if_pos k2] at h;(first|exact nope1 h|exact nope2 h|exact nope3 h|exact nope4 h|obtain rfl:=sj h|cases h)
 rw[if_neg k2] at h
 rcases k with rfl|k
 ·rw[if_pos rfl] at h;(first|exact nope1 h|exact nope2 h|exact nope3 h|exact nope4 h|obtain rfl:=sj h|cases h)
 by_cases k3:x=A.c
 ·rw[if_pos k3] at h;(first|exact nope1 h|exact nope2 h|exact nope3 h|exact nope4 h|obtain rfl:=sj h|cases h)
 rw[if_neg k3] at h
 rcases k with rfl|rfl
 ·rw[if_pos rfl] at h;(first|exact nope1 h|exact nope2 h|exact nope3 h|exact nope4 h|obtain rfl:=sj h|cases h)
 by_cases k4:A.rd=A.m
 ·rw[if_pos k4] at h;(first|exact nope1 h|exact nope2 h|exact nope3 h|exact nope4 h|obtain rfl:=sj h|cases h)
 rw[if_neg k4] at h
 simp only[if_pos] at h;(first|exact nope1 h|exact nope2 h|exact nope3 h|exact nope4 h|obtain rfl:=sj h|cases h)
theorem frz_del(h:H a=some (.list xs))(q:Q (.lst xs) (H.del a)):Frz (.ref a) H Q:=by
 have e:H=(H.del a).set a (.list xs):=by
  funext b;delta Hp.set Hp.del;by_cases hb:b=a
  ·rw[if_pos hb,hb,h]
  ·rw[if_neg hb,if_neg hb]
 rw[e]
 exact frz_lst (if_pos rfl) q
section
variable{A:Ad}{mk1 mk2 d1 d2:Addr}{T:List Int}{p1 p2:Int}{ws:List V}
theorem su_end(ok:A.OK)(S:SU H A pot md ms wl T [(1,.ref mk1),(2,.ref mk2)] [(1,.int p1),(2,.int p2)] ws)(hc:∀x∈T,OKc x)(h1:H mk1=some (.inst 531 d1 (mkFs 1 false (.ref A.b) p1)))(h2:H mk2=some (.inst 531 d2 (mkFs 2 true (.ref A.b) p2)))(h12:mk2≠mk1):
  LB (H.del wl) {A with m1:=mk1,d1:=d1,m2:=mk2,d2:=d2} T 1 (T.length+1) p1 p2 100∧LM (H.del wl) {A with m1:=mk1,d1:=d1,m2:=mk2,d2:=d2} pot md ms T 1 (T.length+1) p1 p2:=by
 refine bc fun ng=>?_
 refine xe3 (S.F) ?_
 intro σ g G qz223
 refine xa5 qz223 ?_
 clear qz223
 rintro F gd c1 c2 c3
 obtain⟨o,q1,cs,a,b,rfl,q2⟩:=id S.po
 refine ng ?_
 have dn:∀{x:Addr} {o:AObj},H x=some o→x≠wl→(H.del wl) x=some o:=fun e hx=>(if_neg hx).trans e
 have b':=dn F.B.b (ne_oo F.B.b S.wlv (fun e=>(by exact nomatch e)))
 have t':=dn F.B.t (ne_oo F.B.t S.wlv (fun e=>(by exact nomatch e)))
 have c':=dn F.B.c S.n2.symm
 have m':=dn F.m (ne_oo F.m S.wlv (fun e=>(by exact nomatch e)))
 have r':=dn S.rdv (ne_oo S.rdv S.wlv (fun e=>(by exact nomatch e)))
 have h1':=dn h1 (ne_oo h1 S.wlv (fun e=>(by exact nomatch e)))
 have h2':=dn h2 (ne_oo h2 S.wlv (fun e=>(by exact nomatch e)))
 have md':=dn S.mdv (ne_oo S.mdv S.wlv (fun e=>(by exact nomatch e)))
 have ms':=dn S.msv (ne_oo S.msv S.wlv (fun e=>(by exact nomatch e)))
 have po':=dn q1 S.n3.symm
 generalize H.del wl=H' at*
 have gt:T.length+1≤T.length+1:=Nat.le_refl _
 constructor
 ·refine⟨⟨ok.tb,ok.cb,ok.ct,ok.mb,ok.mt,ok.mc,ok.rb,ok.rt,ok.rc,ok.rm⟩,⟨ne_ii h1 F.B.b (by decide),ne_ii h1 F.B.t (by decide),ne_oo h1 F.B.c (fun e=>(by exact nomatch e)),ne_ii h1 F.m (by decide),ne_oo h1 S.rdv (fun e=>(by exact nomatch e)),ne_ii h2 F.B.b (by decide),ne_ii h2 F.B.t (by decide),ne_oo h2 F.B.c (fun e=>(by exact nomatch e)),ne_ii h2 F.m (by decide),ne_oo h2 S.rdv (fun e=>(by exact nomatch e)),h12⟩,?_,by exact li0 0 [] [] (.le I1 I1) rfl,by exact li0 1 [] [_] (.le I1 (.a (.n U0) I1)) rfl,by exact li0 1 [] [_] (.lt (.n U0) (.a (.n U0) I1)) rfl,hc⟩
  exact⟨{σ with ms:=some (p1,p2)},g,G,upd_of ⟨⟨b',t',c'⟩,m'⟩ r' h1' h2' rfl,⟨gd.cs,gd.gs,gd.ge,gd.le,gd.lim⟩,c1,c2,rfl,c3⟩
 ·refine⟨⟨_,po',cs,a,b,rfl,q2⟩,md',ms',?_,?_,?_⟩
  ·rintro(e|e|e|e|e|e|e)
   ·exact ne_oo q1 F.B.b (fun e=>(by exact nomatch e)) e
   ·exact ne_oo q1 F.B.t (fun e=>(by exact nomatch e)) e
   ·exact S.n1 e
   ·exact ne_oo q1 F.m (fun e=>(by exact nomatch e)) e
   ·exact ne_oo q1 S.rdv (fun e=>(by exact nomatch e)) e
   ·exact ne_oo q1 h1 (fun e=>(by exact nomatch e)) e
   ·exact ne_oo q1 h2 (fun e=>(by exact nomatch e)) e
  ·rintro(e|e|e|e|e|e|e)
   ·exact ne_oo S.mdv F.B.b (fun e=>(by exact nomatch e)) e
   ·exact ne_oo S.mdv F.B.t (fun e=>(by exact nomatch e)) e
   ·exact ne_oo S.mdv F.B.c (fun e=>(by exact nomatch e)) e
   ·exact ne_oo S.mdv F.m (fun e=>(by exact nomatch e)) e
   ·exact ne_oo S.mdv S.rdv (fun e=>(by exact nomatch e)) e
   ·exact ne_oo S.mdv h1 (fun e=>(by exact nomatch e)) e
   ·exact ne_oo S.mdv h2 (fun e=>(by exact nomatch e)) e
  ·rintro(e|e|e|e|e|e|e)
   ·exact ne_oo S.msv F.B.b (fun e=>(by exact nomatch e)) e
   ·exact ne_oo S.msv F.B.t (fun e=>(by exact nomatch e)) e
   ·exact ne_oo S.msv F.B.c (fun e=>(by exact nomatch e)) e
   ·exact ne_oo S.msv F.m (fun e=>(by exact nomatch e)) e
   ·exact S.n4 e
   ·exact ne_oo S.msv h1 (fun e=>(by exact nomatch e)) e
   ·exact ne_oo S.msv h2 (fun e=>(by exact nomatch e)) e
end
section
variable{A:Ad}{T:List Int}
theorem law_loops(t:TX K h0)(hn:34≤n)(ok:A.OK)(S:SU H A pot md ms wl T [] [] [])(hc:∀x∈T,OKc x):
  vcSs w h0 n XX (.cons (.for_ (.nm 5) false (.tup (.cons (.int 1) (.cons (.int 2) .nil))) .none b_turn)
 (.cons (.frz 4)
 (.cons (.for_ (.nm 7) true (.int 0) (.bin .Add (.int 1) (.call 932 "_law_dip" (.cons (.var 1) (.cons (.int 4) .nil)))) b_main)
 (.cons (.ret (.bool true))
 .nil)))) [x0,some (.ref pot),some (.ref A.b),some (.ref md),some (.ref wl),none,none,none,none,none] H (fun fl _ H'=>retV fl=.bool true):=by
 refine s_for ?_
 simp only[↓e_int,↓e_none,↓e_tup,↓es_n,↓es_c,↓ln2,↓it_t]
 refine⟨bl rfl,?_⟩
 simp only[↓f_cons,↓sl_0,↓sl_s]
 refine mk_turn t (by exact lv0 hn rfl) S (Nat.zero_le _) (Nat.zero_le _) (Nat.zero_le _) fun H1 mk1 dk1 p1 w1 c1 k1 m1 K1 a1 a2 a3 a4 S=>?_
 simp only[↓tk_n,↓f_cons,setL]
 refine mk_turn t (by exact lv0 hn rfl) S (bl rfl) (bl rfl) (bl rfl) fun H2 mk2 dk2 p2 w2 c2 k2 m2 K2 b1 b2 b3 b4 S=>?_
 have n12:mk2≠mk1:=by rintro rfl;rw[m1] at k2;(first|exact nope1 k2|exact nope2 k2|exact nope3 k2|exact nope4 k2|obtain rfl:=sj k2|cases k2)
 refine bc fun ng=>?_
 refine xa2 (su_end ok S hc (K2 _ _ _ _ m1) m2 n12) ?_
 rintro B M
 refine ng ?_
 simp only[↓tk_n,↓f_nil,↓nk_n,↓s_frz,↓l_s,↓l_0]
 refine frz_del S.wlv ?_
 simp only[setL]
 refine s_for ?_
 simp only[↓e_int,↓e_var,↓e_bin,↓e_call,↓es_n,↓es_c,↓l_0,↓l_s]
 refine sp_dipL t (by exact lv0 hn rfl) B M (by decide) fun kk H3 d1 d2 B M=>?_
 simp only[↓b_add,↓it_r]
 refine⟨⟨by decide,by decide,by exact li1 1 [_] [] (.le I0 J0) (.le (.c (-100000)) (.a I1 J0)) rfl d1,by exact li1 1 [_] [] (.lt J0 (.c 4)) (.le (.a I1 J0) (.c 100000)) rfl d2⟩,by rw[range_len];(exact li2 1 [_] [_] (.tn (.s (.a I1 J0) I0) U0) (.lt J0 (.c 4)) (.nle U0 (.c 100000)) rfl (tn (1+kk-0)) d2),?_⟩
 refine for_inv (fun xs l H'=>∃i T' lo' hi' m1' m2' x7 x8 x9,xs=rangeV i (1+kk)∧l=[x0,some (.ref pot),some (.ref A.b),some (.ref md),some (winsV {A with m1:=mk1,d1:=dk1,m2:=mk2,d2:=dk2} w1 w2 c1 c2),some (.int 2),some (.ref mk2),x7,x8,x9]∧
  LB H' {A with m1:=mk1,d1:=dk1,m2:=mk2,d2:=dk2} T' lo' hi' m1' m2' (100+10*i.toNat)∧LM H' {A with m1:=mk1,d1:=dk1,m2:=mk2,d2:=dk2} pot md ms T' lo' hi' m1' m2'∧0≤i∧i≤1+kk) ?_ ?_ _ _ _
  ⟨0,T,1,T.length+1,p1,p2,none,none,none,rfl,rfl,B,M,Int.le_refl _,by exact li1 1 [_] [] (.le I0 J0) (.le I0 (.a I1 J0)) rfl d1⟩
 ·rintro x r l H' K' ⟨i,T',lo',hi',m1',m2',x7,x8,x9,h1,rfl,B,M,i1,i2⟩ j1 j2
  have c:i< 1+kk:=by
   by_cases c:i< 1+kk
   ·exact c
   ·rw[range_nil (by exact li1 2 [_,_] [] (.no (.lt J0 (.a I1 J1))) (.le (.a I1 J1) J0) rfl c)] at h1;(first|exact nope1 h1|exact nope2 h1|exact nope3 h1|exact nope4 h1|obtain rfl:=sj h1|cases h1)
  rw[range_cons c] at h1
  (first|exact nope1 h1|exact nope2 h1|exact nope3 h1|exact nope4 h1|obtain rfl:=sj h1|cases h1)
  simp only[setL]
  refine main_turn t (by exact lv0 hn rfl) B (by exact li3 2 [_,_] [_] (.tn J0 U0) (.lt J1 (.c 4)) (.lt J0 (.a I1 J1)) (.nle (.a (.c 100) (.m 10 U0)) (.c 900)) rfl (tn (i)) d2 c) M a3 (by exact li1 1 [_] [] (.le J0 (.c 6)) (.le J0 (.c 100)) rfl a4) b3 (by exact li1 1 [_] [] (.le J0 (.c 6)) (.le J0 (.c 100)) rfl b4) fun H4 T4 lo4 hi4 m14 m24 x8 x9 B M=>?_
  refine j1 _ _ ⟨i+1,T4,lo4,hi4,m14,m24,some (.int i),x8,x9,rfl,rfl,?_,M,by exact li1 1 [_] [] (.le I0 J0) (.le I0 (.a J0 I1)) rfl i1,by exact li1 2 [_,_] [] (.lt J0 (.a I1 J1)) (.lt J0 (.a I1 J1)) rfl c⟩
  rw[show(i+1).toNat=i.toNat+1 by exact li3 2 [_] [_,_] (.tn (.a J0 I1) U0) (.tn J0 U1) (.le I0 J0) (.neq U0 (.a U1 O1)) rfl (tn (i+1)) (tn (i)) i1,Nat.mul_add]
  exact B
 ·rintro l H' ⟨i,T',lo',hi',m1',m2',x7,x8,x9,h1,rfl,B,M,i1,i2⟩
  simp only[↓nk_n,↓s_ret,↓nk_n,↓retV_r,↓e_bool]
end
theorem law_fn(t:TX K h0)(hl:is.length≤63):Fn w h0 100 982 [.scr is] (fun _=>none) (fun v _=>v=.bool true) (fun _=>False):=by
 refine fn_row t (by decide) 83 rfl [some (.scr is),none,none,none,none,none,none,none,none,none] args_all (by kernel_rfl) ?_
 rw[law_split,s_setR]
 simp only[↓e_int,↓e_str,↓e_var,↓e_tup,↓e_call,↓e_new,↓es_n,↓es_c,↓l_0,↓p_t,↓ln2]
 refine sp_law_pot t (by decide) (li1 1 [] [_] (.nle U0 (.c 63)) (.nle U0 (.c 1000)) rfl hl) fun pot o hp ho=>?_
 have r1:(Hp.set (fun _=>none) pot o) pot=some o:=Hp.set_self _ _ _
 generalize Hp.set (fun _=>none) pot o=R0 at*
 intro b dx hb
 refine sp_Buffer t (by decide) hb fun A ok hAb hAt hAc hAm hAr=>⟨rfl,?_⟩
 subst hAb
 refine⟨rfl,setR2 ?_⟩
 simp only[setL]
 have p0:¬A.has0 pot:=by
  rintro(rfl|rfl|rfl|rfl|rfl)
  ·rw[r1] at hb;(first|exact nope1 hb|exact nope2 hb|exact nope3 hb|exact nope4 hb|obtain rfl:=sj hb|cases hb)
  ·rw[r1] at hAt;(first|exact nope1 hAt|exact nope2 hAt|exact nope3 hAt|exact nope4 hAt|obtain rfl:=sj hAt|cases hAt)
  ·rw[r1] at hAc;(first|exact nope1 hAc|exact nope2 hAc|exact nope3 hAc|exact nope4 hAc|obtain rfl:=sj hAc|cases hAc)
  ·rw[r1] at hAm;(first|exact nope1 hAm|exact nope2 hAm|exact nope3 hAm|exact nope4 hAm|obtain rfl:=sj hAm|cases hAm)
  ·rw[r1] at hAr;(first|exact nope1 hAr|exact nope2 hAr|exact nope3 hAr|exact nope4 hAr|obtain rfl:=sj hAr|cases hAr)
 simp only[↓s_set,↓sl_0,↓sl_s,↓e_dictK,↓e_int,↓e_var,↓e_call,↓es_n,↓es_c,↓l_0,↓l_s]
 intro md hmd
 have m0:=upd_has0 rfl hmd
 have pm:pot≠md:=by rintro rfl;rw[upd_off0 rfl p0,r1] at hmd;(first|exact nope1 hmd|exact nope2 hmd|exact nope3 hmd|exact nope4 hmd|obtain rfl:=sj hmd|cases hmd)
 rw[upd_set0 rfl m0]
 have r2:(R0.set md (.sdict [])) pot=some o:=(Hp.set_ne _ _ pm).trans r1
 have d2:(R0.set md (.sdict [])) md=some (.sdict []):=Hp.set_self _ _ _
 generalize R0.set md (.sdict [])=R1 at*
 refine sp_dip t (by decide) ((upd_off0 rfl p0).trans r2) ho (by decide) fun v o1 v1 v2 ho1=>?_
 rw[upd_set0 rfl p0]
 have r3:(R1.set pot o1) pot=some o1:=Hp.set_self _ _ _
 have d3:(R1.set pot o1) md=some (.sdict []):=(Hp.set_ne _ _ pm.symm).trans d2
 generalize R1.set pot o1=R2 at*
 refine sp_law_codes t (by decide) ((upd_off0 rfl p0).trans r3) ho1 v1 (li1 1 [_] [] (.lt J0 (.c 10)) (.le J0 (.c 1000)) rfl v2) fun ys o2 y1 y2 ho2=>?_
 rw[upd_set0 rfl p0]
 have r4:(R2.set pot o2) pot=some o2:=Hp.set_self _ _ _
 have d4:(R2.set pot o2) md=some (.sdict []):=(Hp.set_ne _ _ pm.symm).trans d3
 generalize R2.set pot o2=R3 at*
 intro ms hms
 have s0:=upd_has0 rfl hms
 rw[upd_off0 rfl s0] at hms
 have sp:ms≠pot:=by rintro rfl;rw[r4] at hms;(first|exact nope1 hms|exact nope2 hms|exact nope3 hms|exact nope4 hms|obtain rfl:=sj hms|cases hms)
 have sm:ms≠md:=by rintro rfl;rw[d4] at hms;(first|exact nope1 hms|exact nope2 hms|exact nope3 hms|exact nope4 hms|obtain rfl:=sj hms|cases hms)
 rw[upd_set0 rfl s0]
 have r5:(R3.set ms (.idict [])) pot=some o2:=(Hp.set_ne _ _ sp.symm).trans r4
 have d5:(R3.set ms (.idict [])) md=some (.sdict []):=(Hp.set_ne _ _ sm.symm).trans d4
 have s5:(R3.set ms (.idict [])) ms=some (.idict []):=Hp.set_self _ _ _
 generalize R3.set ms (.idict [])=R4 at*
 refine⟨(upd_off0 rfl m0).trans d5,⟨by decide,rfl⟩,?_⟩
 rw[upd_set0 rfl m0]
 have r6:(R4.set md (mdO ys 1 1 ms)) pot=some o2:=(Hp.set_ne _ _ pm).trans r5
 have d6:(R4.set md (mdO ys 1 1 ms)) md=some (mdO ys 1 1 ms):=Hp.set_self _ _ _
 have s6:(R4.set md (mdO ys 1 1 ms)) ms=some (.idict []):=(Hp.set_ne _ _ sm).trans s5
 show vcSs _ _ _ _ _ _ (upd (R4.set md (mdO ys 1 1 ms)) A σ0) _
 generalize R4.set md (mdO ys 1 1 ms)=R5 at*
 have l1:(ys.map V.int).length=ys.length:=List.length_map _
 have l2:(ys.map V.int).length< 2^60:=li3 2 [_] [_,_] (.lt J0 (.c 10)) (.eq (.n U0) J0) (.neq U1 U0) (.nlt U1 (.c (2^60))) rfl v2 y1 l1
 simp only[↓s_expr,↓s_setK,↓s_set,↓sl_0,↓sl_s,↓e_int,↓e_var,↓e_bin,↓e_subK,↓e_lstM,↓e_call,↓e_b1,↓es_n,↓es_c,↓l_0,↓l_s,↓ln0,↓kD (k:=0) ((upd_off0 (A:=A) (σ:=σ0) rfl m0).trans d6) rfl]
 refine sp_insert (a:=0) (σ:=σ0) (T:=[]) (g:=0) (G:=[0,0,0,0]) (ys:=ys) t (by decide) ok (fun h=>(by exact nope3 h)) (Nat.le_refl _) (by show 0+4+_≤_;(exact li2 1 [_] [_] (.lt J0 (.c 10)) (.eq (.n U0) J0) (.nle (.a (.a O0 (.c 4)) U0) (.c 4000)) rfl v2 y1)) (li2 1 [_] [_] (.lt J0 (.c 10)) (.eq (.n U0) J0) (.nle U0 (.c 900)) rfl v2 y1) (Nat.le_refl _) (fun _=>?_) fun hx=>absurd ⟨by decide,by decide⟩ hx
 have eT:edT [] 0 0 ys=ys:=by simp[edT]
 intro vv pt tk ct g' G' k1 k2
 rw[eT] at k1
 rw[eT]
 have G1:Good ((σ0.ed 0 0 ys.length pt tk ct).re ys g' G') ys g' G':=re_good k1 (by have:([0,0,0,0]:List Int).length=4:=rfl;(exact li5 4 [_] [_,_,_,_] (.sb O0 O0 U0) (.lt J0 (.c 10)) (.eq (.n U1) J0) (.nle U2 (.a (.a U3 U0) (.c 4))) (.neq U3 (.c 4)) (.nle (.a U1 U2) (.c 10000)) rfl (ns (0) (0)) v2 y1 k2 this))
 have Z1:((σ0.ed 0 0 ys.length pt tk ct).re ys g' G').zv=ys.length+1:=by show(1:Int)+(ys.length:Int)-((0:Nat)-(0:Nat))=_;(exact li0 1 [] [_] (.eq (.s (.a I1 (.n U0)) (.s (.n O0) (.n O0))) (.a (.n U0) I1)) rfl)
 have N1:((σ0.ed 0 0 ys.length pt tk ct).re ys g' G').ms=none:=rfl
 have V1:((σ0.ed 0 0 ys.length pt tk ct).re ys g' G').bv=1:=rfl
 generalize(σ0.ed 0 0 ys.length pt tk ct).re ys g' G'=σ1 at*
 simp only[↓b_add,↓kD (k:=0) ((upd_off0 (A:=A) (σ:=σ1) N1 m0).trans d6) rfl,↓lenP l2,l1,↓putKL ((upd_off0 (A:=A) (σ:=σ1) N1 m0).trans d6) (bl rfl)]
 rw[upd_set0 N1 m0]
 have e9:AObj.sdict (putD 57 (.int (1+(ys.length:Int))) [(0,.lst (ys.map V.int)),(56,.int 1),(57,.int 1),(58,.ref ms)])=mdO ys 1 (ys.length+1) ms:=by rw[Int.add_comm];rfl
 rw[e9]
 have r7:(R5.set md (mdO ys 1 (ys.length+1) ms)) pot=some o2:=(Hp.set_ne _ _ pm).trans r6
 have d7:(R5.set md (mdO ys 1 (ys.length+1) ms)) md=some (mdO ys 1 (ys.length+1) ms):=Hp.set_self _ _ _
 have s7:(R5.set md (mdO ys 1 (ys.length+1) ms)) ms=some (.idict []):=(Hp.set_ne _ _ sm).trans s6
 generalize R5.set md (mdO ys 1 (ys.length+1) ms)=R6 at*
 intro wl hwl
 have w0:=upd_has0 N1 hwl
 rw[upd_off0 N1 w0] at hwl
 have wp:wl≠pot:=by rintro rfl;rw[r7] at hwl;(first|exact nope1 hwl|exact nope2 hwl|exact nope3 hwl|exact nope4 hwl|obtain rfl:=sj hwl|cases hwl)
 have wd:wl≠md:=by rintro rfl;rw[d7] at hwl;(first|exact nope1 hwl|exact nope2 hwl|exact nope3 hwl|exact nope4 hwl|obtain rfl:=sj hwl|cases hwl)
 have ws:wl≠ms:=by rintro rfl;rw[s7] at hwl;(first|exact nope1 hwl|exact nope2 hwl|exact nope3 hwl|exact nope4 hwl|obtain rfl:=sj hwl|cases hwl)
 have nh:∀{x},¬A.has0 x→x≠A.b∧x≠A.t∧x≠A.c∧x≠A.m∧x≠A.rd:=fun h=>by delta Ad.has0 at h;simp only[not_or] at h;exact h
 refine bc fun ng=>?_
 refine xa5 (nh w0) ?_
 rintro wb wt wc wm wr
 refine xa5 (nh p0) ?_
 rintro _ _ pc _ _
 refine xa5 (nh s0) ?_
 rintro _ _ _ _ sr
 refine ng ?_
 refine law_loops t (by decide) ok (T:=ys) ⟨⟨σ1,g',G',PF.set ⟨upd_at ok,u_m ok⟩ wb wt wc wm,G1,V1,Z1,?_⟩,(Hp.set_ne _ _ wr.symm).trans (u_rd0 ok N1),⟨o2,(Hp.set_ne _ _ wp.symm).trans ((upd_off0 N1 p0).trans r7),ho2⟩,(Hp.set_ne _ _ wd.symm).trans ((upd_off0 N1 m0).trans d7),(Hp.set_ne _ _ ws.symm).trans ((upd_off0 N1 s0).trans s7),Hp.set_self _ _ _,pc,wc,wp,sr⟩ y2
 have:([0,0,0,0]:List Int).length=4:=rfl
 (exact li5 4 [_] [_,_,_,_] (.sb O0 O0 U0) (.lt J0 (.c 10)) (.eq (.n U1) J0) (.nle U2 (.a (.a U3 U0) (.c 4))) (.neq U3 (.c 4)) (.nle (.a U1 U2) (.c 100)) rfl (ns (0) (0)) v2 y1 k2 this)
section
open Classical
noncomputable def XPm(_:Str→Option Value)(h:Heap):Prop:=(∃K:Frag,K.In h∧allAt K=true∧seenL K=seenR K)∧∃o,h.get? sysModules=some o
noncomputable def Xtm(s:Shared):Bool:=decide (XPm (s.heap.nsMap mainGlobals) s.heap)
theorem fragT_look{t:BT}:∀{a:Addr} {o:Obj},(fragT t as).lookup a=some o→a∈as∧t.get a=some o:=by
 induction as with
 |nil=>intro a o h;cases h
 |cons b r ih=>
  intro a o h
  delta fragT at h
  rw[List.filterMap_cons] at h
  cases e:t.get b with
  |none=>
   rw[e] at h
   obtain⟨x,y⟩:=ih h
   exact⟨List.mem_cons_of_mem _ x,y⟩
  |some ob=>
   rw[e] at h
   have h:((b,ob)::fragT t r).lookup a=some o:=h
   rw[List.lookup_cons] at h
   by_cases q:(a==b)=true
   ·rw[q] at h;cases h
    rw[eq_of_beq q];exact⟨List.mem_cons_self,e⟩
   ·have q:(a==b)=false:=by simpa using q
    rw[q] at h
    obtain⟨x,y⟩:=ih h
    exact⟨List.mem_cons_of_mem _ x,y⟩
theorem alive_of{o:Option Obj}(h:aliveT o=true):∃ob,o=some ob∧alive ob=some ob:=by
 cases o with
 |none=>exact nomatch h
 |some ob=>
  obtain⟨c,d,dt,sl⟩:=ob
  cases dt<;>first|exact⟨_,rfl,rfl⟩|exact absurd h Bool.false_ne_true
theorem openSeen_X{q:Program}{mods:List Str}(h:Xt s=true):openSeen q loose mods Xt g0 s=openSeen q loose mods (fun _=>true) g0 s:=by
 delta openSeen;rw[h]
section
variable{p q:Program}{w:World}
theorem chain{b:List Stmt}{c:Code}{pos:Pos}{q':Pos}{k0 kb m:Nat}{Sa Sb:Shared}{stub thA:Thread}(hth:thA=⟨denote treeTable (.body b env),c,pos,[topFrame q']⟩)(pre:topGo treeTable p w m₀ ann k0 Sa stub=some (Sb,thA))
  (blk:segRun treeTable p w m₀ ann 1 kb Sb (blockOf b env c pos [topFrame q'])=some (.next,Sb,c,pos)) (seg:segRun treeTable p w m₀ ann 1 n Sb (piecesOf b env c pos [topFrame q'])=some (.next,s',c,p'))
  (fin:∀s,topRun treeTable p w m₀ ann m s ⟨doneF .next,c,p',[topFrame q']⟩=some s):topRun treeTable p w m₀ ann (k0+(kb+(n+m))) Sa stub=some s':=by
 subst hth
 have k1:topRun treeTable p w m₀ ann (n+m) Sb (restOf (b++[]) env c pos [topFrame q'])=some s':=piece_app seg (piece_nil (fin s'))
 rw[List.append_nil] at k1
 exact go_top pre (piece_block blk k1)
theorem left_of{M:Nat}{gs₀:Array GenState}{d₀:Drawn}(open_:∀w:World,(fencedOpening treeTable p w N).map (fun s=>(s.heap,s.gens,s.drawn,s.toks))=some (H₀ w.params,gs₀,d₀,k₀))
  (size:∀w:World,((H₀ w.params).isNs mainGlobals&&gs₀.size==0,(H₀ w.params).objs.size,(H₀ w.params).nsMap mainGlobals "__annotations__")=(true,m₀,ann))
  (run:∀(w:World) (os:OsState),∃s',topRun treeTable p w m₀ ann M ⟨H₀ w.params,gs₀,d₀,k₀,os⟩ (topStub p)=some s'∧(staticsOk (importedModules p.main.body) (H₀ w.params) s'.heap&&namesBound p s'.heap&&gensDone s'&&laidKept (H₀ w.params) s'.heap)=true∧
   openSeen q loose (importedModules p.main.body) (fun _=>true) true s'=openGood q loose∧Xt s'=true) (le:M≤N):LeftO p q loose Xt (fun _=>()) (fun _=>()) N:=fun w=>by
 obtain⟨⟨h,gs,d,k,os⟩,e,e'⟩:=Option.map_eq_some_iff.mp (open_ w)
 obtain⟨rfl,rfl,rfl,rfl⟩:h=H₀ w.params∧gs=gs₀∧d=d₀∧k=k₀:=by simpa using e'
 obtain⟨z1,z2,z3⟩:_∧_∧_:=by simpa only[Prod.mk.injEq] using size w
 obtain⟨s',r,l1,l2,l3⟩:=run w os
 have r:=topRun_mono (N-M) _ _ _ _ r
 rw[show M+(N-M)=N by omega] at r
 have t:topFrom treeTable p w N ⟨H₀ w.params,gs,d,k,os⟩=some s':=by
  delta topFrom
  dsimp only
  rw[z1,z2,z3,r]
  show(match staticsOk (importedModules p.main.body) (H₀ w.params) s'.heap&&namesBound p s'.heap&&gensDone s'&&laidKept (H₀ w.params) s'.heap with|true=>_|false=>_)=_
  rw[l1]
 delta openEnds
 rw[e]
 show(topFrom treeTable p w N _).map _=_
 rw[t]
 exact congrArg some (Prod.ext ((openSeen_X l3).trans l2) rfl)
theorem facts_of{sT:SharedT}(c1:((kokAt (fragT sT.tree allA)&&(lsAt (fragT sT.tree allA)&&lawAt (fragT sT.tree allA)))&&(sysModules::allA).all (fun a=>decide (a< sT.n)&&aliveT (sT.tree.get a)))=true)(b2:fnTab.all (rowAt (fragT sT.tree allA))=true)(d2:seenL (fragT sT.tree allA)=seenR (fragT sT.tree allA)):Xtm sT.abs=true:=by
 obtain⟨c2,c3⟩:=and2 c1
 have hal:∀a,a∈sysModules::allA→∃ob,sT.tree.get a=some ob∧sT.abs.heap.get? a=some ob:=fun a ha=>by
  have:=List.all_eq_true.mp c3 a ha
  obtain⟨x,y⟩:=and2 this
  obtain⟨ob,z1,z2⟩:=alive_of y
  exact⟨ob,z1,(abs_get (of_decide_eq_true x) z1).trans z2⟩
 refine decide_eq_true ⟨⟨fragT sT.tree allA,fun a o q=>?_,?_,d2⟩,?_⟩
 ·obtain⟨x,y⟩:=fragT_look q
  obtain⟨ob,z1,z2⟩:=hal a (List.mem_cons_of_mem _ x)
  rw[y] at z1;cases z1
  exact z2
 ·delta allAt;rw[c2,b2];rfl
 ·obtain⟨ob,_,z⟩:=hal sysModules List.mem_cons_self
  exact⟨ob,z⟩
end
theorem three{α β γ δ ε:Type}{o:Option α}{f:α→β}{g:α→γ}{h:α→δ}{a:β}{b:γ}{c:δ}{i j:α→ε}(h1:o.map f=some a)(h2:o.map g=some b)(h3:o.map h=some c)(h4:o.map i=o.map j):∃r,o=some r∧f r=a∧g r=b∧h r=c∧i r=j r:=by
 cases o with
 |none=>cases h1
 |some r=>exact⟨r,rfl,sj h1,sj h2,sj h3,sj h4⟩
theorem end0(w:World)(os:OsState):∃sT:SharedT,segRunT treeTable pw w 11 annE 1 6800 (st0 w os) th0=some (Flow.next,sT,cd0,posE)∧(staticsOk mods0 (boot_heap w.params) sT.abs.heap&&namesBound pw sT.abs.heap&&gensDone sT.abs&&laidKept (boot_heap w.params) sT.abs.heap)=true∧openSeen qv looseN mods0 (fun _=>true) true sT.abs=openGood qv looseN∧Xtm sT.abs=true:=by
 obtain⟨⟨f,sT,c,p⟩,r1,r2,b2,c2,d2⟩:=three (runA w os) (runB w os) (runC w os) (runD w os)
 obtain⟨r3,r4,r5⟩:_∧_∧_:=by simpa only[Prod.mk.injEq] using r2
 obtain⟨e1,e2,e3⟩:f=Flow.next∧c=cd0∧p=posE:=by simpa only[Prod.mk.injEq] using r3
 rw[e1,e2,e3] at r1
 exact⟨sT,r1,r4,r5,facts_of c2 b2 d2⟩
theorem left0:LeftO pw qv looseN Xtm (fun _=>()) (fun _=>()) 7000:=left_of (M:=12+(1+(6800+2))) open0 size0 (fun w os=>by
 obtain⟨sT,r1,r4,r5,r6⟩:=end0 w os
 exact⟨sT.abs,chain rfl (pre0 w os) (blk0 w os) (segRun_of r1) (fin0 w),r4,r5,r6⟩) (by decide)
end
section
set_option maxRecDepth 100000
set_option maxHeartbeats 8000000
theorem XPm.keeps(mg:Str→Option Value)(h h':Heap)(x:XPm mg h)(k:∀b o,h.get? b=some o→h'.get? b=some o):XPm mg h':=by
 obtain⟨⟨K,a,b⟩,o,c⟩:=x
 exact⟨⟨K,fun x y z=>k x y (a x y z),b⟩,o,k _ _ c⟩
open Classical in
theorem Xtm_ok(s:Shared)(e:Xtm s=true):XPm (s.heap.nsMap mainGlobals) s.heap:=by
 delta Xtm at e;exact of_decide_eq_true e
theorem hdef0:(defOf qv PySem.Challenge.rw_pq0303_01.row.name).isSome=true:=by kernel_rfl
noncomputable def dLaw:DefRec×List (Str×Expr):=(defOf qv PySem.Challenge.rw_pq0303_01.row.name).get hdef0
theorem hdef1:defOf qv PySem.Challenge.rw_pq0303_01.row.name=some (dLaw.1,dLaw.2):=(Option.some_get hdef0).symm
theorem joined(hc:WalkO qv looseN XPm (fun _ _=>True) PySem.Challenge.rw_pq0303_01.row.toRowW dLaw.1 dLaw.2 fun f vs=>PySem.call f vs):PySem.Challenge.rw_pq0303_01.Holds:=by
 refine holds_law said0 fun said=>?_
 refine PySem.W.holds_open (q:=qv) (loose:=looseN) (Xt:=Xtm) (XP:=XPm) (Yf:=fun _=>()) (Ya:=fun _=>()) (YP:=fun _ _=>True) (N:=7000) left0 (fun _ _ _=>trivial) (fun _ _ _ _ _=>trivial) Xtm_ok XPm.keeps hdef1 (by kernel_rfl) (by kernel_rfl) (fun s _=>recFacts_nil rfl) (by rfl) (by assumption) (by decide+kernel) ⟨rfl,rfl,rfl,rfl,rfl,by decide+kernel⟩ ?hw hc
 case hw=>exact⟨[.list [.int 3,.int 1]],by decide+kernel,by decide+kernel⟩
end
section
set_option maxRecDepth 100000
set_option maxHeartbeats 8000000
noncomputable def LawFn:Prop:=∀(w:World) (h0:Heap) (K:Frag),Top' K h0→LsOK K→fnTab.all (rowAt K)=true→seenL K=seenR K→∀is:List Int,is.length≤63→Fn w h0 100 982 [.scr is] (fun _=>none) (fun v _=>v=.bool true) (fun _=>False)
theorem ints_are:∀{vs:List Value} {is:List Int},IntsAre vs is→vs.length=is.length∧∀(i:Nat) (v:Value) (j:Int),vs[i]? =some v→is[i]? =some j→∃t,v=.int j t
 |_,_,.nil=>⟨rfl,fun i v j h=>by simp at h⟩
 |_,_,.cons n t r=>by
  obtain⟨a,b⟩:=ints_are r
  refine⟨by simp[a],fun i v j h1 h2=>?_⟩
  cases i with
  |zero=>simp at h1 h2;subst h1;subst h2;exact⟨t,rfl⟩
  |succ i=>exact b i v j (by simpa using h1) (by simpa using h2)
theorem no_foot(h:foot (fun _=>none) b):False:=by
 rcases h with⟨o,q⟩|⟨a,C,fs,q⟩
 ·exact nomatch q
 ·exact nomatch q
theorem start_rep(w:World)(h:Heap):HRep w h (fun _=>False) (fun _=>none) h where
 keep:=fun _ _ e=>e
 fresh:=fun b hb=>(no_foot hb).elim
 notZ:=fun b hb=>(no_foot hb).elim
 inH:=fun b hb=>hb.elim
 zf:=fun b hb=>hb.elim
 obj:=fun a o e=>nomatch e
 apart:=fun a C dx fs e=>nomatch e
theorem post_ok(as:List WData):PySem.Challenge.rw_pq0303_01.row.claim.post as (.bool true) as=true:=by kernel_rfl
theorem law_name:dLaw.1.name=Str.ofString "law":=by kernel_rfl
theorem walk0(hlaw:LawFn):WalkO qv looseN XPm (fun _ _=>True) PySem.Challenge.rw_pq0303_01.row.toRowW dLaw.1 dLaw.2 fun f vs=>PySem.call f vs:=by
 intro w s₀ s₁ mg mb G Y fa o pm cd doc dV kV ho hd hcd hD hmg hg args vals as hpre hlay hrd hwl hlo
 clear Y
 have X:=Ground.X G
 have T:=G.T
 wrow_args hpre hlay hrd hwl hlo
 rename_i is a1 a2 a3 a4 a5 as1 as2 l vs as3 hL ra w1 r0 hI hr hc1 hc2
 obtain⟨⟨K,hK,hA,hE⟩,hS⟩:=X
 obtain⟨k1,k2⟩:=and2 hA
 obtain⟨k1,k3⟩:=and2 k1
 obtain⟨k3,k4⟩:=and2 k3
 have e1:mg (Str.ofString "law")=some (.ref 982):=mg_of hK T.g (eq_of_beq k4)
 rw[law_name,e1] at hmg
 obtain rfl:982=fa:=by cases hmg;rfl
 have GT:Top' K s₁.heap:=⟨hK,kokAt_ok k1,⟨_,_,_,_,topRead_of T⟩,hS⟩
 obtain⟨i1,i2⟩:=ints_are hI
 have hlen:is.length≤63:=by omega
 have F:=hlaw w s₁.heap K GT (lsOK_of k3 hE) k2 hE is hlen
 refine wpAny_mono (F.wp (A:=callerA) (Z:=fun _=>False) (s:=s₁) (vs:=[.ref l]) (E:=fun _ _=>False) ⟨rfl,by decide,by decide,[],rfl,fun env he=>nomatch he⟩ (start_rep w s₁.heap) hg (.cons (.scr ⟨no_foot,id⟩ hL i1 i2) .nil) (fun a s' H' g st ex x=>x)) (fun v s' ⟨x,H',rv,st,q⟩=>?_) fun _ _ e=>e.elim
 subst q
 cases rv.bool_iff
 refine GoodW.toG ⟨.inl ⟨_,.bool true,[],rfl,fun cls=>rfl,.bool true,?_,fun _=>⟨List.nodup_nil,fun a ha=>nomatch ha⟩⟩,fun b o e=>st.keep b o e no_foot id,st.os,st.gens.trans hg⟩
 exact post_ok _
theorem holds_of(hlaw:LawFn):PySem.Challenge.rw_pq0303_01.Holds:=joined (walk0 hlaw)
end
end Mine
theorem Mine.law_all:Mine.LawFn:=fun w h0 K G LS F E is h=>Mine.bc fun hn=>
 let⟨t,is',h',hn'⟩:=Classical.epsilon_spec_aux Mine.some_w Mine.Bad ⟨(w,h0,K),⟨G,LS,F,E⟩,is,h,hn⟩
 hn' (by have q:=Mine.law_fn (t:=(by delta Mine.K Mine.h0;exact t)) h';unfold Mine.w Mine.h0 at q;exact q)
theorem PySem.Challenge.cw_pq0303_01_holds : PySem.Challenge.rw_pq0303_01.Holds :=
 Mine.holds_of Mine.law_all
