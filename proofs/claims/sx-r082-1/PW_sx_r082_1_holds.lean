import PyProof.Rows.All
import PyProof.DictStraight
import PyProof.DictIter
import PyProof.Rows.Tup
import PyProof.P3Eq
import PyProof.NeData
import PyProof.CodeObjX
import PyProof.Calls
import PyProof.CallType
import PyProof.Cells
import PyProof.Rules3
import PyProof.TupleIter
import PyProof.RaisesMany
import PyProof.PureInt
import PyProof.StrOps
import PyProof.P3In
import PyProof.IsRules
import PyProof.Rows.RuleC_bool
import PyProof.Rows.StrTemp
import PyProof.Rows.TupSub
import PyProof.Rows.RuleB_mod
import PyProof.ListIndex
import PyProof.AutoListH
import PyProof.SeqRoads
import PyProof.Rows.SeqMore
import PyProof.Rows.ListMul
import PyProof.Rows.RuleB_mul
import PyProof.SliceSyntax
import PyProof.SliceMore
import PyProof.DictCalls
import PyProof.TupleOps
import PyProof.FactsAll.tuple_1
import PyProof.TypeOfCall
import PyProof.SeqI
import PyProof.ForRange
import PyProof.CallRoads
import PyProof.FactsAll.dict_0
import PyProof.FactsAll.dict_3
import PyProof.Rows.Nodes
import PyProof.Rows.GenRows
import PyProof.CompFree
import PyProof.WalksMore
import PyProof.RulesMatch
import OpenK.KCall
import PyProof.LongRange
import PyProof.RangeFor
import PyProof.DictWalks
import PyProof.ForAny
import PyProof.FactsAll.list_0
import PyProof.FactsAll.list_3
import PyProof.AttrMissHeap
import KE.KDictOf
import PyProof.Draws
import PyProof.EnumMake
import KE.KSortTup
import KE.KItemsList
import PyProof.Rows.SortKeyStr
import PyProof.Rows.StrInSeq
import PyProof.Rows.ListCopyD
import PyProof.DictItemsLoops
import PyProof.ZipIter
import PyProof.GenCompT
import PyProof.ConsumeS
import PyProof.WalksPairs
import Wide.All
import OpenK.AllK
import Wide.FinOn
import PySem.Challenge.RW_sx_r082_1
set_option maxRecDepth 100000
set_option autoImplicit false
set_option linter.all false
set_option Elab.async false
section
namespace Mine

set_option genSizeOfSpec false
open PySem
theorem noS {α:Type} {a:α} {P:Prop} (h:none = some a) : P := nomatch h
theorem noB {P:Prop} (h:false = true) : P := nomatch h
inductive V where
  | none
  | bool (b:Bool)
  | int (i:Int)
  | str (s:List Nat)
  | tup (xs:List V)
  | lst (xs:List V)
  | sd (kvs:List (List Nat × V))
  | ed (xs:List V)
  | ref (a:Nat)
  | atom (v:Value)
  deriving Inhabited
set_option genInjectivity false
inductive BOp where | add | sub | mul | mod
  deriving DecidableEq
inductive COp where | eq | ne | lt | le | gt | ge | is_ | isnot | in_ | notin
  deriving DecidableEq
inductive Pr where
  | len | dict | dictE | list | listItems | listZip | sortedItems | type | allInt | strList
  deriving DecidableEq
inductive Src where
  | seq | range1 | range2 | enum | zip
  deriving DecidableEq
inductive CE where
  | lit (v:V)
  | var (i:Nat)
  | gl (i:Nat)
  | nil
  | cons (e es:CE)
  | tup (es:CE)
  | lst (es:CE)
  | idx (e i:CE)
  | sl (e lo hi:CE)
  | rev (e:CE)
  | bin (op:BOp) (a b:CE)
  | cmp (op:COp) (a b:CE)
  | not (a:CE)
  | neg (a:CE)
  | and (a b:CE)
  | or (a b:CE)
  | ite (c a b:CE)
  | call (f:Nat) (es:CE)
  | prim (p:Pr) (es:CE)
  | get (d k x:CE)
  | comp (n0 cnt:Nat) (src:Src) (it:CE) (tg:List Nat) (elt:CE)
  | comp2 (n0 cnt:Nat) (src:Src) (it:CE) (tg:List Nat) (src2:Src) (it2:CE) (tg2:List Nat) (elt:CE)
inductive CS where
  | nil
  | asg (i:Nat) (e:CE) (k:CS)
  | unp (is:List Nat) (e:CE) (k:CS)
  | newL (i:Nat) (e:CE) (k:CS)
  | newD (i:Nat) (k:CS)
  | newLL (i:Nat) (k:CS)
  | asgC (i:Nat) (f:Nat) (es:CE) (k:CS)
  | unpC (is:List Nat) (f:Nat) (es:CE) (k:CS)
  | app (o x:CE) (k:CS)
  | sto (o i v:CE) (k:CS)
  | iff (c:CE) (a b:CS) (k:CS)
  | whl (c:CE) (b:CS) (k:CS)
  | for_ (src:Src) (it:CE) (tg:List Nat) (b:CS) (k:CS)
  | ret (e:CE)
  | brk
structure Cx where
  scope : Scope
  sc : List (Str × Nat)
  nx : Nat
  fns : List Str
  gls : List Str
  mu : List Nat
  eff : List Nat
  gen : Bool := false
noncomputable def nm (s:String) : Str := Str.ofString s
noncomputable def okName (x:Str) : Bool := !(x == nm "__debug__") && !(x == nm "__classdict__") && !(x == nm ".0")
noncomputable def isLocal (c:Cx) (x:Str) : Option Nat :=
  if okName x then
    match c.scope.names.lookup x with
    | some .local => c.sc.lookup x
    | some .cell => c.sc.lookup x
    | some .free => c.sc.lookup x
    | _ => none
  else none
noncomputable def isGlob (c:Cx) (x:Str) : Bool := okName x && c.scope.names.lookup x == some .globalImplicit
noncomputable def idxIn (l:List Str) (x:Str) : Option Nat := l.findIdx? (· == x)
noncomputable def cConst : Const → Option V
  | .none => some .none
  | .bool b => some (.bool b)
  | .int i => some (.int i)
  | .str s => some (.str s.cps.toList)
  | _ => none
noncomputable def cBin : Operator → Option BOp
  | .Add => some .add | .Sub => some .sub | .Mult => some .mul | .Mod => some .mod | _ => none
noncomputable def cCmp : CmpOp → COp
  | .Eq => .eq | .NotEq => .ne | .Lt => .lt | .LtE => .le | .Gt => .gt | .GtE => .ge | .Is => .is_ | .IsNot => .isnot | .In => .in_ | .NotIn => .notin
noncomputable def nameOf : Expr → Option Str
  | .Name x _ => some x
  | _ => none
noncomputable def pairOfE : List Expr → Option (Expr × Expr)
  | [a,b] => some (a,b)
  | _ => none
noncomputable def cTgt2 (c:Cx) (es:List Expr) : Option (List Nat) :=
  (pairOfE es).bind fun p => (nameOf p.1).bind fun x => (nameOf p.2).bind fun y => (isLocal c x).bind fun i => (isLocal c y).map fun j => [i,j]
noncomputable def cTgt (c:Cx) : Expr → Option (List Nat)
  | .Name x _ => (isLocal c x).map ([·])
  | .Tuple es _ _ => cTgt2 c es
  | _ => none
noncomputable def compLocals : List (Str × NameKind) → Nat → List (Str × Nat)
  | [],_ => []
  | (x,.local) :: r,n => if x == (".0" : Str) then compLocals r n else (x,n) :: compLocals r (n + 1)
  | _ :: r,n => compLocals r n
noncomputable def cIn (c:Cx) (scope:Scope) : Cx :=
  let ls := compLocals scope.names c.nx
  { c with scope,sc := ls ++ c.sc,nx := c.nx + ls.length,gen := false }
noncomputable def compOk (c:Cx) (scope:Scope) : Bool :=
  scope.kind == .function && scope.names.all fun (x,k) => scope.names.lookup x == some k && match k with
    | .local => true
    | .free => c.scope.names.lookup x == some .cell || c.scope.names.lookup x == some .free
    | .globalImplicit => true
    | _ => false
noncomputable def notSet : Expr → Bool
  | .Set _ _ _ => false
  | _ => true
noncomputable def nullary : Expr → Bool
  | .Call _ es _ _ => es.isEmpty
  | _ => false
noncomputable def slotsOf : List (Str × NameKind) → Nat → List (Str × Nat)
  | [],_ => []
  | (x,.local) :: r,n => (x,n) :: slotsOf r (n + 1)
  | (x,.cell) :: r,n => (x,n) :: slotsOf r (n + 1)
  | _ :: r,n => slotsOf r n
noncomputable def cxOf (scope:Scope) (fns gls:List Str) (mu eff:List Nat) : Cx :=
  let sl := slotsOf scope.names 0
  { scope,sc := sl,nx := sl.length,fns,gls,mu,eff }
end Mine
end
section
namespace Mine
open PySem PySem.Calls PyProof.Rows
section
noncomputable abbrev View := Addr → Option Obj
noncomputable abbrev sq (T:String) (vs:Array Value) (n:Nat) : Obj := { cls := .type T,dict := none,data := .seq vs n,slots := #[] }
mutual
inductive RepV (prog:Program) (w:World) (G:View) : Value → V → Prop
  | none : RepV prog w G .none .none
  | bool (b:Bool) : RepV prog w G (.bool b) (.bool b)
  | int (i:Int) (t:Tok) : RepV prog w G (.int i t) (.int i)
  | str {x:Str} {t:Tok} {s:List Nat} : x.cps.toList = s → RepV prog w G (.str x t) (.str s)
  | tup {a:Addr} {vs:Array Value} {n:Nat} {ds:List V} : G a = some (sq "tuple" vs n) → vs.size ≤ sizeLine → RepL prog w G vs.toList ds → RepV prog w G (.ref a) (.tup ds)
  | lst {a:Addr} {vs:Array Value} {n:Nat} {ds:List V} : G a = some (sq "list" vs n) → vs.size ≤ sizeLine → RepL prog w G vs.toList ds → RepV prog w G (.ref a) (.lst ds)
  | sd {a:Addr} {o:Obj} {kvs:List (Str × Value)} {ds:List (List Nat × V)} : G a = some o → o.IsDictOf (PySem.strKind prog w) kvs → (a == sysModules) = false → kvs.map (·.1.cps.toList) = ds.map (·.1) → RepL prog w G (kvs.map (·.2)) (ds.map (·.2)) → RepV prog w G (.ref a) (.sd ds)
  | ed {a:Addr} {o:Obj} {kvs:List (Int × Value)} {ds:List V} : G a = some o → o.IsDictOf (PySem.intKind prog w) kvs → (a == sysModules) = false → kvs.map (·.1) = (List.range ds.length).map Int.ofNat → RepL prog w G (kvs.map (·.2)) ds → RepV prog w G (.ref a) (.ed ds)
  | ref (a:Addr) : RepV prog w G (.ref a) (.ref a)
  | atom (v:Value) : RepV prog w G v (.atom v)
inductive RepL (prog:Program) (w:World) (G:View) : List Value → List V → Prop
  | nil : RepL prog w G [] []
  | cons {v:Value} {vs:List Value} {d:V} {ds:List V} : RepV prog w G v d → RepL prog w G vs ds → RepL prog w G (v :: vs) (d :: ds)
end
noncomputable def VLe (G G':View) : Prop := ∀ a o,G a = some o → G' a = some o
theorem VLe.refl (G:View) : VLe G G := fun _ _ h => h
theorem VLe.trans {G₁ G₂ G₃:View} (h:VLe G₁ G₂) (k:VLe G₂ G₃) : VLe G₁ G₃ := fun a o e => k a o (h a o e)
section
variable {prog:Program} {w:World} {G G':View}
theorem RepV.mono (hs:VLe G G') {v:Value} {d:V} (h:RepV prog w G v d) : RepV prog w G' v d :=
  RepV.rec (motive_1 := fun v d _ => RepV prog w G' v d) (motive_2 := fun vs ds _ => RepL prog w G' vs ds) .none .bool .int .str (fun h1 h4 _ i => .tup (hs _ _ h1) h4 i) (fun h1 h4 _ i => .lst (hs _ _ h1) h4 i)
    (fun h1 h2 h3 h4 _ i => .sd (hs _ _ h1) h2 h3 h4 i) (fun h1 h2 h3 h4 _ i => .ed (hs _ _ h1) h2 h3 h4 i) .ref .atom .nil (fun _ _ i j => .cons i j) h
noncomputable def RepI (prog:Program) (w:World) (G:View) (v:Value) : V → Prop
  | .none => v = .none
  | .bool b => v = .bool b
  | .int i => ∃ t,v = .int i t
  | .str s => ∃ x t,v = .str x t ∧ x.cps.toList = s
  | .tup ds => ∃ a vs n,v = .ref a ∧ G a = some (sq "tuple" vs n) ∧ vs.size ≤ sizeLine ∧ RepL prog w G vs.toList ds
  | .lst ds => ∃ a vs n,v = .ref a ∧ G a = some (sq "list" vs n) ∧ vs.size ≤ sizeLine ∧ RepL prog w G vs.toList ds
  | .sd ds => ∃ a o kvs,v = .ref a ∧ G a = some o ∧ o.IsDictOf (PySem.strKind prog w) kvs ∧ (a == sysModules) = false ∧ kvs.map (·.1.cps.toList) = ds.map (·.1) ∧ RepL prog w G (kvs.map (·.2)) (ds.map (·.2))
  | .ed ds => ∃ a o kvs,v = .ref a ∧ G a = some o ∧ o.IsDictOf (PySem.intKind prog w) kvs ∧ (a == sysModules) = false ∧ kvs.map (·.1) = (List.range ds.length).map Int.ofNat ∧ RepL prog w G (kvs.map (·.2)) ds
  | .ref a => v = .ref a
  | .atom u => v = u
theorem RepV.inv {v:Value} {d:V} (h:RepV prog w G v d) : RepI prog w G v d := by
  cases h with
  | none => exact rfl
  | bool b => exact rfl
  | int i t => exact ⟨t,rfl⟩
  | str e => exact ⟨_,_,rfl,e⟩
  | tup h1 h2 h3 => exact ⟨_,_,_,rfl,h1,h2,h3⟩
  | lst h1 h2 h3 => exact ⟨_,_,_,rfl,h1,h2,h3⟩
  | sd h1 h2 h3 h4 h5 => exact ⟨_,_,_,rfl,h1,h2,h3,h4,h5⟩
  | ed h1 h2 h3 h4 h5 => exact ⟨_,_,_,rfl,h1,h2,h3,h4,h5⟩
  | ref a => exact rfl
  | atom u => exact rfl
theorem RepL.ind (P:List Value → List V → Prop) (nil:P [] []) (cons:∀ v vs d ds,RepV prog w G v d → RepL prog w G vs ds → P vs ds → P (v :: vs) (d :: ds)) {vs:List Value} {ds:List V} (h:RepL prog w G vs ds) : P vs ds :=
  RepL.rec (motive_1 := fun _ _ _ => True) (motive_2 := fun vs ds _ => P vs ds) .intro (fun _ => .intro) (fun _ _ => .intro) (fun _ => .intro) (fun _ _ _ _ => .intro) (fun _ _ _ _ => .intro) (fun _ _ _ _ _ _ => .intro) (fun _ _ _ _ _ _ => .intro) (fun _ => .intro) (fun _ => .intro) nil (fun a b _ i => cons _ _ _ _ a b i) h
theorem RepL.mono (hs:VLe G G') {vs:List Value} {ds:List V} (h:RepL prog w G vs ds) : RepL prog w G' vs ds :=
  RepL.ind (fun vs ds => RepL prog w G' vs ds) .nil (fun _ _ _ _ a _ i => .cons (a.mono hs) i) h
theorem RepL.inv {vs:List Value} {d:V} {ds:List V} (h:RepL prog w G vs (d :: ds)) : ∃ v us,vs = v :: us ∧ RepV prog w G v d ∧ RepL prog w G us ds :=
  RepL.ind (fun vs es => ∀ d ds,es = d :: ds → ∃ v us,vs = v :: us ∧ RepV prog w G v d ∧ RepL prog w G us ds) (fun _ _ e => nomatch e) (fun v us _ _ a b _ _ _ e => by injection e with e1 e2; subst e1 e2; exact ⟨v,us,rfl,a,b⟩) h d ds rfl
theorem RepL.nilV {vs:List Value} (h:RepL prog w G vs []) : vs = [] :=
  RepL.ind (fun vs es => es = [] → vs = []) (fun _ => rfl) (fun _ _ _ _ _ _ _ e => nomatch e) h rfl
theorem RepL.invV {v:Value} {vs:List Value} {es:List V} (h:RepL prog w G (v :: vs) es) : ∃ d ds,es = d :: ds ∧ RepV prog w G v d ∧ RepL prog w G vs ds :=
  RepL.ind (fun us es => ∀ v vs,us = v :: vs → ∃ d ds,es = d :: ds ∧ RepV prog w G v d ∧ RepL prog w G vs ds) (fun _ _ e => nomatch e) (fun _ _ d ds a b _ _ _ e => by injection e with e1 e2; subst e1 e2; exact ⟨d,ds,rfl,a,b⟩) h v vs rfl
theorem RepL.inv1 {vs:List Value} {d:V} (h:RepL prog w G vs [d]) : ∃ v,vs = [v] ∧ RepV prog w G v d := by
  obtain ⟨v,us,e,a,b⟩ := h.inv
  exact ⟨v,by rw [e,b.nilV],a⟩
theorem RepL.inv2 {vs:List Value} {d e:V} (h:RepL prog w G vs [d,e]) : ∃ v u,vs = [v,u] ∧ RepV prog w G v d ∧ RepV prog w G u e := by
  obtain ⟨v,us,e,a,b⟩ := h.inv
  obtain ⟨u,e',b⟩ := b.inv1
  exact ⟨v,u,by rw [e,e'],a,b⟩
theorem RepL.length {vs:List Value} {ds:List V} (h:RepL prog w G vs ds) : vs.length = ds.length :=
  RepL.ind (fun vs ds => vs.length = ds.length) rfl (fun _ _ _ _ _ _ i => congrArg (· + 1) i) h
theorem RepL.size {vs:Array Value} {ds:List V} (h:RepL prog w G vs.toList ds) : vs.size = ds.length := (Array.length_toList (xs := vs)).symm.trans h.length
theorem RepL.append {vs us:List Value} {ds es:List V} (h:RepL prog w G vs ds) (k:RepL prog w G us es) : RepL prog w G (vs ++ us) (ds ++ es) :=
  RepL.ind (fun vs ds => RepL prog w G (vs ++ us) (ds ++ es)) k (fun _ _ _ _ a _ i => .cons a i) h
theorem RepL.get {vs:List Value} {ds:List V} (h:RepL prog w G vs ds) {k:Nat} {d:V} (hk:ds[k]? = some d) : ∃ v,vs[k]? = some v ∧ RepV prog w G v d :=
  RepL.ind (fun vs ds => ∀ k,ds[k]? = some d → ∃ v,vs[k]? = some v ∧ RepV prog w G v d) (fun _ e => by rw [List.getElem?_nil] at e; cases e) (fun v _ _ _ a _ i k => k.casesOn (fun e => ⟨v,rfl,Option.some.inj e ▸ a⟩) fun k e => i k e) h k hk
theorem RepL.getV {vs:List Value} {ds:List V} (h:RepL prog w G vs ds) {k:Nat} {v:Value} (hk:vs[k]? = some v) : ∃ d,ds[k]? = some d ∧ RepV prog w G v d :=
  RepL.ind (fun vs ds => ∀ k,vs[k]? = some v → ∃ d,ds[k]? = some d ∧ RepV prog w G v d) (fun _ e => by rw [List.getElem?_nil] at e; cases e) (fun _ _ d _ a _ i k => k.casesOn (fun e => ⟨d,rfl,Option.some.inj e ▸ a⟩) fun k e => i k e) h k hk
theorem RepL.drop {vs:List Value} {ds:List V} (h:RepL prog w G vs ds) (k:Nat) : RepL prog w G (vs.drop k) (ds.drop k) :=
  RepL.ind (fun vs ds => ∀ k,RepL prog w G (vs.drop k) (ds.drop k)) (fun k => k.casesOn .nil fun _ => .nil) (fun _ _ _ _ a b i k => k.casesOn (.cons a b) i) h k
theorem RepL.take {vs:List Value} {ds:List V} (h:RepL prog w G vs ds) (k:Nat) : RepL prog w G (vs.take k) (ds.take k) :=
  RepL.ind (fun vs ds => ∀ k,RepL prog w G (vs.take k) (ds.take k)) (fun k => k.casesOn .nil fun _ => .nil) (fun _ _ _ _ a _ i k => k.casesOn .nil fun k => .cons a (i k)) h k
theorem RepL.reverse {vs:List Value} {ds:List V} (h:RepL prog w G vs ds) : RepL prog w G vs.reverse ds.reverse :=
  RepL.ind (fun vs ds => RepL prog w G vs.reverse ds.reverse) .nil (fun _ _ _ _ a _ i => by rw [List.reverse_cons,List.reverse_cons]; exact i.append (.cons a .nil)) h
theorem RepL.set {vs:List Value} {ds:List V} {v:Value} {d:V} (h:RepL prog w G vs ds) (hv:RepV prog w G v d) (k:Nat) : RepL prog w G (vs.set k v) (ds.set k d) :=
  RepL.ind (fun vs ds => ∀ k,RepL prog w G (vs.set k v) (ds.set k d)) (fun _ => .nil) (fun _ _ _ _ a b i k => k.casesOn (.cons hv b) fun k => .cons a (i k)) h k
theorem RepL.one {v:Value} {d:V} (h:RepV prog w G v d) : RepL prog w G [v] [d] := .cons h .nil
end
inductive MO where
  | l (xs:List V)
  | d (kvs:List (List Nat × V))
  | tab (c p:Addr)
noncomputable abbrev Store := List (Addr × MO)
noncomputable def RepM (prog:Program) (w:World) (G:View) (o:Obj) : MO → Prop
  | .l xs => ∃ vs n,o = sq "list" vs n ∧ vs.size ≤ sizeLine ∧ RepL prog w G vs.toList xs
  | .d ds => ∃ kvs,o.IsDictOf (PySem.strKind prog w) kvs ∧ kvs.map (·.1.cps.toList) = ds.map (·.1) ∧ RepL prog w G (kvs.map (·.2)) (ds.map (·.2))
  | .tab c p => ∃ oc ps,G c = some oc ∧ ∀ h : Heap,h.get? c = some oc → h.get? p = some o → h.IsCode c p ps ∧ h.TableAt c p ps
theorem RepM.mono {prog:Program} {w:World} {G G':View} (hs:VLe G G') {o:Obj} {m:MO} (h:RepM prog w G o m) : RepM prog w G' o m := by
  cases m with
  | l xs => obtain ⟨vs,n,h3,h4,h5⟩ := h; exact ⟨vs,n,h3,h4,h5.mono hs⟩
  | d ds => obtain ⟨kvs,h1,h2,h3⟩ := h; exact ⟨kvs,h1,h2,h3.mono hs⟩
  | tab c p => obtain ⟨oc,ps,h1,h2⟩ := h; exact ⟨oc,ps,hs _ _ h1,h2⟩
structure StoreRep (prog:Program) (w:World) (G:View) (σ:Store) (h:Heap) : Prop where
  at_ : ∀ a m,(a,m) ∈ σ → G a = none ∧ ((a == sysModules) = false ∨ ∃ c p,m = .tab c p) ∧ ∃ o,h.get? a = some o ∧ RepM prog w G o m
  nodup : (σ.map (·.1)).Nodup
end
noncomputable abbrev Lc := List (Option V)
structure B0 where
  prog : Program
  w : World
  base : Heap
  mg : Str → Option Value
  mb : Str → Option Value
  fns : List Str
  gls : List Str
  gv : List V
  tc : Addr
noncomputable abbrev B0.M (B:B0) : Model := model B.prog B.w
noncomputable abbrev B0.R (B:B0) (G:View) : Value → V → Prop := RepV B.prog B.w G
noncomputable abbrev B0.RL (B:B0) (G:View) : List Value → List V → Prop := RepL B.prog B.w G
noncomputable def Bud (k:Nat) (A:Around) : Prop := A.depth + k ≤ 999 ∧ A.units + 8 * k + 5000 ≤ 9900 ∧ A.handled = none
structure Step (G G':View) (s s':Shared) : Prop where
  le : VLe G G'
  new : ∀ a o,G' a = some o → G a = some o ∨ s.heap.get? a = none
  alive : ∀ a o,s.heap.get? a = some o → ∃ o',s'.heap.get? a = some o'
  os : s'.os = s.os
  gens : leftWithCleanup s.gens = false → leftWithCleanup s'.gens = false
theorem Step.refl (G:View) (s:Shared) : Step G G s s := ⟨VLe.refl G,fun _ _ h => .inl h,fun _ o h => ⟨o,h⟩,rfl,id⟩
theorem Step.trans {G G₁ G₂:View} {s s₁ s₂:Shared} (a:Step G G₁ s s₁) (b:Step G₁ G₂ s₁ s₂) : Step G G₂ s s₂ :=
  ⟨a.le.trans b.le,fun x o h => (b.new x o h).elim (a.new x o) fun q => .inr (by
    cases e : s.heap.get? x with
    | none => rfl
    | some o' => obtain ⟨o₁,h₁⟩ := a.alive x o' e; rw [q] at h₁; cases h₁),fun x o h => by obtain ⟨o₁,h₁⟩ := a.alive x o h; exact b.alive x o₁ h₁,b.os.trans a.os,fun h => b.gens (a.gens h)⟩
structure Rel (B:B0) (Kp:Heap) (σ:Store) (G:View) (s:Shared) : Prop where
  bas : VLe B.base.get? G
  gin : ∀ a o,G a = some o → s.heap.get? a = some o
  kin : Kp.StaysIn s.heap
  sto : StoreRep B.prog B.w G σ s.heap
  hid : ∀ a m,(a,m) ∈ σ → Kp.get? a = none
theorem Rel.toks {B:B0} {Kp:Heap} {σ:Store} {G:View} {s s':Shared} (r:Rel B Kp σ G s) (e:s'.heap = s.heap) : Rel B Kp σ G s' :=
  ⟨r.bas,fun a o h => by rw [e]; exact r.gin a o h,fun a o h => by rw [e]; exact r.kin a o h,by rw [e]; exact r.sto,r.hid⟩
theorem Step.toks (G:View) {s s':Shared} (e:s'.heap = s.heap) (eo:s'.os = s.os) (eg:s'.gens = s.gens) : Step G G s s' :=
  ⟨VLe.refl G,fun _ _ h => .inl h,fun a o h => ⟨o,by rw [e]; exact h⟩,eo,by rw [eg]; exact id⟩
noncomputable def View.add (G:View) (n:Addr) (o:Obj) : View := fun a => if a = n then some o else G a
section
variable {B:B0} {Kp:Heap} {σ:Store} {G:View} {s:Shared}
theorem Rel.none_size (r:Rel B Kp σ G s) : G s.heap.objs.size = none := by
  cases h : G s.heap.objs.size with
  | none => rfl
  | some o => exact absurd (Heap.lt_size (r.gin _ _ h)) (Nat.lt_irrefl _)
theorem VLe.add {n:Addr} (h:G n = none) (o:Obj) : VLe G (G.add n o) := fun a o' e => by
  unfold View.add
  split
  · rename_i q; subst q; rw [h] at e; cases e
  · exact e
theorem Rel.push (r:Rel B Kp σ G s) (o:Obj) (hf:o.isFreed = false) : Rel B Kp σ (G.add s.heap.objs.size o) { s with heap := s.heap.push o } := by
  have hn := r.none_size
  refine ⟨r.bas.trans (VLe.add hn o),fun a o' e => ?_,fun a o' e => Heap.get?_push_of_some o (r.kin a o' e),⟨fun a m hm => ?_,r.sto.nodup⟩,r.hid⟩
  · unfold View.add at e
    split at e
    · rename_i q; subst q; cases e; exact Heap.get?_push_size _ hf
    · exact Heap.get?_push_of_some o (r.gin a o' e)
  · obtain ⟨h1,h2,o',h3,h4⟩ := r.sto.at_ a m hm
    refine ⟨?_,h2,o',Heap.get?_push_of_some o h3,h4.mono (VLe.add hn o)⟩
    unfold View.add
    rw [if_neg (Nat.ne_of_lt (Heap.lt_size h3))]
    exact h1
theorem heap_size_push (h:Heap) (o:Obj) : (h.push o).objs.size = h.objs.size + 1 := by
  obtain ⟨a,l⟩ := h
  show (a.push o).size = _
  simp
theorem heap_none (h:Heap) : h.get? h.objs.size = none := by
  cases e : h.get? h.objs.size with
  | none => rfl
  | some o => exact absurd (Heap.lt_size e) (Nat.lt_irrefl _)
theorem Step.push (r:Rel B Kp σ G s) (o:Obj) : Step G (G.add s.heap.objs.size o) s { s with heap := s.heap.push o } :=
  ⟨VLe.add r.none_size o,fun a o' e => by
    unfold View.add at e
    split at e
    · rename_i q; subst q; exact .inr (heap_none _)
    · exact .inl e,fun a o' h => ⟨o',Heap.get?_push_of_some o h⟩,rfl,id⟩
theorem View.add_self (G:View) (n:Addr) (o:Obj) : G.add n o n = some o := by unfold View.add; rw [if_pos rfl]
theorem Rel.keeps (r:Rel B Kp σ G s) : ∀ b o,B.base.get? b = some o → s.heap.get? b = some o := fun b o h => r.gin b o (r.bas b o h)
end
inductive Res (B:B0) (Kp:Heap) (σ:Store) (Q:V → Prop) (G:View) (s:Shared) (v:Value) (s':Shared) : Prop
  | mk (G':View) (d:V) : Step G G' s s' → Rel B Kp σ G' s' → B.R G' v d → Q d → Res B Kp σ Q G s v s'
theorem Res.step {B:B0} {Kp:Heap} {σ:Store} {Q:V → Prop} {G G₁:View} {s s₁ s':Shared} {v:Value} (st:Step G G₁ s s₁) (h:Res B Kp σ Q G₁ s₁ v s') : Res B Kp σ Q G s v s' := by
  obtain ⟨G',d,a,b,e,q⟩ := h
  exact ⟨G',d,st.trans a,b,e,q⟩
theorem Res.here {B:B0} {Kp:Heap} {σ:Store} {Q:V → Prop} {G:View} {s s':Shared} {v:Value} {d:V} (r:Rel B Kp σ G s) (e:s'.heap = s.heap) (eo:s'.os = s.os) (eg:s'.gens = s.gens) (hv:B.R G v d) (q:Q d) : Res B Kp σ Q G s v s' :=
  ⟨G,d,Step.toks G e eo eg,r.toks e,hv,q⟩
theorem Res.push {B:B0} {Kp:Heap} {σ:Store} {Q:V → Prop} {G:View} {s:Shared} {v:Value} {d:V} {o:Obj} (r:Rel B Kp σ G s) (hf:o.isFreed = false) (hv:B.R (G.add s.heap.objs.size o) v d) (q:Q d) :
    Res B Kp σ Q G s v { s with heap := s.heap.push o } :=
  ⟨_,d,Step.push r o,r.push o hf,hv,q⟩
noncomputable def SlotOK (B:B0) (env:Env) (Kp:Heap) (G:View) (x:Str) (d:V) : Prop :=
  ∃ v,B.R G v d ∧ ((env.kindOf x = some .local ∧ ∃ m,Kp.Ns env.locals m ∧ m x = some v) ∨
    ((env.kindOf x = some .cell ∨ env.kindOf x = some .free) ∧ ∃ c,env.cells.lookup x = some c ∧ Kp.IsCell c (some v)))
structure FRx (B:B0) (c:Cx) (env:Env) (L:Lc) (G:View) (Kp:Heap) : Prop where
  kind : env.scope.kind = .function
  wf : ∀ x i,c.sc.lookup x = some i → i < c.nx
  glob : env.globals = mainGlobals
  blt : env.builtins = builtinsNs
  kinds : ∀ x,c.scope.names.lookup x = some .globalImplicit → env.kindOf x = some .globalImplicit
  cel : ∀ x,(c.scope.names.lookup x = some .cell ∨ c.scope.names.lookup x = some .free) → (env.kindOf x = some .cell ∨ env.kindOf x = some .free) ∧ ∃ a,env.cells.lookup x = some a
  slot : ∀ x i d,isLocal c x = some i → L[i]? = some (some d) → SlotOK B env Kp G x d
  code : c.gen = true → env.code = .ref B.tc
theorem SlotOK.mono {B:B0} {env:Env} {Kp:Heap} {G G':View} {x:Str} {d:V} (h:SlotOK B env Kp G x d) (l:VLe G G') : SlotOK B env Kp G' x d := by
  obtain ⟨v,a,b⟩ := h
  exact ⟨v,a.mono l,b⟩
theorem FRx.mono {B:B0} {c:Cx} {env:Env} {L:Lc} {G G':View} {Kp:Heap} (h:FRx B c env L G Kp) (l:VLe G G') : FRx B c env L G' Kp :=
  ⟨h.kind,h.wf,h.glob,h.blt,h.kinds,h.cel,fun x i d a b => (h.slot x i d a b).mono l,h.code⟩
noncomputable def EVt (B:B0) (k:Nat) (c:Cx) (σ:Store) (L:Lc) (t:Env → Sem Value) (Q:V → Prop) : Prop :=
  ∀ A E s G Kp env,Bud k A → Rel B Kp σ G s → FRx B c env L G Kp → wpAny B.M A (t env) (Res B Kp σ Q G s) E s
noncomputable abbrev EV (B:B0) (k:Nat) (c:Cx) (σ:Store) (L:Lc) (e:Expr) (Q:V → Prop) : Prop := EVt B k c σ L (eval e) Q
inductive ResB (B:B0) (Kp:Heap) (σ:Store) (Q:Bool → Prop) (G:View) (s:Shared) (b:Bool) (s':Shared) : Prop
  | mk (G':View) : Step G G' s s' → Rel B Kp σ G' s' → Q b → ResB B Kp σ Q G s b s'
noncomputable def TV (B:B0) (k:Nat) (c:Cx) (σ:Store) (L:Lc) (e:Expr) (Q:Bool → Prop) : Prop :=
  ∀ A E s G Kp env,Bud k A → Rel B Kp σ G s → FRx B c env L G Kp → wpAny B.M A (isTrue e env (eval e env)) (ResB B Kp σ Q G s) E s
inductive ResL (B:B0) (Kp:Heap) (σ:Store) (Q:List V → Prop) (G:View) (s:Shared) (vs:List Value) (s':Shared) : Prop
  | mk (G':View) (ds:List V) : Step G G' s s' → Rel B Kp σ G' s' → B.RL G' vs ds → Q ds → ResL B Kp σ Q G s vs s'
noncomputable def EVs (B:B0) (k:Nat) (c:Cx) (σ:Store) (L:Lc) (es:List Expr) (Q:List V → Prop) : Prop :=
  ∀ A E s G Kp env pos,Bud k A → Rel B Kp σ G s → FRx B c env L G Kp → wpAny B.M A (spliced (backTo pos (starEach es env))) (ResL B Kp σ Q G s) E s
inductive ResM (B:B0) (Kp:Heap) (Q:V → Store → Prop) (G:View) (s:Shared) (v:Value) (s':Shared) : Prop
  | mk (G':View) (σ':Store) (d:V) : Step G G' s s' → Rel B Kp σ' G' s' → B.R G' v d → Q d σ' → ResM B Kp Q G s v s'
noncomputable def CallM (B:B0) (k:Nat) (f:Nat) (args:List V) (σ:Store) (Q:V → Store → Prop) : Prop :=
  ∀ A E s G Kp vals x fa,Bud k A → Rel B Kp σ G s → B.RL G vals args → B.fns[f]? = some x → B.mg x = some (.ref fa) →
    wpAny B.M A (call (.ref fa) vals) (ResM B Kp Q G s) E s
section
variable {B:B0} {Kp:Heap} {σ:Store} {A:Around} {E:Value → Shared → Prop} {s s₀:Shared} {G:View}
theorem Res.run {Q:V → Prop} {m:Sem Value} {R:Value → Shared → Prop} (h:wpAny B.M A m (Res B Kp σ Q G s) E s₀) (q:∀ v s' G' d,Step G G' s s' → Rel B Kp σ G' s' → B.R G' v d → Q d → R v s') : wpAny B.M A m R E s₀ :=
  wpAny_mono h (fun v s' x => x.casesOn (q v s')) fun _ _ e => e
theorem Res.andThen {Q Q':V → Prop} {G₁:View} {s₁:Shared} {m:Sem Value} (st:Step G G₁ s s₁) (h:wpAny B.M A m (Res B Kp σ Q G₁ s₁) E s₀) (q:∀ d,Q d → Q' d) : wpAny B.M A m (Res B Kp σ Q' G s) E s₀ :=
  Res.run h fun _ _ G' d a b c e => ⟨G',d,st.trans a,b,c,q d e⟩
theorem ResL.run {Q:List V → Prop} {m:Sem (List Value)} {R:List Value → Shared → Prop} (h:wpAny B.M A m (ResL B Kp σ Q G s) E s₀) (q:∀ v s' G' d,Step G G' s s' → Rel B Kp σ G' s' → B.RL G' v d → Q d → R v s') : wpAny B.M A m R E s₀ :=
  wpAny_mono h (fun v s' x => x.casesOn (q v s')) fun _ _ e => e
theorem ResB.run {Q:Bool → Prop} {m:Sem Bool} {R:Bool → Shared → Prop} (h:wpAny B.M A m (ResB B Kp σ Q G s) E s₀) (q:∀ v s' G',Step G G' s s' → Rel B Kp σ G' s' → Q v → R v s') : wpAny B.M A m R E s₀ :=
  wpAny_mono h (fun v s' x => x.casesOn (q v s')) fun _ _ e => e
theorem ResM.run {Q:V → Store → Prop} {m:Sem Value} {R:Value → Shared → Prop} (h:wpAny B.M A m (ResM B Kp Q G s) E s₀) (q:∀ v s' G' σ' d,Step G G' s s' → Rel B Kp σ' G' s' → B.R G' v d → Q d σ' → R v s') : wpAny B.M A m R E s₀ :=
  wpAny_mono h (fun v s' x => x.casesOn (q v s')) fun _ _ e => e
theorem Res.thenStep {Q:V → Prop} {G₁:View} {s₁:Shared} {m:Sem Value} (h:wpAny B.M A m (Res B Kp σ Q G₁ s₁) E s₀) (st:Step G G₁ s s₁) : wpAny B.M A m (Res B Kp σ Q G s) E s₀ :=
  wpAny_mono h (fun _ _ x => Res.step st x) fun _ _ e => e
end
noncomputable def CallP (B:B0) (k:Nat) (f:Nat) (args:List V) (σ:Store) (v:V) : Prop := CallM B k f args σ fun d σ' => d = v ∧ σ' = σ
mutual
noncomputable def V.data : V → PyData
  | .none => .none
  | .bool b => .bool b
  | .int i => .int i
  | .str s => .str ⟨s.toArray⟩
  | .tup xs => .tuple (dataL xs)
  | .lst xs => .list (dataL xs)
  | .sd _ => .none
  | .ed _ => .none
  | .ref _ => .none
  | .atom _ => .none
noncomputable def dataL : List V → List PyData
  | [] => []
  | x :: xs => x.data :: dataL xs
end
mutual
noncomputable def V.plain : V → Bool
  | .none => true
  | .bool _ => true
  | .int _ => true
  | .str s => s.all (· < 0x110000)
  | .tup xs => plainL xs
  | .lst xs => plainL xs
  | .sd _ => false
  | .ed _ => false
  | .ref _ => false
  | .atom _ => false
noncomputable def plainL : List V → Bool
  | [] => true
  | x :: xs => x.plain && plainL xs
end
noncomputable def V.depth (x:V) : Nat := x.data.depth
noncomputable def veq (x y:V) : Bool := PyData.eqv x.data y.data
mutual
theorem canLay_plain (x:V) (h:x.plain = true) : x.data.canLay0 = true := by
  cases x with
  | none => rfl
  | bool _ => rfl
  | int _ => rfl
  | str s => exact (show (s.toArray.all fun n => decide (n < 0x110000)) = true by rw [List.all_toArray]; exact h)
  | tup xs => exact canLay_plainL xs h
  | lst xs => exact canLay_plainL xs h
  | _ => exact noB h
theorem canLay_plainL (xs:List V) (h:plainL xs = true) : PyData.canLayAll0 (dataL xs) = true := by
  cases xs with
  | nil => rfl
  | cons x xs => exact Bool.and_eq_true_iff.mpr ⟨canLay_plain x (Bool.and_eq_true_iff.mp h).1,canLay_plainL xs (Bool.and_eq_true_iff.mp h).2⟩
end
section
variable {prog:Program} {w:World} {G:View} {h:Heap}
theorem str_of_list {x:Str} {s:List Nat} (e:x.cps.toList = s) : x = ⟨s.toArray⟩ := by
  obtain ⟨c⟩ := x
  subst e
  simp
theorem reads_of (hg:∀ a o,G a = some o → h.get? a = some o) {v:Value} {d:V} (hr:RepV prog w G v d) : d.plain = true → ∃ as,Reads h v d.data as :=
  RepV.rec (motive_1 := fun v d _ => d.plain = true → ∃ as,Reads h v d.data as) (motive_2 := fun vs ds _ => plainL ds = true → ∃ as,ReadsAll h vs (dataL ds) as)
    (fun _ => ⟨_,.none⟩) (fun b _ => ⟨_,.bool b⟩) (fun i t _ => ⟨_,.int i t⟩) (fun e _ => ⟨[],by rw [str_of_list e]; exact .str _ _⟩)
    (fun h1 _ _ i hp => (i hp).elim fun as r => ⟨as,.tuple (hg _ _ h1) rfl rfl r⟩) (fun h1 _ _ i hp => (i hp).elim fun as r => ⟨_,.list (hg _ _ h1) rfl rfl r⟩)
    (fun _ _ _ _ _ _ hp => noB hp) (fun _ _ _ _ _ _ hp => noB hp) (fun _ hp => noB hp) (fun _ hp => noB hp)
    (fun _ => ⟨_,.nil⟩) (fun _ _ i j hp => (i (Bool.and_eq_true_iff.mp hp).1).elim fun _ p => (j (Bool.and_eq_true_iff.mp hp).2).elim fun _ q => ⟨_,.cons p q⟩) hr
end
noncomputable def lookD (k:List Nat) (kvs:List (List Nat × V)) : Option V := kvs.lookup k
noncomputable def listOfV (σ:Store) : V → Option (List V)
  | .lst xs => some xs
  | .ref r => match σ.lookup r with
    | some (.l xs) => some xs
    | _ => none
  | _ => none
noncomputable def seqOfV (σ:Store) : V → Option (List V)
  | .tup xs => some xs
  | v => listOfV σ v
noncomputable def dictOfV (σ:Store) : V → Option (List (List Nat × V))
  | .sd kvs => some kvs
  | .ref r => match σ.lookup r with
    | some (.d kvs) => some kvs
    | _ => none
  | _ => none
noncomputable def eqW (neg:Bool) (x y:V) (Q:V → Prop) : Prop :=
  match x,y with
  | .int i,.int j => Q (.bool (if neg then i != j else i == j))
  | .str i,.str j => Q (.bool (if neg then i != j else i == j))
  | .bool i,.bool j => Q (.bool (if neg then i != j else i == j))
  | _,_ => x.plain = true ∧ y.plain = true ∧ (x.depth ≤ 4000 ∨ y.depth ≤ 4000) ∧ Q (.bool (if neg then !veq x y else veq x y))
noncomputable def isW (neg:Bool) (x y:V) (Q:V → Prop) : Prop :=
  match x,y with
  | .atom (.type a),.atom (.type b) => Q (.bool (if neg then a != b else a == b))
  | _,_ => False
noncomputable def inW (neg:Bool) (x y:V) (Q:V → Prop) : Prop :=
  match y with
  | .lst ys => x.plain = true ∧ plainL ys = true ∧ x.depth ≤ 4000 ∧ Q (.bool (if neg then !ys.any (fun z => veq z x) else ys.any (fun z => veq z x)))
  | _ => False
noncomputable def cmpW (op:COp) (x y:V) (Q:V → Prop) : Prop :=
  match op with
  | .eq => eqW false x y Q
  | .ne => eqW true x y Q
  | .lt => match x,y with | .int i,.int j => Q (.bool (decide (i < j))) | _,_ => False
  | .le => match x,y with | .int i,.int j => Q (.bool (decide (i ≤ j))) | _,_ => False
  | .gt => match x,y with | .int i,.int j => Q (.bool (decide (j < i))) | _,_ => False
  | .ge => match x,y with | .int i,.int j => Q (.bool (decide (j ≤ i))) | _,_ => False
  | .is_ => isW false x y Q
  | .isnot => isW true x y Q
  | .in_ => inW false x y Q
  | .notin => inW true x y Q
section
variable {B:B0} {k:Nat} {σ:Store} {Kp:Heap} {G:View} {s:Shared} {A:Around} {E:Value → Shared → Prop} {v₁ v₂:Value} {x y:V} {Q:V → Prop}
theorem units_lt (b:Bud k A) {n:Nat} (h:n ≤ 4500) : A.units + n < cLine := by
  have := b.2.1
  unfold cLine
  omega
theorem min_depth (h:x.depth ≤ 4000 ∨ y.depth ≤ 4000) : min x.data.depth y.data.depth ≤ 4000 := by
  unfold V.depth at h
  rcases h with h | h
  · exact Nat.le_trans (Nat.min_le_left _ _) h
  · exact Nat.le_trans (Nat.min_le_right _ _) h
theorem leaf_eqG (neg:Bool) (b:Bud k A) (r:Rel B Kp σ G s) (r1:B.R G v₁ x) (r2:B.R G v₂ y) (p1:x.plain = true) (p2:y.plain = true) (hd:x.depth ≤ 4000 ∨ y.depth ≤ 4000) (q:Q (.bool (if neg then !veq x y else veq x y))) : wpAny B.M A (compareOp (if neg then .NotEq else .Eq) v₁ v₂) (Res B Kp σ Q G s) E s := by
  obtain ⟨as,q1⟩ := reads_of r.gin r1 p1
  obtain ⟨bs,q2⟩ := reads_of r.gin r2 p2
  have hu := units_lt b (Nat.le_trans (min_depth hd) (by decide))
  cases neg with
  | true => exact SeqAt.compareNe_reads q1 q2 (canLay_plain x p1) (canLay_plain y p2) hu (Res.here r rfl rfl rfl (.bool _) q)
  | false => exact SeqAt.compareEq_reads q1 q2 (canLay_plain x p1) (canLay_plain y p2) hu (Res.here r rfl rfl rfl (.bool _) q)
theorem leaf_eq {neg:Bool} (b:Bud k A) (r:Rel B Kp σ G s) (r1:B.R G v₁ x) (r2:B.R G v₂ y) (h:eqW neg x y Q) : wpAny B.M A (compareOp (if neg then .NotEq else .Eq) v₁ v₂) (Res B Kp σ Q G s) E s := by
  have gen : (x.plain = true ∧ y.plain = true ∧ (x.depth ≤ 4000 ∨ y.depth ≤ 4000) ∧ Q (.bool (if neg then !veq x y else veq x y))) → wpAny B.M A (compareOp (if neg then .NotEq else .Eq) v₁ v₂) (Res B Kp σ Q G s) E s := fun g => leaf_eqG neg b r r1 r2 g.1 g.2.1 g.2.2.1 g.2.2.2
  generalize hg : wpAny B.M A (compareOp (if neg then .NotEq else .Eq) v₁ v₂) (Res B Kp σ Q G s) E s = goal at gen ⊢
  cases x with
  | int i => cases y with
    | int j =>
      obtain ⟨_,e1⟩ := r1.inv
      obtain ⟨_,e2⟩ := r2.inv
      rw [← hg,e1,e2]
      cases neg with
      | true => exact PySem.P.ne_int (Res.here r rfl rfl rfl (.bool _) h)
      | false => exact PySem.P.eq_int (Res.here r rfl rfl rfl (.bool _) h)
    | _ => exact gen h
  | str i => cases y with
    | str j =>
      obtain ⟨_,_,e1,e3⟩ := r1.inv
      obtain ⟨_,_,e2,e4⟩ := r2.inv
      rw [← hg,e1,e2]
      rw [← e3,← e4] at h
      cases neg with
      | true => exact PySem.P.ne_str (Res.here r rfl rfl rfl (.bool _) (by have h:Q (.bool (_ != _)) := h; simpa using h))
      | false => exact PySem.P.eq_str (Res.here r rfl rfl rfl (.bool _) (by have h:Q (.bool (_ == _)) := h; simpa using h))
    | _ => exact gen h
  | bool i => cases y with
    | bool j =>
      rw [← hg,r1.inv,r2.inv]
      cases neg with
      | true => exact ne_bool (Res.here r rfl rfl rfl (.bool _) h)
      | false => exact eq_bool (Res.here r rfl rfl rfl (.bool _) h)
    | _ => exact gen h
  | _ => exact gen h
theorem any_data (ys:List V) (d:PyData) : (dataL ys).any (fun z => PyData.eqv z d) = ys.any (fun z => PyData.eqv z.data d) := by
  induction ys with
  | nil => rfl
  | cons z zs ih => simp only [dataL,List.any_cons,ih]
theorem leaf_in {neg:Bool} (b:Bud k A) (r:Rel B Kp σ G s) (r1:B.R G v₁ x) (r2:B.R G v₂ y) (h:inW neg x y Q) : wpAny B.M A (compareOp (if neg then .NotIn else .In) v₁ v₂) (Res B Kp σ Q G s) E s := by
  cases y with
  | lst ys =>
    obtain ⟨p1,p2,hd,q⟩ := h
    obtain ⟨as,q1⟩ := reads_of r.gin r1 p1
    obtain ⟨bs,q2⟩ := reads_of r.gin r2 p2
    have hu : A.units + 1 + min (PyData.depthAll (dataL ys)) x.data.depth < cLine := 
      Nat.lt_of_le_of_lt (by rw [Nat.add_assoc]; exact Nat.add_le_add_left (Nat.add_le_add_left (Nat.le_trans (Nat.min_le_right _ _) hd) 1) _) (units_lt b (n := 1 + 4000) (by decide))
    cases neg with
    | true => exact SeqAt.notIn_list_reads q2 q1 (canLay_plainL ys p2) (canLay_plain x p1) hu (Res.here r rfl rfl rfl (.bool _) (by rw [any_data]; exact q))
    | false => exact SeqAt.in_list_reads q2 q1 (canLay_plainL ys p2) (canLay_plain x p1) hu (Res.here r rfl rfl rfl (.bool _) (by rw [any_data]; exact q))
  | _ => exact h.elim
theorem type_beq (a c:String) : (Value.type a == Value.type c) = (a == c) := by
  by_cases q : a = c
  · rw [q,beq_self_eq_true,beq_self_eq_true]
  · rw [beq_eq_false_iff_ne.mpr fun e => q (Value.type.inj e),beq_eq_false_iff_ne.mpr q]
theorem isW_inv {neg:Bool} (h:isW neg x y Q) : ∃ a c,x = .atom (.type a) ∧ y = .atom (.type c) ∧ Q (.bool (if neg then a != c else a == c)) := by
  unfold isW at h
  cases x with
  | atom v => cases y with
    | atom u => cases v with
      | type a => cases u with
        | type c => exact ⟨a,c,rfl,rfl,h⟩
        | _ => exact h.elim
      | _ => exact h.elim
    | _ => cases v <;> exact h.elim
  | _ => exact h.elim
theorem leaf_is {neg:Bool} (r:Rel B Kp σ G s) (r1:B.R G v₁ x) (r2:B.R G v₂ y) (h:isW neg x y Q) : wpAny B.M A (compareOp (if neg then .IsNot else .Is) v₁ v₂) (Res B Kp σ Q G s) E s := by
  obtain ⟨a,c,rfl,rfl,h'⟩ := isW_inv h
  rw [r1.inv,r2.inv]
  rw [← type_beq,show (a != c) = !(Value.type a == Value.type c) by rw [type_beq]; rfl] at h'
  cases neg with
  | true => exact wpAny_isNot_plain rfl (Res.here r rfl rfl rfl (.bool _) h')
  | false => exact wpAny_is_plain rfl (Res.here r rfl rfl rfl (.bool _) h')
noncomputable def twoI (x y:V) (P:Int → Int → Prop) : Prop := match x,y with | .int i,.int j => P i j | _,_ => False
theorem twoI_inv {P:Int → Int → Prop} (h:twoI x y P) : ∃ i j,x = .int i ∧ y = .int j ∧ P i j := by
  cases x with
  | int i => cases y with
    | int j => exact ⟨i,j,rfl,rfl,h⟩
    | _ => exact h.elim
  | _ => exact h.elim
theorem leaf_cmp {op:CmpOp} (b:Bud k A) (r:Rel B Kp σ G s) (r1:B.R G v₁ x) (r2:B.R G v₂ y) (h:cmpW (cCmp op) x y Q) : wpAny B.M A (compareOp op v₁ v₂) (Res B Kp σ Q G s) E s := by
  have two : ∀ {P:Int → Int → Prop} {o:CmpOp},twoI x y P → (∀ i t j u,P i j → wpAny B.M A (compareOp o (.int i t) (.int j u)) (Res B Kp σ Q G s) E s) → wpAny B.M A (compareOp o v₁ v₂) (Res B Kp σ Q G s) E s := fun h g => by
    obtain ⟨i,j,rfl,rfl,h⟩ := twoI_inv h
    obtain ⟨t,e1⟩ := r1.inv
    obtain ⟨u,e2⟩ := r2.inv
    rw [e1,e2]
    exact g i t j u h
  cases op with
  | Eq => exact leaf_eq (neg := false) b r r1 r2 h
  | NotEq => exact leaf_eq (neg := true) b r r1 r2 h
  | Is => exact leaf_is (neg := false) r r1 r2 h
  | IsNot => exact leaf_is (neg := true) r r1 r2 h
  | In => exact leaf_in (neg := false) b r r1 r2 h
  | NotIn => exact leaf_in (neg := true) b r r1 r2 h
  | Lt => exact two (P := fun i j => Q (.bool (decide (i < j)))) h fun _ _ _ _ h => P.lt_int (Res.here r rfl rfl rfl (.bool _) h)
  | LtE => exact two (P := fun i j => Q (.bool (decide (i ≤ j)))) h fun _ _ _ _ h => P.le_int (Res.here r rfl rfl rfl (.bool _) h)
  | Gt => exact two (P := fun i j => Q (.bool (decide (j < i)))) h fun _ _ _ _ h => P.gt_int (Res.here r rfl rfl rfl (.bool _) h)
  | GtE => exact two (P := fun i j => Q (.bool (decide (j ≤ i)))) h fun _ _ _ _ h => P.ge_int (Res.here r rfl rfl rfl (.bool _) h)
end
section
variable {prog:Program} {w:World} {G:View}
noncomputable def RepD (prog:Program) (w:World) (G:View) (kvs:List (Str × Value)) (ds:List (List Nat × V)) : Prop :=
  kvs.map (·.1.cps.toList) = ds.map (·.1) ∧ RepL prog w G (kvs.map (·.2)) (ds.map (·.2))
theorem RepD.mono {G':View} {kvs:List (Str × Value)} {ds:List (List Nat × V)} (h:RepD prog w G kvs ds) (l:VLe G G') : RepD prog w G' kvs ds := ⟨h.1,h.2.mono l⟩
theorem RepD.nil : RepD prog w G [] [] := ⟨rfl,.nil⟩
theorem RepD.uncons {k:Str} {v:Value} {kvs:List (Str × Value)} {ds:List (List Nat × V)} (h:RepD prog w G ((k,v) :: kvs) ds) : ∃ d r,ds = (k.cps.toList,d) :: r ∧ RepV prog w G v d ∧ RepD prog w G kvs r := by
  obtain ⟨h1,h2⟩ := h
  cases ds with
  | nil => simp at h1
  | cons p r =>
    obtain ⟨c,d⟩ := p
    simp only [List.map_cons,List.cons.injEq] at h1
    obtain ⟨_,_,e,a,b⟩ := RepL.inv h2
    injection e with e1 e2
    subst e1 e2
    exact ⟨d,r,by rw [h1.1],a,h1.2,b⟩
theorem RepD.cons {k:Str} {v:Value} {d:V} {kvs:List (Str × Value)} {ds:List (List Nat × V)} (hv:RepV prog w G v d) (h:RepD prog w G kvs ds) : RepD prog w G ((k,v) :: kvs) ((k.cps.toList,d) :: ds) :=
  ⟨by simp [h.1],by simpa using RepL.cons hv h.2⟩
theorem str_eq_iff (x y:Str) : x = y ↔ x.cps.toList = y.cps.toList := by
  constructor
  · intro h; rw [h]
  · intro h; rw [str_of_list h]
theorem RepD.find {kvs:List (Str × Value)} : ∀ {ds:List (List Nat × V)} (_:RepD prog w G kvs ds) (x:Str),(valueAt kvs x = none ∧ ds.lookup x.cps.toList = none) ∨ ∃ v d,valueAt kvs x = some v ∧ ds.lookup x.cps.toList = some d ∧ RepV prog w G v d := by
  induction kvs with
  | nil => intro ds h x; left; cases ds with
    | nil => exact ⟨rfl,rfl⟩
    | cons p r => have := h.1; simp at this
  | cons p kvs ih =>
    intro ds h x
    obtain ⟨k,v⟩ := p
    obtain ⟨d,r,rfl,hv,hr⟩ := h.uncons
    by_cases e : k = x
    · subst e
      right
      exact ⟨v,d,by simp [valueAt],by simp,hv⟩
    · have e' : (x.cps.toList == k.cps.toList) = false := by
        rw [beq_eq_false_iff_ne]
        intro q
        exact e ((str_eq_iff k x).mpr q.symm)
      have h1 : valueAt ((k,v) :: kvs) x = valueAt kvs x := by simp [valueAt,e]
      have h2 : ((k.cps.toList,d) :: r).lookup x.cps.toList = r.lookup x.cps.toList := by simp [List.lookup,e']
      rw [h1,h2]
      exact ih hr x
end
noncomputable def partOf : V → Option (Option Int)
  | .none => some none
  | .int i => some (some i)
  | _ => none
noncomputable def pick (xs:List V) (lo hi st:Option Int) : List V :=
  (sliceRange (sliceBounds lo hi st xs.length).1 (sliceBounds lo hi st xs.length).2.1 (sliceBounds lo hi st xs.length).2.2).filterMap (xs[·]?)
theorem RepL.filterMap {prog:Program} {w:World} {G:View} {vs:List Value} {ds:List V} (h:RepL prog w G vs ds) : ∀ ix : List Nat,RepL prog w G (ix.filterMap (vs[·]?)) (ix.filterMap (ds[·]?))
  | [] => .nil
  | i :: r => by
    have ih := RepL.filterMap h r
    cases e : ds[i]? with
    | none =>
      have : vs[i]? = none := by
        rw [List.getElem?_eq_none_iff] at e ⊢
        rw [h.length]; exact e
      simp only [List.filterMap_cons,e,this]
      exact ih
    | some d =>
      obtain ⟨v,hv,hr⟩ := h.get e
      simp only [List.filterMap_cons,e,hv]
      exact .cons hr ih
noncomputable def binW (σ:Store) (op:BOp) (x y:V) (Q:V → Prop) : Prop :=
  match op with
  | .add => match x,y with
    | .int i,.int j => Q (.int (i + j))
    | .lst xs,.lst ys => xs.length + ys.length ≤ sizeLine ∧ Q (.lst (xs ++ ys))
    | _,_ => False
  | .sub => match x,y with
    | .int i,.int j => Q (.int (i - j))
    | _,_ => False
  | .mul => match x,y with
    | .int i,.int j => (i.natAbs ≤ 2 ^ 20 ∧ j.natAbs ≤ 2 ^ 20) ∧ Q (.int (i * j))
    | .lst xs,.int j => (0 ≤ j ∧ j ≤ 2 ^ 20 ∧ xs.length * j.toNat ≤ sizeLine) ∧ Q (.lst (List.replicate j.toNat xs).flatten)
    | _,_ => False
  | .mod => match x,y with
    | .int i,.int j => 0 < j ∧ Q (.int (i % j))
    | _,_ => False
section
variable {B:B0} {k:Nat} {σ:Store} {Kp:Heap} {G:View} {s:Shared} {A:Around} {E:Value → Shared → Prop} {v₁ v₂:Value} {x y:V} {Q:V → Prop}
theorem foldl_append_flatten (xs:Array Value) : ∀ (n:Nat) (acc:Array Value),(List.foldl (fun a b => a ++ b) acc (List.replicate n xs)).toList = acc.toList ++ (List.replicate n xs.toList).flatten
  | 0,acc => by simp
  | n + 1,acc => by
    rw [List.replicate_succ,List.foldl_cons,foldl_append_flatten xs n]
    simp [List.replicate_succ]
theorem RepL.flatten_replicate {prog:Program} {w:World} {G:View} {vs:List Value} {ds:List V} (h:RepL prog w G vs ds) : ∀ n,RepL prog w G (List.replicate n vs).flatten (List.replicate n ds).flatten
  | 0 => .nil
  | n + 1 => by simp only [List.replicate_succ,List.flatten_cons]; exact h.append (RepL.flatten_replicate h n)
theorem add_list {a b:Addr} {vs us:Array Value} {n m:Nat} {R:Value → Shared → Prop} (g1:s.heap.get? a = some (sq "list" vs n)) (g2:s.heap.get? b = some (sq "list" us m)) (hz:vs.size + us.size ≤ sizeLine)
    (q:R (.ref s.heap.objs.size) { s with heap := s.heap.push (sq "list" (vs ++ us) 0) }) : wpAny B.M A (binaryOp .Add (.ref a) (.ref b)) R E s :=
  concat_meets ⟨_,g1,rfl⟩ ⟨_,g2,rfl⟩ noFill_list_add seq_list_add PySem.F.slot_list_add PySem.F.entry_list_add (PySem.F.args_list_add_2 _ _) (AutoSeq1.list___add___list_list_0 a vs n b us m hz) ⟨g1,g2,q⟩
theorem mul_size {vs us:Array Value} {y:Int} (e:us.toList = (List.replicate y.toNat vs.toList).flatten) (h:vs.size * y.toNat ≤ 2 ^ 24) : us.size ≤ sizeLine := by
  rw [← Array.length_toList,e]
  simp
  rw [Nat.mul_comm]
  exact h
theorem mul_list {a:Addr} {vs:Array Value} {n:Nat} {y:Int} {u:Tok} {R:Value → Shared → Prop} (g:s.heap.get? a = some (sq "list" vs n)) (h1:-(2 ^ 63) ≤ y) (h2:y < 2 ^ 63) (h3:vs.size * y.toNat ≤ 2 ^ 24)
    (q:∀ us : Array Value,us.toList = (List.replicate y.toNat vs.toList).flatten → R (.ref s.heap.objs.size) { s with heap := s.heap.push (sq "list" us 0) }) : wpAny B.M A (binaryOp .Mult (.ref a) (.int y u)) R E s := by
  refine wpAny_binaryOp_repeat_ref (T := "list") (U := "int") (by decide) ⟨_,g,rfl⟩ (fun s' => typeIs_int s' y u) noFill_list_mul F.fills_int_mul F.slot_int_rmul repeat_list F.slot_int_index.lookup
    (call_meets F.slot_int_rmul (typeIs_int s y u) F.entry_int_rmul (F.args_int_rmul_2 _ _) (int___rmul___int_list y u a vs n)
      ⟨g,rfl,⟨_,g,rfl⟩,call_meets F.slot_list_mul ⟨_,g,rfl⟩ F.entry_list_mul (F.args_list_mul_2 _ _)
        (AutoListH.list___mul___list_int_3 a vs n y u (by simp [Builtin.List.listFitsIndex]; omega) (by omega) (by simp [Builtin.List.listTooLong,sizeLine]; omega)) ⟨g,q _ ?_⟩⟩)
  rw [foldl_append_flatten]
  by_cases hv : vs.isEmpty = true
  · have : vs = #[] := by simpa using hv
    subst this
    simp
  · simp [hv]
theorem leaf_add (r:Rel B Kp σ G s) (r1:B.R G v₁ x) (r2:B.R G v₂ y) (h:binW σ .add x y Q) : wpAny B.M A (binaryOp .Add v₁ v₂) (Res B Kp σ Q G s) E s := by
  cases x with
  | int i => cases y with
    | int j =>
      obtain ⟨_,e1⟩ := r1.inv
      obtain ⟨_,e2⟩ := r2.inv
      rw [e1,e2]
      exact P.add_int (Res.here r rfl rfl rfl (.int _ _) h)
    | _ => exact h.elim
  | lst xs => cases y with
    | lst ys =>
      obtain ⟨a,vs,n,e1,g1,z1,l1⟩ := r1.inv
      obtain ⟨b,us,m,e2,g2,z2,l2⟩ := r2.inv
      have hz : vs.size + us.size ≤ sizeLine := by
        rw [← Array.length_toList,← Array.length_toList,l1.length,l2.length]
        exact h.1
      rw [e1,e2]
      refine add_list (r.gin _ _ g1) (r.gin _ _ g2) hz (Res.push r rfl (.lst (View.add_self _ _ _) (by rw [Array.size_append]; exact hz) ?_) h.2)
      have l := VLe.add r.none_size (sq "list" (vs ++ us) 0)
      rw [Array.toList_append]
      exact (l1.mono l).append (l2.mono l)
    | _ => exact h.elim
  | _ => exact h.elim
theorem leaf_mul (r:Rel B Kp σ G s) (r1:B.R G v₁ x) (r2:B.R G v₂ y) (h:binW σ .mul x y Q) : wpAny B.M A (binaryOp .Mult v₁ v₂) (Res B Kp σ Q G s) E s := by
  cases x with
  | int i => cases y with
    | int j =>
      obtain ⟨⟨h1,h2⟩,q⟩ := h
      obtain ⟨_,e1⟩ := r1.inv
      obtain ⟨_,e2⟩ := r2.inv
      rw [e1,e2]
      exact P.mul_int (Res.here r rfl rfl rfl (.int _ _) q) (hm := IntMulOk.of_right (intBits_le_64 (by omega) (by omega)))
    | _ => exact h.elim
  | lst xs => cases y with
    | int j =>
      obtain ⟨⟨h1,h2,h3⟩,q⟩ := h
      obtain ⟨_,e2⟩ := r2.inv
      obtain ⟨a,vs,n,e1,g,z,l1⟩ := r1.inv
      have h3' : vs.size * j.toNat ≤ 2 ^ 24 := by rw [← Array.length_toList,l1.length]; exact h3
      rw [e1,e2]
      refine mul_list (r.gin _ _ g) (by omega) (by omega) h3' fun us e => Res.push r rfl (.lst (View.add_self _ _ _) (mul_size e h3') ?_) q
      rw [e]
      exact RepL.flatten_replicate (l1.mono (VLe.add r.none_size _)) _
    | _ => exact h.elim
  | _ => exact h.elim
theorem leaf_bin {op:Operator} {bo:BOp} (hb:cBin op = some bo) (r:Rel B Kp σ G s) (r1:B.R G v₁ x) (r2:B.R G v₂ y) (h:binW σ bo x y Q) : wpAny B.M A (binaryOp op v₁ v₂) (Res B Kp σ Q G s) E s := by
  cases op with
  | Add => cases hb; exact leaf_add r r1 r2 h
  | Mult => cases hb; exact leaf_mul r r1 r2 h
  | Sub =>
    cases hb
    obtain ⟨i,j,rfl,rfl,h⟩ := twoI_inv (P := fun i j => Q (.int (i - j))) h
    obtain ⟨_,e1⟩ := r1.inv
    obtain ⟨_,e2⟩ := r2.inv
    rw [e1,e2]
    exact P.sub_int (Res.here r rfl rfl rfl (.int _ _) h)
  | Mod =>
    cases hb
    obtain ⟨i,j,rfl,rfl,hj,q⟩ := twoI_inv (P := fun i j => 0 < j ∧ Q (.int (i % j))) h
    obtain ⟨_,e1⟩ := r1.inv
    obtain ⟨_,e2⟩ := r2.inv
    rw [e1,e2]
    refine mod_int' (by omega) (Res.here r rfl rfl rfl (.int _ _) ?_)
    rw [Int.fmod_eq_emod_of_nonneg _ (Int.le_of_lt hj)]
    exact q
  | _ => exact noS hb
end
theorem mem_of_lookup {σ:Store} {a:Addr} {m:MO} (h:σ.lookup a = some m) : (a,m) ∈ σ := by
  induction σ with
  | nil => cases h
  | cons p r ih =>
    obtain ⟨b,n⟩ := p
    by_cases e : a = b
    · subst e
      simp [List.lookup] at h
      subst h
      exact .head _
    · have e' : (a == b) = false := beq_eq_false_iff_ne.mpr e
      simp only [List.lookup,e'] at h
      exact .tail _ (ih h)
section
variable {B:B0} {k:Nat} {σ:Store} {Kp:Heap} {G:View} {s:Shared} {A:Around} {E:Value → Shared → Prop} {v v₁ v₂:Value} {x y:V} {Q:V → Prop}
theorem list_at (r:Rel B Kp σ G s) (h:B.R G v x) {xs:List V} (hx:listOfV σ x = some xs) : ∃ a vs n,v = .ref a ∧ s.heap.get? a = some (sq "list" vs n) ∧ vs.size ≤ sizeLine ∧ B.RL G vs.toList xs := by
  cases x with
  | lst ys => cases hx; exact h.inv.elim fun a h => h.elim fun vs h => h.elim fun n h => ⟨a,vs,n,h.1,r.gin _ _ h.2.1,h.2.2⟩
  | ref a =>
    have hx : (match σ.lookup a with | some (.l xs) => some xs | _ => none) = some xs := hx
    cases e : σ.lookup a with
    | none => rw [e] at hx; cases hx
    | some m =>
      rw [e] at hx
      cases m with
      | l ys =>
        cases hx
        obtain ⟨_,_,o,ho,vs,n,e2,z,l⟩ := r.sto.at_ _ _ (mem_of_lookup e)
        exact ⟨a,vs,n,h.inv,by rw [ho,e2],z,l⟩
      | _ => exact noS hx
  | _ => exact noS hx
theorem dict_at (r:Rel B Kp σ G s) (h:B.R G v x) {ds:List (List Nat × V)} (hx:dictOfV σ x = some ds) : ∃ a kvs,v = .ref a ∧ (a == sysModules) = false ∧ s.heap.DictOf (PySem.strKind B.prog B.w) a kvs ∧ RepD B.prog B.w G kvs ds := by
  cases x with
  | sd ys => cases hx; obtain ⟨a,o,kvs,e,g,d,n,h⟩ := h.inv; exact ⟨a,kvs,e,n,Heap.dictOf_iff.mpr ⟨o,r.gin _ _ g,d⟩,h⟩
  | ref a =>
    have hx : (match σ.lookup a with | some (.d xs) => some xs | _ => none) = some ds := hx
    cases e : σ.lookup a with
    | none => rw [e] at hx; cases hx
    | some m =>
      rw [e] at hx
      cases m with
      | d ys =>
        cases hx
        obtain ⟨_,n,o,ho,kvs,d,h'⟩ := r.sto.at_ _ _ (mem_of_lookup e)
        exact ⟨a,kvs,h.inv,n.resolve_right (fun h => by obtain ⟨_,_,e⟩ := h; cases e),Heap.dictOf_iff.mpr ⟨_,ho,d⟩,h'⟩
      | _ => exact noS hx
  | _ => exact noS hx
end
noncomputable def idxW (σ:Store) (a i:V) (Q:V → Prop) : Prop :=
  match i with
  | .int j => (match seqOfV σ a with
    | some xs => 0 ≤ j ∧ ∃ v,xs[j.toNat]? = some v ∧ Q v
    | none => False)
  | .str c => (match dictOfV σ a with
    | some kvs => ∃ v,kvs.lookup c = some v ∧ Q v
    | none => False)
  | _ => False
section
variable {B:B0} {k:Nat} {σ:Store} {Kp:Heap} {G:View} {s:Shared} {A:Around} {E:Value → Shared → Prop} {v v₁ v₂:Value} {x y:V} {Q:V → Prop}
theorem toNat_lt {j:Int} {n:Nat} (h0:0 ≤ j) (h:j.toNat < n) : j < (n:Int) := by omega
theorem seqIndex_of {j:Int} {n:Nat} (h0:0 ≤ j) (h:j.toNat < n) : seqIndex? j n = some j.toNat := by
  unfold seqIndex?
  rw [if_neg (by omega:¬ j < 0),if_pos (by simp; omega)]
theorem line_lt {j:Int} {n:Nat} (h0:0 ≤ j) (h:j.toNat < n) (z:n ≤ sizeLine) : -(2 ^ 63) ≤ j ∧ j < 2 ^ 63 := by
  have hz : sizeLine = 2 ^ 24 := rfl
  omega
theorem leaf_idx {value slice:Expr} (hs:∀ o i,subscripted slice false o i = operate [o,i] (getItem o i)) (r:Rel B Kp σ G s) (r1:B.R G v₁ x) (r2:B.R G v₂ y) (h:idxW σ x y Q) :
    wpAny B.M A (subscriptTail value slice v₁ v₂) (Res B Kp σ Q G s) E s := by
  cases y with
  | int j =>
    obtain ⟨u,e2⟩ := r2.inv
    rw [e2]
    have h : (match seqOfV σ x with | some xs => 0 ≤ j ∧ ∃ v,xs[j.toNat]? = some v ∧ Q v | none => False) := h
    cases hx : seqOfV σ x with
    | none => rw [hx] at h; exact h.elim
    | some xs =>
      rw [hx] at h
      obtain ⟨h0,d,hd,q⟩ := h
      have key : listOfV σ x = some xs → wpAny B.M A (subscriptTail value slice v₁ (.int j u)) (Res B Kp σ Q G s) E s := fun hx => by
        obtain ⟨a,vs,n,e1,hg,z,l⟩ := list_at r r1 hx
        obtain ⟨v,hv,rv⟩ := l.get hd
        rw [e1]
        have hlt := line_lt h0 (by rw [← Array.length_toList]; exact (List.getElem?_eq_some_iff.mp hv).1) z
        exact tail_any ⟨_,hg,rfl⟩ PySem.F.slot_list_getitem.lookup (wpAny_getItem_list ⟨_,hg,rfl,n,rfl⟩ h0 hlt.2 (by simpa using hv) (Res.here r rfl rfl rfl rv q)) (hs _ _)
      cases x with
      | tup ys =>
        cases hx
        obtain ⟨a,vs,n,e1,g,z,l⟩ := r1.inv
        obtain ⟨v,hv,rv⟩ := l.get hd
        have hl : j.toNat < vs.size := by rw [← Array.length_toList]; exact (List.getElem?_eq_some_iff.mp hv).1
        have hlt := line_lt h0 hl z
        rw [e1]
        exact tail_any ⟨_,r.gin _ _ g,rfl⟩ PySem.F.slot_tuple_getitem.lookup (PySem.P.getItem_tuple (k := j.toNat) (r.gin _ _ g) hlt.1 hlt.2 (seqIndex_of h0 hl) (by simpa using hv) (Res.here r rfl rfl rfl rv q)) (hs _ _)
      | _ => exact key hx
  | str c =>
    obtain ⟨xs,t,e2,e⟩ := r2.inv
    rw [e2]
    have h : (match dictOfV σ x with | some kvs => ∃ v,kvs.lookup c = some v ∧ Q v | none => False) := h
    cases hx : dictOfV σ x with
    | none => rw [hx] at h; exact h.elim
    | some kvs =>
      rw [hx] at h
      obtain ⟨d,hd,q⟩ := h
      obtain ⟨a,ps,e1,hn,hD,hR⟩ := dict_at r r1 hx
      rw [e1]
      rw [← e] at hd
      rcases hR.find xs with e | ⟨v,d',e1,e2,rv⟩
      · rw [e.2] at hd; cases hd
      · rw [e2] at hd
        cases hd
        exact tail_any hD.typeIs PySem.F.slot_dict_getitem.lookup (wpAny_getItem_of (strKind_is B.prog B.w xs t) hD.mapOf e1 (Res.here r rfl rfl rfl rv q)) (hs _ _)
  | _ => exact h.elim
end
theorem slice_no_index' : typeLookup (.type "slice") (Str.ofString "__index__") = pure none := by rw [typeLookup_type,builtinLookup_eq_fast]; kernel_rfl
theorem fm_range {α:Type} (l:List α) : (List.range l.length).filterMap (fun k => l[k]?) = l := by
  induction l with
  | nil => rfl
  | cons a r ih =>
    rw [List.length_cons,List.range_succ_eq_map,List.filterMap_cons]
    simp only [List.getElem?_cons_zero]
    rw [List.filterMap_map]
    congr 1
theorem drop_at (items:Array Value) (k:Nat) : items[((1:Int) + ↑k * (none:Option Int).getD 1).toNat]? = (items.toList.drop 1)[k]? := by
  rw [show ((1:Int) + ↑k * (none:Option Int).getD 1).toNat = 1 + k by simp; omega]
  simp [Nat.add_comm]
theorem drop_picked (items:Array Value) : (List.filterMap (fun (k:Nat) => items[((1:Int) + ↑k * (none:Option Int).getD 1).toNat]?) (List.range (items.size - 1))) = items.toList.drop 1 := by
  rw [show items.size - 1 = (items.toList.drop 1).length by simp,funext (drop_at items)]
  exact fm_range _
theorem adjust1 {n:Nat} (h1:1 ≤ n) : Builtin.Slice.sliceAdjust (some 1) none ((none:Option Int).getD 1) ↑n = ((1:Int),(n:Int)) := by
  simp [Builtin.Slice.sliceAdjust]
  omega
theorem places1 {n:Nat} (h1:1 ≤ n) : Builtin.Slice.slicePlaces 1 ↑n ((none:Option Int).getD 1) = n - 1 := by
  simp [Builtin.Slice.slicePlaces]
  omega
theorem tup_slice (l sl:Addr) (items:Array Value) (n:Nat) (t:Tok) (hz:items.size ≤ sizeLine) (h1:1 ≤ items.size) :
    Meets (Builtin.«tuple.__getitem__» ⟨[.ref l,.ref sl],[]⟩)
      (fun _ R s => s.heap.get? l = some (sq "tuple" items n) ∧ s.heap.get? sl = some { cls := .type "slice",data := .fields #[.int 1 t,.none,.none] } ∧
        R (.ok (.ret (.ref s.heap.objs.size))) { s with heap := s.heap.push { cls := .type "tuple",data := .seq (items.toList.drop 1).toArray } }) :=
  .of_wp fun prog w A R s h => by
    obtain ⟨hp,g,d,tk,os⟩ := s; obtain ⟨hl,hs,h⟩ := h
    have f1 := AutoSeq1.idx_int
    wp_walk using AutoSeq1.wpAny_loadPart' hl,AutoSeq1.wpAny_loadPart' hs
    rw [adjust1 h1]
    dsimp only
    rw [places1 h1,drop_picked]
    refine wpAny_ite_false (by rw [show ((1:Int) == 0) = false from rfl]; rfl) ?_
    wp_walk
    refine wpAny_ite_false (by rw [List.size_toArray,List.length_drop,Array.length_toList]; exact decide_eq_false (Nat.not_lt.mpr (Nat.le_trans (Nat.sub_le _ _) hz))) ?_
    wp_walk
    exact ⟨_,rfl,h⟩
section
variable {B:B0} {k:Nat} {σ:Store} {Kp:Heap} {G:View} {s:Shared} {A:Around} {E:Value → Shared → Prop} {v v₁ v₂:Value} {x y:V} {Q:V → Prop}
theorem Rel.grow (r:Rel B Kp σ G s) {h':Heap} (hk:∀ b o,s.heap.get? b = some o → h'.get? b = some o) {s':Shared} (e:s'.heap = h') : Rel B Kp σ G s' :=
  ⟨r.bas,fun a o h => by rw [e]; exact hk _ _ (r.gin a o h),fun a o h => by rw [e]; exact hk _ _ (r.kin a o h),
    ⟨fun a m hm => by
      obtain ⟨h1,h2,o,h3,h4⟩ := r.sto.at_ a m hm
      exact ⟨h1,h2,o,by rw [e]; exact hk _ _ h3,h4⟩,r.sto.nodup⟩,r.hid⟩
theorem Step.grow (G:View) {s s':Shared} (hz:∀ a o,s.heap.get? a = some o → ∃ o',s'.heap.get? a = some o') (eo:s'.os = s.os) (eg:s'.gens = s.gens) : Step G G s s' :=
  ⟨VLe.refl G,fun _ _ h => .inl h,hz,eo,by rw [eg]; exact id⟩
theorem Rel.pushRaw (r:Rel B Kp σ G s) (o:Obj) : Rel B Kp σ G { s with heap := s.heap.push o } := r.grow (fun _ _ h => Heap.get?_push_of_some o h) rfl
theorem Step.pushRaw (G:View) (s:Shared) (o:Obj) : Step G G s { s with heap := s.heap.push o } :=
  Step.grow G (fun a o' h => ⟨o',Heap.get?_push_of_some o h⟩) rfl rfl
end
noncomputable def slW (σ:Store) (a lo hi:V) (Q:V → Prop) : Prop :=
  match a with
  | .tup xs => (match lo,hi,xs with
    | .int 1,.none,_ :: ys => Q (.tup ys)
    | _,_,_ => False)
  | _ => (match listOfV σ a,partOf lo,partOf hi with
    | some xs,some l,some h => Q (.lst (pick xs l h none))
    | _,_,_ => False)
noncomputable def revW (σ:Store) (a:V) (Q:V → Prop) : Prop :=
  match listOfV σ a with
  | some xs => Q (.lst xs.reverse)
  | _ => False
section
variable {B:B0} {k:Nat} {σ:Store} {Kp:Heap} {G:View} {s:Shared} {A:Around} {E:Value → Shared → Prop} {v v₁ vl vh:Value} {x lo hi:V} {Q:V → Prop}
theorem part_of {p:Option Int} (h:B.R G v x) (e:partOf x = some p) : IsPart v p := by
  cases x with
  | none => cases e; rw [h.inv]; exact .none
  | int i => cases e; obtain ⟨t,e⟩ := h.inv; rw [e]; exact .int _ _
  | _ => exact noS e
theorem pick_list {vs:Array Value} {xs:List V} (l:B.RL G vs.toList xs) (p q:Option Int) : B.RL G (slicePick vs p q none).toList (pick xs p q none) := by
  rw [show (slicePick vs p q none).toList = (sliceRange (sliceBounds p q none vs.size).1 (sliceBounds p q none vs.size).2.1 (sliceBounds p q none vs.size).2.2).filterMap (vs.toList[·]?) by simp [slicePick]]
  unfold pick
  rw [← l.length,Array.length_toList]
  exact l.filterMap _
theorem slice_tup {a sl:Addr} {vs:Array Value} {n:Nat} {t:Tok} {d:V} {ys:List V} (r:Rel B Kp σ G s) (g:G a = some (sq "tuple" vs n)) (z:vs.size ≤ sizeLine) (l:B.RL G vs.toList (d :: ys)) (hs:s.heap.get? sl = some { cls := .type "slice",data := .fields #[.int 1 t,.none,.none] }) (h:Q (.tup ys)) :
    wpAny B.M A (getItem (.ref a) (.ref sl)) (Res B Kp σ Q G s) E s := by
  refine wpAny_getItem_slot ⟨_,r.gin _ _ g,rfl⟩ (by decide) PySem.F.slot_tuple_getitem (call_meets PySem.F.slot_tuple_getitem ⟨_,r.gin _ _ g,rfl⟩ PySem.F.entry_tuple_getitem (PySem.F.args_tuple_getitem_2 _ _) (tup_slice a sl vs n t z (by rw [← Array.length_toList,l.length]; exact Nat.succ_pos _)) ⟨r.gin _ _ g,hs,?_⟩)
  refine Res.push r rfl (.tup (View.add_self _ _ _) (by rw [List.size_toArray,List.length_drop,Array.length_toList]; exact Nat.le_trans (Nat.sub_le _ _) z) ?_) h
  exact (l.mono (VLe.add r.none_size _)).drop 1
theorem slice_lst {sl:Addr} {xs:List V} {p q:Option Int} (r:Rel B Kp σ G s) (r1:B.R G v₁ x) (r2:IsPart vl p) (r3:IsPart vh q) (hs:s.heap.get? sl = some { cls := .type "slice",data := .fields #[vl,vh,.none] }) (hx:listOfV σ x = some xs) (h:Q (.lst (pick xs p q none))) :
    ∃ T id,s.TypeIs v₁ T ∧ typeLookup (.type T) "__getitem__" = pure (some (.builtin id)) ∧ wpAny B.M A (getItem v₁ (.ref sl)) (Res B Kp σ Q G s) E s := by
  obtain ⟨a,vs,n,e1,hg,z,l⟩ := list_at r r1 hx
  rw [e1]
  exact ⟨"list",_,⟨_,hg,rfl⟩,PySem.F.slot_list_getitem.lookup,wpAny_getItem_list_slice ⟨_,hg,rfl,n,rfl⟩ ⟨_,hs,rfl,rfl⟩ r2 r3 .none (by simp) (Res.push r rfl (.lst (View.add_self _ _ _) (Nat.le_trans (slicePick_size_le vs p q none) z) (pick_list (l.mono (VLe.add r.none_size _)) p q)) h) z⟩
theorem slW_inv (h:slW σ x lo hi Q) : (∃ d ys,x = .tup (d :: ys) ∧ lo = .int 1 ∧ hi = .none ∧ Q (.tup ys)) ∨ ∃ xs p q,listOfV σ x = some xs ∧ partOf lo = some p ∧ partOf hi = some q ∧ Q (.lst (pick xs p q none)) := by
  have lst : ∀ {o:Option (List V)},(match o,partOf lo,partOf hi with | some xs,some l,some h => Q (.lst (pick xs l h none)) | _,_,_ => False) → ∃ xs p q,o = some xs ∧ partOf lo = some p ∧ partOf hi = some q ∧ Q (.lst (pick xs p q none)) := fun {o} g => by
    cases o with
    | none => exact g.elim
    | some xs => cases e : partOf lo with
      | none => rw [e] at g; exact g.elim
      | some p => cases e' : partOf hi with
        | none => rw [e,e'] at g; exact g.elim
        | some q => rw [e,e'] at g; exact ⟨xs,p,q,rfl,rfl,rfl,g⟩
  cases x with
  | tup xs =>
    left
    cases xs with
    | nil => simp [slW] at h
    | cons d ys =>
      simp only [slW] at h
      split at h
      · rename_i e; injection e with e1 e2; subst e2; exact ⟨_,_,rfl,rfl,rfl,h⟩
      · exact h.elim
  | _ => exact .inr (lst h)
theorem getItem_slice {sl:Addr} (r:Rel B Kp σ G s) (r1:B.R G v₁ x) (r2:B.R G vl lo) (r3:B.R G vh hi) (hs:s.heap.get? sl = some { cls := .type "slice",data := .fields #[vl,vh,.none] }) (h:slW σ x lo hi Q) :
    ∃ T id,s.TypeIs v₁ T ∧ typeLookup (.type T) "__getitem__" = pure (some (.builtin id)) ∧ wpAny B.M A (getItem v₁ (.ref sl)) (Res B Kp σ Q G s) E s := by
  rcases slW_inv h with ⟨d,ys,rfl,rfl,rfl,q⟩ | ⟨xs,p,q,e1,e2,e3,h⟩
  · obtain ⟨a,vs,n,e1,g,z,l⟩ := r1.inv
    obtain ⟨t,e2⟩ := r2.inv
    rw [e2,r3.inv] at hs
    rw [e1]
    exact ⟨"tuple",_,⟨_,r.gin _ _ g,rfl⟩,PySem.F.slot_tuple_getitem.lookup,slice_tup r g z l hs q⟩
  · exact slice_lst r r1 (part_of r2 e2) (part_of r3 e3) hs e1 h
end
section
variable {B:B0} {k:Nat} {σ:Store} {Kp:Heap} {G:View} {s:Shared} {A:Around} {E:Value → Shared → Prop} {v v₁ vl vh:Value} {x lo hi:V} {Q:V → Prop}
theorem fm_congr {α β:Type} {f g:α → Option β} : ∀ (l:List α),(∀ x ∈ l,f x = g x) → l.filterMap f = l.filterMap g
  | [],_ => rfl
  | a :: r,h => by
    rw [List.filterMap_cons,List.filterMap_cons,h a (.head _),fm_congr r fun x hx => h x (.tail _ hx)]
theorem rev_range (n:Nat) : sliceRange (sliceBounds none none (some (-1)) n).1 (sliceBounds none none (some (-1)) n).2.1 (sliceBounds none none (some (-1)) n).2.2 = (List.range n).map (fun (j:Nat) => n - 1 - j) := by
  simp only [sliceBounds,Option.getD_some]
  rw [if_neg (by decide),if_neg (by decide)]
  unfold sliceRange
  rw [if_neg (by decide)]
  have hc : (if (n:Int) - 1 > -1 then ((n:Int) - 1 - -1 - -1 - 1) / - -1 else 0).toNat = n := by
    rw [show (- -1 : Int) = 1 from rfl,Int.ediv_one]
    split <;> omega
  simp only [hc]
  exact List.map_congr_left fun j hj => by have := List.mem_range.mp hj; omega
theorem reverse_pick (xs:Array Value) : (slicePick xs none none (some (-1))).toList = xs.toList.reverse := by
  unfold slicePick
  rw [rev_range]
  show ((List.range xs.size).map (fun (j:Nat) => xs.size - 1 - j)).filterMap (fun j => xs[j]?) = xs.toList.reverse
  rw [← fm_range xs.toList.reverse,List.filterMap_map,List.length_reverse,Array.length_toList]
  refine fm_congr _ fun j hj => ?_
  rw [List.getElem?_reverse (by rw [Array.length_toList]; exact List.mem_range.mp hj)]
  simp
theorem getItem_rev {sl:Addr} {t:Tok} (r:Rel B Kp σ G s) (r1:B.R G v₁ x) (hs:s.heap.get? sl = some { cls := .type "slice",data := .fields #[.none,.none,.int (-1) t] }) (h:revW σ x Q) :
    s.TypeIs v₁ "list" ∧ wpAny B.M A (getItem v₁ (.ref sl)) (Res B Kp σ Q G s) E s := by
  have h : (match listOfV σ x with | some xs => Q (.lst xs.reverse) | _ => False) := h
  cases e : listOfV σ x with
  | none => rw [e] at h; exact h.elim
  | some xs =>
    rw [e] at h
    obtain ⟨a,vs,n,e1,hg,z,l⟩ := list_at r r1 e
    rw [e1]
    refine ⟨⟨_,hg,rfl⟩,wpAny_getItem_list_slice ⟨_,hg,rfl,n,rfl⟩ ⟨_,hs,rfl,rfl⟩ .none .none (.int (-1) t) (by simp) (Res.push r rfl (.lst (View.add_self _ _ _) (Nat.le_trans (slicePick_size_le vs _ _ _) z) ?_) h) z⟩
    rw [reverse_pick]
    exact (l.mono (VLe.add r.none_size _)).reverse
noncomputable def lenW (σ:Store) (a:V) (Q:V → Prop) : Prop :=
  match seqOfV σ a with
  | some xs => Q (.int xs.length)
  | none => False
theorem line_63 {n:Nat} (z:n ≤ sizeLine) : (n:Int) < 2 ^ 63 := Int.ofNat_lt.mpr (Nat.lt_of_le_of_lt z (by decide:sizeLine < 2 ^ 63))
theorem leaf_len (r:Rel B Kp σ G s) (r1:B.R G v₁ x) (h:lenW σ x Q) : wpAny B.M A (call (.builtin "len") [v₁]) (Res B Kp σ Q G s) E s := by
  have h : (match seqOfV σ x with | some xs => Q (.int xs.length) | none => False) := h
  cases hx : seqOfV σ x with
  | none => rw [hx] at h; exact h.elim
  | some xs =>
    rw [hx] at h
    have key : listOfV σ x = some xs → wpAny B.M A (call (.builtin "len") [v₁]) (Res B Kp σ Q G s) E s := fun hx => by
      obtain ⟨a,vs,n,e,hg,z,l⟩ := list_at r r1 hx
      rw [e]
      refine Calls.call_function_entry kind_len plain_len entry_len (args_len1 _) (wpAny_len_body_list ⟨_,hg,rfl,n,rfl⟩ (line_63 z) (Res.here r rfl rfl rfl (.int _ _) ?_))
      rw [← Array.length_toList,l.length]; exact h
    cases x with
    | tup ys =>
      cases hx
      obtain ⟨a,vs,n,e,g,z,l⟩ := r1.inv
      rw [e]
      refine PySem.P.len_tuple (r.gin _ _ g) (Int.not_le.mpr (line_63 z)) (Res.here r rfl rfl rfl (.int _ _) ?_)
      rw [← Array.length_toList,l.length]; exact h
    | _ => exact key hx
noncomputable def typeW (a:V) (Q:V → Prop) : Prop :=
  match a with
  | .int _ => Q (.atom (.type "int"))
  | .bool _ => Q (.atom (.type "bool"))
  | .none => Q (.atom (.type "NoneType"))
  | _ => False
theorem leaf_type (r:Rel B Kp σ G s) (r1:B.R G v₁ x) (h:typeW x Q) : wpAny B.M A (call (.type "type") [v₁]) (Res B Kp σ Q G s) E s := by
  cases x with
  | int i => obtain ⟨_,e⟩ := r1.inv; rw [e]; exact call_type_of (Tx := "int") rfl (by decide) (Res.here r rfl rfl rfl (.atom _) h)
  | bool i => rw [r1.inv]; exact call_type_of (Tx := "bool") rfl (by decide) (Res.here r rfl rfl rfl (.atom _) h)
  | none => rw [r1.inv]; exact call_type_of (Tx := "NoneType") rfl (by decide) (Res.here r rfl rfl rfl (.atom _) h)
  | _ => exact h.elim
end
noncomputable def blts : List (Str × Value) := [(nm "len",.builtin "len"),(nm "type",.type "type"),(nm "dict",.type "dict"),(nm "list",.type "list"),(nm "range",.type "range"),(nm "enumerate",.type "enumerate"),
  (nm "zip",.type "zip"),(nm "sorted",.builtin "sorted"),(nm "all",.builtin "all"),(nm "int",.type "int"),(nm "bool",.type "bool")]
structure B0.OK (B:B0) : Prop where
  g : B.base.Ns mainGlobals B.mg
  b : B.base.Ns builtinsNs B.mb
  nolimit : B.base.NoLimit
  fn : ∀ (i:Nat) x,B.fns[i]? = some x → ∃ a o fd,B.mg x = some (.ref a) ∧ B.base.get? a = some o ∧ o.data = .func fd
  gl : ∀ (i:Nat) x d,B.gls[i]? = some x → B.gv[i]? = some d → ∃ v,B.mg x = some v ∧ B.R B.base.get? v d
  blt : ∀ x v,(x,v) ∈ blts → B.mg x = none ∧ B.mb x = some v
  bmod : ∃ bm ob,BMod B.base mainGlobals B.mg bm ob
section
variable {B:B0} {k:Nat} {c:Cx} {σ:Store} {L:Lc} {Q:V → Prop}
theorem bool_of {G:View} {v:Value} {d:V} {p:Bool} (rv:B.R G v d) (e:d = .bool p) : v = .bool p := by rw [e] at rv; exact rv.inv
theorem EVt.mono {t:Env → Sem Value} {Q':V → Prop} (h:EVt B k c σ L t Q) (q:∀ d,Q d → Q' d) : EVt B k c σ L t Q' :=
  fun A E s G Kp env b r f => Res.run (h A E s G Kp env b r f) fun _ _ G' d a1 a2 a3 a4 => ⟨G',d,a1,a2,a3,q d a4⟩
theorem okName_debug {x:Str} (h:okName x = true) : (x == ("__debug__" : Str)) = false := by
  unfold okName at h
  simp only [Bool.and_eq_true,Bool.not_eq_true'] at h
  exact h.1.1
theorem okName_classdict {x:Str} (h:okName x = true) : (x == ("__classdict__" : Str)) = false := by
  unfold okName at h
  simp only [Bool.and_eq_true,Bool.not_eq_true'] at h
  exact h.1.2
theorem okName_dot {x:Str} (h:okName x = true) : (x == (".0" : Str)) = false := by
  unfold okName at h
  simp only [Bool.and_eq_true,Bool.not_eq_true'] at h
  exact h.2
theorem isLocal_inv {c:Cx} {x:Str} {i:Nat} (h:isLocal c x = some i) : (c.scope.names.lookup x = some .local ∨ c.scope.names.lookup x = some .cell ∨ c.scope.names.lookup x = some .free) ∧ c.sc.lookup x = some i := by
  unfold isLocal at h
  by_cases ho : okName x = true
  · rw [if_pos ho] at h
    cases e : c.scope.names.lookup x with
    | none => rw [e] at h; exact noS h
    | some q =>
      rw [e] at h
      cases q with
      | «local» => exact ⟨.inl rfl,h⟩
      | cell => exact ⟨.inr (.inl rfl),h⟩
      | free => exact ⟨.inr (.inr rfl),h⟩
      | _ => exact noS h
  · rw [if_neg ho] at h; exact noS h
theorem isLocal_ok {x:Str} {i:Nat} (h:isLocal c x = some i) : okName x = true := by
  unfold isLocal at h
  split at h
  · assumption
  · cases h
theorem isGlob_ok {x:Str} (h:isGlob c x = true) : okName x = true ∧ c.scope.names.lookup x = some .globalImplicit := by
  unfold isGlob at h
  simp only [Bool.and_eq_true,beq_iff_eq] at h
  exact h
theorem EV_local {x:Str} {i:Nat} {d:V} {pos:Pos} (h:isLocal c x = some i) (hL:L[i]? = some (some d)) (q:Q d) : EV B k c σ L (.Name x pos) Q := by
  intro A E s G Kp env b r f
  obtain ⟨v,rv,hv⟩ := f.slot x i d h hL
  have hd := okName_debug (isLocal_ok h)
  rcases hv with ⟨hk,m,hn,hm⟩ | ⟨hk,cc,hc,hi⟩
  · exact wpAny_Name (wpAny_loadName_local f.kind hk (hn.keeps r.kin) hm (Res.here r rfl rfl rfl rv q)) hd
  · have hi' : s.heap.IsCell cc (some v) := by
      obtain ⟨o,h1,h2⟩ := hi
      exact ⟨o,r.kin _ _ h1,h2⟩
    rcases hk with hk | hk
    · exact wpAny_Name (wpAny_loadName_cell f.kind hk hc hi' (Res.here r rfl rfl rfl rv q)) hd
    · exact wpAny_Name (wpAny_loadName_free f.kind hk hc hi' (Res.here r rfl rfl rfl rv q) (okName_classdict (isLocal_ok h))) hd
theorem name_global {x:Str} {v:Value} {pos:Pos} {A:Around} {E:Value → Shared → Prop} {s:Shared} {G:View} {Kp:Heap} {env:Env} {Q:Value → Shared → Prop} (hB:B.OK) (hg:isGlob c x = true) (r:Rel B Kp σ G s) (f:FRx B c env L G Kp)
    (hv:B.mg x = some v) (h:Q v s) : wpAny B.M A (eval (.Name x pos) env) Q E s := by
  obtain ⟨h1,h2⟩ := isGlob_ok hg
  refine Name_function_global f.kind (f.kinds x h2) (loadGlobal_global (mg := B.mg) ?_ hv h) (okName_debug h1)
  rw [f.glob]
  exact hB.g.keeps r.keeps
theorem name_builtin {x:Str} {v:Value} {pos:Pos} {A:Around} {E:Value → Shared → Prop} {s:Shared} {G:View} {Kp:Heap} {env:Env} {Q:Value → Shared → Prop} (hB:B.OK) (hg:isGlob c x = true) (r:Rel B Kp σ G s) (f:FRx B c env L G Kp)
    (hv:(x,v) ∈ blts) (h:Q v s) : wpAny B.M A (eval (.Name x pos) env) Q E s := by
  obtain ⟨h1,h2⟩ := isGlob_ok hg
  obtain ⟨m1,m2⟩ := hB.blt x v hv
  refine Name_function_global f.kind (f.kinds x h2) (loadGlobal_builtin (mg := B.mg) (mb := B.mb) ?_ m1 ?_ m2 h) (okName_debug h1)
  · rw [f.glob]; exact hB.g.keeps r.keeps
  · rw [f.blt]; exact hB.b.keeps r.keeps
theorem EV_gl {x:Str} {i:Nat} {d:V} {pos:Pos} (hB:B.OK) (hg:isGlob c x = true) (hi:B.gls[i]? = some x) (hd:B.gv[i]? = some d) (q:Q d) : EV B k c σ L (.Name x pos) Q := by
  intro A E s G Kp env b r f
  obtain ⟨v,h1,h2⟩ := hB.gl i x d hi hd
  exact name_global hB hg r f h1 (Res.here r rfl rfl rfl (h2.mono r.bas) q)
theorem EV_tyname {x:Str} {v:Value} {pos:Pos} (hB:B.OK) (hg:isGlob c x = true) (hv:(x,v) ∈ blts) (q:Q (.atom v)) : EV B k c σ L (.Name x pos) Q := by
  intro A E s G Kp env b r f
  exact name_builtin hB hg r f hv (Res.here r rfl rfl rfl (.atom v) q)
theorem EV_const {cv:Const} {d:V} {n:Nat} {pos:Pos} (h:cConst cv = some d) (q:Q d) : EV B k c σ L (.Constant cv n pos) Q := by
  intro A E s G Kp env b r f
  cases cv <;> simp only [cConst,Option.some.injEq,reduceCtorEq] at h <;> subst h
  · exact wpAny_Constant_none (Res.here r rfl rfl rfl .none q)
  · exact wpAny_Constant_bool (Res.here r rfl rfl rfl (.bool _) q)
  · exact wpAny_Constant_int (Res.here r rfl rfl rfl (.int _ _) q)
  · exact wpAny_Constant_str (Res.here r rfl rfl rfl (.str rfl) q)
noncomputable def notStar : Expr → Bool
  | .Starred _ _ => false
  | _ => true
theorem starEach_cons {e:Expr} {es:List Expr} {env:Env} (h:notStar e = true) : starEach (e :: es) env = (false,eval e env) :: starEach es env := by
  cases e <;> first | rfl | simp [notStar] at h
theorem EVs_nil {Q:List V → Prop} (q:Q []) : EVs B k c σ L [] Q := by
  intro A E s G Kp env pos b r f
  exact wpAny_items_nil ⟨G,[],Step.refl G s,r,.nil,q⟩
theorem EVs_cons {e:Expr} {es:List Expr} {Q:List V → Prop} (hs:notStar e = true) (h:EV B k c σ L e fun d => EVs B k c σ L es fun ds => Q (d :: ds)) : EVs B k c σ L (e :: es) Q := by
  intro A E s G Kp env pos b r f
  refine wpAny_items_cons (Res.run (h A E s G Kp env b r f) fun v s₁ G₁ d st r₁ rv q => ?_) (starEach_cons hs)
  exact ResL.run (q A E s₁ G₁ Kp env pos b r₁ (f.mono st.le)) fun vs s₂ G₂ ds st₂ r₂ rvs q₂ => ⟨G₂,d :: ds,st.trans st₂,r₂,.cons (rv.mono st₂.le) rvs,q₂⟩
theorem EV_tuple {es:List Expr} {n:Nat} {pos:Pos} (h:EVs B k c σ L es fun ds => ds.length ≤ sizeLine ∧ Q (.tup ds)) : EV B k c σ L (.Tuple es n pos) Q := by
  intro A E s G Kp env b r f
  refine wpAny_Tuple_spliced (ResL.run (h A E s G Kp env pos b r f) fun vs s₁ G₁ ds st r₁ rv q0 => ?_)
  obtain ⟨hz,q⟩ := q0
  have e := rv.length
  refine ⟨by omega,Res.step st (Res.push r₁ rfl (.tup (View.add_self _ _ _) (by simp; omega) ?_) q)⟩
  exact rv.mono (VLe.add r₁.none_size _)
theorem EV_list {es:List Expr} {pos:Pos} (h:EVs B k c σ L es fun ds => ds.length ≤ sizeLine ∧ Q (.lst ds)) : EV B k c σ L (.List es pos) Q := by
  intro A E s G Kp env b r f
  refine wpAny_List_spliced (ResL.run (h A E s G Kp env pos b r f) fun vs s₁ G₁ ds st r₁ rv q0 => ?_)
  obtain ⟨hz,q⟩ := q0
  have e := rv.length
  refine ⟨by omega,Res.step st (Res.push r₁ rfl (.lst (View.add_self _ _ _) (by simp; omega) ?_) q)⟩
  exact rv.mono (VLe.add r₁.none_size _)
theorem EV_bin {l r':Expr} {op:Operator} {bo:BOp} {pos:Pos} (hb:cBin op = some bo) (h:EV B k c σ L l fun x => EV B k c σ L r' fun y => binW σ bo x y Q) : EV B k c σ L (.BinOp l op r' pos) Q := by
  intro A E s G Kp env b r f
  refine wpAny_BinOp (Res.run (h A E s G Kp env b r f) fun v₁ s₁ G₁ x st r₁ rv q => ?_)
  refine Res.run (q A E s₁ G₁ Kp env b r₁ (f.mono st.le)) fun v₂ s₂ G₂ y st₂ r₂ rv₂ q₂ => ?_
  exact Res.thenStep (leaf_bin hb r₂ (rv.mono st₂.le) rv₂ q₂) (st.trans st₂)
theorem EV_cmp {l r':Expr} {op:CmpOp} {pos:Pos} (hm:behindInMarks op r' = false) (h:EV B k c σ L l fun x => EV B k c σ L r' fun y => cmpW (cCmp op) x y Q) : EV B k c σ L (.Compare l [op] [r'] pos) Q := by
  intro A E s G Kp env b r f
  refine wpAny_Compare1 (Res.run (h A E s G Kp env b r f) fun v₁ s₁ G₁ x st r₁ rv q => ?_) hm
  refine Res.run (q A E s₁ G₁ Kp env b r₁ (f.mono st.le)) fun v₂ s₂ G₂ y st₂ r₂ rv₂ q₂ => ?_
  exact Res.thenStep (leaf_cmp b r₂ (rv.mono st₂.le) rv₂ q₂) (st.trans st₂)
theorem EV_idx {v i:Expr} {pos:Pos} (hs:∀ o j,subscripted i false o j = operate [o,j] (getItem o j)) (h:EV B k c σ L v fun x => EV B k c σ L i fun y => idxW σ x y Q) : EV B k c σ L (.Subscript v i pos) Q := by
  intro A E s G Kp env b r f
  refine Subscript_ (Res.run (h A E s G Kp env b r f) fun v₁ s₁ G₁ x st r₁ rv q => ?_)
  refine Res.run (q A E s₁ G₁ Kp env b r₁ (f.mono st.le)) fun v₂ s₂ G₂ y st₂ r₂ rv₂ q₂ => ?_
  exact Res.thenStep (leaf_idx hs r₂ (rv.mono st₂.le) rv₂ q₂) (st.trans st₂)
noncomputable def EVo (B:B0) (k:Nat) (c:Cx) (σ:Store) (L:Lc) (e:Option Expr) (Q:V → Prop) : Prop := EVt B k c σ L (evalPart e) Q
theorem EVo_none (q:Q .none) : EVo B k c σ L none Q := fun A E s G Kp env b r f => wpAny_evalPart_none (Res.here r rfl rfl rfl .none q)
theorem EVo_some {e:Expr} (h:EV B k c σ L e Q) : EVo B k c σ L (some e) Q := fun A E s G Kp env b r f => wpAny_evalPart_some (h A E s G Kp env b r f)
theorem EV_sl {v:Expr} {lo hi:Option Expr} {p pos:Pos} (h:EV B k c σ L v fun x => EVo B k c σ L lo fun y => EVo B k c σ L hi fun z => slW σ x y z Q) : EV B k c σ L (.Subscript v (.Slice lo hi none p) pos) Q := by
  intro A E s G Kp env b r f
  refine Subscript_ (Res.run (h A E s G Kp env b r f) fun v₁ s₁ G₁ x st r₁ rv q => ?_)
  refine wpAny_Slice (Res.run (q A E s₁ G₁ Kp env b r₁ (f.mono st.le)) fun v₂ s₂ G₂ y st₂ r₂ rv₂ q₂ => ?_)
  refine Res.run (q₂ A E s₂ G₂ Kp env b r₂ (f.mono (st.le.trans st₂.le))) fun v₃ s₃ G₃ z st₃ r₃ rv₃ q₃ => ?_
  refine wpAny_evalPart_none ?_
  obtain ⟨T,id,hT,hl,hg⟩ := getItem_slice (A := A) (E := E) (r₃.pushRaw { cls := .type "slice",data := .fields #[v₂,v₃,.none] }) (rv.mono (st₂.le.trans st₃.le)) (rv₂.mono st₃.le) rv₃ (Heap.get?_push_size _ rfl) q₃
  exact tail_any hT hl (Res.thenStep hg (((st.trans st₂).trans st₃).trans (Step.pushRaw _ _ _))) rfl
theorem EV_rev {v:Expr} {n:Nat} {p1 p2 p pos:Pos} (h:EV B k c σ L v fun x => revW σ x Q) : EV B k c σ L (.Subscript v (.Slice none none (some (.UnaryOp .USub (.Constant (.int 1) n p1) p2)) p) pos) Q := by
  intro A E s G Kp env b r f
  refine Subscript_ (Res.run (h A E s G Kp env b r f) fun v₁ s₁ G₁ x st r₁ rv q => ?_)
  refine wpAny_Slice (wpAny_evalPart_none (wpAny_evalPart_none (wpAny_evalPart_some (wpAny_UnaryOp (wpAny_Constant_int (P.neg_int ?_))))))
  have r₂ : Rel B Kp σ G₁ { s₁ with toks := s₁.toks + 1 + 1 } := r₁.toks rfl
  have st2 : Step G₁ G₁ s₁ { s₁ with toks := s₁.toks + 1 + 1 } := Step.toks G₁ rfl rfl rfl
  obtain ⟨hT,hg⟩ := getItem_rev (A := A) (E := E) (Q := Q) (t := s₁.toks + 1) (r₂.pushRaw { cls := .type "slice",data := .fields #[.none,.none,.int (-1) (s₁.toks + 1)] }) rv (Heap.get?_push_size _ rfl) q
  refine tail_any hT PySem.F.slot_list_getitem.lookup (Res.thenStep hg ((st.trans st2).trans (Step.pushRaw _ _ _))) (ops := [_,_]) rfl
noncomputable def notW (x:V) (Q:V → Prop) : Prop :=
  match x with
  | .bool b => Q (.bool (!b))
  | _ => False
theorem EV_not {x:Expr} {pos:Pos} (h:EV B k c σ L x fun d => notW d Q) : EV B k c σ L (.UnaryOp .Not x pos) Q := by
  intro A E s G Kp env b r f
  refine wpAny_UnaryOp (Res.run (h A E s G Kp env b r f) fun v₁ s₁ G₁ x st r₁ rv q => ?_)
  cases x with
  | bool p => rw [rv.inv]; exact not_of (wpAny_truthy_bool (Res.step st (Res.here r₁ rfl rfl rfl (.bool _) q)))
  | _ => exact q.elim
noncomputable def negW (x:V) (Q:V → Prop) : Prop :=
  match x with
  | .int i => Q (.int (-i))
  | _ => False
theorem EV_neg {x:Expr} {pos:Pos} (h:EV B k c σ L x fun d => negW d Q) : EV B k c σ L (.UnaryOp .USub x pos) Q := by
  intro A E s G Kp env b r f
  refine wpAny_UnaryOp (Res.run (h A E s G Kp env b r f) fun v₁ s₁ G₁ x st r₁ rv q => ?_)
  cases x with
  | int i => obtain ⟨_,e⟩ := rv.inv; rw [e]; exact P.neg_int (Res.step st (Res.here r₁ rfl rfl rfl (.int _ _) q))
  | _ => exact q.elim
theorem EV_and {x y:Expr} {pos:Pos} (h:EV B k c σ L x fun d => ∃ p,d = .bool p ∧ (p = true → EV B k c σ L y Q) ∧ (p = false → Q (.bool false))) : EV B k c σ L (.BoolOp .And [x,y] pos) Q := by
  intro A E s G Kp env b r f
  refine wpAny_And2 (Res.run (h A E s G Kp env b r f) fun v₁ s₁ G₁ d st r₁ rv q0 => ?_)
  obtain ⟨p,e,h1,h2⟩ := q0
  rw [bool_of rv e]
  refine wpAny_truthy_bool ?_
  cases p with
  | true => exact Res.thenStep (h1 rfl A E s₁ G₁ Kp env b r₁ (f.mono st.le)) st
  | false => exact Res.step st (Res.here r₁ rfl rfl rfl (.bool _) (h2 rfl))
theorem EV_or {x y:Expr} {pos:Pos} (h:EV B k c σ L x fun d => ∃ p,d = .bool p ∧ (p = false → EV B k c σ L y Q) ∧ (p = true → Q (.bool true))) : EV B k c σ L (.BoolOp .Or [x,y] pos) Q := by
  intro A E s G Kp env b r f
  refine wpAny_Or2 (Res.run (h A E s G Kp env b r f) fun v₁ s₁ G₁ d st r₁ rv q0 => ?_)
  obtain ⟨p,e,h1,h2⟩ := q0
  rw [bool_of rv e]
  refine wpAny_truthy_bool ?_
  cases p with
  | false => exact Res.thenStep (h1 rfl A E s₁ G₁ Kp env b r₁ (f.mono st.le)) st
  | true => exact Res.step st (Res.here r₁ rfl rfl rfl (.bool _) (h2 rfl))
theorem ResB.step {Kp:Heap} {Q:Bool → Prop} {G G₁:View} {s s₁ s':Shared} {v:Bool} (st:Step G G₁ s s₁) (h:ResB B Kp σ Q G₁ s₁ v s') : ResB B Kp σ Q G s v s' := by
  obtain ⟨G',a,b,q⟩ := h
  exact ⟨G',st.trans a,b,q⟩
theorem ResB.thenStep {A:Around} {E:Value → Shared → Prop} {Kp:Heap} {Q:Bool → Prop} {G G₁:View} {s s₁ s₀:Shared} {m:Sem Bool} (h:wpAny B.M A m (ResB B Kp σ Q G₁ s₁) E s₀) (st:Step G G₁ s s₁) : wpAny B.M A m (ResB B Kp σ Q G s) E s₀ :=
  wpAny_mono h (fun _ _ x => ResB.step st x) fun _ _ e => e
theorem ResB.here {Kp:Heap} {Q:Bool → Prop} {G:View} {s:Shared} {v:Bool} (r:Rel B Kp σ G s) (q:Q v) : ResB B Kp σ Q G s v s := ⟨G,Step.refl G s,r,q⟩
theorem EV_ite {t x y:Expr} {pos:Pos} (h:TV B k c σ L t fun p => (p = true → EV B k c σ L x Q) ∧ (p = false → EV B k c σ L y Q)) : EV B k c σ L (.IfExp t x y pos) Q := by
  intro A E s G Kp env b r f
  refine wpAny_IfExp (ResB.run (h A E s G Kp env b r f) fun p s₁ G₁ st r₁ q0 => ?_)
  obtain ⟨h1,h2⟩ := q0
  cases p with
  | true => exact Res.thenStep (h1 rfl A E s₁ G₁ Kp env b r₁ (f.mono st.le)) st
  | false => exact Res.thenStep (h2 rfl A E s₁ G₁ Kp env b r₁ (f.mono st.le)) st
end
section
variable {B:B0} {k:Nat} {c:Cx} {σ:Store} {L:Lc} {Q:Bool → Prop}
theorem TV_not {x:Expr} {pos:Pos} (h:TV B k c σ L x fun p => Q (!p)) : TV B k c σ L (.UnaryOp .Not x pos) Q := by
  intro A E s G Kp env b r f
  exact wpAny_isTrue_Not (ResB.run (h A E s G Kp env b r f) fun _ _ G' a b q => ⟨G',a,b,q⟩)
theorem TV_and {x y:Expr} {pos:Pos} (h:TV B k c σ L x fun p => (p = true → TV B k c σ L y Q) ∧ (p = false → Q false)) : TV B k c σ L (.BoolOp .And [x,y] pos) Q := by
  intro A E s G Kp env b r f
  refine wpAny_isTrue_BoolOp (wpAny_allTrue_And_cons (ResB.run (h A E s G Kp env b r f) fun p s₁ G₁ st r₁ q0 => ?_))
  obtain ⟨h1,h2⟩ := q0
  cases p with
  | true =>
    refine wpAny_allTrue_And_cons (wpAny_mono (h1 rfl A E s₁ G₁ Kp env b r₁ (f.mono st.le)) (fun q s₃ h₃ => ?_) fun _ _ e => e)
    cases q with
    | true => exact wpAny_allTrue_And_nil (ResB.step st h₃)
    | false => exact ResB.step st h₃
  | false => exact ResB.step st (ResB.here r₁ (h2 rfl))
theorem TV_or {x y:Expr} {pos:Pos} (h:TV B k c σ L x fun p => (p = false → TV B k c σ L y Q) ∧ (p = true → Q true)) : TV B k c σ L (.BoolOp .Or [x,y] pos) Q := by
  intro A E s G Kp env b r f
  refine wpAny_isTrue_BoolOp (wpAny_allTrue_Or_cons (ResB.run (h A E s G Kp env b r f) fun p s₁ G₁ st r₁ q0 => ?_))
  obtain ⟨h1,h2⟩ := q0
  cases p with
  | false =>
    refine wpAny_allTrue_Or_cons (wpAny_mono (h1 rfl A E s₁ G₁ Kp env b r₁ (f.mono st.le)) (fun q s₃ h₃ => ?_) fun _ _ e => e)
    cases q with
    | false => exact wpAny_allTrue_Or_nil (ResB.step st h₃)
    | true => exact ResB.step st h₃
  | true => exact ResB.step st (ResB.here r₁ (h2 rfl))
theorem TV_ite {t x y:Expr} {pos:Pos} (h:TV B k c σ L t fun p => (p = true → TV B k c σ L x Q) ∧ (p = false → TV B k c σ L y Q)) : TV B k c σ L (.IfExp t x y pos) Q := by
  intro A E s G Kp env b r f
  refine isTrue_IfExp (ResB.run (h A E s G Kp env b r f) fun p s₁ G₁ st r₁ q0 => ?_)
  obtain ⟨h1,h2⟩ := q0
  cases p with
  | true => exact ResB.thenStep (h1 rfl A E s₁ G₁ Kp env b r₁ (f.mono st.le)) st
  | false => exact ResB.thenStep (h2 rfl A E s₁ G₁ Kp env b r₁ (f.mono st.le)) st
theorem TV_cmp {l r':Expr} {op:CmpOp} {pos:Pos} (hm:behindInMarks op r' = false) (h:EV B k c σ L l fun x => EV B k c σ L r' fun y => cmpW (cCmp op) x y fun d => ∃ p,d = .bool p ∧ Q p) : TV B k c σ L (.Compare l [op] [r'] pos) Q := by
  intro A E s G Kp env b r f
  refine wpAny_isTrue_Compare1 (Res.run (h A E s G Kp env b r f) fun v₁ s₁ G₁ x st r₁ rv q => ?_) hm
  refine Res.run (q A E s₁ G₁ Kp env b r₁ (f.mono st.le)) fun v₂ s₂ G₂ y st₂ r₂ rv₂ q₂ => ?_
  refine Res.run (leaf_cmp b r₂ (rv.mono st₂.le) rv₂ q₂) fun v s₃ G₃ d st₃ r₃ rv₃ q0 => ?_
  obtain ⟨p,e,q₃⟩ := q0
  rw [bool_of rv₃ e]
  exact wpAny_truthy_bool ⟨G₃,(st.trans st₂).trans st₃,r₃,q₃⟩
theorem TV_val {e:Expr} (he:∀ env whole,isTrue e env whole = (do let v ← whole; standAt e.pos; holding [v] (truthy v))) (h:EV B k c σ L e fun d => ∃ p,d = .bool p ∧ Q p) : TV B k c σ L e Q := by
  intro A E s G Kp env b r f
  refine wpAny_isTrue_value (Res.run (h A E s G Kp env b r f) fun v s₁ G₁ d st r₁ rv q0 => ?_) (he _ _)
  obtain ⟨p,e,q⟩ := q0
  rw [bool_of rv e]
  exact wpAny_truthy_bool ⟨G₁,st,r₁,q⟩
end
section
variable {B:B0} {k:Nat} {c:Cx} {σ:Store} {L:Lc} {Q:V → Prop}
theorem evalArgs_of {fv:Value} {e:Expr} {es:List Expr} {pos:Pos} {A:Around} {E:Value → Shared → Prop} {s:Shared} {G:View} {Kp:Heap} {env:Env} {R:List V → Prop} {Q':Args → Shared → Prop}
    (hs:notStar e = true) (h:EVs B k c σ L (e :: es) R) (b:Bud k A) (r:Rel B Kp σ G s) (f:FRx B c env L G Kp)
    (q:∀ vs s' G' ds,Step G G' s s' → Rel B Kp σ G' s' → B.RL G' vs ds → R ds → Q' ⟨vs,[]⟩ s') :
    wpAny B.M A (evalArgs fv true (backTo pos (starEach (e :: es) env)) []) Q' E s := by
  have h1 := h A E s G Kp env pos b r f
  rw [starEach_cons hs] at h1 ⊢
  exact evalArgs_plain (ResL.run h1 fun vs s' G' ds a1 a2 a3 a4 => q vs s' G' ds a1 a2 a3 a4)
theorem plainArgs {e:Expr} {es:List Expr} {pos:Pos} {env:Env} (h:∀ x ∈ es,notStar x = true) : (backTo pos (starEach es env)).any (·.1) = false := by
  induction es with
  | nil => rfl
  | cons x xs ih =>
    rw [starEach_cons (h x (.head _))]
    show (false || (backTo pos (starEach xs env)).any (·.1)) = false
    rw [ih fun y hy => h y (.tail _ hy)]
    rfl
theorem EV_call {fx:Str} {fi:Nat} {e:Expr} {es:List Expr} {p pos:Pos} (hB:B.OK) (hg:isGlob c fx = true) (hf:B.fns[fi]? = some fx) (hs:notStar e = true)
    (h:EVs B k c σ L (e :: es) fun vs => ∃ v,CallP B k fi vs σ v ∧ Q v) : EV B k c σ L (.Call (.Name fx p) (e :: es) [] pos) Q := by
  intro A E s G Kp env b r f
  obtain ⟨fa,o,fd,h1,h2,h3⟩ := hB.fn fi fx hf
  refine wpAny_Call_NameR (name_global hB hg r f h1 ?_)
  refine callWith_function (o := o) (fd := fd) (evalArgs_of hs h b r f fun vs s' G' ds st r' rl hv => ⟨⟨r'.keeps _ _ h2,h3⟩,?_⟩)
  obtain ⟨v,hc,q⟩ := hv
  refine ResM.run (hc A E s' G' Kp vs fx fa b r' rl hf h1) fun u s₂ G₂ σ₂ d a1 a2 a3 q0 => ?_
  obtain ⟨e1,e2⟩ := q0
  subst e1; subst e2
  exact ⟨G₂,d,st.trans a1,a2,a3,q⟩
theorem EV_blt {fx:Str} {id:String} {e:Expr} {es:List Expr} {p pos:Pos} (hB:B.OK) (hg:isGlob c fx = true) (hf:(fx,Value.builtin id) ∈ blts) (hs:∀ x ∈ e :: es,notStar x = true)
    (h:EVs B k c σ L (e :: es) fun ds => ∀ A E s G Kp vs,Bud k A → Rel B Kp σ G s → B.RL G vs ds → wpAny B.M A (call (.builtin id) vs) (Res B Kp σ Q G s) E s) : EV B k c σ L (.Call (.Name fx p) (e :: es) [] pos) Q := by
  intro A E s G Kp env b r f
  refine wpAny_Call_NameR (name_builtin hB hg r f hf ?_)
  refine callWith_builtin (plainArgs (e := e) hs) (evalArgs_of (hs e (.head _)) h b r f fun vs s' G' ds st r' rl q => ?_)
  exact Res.thenStep (q A E s' G' Kp vs b r' rl) st
theorem EV_blty {fx:Str} {id:String} {e:Expr} {es:List Expr} {p pos:Pos} (hB:B.OK) (hg:isGlob c fx = true) (hf:(fx,Value.type id) ∈ blts) (hs:∀ x ∈ e :: es,notStar x = true)
    (h:EVs B k c σ L (e :: es) fun ds => ∀ A E s G Kp vs,Bud k A → Rel B Kp σ G s → B.RL G vs ds → wpAny B.M A (call (.type id) vs) (Res B Kp σ Q G s) E s) : EV B k c σ L (.Call (.Name fx p) (e :: es) [] pos) Q := by
  intro A E s G Kp env b r f
  refine wpAny_Call_NameR (name_builtin hB hg r f hf ?_)
  refine PySem.callWith_type (plainArgs (e := e) hs) (evalArgs_of (hs e (.head _)) h b r f fun vs s' G' ds st r' rl q => ?_)
  exact Res.thenStep (q A E s' G' Kp vs b r' rl) st
noncomputable def getW (σ:Store) (a i x:V) (Q:V → Prop) : Prop :=
  match a,i with
  | .ed xs,.int j => Q (if 0 ≤ j then (xs[j.toNat]?).getD x else x)
  | _,.str cs => (match dictOfV σ a with
    | some kvs => Q ((kvs.lookup cs).getD x)
    | none => False)
  | _,_ => False
theorem base_plain {o:Expr} {m:Str} {env:Env} {t:Sem Value} (h:nullary o = false) : attributeBase o m env t = t := by
  cases o with
  | Call f es kw pos => cases es with
    | nil => cases h
    | cons a r => cases f <;> rfl
  | _ => rfl
theorem ed_find {prog:Program} {w:World} {G:View} {kvs:List (Int × Value)} {ds:List V} (h1:kvs.map (·.1) = (List.range ds.length).map Int.ofNat) (h2:RepL prog w G (kvs.map (·.2)) ds) (j:Int) {dv:Value} {d:V} (hd:RepV prog w G dv d) :
    RepV prog w G ((valueAt kvs j).getD dv) (if 0 ≤ j then (ds[j.toNat]?).getD d else d) := by
  have hlen : kvs.length = ds.length := by have := h2.length; rw [List.length_map] at this; exact this
  have hkey : ∀ i (hi:i < kvs.length),kvs[i].1 = (i:Int) := by
    intro i hi
    have e := congrArg (fun l => l[i]?) h1
    simp only [List.getElem?_map,List.getElem?_eq_getElem hi,Option.map_some] at e
    rw [List.getElem?_range (by rw [← hlen]; exact hi)] at e
    exact Option.some.inj e
  have hv : ¬ (0 ≤ j ∧ j.toNat < ds.length) → valueAt kvs j = none := fun hno => by
    unfold valueAt
    rw [List.find?_eq_none.mpr]
    · rfl
    · intro p hp e
      obtain ⟨i,hi,rfl⟩ := List.getElem_of_mem hp
      have := hkey i hi
      simp at e
      omega
  by_cases h0 : 0 ≤ j
  · rw [if_pos h0]
    by_cases hj : j.toNat < ds.length
    · have hj' : j.toNat < kvs.length := by rw [hlen]; exact hj
      have hk : kvs[j.toNat]? = some (j,(kvs[j.toNat]'hj').2) := by
        rw [List.getElem?_eq_getElem hj']
        exact congrArg some (Prod.ext ((hkey j.toNat hj').trans (Int.toNat_of_nonneg h0)) rfl)
      have hn : (kvs.map (·.1)).Nodup := by
        rw [h1]
        exact List.Pairwise.map Int.ofNat (fun a b hab e => hab (by injection e)) List.nodup_range
      rw [valueAt_of_get hn hk]
      obtain ⟨v,hv,hr⟩ := h2.get (k := j.toNat) (d := ds[j.toNat]) (List.getElem?_eq_getElem hj)
      rw [List.getElem?_map,hk] at hv
      rw [List.getElem?_eq_getElem hj]
      rw [← Option.some.inj hv] at hr
      exact hr
    · rw [hv fun q => hj q.2,List.getElem?_eq_none (Nat.not_lt.mp hj)]
      exact hd
  · rw [if_neg h0,hv fun q => h0 q.1]
    exact hd
noncomputable def isD (σ:Store) : V → Bool
  | .ed _ => true
  | a => (dictOfV σ a).isSome
theorem getW_str {σ:Store} {a i x:V} {Q:V → Prop} {ds:List (List Nat × V)} (hd:dictOfV σ a = some ds) (h:getW σ a i x Q) : ∃ cs,i = .str cs ∧ Q ((ds.lookup cs).getD x) := by
  cases i with
  | str cs =>
    have h : (match dictOfV σ a with | some kvs => Q ((kvs.lookup cs).getD x) | none => False) := by cases a <;> exact h
    rw [hd] at h
    exact ⟨cs,rfl,h⟩
  | int j => cases a <;> first | exact h.elim | cases hd
  | _ => cases a <;> exact h.elim
theorem EV_get {o e1 e2:Expr} {ap pos:Pos} (hn:nullary o = false) (hl:(ap.endLine == pos.line) = true) (h1:notStar e1 = true) (h2:notStar e2 = true)
    (h:EV B k c σ L o fun a => isD σ a = true ∧ EV B k c σ L e1 fun i => EV B k c σ L e2 fun x => getW σ a i x Q) : EV B k c σ L (.Call (.Attribute o (nm "get") ap) [e1,e2] [] pos) Q := by
  intro A E s G Kp env b r f
  have hst : starEach [e1,e2] env = [(false,eval e1 env),(false,eval e2 env)] := by rw [starEach_cons h1,starEach_cons h2]; rfl
  refine wpAny_Call_method (T := "dict") (id := "dict.get") (base_plain hn) (by rw [hst]; rfl) hl F.plainAttrs_dict F.slot_dict_get F.type_dict_get ?_
  refine Res.run (h A E s G Kp env b r f) fun v₁ s₁ G₁ a st r₁ rv q0 => ?_
  obtain ⟨hd,q⟩ := q0
  rw [hst]
  by_cases hed : ∃ xs,a = .ed xs
  · obtain ⟨xs,rfl⟩ := hed
    obtain ⟨ad,o',kvs,e0,g,di,n,e,l⟩ := rv.inv
    rw [e0]
    have hD : s₁.heap.DictOf (PySem.intKind B.prog B.w) ad kvs := Heap.dictOf_iff.mpr ⟨_,r₁.gin _ _ g,di⟩
    refine ⟨hD.typeIs,hD.mapOf.noDict,?_⟩
    refine wpAny_dict_get2 (knd := PySem.intKind B.prog B.w) n (Res.run (q A E s₁ G₁ Kp env b r₁ (f.mono st.le)) fun v₂ s₂ G₂ i st₂ r₂ rv₂ q₂ => ?_)
    refine Res.run (q₂ A E s₂ G₂ Kp env b r₂ (f.mono (st.le.trans st₂.le))) fun v₃ s₃ G₃ x st₃ r₃ rv₃ q₃ => ?_
    cases i with
    | int j =>
      replace q₃ : Q (if 0 ≤ j then (xs[j.toNat]?).getD x else x) := q₃
      obtain ⟨t,e2⟩ := rv₂.inv
      rw [e2]
      have hD3 : s₃.heap.DictOf (PySem.intKind B.prog B.w) ad kvs := Heap.dictOf_iff.mpr ⟨_,r₃.gin _ _ (st₃.le _ _ (st₂.le _ _ g)),di⟩
      refine ⟨j,valueAt kvs,intKind_is B.prog B.w j t,hD3.mapOf,?_⟩
      exact Res.step ((st.trans st₂).trans st₃) (Res.here r₃ rfl rfl rfl (ed_find e (l.mono (st₂.le.trans st₃.le)) j rv₃) q₃)
    | _ => exact q₃.elim
  · have hd' : (dictOfV σ a).isSome = true := by
      cases a <;> first | exact hd | exact absurd ⟨_,rfl⟩ hed
    obtain ⟨ds,hds⟩ := Option.isSome_iff_exists.mp hd'
    obtain ⟨ad,kvs,e0,n,hD,hR⟩ := dict_at r₁ rv hds
    rw [e0]
    refine ⟨hD.typeIs,hD.mapOf.noDict,?_⟩
    refine wpAny_dict_get2 (knd := PySem.strKind B.prog B.w) n (Res.run (q A E s₁ G₁ Kp env b r₁ (f.mono st.le)) fun v₂ s₂ G₂ i st₂ r₂ rv₂ q₂ => ?_)
    refine Res.run (q₂ A E s₂ G₂ Kp env b r₂ (f.mono (st.le.trans st₂.le))) fun v₃ s₃ G₃ x st₃ r₃ rv₃ q₃ => ?_
    obtain ⟨ad',kvs',e1,n',hD',hR'⟩ := dict_at r₃ (rv.mono (st₂.le.trans st₃.le)) hds
    obtain ⟨cs,rfl,q₄⟩ := getW_str hds q₃
    obtain ⟨xs,t,e2,e3⟩ := rv₂.inv
    rw [e2]
    rw [← e3] at q₄
    rw [e0] at e1
    cases e1
    refine ⟨xs,valueAt kvs',strKind_is B.prog B.w xs t,hD'.mapOf,Res.step ((st.trans st₂).trans st₃) (Res.here r₃ rfl rfl rfl ?_ q₄)⟩
    rcases hR'.find xs with ⟨e3,e4⟩ | ⟨v,d,e3,e4,rd⟩
    · rw [e3,e4]; exact rv₃
    · rw [e3,e4]; exact rd
end
structure Itr (B:B0) (A:Around) (tgt:Expr) (I:Addr) (wr:List Addr) (xs:List V) (St:Nat → View → Heap → Prop) : Prop where
  frame : ∀ i G G' h h',St i G h → VLe G G' → (∀ a o,G' a = some o → h'.get? a = some o) → (∀ b ∈ wr,G' b = none) → (∀ b ∈ wr,∀ o,h.get? b = some o → h'.get? b = some o) → St i G' h'
  item : ∀ i (s:Shared) (G:View) (E:Value → Shared → Prop) (Q:Value → Shared → Prop) (d:V),xs[i]? = some d → St i G s.heap → (∀ a o,G a = some o → s.heap.get? a = some o) →
    (∀ v s₂ G₂,Step G G₂ s s₂ → (∀ a o,G₂ a = some o → s₂.heap.get? a = some o) → B.R G₂ v d → St (i + 1) G₂ s₂.heap → (∀ b o,b ∉ wr → s.heap.get? b = some o → s₂.heap.get? b = some o) → Q v s₂) →
    wpAny B.M A (pyNext (.ref I)) (fun r s₁ => ∃ v,r = some v ∧ wpAny B.M A (letOwnedTupleGo tgt (.ref I) v) (fun _ s₂ => Q v s₂) E s₁) E s
  done : ∀ (s:Shared) (G:View) (E:Value → Shared → Prop) (Q:Option Value → Shared → Prop),St xs.length G s.heap → (∀ a o,G a = some o → s.heap.get? a = some o) →
    (∀ s',(∀ b o,b ∉ wr → s.heap.get? b = some o → s'.heap.get? b = some o) → s'.os = s.os → s'.gens = s.gens → Q none s') → wpAny B.M A (pyNext (.ref I)) Q E s
  self : ∀ i (s:Shared) (G:View) (E:Value → Shared → Prop) (Q:Value → Shared → Prop),St i G s.heap → (∀ a o,G a = some o → s.heap.get? a = some o) → Q (.ref I) s → wpAny B.M A (pyIter (.ref I)) Q E s
inductive ResR (B:B0) (A:Around) (tgt:Expr) (Kp:Heap) (σ:Store) (P:List V → Prop) (G:View) (s:Shared) (it:Value) (s₂:Shared) : Prop
  | mk (I:Addr) (wr:List Addr) (xs:List V) (St:Nat → View → Heap → Prop) (G₂:View) : it = .ref I → Itr B A tgt I wr xs St → St 0 G₂ s₂.heap → Step G G₂ s s₂ → Rel B Kp σ G₂ s₂ →
    (∀ b ∈ wr,s.heap.get? b = none ∧ G₂ b = none ∧ ∃ o,s₂.heap.get? b = some o) → xs.length ≤ sizeLine → P xs → ResR B A tgt Kp σ P G s it s₂
noncomputable def SRC (B:B0) (k:Nat) (c:Cx) (σ:Store) (L:Lc) (iter tgt:Expr) (P:List V → Prop) : Prop :=
  ∀ A E s G Kp env,Bud k A → Rel B Kp σ G s → FRx B c env L G Kp → wpAny B.M A (eval iter env) (fun x s₁ => wpAny B.M A (pyIter x) (ResR B A tgt Kp σ P G s) E s₁) E s
theorem SRC.len {B:B0} {k:Nat} {σ:Store} {c:Cx} {it tgt:Expr} {L:Lc} {P P':List V → Prop} (h:SRC B k c σ L it tgt P) (q:∀ xs,xs.length ≤ sizeLine → P xs → P' xs) : SRC B k c σ L it tgt P' :=
  fun A E s G Kp env b r f => wpAny_mono (h A E s G Kp env b r f) (fun _ _ h₁ => wpAny_mono h₁ (fun _ _ h₂ => h₂.casesOn fun I wr xs St G₂ a1 a2 a3 a4 a5 a6 a7 a8 => ⟨I,wr,xs,St,G₂,a1,a2,a3,a4,a5,a6,a7,q xs a7 a8⟩) fun _ _ e => e) fun _ _ e => e
theorem SRC.run {B:B0} {k:Nat} {σ:Store} {c:Cx} {it tgt:Expr} {L:Lc} {P:List V → Prop} {A:Around} {E:Value → Shared → Prop} {s:Shared} {G:View} {Kp:Heap} {env:Env} {R:Value → Shared → Prop} (h:SRC B k c σ L it tgt P) (b:Bud k A) (r:Rel B Kp σ G s) (f:FRx B c env L G Kp)
    (q:∀ s₂ I wr xs St G₂,Itr B A tgt I wr xs St → St 0 G₂ s₂.heap → Step G G₂ s s₂ → Rel B Kp σ G₂ s₂ → (∀ b ∈ wr,s.heap.get? b = none ∧ G₂ b = none ∧ ∃ o,s₂.heap.get? b = some o) → xs.length ≤ sizeLine → P xs → R (.ref I) s₂) :
    wpAny B.M A (eval it env) (fun x s₁ => wpAny B.M A (pyIter x) R E s₁) E s :=
  wpAny_mono (h A E s G Kp env b r f) (fun _ _ h₁ => wpAny_mono h₁ (fun _ s₂ h₂ => h₂.casesOn fun I wr xs St G₂ a1 a2 a3 a4 a5 a6 a7 a8 => by rw [a1]; exact q s₂ I wr xs St G₂ a2 a3 a4 a5 a6 a7 a8) fun _ _ e => e) fun _ _ e => e
theorem Step.gone {G G':View} {s s':Shared} (st:Step G G' s s') {a:Addr} (e:s'.heap.get? a = none) : s.heap.get? a = none := by
  cases q : s.heap.get? a with
  | none => rfl
  | some o => obtain ⟨o',h'⟩ := st.alive a o q; rw [e] at h'; cases h'
theorem Rel.noG {B:B0} {Kp:Heap} {σ:Store} {G:View} {s:Shared} (r:Rel B Kp σ G s) {a:Addr} (e:s.heap.get? a = none) : G a = none := by
  cases q : G a with
  | none => rfl
  | some o => rw [r.gin a o q] at e; cases e
theorem Rel.outside {B:B0} {Kp:Heap} {σ:Store} {G:View} {s:Shared} (r:Rel B Kp σ G s) {a:Addr} (e:s.heap.get? a = none) : Kp.get? a = none ∧ ∀ m,(a,m) ∉ σ := by
  refine ⟨?_,fun m hm => ?_⟩
  · cases q : Kp.get? a with
    | none => rfl
    | some o => rw [r.kin a o q] at e; cases e
  · obtain ⟨_,_,o,h3,_⟩ := r.sto.at_ a m hm
    rw [h3] at e; cases e
noncomputable def bindT (tg:List Nat) (x:V) (L:Lc) : Option Lc :=
  match tg,x with
  | [i],x => some (L.set i (some x))
  | [i,j],.tup [a,b] => some ((L.set i (some a)).set j (some b))
  | _,_ => none
inductive Tgt (c:Cx) : Expr → List Nat → Prop
  | one {x:Str} {p:Pos} {i:Nat} : isLocal c x = some i → Tgt c (.Name x p) [i]
  | two {x y:Str} {p q pos:Pos} {n i j:Nat} : isLocal c x = some i → isLocal c y = some j → Tgt c (.Tuple [.Name x p,.Name y q] n pos) [i,j]
theorem nameOf_inv {e:Expr} {x:Str} (h:nameOf e = some x) : ∃ p,e = .Name x p := by
  cases e with
  | Name y p => cases h; exact ⟨p,rfl⟩
  | _ => exact noS h
theorem pairOfE_inv {es:List Expr} {q:Expr × Expr} (h:pairOfE es = some q) : es = [q.1,q.2] := by
  cases es with
  | nil => cases h
  | cons a r => cases r with
    | nil => cases h
    | cons b r => cases r with
      | nil => cases h; rfl
      | cons _ _ => cases h
theorem tgt_of {c:Cx} {t:Expr} {tg:List Nat} (h:cTgt c t = some tg) : Tgt c t tg := by
  cases t with
  | Name x p => obtain ⟨i,hi,e⟩ := Option.map_eq_some_iff.mp h; rw [← e]; exact .one hi
  | Tuple es n pos =>
    obtain ⟨q,h1,h⟩ := Option.bind_eq_some_iff.mp h
    obtain ⟨x,h2,h⟩ := Option.bind_eq_some_iff.mp h
    obtain ⟨y,h3,h⟩ := Option.bind_eq_some_iff.mp h
    obtain ⟨i,h4,h⟩ := Option.bind_eq_some_iff.mp h
    obtain ⟨j,h5,e⟩ := Option.map_eq_some_iff.mp h
    obtain ⟨p1,e1⟩ := nameOf_inv h2
    obtain ⟨p2,e2⟩ := nameOf_inv h3
    rw [pairOfE_inv h1,e1,e2,← e]
    exact .two h4 h5
  | _ => exact noS h
theorem bindT_one {i:Nat} {x:V} {L L':Lc} (h:bindT [i] x L = some L') : L' = L.set i (some x) := (Option.some.inj h).symm
theorem bindT_two {i j:Nat} {d:V} {L L':Lc} (h:bindT [i,j] d L = some L') : ∃ a b,d = .tup [a,b] ∧ L' = (L.set i (some a)).set j (some b) := by
  cases d with
  | tup xs => cases xs with
    | nil => cases h
    | cons a r => cases r with
      | nil => cases h
      | cons b r => cases r with
        | nil => exact ⟨a,b,rfl,(Option.some.inj h).symm⟩
        | cons _ _ => exact noS h
  | _ => exact noS h
theorem bindT_get {tg:List Nat} {x:V} {L L':Lc} (h:bindT tg x L = some L') {i:Nat} (hi:i ∉ tg) : L'[i]? = L[i]? := by
  cases tg with
  | nil => exact noS h
  | cons a r => cases r with
    | nil => rw [bindT_one h,List.getElem?_set_ne fun q => hi (by rw [q]; exact .head _)]
    | cons b r => cases r with
      | nil =>
        obtain ⟨u,w,_,e⟩ := bindT_two h
        rw [e,List.getElem?_set_ne fun q => hi (by rw [q]; exact .tail _ (.head _)),List.getElem?_set_ne fun q => hi (by rw [q]; exact .head _)]
      | cons _ _ => exact noS h
noncomputable def maxK (σ:Store) (h:Heap) : Heap := PySem.W.hideAll h (σ.map (·.1))
theorem maxK_in (σ:Store) (h:Heap) : (maxK σ h).StaysIn h := fun _ _ e => PySem.W.of_hideAll _ e
theorem maxK_get {σ:Store} {h:Heap} {a:Addr} {o:Obj} (e:h.get? a = some o) (n:∀ m,(a,m) ∉ σ) : (maxK σ h).get? a = some o :=
  PySem.W.hideAll_get _ e fun hm => by
    obtain ⟨⟨b,m⟩,h1,h2⟩ := List.mem_map.mp hm
    cases h2
    exact n m h1
theorem maxK_none {σ:Store} {h:Heap} {a:Addr} {m:MO} (e:(a,m) ∈ σ) : (maxK σ h).get? a = none := PySem.W.hideAll_none _ (List.mem_map.mpr ⟨_,e,rfl⟩)
section
variable {B:B0} {σ:Store} {Kp:Heap} {G:View} {s:Shared}
theorem Rel.max (r:Rel B Kp σ G s) : Rel B (maxK σ s.heap) σ G s := ⟨r.bas,r.gin,maxK_in _ _,r.sto,fun a m h => maxK_none h⟩
theorem Rel.old (r:Rel B Kp σ G s) {a:Addr} {m:MO} (h:(a,m) ∈ σ) : a < s.heap.objs.size := by
  obtain ⟨_,_,o,ho,_⟩ := r.sto.at_ a m h
  exact Heap.lt_size ho
theorem Rel.notG (r:Rel B Kp σ G s) {a:Addr} {m:MO} {o:Obj} (h:(a,m) ∈ σ) (e:G a = some o) : False := by
  have := (r.sto.at_ a m h).1
  rw [this] at e
  cases e
theorem Rel.back {s':Shared} {G':View} (r:Rel B Kp σ G s) (r':Rel B (maxK σ s.heap) σ G' s') : Rel B Kp σ G' s' :=
  ⟨r'.bas,r'.gin,fun a o e => r'.kin a o (maxK_get (r.kin a o e) fun m hm => by rw [r.hid a m hm] at e; cases e),r'.sto,r.hid⟩
end
theorem compOk_kind {c:Cx} {scope:Scope} (h:compOk c scope = true) : scope.kind = .function := by
  unfold compOk at h
  simp only [Bool.and_eq_true,beq_iff_eq] at h
  exact h.1
theorem compOk_name {c:Cx} {scope:Scope} (h:compOk c scope = true) {x:Str} {kd:NameKind} (hm:(x,kd) ∈ scope.names) : scope.names.lookup x = some kd ∧ (kd = .local ∨ (kd = .free ∧ (c.scope.names.lookup x = some .cell ∨ c.scope.names.lookup x = some .free)) ∨ kd = .globalImplicit) := by
  unfold compOk at h
  simp only [Bool.and_eq_true,List.all_eq_true] at h
  have h2 := h.2 (x,kd) hm
  simp only [beq_iff_eq] at h2
  refine ⟨h2.1,?_⟩
  have h3 := h2.2
  cases kd <;> simp_all
theorem mem_of_lookup' {names:List (Str × NameKind)} {x:Str} {kd:NameKind} (h:names.lookup x = some kd) : (x,kd) ∈ names := by
  induction names with
  | nil => cases h
  | cons p r ih =>
    obtain ⟨y,k⟩ := p
    by_cases e : x = y
    · subst e
      simp [List.lookup] at h
      subst h
      exact .head _
    · have e' : (x == y) = false := beq_eq_false_iff_ne.mpr e
      simp only [List.lookup,e'] at h
      exact .tail _ (ih h)
noncomputable def cl0 (env:Env) : List (Str × NameKind) → List (Str × Addr) → List (Str × Addr)
  | [],acc => acc
  | (n,k) :: r,acc => if k == .free then cl0 env r ((n,(env.cells.lookup n).getD 0) :: acc) else cl0 env r acc
theorem closureFor_eq {scope:Scope} {env:Env} (h:∀ x ∈ scope.names,x.2 = .free → ∃ a,env.cells.lookup x.1 = some a) : closureFor scope env = pure (cl0 env scope.names []) := by
  have key : ∀ (names:List (Str × NameKind)) (acc:List (Str × Addr)),(∀ x ∈ names,x.2 = .free → ∃ a,env.cells.lookup x.1 = some a) →
      (forIn names acc fun (x:Str × NameKind) (r:List (Str × Addr)) => match x with
        | (name,kind) => if (kind == NameKind.free) = true then (do let a ← cellOf env name; pure (ForInStep.yield ((name,a) :: r))) else (pure (ForInStep.yield r) : Sem (ForInStep (List (Str × Addr))))) = pure (cl0 env names acc) := by
    intro names
    induction names with
    | nil => intro acc _; rfl
    | cons p r ih =>
      intro acc hr
      obtain ⟨n,k⟩ := p
      rw [List.forIn_cons]
      have hr' := fun x hx => hr x (.tail _ hx)
      by_cases hk : (k == .free) = true
      · obtain ⟨a,ha⟩ := hr (n,k) (.head _) (by simpa using hk)
        dsimp only
        have e1 : cellOf env n = pure a := by unfold cellOf; rw [ha]
        rw [if_pos hk,e1]
        have e2 := ih ((n,a) :: acc) hr'
        unfold cl0
        rw [if_pos hk,ha]
        exact e2
      · dsimp only
        rw [if_neg hk]
        have e2 := ih acc hr'
        unfold cl0
        rw [if_neg hk]
        exact e2
  unfold closureFor
  exact (congrArg (fun t => t >>= fun r => pure r) (key scope.names [] h)).trans rfl
theorem cl0_keys (env:Env) : ∀ (names:List (Str × NameKind)) (acc:List (Str × Addr)),(∀ p ∈ acc,p.2 = (env.cells.lookup p.1).getD 0) → ∀ x,((x,NameKind.free) ∈ names ∨ x ∈ acc.map (·.1)) →
    (cl0 env names acc).lookup x = some ((env.cells.lookup x).getD 0)
  | [],acc,ha,x,hx => by
    rcases hx with hx | hx
    · cases hx
    · unfold cl0
      induction acc with
      | nil => cases hx
      | cons p r ih =>
        obtain ⟨y,b⟩ := p
        by_cases e : x = y
        · subst e
          have := ha (x,b) (.head _)
          simp only at this
          simp [List.lookup,this]
        · have e' : (x == y) = false := beq_eq_false_iff_ne.mpr e
          simp only [List.lookup,e']
          refine ih (fun p hp => ha p (.tail _ hp)) ?_
          rcases List.mem_cons.mp hx with h | h
          · exact absurd h e
          · exact h
  | (n,k) :: r,acc,ha,x,hx => by
    unfold cl0
    by_cases hk : (k == NameKind.free) = true
    · rw [if_pos hk]
      have hk' : k = .free := by simpa using hk
      refine cl0_keys env r _ (fun p hp => ?_) x ?_
      · rcases List.mem_cons.mp hp with h | h
        · subst h; rfl
        · exact ha p h
      · rcases hx with hx | hx
        · rcases List.mem_cons.mp hx with h | h
          · cases h; exact .inr (.head _)
          · exact .inl h
        · exact .inr (.tail _ hx)
    · rw [if_neg hk]
      refine cl0_keys env r acc ha x ?_
      rcases hx with hx | hx
      · rcases List.mem_cons.mp hx with h | h
        · cases h; simp at hk
        · exact .inl h
      · exact .inr hx
theorem lookup_relabel {scope:Scope} {env:Env} {x:Str} {kd:NameKind} (h:scope.names.lookup x = some kd) :
    (relabel scope env).names.lookup x = some (if kd == .free && env.scope.kind == .function && env.kindOf x == some .cell then .cell else kd) := by
  unfold relabel
  dsimp only
  generalize scope.names = names at h
  induction names with
  | nil => cases h
  | cons p r ih =>
    obtain ⟨y,k⟩ := p
    by_cases e : x = y
    · subst e
      simp only [List.lookup_cons,beq_self_eq_true,Option.some.injEq] at h
      subst h
      simp only [List.map_cons]
      split <;> simp_all
    · have e' : (x == y) = false := beq_eq_false_iff_ne.mpr e
      simp only [List.lookup_cons,e'] at h
      have := ih h
      simp only [List.map_cons]
      split <;> simp only [List.lookup_cons,e'] <;> exact this
theorem compLocals_lookup : ∀ (names:List (Str × NameKind)) (n:Nat) (x:Str) (i:Nat),(compLocals names n).lookup x = some i → (x,NameKind.local) ∈ names ∧ n ≤ i ∧ i < n + (compLocals names n).length
  | [],n,x,i,h => by simp [compLocals] at h
  | (y,k) :: r,n,x,i,h => by
    cases k with
    | «local» =>
      unfold compLocals at h ⊢
      by_cases hz : (y == (".0" : Str)) = true
      · rw [if_pos hz] at h ⊢
        obtain ⟨a,b,c⟩ := compLocals_lookup r n x i h
        exact ⟨.tail _ a,b,c⟩
      · rw [if_neg hz] at h ⊢
        by_cases e : x = y
        · subst e
          simp at h
          subst h
          exact ⟨.head _,Nat.le_refl _,by simp⟩
        · have e' : (x == y) = false := beq_eq_false_iff_ne.mpr e
          simp only [List.lookup_cons,e'] at h
          obtain ⟨a,b,c⟩ := compLocals_lookup r (n + 1) x i h
          exact ⟨.tail _ a,by omega,by simp only [List.length_cons]; omega⟩
    | _ =>
      unfold compLocals at h ⊢
      obtain ⟨a,b,c⟩ := compLocals_lookup r n x i h
      exact ⟨.tail _ a,b,c⟩
theorem compLocals_some : ∀ (names:List (Str × NameKind)) (n:Nat) (x:Str),(x,NameKind.local) ∈ names → (x == (".0" : Str)) = false → ((compLocals names n).lookup x).isSome = true
  | (y,k) :: r,n,x,h,hd => by
    cases k with
    | «local» =>
      unfold compLocals
      by_cases hz : (y == (".0" : Str)) = true
      · rw [if_pos hz]
        rcases List.mem_cons.mp h with q | q
        · cases q; rw [hz] at hd; cases hd
        · exact compLocals_some r n x q hd
      · rw [if_neg hz]
        by_cases e : x = y
        · subst e; simp
        · have e' : (x == y) = false := beq_eq_false_iff_ne.mpr e
          simp only [List.lookup_cons,e']
          rcases List.mem_cons.mp h with q | q
          · cases q; exact absurd rfl e
          · exact compLocals_some r (n + 1) x q hd
    | _ =>
      unfold compLocals
      rcases List.mem_cons.mp h with q | q
      · cases q
      · exact compLocals_some r n x q hd
theorem lookup_append {α:Type} (l r:List (Str × α)) (x:Str) : (l ++ r).lookup x = (l.lookup x).or (r.lookup x) := by
  induction l with
  | nil => simp
  | cons p l ih =>
    obtain ⟨y,a⟩ := p
    by_cases e : x = y
    · subst e; simp
    · have e' : (x == y) = false := beq_eq_false_iff_ne.mpr e
      simp only [List.cons_append,List.lookup_cons,e',ih]
noncomputable def Apart (G:View) (h:Heap) (as:List Addr) : Prop := ∀ a ∈ as,G a = none ∧ ∃ o,h.get? a = some o
theorem Apart.step {G G':View} {s s':Shared} {as:List Addr} (h:Apart G s.heap as) (st:Step G G' s s') : Apart G' s'.heap as := fun a ha => by
  obtain ⟨h1,o,h2⟩ := h a ha
  refine ⟨?_,st.alive a o h2⟩
  cases e : G' a with
  | none => rfl
  | some o' =>
    rcases st.new a o' e with q | q
    · rw [h1] at q; cases q
    · rw [h2] at q; cases q
noncomputable def cEnv (scope:Scope) (C:Addr) (env:Env) : Env := compEnvC scope (cl0 env scope.names []) C env
noncomputable def L0 (c:Cx) (scope:Scope) (L:Lc) : Lc := L.take c.nx ++ List.replicate (compLocals scope.names c.nx).length none
section
variable {B:B0} {k:Nat} {c:Cx} {σ:Store} {L:Lc}
theorem FRx.comp {scope:Scope} {C:Addr} {env:Env} {G:View} {Kp Kx:Heap} {m:Str → Option Value} {L':Lc} (f:FRx B c env L G Kp) (ok:compOk c scope = true) (hk:Kp.StaysIn Kx) (hn:Kx.Ns C m)
    (hout:∀ (i:Nat) d,i < c.nx → L'[i]? = some (some d) → L[i]? = some (some d))
    (hin:∀ x i d,(compLocals scope.names c.nx).lookup x = some i → L'[i]? = some (some d) → ∃ v,m x = some v ∧ B.R G v d) : FRx B (cIn c scope) (cEnv scope C env) L' G Kx := by
  have hkind : (cEnv scope C env).scope.kind = .function := by show scope.kind = _; exact compOk_kind ok
  refine ⟨hkind,fun x i h => ?_,f.glob,f.blt,fun x h => ?_,fun x h => ?_,fun x i d h hd => ?_,fun h => nomatch h⟩
  · show i < c.nx + (compLocals scope.names c.nx).length
    rw [show (cIn c scope).sc = compLocals scope.names c.nx ++ c.sc from rfl,lookup_append] at h
    cases e : (compLocals scope.names c.nx).lookup x with
    | some j => rw [e] at h; cases h; exact (compLocals_lookup _ _ _ _ e).2.2
    | none => rw [e] at h; have := f.wf x i h; omega
  · show (relabel scope env).names.lookup x = _
    have h' : scope.names.lookup x = some .globalImplicit := h
    rw [lookup_relabel h']
    rfl
  · have h' : scope.names.lookup x = some .free := by
      rcases h with h | h
      · exact absurd (compOk_name ok (mem_of_lookup' h)).2 (by simp)
      · exact h
    have hm := mem_of_lookup' h'
    have ho : c.scope.names.lookup x = some .cell ∨ c.scope.names.lookup x = some .free := by
      rcases (compOk_name ok hm).2 with q | q | q
      · cases q
      · exact q.2
      · cases q
    obtain ⟨h1,a,ha⟩ := f.cel x ho
    refine ⟨?_,a,?_⟩
    · show (relabel scope env).names.lookup x = _ ∨ (relabel scope env).names.lookup x = _
      rw [lookup_relabel h']
      split
      · exact .inl rfl
      · exact .inr rfl
    · show (cl0 env scope.names []).lookup x = _
      rw [cl0_keys env scope.names [] (fun _ h => nomatch h) x (.inl hm),ha]
      rfl
  · have hx := isLocal_ok h
    unfold isLocal at h
    rw [if_pos hx] at h
    rw [show (cIn c scope).sc = compLocals scope.names c.nx ++ c.sc from rfl,show (cIn c scope).scope = scope from rfl,lookup_append] at h
    cases e : (compLocals scope.names c.nx).lookup x with
    | some j =>
      have hij : j = i := by
        rw [e] at h
        split at h <;> simp_all
      subst hij
      obtain ⟨v,h1,h2⟩ := hin x j d e hd
      have hl := (compOk_name ok (compLocals_lookup _ _ _ _ e).1).1
      refine ⟨v,h2,.inl ⟨?_,m,hn,h1⟩⟩
      show (relabel scope env).names.lookup x = _
      rw [lookup_relabel hl]
      rfl
    | none =>
      rw [e] at h
      have hfree : scope.names.lookup x = some .free ∨ scope.names.lookup x = some .local := by
        split at h
        · rename_i q; exact .inr q
        · rename_i q; exact absurd (compOk_name ok (mem_of_lookup' q)).2 (by simp)
        · rename_i q; exact .inl q
        · cases h
      have hnl : scope.names.lookup x ≠ some .local := fun q => by
        have := compLocals_some _ c.nx x (mem_of_lookup' q) (okName_dot hx)
        rw [e] at this
        cases this
      have hfr : scope.names.lookup x = some .free := hfree.resolve_right hnl
      have hi : c.sc.lookup x = some i := by rw [hfr] at h; exact h
      have hm := mem_of_lookup' hfr
      have ho : c.scope.names.lookup x = some .cell ∨ c.scope.names.lookup x = some .free := by
        rcases (compOk_name ok hm).2 with q | q | q
        · cases q
        · exact q.2
        · cases q
      have hl : isLocal c x = some i := by
        unfold isLocal
        rw [if_pos hx]
        rcases ho with q | q <;> rw [q] <;> exact hi
      replace hd := hout i d (f.wf x i hi) hd
      obtain ⟨v,h1,h2⟩ := f.slot x i d hl hd
      obtain ⟨h3,a,ha⟩ := f.cel x ho
      refine ⟨v,h1,.inr ⟨?_,a,?_,?_⟩⟩
      · show (relabel scope env).names.lookup x = _ ∨ (relabel scope env).names.lookup x = _
        rw [lookup_relabel hfr]
        split
        · exact .inl rfl
        · exact .inr rfl
      · show (cl0 env scope.names []).lookup x = _
        rw [cl0_keys env scope.names [] (fun _ h => nomatch h) x (.inl hm),ha]
        rfl
      · rcases h2 with ⟨q,_⟩ | ⟨_,b,hb,hc⟩
        · rcases h3 with h3 | h3 <;> rw [h3] at q <;> cases q
        · rw [ha] at hb
          cases hb
          obtain ⟨o,e1,e2⟩ := hc
          exact ⟨o,hk _ _ e1,e2⟩
end
noncomputable def own1 (scope:Scope) (x:Str) : Bool := scope.names.lookup x == some .local && okName x
noncomputable def ownTgt (scope:Scope) : Expr → Bool
  | .Name x _ => own1 scope x
  | .Tuple es _ _ => (pairOfE es).any fun p => (nameOf p.1).any (own1 scope) && (nameOf p.2).any (own1 scope)
  | _ => false
theorem own1_of {scope:Scope} {x:Str} (h:own1 scope x = true) : scope.names.lookup x = some .local ∧ okName x = true := by
  unfold own1 at h
  simp only [Bool.and_eq_true,beq_iff_eq] at h
  exact h
theorem own2_of {scope:Scope} {x y:Str} {p q pos:Pos} {n:Nat} (h:ownTgt scope (.Tuple [.Name x p,.Name y q] n pos) = true) : (scope.names.lookup x = some .local ∧ okName x = true) ∧ scope.names.lookup y = some .local ∧ okName y = true :=
  have h : (own1 scope x && own1 scope y) = true := h
  ⟨own1_of (Bool.and_eq_true_iff.mp h).1,own1_of (Bool.and_eq_true_iff.mp h).2⟩
section
variable {B:B0} {k:Nat} {c:Cx} {σ:Store}
noncomputable def Bound (B:B0) (c:Cx) (scope:Scope) (G:View) (m:Str → Option Value) (L:Lc) : Prop :=
  ∀ x i d,(compLocals scope.names c.nx).lookup x = some i → L[i]? = some (some d) → ∃ v,m x = some v ∧ B.R G v d
theorem Bound.mono {scope:Scope} {G G':View} {m:Str → Option Value} {L:Lc} (h:Bound B c scope G m L) (l:VLe G G') : Bound B c scope G' m L := fun x i d a b => by
  obtain ⟨v,h1,h2⟩ := h x i d a b
  exact ⟨v,h1,h2.mono l⟩
theorem compLocals_inj : ∀ (names:List (Str × NameKind)) (n:Nat) (x y:Str) (i:Nat),(compLocals names n).lookup x = some i → (compLocals names n).lookup y = some i → x = y
  | [],n,x,y,i,h,_ => by simp [compLocals] at h
  | (z,k) :: r,n,x,y,i,hx,hy => by
    cases k with
    | «local» =>
      unfold compLocals at hx hy
      by_cases hz : (z == (".0" : Str)) = true
      · rw [if_pos hz] at hx hy
        exact compLocals_inj r n x y i hx hy
      · rw [if_neg hz] at hx hy
        by_cases e1 : x = z
        · subst e1
          simp at hx
          subst hx
          by_cases e2 : y = x
          · exact e2.symm
          · have e' : (y == x) = false := beq_eq_false_iff_ne.mpr e2
            simp only [List.lookup_cons,e'] at hy
            have := (compLocals_lookup r (n + 1) y n hy).2.1
            omega
        · have e' : (x == z) = false := beq_eq_false_iff_ne.mpr e1
          simp only [List.lookup_cons,e'] at hx
          by_cases e2 : y = z
          · subst e2
            simp at hy
            subst hy
            have := (compLocals_lookup r (n + 1) x n hx).2.1
            omega
          · have e'' : (y == z) = false := beq_eq_false_iff_ne.mpr e2
            simp only [List.lookup_cons,e''] at hy
            exact compLocals_inj r (n + 1) x y i hx hy
    | _ =>
      unfold compLocals at hx hy
      exact compLocals_inj r n x y i hx hy
theorem Bound.set {scope:Scope} {G:View} {m:Str → Option Value} {L:Lc} {x:Str} {i:Nat} {v:Value} {d:V} (h:Bound B c scope G m L) (hi:(compLocals scope.names c.nx).lookup x = some i) (hv:B.R G v d) :
    Bound B c scope G (fun y => if y = x then some v else m y) (L.set i (some d)) := by
  intro y j d' hy hd
  by_cases e : j = i
  · subst e
    have := compLocals_inj _ _ _ _ _ hi hy
    subst this
    rw [List.getElem?_set] at hd
    simp only [if_true] at hd
    split at hd
    · cases hd
      exact ⟨v,by simp,hv⟩
    · cases hd
  · have hne : y ≠ x := fun q => by subst q; rw [hi] at hy; cases hy; exact e rfl
    rw [List.getElem?_set_ne (fun q => e q.symm)] at hd
    obtain ⟨u,h1,h2⟩ := h y j d' hy hd
    exact ⟨u,by simp [hne,h1],h2⟩
theorem local_slot {scope:Scope} {x:Str} {i:Nat} (hx:scope.names.lookup x = some .local) (hn:okName x = true) (hl:isLocal (cIn c scope) x = some i) : (compLocals scope.names c.nx).lookup x = some i := by
  have h1 := compLocals_some _ c.nx x (mem_of_lookup' hx) (okName_dot hn)
  obtain ⟨j,hj⟩ := Option.isSome_iff_exists.mp h1
  unfold isLocal at hl
  rw [if_pos hn,show (cIn c scope).scope = scope from rfl,hx,show (cIn c scope).sc = compLocals scope.names c.nx ++ c.sc from rfl,lookup_append,hj] at hl
  rw [hj]
  exact hl
theorem kind_local {scope:Scope} {C:Addr} {env:Env} {x:Str} (hx:scope.names.lookup x = some .local) : (cEnv scope C env).kindOf x = some .local := by
  show (relabel scope env).names.lookup x = _
  rw [lookup_relabel hx]
  rfl
theorem comp_assign {scope:Scope} {tgt:Expr} {tg:List Nat} {C:Addr} {env:Env} {A:Around} {E:Value → Shared → Prop} {Q:Unit → Shared → Prop} {s:Shared} {G:View} {m:Str → Option Value} {L L':Lc} {v:Value} {d:V}
    (hk:scope.kind = .function) (hh:A.handled = none) (ho:ownTgt scope tgt = true) (ht:cTgt (cIn c scope) tgt = some tg) (hg:∀ a o,G a = some o → s.heap.get? a = some o) (hn:s.heap.Ns C m) (hb:Bound B c scope G m L) (hv:B.R G v d) (hL:bindT tg d L = some L') (hGC:G C = none)
    (h:∀ s' m',s'.heap.Ns C m' → Bound B c scope G m' L' → (∀ b o,b ≠ C → s.heap.get? b = some o → s'.heap.get? b = some o) → s'.os = s.os → s'.gens = s.gens → Q () s') :
    wpAny B.M A (assign tgt (cEnv scope C env) v) Q E s := by
  have hp : ((cEnv scope C env).scope.kind == .class || ((cEnv scope C env).scope.kind == .module && (cEnv scope C env).locals != (cEnv scope C env).globals)) = false := by
    show (scope.kind == .class || (scope.kind == .module && _)) = false
    rw [hk]; rfl
  cases tgt_of ht with
  | one hi =>
    have ho := own1_of ho
    rw [bindT_one hL] at h
    refine wpAny_assign_Name (wpAny_storeName_local (kind_local ho.1) hn (fun h' hn' hs => ?_) hp)
    exact h _ _ hn' (hb.set (local_slot ho.1 ho.2 hi) hv) (fun b o hne e => (hs.2 b hne).trans e) rfl rfl
  | two hi hj =>
    obtain ⟨ho1,ho2⟩ := own2_of ho
    obtain ⟨a,b,rfl,e⟩ := bindT_two hL
    rw [e] at h
    obtain ⟨t,vs,nn,e,g,z,l⟩ := hv.inv
    obtain ⟨v1,v2,hvs,r1,r2⟩ := RepL.inv2 l
    have hz : vs.size = 2 := by rw [← Array.length_toList,hvs]; rfl
    rw [e]
    refine wpAny_assign_Tuple hh ⟨_,hg _ _ g,rfl,nn,rfl⟩ (by rw [hz]; rfl) rfl fun h' he => ?_
    rw [hvs]
    have hn1 : h'.Ns C m := by
      obtain ⟨o,es,ep,e,r⟩ := hn
      exact ⟨o,es,ep,he C o (Nat.ne_of_lt (Heap.lt_size e)) e,r⟩
    refine wpAny_assignInOrder_more (wpAny_assign_Name (wpAny_storeName_local (kind_local ho1.1) hn1 (fun h1 hn2 hs1 => ?_) hp))
    refine wpAny_assignInOrder_more (wpAny_assign_Name (wpAny_storeName_local (kind_local ho2.1) hn2 (fun h2 hn3 hs2 => ?_) hp))
    refine wpAny_assignInOrder_none (h _ _ hn3 ((hb.set (local_slot ho1.1 ho1.2 hi) r1).set (local_slot ho2.1 ho2.2 hj) r2) (fun b o hne e => ?_) rfl rfl)
    exact (hs2.2 b hne).trans ((hs1.2 b hne).trans (he b o (Nat.ne_of_lt (Heap.lt_size e)) e))
end
section
variable {B:B0} {k:Nat} {c:Cx} {σ:Store} {L:Lc} {Q:V → Prop}
theorem Rel.upd {Kp:Heap} {G G':View} {s s':Shared} {ws:List Addr} (r:Rel B Kp σ G s) (st:Step G G' s s') (gin':∀ a o,G' a = some o → s'.heap.get? a = some o)
    (hk:∀ b o,b ∉ ws → s.heap.get? b = some o → s'.heap.get? b = some o) (hw:∀ b ∈ ws,Kp.get? b = none ∧ ∀ m,(b,m) ∉ σ) : Rel B Kp σ G' s' := by
  refine ⟨r.bas.trans st.le,gin',fun a o e => hk a o (fun h => ?_) (r.kin a o e),⟨fun a m hm => ?_,r.sto.nodup⟩,r.hid⟩
  · rw [(hw a h).1] at e; cases e
  · obtain ⟨h1,h2,o,h3,h4⟩ := r.sto.at_ a m hm
    refine ⟨?_,h2,o,hk a o (fun h => (hw a h).2 m hm) h3,h4.mono st.le⟩
    cases e : G' a with
    | none => rfl
    | some o' =>
      rcases st.new a o' e with q | q
      · rw [h1] at q; cases q
      · rw [h3] at q; cases q
noncomputable def CompP (B:B0) (k:Nat) (c:Cx) (σ:Store) (L:Lc) (tg:List Nat) (elt:Expr) : List V → List V → (V → Prop) → Prop
  | [],acc,Q => Q (.lst acc)
  | x :: xs,acc,Q => ∃ L',bindT tg x L = some L' ∧ EV B k c σ L' elt fun y => CompP B k c σ L tg elt xs (acc ++ [y]) Q
theorem L0_out {scope:Scope} {i:Nat} {d:V} (hi:i < c.nx) (h:(L0 c scope L)[i]? = some (some d)) : L[i]? = some (some d) := by
  unfold L0 at h
  rw [List.getElem?_append] at h
  split at h
  · rw [List.getElem?_take_of_lt hi] at h; exact h
  · rw [List.getElem?_replicate] at h
    split at h <;> cases h
theorem L0_bound {scope:Scope} {G:View} {m:Str → Option Value} (hl:∀ d : V,True) : Bound B c scope G m (L0 c scope L) := by
  intro x i d hx hd
  have hi := (compLocals_lookup _ _ _ _ hx).2.1
  unfold L0 at hd
  rw [List.getElem?_append] at hd
  split at hd
  · rename_i q
    rw [List.length_take] at q
    omega
  · rw [List.getElem?_replicate] at hd
    split at hd <;> cases hd
theorem bindT_out {scope:Scope} {tgt:Expr} {tg:List Nat} {d:V} {L₁ L':Lc} (ho:ownTgt scope tgt = true) (ht:cTgt (cIn c scope) tgt = some tg) (hL:bindT tg d L₁ = some L') : ∀ i,i < c.nx → L'[i]? = L₁[i]? := by
  intro i hi
  have key : ∀ x j,scope.names.lookup x = some .local ∧ okName x = true → isLocal (cIn c scope) x = some j → j ≠ i := fun x j h1 h3 => Nat.ne_of_gt (Nat.lt_of_lt_of_le hi (compLocals_lookup _ _ _ _ (local_slot h1.1 h1.2 h3)).2.1)
  cases tgt_of ht with
  | one hj => rw [bindT_one hL,List.getElem?_set_ne (key _ _ (own1_of ho) hj)]
  | two hx hy =>
    obtain ⟨u,w,_,e⟩ := bindT_two hL
    rw [e,List.getElem?_set_ne (key _ _ (own2_of ho).2 hy),List.getElem?_set_ne (key _ _ (own2_of ho).1 hx)]
end
structure Own2 (σ:Store) (Kp:Heap) (C D:Addr) : Prop where
  ne : D ≠ C
  kd : Kp.get? D = none
  kc : Kp.get? C = none
  sd : ∀ m,(D,m) ∉ σ
  sc : ∀ m,(C,m) ∉ σ
noncomputable def TurnP (B:B0) (k:Nat) (c:Cx) (σ:Store) (L:Lc) (scope:Scope) (env:Env) (C D:Addr) (L':Lc) (T:Sem Fin → Sem Fin) (acc:List V) (N:List V → Prop) : Prop :=
  ∀ (A:Around) (E:Value → Shared → Prop) (s:Shared) (G:View) (Kp:Heap) (m:Str → Option Value) (ys:Array Value) (n:Nat) (rest:Sem Fin) (K:Fin → Shared → Prop),
    Bud k A → Rel B Kp σ G s → FRx B c env L G Kp → Own2 σ Kp C D → G D = none → G C = none → s.heap.Ns C m → Bound B c scope G m L' → s.heap.get? D = some (sq "list" ys n) → B.RL G ys.toList acc →
    (∀ s' G' m' ys' n' acc',Step G G' s s' → Rel B Kp σ G' s' → s'.heap.Ns C m' → Bound B c scope G' m' L' → s'.heap.get? D = some (sq "list" ys' n') → B.RL G' ys'.toList acc' → N acc' → wpAny B.M A rest K E s') →
    wpAny B.M A (T rest) K E s
noncomputable def LoopP (F:V → List V → (List V → Prop) → Prop) : List V → List V → (V → Prop) → Prop
  | [],acc,Q => Q (.lst acc)
  | x :: xs,acc,Q => F x acc fun acc' => LoopP F xs acc' Q
section
variable {B:B0} {k:Nat} {c:Cx} {σ:Store} {L:Lc} {Q:V → Prop}
theorem FRx.into {env:Env} {G:View} {Kp Kx:Heap} (f:FRx B c env L G Kp) (hk:Kp.StaysIn Kx) : FRx B c env L G Kx :=
  ⟨f.kind,f.wf,f.glob,f.blt,f.kinds,f.cel,fun x i d a e => by
    obtain ⟨v,h1,h2⟩ := f.slot x i d a e
    refine ⟨v,h1,?_⟩
    rcases h2 with ⟨q,m,⟨o,es,ep,g,r⟩,h3⟩ | ⟨q,b,h3,o,g,r⟩
    · exact .inl ⟨q,m,⟨o,es,ep,hk _ _ g,r⟩,h3⟩
    · exact .inr ⟨q,b,h3,o,hk _ _ g,r⟩,f.code⟩
theorem turn_elt {scope:Scope} {elt:Expr} {env:Env} {C D:Addr} {L':Lc} {acc:List V} {N:List V → Prop} (ok:compOk c scope = true) (hL:∀ (i:Nat) d,i < c.nx → L'[i]? = some (some d) → L[i]? = some (some d))
    (hz:acc.length ≤ sizeLine) (h:EV B k (cIn c scope) σ L' elt fun y => N (acc ++ [y])) :
    TurnP B k c σ L scope env C D L' (fun rest => (eval elt (cEnv scope C env) >>= fun x => call (.builtin "list.append") [.ref D,x] >>= fun _ => pure ()) >>= fun _ => rest) acc N := by
  intro A E s G Kp m ys n rest K b r f o2 gD gC hn hb hD rl hK
  have inK : ∀ a o,(∀ mm,(a,mm) ∉ σ) → s.heap.get? a = some o → (maxK σ s.heap).get? a = some o := fun a o h e => maxK_get e h
  have hnK : (maxK σ s.heap).Ns C m := by
    obtain ⟨o,es,ep,e,r'⟩ := hn
    exact ⟨o,es,ep,inK C o o2.sc e,r'⟩
  have hKK : Kp.StaysIn (maxK σ s.heap) := fun a o e => maxK_get (r.kin a o e) fun mm hm => by rw [r.hid a mm hm] at e; cases e
  have f₃ : FRx B (cIn c scope) (cEnv scope C env) L' G (maxK σ s.heap) := f.comp ok hKK hnK hL hb
  refine wpAny_bind (wpAny_bind (wpAny_mono (h A _ s G (maxK σ s.heap) (cEnv scope C env) b r.max f₃) (fun y s₄ hh => ?_) fun _ _ e => e))
  obtain ⟨G₄,d,st₄,r₄,ry,qy⟩ := hh
  have r₄' : Rel B Kp σ G₄ s₄ := r.back r₄
  have hD₄ := r₄.kin _ _ (inK D _ o2.sd hD)
  have ap : Apart G s.heap [D] := fun a ha => by simp at ha; subst ha; exact ⟨gD,_,hD⟩
  have gD₄ := (ap.step st₄ D (.head _)).1
  have hl := rl.length
  simp at hl
  refine wpAny_bind (wpAny_list_append_plain ⟨n,hD₄⟩ (fun h' hpl hs => wpAny_pure ?_) (by omega))
  obtain ⟨n',hD'⟩ := hpl
  have hk₅ : ∀ a o,a ≠ D → s₄.heap.get? a = some o → h'.get? a = some o := fun a o h e => (hs.2 a h).trans e
  have st₅ : Step G₄ G₄ s₄ { s₄ with heap := h' } := Step.grow G₄ (fun a o e => by
    by_cases h : a = D
    · subst h; exact ⟨_,hD'⟩
    · exact ⟨o,hk₅ a o h e⟩) rfl rfl
  have gin₅ : ∀ a o,G₄ a = some o → h'.get? a = some o := fun a o e => hk₅ a o (fun h => by subst h; rw [gD₄] at e; cases e) (r₄.gin a o e)
  refine hK { s₄ with heap := h' } G₄ m (ys.push y) n' (acc ++ [d]) (st₄.trans st₅) (r₄'.upd (ws := [D]) st₅ gin₅ (fun a o h e => hk₅ a o (by simpa using h) e) fun a h => by simp at h; subst h; exact ⟨o2.kd,o2.sd⟩) ?_ (hb.mono st₄.le) hD' ?_ qy
  · obtain ⟨o,es,ep,e,r'⟩ := hnK
    exact ⟨o,es,ep,hk₅ _ _ (Ne.symm o2.ne) (r₄.kin _ _ e),r'⟩
  · rw [Array.toList_push]
    exact (rl.mono st₄.le).append (.cons ry .nil)
theorem comp_gen {elt:Expr} {gens:List Comprehension} {pos:Pos} {dp:Nat} {p:Pos} {T:Sem Fin → Sem Fin} {Lb:Lc} {F:V → List V → (List V → Prop) → Prop} {scope:Scope} {tgt:Expr} {tg:List Nat} {C D I:Addr} {wr:List Addr} {xs:List V} {St:Nat → View → Heap → Prop} {env:Env} {A:Around} {Kp:Heap} {R:Result → Shared → Prop}
    (hEq:compTurn (.ListComp elt gens scope pos) dp (.ref I) (.ref D) (cEnv scope C env) = (standAt p >>= fun _ => pyNext (.ref I) >>= fun r => match r with
      | none => pure (.done .next)
      | some v => letOwnedTupleGo tgt (.ref I) v >>= fun _ => assign tgt (cEnv scope C env) v >>= fun _ => T (again (.compLoop (.ListComp elt gens scope pos) dp (.ref I) (.ref D) (cEnv scope C env)))))
    (hF:∀ x acc N,F x acc N → ∃ L',bindT tg x Lb = some L' ∧ (∀ G m,Bound B c scope G m L' → Bound B c scope G m Lb) ∧ TurnP B k c σ L scope env C D L' T acc N)
    (b:Bud k A) (W:Itr B A tgt I wr xs St) (ok:compOk c scope = true) (ho:ownTgt scope tgt = true) (ht:cTgt (cIn c scope) tgt = some tg)
    (hDC:D ≠ C) (hDw:D ∉ wr) (hCw:C ∉ wr) (hst:∀ a ∈ D :: C :: wr,Kp.get? a = none ∧ ∀ m,(a,m) ∉ σ) (G₀:View) (s₀:Shared) (hfr:∀ b ∈ wr,s₀.heap.get? b = none)
    (hR:∀ s' m G' ys n acc,s'.heap.Ns C m → Bound B c scope G' m Lb → Step G₀ G' s₀ s' → Rel B Kp σ G' s' → s'.heap.get? D = some (sq "list" ys n) → B.RL G' ys.toList acc → Q (.lst acc) → G' D = none → G' C = none → R (.ok .next) s') :
    ∀ (rest:List V) (i:Nat) (acc:List V) (G:View) (s:Shared) (m:Str → Option Value) (ys:Array Value) (n:Nat),xs.drop i = rest → i ≤ xs.length → Step G₀ G s₀ s → Rel B Kp σ G s → FRx B c env L G Kp → St i G s.heap → s.heap.Ns C m → Bound B c scope G m Lb → s.heap.get? D = some (sq "list" ys n) → B.RL G ys.toList acc →
      Apart G s.heap (D :: C :: wr) → LoopP F rest acc Q → codeAny B.M A (.compLoop (.ListComp elt gens scope pos) dp (.ref I) (.ref D) (cEnv scope C env)) R s := by
  intro rest
  induction rest with
  | nil =>
    intro i acc G s m ys n hd hi st0 r f st hn hb hD rl ap q
    have hi' : i = xs.length := by
      have := congrArg List.length hd
      simp at this
      omega
    refine codeAny_of_tree ?_
    show wpAny _ _ ((compTurn (.ListComp elt gens scope pos) dp (.ref I) (.ref D) (cEnv scope C env)).onRaise (fun x => do noteFrame x (cEnv scope C env); theTreesLotGoes x)) _ _ s
    refine wpAny_noted ?_
    rw [hEq]
    refine wpAny_bind (wpAny_standAt (wpAny_bind ?_))
    subst hi'
    refine W.done s G _ _ st r.gin fun s' hk' eo eg => wpAny_pure ?_
    have hgin : ∀ a o,G a = some o → s'.heap.get? a = some o := fun a o e => hk' a o (fun h => by rw [(ap a (.tail _ (.tail _ h))).1] at e; cases e) (r.gin a o e)
    have hD' := hk' _ _ hDw hD
    have hn' : s'.heap.Ns C m := by
      obtain ⟨o,es,ep,e,r'⟩ := hn
      exact ⟨o,es,ep,hk' _ _ hCw e,r'⟩
    have st' : Step G₀ G s₀ s' := ⟨st0.le,st0.new,fun a o e => by
      obtain ⟨o',e'⟩ := st0.alive a o e
      exact ⟨o',hk' a o' (fun h => by rw [hfr a h] at e; cases e) e'⟩,eo.trans st0.os,fun h => by rw [eg]; exact st0.gens h⟩
    have r' : Rel B Kp σ G s' := ⟨r.bas,hgin,fun a o e => hk' a o (fun h => by rw [(hst a (.tail _ (.tail _ h))).1] at e; cases e) (r.kin a o e),⟨fun a mm hm => by
      obtain ⟨h1,h2,o,h3,h4⟩ := r.sto.at_ a mm hm
      exact ⟨h1,h2,o,hk' a o (fun h => (hst a (.tail _ (.tail _ h))).2 mm hm) h3,h4⟩,r.sto.nodup⟩,r.hid⟩
    exact hR s' m G ys n acc hn' hb st' r' hD' rl q (ap D (.head _)).1 (ap C (.tail _ (.head _))).1
  | cons x rest ih =>
    intro i acc G s m ys n hd hi st0 r f st hn hb hD rl ap q
    have hx : xs[i]? = some x := by
      have := congrArg (fun l => l[0]?) hd
      simpa using this
    have hlt : i < xs.length := (List.getElem?_eq_some_iff.mp hx).1
    obtain ⟨L',hL',hback,q⟩ := hF x acc _ q
    refine codeAny_of_tree ?_
    show wpAny _ _ ((compTurn (.ListComp elt gens scope pos) dp (.ref I) (.ref D) (cEnv scope C env)).onRaise (fun x => do noteFrame x (cEnv scope C env); theTreesLotGoes x)) _ _ s
    refine wpAny_noted ?_
    rw [hEq]
    refine wpAny_bind (wpAny_standAt (wpAny_bind ?_))
    refine wpAny_mono (W.item i s G _ (fun v s₂ => wpAny B.M A (assign tgt (cEnv scope C env) v >>= fun _ => T (
          again (.compLoop (.ListComp elt gens scope pos) dp (.ref I) (.ref D) (cEnv scope C env)))) (fun fin s' => match fin with | .done f => R (.ok f) s' | .again c' => c'.quiet = true ∧ codeAny B.M A c' R s') (notedBy B.M A (cEnv scope C env) fun e s' => R (.error e) s') s₂) x hx st r.gin ?_) (fun rr s₁ hh => ?_) fun _ _ e => e
    · intro v s₂ G₂ st₂ gin₂ rv sti hk₂
      have ap₂ := ap.step st₂
      have r₂ : Rel B Kp σ G₂ s₂ := r.upd st₂ gin₂ hk₂ fun b hb => hst b (.tail _ (.tail _ hb))
      have hn₂ : s₂.heap.Ns C m := by
        obtain ⟨o,es,ep,e,r'⟩ := hn
        exact ⟨o,es,ep,hk₂ _ _ hCw e,r'⟩
      have hD₂ := hk₂ _ _ hDw hD
      refine wpAny_bind (comp_assign (compOk_kind ok) b.2.2 ho ht gin₂ hn₂ (hb.mono st₂.le) rv hL' (ap₂ C (.tail _ (.head _))).1 fun s₃ m₃ hn₃ hb₃ hk₃ eo eg => ?_)
      have st₃ : Step G₂ G₂ s₂ s₃ := Step.grow G₂ (fun a o e => by
        by_cases h : a = C
        · subst h; obtain ⟨o',_,_,e',_⟩ := hn₃; exact ⟨o',e'⟩
        · exact ⟨o,hk₃ a o h e⟩) eo eg
      have gin₃ : ∀ a o,G₂ a = some o → s₃.heap.get? a = some o := fun a o e => hk₃ a o (fun h => by subst h; rw [(ap₂ a (.tail _ (.head _))).1] at e; cases e) (gin₂ a o e)
      have r₃ : Rel B Kp σ G₂ s₃ := r₂.upd (ws := [C]) st₃ gin₃ (fun a o h e => hk₃ a o (by simpa using h) e) (fun a h => by simp at h; subst h; exact hst a (.tail _ (.head _)))
      have hD₃ := hk₃ _ _ hDC hD₂
      have ap₃ := ap₂.step st₃
      have hK1 : ∀ a,(PySem.W.hideAll (maxK σ s₃.heap) [D,C]).get? a = none ∨ (a ≠ D ∧ a ≠ C) := fun a => by
        by_cases h : a ∈ [D,C]
        · exact .inl (PySem.W.hideAll_none _ h)
        · simp at h; exact .inr h
      have inK1 : ∀ a o,(∀ mm,(a,mm) ∉ σ) → a ≠ D → a ≠ C → s₃.heap.get? a = some o → (PySem.W.hideAll (maxK σ s₃.heap) [D,C]).get? a = some o := fun a o h1 h2 h3 e => PySem.W.hideAll_get _ (maxK_get e h1) (by simp [h2,h3])
      have hKK : Kp.StaysIn (PySem.W.hideAll (maxK σ s₃.heap) [D,C]) := fun a o e => inK1 a o (fun mm hm => by rw [r₃.hid a mm hm] at e; cases e) (fun h => by subst h; rw [(hst a (.head _)).1] at e; cases e) (fun h => by subst h; rw [(hst a (.tail _ (.head _))).1] at e; cases e) (r₃.kin a o e)
      have r₃' : Rel B (PySem.W.hideAll (maxK σ s₃.heap) [D,C]) σ G₂ s₃ := ⟨r₃.bas,r₃.gin,fun a o e => maxK_in _ _ _ _ (PySem.W.of_hideAll _ e),r₃.sto,fun a mm hm => by
        cases q : (PySem.W.hideAll (maxK σ s₃.heap) [D,C]).get? a with
        | none => rfl
        | some o => have := PySem.W.of_hideAll _ q; rw [maxK_none hm] at this; cases this⟩
      refine q A _ s₃ G₂ _ m₃ ys n _ _ b r₃' ((f.mono st₂.le).into hKK) ⟨hDC,PySem.W.hideAll_none _ (.head _),PySem.W.hideAll_none _ (.tail _ (.head _)),(hst D (.head _)).2,(hst C (.tail _ (.head _))).2⟩ (ap₃ D (.head _)).1 (ap₃ C (.tail _ (.head _))).1 hn₃ hb₃ hD₃ (rl.mono st₂.le) fun s₄ G₄ m₄ ys₄ n₄ acc₄ st₄ r₄ hn₄ hb₄ hD₄ rl₄ q₄ => ?_
      have r₄' : Rel B Kp σ G₄ s₄ := ⟨r₄.bas,r₄.gin,fun a o e => r₄.kin a o (hKK a o e),r₄.sto,r₃.hid⟩
      have ap₄ := ap₃.step st₄
      refine wpAny_pure ⟨rfl,?_⟩
      refine ih (i + 1) acc₄ G₄ s₄ m₄ ys₄ n₄ ?_ hlt (((st0.trans st₂).trans st₃).trans st₄) r₄' (f.mono (st₂.le.trans st₄.le)) ?_ hn₄ (hback _ _ hb₄) hD₄ rl₄ ap₄ q₄
      · have := congrArg List.tail hd
        simpa using this
      · exact W.frame (i + 1) G₂ G₄ s₂.heap s₄.heap sti st₄.le r₄.gin (fun a ha => (ap₄ a (.tail _ (.tail _ ha))).1) fun a ha o e => r₄.kin a o (inK1 a o (hst a (.tail _ (.tail _ ha))).2 (fun h => hDw (h ▸ ha)) (fun h => hCw (h ▸ ha)) (hk₃ a o (fun h => hCw (h ▸ ha)) e))
    · obtain ⟨v,hv,hw⟩ := hh
      subst hv
      exact wpAny_bind hw
end
section
variable {B:B0} {k:Nat} {c:Cx} {σ:Store} {L:Lc} {Q:V → Prop}
theorem Rel.addv {Kp:Heap} {G:View} {s:Shared} {D:Addr} {o:Obj} (r:Rel B Kp σ G s) (hD:s.heap.get? D = some o) (hG:G D = none) (hs:∀ m,(D,m) ∉ σ) : Rel B Kp σ (G.add D o) s := by
  refine ⟨r.bas.trans (VLe.add hG o),fun a o' e => ?_,r.kin,⟨fun a m hm => ?_,r.sto.nodup⟩,r.hid⟩
  · unfold View.add at e
    split at e
    · rename_i q; subst q; cases e; exact hD
    · exact r.gin a o' e
  · obtain ⟨h1,h2,o',h3,h4⟩ := r.sto.at_ a m hm
    refine ⟨?_,h2,o',h3,h4.mono (VLe.add hG o)⟩
    unfold View.add
    rw [if_neg (fun (q:a = D) => hs m (q ▸ hm))]
    exact h1
theorem Step.addv {G₀ G:View} {s₀ s:Shared} {D:Addr} {o:Obj} (st:Step G₀ G s₀ s) (hG:G D = none) (h0:s₀.heap.get? D = none) : Step G₀ (G.add D o) s₀ s :=
  ⟨st.le.trans (VLe.add hG o),fun a o' e => by
    unfold View.add at e
    split at e
    · rename_i q; subst q; exact .inr h0
    · exact st.new a o' e,st.alive,st.os,st.gens⟩
theorem turn2_eq (elt t1 it1 t2 it2:Expr) (scope:Scope) (pos:Pos) (it acc:Value) (env:Env) :
    compTurn (.ListComp elt [⟨t1,it1,[],0⟩,⟨t2,it2,[],0⟩] scope pos) 0 it acc env = (standAt it1.pos >>= fun _ => pyNext it >>= fun r => match r with
      | none => pure (.done .next)
      | some v => letOwnedTupleGo t1 it v >>= fun _ => assign t1 env v >>= fun _ =>
        (eval it2 env >>= fun x => standAt it2.pos >>= fun _ => foldedSetIterable it2 env x >>= fun x => holding [x] (pyIter x) >>= fun it' => runOwn (.compStart (.ListComp elt [⟨t1,it1,[],0⟩,⟨t2,it2,[],0⟩] scope pos) 1 it' acc env) env >>= fun _ =>
          again (.compLoop (.ListComp elt [⟨t1,it1,[],0⟩,⟨t2,it2,[],0⟩] scope pos) 0 it acc env))) := by rfl
theorem turn1_eq (elt t1 it1 t2 it2:Expr) (scope:Scope) (pos:Pos) (it acc:Value) (env:Env) :
    compTurn (.ListComp elt [⟨t1,it1,[],0⟩,⟨t2,it2,[],0⟩] scope pos) 1 it acc env = (standAt it2.pos >>= fun _ => pyNext it >>= fun r => match r with
      | none => pure (.done .next)
      | some v => letOwnedTupleGo t2 it v >>= fun _ => assign t2 env v >>= fun _ =>
        (eval elt env >>= fun x => call (.builtin "list.append") [acc,x] >>= fun _ => pure ()) >>= fun _ =>
          again (.compLoop (.ListComp elt [⟨t1,it1,[],0⟩,⟨t2,it2,[],0⟩] scope pos) 1 it acc env)) := by rfl
theorem start1 {elt:Expr} {g1:Comprehension} {t2 it2:Expr} {scope:Scope} {pos:Pos} {it acc:Value} {env:Env} {A:Around} {R:Result → Shared → Prop} {s:Shared}
    (h0:codeAny B.M A (.compLoop (.ListComp elt [g1,⟨t2,it2,[],0⟩] scope pos) 1 it acc env) R s)
    (h:wpAny B.M A (pyIter it) (fun it' s' => codeAny B.M A (.compLoop (.ListComp elt [g1,⟨t2,it2,[],0⟩] scope pos) 1 it' acc env) R s') (notedBy B.M A env fun x s' => R (.error x) s') s) :
    codeAny B.M A (.compStart (.ListComp elt [g1,⟨t2,it2,[],0⟩] scope pos) 1 it acc env) R s := by
  refine codeAny_of_tree ?_
  show wpAny _ _ ((compStart (.ListComp elt [g1,⟨t2,it2,[],0⟩] scope pos) 1 it acc env).onRaise (fun x => do noteFrame x env; standAt theWindowsPlace)) _ _ s
  refine wpAny_notedAt ?_
  unfold compStart
  show wpAny _ _ (ask >>= _) _ _ s
  refine wpAny_bind (wpAny_askSetting (wpAny_ite ?_))
  split
  · first
      | exact wpAny_bind (wpAny_pure (wpAny_pure ⟨rfl,h0⟩))
      | exact wpAny_pure ⟨rfl,h0⟩
  · refine wpAny_bind (wpAny_rule ?_)
    show wpAny _ _ (standAt it2.pos >>= _) _ _ s
    exact wpAny_bind (wpAny_standAt (wpAny_bind (wpAny_mono h (fun it' s' h' => wpAny_pure ⟨rfl,h'⟩) fun _ _ x => x)))
theorem turn_in {scope:Scope} {elt t1 it1 t2 it2:Expr} {tg2:List Nat} {pos:Pos} {env:Env} {C D:Addr} {L':Lc} {acc:List V} {N:List V → Prop} {F:V → List V → (List V → Prop) → Prop} (ok:compOk c scope = true) (ho:ownTgt scope t2 = true) (ht:cTgt (cIn c scope) t2 = some tg2)
    (hs:∀ env x,foldedSetIterable it2 env x = pure x) (hL:∀ (i:Nat) d,i < c.nx → L'[i]? = some (some d) → L[i]? = some (some d))
    (hF:∀ x acc N,F x acc N → ∃ L'',bindT tg2 x L' = some L'' ∧ (∀ G m,Bound B c scope G m L'' → Bound B c scope G m L') ∧ TurnP B k c σ L scope env C D L'' (fun rest => (eval elt (cEnv scope C env) >>= fun x => call (.builtin "list.append") [.ref D,x] >>= fun _ => pure ()) >>= fun _ => rest) acc N)
    (h:SRC B k (cIn c scope) σ L' it2 t2 fun ys => LoopP F ys acc fun d => ∃ acc',d = .lst acc' ∧ N acc') :
    TurnP B k c σ L scope env C D L' (fun rest => eval it2 (cEnv scope C env) >>= fun x => standAt it2.pos >>= fun _ => foldedSetIterable it2 (cEnv scope C env) x >>= fun x => holding [x] (pyIter x) >>= fun it' => runOwn (.compStart (.ListComp elt [⟨t1,it1,[],0⟩,⟨t2,it2,[],0⟩] scope pos) 1 it' (.ref D) (cEnv scope C env)) (cEnv scope C env) >>= fun _ => rest) acc N := by
  intro A E s G Kp m ys n rest K b r f o2 gD gC hn hb hD rl hK
  have inK : ∀ a o,(∀ mm,(a,mm) ∉ σ) → s.heap.get? a = some o → (maxK σ s.heap).get? a = some o := fun a o h e => maxK_get e h
  have hnK : (maxK σ s.heap).Ns C m := by
    obtain ⟨o,es,ep,e,r'⟩ := hn
    exact ⟨o,es,ep,inK C o o2.sc e,r'⟩
  have hKK : Kp.StaysIn (maxK σ s.heap) := fun a o e => maxK_get (r.kin a o e) fun mm hm => by rw [r.hid a mm hm] at e; cases e
  have f₃ : FRx B (cIn c scope) (cEnv scope C env) L' G (maxK σ s.heap) := f.comp ok hKK hnK hL hb
  refine wpAny_bind (wpAny_mono (h.run (E := E) b r.max f₃ fun s₂ I wr xs St G₂ W st0 st₂ r₂ hwr hsz q => ?_) (fun x s₁ h₁ => wpAny_bind (wpAny_standAt (by rw [hs]; exact wpAny_bind (wpAny_pure (wpAny_bind (wpAny_holding h₁)))))) fun _ _ e => e)
  have hD₂ := r₂.kin _ _ (inK D _ o2.sd hD)
  have hn₂ : s₂.heap.Ns C m := hnK.keeps r₂.kin
  have ap0 : Apart G s.heap [D,C] := fun a ha => by
    rcases List.mem_cons.mp ha with rfl | ha
    · exact ⟨gD,_,hD⟩
    · simp at ha; subst ha; obtain ⟨o,_,_,e,_⟩ := hn; exact ⟨gC,o,e⟩
  have ap₂ := ap0.step st₂
  have hDw : D ∉ wr := fun hm => by rw [(hwr D hm).1] at hD; cases hD
  have hCw : C ∉ wr := fun hm => by obtain ⟨o,_,_,e,_⟩ := hn; rw [(hwr C hm).1] at e; cases e
  have hst : ∀ a ∈ D :: C :: wr,Kp.get? a = none ∧ ∀ m,(a,m) ∉ σ := fun a ha => by
    rcases List.mem_cons.mp ha with rfl | ha
    · exact ⟨o2.kd,o2.sd⟩
    · rcases List.mem_cons.mp ha with rfl | ha
      · exact ⟨o2.kc,o2.sc⟩
      · exact r.outside (hwr a ha).1
  have ap : Apart G₂ s₂.heap (D :: C :: wr) := fun a ha => by
    rcases List.mem_cons.mp ha with rfl | ha
    · exact ap₂ _ (.head _)
    · rcases List.mem_cons.mp ha with rfl | ha
      · exact ap₂ _ (.tail _ (.head _))
      · exact (hwr a ha).2
  refine wpAny_bind (wpAny_runOwn ?_)
  have loop : codeAny B.M A (.compLoop (.ListComp elt [⟨t1,it1,[],0⟩,⟨t2,it2,[],0⟩] scope pos) 1 (.ref I) (.ref D) (cEnv scope C env)) (fun r s' => match r with | .ok f => wpAny B.M A rest K E s' | .error e => cameBackBy B.M A (cEnv scope C env) E e s') s₂ := by
    refine comp_gen (L := L) (Q := fun d => ∃ acc',d = .lst acc' ∧ N acc') (Lb := L') (turn1_eq _ _ _ _ _ _ _ _ _ _) hF b W ok ho ht o2.ne hDw hCw hst G s (fun b hb => (hwr b hb).1) (fun s' m' G' ys' n' acc' hn' hb' st' r' hD' rl' q' _ _ => ?_) xs 0 acc G₂ s₂ m ys n rfl (Nat.zero_le _) st₂ (r.back r₂) (f.mono st₂.le) st0 hn₂ (hb.mono st₂.le) hD₂ (rl.mono st₂.le) ap q
    obtain ⟨acc'',e,qn⟩ := q'
    cases e
    exact hK s' G' m' ys' n' acc' st' r' hn' hb' hD' rl' qn
  exact start1 loop (W.self 0 _ G₂ _ _ st0 r₂.gin loop)
theorem comp_coreG {scope:Scope} {tgt elt iter:Expr} {gs:List Comprehension} {tg:List Nat} {T:Addr → Addr → Sem Fin → Sem Fin} {F:V → List V → (List V → Prop) → Prop} {pos pos':Pos} {env:Env} {A:Around} {Kp:Heap} {s:Shared} {G:View} {E:Value → Shared → Prop} {use:Option (Value → Sem Unit)} {Q':Value → Shared → Prop}
    (ok:compOk c scope = true) (ho:ownTgt scope tgt = true) (ht:cTgt (cIn c scope) tgt = some tg) (hs:∀ x,foldedSetIterable iter env x = pure x)
    (hEq:∀ I D C,compTurn (.ListComp elt (⟨tgt,iter,[],0⟩ :: gs) scope pos) 0 (.ref I) (.ref D) (cEnv scope C env) = (standAt iter.pos >>= fun _ => pyNext (.ref I) >>= fun r => match r with
      | none => pure (.done .next)
      | some v => letOwnedTupleGo tgt (.ref I) v >>= fun _ => assign tgt (cEnv scope C env) v >>= fun _ => T C D (again (.compLoop (.ListComp elt (⟨tgt,iter,[],0⟩ :: gs) scope pos) 0 (.ref I) (.ref D) (cEnv scope C env)))))
    (hF:∀ C D x acc N,F x acc N → ∃ L',bindT tg x (L0 c scope L) = some L' ∧ TurnP B k c σ L scope env C D L' (T C D) acc N)
    (h:SRC B k c σ L iter tgt fun xs => LoopP F xs [] fun d => ∃ acc,d = .lst acc ∧ acc.length ≤ sizeLine ∧ Q d) (b:Bud k A) (r:Rel B Kp σ G s) (f:FRx B c env L G Kp)
    (hR:∀ s' C D m G' ys n acc,s'.heap.Ns C m → Step G G' s s' → Rel B Kp σ G' s' → s'.heap.get? D = some (sq "list" ys n) → ys.size ≤ sizeLine → B.RL G' ys.toList acc → Q (.lst acc) → G' D = none → G' C = none → D ≠ C → s.heap.get? D = none → s.heap.get? C = none → compPost B.M A E use Q' (.ref D) C (.ok .next) s') :
    wpAny B.M A (comprehension (.ListComp elt (⟨tgt,iter,[],0⟩ :: gs) scope pos) scope env pos' (newList []) false (eval iter env) use) Q' E s := by
  have hkind := compOk_kind ok
  have hcl : closureFor scope env = pure (cl0 env scope.names []) := closureFor_eq fun x hx hf => by
    obtain ⟨y,kd⟩ := x
    simp only at hf
    subst hf
    rcases (compOk_name ok hx).2 with q | q | q
    · cases q
    · exact (f.cel y q.2).2
    · cases q
  refine wpAny_comprehension_free (g := ⟨tgt,iter,[],0⟩) (gs := gs) rfl hs hcl hkind (fun x hx hl => by obtain ⟨y,kd⟩ := x; simp only at hl; subst hl; exact (compOk_name ok hx).1) ?_
  refine h.run b r f fun s₂ I wr xs St G₂ W st0 st₂ r₂ hwr hsz q => wpAny_newList ?_
  refine wpAny_newFunctionEnv (fun x hx hk => ?_) (fun x hx => by cases hx) (fun h' hn hsb => ?_) hkind
  · obtain ⟨y,kd⟩ := x
    simp only at hk
    subst hk
    rcases (compOk_name ok hx).2 with q | q | q
    · cases q
    · cases q.1
    · cases q
  dsimp only at hn hsb ⊢
  generalize hH : s₂.heap.push { cls := .type "list",data := .seq ([] : List Value).toArray } = H at hn hsb ⊢
  have hD0 : H.get? s₂.heap.objs.size = some (sq "list" #[] 0) := by rw [← hH]; exact Heap.get?_push_size _ rfl
  have hDC : s₂.heap.objs.size ≠ H.objs.size := by rw [← hH,heap_size_push]; omega
  have hold : ∀ a o,s₂.heap.get? a = some o → h'.get? a = some o := fun a o e => by
    have e1 : H.get? a = some o := by rw [← hH]; exact Heap.get?_push_of_some _ e
    refine (hsb.2 a (Nat.ne_of_lt (Heap.lt_size e1))).trans (Heap.get?_push_of_some _ e1)
  have hD' : h'.get? s₂.heap.objs.size = some (sq "list" #[] 0) := (hsb.2 _ hDC).trans (Heap.get?_push_of_some _ hD0)
  have nD : s₂.heap.get? s₂.heap.objs.size = none := heap_none _
  have nC : s₂.heap.get? H.objs.size = none := by
    rw [← hH,heap_size_push]
    cases q : s₂.heap.get? (s₂.heap.objs.size + 1) with
    | none => rfl
    | some o => exact absurd (Nat.lt_trans (Nat.lt_succ_self _) (Heap.lt_size q)) (Nat.lt_irrefl _)
  have hst : ∀ a ∈ s₂.heap.objs.size :: H.objs.size :: wr,Kp.get? a = none ∧ ∀ m,(a,m) ∉ σ := by
    intro a ha
    rcases List.mem_cons.mp ha with rfl | ha
    · exact r.outside (st₂.gone nD)
    · rcases List.mem_cons.mp ha with rfl | ha
      · exact r.outside (st₂.gone nC)
      · exact r.outside (hwr a ha).1
  have hs3 : Step G₂ G₂ s₂ { s₂ with heap := h' } := Step.grow G₂ (fun a o e => ⟨o,hold a o e⟩) rfl rfl
  have r₃ : Rel B Kp σ G₂ { s₂ with heap := h' } := r₂.grow hold rfl
  have ap : Apart G₂ h' (s₂.heap.objs.size :: H.objs.size :: wr) := by
    intro a ha
    rcases List.mem_cons.mp ha with rfl | ha
    · exact ⟨r₂.noG nD,_,hD'⟩
    · rcases List.mem_cons.mp ha with rfl | ha
      · obtain ⟨o,_,_,e,_⟩ := hn; exact ⟨r₂.noG nC,o,e⟩
      · obtain ⟨_,h2,o,h3⟩ := hwr a ha; exact ⟨h2,o,hold _ _ h3⟩
  have loop : codeAny B.M A (.compLoop (.ListComp elt (⟨tgt,iter,[],0⟩ :: gs) scope pos) 0 (.ref I) (.ref s₂.heap.objs.size) (cEnv scope H.objs.size env)) (compPost B.M A E use Q' (.ref s₂.heap.objs.size) H.objs.size) { s₂ with heap := h' } := by
    refine comp_gen (L := L) (Q := fun d => ∃ acc,d = .lst acc ∧ acc.length ≤ sizeLine ∧ Q d) (Lb := L0 c scope L) (hEq _ _ _) (fun x acc N hf => ?_) b W ok ho ht hDC (fun hm => ?_) (fun hm => ?_) hst G s (fun b hb => (hwr b hb).1) (fun s' m G' ys n acc hn' _ st' r' hD'' rl q' g1 g2 => ?_) xs 0 [] G₂ { s₂ with heap := h' } _ #[] 0 rfl (Nat.zero_le _) (st₂.trans hs3) r₃ (f.mono st₂.le) (W.frame 0 G₂ G₂ s₂.heap h' st0 (VLe.refl _) r₃.gin (fun a ha => (hwr a ha).2.1) fun a _ o e => hold a o e) hn (L0_bound fun _ => trivial) hD' .nil ap q
    · obtain ⟨L',e1,e2⟩ := hF _ _ x acc N hf
      exact ⟨L',e1,fun G m _ => L0_bound fun _ => trivial,e2⟩
    · obtain ⟨_,_,o,e⟩ := hwr _ hm; rw [nD] at e; cases e
    · obtain ⟨_,_,o,e⟩ := hwr _ hm; rw [nC] at e; cases e
    · obtain ⟨acc',e,hz,q'⟩ := q'
      cases e
      exact hR s' _ _ m G' ys n acc hn' st' r' hD'' (by rw [← Array.length_toList,rl.length]; exact hz) rl q' g1 g2 hDC (st₂.gone nD) (st₂.gone nC)
  exact codeAny_compStart_list loop (W.self 0 _ G₂ _ _ (W.frame 0 G₂ G₂ s₂.heap h' st0 (VLe.refl _) r₃.gin (fun a ha => (hwr a ha).2.1) fun a _ o e => hold a o e) r₃.gin loop)
noncomputable def OneF (B:B0) (k:Nat) (c:Cx) (σ:Store) (Lb:Lc) (tg:List Nat) (elt:Expr) (x:V) (acc:List V) (N:List V → Prop) : Prop :=
  ∃ L',bindT tg x Lb = some L' ∧ acc.length ≤ sizeLine ∧ EV B k c σ L' elt fun y => N (acc ++ [y])
theorem bind_back {scope:Scope} {tg:List Nat} {x:V} {L₁ L':Lc} (h:bindT tg x L₁ = some L') (hf:∀ i ∈ tg,∀ d,L₁[i]? ≠ some (some d)) {G:View} {m:Str → Option Value} (hb:Bound B c scope G m L') : Bound B c scope G m L₁ := by
  intro y i d hy hd
  refine hb y i d hy ?_
  rw [bindT_get h fun hm => hf i hm d hd]
  exact hd
theorem CompP.loop {scope:Scope} {tg:List Nat} {elt:Expr} : ∀ (xs acc:List V),acc.length + xs.length ≤ sizeLine → CompP B k (cIn c scope) σ (L0 c scope L) tg elt xs acc Q → LoopP (OneF B k (cIn c scope) σ (L0 c scope L) tg elt) xs acc fun d => ∃ acc,d = .lst acc ∧ acc.length ≤ sizeLine ∧ Q d
  | [],acc,hz,q => ⟨acc,rfl,by simpa using hz,q⟩
  | x :: xs,acc,hz,q => by
    obtain ⟨L',e,q⟩ := q
    simp only [List.length_cons] at hz
    exact ⟨L',e,Nat.le_trans (Nat.le_add_right _ _) hz,EVt.mono q fun d hd => CompP.loop xs (acc ++ [d]) (by rw [List.length_append,List.length_singleton,Nat.add_right_comm,Nat.add_assoc]; exact hz) hd⟩
theorem L0_slots {scope:Scope} {tgt:Expr} {tg:List Nat} {x:V} {L':Lc} (ho:ownTgt scope tgt = true) (ht:cTgt (cIn c scope) tgt = some tg) (h:bindT tg x (L0 c scope L) = some L') : ∀ (i:Nat) d,i < c.nx → L'[i]? = some (some d) → L[i]? = some (some d) := fun i d hi e => L0_out hi (by rw [← bindT_out ho ht h i hi]; exact e)
theorem core_one {scope:Scope} {tgt elt iter:Expr} {tg:List Nat} {pos pos':Pos} {env:Env} {A:Around} {Kp:Heap} {s:Shared} {G:View} {E:Value → Shared → Prop} {use:Option (Value → Sem Unit)} {Q':Value → Shared → Prop}
    (ok:compOk c scope = true) (ho:ownTgt scope tgt = true) (ht:cTgt (cIn c scope) tgt = some tg) (hs:∀ x,foldedSetIterable iter env x = pure x)
    (h:SRC B k c σ L iter tgt fun xs => CompP B k (cIn c scope) σ (L0 c scope L) tg elt xs [] Q) (b:Bud k A) (r:Rel B Kp σ G s) (f:FRx B c env L G Kp)
    (hR:∀ s' C D m G' ys n acc,s'.heap.Ns C m → Step G G' s s' → Rel B Kp σ G' s' → s'.heap.get? D = some (sq "list" ys n) → ys.size ≤ sizeLine → B.RL G' ys.toList acc → Q (.lst acc) → G' D = none → G' C = none → D ≠ C → s.heap.get? D = none → s.heap.get? C = none → compPost B.M A E use Q' (.ref D) C (.ok .next) s') :
    wpAny B.M A (comprehension (.ListComp elt [⟨tgt,iter,[],0⟩] scope pos) scope env pos' (newList []) false (eval iter env) use) Q' E s := by
  refine comp_coreG (T := fun C D rest => (eval elt (cEnv scope C env) >>= fun x => call (.builtin "list.append") [.ref D,x] >>= fun _ => pure ()) >>= fun _ => rest) (F := OneF B k (cIn c scope) σ (L0 c scope L) tg elt) ok ho ht hs (fun I D C => compTurn_list1 _ _ _ _ _ _ _ _) (fun C D x acc N hf => ?_) (h.len fun xs hz q => CompP.loop xs [] (by simpa using hz) q) b r f hR
  obtain ⟨L',e1,e2,e3⟩ := hf
  exact ⟨L',e1,turn_elt ok (L0_slots ho ht e1) e2 e3⟩
noncomputable def TwoF (B:B0) (k:Nat) (c:Cx) (σ:Store) (Lb:Lc) (tg tg2:List Nat) (t2 it2 elt:Expr) (x:V) (acc:List V) (N:List V → Prop) : Prop :=
  ∃ L',bindT tg x Lb = some L' ∧ SRC B k c σ L' it2 t2 fun ys => LoopP (OneF B k c σ L' tg2 elt) ys acc fun d => ∃ acc',d = .lst acc' ∧ N acc'
theorem core_two {scope:Scope} {tgt elt iter t2 it2:Expr} {tg tg2:List Nat} {pos pos':Pos} {env:Env} {A:Around} {Kp:Heap} {s:Shared} {G:View} {E:Value → Shared → Prop} {use:Option (Value → Sem Unit)} {Q':Value → Shared → Prop}
    (ok:compOk c scope = true) (ho:ownTgt scope tgt = true) (ht:cTgt (cIn c scope) tgt = some tg) (hs:∀ x,foldedSetIterable iter env x = pure x) (ho2:ownTgt scope t2 = true) (ht2:cTgt (cIn c scope) t2 = some tg2) (hs2:∀ env x,foldedSetIterable it2 env x = pure x)
    (hdis:∀ x L',bindT tg x (L0 c scope L) = some L' → ∀ i ∈ tg2,∀ d,L'[i]? ≠ some (some d)) (hout:∀ x L' L'',bindT tg2 x L' = some L'' → ∀ i,i < c.nx → L''[i]? = L'[i]?)
    (h:SRC B k c σ L iter tgt fun xs => LoopP (TwoF B k (cIn c scope) σ (L0 c scope L) tg tg2 t2 it2 elt) xs [] fun d => ∃ acc,d = .lst acc ∧ acc.length ≤ sizeLine ∧ Q d) (b:Bud k A) (r:Rel B Kp σ G s) (f:FRx B c env L G Kp)
    (hR:∀ s' C D m G' ys n acc,s'.heap.Ns C m → Step G G' s s' → Rel B Kp σ G' s' → s'.heap.get? D = some (sq "list" ys n) → ys.size ≤ sizeLine → B.RL G' ys.toList acc → Q (.lst acc) → G' D = none → G' C = none → D ≠ C → s.heap.get? D = none → s.heap.get? C = none → compPost B.M A E use Q' (.ref D) C (.ok .next) s') :
    wpAny B.M A (comprehension (.ListComp elt [⟨tgt,iter,[],0⟩,⟨t2,it2,[],0⟩] scope pos) scope env pos' (newList []) false (eval iter env) use) Q' E s := by
  refine comp_coreG (T := fun C D rest => eval it2 (cEnv scope C env) >>= fun x => standAt it2.pos >>= fun _ => foldedSetIterable it2 (cEnv scope C env) x >>= fun x => holding [x] (pyIter x) >>= fun it' => runOwn (.compStart (.ListComp elt [⟨tgt,iter,[],0⟩,⟨t2,it2,[],0⟩] scope pos) 1 it' (.ref D) (cEnv scope C env)) (cEnv scope C env) >>= fun _ => rest)
    (F := TwoF B k (cIn c scope) σ (L0 c scope L) tg tg2 t2 it2 elt) ok ho ht hs (fun I D C => turn2_eq _ _ _ _ _ _ _ _ _ _) (fun C D x acc N hf => ?_) h b r f hR
  obtain ⟨L',e1,e2⟩ := hf
  have hL := L0_slots ho ht e1
  refine ⟨L',e1,turn_in ok ho2 ht2 hs2 hL (fun y acc N hg => ?_) e2⟩
  obtain ⟨L'',g1,g2,g3⟩ := hg
  exact ⟨L'',g1,fun G m hb => bind_back g1 (hdis x L' e1) hb,turn_elt ok (fun i d hi e => hL i d hi (by rw [← hout y L' L'' g1 i hi]; exact e)) g2 g3⟩
end
noncomputable def owners : List String := ["enumerate","zip","dict_itemiterator","dict_reverseitemiterator","odict_iterator","itertools.zip_longest","itertools.pairwise"]
theorem letGo_plain {M:Model} {A:Around} {E:Value → Shared → Prop} {s:Shared} {tgt:Expr} {I:Addr} {v:Value} {o:Obj} {T:String} {Q:Unit → Shared → Prop} (ho:s.heap.get? I = some o) (hc:o.cls = .type T) (hT:owners.contains T = false) (h:Q () s) :
    wpAny M A (letOwnedTupleGo tgt (.ref I) v) Q E s := by
  have key : wpAny M A (do
      let (.ref r,.ref a) := (Value.ref I,v) | return
      let o ← load r
      match o.cls,o.data with
      | .type n,.fields vs =>
        if ["enumerate","zip","dict_itemiterator","dict_reverseitemiterator","odict_iterator","itertools.zip_longest","itertools.pairwise"].contains n && vs[0]? == some (rawInt a) then
          rule "for.unpacks-the-owned-tuple"
          updateField r 0 .none
      | _,_ => pure () : Sem Unit) Q E s := by
    cases v with
    | ref a =>
      refine wpAny_bind (wpAny_load ho ?_)
      rw [hc]
      cases o.data with
      | fields vs =>
        have hT' : ["enumerate","zip","dict_itemiterator","dict_reverseitemiterator","odict_iterator","itertools.zip_longest","itertools.pairwise"].contains T = false := hT
        show wpAny M A (if (["enumerate","zip","dict_itemiterator","dict_reverseitemiterator","odict_iterator","itertools.zip_longest","itertools.pairwise"].contains T && vs[0]? == some (rawInt a)) = true then _ else _) Q E s
        rw [hT',Bool.false_and,if_neg Bool.false_ne_true]
        exact wpAny_pure h
      | _ => exact wpAny_pure h
    | _ => exact wpAny_pure h
  cases tgt <;> first | exact wpAny_pure h | exact key
section
variable {B:B0} {k:Nat} {c:Cx} {σ:Store} {L:Lc}
theorem Itr.of_walks {A:Around} {tgt:Expr} {I:Addr} {fp:List Addr} {xs:List V} {P:Nat → Value → Prop} {St:Nat → Heap → Prop} {T:String} {G₀:View} (W:Walks B.prog B.w A I fp [I] xs.length P St)
    (hT:∀ i h,St i h → ∃ o,h.get? I = some o ∧ o.cls = .type T) (hT':owners.contains T = false)
    (hP:∀ i v d,P i v → xs[i]? = some d → B.R G₀ v d) (hfp:∀ b ∈ fp,b ≠ I → ∃ o,G₀ b = some o) :
    Itr B A tgt I [I] xs fun i G h => St i h ∧ VLe G₀ G ∧ (∀ a o,G a = some o → h.get? a = some o) ∧ G I = none where
  frame := fun i G G' h h' ⟨st,l,g,_⟩ l' g' hN hw => ⟨W.frame i h h' st fun b hb o e => by
    by_cases q : b = I
    · exact hw b (by simp [q]) o e
    · obtain ⟨o',h1⟩ := hfp b hb q
      have e1 := g b o' (l b o' h1)
      rw [e] at e1
      cases e1
      exact g' b o (l' b o (l b o h1)),l.trans l',g',hN I (.head _)⟩
  item := fun i s G E Q d hd ⟨st,l,g,nI⟩ hg h => by
    have hlt : i < xs.length := (List.getElem?_eq_some_iff.mp hd).1
    refine W.item i s _ E hlt st fun v h' tk hp st' hk => ⟨v,rfl,?_⟩
    obtain ⟨o,ho,hc⟩ := hT _ _ st'
    refine letGo_plain ho hc hT' ?_
    have g' : ∀ a o,G a = some o → h'.get? a = some o := fun a o e => hk a o (fun q => by simp at q; subst q; rw [nI] at e; cases e) (g a o e)
    exact h v _ G (Step.grow G (fun a o' e => by
      by_cases q : a = I
      · subst q; exact ⟨o,ho⟩
      · exact ⟨o',hk a o' (by simpa using q) e⟩) rfl rfl) g' ((hP i v d hp hd).mono l) ⟨st',l,g',nI⟩ hk
  done := fun s G E Q ⟨st,l,g,_⟩ hg h => W.done s Q E st fun h' tk hk => h _ hk rfl rfl
  self := fun i s G E Q ⟨st,l,g,_⟩ hg h => W.self i s Q E st h
noncomputable def srcOf : V → Option (List V)
  | .lst xs => some xs
  | .tup xs => some xs
  | .sd kvs => some (kvs.map fun p => .str p.1)
  | _ => none
noncomputable def rangeV (a:Int) : Nat → List V
  | 0 => []
  | n + 1 => .int a :: rangeV (a + 1) n
theorem rangeV_length (a:Int) (n:Nat) : (rangeV a n).length = n := by
  induction n generalizing a with
  | zero => rfl
  | succ n ih => simp [rangeV,ih]
theorem rangeV_get (a:Int) (n i:Nat) (h:i < n) : (rangeV a n)[i]? = some (.int (a + i)) := by
  induction n generalizing a i with
  | zero => omega
  | succ n ih =>
    cases i with
    | zero => simp [rangeV]
    | succ i =>
      simp only [rangeV,List.getElem?_cons_succ]
      rw [ih (a + 1) i (by omega)]
      congr 2
      omega
theorem fresh_facts {Kp:Heap} {G:View} {s:Shared} (r:Rel B Kp σ G s) (o:Obj) (hf:o.isFreed = false) : s.heap.get? s.heap.objs.size = none ∧ G s.heap.objs.size = none ∧ ∃ o',(s.heap.push o).get? s.heap.objs.size = some o' :=
  ⟨heap_none _,r.none_size,_,Heap.get?_push_size _ hf⟩
theorem ResR.of_walks {A:Around} {tgt:Expr} {s s₁:Shared} {G G₁:View} {Kp:Heap} {o:Obj} {P:List V → Prop} {fp:List Addr} {xs:List V} {Pv:Nat → Value → Prop} {St:Nat → Heap → Prop} {T:String} (st:Step G G₁ s s₁) (r₁:Rel B Kp σ G₁ s₁) (hf:o.isFreed = false)
    (W:Walks B.prog B.w A s₁.heap.objs.size fp [s₁.heap.objs.size] xs.length Pv St) (hT:∀ i h,St i h → ∃ o,h.get? s₁.heap.objs.size = some o ∧ o.cls = .type T) (hT':owners.contains T = false)
    (hP:∀ i v d,Pv i v → xs[i]? = some d → B.R G₁ v d) (hfp:∀ b ∈ fp,b ≠ s₁.heap.objs.size → ∃ o,G₁ b = some o) (s0:St 0 (s₁.heap.push o)) (hz:xs.length ≤ sizeLine) (q:P xs) : ResR B A tgt Kp σ P G s (.ref s₁.heap.objs.size) { s₁ with heap := s₁.heap.push o } :=
  ⟨_,_,xs,_,G₁,rfl,Itr.of_walks (G₀ := G₁) W hT hT' hP hfp,⟨s0,VLe.refl _,(r₁.pushRaw _).gin,r₁.none_size⟩,st.trans (Step.pushRaw _ _ _),r₁.pushRaw _,fun b hb => by rw [List.mem_singleton.mp hb]; exact ⟨st.gone (heap_none _),r₁.none_size,o,Heap.get?_push_size _ hf⟩,hz,q⟩
theorem item_rep {G:View} {vs:Array Value} {ds:List V} (l:B.RL G vs.toList ds) (i:Nat) (v:Value) (d:V) (hp:vs[i]? = some v) (hd:ds[i]? = some d) : B.R G v d := by
  obtain ⟨v',h1,h2⟩ := l.get hd
  rw [Array.getElem?_toList,hp] at h1
  rw [Option.some.inj h1]
  exact h2
theorem fp_two {G:View} {I a:Addr} {o:Obj} (g:G a = some o) (b:Addr) (hb:b ∈ [I,a]) (hne:b ≠ I) : ∃ o,G b = some o := by
  rcases List.mem_cons.mp hb with e | hb
  · exact absurd e hne
  · rw [List.mem_singleton.mp hb]; exact ⟨o,g⟩
theorem src_dict {A:Around} {E:Value → Shared → Prop} {tgt:Expr} {s s₁:Shared} {G G₁:View} {Kp:Heap} {P:List V → Prop} {a:Addr} {o:Obj} {kvs:List (Str × Value)} {ds:List (List Nat × V)} (b:Bud k A) (st:Step G G₁ s s₁) (r₁:Rel B Kp σ G₁ s₁) (g:G₁ a = some o) (di:o.IsDictOf (PySem.strKind B.prog B.w) kvs) (nS:(a == sysModules) = false)
    (e1:kvs.map (·.1.cps.toList) = ds.map (·.1)) (hz:(ds.map fun p => V.str p.1).length ≤ sizeLine) (q:P (ds.map fun p => V.str p.1)) : wpAny B.M A (pyIter (.ref a)) (ResR B A tgt Kp σ P G s) E s₁ := by
  have hl := r₁.gin _ _ g
  obtain ⟨es,ep,d1,d2,d3,d4,d5⟩ := di
  refine wpAny_pyIter_dict nS ⟨o,es,hl,d1,d2,d3,d4,d5⟩ ?_
  have W := Walks.dictKeys (prog := B.prog) (w := B.w) (A := A) (knd := PySem.strKind B.prog B.w) b.2.2 s₁.heap.objs.size a (Nat.ne_of_lt (Heap.lt_size hl)) kvs ep
  have hlen : kvs.length = (ds.map fun p => V.str p.1).length := by
    have := congrArg List.length e1
    rw [List.length_map,List.length_map] at this
    rw [this,List.length_map]
  rw [hlen] at W
  refine ResR.of_walks (T := "dict_keyiterator") st r₁ rfl W (fun i h st => by obtain ⟨o,h1,h2,_⟩ := st.1; exact ⟨o,h1,h2⟩) (by decide) (fun i v d hp hd => ?_) (fp_two g) ?_ hz q
  · obtain ⟨kk,x,h1,h2⟩ := hp
    obtain ⟨t,e⟩ := Value.isStrOf_shape (show Value.isStrOf kk v = true from h2)
    have h3 := congrArg (fun l => l[i]?) e1
    simp only [List.getElem?_map,h1,Option.map_some] at h3
    rw [List.getElem?_map] at hd
    cases h4 : ds[i]? with
    | none => rw [h4] at hd; exact noS hd
    | some p =>
      rw [h4] at hd h3
      rw [← Option.some.inj hd,e]
      exact .str (Option.some.inj h3)
  · rw [← hlen]
    exact ⟨⟨_,Heap.get?_push_size _ rfl,rfl,rfl⟩,⟨o,es,Heap.get?_push_of_some _ hl,d1,d2,d3,d4,d5⟩⟩
theorem SRC_seq {e tgt:Expr} {P:List V → Prop} (h:EV B k c σ L e fun x => ∃ xs,srcOf x = some xs ∧ xs.length ≤ sizeLine ∧ P xs) : SRC B k c σ L e tgt P := by
  intro A E s G Kp env b r f
  refine Res.run (h A E s G Kp env b r f) fun v s₁ G₁ x st r₁ rv q0 => ?_
  obtain ⟨xs,hx,hz,q⟩ := q0
  cases x with
  | lst ds =>
    cases hx
    obtain ⟨a,vs,n,e,g,z,l⟩ := rv.inv
    have hl := r₁.gin _ _ g
    have W := Walks.list (prog := B.prog) (w := B.w) (A := A) b.2.2 s₁.heap.objs.size a (Nat.ne_of_lt (Heap.lt_size hl)) vs
    rw [l.size] at W
    rw [e]
    exact wpAny_pyIter_list ⟨_,hl,rfl,n,rfl⟩ (ResR.of_walks (T := "list_iterator") st r₁ rfl W (fun i h st => by obtain ⟨o,h1,h2,_⟩ := st.1; exact ⟨o,h1,h2⟩) (by decide) (item_rep l) (fp_two g) ⟨⟨_,Heap.get?_push_size _ rfl,rfl,rfl⟩,⟨_,Heap.get?_push_of_some _ hl,rfl,n,rfl⟩⟩ hz q)
  | tup ds =>
    cases hx
    obtain ⟨a,vs,n,e,g,z,l⟩ := rv.inv
    have hl := r₁.gin _ _ g
    have W := Walks.tuple (prog := B.prog) (w := B.w) (A := A) b.2.2 s₁.heap.objs.size a (Nat.ne_of_lt (Heap.lt_size hl)) vs
    rw [l.size] at W
    rw [e]
    exact wpAny_pyIter_tuple ⟨_,hl,rfl,n,rfl⟩ (ResR.of_walks (T := "tuple_iterator") st r₁ rfl W (fun i h st => by obtain ⟨o,h1,h2,_⟩ := st.1; exact ⟨o,h1,h2⟩) (by decide) (item_rep l) (fp_two g) ⟨⟨_,Heap.get?_push_size _ rfl,rfl,rfl⟩,⟨_,Heap.get?_push_of_some _ hl,rfl,n,rfl⟩⟩ hz q)
  | sd ds =>
    cases hx
    obtain ⟨a,o,kvs,e,g,di,nS,e1,l⟩ := rv.inv
    rw [e]
    exact src_dict b st r₁ g di nS e1 hz q
  | _ => exact noS hx
theorem range_itr {A:Around} {tgt:Expr} {s s₁:Shared} {G G₁:View} {Kp:Heap} {ra:Addr} {a b':Int} {t u v:Tok} {E:Value → Shared → Prop} {P:List V → Prop} (b:Bud k A) (st:Step G G₁ s s₁) (r₁:Rel B Kp σ G₁ s₁) (hr:IsRange s₁.heap ra a b' 1 t u v)
    (hz:(rangeV a (b' - a).toNat).length ≤ sizeLine) (q:P (rangeV a (b' - a).toNat)) : wpAny B.M A (pyIter (.ref ra)) (ResR B A tgt Kp σ P G s) E s₁ := by
  have hsz : Builtin.Range.rangeSize a b' 1 = ((b' - a).toNat : Int) := by
    rw [rangeSize_one]
    split <;> omega
  have hP : ∀ (i:Nat) (vv:Value) (d:V),(∃ t,vv = .int (a + i * 1) t) → (rangeV a (b' - a).toNat)[i]? = some d → B.R G₁ vv d := by
    intro i vv d hv hd
    obtain ⟨t,e⟩ := hv
    have hlt := (List.getElem?_eq_some_iff.mp hd).1
    rw [rangeV_length] at hlt
    rw [rangeV_get _ _ _ hlt] at hd
    rw [← Option.some.inj hd,e,Int.mul_one]
    exact .int _ _
  have fp : ∀ b ∈ [s₁.heap.objs.size],b ≠ s₁.heap.objs.size → ∃ o,G₁ b = some o := fun b hb hbI => absurd (List.mem_singleton.mp hb) hbI
  have num : rawInt (Builtin.Range.rangeSize a b' 1) = rawInt (((rangeV a (b' - a).toNat).length : Int) - (0:Nat)) := by rw [rangeV_length,hsz,Int.natCast_zero,Int.sub_zero]
  have e0 : rawInt a = rawInt (a + (0:Nat) * 1) := by rw [Int.natCast_zero,Int.zero_mul,Int.add_zero]
  cases hsm : Builtin.Range.small a b' 1 with
  | true =>
    refine wpAny_pyIter_range hr hsm ?_
    have W := Walks.range (prog := B.prog) (w := B.w) (A := A) b.2.2 s₁.heap.objs.size a 1 (b' - a).toNat
    rw [← rangeV_length a (b' - a).toNat] at W
    refine ResR.of_walks (T := "range_iterator") st r₁ rfl W (fun i h st => ⟨_,st,rfl⟩) (by decide) hP fp ?_ hz q
    rw [num,e0]
    exact Heap.get?_push_size _ rfl
  | false =>
    refine wpAny_pyIter_longrange hr hsm ?_
    have W := Walks.longrange (prog := B.prog) (w := B.w) (A := A) b.2.2 s₁.heap.objs.size a 1 (b' - a).toNat
    rw [← rangeV_length a (b' - a).toNat] at W
    refine ResR.of_walks (T := "longrange_iterator") st r₁ rfl W (fun i h st => ⟨_,st,rfl⟩) (by decide) hP fp ?_ hz q
    rw [num,e0]
    exact Heap.get?_push_size _ rfl
noncomputable def ranW (vs:List V) (P:List V → Prop) : Prop :=
  match vs with
  | [.int n] => n ≤ 2 ^ 24 ∧ P (rangeV 0 n.toNat)
  | [.int a,.int b] => b - a ≤ 2 ^ 24 ∧ P (rangeV a (b - a).toNat)
  | _ => False
theorem ranW_inv {vs:List V} {P:List V → Prop} (h:ranW vs P) : (∃ n,vs = [.int n] ∧ n ≤ 2 ^ 24 ∧ P (rangeV 0 n.toNat)) ∨ ∃ a b,vs = [.int a,.int b] ∧ b - a ≤ 2 ^ 24 ∧ P (rangeV a (b - a).toNat) := by
  cases vs with
  | nil => exact h.elim
  | cons x r => cases r with
    | nil => cases x with
      | int n => exact .inl ⟨n,rfl,h⟩
      | _ => exact h.elim
    | cons y r => cases r with
      | nil => cases x with
        | int a => cases y with
          | int b => exact .inr ⟨a,b,rfl,h⟩
          | _ => exact h.elim
        | _ => exact h.elim
      | cons _ _ => cases x <;> first | exact h.elim | (cases y <;> exact h.elim)
theorem len_line {a:Int} {n:Nat} (h:n ≤ 2 ^ 24) : (rangeV a n).length ≤ sizeLine := by rw [rangeV_length]; exact h
theorem SRC_range {e:Expr} {es:List Expr} {tgt:Expr} {p pos:Pos} {P:List V → Prop} (hB:B.OK) (hg:isGlob c (nm "range") = true) (hs:∀ x ∈ e :: es,notStar x = true) (h:EVs B k c σ L (e :: es) fun vs => ranW vs P) :
    SRC B k c σ L (.Call (.Name (nm "range") p) (e :: es) [] pos) tgt P := by
  intro A E s G Kp env b r f
  refine wpAny_Call_NameR (name_builtin hB hg r f (v := .type "range") (by decide) ?_)
  refine PySem.callWith_type (plainArgs (e := e) hs) (evalArgs_of (hs e (.head _)) h b r f fun vs s₁ G₁ ds st r₁ rl q => ?_)
  have fin : ∀ (a b':Int) (t u v:Tok) (s₂:Shared),s₂.heap = s₁.heap.push { cls := .type "range",data := .fields #[.int a t,.int b' u,.int 1 v] } → s₂.os = s₁.os → s₂.gens = s₁.gens → (rangeV a (b' - a).toNat).length ≤ sizeLine → P (rangeV a (b' - a).toNat) →
      wpAny B.M A (pyIter (.ref s₁.heap.objs.size)) (ResR B A tgt Kp σ P G s) E s₂ := fun a b' t u v s₂ e1 eo eg hz q =>
    range_itr (tgt := tgt) b (st.trans (Step.grow G₁ (fun a o hh => ⟨o,by rw [e1]; exact Heap.get?_push_of_some _ hh⟩) eo eg)) (r₁.grow (fun b o hh => Heap.get?_push_of_some _ hh) e1) (a := a) (b' := b') (t := t) (u := u) (v := v) (by show s₂.heap.get? _ = _; rw [e1]; exact Heap.get?_push_size _ rfl) hz q
  rcases ranW_inv q with ⟨n,rfl,h1,q⟩ | ⟨a,b',rfl,h1,q⟩
  · obtain ⟨v,e,r1⟩ := rl.inv1
    obtain ⟨t,e1⟩ := r1.inv
    rw [e,e1]
    exact call_range_1 (fin 0 n _ t _ _ rfl rfl rfl (len_line (by omega)) (by rw [Int.sub_zero]; exact q))
  · obtain ⟨v,u,e,r1,r2⟩ := rl.inv2
    obtain ⟨t,e1⟩ := r1.inv
    obtain ⟨t2,e2⟩ := r2.inv
    rw [e,e1,e2]
    exact call_range_2 (fin a b' t t2 _ _ rfl rfl rfl (len_line (by omega)) q)
end
theorem slotsOf_lookup : ∀ (names:List (Str × NameKind)) (n:Nat) (x:Str) (i:Nat),(slotsOf names n).lookup x = some i → n ≤ i ∧ i < n + (slotsOf names n).length
  | [],n,x,i,h => by simp [slotsOf] at h
  | (y,k) :: r,n,x,i,h => by
    have key : ((y,n) :: slotsOf r (n + 1)).lookup x = some i → n ≤ i ∧ i < n + ((y,n) :: slotsOf r (n + 1)).length := fun h => by
      by_cases e : x = y
      · subst e
        simp at h
        subst h
        exact ⟨Nat.le_refl _,by simp⟩
      · have e' : (x == y) = false := beq_eq_false_iff_ne.mpr e
        simp only [List.lookup_cons,e'] at h
        obtain ⟨b,c⟩ := slotsOf_lookup r (n + 1) x i h
        exact ⟨by omega,by simp only [List.length_cons]; omega⟩
    cases k <;> first | exact key h | exact slotsOf_lookup r n x i h
theorem slotsOf_inj : ∀ (names:List (Str × NameKind)) (n:Nat) (x y:Str) (i:Nat),(slotsOf names n).lookup x = some i → (slotsOf names n).lookup y = some i → x = y
  | [],n,x,y,i,h,_ => by simp [slotsOf] at h
  | (z,k) :: r,n,x,y,i,hx,hy => by
    have key : ((z,n) :: slotsOf r (n + 1)).lookup x = some i → ((z,n) :: slotsOf r (n + 1)).lookup y = some i → x = y := fun kx ky => by
      by_cases e1 : x = z
      · subst e1
        simp at kx
        subst kx
        by_cases e2 : y = x
        · exact e2.symm
        · have e' : (y == x) = false := beq_eq_false_iff_ne.mpr e2
          simp only [List.lookup_cons,e'] at ky
          have := (slotsOf_lookup r (n + 1) y _ ky).1
          omega
      · have e' : (x == z) = false := beq_eq_false_iff_ne.mpr e1
        simp only [List.lookup_cons,e'] at kx
        by_cases e2 : y = z
        · subst e2
          simp at ky
          subst ky
          have := (slotsOf_lookup r (n + 1) x n kx).1
          omega
        · have e'' : (y == z) = false := beq_eq_false_iff_ne.mpr e2
          simp only [List.lookup_cons,e''] at ky
          exact slotsOf_inj r (n + 1) x y i kx ky
    cases k <;> first | exact key hx hy | exact slotsOf_inj r n x y i hx hy
theorem mem_lookup {α:Type} {l:List (Str × α)} {x:Str} {a:α} (h:l.lookup x = some a) : (x,a) ∈ l := by
  induction l with
  | nil => cases h
  | cons p r ih =>
    obtain ⟨y,b⟩ := p
    by_cases e : x = y
    · subst e
      simp [List.lookup] at h
      subst h
      exact .head _
    · have e' : (x == y) = false := beq_eq_false_iff_ne.mpr e
      simp only [List.lookup,e'] at h
      exact .tail _ (ih h)
noncomputable def Own (env:Env) (a:Addr) : Prop := a = env.locals ∨ ∃ n,(n,a) ∈ env.cells
structure FSt (c:Cx) (env:Env) : Prop where
  scope : env.scope = c.scope
  kind : c.scope.kind = .function
  sl : c.sc = slotsOf c.scope.names 0
  nx : c.nx = c.sc.length
  nofree : ∀ x,c.scope.names.lookup x ≠ some .free
  glob : env.globals = mainGlobals
  blt : env.builtins = builtinsNs
  apart : env.cells.Pairwise fun x y => x.2 ≠ y.2
  above : ∀ n a,(n,a) ∈ env.cells → env.locals < a
structure FRs (B:B0) (c:Cx) (env:Env) (L:Lc) (G:View) (σ:Store) (s:Shared) : Prop where
  st : FSt c env
  own : ∀ a,Own env a → G a = none ∧ ∀ m,(a,m) ∉ σ
  alive : ∀ a,Own env a → ∃ o,s.heap.get? a = some o
  loc : ∃ m,s.heap.Ns env.locals m ∧ ∀ x i d,c.scope.names.lookup x = some .local → c.sc.lookup x = some i → L[i]? = some (some d) → ∃ v,m x = some v ∧ B.R G v d
  cell : ∀ x,c.scope.names.lookup x = some .cell → ∃ a ov,env.cells.lookup x = some a ∧ s.heap.IsCell a ov ∧ ∀ i d,c.sc.lookup x = some i → L[i]? = some (some d) → ∃ v,ov = some v ∧ B.R G v d
  code : c.gen = true → env.code = .ref B.tc
inductive Out where
  | next (L:Lc)
  | brk (L:Lc)
  | ret (v:V)
noncomputable def FlowR (B:B0) (c:Cx) (env:Env) (G:View) (σ:Store) (s:Shared) (f:Flow) : Out → Prop
  | .next L => f = .next ∧ FRs B c env L G σ s
  | .brk L => f = .brk ∧ FRs B c env L G σ s
  | .ret d => ∃ v,f = .ret v ∧ B.R G v d
inductive ResS (B:B0) (c:Cx) (env:Env) (Kp:Heap) (Q:Out → Store → Prop) (G:View) (s:Shared) (f:Flow) (s':Shared) : Prop
  | mk (G':View) (σ':Store) (o:Out) : Step G G' s s' → Rel B Kp σ' G' s' → FlowR B c env G' σ' s' f o → Q o σ' → ResS B c env Kp Q G s f s'
theorem ResS.run {B:B0} {c:Cx} {env:Env} {Kp:Heap} {Q:Out → Store → Prop} {A:Around} {E:Value → Shared → Prop} {G:View} {s s₀:Shared} {m:Sem Flow} {R:Flow → Shared → Prop} (h:wpAny B.M A m (ResS B c env Kp Q G s) E s₀)
    (q:∀ v s' G' σ' d,Step G G' s s' → Rel B Kp σ' G' s' → FlowR B c env G' σ' s' v d → Q d σ' → R v s') : wpAny B.M A m R E s₀ :=
  wpAny_mono h (fun v s' x => x.casesOn (q v s')) fun _ _ e => e
noncomputable def STt (B:B0) (k:Nat) (c:Cx) (σ:Store) (L:Lc) (t:Env → Sem Flow) (Q:Out → Store → Prop) : Prop :=
  ∀ A E s G Kp env,Bud k A → Rel B Kp σ G s → FRs B c env L G σ s → (∀ a,Own env a → Kp.get? a = none) → wpAny B.M A (t env) (ResS B c env Kp Q G s) E s
noncomputable abbrev ST (B:B0) (k:Nat) (c:Cx) (σ:Store) (L:Lc) (body:List Stmt) (Q:Out → Store → Prop) : Prop := STt B k c σ L (execs body) Q
section
variable {B:B0} {k:Nat} {c:Cx} {σ:Store} {L:Lc} {Q:Out → Store → Prop}
theorem ResS.step {env:Env} {Kp:Heap} {G G₁:View} {s s₁ s':Shared} {f:Flow} (st:Step G G₁ s s₁) (h:ResS B c env Kp Q G₁ s₁ f s') : ResS B c env Kp Q G s f s' := by
  obtain ⟨G',σ',o,a,b,e,q⟩ := h
  exact ⟨G',σ',o,st.trans a,b,e,q⟩
theorem Rel.weaken {Kp Kp':Heap} {G:View} {s:Shared} (h:Kp.StaysIn Kp') (r:Rel B Kp' σ G s) : Rel B Kp σ G s :=
  ⟨r.bas,r.gin,fun a o e => r.kin a o (h a o e),r.sto,fun a m hm => by
    cases q : Kp.get? a with
    | none => rfl
    | some o => have := h a o q; rw [r.hid a m hm] at this; cases this⟩
theorem Rel.stays {Kp:Heap} {G:View} {s:Shared} (r:Rel B Kp σ G s) : Kp.StaysIn (maxK σ s.heap) := fun a o e => maxK_get (r.kin a o e) fun m hm => by rw [r.hid a m hm] at e; cases e
theorem FRs.keep {env:Env} {G G':View} {σ':Store} {s s':Shared} (f:FRs B c env L G σ s) (l:VLe G G') (hk:∀ a o,Own env a → s.heap.get? a = some o → s'.heap.get? a = some o)
    (own:∀ a,Own env a → G' a = none ∧ ∀ m,(a,m) ∉ σ') : FRs B c env L G' σ' s' := by
  refine ⟨f.st,own,fun a h => (f.alive a h).imp fun o e => hk a o h e,?_,fun x hx => ?_,f.code⟩
  · obtain ⟨m,⟨o,es,ep,e,r⟩,h⟩ := f.loc
    refine ⟨m,⟨o,es,ep,hk _ _ (.inl rfl) e,r⟩,fun x i d a b d' => ?_⟩
    obtain ⟨v,h1,h2⟩ := h x i d a b d'
    exact ⟨v,h1,h2.mono l⟩
  · obtain ⟨a,ov,h1,⟨o,e,r⟩,h⟩ := f.cell x hx
    refine ⟨a,ov,h1,⟨o,hk _ _ (.inr ⟨x,mem_lookup h1⟩) e,r⟩,fun i d a b => ?_⟩
    obtain ⟨v,h1,h2⟩ := h i d a b
    exact ⟨v,h1,h2.mono l⟩
theorem FRs.toX {env:Env} {G:View} {s:Shared} (f:FRs B c env L G σ s) : FRx B c env L G (maxK σ s.heap) := by
  have hn : ∀ a o,Own env a → s.heap.get? a = some o → (maxK σ s.heap).get? a = some o := fun a o h e => maxK_get e (f.own a h).2
  refine ⟨by rw [f.st.scope]; exact f.st.kind,fun x i h => ?_,f.st.glob,f.st.blt,fun x h => by rw [show env.kindOf x = env.scope.names.lookup x from rfl,f.st.scope]; exact h,fun x h => ?_,fun x i d h hd => ?_,f.code⟩
  · rw [f.st.nx,f.st.sl]
    rw [f.st.sl] at h
    have := (slotsOf_lookup _ _ _ _ h).2
    omega
  · rcases h with h | h
    · obtain ⟨a,ov,h1,_⟩ := f.cell x h
      exact ⟨.inl (by rw [show env.kindOf x = env.scope.names.lookup x from rfl,f.st.scope]; exact h),a,h1⟩
    · exact absurd h (f.st.nofree x)
  · have hkx : env.kindOf x = c.scope.names.lookup x := by rw [show env.kindOf x = env.scope.names.lookup x from rfl,f.st.scope]
    obtain ⟨hl,h⟩ := isLocal_inv h
    rcases hl with hl | hl | hl
    · obtain ⟨m,⟨o,es,ep,e,r⟩,h'⟩ := f.loc
      obtain ⟨v,h1,h2⟩ := h' x i d hl h hd
      exact ⟨v,h2,.inl ⟨hkx.trans hl,m,⟨o,es,ep,hn _ _ (.inl rfl) e,r⟩,h1⟩⟩
    · obtain ⟨a,ov,h1,⟨o,e,r⟩,h'⟩ := f.cell x hl
      obtain ⟨v,e',h2⟩ := h' i d h hd
      rw [e'] at r
      exact ⟨v,h2,.inr ⟨.inl (hkx.trans hl),a,h1,o,hn _ _ (.inr ⟨x,mem_lookup h1⟩) e,r⟩⟩
    · exact absurd hl (f.st.nofree x)
theorem FRs.step {env:Env} {G G':View} {σ':Store} {s s':Shared} (f:FRs B c env L G σ s) (st:Step G G' s s') (r:Rel B (maxK σ s.heap) σ' G' s') : FRs B c env L G' σ' s' := by
  have hn : ∀ a o,Own env a → s.heap.get? a = some o → (maxK σ s.heap).get? a = some o := fun a o h e => maxK_get e (f.own a h).2
  refine f.keep st.le (fun a o h e => r.kin a o (hn a o h e)) fun a h => ⟨?_,fun m hm => ?_⟩
  · cases q : G' a with
    | none => rfl
    | some o =>
      obtain ⟨o',e⟩ := f.alive a h
      rcases st.new a o q with q' | q'
      · rw [(f.own a h).1] at q'; cases q'
      · rw [e] at q'; cases q'
  · obtain ⟨o',e⟩ := f.alive a h
    have := r.hid a m hm
    rw [hn a o' h e] at this
    cases this
end
section
variable {B:B0} {k:Nat} {c:Cx} {σ:Store} {L:Lc} {Q:Out → Store → Prop}
theorem set_get {i j:Nat} {d d':V} (h:(L.set i (some d))[j]? = some (some d')) : (j = i ∧ d' = d) ∨ (j ≠ i ∧ L[j]? = some (some d')) := by
  by_cases e : j = i
  · subst e
    rw [List.getElem?_set] at h
    simp only [if_true] at h
    split at h
    · cases h; exact .inl ⟨rfl,rfl⟩
    · cases h
  · rw [List.getElem?_set_ne (fun q => e q.symm)] at h
    exact .inr ⟨e,h⟩
theorem cell_apart {env:Env} (f:FSt c env) {x y:Str} {a b:Addr} (hx:env.cells.lookup x = some a) (hy:env.cells.lookup y = some b) (h:x ≠ y) : a ≠ b := fun e => by
  subst e
  exact h (name_of_addr f.apart (mem_lookup hx) (mem_lookup hy))
theorem store_slot {A:Around} {E:Value → Shared → Prop} {Qq:Unit → Shared → Prop} {env:Env} {s:Shared} {G:View} {Kp:Heap} {x:Str} {i:Nat} {v:Value} {d:V}
    (r:Rel B Kp σ G s) (f:FRs B c env L G σ s) (hK:∀ a,Own env a → Kp.get? a = none) (hx:isLocal c x = some i) (rv:B.R G v d)
    (h:∀ s',(∀ b o,¬ Own env b → s.heap.get? b = some o → s'.heap.get? b = some o) → Step G G s s' → Rel B Kp σ G s' → FRs B c env (L.set i (some d)) G σ s' → Qq () s') :
    wpAny B.M A (storeName env x v) Qq E s := by
  have hkx : env.kindOf x = c.scope.names.lookup x := by rw [show env.kindOf x = env.scope.names.lookup x from rfl,f.st.scope]
  have hkd : env.scope.kind = .function := by rw [f.st.scope]; exact f.st.kind
  have inj : ∀ y j,c.sc.lookup x = some i → c.sc.lookup y = some j → j = i → y = x := fun y j h1 h2 e => by
    subst e
    rw [f.st.sl] at h1 h2
    exact (slotsOf_inj _ _ _ _ _ h1 h2).symm
  obtain ⟨hl,hx⟩ := isLocal_inv hx
  have gen : ∀ (a:Addr) (h':Heap) (tk:Nat),Own env a → (∃ o,h'.get? a = some o) → (∀ b o,b ≠ a → s.heap.get? b = some o → h'.get? b = some o) → FRs B c env (L.set i (some d)) G σ { s with heap := h',toks := tk } → Qq () { s with heap := h',toks := tk } := fun a h' tk ho hal oth fr => by
    have hGl := f.own a ho
    have st : Step G G s { s with heap := h',toks := tk } := Step.grow G (fun b o e => by
      by_cases q : b = a
      · rw [q]; exact hal
      · exact ⟨o,oth b o q e⟩) rfl rfl
    refine h _ (fun b o hb e => oth b o (fun q => hb (by rw [q]; exact ho)) e) st (r.upd (ws := [a]) st (fun b o e => oth b o (fun q => by rw [q,hGl.1] at e; cases e) (r.gin b o e)) (fun b o hb e => oth b o (fun q => hb (by rw [q]; exact .head _)) e) fun b hb => ?_) fr
    rw [List.mem_singleton.mp hb]
    exact ⟨hK _ ho,hGl.2⟩
  have old : ∀ y j d',c.scope.names.lookup y ≠ c.scope.names.lookup x ∨ y ≠ x → c.sc.lookup y = some j → (L.set i (some d))[j]? = some (some d') → L[j]? = some (some d') := fun y j d' hne hj hd => by
    rcases set_get hd with e | e
    · have := inj y j hx hj e.1
      exact absurd rfl (hne.elim (fun q => by rw [this] at q; exact q) fun q => absurd this q)
    · exact e.2
  rcases hl with hl | hl | hl
  · obtain ⟨m,hn,hm⟩ := f.loc
    refine wpAny_storeName_local (hkx.trans hl) hn (fun h' hn' hs => ?_) (by rw [hkd]; rfl)
    have oth : ∀ b o,b ≠ env.locals → s.heap.get? b = some o → h'.get? b = some o := fun b o hb e => (hs.2 b hb).trans e
    have hal : ∃ o,h'.get? env.locals = some o := by obtain ⟨o',_,_,e',_⟩ := hn'; exact ⟨o',e'⟩
    refine gen env.locals h' _ (.inl rfl) hal oth ⟨f.st,f.own,fun a ha => ?_,⟨_,hn',fun y j d' hy hj hd => ?_⟩,fun y hy => ?_,f.code⟩
    · obtain ⟨o,e⟩ := f.alive a ha
      by_cases q : a = env.locals
      · rw [q]; exact hal
      · exact ⟨o,oth a o q e⟩
    · by_cases hne : y = x
      · subst hne
        rw [hx] at hj
        cases hj
        rcases set_get hd with e | e
        · exact ⟨v,if_pos rfl,by rw [e.2]; exact rv⟩
        · exact absurd rfl e.1
      · obtain ⟨u,h1,h2⟩ := hm y j d' hy hj (old y j d' (.inr hne) hj hd)
        exact ⟨u,(if_neg hne).trans h1,h2⟩
    · obtain ⟨a,ov,h1,⟨o,e,r'⟩,h2⟩ := f.cell y hy
      exact ⟨a,ov,h1,⟨o,oth a o (Nat.ne_of_gt (f.st.above _ _ (mem_lookup h1))) e,r'⟩,fun j d' hj hd => h2 j d' hj (old y j d' (.inl (by rw [hl,hy]; exact fun q => nomatch q)) hj hd)⟩
  · obtain ⟨a,ov,ha,hc,hv⟩ := f.cell x hl
    refine wpAny_storeName_cell hkd (hkx.trans hl) ha hc fun h' hc' hs => ?_
    have oth : ∀ b o,b ≠ a → s.heap.get? b = some o → h'.get? b = some o := fun b o hb e => (hs.2 b hb).trans e
    have hal : ∃ o,h'.get? a = some o := by obtain ⟨o',e',_⟩ := hc'; exact ⟨o',e'⟩
    refine gen a h' _ (.inr ⟨x,mem_lookup ha⟩) hal oth ⟨f.st,f.own,fun b hb => ?_,?_,fun y hy => ?_,f.code⟩
    · obtain ⟨o,e⟩ := f.alive b hb
      by_cases q : b = a
      · rw [q]; exact hal
      · exact ⟨o,oth b o q e⟩
    · obtain ⟨m,⟨o,es,ep,e,r'⟩,hm⟩ := f.loc
      exact ⟨m,⟨o,es,ep,oth _ o (Nat.ne_of_lt (f.st.above _ _ (mem_lookup ha))) e,r'⟩,fun y j d' hy hj hd => hm y j d' hy hj (old y j d' (.inl (by rw [hl,hy]; exact fun q => nomatch q)) hj hd)⟩
    · by_cases hyx : y = x
      · subst hyx
        refine ⟨a,some v,ha,hc',fun j d' hj hd => ⟨v,rfl,?_⟩⟩
        rw [hx] at hj
        cases hj
        rcases set_get hd with e | e
        · rw [e.2]; exact rv
        · exact absurd rfl e.1
      · obtain ⟨b,ov',h1,⟨o,e,r'⟩,h2⟩ := f.cell y hy
        exact ⟨b,ov',h1,⟨o,oth b o (cell_apart f.st h1 ha hyx) e,r'⟩,fun j d' hj hd => h2 j d' hj (old y j d' (.inr hyx) hj hd)⟩
  · exact absurd hl (f.st.nofree x)
theorem EV.run {t:Env → Sem Value} {R:V → Prop} (h:EVt B k c σ L t R) {A:Around} {E:Value → Shared → Prop} {s:Shared} {G:View} {Kp:Heap} {env:Env} {Q':Value → Shared → Prop} (b:Bud k A) (r:Rel B Kp σ G s) (f:FRs B c env L G σ s)
    (hQ:∀ v s' G' d,Step G G' s s' → Rel B Kp σ G' s' → FRs B c env L G' σ s' → B.R G' v d → R d → Q' v s') : wpAny B.M A (t env) Q' E s :=
  Res.run (h A E s G (maxK σ s.heap) env b r.max f.toX) fun v s' G' d st r' rv q => hQ v s' G' d st (r.back r') (f.step st r') rv q
theorem TV.run {e:Expr} {R:Bool → Prop} (h:TV B k c σ L e R) {A:Around} {E:Value → Shared → Prop} {s:Shared} {G:View} {Kp:Heap} {env:Env} {Q':Bool → Shared → Prop} (b:Bud k A) (r:Rel B Kp σ G s) (f:FRs B c env L G σ s)
    (hQ:∀ p s' G',Step G G' s s' → Rel B Kp σ G' s' → FRs B c env L G' σ s' → R p → Q' p s') : wpAny B.M A (isTrue e env (eval e env)) Q' E s :=
  ResB.run (h A E s G (maxK σ s.heap) env b r.max f.toX) fun v s' G' st r' q => hQ v s' G' st (r.back r') (f.step st r') q
theorem STt.mono {t:Env → Sem Flow} {Q':Out → Store → Prop} (h:STt B k c σ L t Q) (q:∀ o σ',Q o σ' → Q' o σ') : STt B k c σ L t Q' :=
  fun A E s G Kp env b r f hK => ResS.run (h A E s G Kp env b r f hK) fun fl s' G' σ' o a1 a2 a3 a4 => ⟨G',σ',o,a1,a2,a3,q o σ' a4⟩
theorem ST_nil (q:Q (.next L) σ) : ST B k c σ L [] Q := fun A E s G Kp env b r f hK => wpAny_execs_nil ⟨G,σ,.next L,Step.refl G s,r,⟨rfl,f⟩,q⟩
noncomputable def Then (B:B0) (k:Nat) (c:Cx) (rest:List Stmt) (Q:Out → Store → Prop) : Out → Store → Prop
  | .next L,σ => ST B k c σ L rest Q
  | o,σ => Q o σ
theorem ST_cons {st:Stmt} {rest:List Stmt} (h:STt B k c σ L (exec st) (Then B k c rest Q)) : ST B k c σ L (st :: rest) Q := by
  intro A E s G Kp env b r f hK
  refine wpAny_execs_cons (ResS.run (h A E s G Kp env b r f hK) fun fl s' G' σ' o a1 a2 a3 a4 => ?_)
  cases o with
  | next L' =>
    obtain ⟨rfl,f'⟩ := a3
    exact wpAny_mono (a4 A E s' G' Kp env b a2 f' hK) (fun fl s'' h'' => ResS.step a1 h'') fun _ _ e => e
  | brk L' =>
    obtain ⟨rfl,f'⟩ := a3
    exact ⟨G',σ',.brk L',a1,a2,⟨rfl,f'⟩,a4⟩
  | ret d =>
    obtain ⟨v,rfl,rv⟩ := a3
    exact ⟨G',σ',.ret d,a1,a2,⟨v,rfl,rv⟩,a4⟩
theorem ST_ret {e:Expr} {pos:Pos} {rest:List Stmt} (h:EV B k c σ L e fun d => Q (.ret d) σ) : ST B k c σ L (.Return (some e) pos :: rest) Q :=
  ST_cons fun A E s G Kp env b r f hK => wpAny_Return_some (EV.run h b r f fun v s' G' d st r' f' rv q => ⟨G',σ,.ret d,st,r',⟨v,rfl,rv⟩,q⟩)
theorem ST_brk {pos:Pos} {rest:List Stmt} (q:Q (.brk L) σ) : ST B k c σ L (.Break pos :: rest) Q :=
  ST_cons fun A E s G Kp env b r f hK => wpAny_Break ⟨G,σ,.brk L,Step.refl G s,r,⟨rfl,f⟩,q⟩
theorem ST_if {t:Expr} {x y rest:List Stmt} {pos:Pos} (h:TV B k c σ L t fun p => (p = true → ST B k c σ L x (Then B k c rest Q)) ∧ (p = false → ST B k c σ L y (Then B k c rest Q))) : ST B k c σ L (.If t x y pos :: rest) Q := by
  refine ST_cons fun A E s G Kp env b r f hK => wpAny_If (TV.run h b r f fun p s' G' st r' f' q => ?_)
  cases p with
  | true => exact wpAny_mono (q.1 rfl A E s' G' Kp env b r' f' hK) (fun fl s'' h'' => ResS.step st h'') fun _ _ e => e
  | false => exact wpAny_mono (q.2 rfl A E s' G' Kp env b r' f' hK) (fun fl s'' h'' => ResS.step st h'') fun _ _ e => e
noncomputable def plainVal : Expr → Bool
  | .ListComp _ _ _ _ => false
  | .SetComp _ _ _ _ => false
  | .DictComp _ _ _ _ _ => false
  | _ => true
theorem swaps_plain {e:Expr} {t:Option Expr} {n:Nat} {env:Env} (h:plainVal e = true) : swapsWith e t n env = pure false := by
  cases e <;> first | rfl | cases h
theorem ST_asg {x:Str} {i:Nat} {e:Expr} {p pos:Pos} {rest:List Stmt} (hx:isLocal c x = some i) (hp:plainVal e = true) (h:EV B k c σ L e fun d => ST B k c σ (L.set i (some d)) rest Q) : ST B k c σ L (.Assign [.Name x p] e pos :: rest) Q := by
  refine ST_cons fun A E s G Kp env b r f hK => wpAny_Assign_Name (EV.run h b r f fun v s' G' d st r' f' rv q => ?_) (swaps_plain hp)
  exact store_slot r' f' hK hx rv fun s'' hk st2 r'' f'' => ⟨G',σ,.next _,st.trans st2,r'',⟨rfl,f''⟩,q⟩
end
noncomputable def e0 (sc:Scope) : Env := { scope := sc,locals := 0,globals := 0,cells := [] }
noncomputable def swapB (c:Cx) (ts vs:List Expr) : Option (Option (List Str)) :=
  let names := ts.filterMap fun
    | .Name id pos => if (e0 c.scope).kindOf id == some .local && pos.line == (ts.head?.map (·.pos.line)).getD 0 then some id else none
    | _ => none
  if !(ts.length == 2 || ts.length == 3) || vs.length != ts.length || (e0 c.scope).blockKind != .function then some none
  else if (vs.any fun | .Starred .. => true | _ => false) then some none
  else if names.length != ts.length || names.eraseDups.length != names.length then some none
  else if vs.all (foldedForSure 8) then some none
  else if vs.all (constantsAlone 8) then none
  else some (some names)
theorem swap_ifs {a b c d e:Bool} {x:List Str} {u:Sem (Option (List Str))} {r:Option (List Str)} (h:(if a = true then some none else if b = true then some none else if c = true then some none else if d = true then some none else if e = true then none else some (some x)) = some r) :
    (if a = true then pure none else if b = true then pure none else if c = true then pure none else if d = true then pure none else if e = true then u else pure (some x)) = (pure r:Sem (Option (List Str))) := by
  cases a with
  | true => cases h; rfl
  | false => cases b with
    | true => cases h; rfl
    | false => cases c with
      | true => cases h; rfl
      | false => cases d with
        | true => cases h; rfl
        | false => cases e with
          | true => exact noS h
          | false => cases h; rfl
theorem swap_spec {c:Cx} {env:Env} {ts vs:List Expr} {n m:Nat} {p q:Pos} {r:Option (List Str)} (hs:env.scope = c.scope) (h:swapB c ts vs = some r) :
    swappedStores [.Tuple ts n p] (.Tuple vs m q) env = pure r := by
  have e : swappedStores [.Tuple ts n p] (.Tuple vs m q) env = swappedStores [.Tuple ts n p] (.Tuple vs m q) (e0 env.scope) := rfl
  rw [e,hs]
  exact swap_ifs h
noncomputable def setAll : Lc → List Nat → List V → Lc
  | L,i :: is,d :: ds => setAll (L.set i (some d)) is ds
  | L,_,_ => L
theorem setAll_set (L:Lc) (i:Nat) (d:V) : ∀ (is:List Nat) (ds:List V),i ∉ is → setAll (L.set i (some d)) is ds = (setAll L is ds).set i (some d)
  | [],ds,_ => by cases ds <;> rfl
  | j :: is,[],_ => rfl
  | j :: is,e :: ds,h => by
    simp only [List.mem_cons,not_or] at h
    unfold setAll
    rw [List.set_comm _ _ h.1,setAll_set (L.set j (some e)) i d is ds h.2]
theorem setAll_append (L:Lc) : ∀ (is js:List Nat) (ds es:List V),is.length = ds.length → setAll L (is ++ js) (ds ++ es) = setAll (setAll L is ds) js es
  | [],js,[],es,_ => rfl
  | [],js,_ :: _,es,h => by cases h
  | _ :: _,js,[],es,h => by cases h
  | i :: is,js,d :: ds,es,h => setAll_append (L.set i (some d)) is js ds es (by simpa using h)
theorem setAll_reverse (L:Lc) : ∀ (is:List Nat) (ds:List V),is.Nodup → is.length = ds.length → setAll L is.reverse ds.reverse = setAll L is ds
  | [],[],_,_ => rfl
  | [],_ :: _,_,h => by cases h
  | _ :: _,[],_,h => by cases h
  | i :: is,d :: ds,hn,h => by
    obtain ⟨h1,h2⟩ := List.nodup_cons.mp hn
    have hl : is.length = ds.length := by simpa using h
    rw [List.reverse_cons,List.reverse_cons,setAll_append _ _ _ _ _ (by simpa using hl),setAll_reverse L is ds h2 hl]
    show (setAll L is ds).set i (some d) = setAll (L.set i (some d)) is ds
    rw [setAll_set L i d is ds h1]
section
variable {B:B0} {k:Nat} {c:Cx} {σ:Store} {L:Lc} {Q:Out → Store → Prop}
theorem store_list {A:Around} {E:Value → Shared → Prop} {env:Env} {G:View} {Kp:Heap} (hK:∀ a,Own env a → Kp.get? a = none) (stores:List (Value → Sem Unit)) :
    ∀ (xs:List Str) (is:List Nat) (vs:List Value) (ds:List V) (L:Lc) (s:Shared) (Qq:Unit → Shared → Prop),Rel B Kp σ G s → FRs B c env L G σ s →
      (∀ (j:Nat) t,stores[j]? = some t → ∃ x,xs[j]? = some x ∧ ∀ v A E s (Q:Unit → Shared → Prop),wpAny B.M A (storeName env x v) Q E s → wpAny B.M A (t v) Q E s) → stores.length = xs.length →
      xs.map (isLocal c) = is.map some → B.RL G vs ds → xs.length = vs.length →
      (∀ s',(∀ b o,¬ Own env b → s.heap.get? b = some o → s'.heap.get? b = some o) → Step G G s s' → Rel B Kp σ G s' → FRs B c env (setAll L is ds) G σ s' → Qq () s') →
      wpAny B.M A (assignInOrder stores vs) Qq E s := by
  induction stores with
  | nil =>
    intro xs is vs ds L s Qq r f ht hl hx rl hv h
    have e1 : vs = [] := List.length_eq_zero_iff.mp (hv.symm.trans hl.symm)
    rw [e1] at rl ⊢
    have e2 : ds = [] := List.length_eq_zero_iff.mp rl.length.symm
    rw [e2] at h
    refine wpAny_assignInOrder_none (h s (fun _ _ _ e => e) (Step.refl G s) r ?_)
    cases is <;> exact f
  | cons t stores ih =>
    intro xs is vs ds L s Qq r f ht hl hx rl hv h
    obtain ⟨x,e,hst⟩ := ht 0 t rfl
    cases xs with
    | nil => exact noS e
    | cons x' xs =>
      cases e
      cases vs with
      | nil => cases hv
      | cons v vs =>
        obtain ⟨d,ds,rfl,rv,rl⟩ := rl.invV
        cases is with
        | nil => cases hx
        | cons i is =>
          obtain ⟨h1,h2⟩ := List.cons.inj hx
          refine wpAny_assignInOrder_more (hst v _ _ _ _ (store_slot r f hK h1 rv fun s' hk st r' f' => ?_))
          exact ih xs is vs ds _ s' Qq r' f' (fun j t hj => ht (j + 1) t hj) (Nat.succ.inj hl) h2 rl (Nat.succ.inj hv) fun s'' hk' st' r'' f'' => h s'' (fun b o hb e => hk' b o hb (hk b o hb e)) (st.trans st') r'' f''
noncomputable def tgtNames : List Expr → Option (List Str)
  | [] => some []
  | t :: r => (nameOf t).bind fun x => (tgtNames r).map (x :: ·)
theorem assignEach_names (env:Env) (ts:List Expr) : ∀ (xs:List Str),tgtNames ts = some xs → (assignEach ts env).length = xs.length ∧ (assignEach ts env).findIdx? (·.1) = none ∧
    ∀ (j:Nat) t,((assignEach ts env).map (·.2))[j]? = some t → ∃ x,xs[j]? = some x ∧ ∀ {M:Model} v A E s (Q:Unit → Shared → Prop),wpAny M A (storeName env x v) Q E s → wpAny M A (t v) Q E s := by
  induction ts with
  | nil => intro xs h; cases h; exact ⟨rfl,rfl,fun j t e => by have e : ([] : List (Value → Sem Unit))[j]? = some t := e; rw [List.getElem?_nil] at e; exact noS e⟩
  | cons t r ih =>
    intro xs h
    obtain ⟨x,hx,h⟩ := Option.bind_eq_some_iff.mp h
    obtain ⟨ys,hy,e⟩ := Option.map_eq_some_iff.mp h
    obtain ⟨p,e'⟩ := nameOf_inv hx
    obtain ⟨h1,h2,h3⟩ := ih ys hy
    rw [e',← e]
    refine ⟨congrArg (· + 1) h1,?_,fun j t ht => ?_⟩
    · show ((false,assign (.Name x p) env) :: assignEach r env).findIdx? (·.1) = none
      rw [List.findIdx?_cons,h2]
      rfl
    · cases j with
      | zero => exact ⟨x,rfl,fun v A E s Q hq => by rw [← Option.some.inj ht]; exact wpAny_assign_Name hq⟩
      | succ j => exact h3 j t ht
theorem unpack_names {A:Around} {E:Value → Shared → Prop} {Qq:Unit → Shared → Prop} {env:Env} {s:Shared} {G:View} {Kp:Heap} {ts:List Expr} {xs:List Str} {is:List Nat} {v:Value} {ds:List V} {n:Nat} {p:Pos}
    (hh:A.handled = none) (r:Rel B Kp σ G s) (f:FRs B c env L G σ s) (hK:∀ a,Own env a → Kp.get? a = none) (hx:tgtNames ts = some xs) (hi:xs.map (isLocal c) = is.map some) (rv:B.R G v (.tup ds)) (hl:ds.length = is.length)
    (h:∀ s',(∀ b o,¬ Own env b → s.heap.get? b = some o → s'.heap.get? b = some o) → Step G G s s' → Rel B Kp σ G s' → FRs B c env (setAll L is ds) G σ s' → Qq () s') :
    wpAny B.M A (assign (.Tuple ts n p) env v) Qq E s := by
  obtain ⟨h1,h2,h3⟩ := assignEach_names env ts xs hx
  have hxi : xs.length = is.length := by have := congrArg List.length hi; rw [List.length_map,List.length_map] at this; exact this
  obtain ⟨t,vs,nn,e,g,z,l⟩ := rv.inv
  rw [e]
  refine wpAny_assign_Tuple hh ⟨_,r.gin _ _ g,rfl,nn,rfl⟩ (by rw [h1,hxi,← hl,l.size]) h2 fun h' he => ?_
  have hk : ∀ b o,s.heap.get? b = some o → h'.get? b = some o := fun b o e => he b o (Nat.ne_of_lt (Heap.lt_size e)) e
  have r' : Rel B Kp σ G { s with heap := h' } := r.grow hk rfl
  have st : Step G G s { s with heap := h' } := Step.grow G (fun a o e => ⟨o,hk a o e⟩) rfl rfl
  have f' : FRs B c env L G σ { s with heap := h' } := f.keep (VLe.refl _) (fun a o _ e => hk a o e) f.own
  refine store_list hK _ xs is _ ds L _ Qq r' f' (fun j t ht => ?_) (by rw [List.length_map]; exact h1) hi l (by rw [hxi,← hl,l.length]) fun s'' hk' st' r'' f'' => h s'' (fun b o hb e => hk' b o hb (hk b o e)) (st.trans st') r'' f''
  obtain ⟨x,e,hq⟩ := h3 j t ht
  exact ⟨x,e,fun v A E s Q => hq v A E s Q⟩
theorem unpack_swapped {A:Around} {E:Value → Shared → Prop} {Qq:Unit → Shared → Prop} {env:Env} {s:Shared} {G:View} {Kp:Heap} {xs:List Str} {is:List Nat} {v:Value} {ds:List V}
    (hh:A.handled = none) (r:Rel B Kp σ G s) (f:FRs B c env L G σ s) (hK:∀ a,Own env a → Kp.get? a = none) (hi:xs.map (isLocal c) = is.map some) (hnd:is.Nodup) (rv:B.R G v (.tup ds)) (hl:ds.length = is.length)
    (h:∀ s',(∀ b o,¬ Own env b → s.heap.get? b = some o → s'.heap.get? b = some o) → Step G G s s' → Rel B Kp σ G s' → FRs B c env (setAll L is ds) G σ s' → Qq () s') :
    wpAny B.M A (do let items ← unpackItems v xs.length none; assignInOrder (xs.reverse.map fun n => bindName env n) items.reverse) Qq E s := by
  have hxi : xs.length = is.length := by have := congrArg List.length hi; rw [List.length_map,List.length_map] at this; exact this
  obtain ⟨t,vs,nn,e,g,z,l⟩ := rv.inv
  have hz : xs.length = vs.size := by rw [hxi,← hl,l.size]
  rw [e,hz]
  refine wpAny_bind (wpAny_unpackItems_tuple hh ⟨_,r.gin _ _ g,rfl,nn,rfl⟩ fun h' he => ?_)
  have hk : ∀ b o,s.heap.get? b = some o → h'.get? b = some o := fun b o e => he b o (Nat.ne_of_lt (Heap.lt_size e)) e
  have r' : Rel B Kp σ G { s with heap := h' } := r.grow hk rfl
  have st : Step G G s { s with heap := h' } := Step.grow G (fun a o e => ⟨o,hk a o e⟩) rfl rfl
  have f' : FRs B c env L G σ { s with heap := h' } := f.keep (VLe.refl _) (fun a o _ e => hk a o e) f.own
  refine store_list hK _ xs.reverse is.reverse _ ds.reverse L _ Qq r' f' (fun j t ht => ?_) (by rw [List.length_map]) ?_ l.reverse (by rw [List.length_reverse,List.length_reverse,hz,Array.length_toList]) fun s'' hk' st' r'' f'' => h s'' (fun b o hb e => hk' b o hb (hk b o e)) (st.trans st') r'' ?_
  · rw [List.getElem?_map] at ht
    cases e : xs.reverse[j]? with
    | none => rw [e] at ht; cases ht
    | some x =>
      rw [e] at ht
      cases ht
      exact ⟨x,rfl,fun v A E s Q hq => wpAny_bindName hq⟩
  · rw [List.map_reverse,hi,List.map_reverse]
  · rw [setAll_reverse L is ds hnd hl.symm] at f''
    exact f''
end
noncomputable def swB (c:Cx) (ts:List Expr) (xs:List Str) (is:List Nat) (e:Expr) : Bool :=
  match e with
  | .Tuple vs _ _ => (match swapB c ts vs with
    | some none => true
    | some (some ys) => ys == xs && decide is.Nodup
    | none => false)
  | _ => true
theorem swapped_plain {ts:List Expr} {n:Nat} {p:Pos} {e:Expr} {env:Env} (h:∀ vs m q,e ≠ .Tuple vs m q) : swappedStores [.Tuple ts n p] e env = pure none := by
  cases e <;> first | rfl | exact absurd rfl (h _ _ _)
section
variable {B:B0} {k:Nat} {c:Cx} {σ:Store} {L:Lc} {Q:Out → Store → Prop}
theorem ST_unp {ts:List Expr} {xs:List Str} {is:List Nat} {e:Expr} {n:Nat} {p pos:Pos} {rest:List Stmt} (hx:tgtNames ts = some xs) (hi:xs.map (isLocal c) = is.map some) (hp:plainVal e = true) (hsw:swB c ts xs is e = true)
    (h:EV B k c σ L e fun d => ∃ ds,d = .tup ds ∧ ds.length = is.length ∧ ST B k c σ (setAll L is ds) rest Q) : ST B k c σ L (.Assign [.Tuple ts n p] e pos :: rest) Q := by
  refine ST_cons fun A E s G Kp env b r f hK => ?_
  rw [exec_Assign_arm]
  refine wpAny_bind (wpAny_standAt ?_)
  rw [show swapsWithSole [.Tuple ts n p] e pos.line env = swapsWith e (some (.Tuple ts n p)) pos.line env from rfl,swaps_plain hp]
  refine wpAny_bind (wpAny_pure ?_)
  rw [if_neg (by decide)]
  refine wpAny_bind (EV.run h b r f fun v s' G' d st r' f' rv q => ?_)
  obtain ⟨ds,rfl,hl,q⟩ := q
  have plain : swappedStores [.Tuple ts n p] e env = pure none → wpAny B.M A (do assignStores env v (← swappedStores [.Tuple ts n p] e env) ((assignEach [.Tuple ts n p] env).map (·.2))) (ResS B c env Kp (Then B k c rest Q) G s) E s' := fun hw => by
    rw [hw]
    refine wpAny_bind (wpAny_pure ?_)
    show wpAny B.M A (do assignAll v [assign (.Tuple ts n p) env]; pure Flow.next) _ E s'
    refine wpAny_bind (unpack_names b.2.2 r' f' hK hx hi rv hl fun s'' hk st2 r'' f'' => wpAny_pure ⟨G',σ,.next _,st.trans st2,r'',⟨rfl,f''⟩,q⟩)
  by_cases ht : ∃ vs m q,e = .Tuple vs m q
  · obtain ⟨vs,m,q',rfl⟩ := ht
    simp only [swB] at hsw
    cases hb : swapB c ts vs with
    | none => rw [hb] at hsw; cases hsw
    | some o =>
      have hw := swap_spec (n := n) (m := m) (p := p) (q := q') f.st.scope hb
      cases o with
      | none => exact plain hw
      | some ys =>
        rw [hb] at hsw
        simp only [Bool.and_eq_true,beq_iff_eq,decide_eq_true_eq] at hsw
        obtain ⟨rfl,hnd⟩ := hsw
        rw [hw]
        refine wpAny_bind (wpAny_pure ?_)
        show wpAny B.M A (do rule "assign.swapped-stores"; let items ← unpackItems v ys.length none; assignInOrder (ys.reverse.map fun n => bindName env n) items.reverse; pure Flow.next) _ E s'
        refine wpAny_bind (wpAny_rule ?_)
        have e1 : (do let items ← unpackItems v ys.length none; assignInOrder (ys.reverse.map fun n => bindName env n) items.reverse; pure Flow.next) = ((do let items ← unpackItems v ys.length none; assignInOrder (ys.reverse.map fun n => bindName env n) items.reverse) >>= fun _ => pure Flow.next) := by
          rw [bind_assoc]
        rw [e1]
        exact wpAny_bind (unpack_swapped b.2.2 r' f' hK hi hnd rv hl fun s'' hk st2 r'' f'' => wpAny_pure ⟨G',σ,.next _,st.trans st2,r'',⟨rfl,f''⟩,q⟩)
  · exact plain (swapped_plain fun vs m q' e' => ht ⟨vs,m,q',e'⟩)
theorem assign_tgt {A:Around} {E:Value → Shared → Prop} {Qq:Unit → Shared → Prop} {env:Env} {s:Shared} {G:View} {Kp:Heap} {tgt:Expr} {tg:List Nat} {v:Value} {d:V} {L':Lc}
    (hh:A.handled = none) (r:Rel B Kp σ G s) (f:FRs B c env L G σ s) (hK:∀ a,Own env a → Kp.get? a = none) (ht:cTgt c tgt = some tg) (rv:B.R G v d) (hL:bindT tg d L = some L')
    (h:∀ s',(∀ b o,¬ Own env b → s.heap.get? b = some o → s'.heap.get? b = some o) → Step G G s s' → Rel B Kp σ G s' → FRs B c env L' G σ s' → Qq () s') :
    wpAny B.M A (assign tgt env v) Qq E s := by
  cases tgt_of ht with
  | one hi => rw [bindT_one hL] at h; exact wpAny_assign_Name (store_slot r f hK hi rv h)
  | @two x y _ _ _ _ i j hi hj =>
    obtain ⟨a,b,rfl,e⟩ := bindT_two hL
    rw [e] at h
    exact unpack_names (is := [i,j]) hh r f hK (xs := [x,y]) rfl (by rw [List.map_cons,List.map_cons,hi,hj]; rfl) rv rfl h
noncomputable def loopK (env:Env) (σ:Store) (h:Heap) : Heap := PySem.W.hideAll h (σ.map (·.1) ++ env.locals :: env.cells.map (·.2))
theorem own_mem {env:Env} {a:Addr} : Own env a ↔ a ∈ env.locals :: env.cells.map (·.2) := by
  constructor
  · rintro (rfl | ⟨n,h⟩)
    · exact .head _
    · exact .tail _ (List.mem_map.mpr ⟨_,h,rfl⟩)
  · intro h
    rcases List.mem_cons.mp h with rfl | h
    · exact .inl rfl
    · obtain ⟨⟨n,a'⟩,h1,rfl⟩ := List.mem_map.mp h
      exact .inr ⟨n,h1⟩
theorem loopK_get {env:Env} {h:Heap} {a:Addr} {o:Obj} (e:h.get? a = some o) (n:∀ m,(a,m) ∉ σ) (no:¬ Own env a) : (loopK env σ h).get? a = some o :=
  PySem.W.hideAll_get _ e fun hm => by
    rcases List.mem_append.mp hm with hm | hm
    · obtain ⟨⟨b,m⟩,h1,h2⟩ := List.mem_map.mp hm
      cases h2
      exact n m h1
    · exact no (own_mem.mpr hm)
theorem loopK_rel {env:Env} {Kp:Heap} {G:View} {s:Shared} (r:Rel B Kp σ G s) : Rel B (loopK env σ s.heap) σ G s :=
  ⟨r.bas,r.gin,fun _ _ e => PySem.W.of_hideAll _ e,r.sto,fun a m h => PySem.W.hideAll_none _ (List.mem_append_left _ (List.mem_map.mpr ⟨_,h,rfl⟩))⟩
theorem loopK_own {env:Env} {h:Heap} {a:Addr} (ha:Own env a) : (loopK env σ h).get? a = none := PySem.W.hideAll_none _ (List.mem_append_right _ (own_mem.mp ha))
theorem loopK_stays {env:Env} {Kp:Heap} {G:View} {s:Shared} (r:Rel B Kp σ G s) (hK:∀ a,Own env a → Kp.get? a = none) : Kp.StaysIn (loopK env σ s.heap) := fun a o e =>
  loopK_get (r.kin a o e) (fun m hm => by rw [r.hid a m hm] at e; cases e) fun ho => by rw [hK a ho] at e; cases e
noncomputable def ForP (B:B0) (k:Nat) (c:Cx) (tg:List Nat) (body rest:List Stmt) (Q:Out → Store → Prop) : List V → Lc → Store → Prop
  | [],L,σ => ST B k c σ L rest Q
  | x :: xs,L,σ => ∃ L',bindT tg x L = some L' ∧ ST B k c σ L' body fun o σ' => match o with
    | .next L'' => ForP B k c tg body rest Q xs L'' σ'
    | .brk L'' => ST B k c σ' L'' rest Q
    | .ret d => Q (.ret d) σ'
inductive ForI (B:B0) (k:Nat) (c:Cx) (tg:List Nat) (body rest:List Stmt) (Q:Out → Store → Prop) (env:Env) (Kp:Heap) (G:View) (s:Shared) (wr:List Addr) (xs:List V) (St:Nat → View → Heap → Prop) (n:Nat) (s':Shared) : Prop
  | mk (G':View) (σ':Store) (L':Lc) (i:Nat) : n = xs.length - i → i ≤ xs.length → Step G G' s s' → Rel B Kp σ' G' s' → FRs B c env L' G' σ' s' → St i G' s'.heap → Apart G' s'.heap wr → (∀ b ∈ wr,∀ m,(b,m) ∉ σ') → ForP B k c tg body rest Q (xs.drop i) L' σ' → ForI B k c tg body rest Q env Kp G s wr xs St n s'
theorem ST_for {tgt iter:Expr} {tg:List Nat} {body rest:List Stmt} {pos:Pos} (ht:cTgt c tgt = some tg) (hs:∀ env x,foldedSetIterable iter env x = pure x)
    (h:SRC B k c σ L iter tgt fun xs => ForP B k c tg body rest Q xs L σ) : ST B k c σ L (.For tgt iter body [] pos :: rest) Q := by
  refine ST_cons fun A E s G Kp env b r f hK => wpAny_For ?_ (hs env)
  refine h.run b r.max f.toX fun s₂ I wr xs St G₂ W st0 st₂ r₂' hwr hsz q => ?_
  have r₂ := r.back r₂'
  have f₂ := f.step st₂ r₂'
  have hnown : ∀ b ∈ wr,¬ Own env b := fun b hb ho => by
    obtain ⟨o,e⟩ := f.alive b ho
    rw [(hwr b hb).1] at e
    cases e
  have hwK : ∀ b ∈ wr,Kp.get? b = none := fun b hb => (r.outside (hwr b hb).1).1
  have hwσ : ∀ b ∈ wr,∀ m,(b,m) ∉ σ := fun b hb => (r.outside (hwr b hb).1).2
  refine codeAny_forLoop_any (ForI B k c tg body rest Q env Kp G s wr xs St) ?_ xs.length ⟨G₂,σ,L,0,rfl,Nat.zero_le _,st₂,r₂,f₂,st0,fun b hb => (hwr b hb).2,hwσ,q⟩
  intro n s' inv
  obtain ⟨G',σ',L',i,hn,hi,st,r',f',sti,ap,hwσ',fp⟩ := inv
  by_cases hlt : i < xs.length
  · have hx : xs[i]? = some xs[i] := List.getElem?_eq_getElem hlt
    rw [List.drop_eq_getElem_cons hlt] at fp
    obtain ⟨L₁,hL₁,hbody⟩ := fp
    refine wpAny_mono (W.item i s' G' _ ?q _ hx sti r'.gin ?_) (fun rr s₁ hh => ?_) fun _ _ e => e
    case q => exact fun v s₂ => wpAny B.M A (assign tgt env v) (fun _ s₂ => wpAny B.M A (execs body env) (fun f s₃ => match f with
            | .next | .cont => ∃ m,m < n ∧ ForI B k c tg body rest Q env Kp G s wr xs St m s₃
            | .brk => ResS B c env Kp (Then B k c rest Q) G s .next s₃
            | .ret v => ResS B c env Kp (Then B k c rest Q) G s (.ret v) s₃) (notedBy B.M A env fun e s' => cameBackBy B.M A env E e s') s₂) (notedBy B.M A env fun e s' => cameBackBy B.M A env E e s') s₂
    · intro v s₂ G₂' st₂' gin₂ rv sti' hk₂
      have r₂ : Rel B Kp σ' G₂' s₂ := r'.upd st₂' gin₂ hk₂ fun b hb => ⟨hwK b hb,hwσ' b hb⟩
      have ap₂ := ap.step st₂'
      have f₂ : FRs B c env L' G₂' σ' s₂ := by
        refine f'.keep st₂'.le (fun a o ho e => hk₂ a o (fun h => hnown a h ho) e) fun a ho => ⟨?_,(f'.own a ho).2⟩
        cases q : G₂' a with
        | none => rfl
        | some o =>
          obtain ⟨o',e⟩ := f'.alive a ho
          rcases st₂'.new a o q with q' | q'
          · rw [(f'.own a ho).1] at q'; cases q'
          · rw [e] at q'; cases q'
      refine assign_tgt b.2.2 r₂ f₂ hK ht rv hL₁ fun s₃ hk₃ st₃ r₃ f₃ => ?_
      refine ResS.run (hbody A _ s₃ G₂' (loopK env σ' s₃.heap) env b (loopK_rel r₃) f₃ fun a ho => loopK_own ho) fun fl s₄ G₄ σ₄ o st₄ r₄ fo qo => ?_
      have r₄' : Rel B Kp σ₄ G₄ s₄ := Rel.weaken (loopK_stays r₃ hK) r₄
      have stt : Step G G₄ s s₄ := ((st.trans st₂').trans st₃).trans st₄
      have inK : ∀ b ∈ wr,∀ o,s₂.heap.get? b = some o → (loopK env σ' s₃.heap).get? b = some o := fun b hb o e => loopK_get (hk₃ b o (hnown b hb) e) (hwσ' b hb) (hnown b hb)
      cases o with
      | next L₂ =>
        obtain ⟨rfl,f₄⟩ := fo
        have ap₄ := (ap₂.step st₃).step st₄
        refine ⟨xs.length - (i + 1),by rw [hn]; exact Nat.sub_succ_lt_self _ _ hlt,G₄,σ₄,L₂,i + 1,rfl,hlt,stt,r₄',f₄,?_,ap₄,fun b hb m hm => ?_,qo⟩
        · exact W.frame (i + 1) G₂' G₄ s₂.heap s₄.heap sti' st₄.le r₄.gin (fun a ha => (ap₄ a ha).1) fun a ha o e => r₄.kin a o (inK a ha o e)
        · obtain ⟨_,o,e⟩ := ap₂ b hb
          have := r₄.hid b m hm
          rw [inK b hb o e] at this
          cases this
      | brk L₂ =>
        obtain ⟨rfl,f₄⟩ := fo
        exact ⟨G₄,σ₄,.next L₂,stt,r₄',⟨rfl,f₄⟩,qo⟩
      | ret d =>
        obtain ⟨v',rfl,rv'⟩ := fo
        exact ⟨G₄,σ₄,.ret d,stt,r₄',⟨v',rfl,rv'⟩,qo⟩
    · obtain ⟨v,rfl,hw⟩ := hh
      exact hw
  · have hie : i = xs.length := Nat.le_antisymm hi (Nat.not_lt.mp hlt)
    subst hie
    rw [List.drop_length] at fp
    refine W.done s' G' _ _ sti r'.gin fun s'' hk eo eg => wpAny_execs_nil ?_
    have st'' : Step G G' s s'' := ⟨st.le,st.new,fun a o e => by
      obtain ⟨o',e'⟩ := st.alive a o e
      exact ⟨o',hk a o' (fun h => by rw [(hwr a h).1] at e; cases e) e'⟩,eo.trans st.os,fun h => by rw [eg]; exact st.gens h⟩
    have gin'' : ∀ a o,G' a = some o → s''.heap.get? a = some o := fun a o e => hk a o (fun h => by rw [(ap a h).1] at e; cases e) (r'.gin a o e)
    have r'' : Rel B Kp σ' G' s'' := ⟨r'.bas,gin'',fun a o e => hk a o (fun h => by rw [hwK a h] at e; cases e) (r'.kin a o e),⟨fun a mm hm => by
      obtain ⟨h1,h2,o,h3,h4⟩ := r'.sto.at_ a mm hm
      exact ⟨h1,h2,o,hk a o (fun h => hwσ' a h mm hm) h3,h4⟩,r'.sto.nodup⟩,r'.hid⟩
    exact ⟨G',σ',.next L',st'',r'',⟨rfl,f'.keep (VLe.refl _) (fun a o ho e => hk a o (fun h => hnown a h ho) e) f'.own⟩,fp⟩
noncomputable def WhlP (B:B0) (k:Nat) (c:Cx) (t:Expr) (body rest:List Stmt) (Q:Out → Store → Prop) : Nat → Lc → Store → Prop
  | 0,_,_ => False
  | n + 1,L,σ => TV B k c σ L t fun p => (p = true → ST B k c σ L body fun o σ' => match o with
      | .next L' => WhlP B k c t body rest Q n L' σ'
      | .brk L' => ST B k c σ' L' rest Q
      | .ret d => Q (.ret d) σ') ∧ (p = false → ST B k c σ L rest Q)
theorem ST_while {t:Expr} {body rest:List Stmt} {pos:Pos} (h:∃ n,WhlP B k c t body rest Q n L σ) : ST B k c σ L (.While t body [] pos :: rest) Q := by
  refine ST_cons fun A E s G Kp env b r f hK => wpAny_While ?_
  obtain ⟨n,h⟩ := h
  refine codeAny_whileLoop (fun n s' => ∃ G' σ' L',Step G G' s s' ∧ Rel B Kp σ' G' s' ∧ FRs B c env L' G' σ' s' ∧ WhlP B k c t body rest Q n L' σ') ?_ n ⟨G,σ,L,Step.refl G s,r,f,h⟩
  rintro n s' ⟨G',σ',L',st,r',f',w⟩
  cases n with
  | zero => exact w.elim
  | succ n =>
    refine TV.run w b r' f' fun p s₂ G₂ st₂ r₂ f₂ q => ?_
    cases p with
    | false => exact wpAny_execs_nil ⟨G₂,σ',.next L',st.trans st₂,r₂,⟨rfl,f₂⟩,q.2 rfl⟩
    | true =>
      refine ResS.run (q.1 rfl A _ s₂ G₂ Kp env b r₂ f₂ hK) fun fl s₄ G₄ σ₄ o st₄ r₄ fo qo => ?_
      have stt : Step G G₄ s s₄ := (st.trans st₂).trans st₄
      cases o with
      | next L₂ =>
        obtain ⟨rfl,f₄⟩ := fo
        exact ⟨n,Nat.lt_succ_self _,G₄,σ₄,L₂,stt,r₄,f₄,qo⟩
      | brk L₂ =>
        obtain ⟨rfl,f₄⟩ := fo
        exact ⟨G₄,σ₄,.next L₂,stt,r₄,⟨rfl,f₄⟩,qo⟩
      | ret d =>
        obtain ⟨v',rfl,rv'⟩ := fo
        exact ⟨G₄,σ₄,.ret d,stt,r₄,⟨v',rfl,rv'⟩,qo⟩
end
noncomputable def CR (B:B0) (k:Nat) (c:Cx) (σ:Store) (L:Lc) (e:Expr) (scope:Scope) (first:Env → Sem Value) (Q:V → Prop) : Prop :=
  ∀ A E s G Kp env pos' use (Q':Value → Shared → Prop),Bud k A → Rel B Kp σ G s → FRx B c env L G Kp →
    (∀ s' C D m G' ys n acc,s'.heap.Ns C m → Step G G' s s' → Rel B Kp σ G' s' → s'.heap.get? D = some (sq "list" ys n) → ys.size ≤ sizeLine → B.RL G' ys.toList acc → Q (.lst acc) → G' D = none → G' C = none → D ≠ C → s.heap.get? D = none → s.heap.get? C = none →
      compPost B.M A E use Q' (.ref D) C (.ok .next) s') →
    wpAny B.M A (comprehension e scope env pos' (newList []) false (first env) use) Q' E s
section
variable {B:B0} {k:Nat} {c:Cx} {σ:Store} {L:Lc} {Q:Out → Store → Prop}
theorem CR_one {scope:Scope} {tgt elt iter:Expr} {tg:List Nat} {pos:Pos} {Q:V → Prop} (ok:compOk c scope = true) (ho:ownTgt scope tgt = true) (ht:cTgt (cIn c scope) tgt = some tg) (hs:∀ env x,foldedSetIterable iter env x = pure x)
    (h:SRC B k c σ L iter tgt fun xs => CompP B k (cIn c scope) σ (L0 c scope L) tg elt xs [] Q) : CR B k c σ L (.ListComp elt [⟨tgt,iter,[],0⟩] scope pos) scope (eval iter) Q :=
  fun A E s G Kp env pos' use Q' b r f hR => core_one ok ho ht (hs env) h b r f hR
theorem nS_of {Kp:Heap} {G:View} {s:Shared} (r:Rel B Kp σ G s) {a:Addr} (e:s.heap.get? a = none) (m:MO) : (a,m) ∉ σ := fun hm => by
  obtain ⟨_,_,o,h3,_⟩ := r.sto.at_ a m hm
  rw [h3] at e
  cases e
theorem nK_of {Kp:Heap} {G:View} {s:Shared} (r:Rel B Kp σ G s) {a:Addr} (e:s.heap.get? a = none) : Kp.get? a = none := by
  cases q : Kp.get? a with
  | none => rfl
  | some o => rw [r.kin a o q] at e; cases e
theorem Rel.drop {Kp:Heap} {G G':View} {s s':Shared} {C:Addr} {h':Heap} (r:Rel B Kp σ G s) (h0:s.heap.get? C = none) (r':Rel B Kp σ G' s') (hGC:G' C = none) (hsb:Heap.SameBut C s'.heap h') : Rel B Kp σ G' { s' with heap := h' } := by
  have hk : ∀ a o,a ≠ C → s'.heap.get? a = some o → h'.get? a = some o := fun a o ne e => (hsb.2 a ne).trans e
  have nK := nK_of r h0
  exact ⟨r'.bas,fun a o e => hk a o (fun q => by subst q; rw [hGC] at e; cases e) (r'.gin a o e),fun a o e => hk a o (fun q => by subst q; rw [nK] at e; cases e) (r'.kin a o e),
      ⟨fun a mm hm => by obtain ⟨h1,h2,o,h3,h4⟩ := r'.sto.at_ a mm hm; exact ⟨h1,h2,o,hk a o (fun q => nS_of r h0 mm (q ▸ hm)) h3,h4⟩,r'.sto.nodup⟩,r'.hid⟩
theorem Step.drop {G G':View} {s s':Shared} {C:Addr} {h':Heap} (st:Step G G' s s') (h0:s.heap.get? C = none) (hsb:Heap.SameBut C s'.heap h') : Step G G' s { s' with heap := h' } :=
  ⟨st.le,st.new,fun a o e => by
    obtain ⟨o',e'⟩ := st.alive a o e
    exact ⟨o',(hsb.2 a (fun q => by subst q; rw [e] at h0; cases h0)).trans e'⟩,st.os,st.gens⟩
theorem ST_asgComp {x:Str} {i:Nat} {elt tgt iter:Expr} {gs:List Comprehension} {scope:Scope} {p cpos pos:Pos} {rest:List Stmt} (hx:isLocal c x = some i)
    (h:CR B k c σ L (.ListComp elt (⟨tgt,iter,[],0⟩ :: gs) scope cpos) scope (eval iter) fun d => ST B k c σ (L.set i (some d)) rest Q) :
    ST B k c σ L (.Assign [.Name x p] (.ListComp elt (⟨tgt,iter,[],0⟩ :: gs) scope cpos) pos :: rest) Q := by
  refine ST_cons fun A E s G Kp env b r f hK => ?_
  have hsw : ∃ sw,swapsWith (.ListComp elt (⟨tgt,iter,[],0⟩ :: gs) scope cpos) (some (.Name x p)) pos.line env = pure sw := ⟨_,rfl⟩
  obtain ⟨sw,hsw⟩ := hsw
  cases sw with
  | false =>
    refine wpAny_Assign_Name ?_ hsw
    rw [eval_ListComp]
    refine h A E s G (maxK σ s.heap) env _ none _ b r.max f.toX fun s' C D m G' ys n acc hn st r' hD hz rl q hGD hGC hDC h0 h0C => ?_
    refine ⟨m,hn,fun h' hsb => ?_⟩
    have st₂ := st.drop h0C hsb
    have r₂ := Rel.drop r.max h0C r' hGC hsb
    have hD2 : h'.get? D = some (sq "list" ys n) := (hsb.2 D hDC).trans hD
    have r₃ := r₂.addv hD2 hGD (nS_of r h0)
    have st₃ := st₂.addv (o := sq "list" ys n) hGD h0
    refine store_slot (r.back r₃) (f.step st₃ r₃) hK hx (.lst (View.add_self _ _ _) hz (rl.mono (VLe.add hGD _))) fun s'' hk st4 r'' f'' => ⟨_,σ,.next _,st₃.trans st4,r'',⟨rfl,f''⟩,q⟩
  | true =>
    rw [exec_Assign_Name_used _ _ _ _ hsw]
    refine wpAny_bind (wpAny_standAt (wpAny_bind ?_))
    show wpAny _ A (do let _ ← comprehension (.ListComp elt (⟨tgt,iter,[],0⟩ :: gs) scope cpos) scope env _ (newList []) false (eval iter env) (some (assign (.Name x p) env))) _ _ s
    refine wpAny_bind (h A E s G (maxK σ s.heap) env _ (some (assign (.Name x p) env)) _ b r.max f.toX fun s' C D m G' ys n acc hn st r' hD hz rl q hGD hGC hDC h0 h0C => ?_)
    show wpAny B.M A (assign (.Name x p) env (.ref D)) _ E s'
    have r₃ := r'.addv hD hGD (nS_of r h0)
    have st₃ := st.addv (o := sq "list" ys n) hGD h0
    refine wpAny_assign_Name (store_slot (r.back r₃) (f.step st₃ r₃) hK hx (.lst (View.add_self _ _ _) hz (rl.mono (VLe.add hGD _))) fun s'' hk st4 r'' f'' => ?_)
    have hCo : ¬ Own env C := fun ho => by
      obtain ⟨o,e⟩ := f.alive C ho
      rw [h0C] at e
      cases e
    obtain ⟨oC,esC,epC,eC,rC⟩ := hn
    have hGC' : (G'.add D (sq "list" ys n)) C = none := by
      unfold View.add
      rw [if_neg (Ne.symm hDC)]
      exact hGC
    refine ⟨m,⟨oC,esC,epC,hk C oC hCo eC,rC⟩,fun h' hsb => wpAny_pure (wpAny_pure ⟨_,σ,.next _,(st₃.trans st4).drop h0C hsb,Rel.drop r h0C r'' hGC' hsb,⟨rfl,?_⟩,q⟩)⟩
    exact f''.keep (VLe.refl _) (fun a o ho e => (hsb.2 a (fun q => hCo (q ▸ ho))).trans e) f''.own
theorem EV_of_CR {elt tgt iter:Expr} {gs:List Comprehension} {scope:Scope} {pos:Pos} {Q:V → Prop} (h:CR B k c σ L (.ListComp elt (⟨tgt,iter,[],0⟩ :: gs) scope pos) scope (eval iter) Q) : EV B k c σ L (.ListComp elt (⟨tgt,iter,[],0⟩ :: gs) scope pos) Q := by
  intro A E s G Kp env b r f
  rw [eval_ListComp]
  refine h A E s G Kp env _ none _ b r f fun s' C D m G' ys n acc hn st r' hD hz rl q hGD hGC hDC h0 h0C => ?_
  refine ⟨m,hn,fun h' hsb => ?_⟩
  have hD2 : h'.get? D = some (sq "list" ys n) := (hsb.2 D hDC).trans hD
  exact ⟨_,_,(st.drop h0C hsb).addv hGD h0,(Rel.drop r h0C r' hGC hsb).addv hD2 hGD (nS_of r h0),.lst (View.add_self _ _ _) hz (rl.mono (VLe.add hGD _)),q⟩
end
noncomputable def upd (kvs:List (List Nat × V)) (k:List Nat) (v:V) : List (List Nat × V) :=
  if kvs.any (fun p => p.1 == k) then kvs.map (fun p => if p.1 == k then (p.1,v) else p) else kvs ++ [(k,v)]
noncomputable def Store.put (σ:Store) (a:Addr) (m:MO) : Store := σ.map fun p => if p.1 = a then (a,m) else p
section
variable {prog:Program} {w:World} {G:View}
theorem RepD.length {kvs:List (Str × Value)} {ds:List (List Nat × V)} (h:RepD prog w G kvs ds) : kvs.length = ds.length := by
  have := congrArg List.length h.1
  simpa using this
theorem RepD.append {kvs kvs':List (Str × Value)} {ds ds':List (List Nat × V)} (h:RepD prog w G kvs ds) (h':RepD prog w G kvs' ds') : RepD prog w G (kvs ++ kvs') (ds ++ ds') :=
  ⟨by simp [h.1,h'.1],by simpa using h.2.append h'.2⟩
theorem key_beq (a b:Str) : (a.cps.toList == b.cps.toList) = decide (a = b) := by
  by_cases e : a = b
  · subst e; simp
  · have : a.cps.toList ≠ b.cps.toList := fun q => e ((str_eq_iff a b).mpr q)
    rw [beq_eq_false_iff_ne.mpr this,decide_eq_false e]
theorem RepD.stored {kvs:List (Str × Value)} {ds:List (List Nat × V)} (h:RepD prog w G kvs ds) (k:Str) {v:Value} {d:V} (hv:RepV prog w G v d) : RepD prog w G (PySem.stored kvs k v) (upd ds k.cps.toList d) := by
  have hany : ∀ {kvs:List (Str × Value)} {ds:List (List Nat × V)},RepD prog w G kvs ds → (kvs.any fun kv => kv.1 = k) = ds.any fun p => p.1 == k.cps.toList := by
    intro kvs
    induction kvs with
    | nil => intro ds h; have := h.length; cases ds with
      | nil => rfl
      | cons _ _ => cases this
    | cons p r ih =>
      intro ds h
      obtain ⟨k',v'⟩ := p
      obtain ⟨d',r',rfl,_,hr⟩ := h.uncons
      simp only [List.any_cons,ih hr,key_beq]
  have hmap : ∀ {kvs:List (Str × Value)} {ds:List (List Nat × V)},RepD prog w G kvs ds → RepD prog w G (kvs.map fun kv => if kv.1 = k then (kv.1,v) else kv) (ds.map fun p => if p.1 == k.cps.toList then (p.1,d) else p) := by
    intro kvs
    induction kvs with
    | nil => intro ds h; have := h.length; cases ds with
      | nil => exact RepD.nil
      | cons _ _ => cases this
    | cons p r ih =>
      intro ds h
      obtain ⟨k',v'⟩ := p
      obtain ⟨d',r',rfl,hv',hr⟩ := h.uncons
      simp only [List.map_cons,key_beq,decide_eq_true_eq]
      split
      · exact RepD.cons hv (ih hr)
      · exact RepD.cons hv' (ih hr)
  unfold PySem.stored upd
  rw [hany h]
  split
  · exact hmap h
  · exact h.append (RepD.cons hv RepD.nil)
end
section
variable {B:B0} {k:Nat} {c:Cx} {σ:Store} {L:Lc} {Q:Out → Store → Prop}
theorem Store.put_keys (σ:Store) (a:Addr) (m:MO) : (σ.put a m).map (·.1) = σ.map (·.1) := by
  unfold Store.put
  rw [List.map_map]
  apply List.map_congr_left
  rintro ⟨b,n⟩ _
  simp only [Function.comp]
  split
  · rename_i h; exact h.symm
  · rfl
theorem Store.put_mem {σ:Store} {a b:Addr} {m n:MO} (h:(b,n) ∈ σ.put a m) : (b = a ∧ n = m) ∨ (b ≠ a ∧ (b,n) ∈ σ) := by
  obtain ⟨⟨b',n'⟩,h1,h2⟩ := List.mem_map.mp h
  simp only at h2
  split at h2
  · cases h2; exact .inl ⟨rfl,rfl⟩
  · rename_i hne; cases h2; exact .inr ⟨hne,h1⟩
theorem mem_put {σ:Store} {a b:Addr} {m n:MO} (h:(b,n) ∈ σ.put a m) : ∃ n',(b,n') ∈ σ := by
  obtain ⟨⟨b',n'⟩,h1,h2⟩ := List.mem_map.mp h
  simp only at h2
  split at h2
  · rename_i e; cases h2; exact ⟨n',e ▸ h1⟩
  · cases h2; exact ⟨_,h1⟩
theorem Rel.mut {Kp:Heap} {G:View} {s s':Shared} {a:Addr} {mo mo':MO} {o':Obj} (r:Rel B Kp σ G s) (ha:(a,mo) ∈ σ) (hk:∀ b o,b ≠ a → s.heap.get? b = some o → s'.heap.get? b = some o) (ho:s'.heap.get? a = some o') (hr:RepM B.prog B.w G o' mo') (hnt:∀ c p,mo ≠ .tab c p := by intro _ _ e; cases e) : Rel B Kp (σ.put a mo') G s' := by
  refine ⟨r.bas,fun b o e => hk b o (fun q => r.notG ha (q ▸ e)) (r.gin b o e),fun b o e => hk b o (fun q => by subst q; rw [r.hid b mo ha] at e; cases e) (r.kin b o e),⟨fun b m hm => ?_,by rw [Store.put_keys]; exact r.sto.nodup⟩,fun b m hm => ?_⟩
  · rcases Store.put_mem hm with ⟨rfl,rfl⟩ | ⟨hne,hm'⟩
    · obtain ⟨h1,h2,_⟩ := r.sto.at_ _ _ ha
      exact ⟨h1,.inl (h2.resolve_right fun h => by obtain ⟨c,p,e⟩ := h; exact hnt c p e),o',ho,hr⟩
    · obtain ⟨h1,h2,o,h3,h4⟩ := r.sto.at_ b m hm'
      exact ⟨h1,h2,o,hk b o hne h3,h4⟩
  · obtain ⟨n',hn⟩ := mem_put hm
    exact r.hid b n' hn
theorem FRs.mut {env:Env} {G:View} {s s':Shared} {a:Addr} {mo mo':MO} (f:FRs B c env L G σ s) (ha:(a,mo) ∈ σ) (hk:∀ b o,b ≠ a → s.heap.get? b = some o → s'.heap.get? b = some o) : FRs B c env L G (σ.put a mo') s' :=
  f.keep (VLe.refl _) (fun b o ho e => hk b o (fun q => (f.own b ho).2 mo (q ▸ ha)) e) fun b ho => ⟨(f.own b ho).1,fun m hm => by
    obtain ⟨n',hn⟩ := mem_put hm
    exact (f.own b ho).2 n' hn⟩
theorem Step.mut {G:View} {s s':Shared} {a:Addr} {o':Obj} (hk:∀ b o,b ≠ a → s.heap.get? b = some o → s'.heap.get? b = some o) (ho:s'.heap.get? a = some o') (eo:s'.os = s.os) (eg:s'.gens = s.gens) : Step G G s s' :=
  Step.grow G (fun b o e => by
    by_cases q : b = a
    · subst q; exact ⟨o',ho⟩
    · exact ⟨o,hk b o q e⟩) eo eg
theorem not_sys (hB:B.OK) {Kp:Heap} {G:View} {s:Shared} (r:Rel B Kp σ G s) : (s.heap.objs.size == sysModules) = false := by
  obtain ⟨o,_,_,e,_⟩ := hB.g
  have : mainGlobals < s.heap.objs.size := Heap.lt_size (r.keeps _ _ e)
  have h3 : mainGlobals = 3 := rfl
  have h1 : sysModules = 1 := rfl
  rw [beq_eq_false_iff_ne]
  intro e
  rw [e] at this
  exact absurd this (by decide)
theorem Rel.fresh (hB:B.OK) {Kp:Heap} {G:View} {s:Shared} {mo:MO} {o:Obj} (r:Rel B Kp σ G s) (hf:o.isFreed = false) (hr:RepM B.prog B.w G o mo) : Rel B Kp ((s.heap.objs.size,mo) :: σ) G { s with heap := s.heap.push o } := by
  have h0 : s.heap.get? s.heap.objs.size = none := heap_none _
  have r' := r.pushRaw o
  refine ⟨r'.bas,r'.gin,r'.kin,⟨fun a m hm => ?_,?_⟩,fun a m hm => ?_⟩
  · rcases List.mem_cons.mp hm with e | hm
    · cases e
      exact ⟨r.none_size,.inl (not_sys hB r),o,Heap.get?_push_size _ hf,hr⟩
    · exact r'.sto.at_ a m hm
  · refine List.nodup_cons.mpr ⟨fun hm => ?_,r.sto.nodup⟩
    obtain ⟨⟨b,m⟩,h1,h2⟩ := List.mem_map.mp hm
    simp only at h2
    subst h2
    exact nS_of r h0 m h1
  · rcases List.mem_cons.mp hm with e | hm
    · cases e
      exact nK_of r h0
    · exact r.hid a m hm
theorem FRs.fresh {env:Env} {G:View} {s:Shared} {mo:MO} {o:Obj} (f:FRs B c env L G σ s) : FRs B c env L G ((s.heap.objs.size,mo) :: σ) { s with heap := s.heap.push o } :=
  f.keep (VLe.refl _) (fun b o' ho e => Heap.get?_push_of_some o e) fun b ho => ⟨(f.own b ho).1,fun m hm => by
    rcases List.mem_cons.mp hm with e | hm
    · cases e
      obtain ⟨o',e'⟩ := f.alive _ ho
      rw [heap_none] at e'
      cases e'
    · exact (f.own b ho).2 m hm⟩
theorem dict_empty (prog:Program) (w:World) : ({ cls := .type "dict",data := .dict #[] } : Obj).IsDictOf (PySem.strKind prog w) [] :=
  ⟨#[],0,⟨rfl,rfl,rfl⟩,rfl,by intro e h; simp at h,.nil,.nil⟩
theorem ST_newD (hB:B.OK) {x:Str} {i:Nat} {p q pos:Pos} {rest:List Stmt} (hx:isLocal c x = some i) (h:∀ a,(∀ m,(a,m) ∉ σ) → ST B k c ((a,.d []) :: σ) (L.set i (some (.ref a))) rest Q) : ST B k c σ L (.Assign [.Name x p] (.Dict [] [] q) pos :: rest) Q := by
  refine ST_cons fun A E s G Kp env b r f hK => wpAny_Assign_Name (wpAny_Dict_empty ?_) rfl
  have hr : RepM B.prog B.w G { cls := .type "dict",data := .dict #[] } (.d []) := ⟨[],dict_empty _ _,rfl,.nil⟩
  exact store_slot (r.fresh hB rfl hr) f.fresh hK hx (.ref _) fun s'' hk st2 r'' f'' => ⟨G,_,.next _,(Step.pushRaw _ _ _).trans st2,r'',⟨rfl,f''⟩,h _ (fun m => nS_of r (heap_none _) m)⟩
end
inductive ResF (B:B0) (Kp:Heap) (σ:Store) (Q:List V → Prop) (G:View) (s:Shared) (v:Value) (s':Shared) : Prop
  | mk (G₁:View) (s₁:Shared) (vs:Array Value) (n:Nat) (xs:List V) : Step G G₁ s s₁ → Rel B Kp σ G₁ s₁ → v = .ref s₁.heap.objs.size → s' = { s₁ with heap := s₁.heap.push (sq "list" vs n) } → vs.size ≤ sizeLine → B.RL G₁ vs.toList xs → Q xs → ResF B Kp σ Q G s v s'
noncomputable def EVF (B:B0) (k:Nat) (c:Cx) (σ:Store) (L:Lc) (e:Expr) (Q:List V → Prop) : Prop :=
  ∀ A E s G Kp env,Bud k A → Rel B Kp σ G s → FRx B c env L G Kp → wpAny B.M A (eval e env) (ResF B Kp σ Q G s) E s
theorem pick_all (xs:List V) : pick xs none none none = xs := by
  have h1 : sliceBounds none none none xs.length = (0,(xs.length : Int),1) := rfl
  unfold pick
  rw [h1]
  dsimp only
  have h2 : sliceRange 0 (xs.length : Int) 1 = List.range xs.length := by
    unfold sliceRange
    rw [if_pos (by decide)]
    have hc : (if (xs.length : Int) > 0 then ((xs.length : Int) - 0 + 1 - 1) / 1 else 0).toNat = xs.length := by
      split
      · rw [Int.ediv_one]; omega
      · omega
    simp only [hc]
    have : (fun (j:Nat) => (0 + 1 * (j:Int)).toNat) = id := by funext j; simp
    rw [this,List.map_id]
  rw [h2,fm_range]
section
variable {B:B0} {k:Nat} {c:Cx} {σ:Store} {L:Lc} {Q:List V → Prop}
theorem ResF.step {Kp:Heap} {G G₁:View} {s s₁ s':Shared} {v:Value} (st:Step G G₁ s s₁) (h:ResF B Kp σ Q G₁ s₁ v s') : ResF B Kp σ Q G s v s' := by
  obtain ⟨G',s'',vs,n,xs,a,b,e1,e2,e3,e4,q⟩ := h
  exact ⟨G',s'',vs,n,xs,st.trans a,b,e1,e2,e3,e4,q⟩
theorem EVF_list {es:List Expr} {pos:Pos} (h:EVs B k c σ L es fun ds => ds.length ≤ sizeLine ∧ Q ds) : EVF B k c σ L (.List es pos) Q := by
  intro A E s G Kp env b r f
  refine wpAny_List_spliced (ResL.run (h A E s G Kp env pos b r f) fun vs s₁ G₁ ds st r₁ rv q0 => ?_)
  obtain ⟨hz,q⟩ := q0
  rw [← rv.length] at hz
  exact ⟨hz,G₁,s₁,vs.toArray,0,ds,st,r₁,rfl,rfl,hz,rv,q⟩
theorem EVF_copy {v:Expr} {p pos:Pos} (h:EV B k c σ L v fun x => ∃ xs,listOfV σ x = some xs ∧ Q xs) : EVF B k c σ L (.Subscript v (.Slice none none none p) pos) Q := by
  intro A E s G Kp env b r f
  refine Subscript_ (Res.run (h A E s G Kp env b r f) fun v₁ s₁ G₁ x st r₁ rv q0 => ?_)
  obtain ⟨xs,hx,q⟩ := q0
  refine wpAny_Slice (wpAny_evalPart_none (wpAny_evalPart_none (wpAny_evalPart_none ?_)))
  have r₂ := r₁.pushRaw { cls := .type "slice",data := .fields #[.none,.none,.none] }
  have st₂ := st.trans (Step.pushRaw G₁ s₁ { cls := .type "slice",data := .fields #[.none,.none,.none] })
  obtain ⟨a,vs,n,rfl,hg,z,l⟩ := list_at r₂ rv hx
  refine tail_any (T := "list") ⟨_,hg,rfl⟩ PySem.F.slot_list_getitem.lookup (wpAny_getItem_list_slice ⟨_,hg,rfl,n,rfl⟩ ⟨_,Heap.get?_push_size _ rfl,rfl,rfl⟩ .none .none .none (by simp) ?_ z) rfl
  refine ⟨G₁,_,slicePick vs none none none,0,xs,st₂,r₂,rfl,rfl,Nat.le_trans (slicePick_size_le vs none none none) z,?_,q⟩
  have h6 := pick_list l none none
  rw [pick_all] at h6
  exact h6
theorem EVF_mul {x y:Expr} {pos:Pos} (h:EV B k c σ L x fun d => EV B k c σ L y fun e => ∃ xs n,d = .lst xs ∧ e = .int n ∧ n < 2 ^ 63 ∧ -(2 ^ 63) ≤ n ∧ xs.length * n.toNat ≤ 2 ^ 24 ∧ Q (List.replicate n.toNat xs).flatten) : EVF B k c σ L (.BinOp x .Mult y pos) Q := by
  intro A E s G Kp env b r f
  refine wpAny_BinOp (Res.run (h A E s G Kp env b r f) fun v₁ s₁ G₁ d st r₁ rv q => ?_)
  refine Res.run (q A E s₁ G₁ Kp env b r₁ (f.mono st.le)) fun v₂ s₂ G₂ e st₂ r₂ rv₂ q0 => ?_
  obtain ⟨xs,m,ed,ee,h1,h2,h3,q₂⟩ := q0
  subst ed ee
  obtain ⟨u,e2⟩ := rv₂.inv
  obtain ⟨a,vs,n,e1,g1,z1,l1⟩ := (rv.mono st₂.le).inv
  have hsz : vs.size * m.toNat ≤ 2 ^ 24 := by rw [l1.size]; exact h3
  rw [e1,e2]
  refine mul_list (r₂.gin _ _ g1) h2 h1 hsz fun us e => ⟨G₂,s₂,us,0,_,st.trans st₂,r₂,rfl,rfl,mul_size e hsz,?_,q₂⟩
  rw [e]
  exact RepL.flatten_replicate l1 _
end
section
variable {B:B0} {k:Nat} {c:Cx} {σ:Store} {L:Lc} {Q:Out → Store → Prop}
theorem ST_newL (hB:B.OK) {x:Str} {i:Nat} {e:Expr} {p pos:Pos} {rest:List Stmt} (hx:isLocal c x = some i) (hp:plainVal e = true) (h:EVF B k c σ L e fun xs => ∀ a,(∀ m,(a,m) ∉ σ) → ST B k c ((a,.l xs) :: σ) (L.set i (some (.ref a))) rest Q) : ST B k c σ L (.Assign [.Name x p] e pos :: rest) Q := by
  refine ST_cons fun A E s G Kp env b r f hK => wpAny_Assign_Name ?_ (swaps_plain hp)
  refine wpAny_mono (h A E s G (maxK σ s.heap) env b r.max f.toX) (fun v s' hh => ?_) fun _ _ e => e
  obtain ⟨G₁,s₁,vs,n,xs,st,r₁,e1,e2,hz,rl,q⟩ := hh
  rw [e1,e2]
  have r₁' := r.back r₁
  have f₁ := f.step st r₁
  have hr : RepM B.prog B.w G₁ (sq "list" vs n) (.l xs) := ⟨vs,n,rfl,hz,rl⟩
  exact store_slot (r₁'.fresh hB rfl hr) f₁.fresh hK hx (.ref _) fun s'' hk st2 r'' f'' => ⟨G₁,_,.next _,(st.trans (Step.pushRaw _ _ _)).trans st2,r'',⟨rfl,f''⟩,q _ (fun m => nS_of r₁' (heap_none _) m)⟩
theorem ST_newLL (hB:B.OK) {x:Str} {i n:Nat} {p p1 p2 p3 pos:Pos} {rest:List Stmt} (hx:isLocal c x = some i)
    (h:∀ a b,(∀ m,(a,m) ∉ σ) → (∀ m,(b,m) ∉ σ) → a ≠ b → ST B k c ((b,.l []) :: (a,.l []) :: σ) (L.set i (some (.tup [.ref a,.ref b]))) rest Q) : ST B k c σ L (.Assign [.Name x p] (.Tuple [.List [] p1,.List [] p2] n p3) pos :: rest) Q := by
  refine ST_cons fun A E s G Kp env b r f hK => wpAny_Assign_Name ?_ rfl
  refine wpAny_Tuple_spliced (wpAny_items_cons (wpAny_List_spliced (wpAny_items_nil ⟨Nat.zero_le _,?_⟩)) rfl)
  refine wpAny_items_cons (wpAny_List_spliced (wpAny_items_nil ⟨Nat.zero_le _,?_⟩)) rfl
  refine wpAny_items_nil ⟨by simp [sizeLine],?_⟩
  have hr : RepM B.prog B.w G (sq "list" #[] 0) (.l []) := ⟨#[],0,rfl,Nat.zero_le _,.nil⟩
  have r₁ := r.fresh (o := sq "list" #[] 0) hB rfl hr
  have r₂ := r₁.fresh (o := sq "list" #[] 0) hB rfl hr
  have f₂ : FRs B c env L G _ _ := (f.fresh (mo := .l []) (o := sq "list" #[] 0)).fresh (mo := .l []) (o := sq "list" #[] 0)
  have hne : s.heap.objs.size ≠ (s.heap.push (sq "list" #[] 0)).objs.size := by rw [heap_size_push]; omega
  have st₂ : Step G G s { s with heap := (s.heap.push (sq "list" #[] 0)).push (sq "list" #[] 0) } := (Step.pushRaw G s (sq "list" #[] 0)).trans (Step.pushRaw _ _ (sq "list" #[] 0))
  have r₃ := r₂.push (sq "tuple" #[.ref s.heap.objs.size,.ref (s.heap.push (sq "list" #[] 0)).objs.size] 0) rfl
  have st₃ := st₂.trans (Step.push r₂ (sq "tuple" #[.ref s.heap.objs.size,.ref (s.heap.push (sq "list" #[] 0)).objs.size] 0))
  have f₃ := f₂.keep (G' := G.add _ (sq "tuple" #[.ref s.heap.objs.size,.ref (s.heap.push (sq "list" #[] 0)).objs.size] 0)) (σ' := _) (s' := { s with heap := ((s.heap.push (sq "list" #[] 0)).push (sq "list" #[] 0)).push (sq "tuple" #[.ref s.heap.objs.size,.ref (s.heap.push (sq "list" #[] 0)).objs.size] 0) }) (VLe.add r₂.none_size _) (fun b o ho e => Heap.get?_push_of_some _ e) fun b ho => ⟨by
    unfold View.add
    split
    · rename_i e
      obtain ⟨o',e'⟩ := f₂.alive b ho
      rw [e] at e'
      have := Heap.lt_size e'
      exact absurd this (Nat.lt_irrefl _)
    · exact (f₂.own b ho).1,(f₂.own b ho).2⟩
  refine store_slot r₃ f₃ hK hx (.tup (View.add_self _ _ _) (by simp [sizeLine]) (.cons (.ref _) (.cons (.ref _) .nil))) fun s'' hk st4 r'' f'' => ⟨_,_,.next _,st₃.trans st4,r'',⟨rfl,f''⟩,h _ _ (fun m => nS_of r (heap_none _) m) (fun m hm => ?_) hne⟩
  exact nS_of r₁ (heap_none _) m (.tail _ hm)
end
noncomputable def stoW (σ:Store) (o i d:V) (K:Store → Prop) : Prop :=
  match o with
  | .ref a => (match σ.lookup a,i with
    | some (.l xs),.int j => 0 ≤ j ∧ j.toNat < xs.length ∧ K (σ.put a (.l (xs.set j.toNat d)))
    | some (.d kvs),.str cs => kvs.length ≤ 1000 ∧ K (σ.put a (.d (upd kvs cs d)))
    | _,_ => False)
  | _ => False
theorem stoW_inv {σ:Store} {o i d:V} {K:Store → Prop} (h:stoW σ o i d K) : ∃ a,o = .ref a ∧ ((∃ xs j,i = .int j ∧ σ.lookup a = some (.l xs) ∧ 0 ≤ j ∧ j.toNat < xs.length ∧ K (σ.put a (.l (xs.set j.toNat d)))) ∨ ∃ kvs cs,i = .str cs ∧ σ.lookup a = some (.d kvs) ∧ kvs.length ≤ 1000 ∧ K (σ.put a (.d (upd kvs cs d)))) := by
  cases o with
  | ref a =>
    refine ⟨a,rfl,?_⟩
    have h : (match (generalizing := false) σ.lookup a,i with
      | some (.l xs),.int j => 0 ≤ j ∧ j.toNat < xs.length ∧ K (σ.put a (.l (xs.set j.toNat d)))
      | some (.d kvs),.str cs => kvs.length ≤ 1000 ∧ K (σ.put a (.d (upd kvs cs d)))
      | _,_ => False) := h
    cases e : σ.lookup a with
    | none => rw [e] at h; exact h.elim
    | some m =>
      rw [e] at h
      cases m with
      | l xs => cases i with
        | int j => exact .inl ⟨xs,j,rfl,rfl,h⟩
        | _ => exact h.elim
      | d kvs => cases i with
        | str cs => exact .inr ⟨kvs,cs,rfl,rfl,h⟩
        | _ => exact h.elim
      | tab _ _ => exact h.elim
  | _ => exact h.elim
theorem stoW_l {σ:Store} {a:Addr} {j:Int} {d:V} {K:Store → Prop} {xs:List V} (e:σ.lookup a = some (.l xs)) (h:0 ≤ j ∧ j.toNat < xs.length ∧ K (σ.put a (.l (xs.set j.toNat d)))) : stoW σ (.ref a) (.int j) d K := by
  show (match σ.lookup a,V.int j with | some (.l xs),.int j => 0 ≤ j ∧ j.toNat < xs.length ∧ K (σ.put a (.l (xs.set j.toNat d))) | some (.d kvs),.str cs => kvs.length ≤ 1000 ∧ K (σ.put a (.d (upd kvs cs d))) | _,_ => False)
  rw [e]
  exact h
theorem stoW_d {σ:Store} {a:Addr} {cs:List Nat} {d:V} {K:Store → Prop} {kvs:List (List Nat × V)} (e:σ.lookup a = some (.d kvs)) (h:kvs.length ≤ 1000 ∧ K (σ.put a (.d (upd kvs cs d)))) : stoW σ (.ref a) (.str cs) d K := by
  show (match σ.lookup a,V.str cs with | some (.l xs),.int j => 0 ≤ j ∧ j.toNat < xs.length ∧ K (σ.put a (.l (xs.set j.toNat d))) | some (.d kvs),.str cs => kvs.length ≤ 1000 ∧ K (σ.put a (.d (upd kvs cs d))) | _,_ => False)
  rw [e]
  exact h
theorem stoW_mono {σ:Store} {o i d:V} {K K':Store → Prop} (h:stoW σ o i d K) (q:∀ σ',K σ' → K' σ') : stoW σ o i d K' := by
  obtain ⟨a,rfl,h'⟩ := stoW_inv h
  rcases h' with ⟨xs,j,rfl,e,h⟩ | ⟨kvs,cs,rfl,e,h⟩
  · exact stoW_l e ⟨h.1,h.2.1,q _ h.2.2⟩
  · exact stoW_d e ⟨h.1,q _ h.2⟩
theorem le_line {n:Nat} (h:n ≤ 1000) : n ≤ sizeLine := Nat.le_trans h (by decide)
section
variable {prog:Program} {w:World} {A:Around} {E:Value → Shared → Prop} {s:Shared}
theorem setItem_list {l:Addr} {items:Array Value} {n:Nat} {k:Int} {t:Tok} {v:Value} {Q:Unit → Shared → Prop} (hl:s.heap.get? l = some (sq "list" items n))
    (h0:0 ≤ k) (hfit:k < 2 ^ 63) (hn:k < items.size)
    (hQ:∀ h' n',h'.get? l = some (sq "list" (items.setIfInBounds k.toNat v) n') → Heap.SameBut l s.heap h' → Q () { s with heap := h' }) :
    wpAny (model prog w) A (setItem (.ref l) (.int k t) v) Q E s := by
  have hl' : s.heap.IsList l items := ⟨_,hl,rfl,n,rfl⟩
  unfold setItem
  try with_reducible refine wpAny_holding ?_
  first | refine wpAny_bind (wpAny_pure ?_) | skip
  refine wpAny_bind (wpAny_sequenceKey hl'.typeIs (by decide) ?_)
  refine wpAny_bind (wpAny_callSpecial?_slot (name := Str.ofString "__setitem__") hl'.typeIs slot_list_setitem
    (wpAny_call_entry slot_list_setitem hl'.typeIs entry_list_setitem ?_ (args_list_setitem _ _ _)))
  show wpAny _ _ (Builtin.List.listSubscript? (.int k t) >>= _) _ _ s
  refine wpAny_bind (wpAny_listSubscript_int (fitsIndex_of h0 hfit) ?_)
  clear hfit
  obtain ⟨j,rfl⟩ := Int.eq_ofNat_of_zero_le h0
  have hj : j < items.size := by omega
  have hx' : items[j]? = some items[j] := Array.getElem?_eq_getElem hj
  show wpAny _ _ ((seqItemAt l j >>= fun r => pure (r.map (j,·))) >>= _) _ _ s
  refine wpAny_bind (wpAny_bind (wpAny_seqItemAt hl rfl (wpAny_pure ?_)))
  rw [hx']
  show wpAny _ _ (setSeqItemAt l j v >>= _) _ _ s
  have hm : ∃ n',Obj.mapSeq (·.setIfInBounds j v) (sq "list" items n) = sq "list" (items.setIfInBounds j v) n' := ⟨_,rfl⟩
  obtain ⟨n',hm⟩ := hm
  have hfin : (s.heap.update l (Obj.mapSeq (·.setIfInBounds j v))).get? l = some (sq "list" (items.setIfInBounds j v) n') := by
    rw [Heap.get?_update_self _ hl (by rw [hm]; rfl),hm]
  refine wpAny_bind (wpAny_setSeqItemAt hl rfl ?_)
  first
    | exact wpAny_bind (wpAny_pure (wpAny_pure ⟨.none,rfl,wpAny_pure (hQ _ n' hfin (Heap.SameBut.update ..))⟩))
    | exact wpAny_pure ⟨.none,rfl,wpAny_pure (hQ _ n' hfin (Heap.SameBut.update ..))⟩
end
section
variable {B:B0} {k:Nat} {c:Cx} {σ:Store} {L:Lc} {Q:Out → Store → Prop}
theorem ST_sto {o i v:Expr} {p pos:Pos} {rest:List Stmt} (hp:plainVal v = true) (h:EV B k c σ L v fun d => EV B k c σ L o fun a => EV B k c σ L i fun j => stoW σ a j d fun σ' => ST B k c σ' L rest Q) : ST B k c σ L (.Assign [.Subscript o i p] v pos :: rest) Q := by
  refine ST_cons fun A E s G Kp env b r f hK => wpAny_Assign_Subscript (EV.run h b r f fun v₁ s₁ G₁ d st r₁ f₁ rv q => ?_) (swaps_plain hp)
  refine EV.run q b r₁ f₁ fun v₂ s₂ G₂ a st₂ r₂ f₂ ra q₂ => ?_
  refine EV.run q₂ b r₂ f₂ fun v₃ s₃ G₃ j st₃ r₃ f₃ rj q₃ => ?_
  have rd := (rv.mono st₂.le).mono st₃.le
  have stt := (st.trans st₂).trans st₃
  obtain ⟨ad,rfl,q₅⟩ := stoW_inv q₃
  rw [ra.inv]
  rcases q₅ with ⟨xs,jj,rfl,e,h0,h1,q₄⟩ | ⟨kvs,cs,rfl,e,h1,q₄⟩
  · obtain ⟨u,ej⟩ := rj.inv
    rw [ej]
    have hm := mem_of_lookup e
    obtain ⟨_,_,ob,ho,vs,n,eo,z,l⟩ := r₃.sto.at_ _ _ hm
    rw [eo] at ho
    rw [← l.size] at h1
    refine setItem_list ho h0 (line_lt h0 h1 z).2 (toNat_lt h0 h1) fun h' n' hg hs => ?_
    have hk : ∀ b o,b ≠ ad → s₃.heap.get? b = some o → h'.get? b = some o := fun b o hb e => (hs.2 b hb).trans e
    refine ⟨G₃,_,.next L,stt.trans (Step.mut (s' := { s₃ with heap := h' }) hk hg rfl rfl),r₃.mut (mo' := .l (xs.set jj.toNat d)) hm hk hg ⟨_,n',rfl,by rw [Array.size_setIfInBounds]; exact z,?_⟩,⟨rfl,f₃.mut hm hk⟩,q₄⟩
    rw [Array.toList_setIfInBounds]
    exact l.set rd _
  · obtain ⟨xx,t,ej,e2⟩ := rj.inv
    rw [ej]
    rw [← e2] at q₄
    have hm := mem_of_lookup e
    obtain ⟨hG,hsys,ob,ho,kvs',di,hRD⟩ := r₃.sto.at_ _ _ hm
    have hRD : RepD B.prog B.w G₃ kvs' kvs := hRD
    refine wpAny_setItem_pairs (strKind_is B.prog B.w xx t) (Heap.dictOf_iff.mpr ⟨_,ho,di⟩) (fun h' hD' hs => ?_) (by rw [hRD.length,show sizeLine = 2 ^ 24 from rfl]; omega)
    obtain ⟨o',ho',di'⟩ := Heap.dictOf_iff.mp hD'
    have hk : ∀ b o,b ≠ ad → s₃.heap.get? b = some o → h'.get? b = some o := fun b o hb e => (hs.2 b hb).trans e
    exact ⟨G₃,_,.next L,stt.trans (Step.mut (s' := { s₃ with heap := h',toks := s₃.toks + 1 }) hk ho' rfl rfl),r₃.mut (mo' := .d (upd kvs xx.cps.toList d)) hm hk ho' ⟨_,di',hRD.stored xx rd⟩,⟨rfl,f₃.mut hm hk⟩,q₄⟩
theorem ST_app {o x:Expr} {ap cp pos:Pos} {rest:List Stmt} (hn:nullary o = false) (hl:(ap.endLine == cp.line) = true) (hs:notStar x = true)
    (h:EV B k c σ L o fun a => ∃ ad xs,a = .ref ad ∧ σ.lookup ad = some (.l xs) ∧ EV B k c σ L x fun d => xs.length ≤ 1000 ∧ ST B k c (σ.put ad (.l (xs ++ [d]))) L rest Q) :
    ST B k c σ L (.Expr (.Call (.Attribute o (nm "append") ap) [x] [] cp) pos :: rest) Q := by
  refine ST_cons fun A E s G Kp env b r f hK => wpAny_Expr ?_ (by unfold interactive; rw [f.st.scope,f.st.kind]; rfl) rfl
  have hst : starEach [x] env = [(false,eval x env)] := by rw [starEach_cons hs]; rfl
  refine wpAny_Call_method (T := "list") (id := "list.append") (base_plain hn) (by rw [hst]; rfl) hl F.plainAttrs_list F.slot_list_append F.type_list_append ?_
  refine EV.run h b r f fun v₁ s₁ G₁ a st r₁ f₁ rv q => ?_
  obtain ⟨ad,xs,rfl,e,q⟩ := q
  rw [rv.inv]
  have hm := mem_of_lookup e
  obtain ⟨_,_,ob,ho,vs,n,eo,z,l⟩ := r₁.sto.at_ _ _ hm
  rw [eo] at ho
  refine ⟨⟨_,ho,rfl⟩,fun a ha => by cases ha; exact ⟨_,ho,rfl⟩,?_⟩
  have hev : EVs B k c σ L [x] fun ds => ∃ d,ds = [d] ∧ xs.length ≤ 1000 ∧ ST B k c (σ.put ad (.l (xs ++ [d]))) L rest Q := EVs_cons hs (q.mono fun d hd => EVs_nil ⟨d,rfl,hd⟩)
  refine callWith_builtin (plainArgs (e := x) (fun y hy => by rw [List.mem_singleton.mp hy]; exact hs)) (evalArgs_of hs hev b r₁.max f₁.toX fun us s₂ G₂ ds st₂ r₂' rl q0 => ?_)
  obtain ⟨d,e3,hz,q₂⟩ := q0
  have r₂ := r₁.back r₂'
  have f₂ := f₁.step st₂ r₂'
  rw [e3] at rl
  obtain ⟨u,eu,ru⟩ := rl.inv1
  rw [eu]
  obtain ⟨_,_,ob,ho,vs,n,eo,z,l⟩ := r₂.sto.at_ _ _ hm
  rw [eo] at ho
  refine wpAny_list_append_plain ⟨n,ho⟩ (fun h' hpl hsb => ?_) z
  obtain ⟨n',hg⟩ := hpl
  have hk : ∀ b o,b ≠ ad → s₂.heap.get? b = some o → h'.get? b = some o := fun b o hb e => (hsb.2 b hb).trans e
  refine ⟨G₂,_,.next L,(st.trans st₂).trans (Step.mut (s' := { s₂ with heap := h' }) hk hg rfl rfl),r₂.mut (mo' := .l (xs ++ [d])) hm hk hg ⟨_,n',rfl,?_,?_⟩,⟨rfl,f₂.mut hm hk⟩,q₂⟩
  · rw [Array.size_push,l.size]; exact Nat.le_trans (Nat.succ_le_succ hz) (by decide)
  · rw [Array.toList_push]
    exact l.append (.cons ru .nil)
theorem callM_run (hB:B.OK) {R:V → Store → Prop} {fx:Str} {fi:Nat} {e:Expr} {es:List Expr} {p pos:Pos} (hg:isGlob c fx = true) (hf:B.fns[fi]? = some fx) (hs:notStar e = true)
    (h:EVs B k c σ L (e :: es) fun vs => CallM B k fi vs σ R) {A:Around} {E:Value → Shared → Prop} {s:Shared} {G:View} {Kp:Heap} {env:Env} {Q':Value → Shared → Prop} (b:Bud k A) (r:Rel B Kp σ G s) (f:FRs B c env L G σ s) (hK:∀ a,Own env a → Kp.get? a = none)
    (hQ:∀ v s' G' σ' d,Step G G' s s' → Rel B Kp σ' G' s' → FRs B c env L G' σ' s' → B.R G' v d → R d σ' → Q' v s') : wpAny B.M A (eval (.Call (.Name fx p) (e :: es) [] pos) env) Q' E s := by
  obtain ⟨fa,o,fd,h1,h2,h3⟩ := hB.fn fi fx hf
  refine wpAny_Call_NameR (name_global hB hg r.max f.toX h1 ?_)
  refine callWith_function (o := o) (fd := fd) (evalArgs_of hs h b r.max f.toX fun vs s₁ G₁ ds st r₁' rl hc => ⟨⟨r₁'.keeps _ _ h2,h3⟩,?_⟩)
  have r₁ := r.back r₁'
  have f₁ := f.step st r₁'
  refine ResM.run (hc A E s₁ G₁ (maxK σ s₁.heap) vs fx fa b r₁.max rl hf h1) fun u s₂ G₂ σ₂ d a1 a2 a3 a4 => ?_
  exact hQ u s₂ G₂ σ₂ d (st.trans a1) (Rel.weaken r₁.stays a2) (f₁.step a1 a2) a3 a4
theorem ST_asgC (hB:B.OK) {x:Str} {i:Nat} {fx:Str} {fi:Nat} {e:Expr} {es:List Expr} {p q cp pos:Pos} {rest:List Stmt} (hx:isLocal c x = some i) (hg:isGlob c fx = true) (hf:B.fns[fi]? = some fx) (hs:notStar e = true)
    (h:EVs B k c σ L (e :: es) fun vs => CallM B k fi vs σ fun d σ' => ST B k c σ' (L.set i (some d)) rest Q) : ST B k c σ L (.Assign [.Name x p] (.Call (.Name fx q) (e :: es) [] cp) pos :: rest) Q := by
  refine ST_cons fun A E s G Kp env b r f hK => wpAny_Assign_Name (callM_run hB hg hf hs h b r f hK fun v s' G' σ' d st r' f' rv q => ?_) rfl
  exact store_slot r' f' hK hx rv fun s'' hk st2 r'' f'' => ⟨G',σ',.next _,st.trans st2,r'',⟨rfl,f''⟩,q⟩
theorem ST_unpC (hB:B.OK) {ts:List Expr} {xs:List Str} {is:List Nat} {n:Nat} {fx:Str} {fi:Nat} {e:Expr} {es:List Expr} {p q cp pos:Pos} {rest:List Stmt} (hx:tgtNames ts = some xs) (hi:xs.map (isLocal c) = is.map some) (hg:isGlob c fx = true) (hf:B.fns[fi]? = some fx) (hs:notStar e = true)
    (h:EVs B k c σ L (e :: es) fun vs => CallM B k fi vs σ fun d σ' => ∃ ds,d = .tup ds ∧ ds.length = is.length ∧ ST B k c σ' (setAll L is ds) rest Q) : ST B k c σ L (.Assign [.Tuple ts n p] (.Call (.Name fx q) (e :: es) [] cp) pos :: rest) Q := by
  refine ST_cons fun A E s G Kp env b r f hK => wpAny_Assign_stores (callM_run hB hg hf hs h b r f hK fun v s' G' σ' d st r' f' rv q => ?_) rfl rfl
  obtain ⟨ds,rfl,hl,q⟩ := q
  exact unpack_names (n := n) b.2.2 r' f' hK hx hi rv hl fun s'' hk st2 r'' f'' => ⟨G',σ',.next _,st.trans st2,r'',⟨rfl,f''⟩,q⟩
end
theorem bindL_notin (kd:Str → Option NameKind) (x:Str) (l:List (Str × Value)) : ∀ (m:Str → Option Value),x ∉ l.map (·.1) → bindL kd l m x = m x := by
  induction l with
  | nil => exact fun m _ => rfl
  | cons p r ih =>
    intro m h
    have h := not_or.mp fun q => h (List.mem_cons.mpr q)
    unfold bindL
    rw [ih _ h.2]
    split
    · exact if_neg h.1
    · rfl
theorem bindC_notin (kd:Str → Option NameKind) (x:Str) (l:List (Str × Value)) : ∀ (m:Str → Option Value),x ∉ l.map (·.1) → bindC kd l m x = m x := by
  induction l with
  | nil => exact fun m _ => rfl
  | cons p r ih =>
    intro m h
    have h := not_or.mp fun q => h (List.mem_cons.mpr q)
    unfold bindC
    rw [ih _ h.2]
    split
    · rfl
    · exact if_neg h.1
theorem bindL_get (kd:Str → Option NameKind) (x:Str) (v:Value) (hk:kd x = some .local) (l:List (Str × Value)) : ∀ (m:Str → Option Value),(l.map (·.1)).Nodup → (x,v) ∈ l → bindL kd l m x = some v := by
  induction l with
  | nil => exact fun m _ h => nomatch h
  | cons p r ih =>
    intro m hn h
    obtain ⟨h1,h2⟩ := List.nodup_cons.mp hn
    rcases List.mem_cons.mp h with e | h
    · rw [← e] at h1 ⊢
      unfold bindL
      rw [bindL_notin kd x r _ h1,if_pos hk]
      exact if_pos rfl
    · exact ih _ h2 h
theorem bindC_get (kd:Str → Option NameKind) (x:Str) (v:Value) (hk:kd x ≠ some .local) (l:List (Str × Value)) : ∀ (m:Str → Option Value),(l.map (·.1)).Nodup → (x,v) ∈ l → bindC kd l m x = some v := by
  induction l with
  | nil => exact fun m _ h => nomatch h
  | cons p r ih =>
    intro m hn h
    obtain ⟨h1,h2⟩ := List.nodup_cons.mp hn
    rcases List.mem_cons.mp h with e | h
    · rw [← e] at h1 ⊢
      unfold bindC
      rw [bindC_notin kd x r _ h1,if_neg hk]
      exact if_pos rfl
    · exact ih _ h2 h
theorem setAll_get : ∀ (is:List Nat) (ds:List V) (L:Lc) (i:Nat) (d:V),(setAll L is ds)[i]? = some (some d) → (∃ j : Nat,is[j]? = some i ∧ ds[j]? = some d) ∨ L[i]? = some (some d)
  | [],ds,L,i,d,h => by
    have : setAll L [] ds = L := by cases ds <;> rfl
    rw [this] at h
    exact .inr h
  | j :: is,[],L,i,d,h => .inr h
  | j :: is,e :: ds,L,i,d,h => by
    rcases setAll_get is ds (L.set j (some e)) i d h with ⟨q,h1,h2⟩ | h
    · exact .inl ⟨q + 1,by simpa using h1,by simpa using h2⟩
    · rcases set_get h with ⟨e1,e2⟩ | ⟨e1,e2⟩
      · exact .inl ⟨0,by simp [e1],by simp [e2]⟩
      · exact .inr e2
theorem cellsFrom_acc : ∀ (names:List (Str × NameKind)) (n:Nat) (acc:List (Str × Addr)) (x:Str),(x,NameKind.cell) ∈ names ∨ x ∈ acc.map (·.1) → x ∈ (cellsFrom n names acc).map (·.1)
  | [],n,acc,x,h => by
    rcases h with h | h
    · cases h
    · exact h
  | (y,kd) :: r,n,acc,x,h => by
    unfold cellsFrom
    split
    · rename_i hk
      refine cellsFrom_acc r (n + 1) _ x ?_
      rcases h with h | h
      · rcases List.mem_cons.mp h with e | h
        · cases e; exact .inr (.head _)
        · exact .inl h
      · exact .inr (.tail _ h)
    · rename_i hk
      refine cellsFrom_acc r n _ x ?_
      rcases h with h | h
      · rcases List.mem_cons.mp h with e | h
        · cases e; simp at hk
        · exact .inl h
      · exact .inr h
theorem lookup_some_of_key {α:Type} : ∀ (l:List (Str × α)) (x:Str),x ∈ l.map (·.1) → (l.lookup x).isSome = true
  | (y,a) :: r,x,h => by
    by_cases e : x = y
    · subst e; simp
    · have e' : (x == y) = false := beq_eq_false_iff_ne.mpr e
      simp only [List.lookup_cons,e']
      rcases List.mem_cons.mp h with q | q
      · exact absurd q e
      · exact lookup_some_of_key r x q
noncomputable def FnAt (B:B0) (x:Str) (params:Arguments) (body:List Stmt) (scope:Scope) (gen:Bool) : Prop :=
  ∃ a o pm code doc,B.mg x = some (.ref a) ∧ B.base.get? a = some o ∧ o.data = .func (docDef x params body scope pm code doc) ∧ B.base.CodeRec code x ∧ (gen = true → code = .ref B.tc)
structure FnOK (c:Cx) (x:Str) (params:Arguments) (body:List Stmt) (scope:Scope) (ps:List Str) (is:List Nat) : Prop where
  sco : c.scope = scope
  kind : scope.kind = .function
  sl : c.sc = slotsOf scope.names 0
  nx : c.nx = c.sc.length
  nofree : ∀ x,scope.names.lookup x ≠ some .free
  co : scope.isCoroutine = false
  gen : scope.isGenerator = false
  cells : ((cellsFrom 0 scope.names []).map (·.1)).Nodup
  slots : ps.map (isLocal c) = is.map some
  nodup : ps.Nodup
  bind : ∀ vals : List Value,vals.length = ps.length → ∀ pm code doc,bindArgs (docDef x params body scope pm code doc) ⟨vals,[]⟩ = pure (ps.zip vals)
noncomputable def RetQ (Q:V → Store → Prop) : Out → Store → Prop
  | .ret d,σ => Q d σ
  | .next _,σ => Q .none σ
  | .brk _,_ => False
section
variable {B:B0} {k:Nat} {c:Cx} {σ:Store}
theorem CallM_of_body (hB:B.OK) {f:Nat} {x:Str} {params:Arguments} {body:List Stmt} {scope:Scope} {ps:List Str} {is:List Nat} {args:List V} {Q:V → Store → Prop} (hf:B.fns[f]? = some x) (hfn:FnAt B x params body scope c.gen) (ok:FnOK c x params body scope ps is) (hlen:args.length = ps.length)
    (h:ST B k c σ (setAll (List.replicate c.nx none) is args) body (RetQ Q)) : CallM B (k + 1) f args σ Q := by
  intro A E s G Kp vals x' fa b r rl hfx hmg
  rw [hf] at hfx
  cases hfx
  obtain ⟨a,o,pm,code,doc,h1,h2,h3,h4,h5⟩ := hfn
  rw [h1] at hmg
  cases hmg
  have hvl : vals.length = ps.length := rl.length.trans hlen
  have hsl : ∀ p ∈ ps,∃ i,isLocal c p = some i := fun p hp => by
    obtain ⟨j,hj,e⟩ := List.getElem_of_mem hp
    have q := congrArg (fun l => l[j]?) ok.slots
    simp only [List.getElem?_map,List.getElem?_eq_getElem hj,Option.map_some,e] at q
    cases e2 : is[j]? with
    | none => rw [e2] at q; cases q
    | some i => rw [e2] at q; simp at q; exact ⟨i,q⟩
  have hkd : ∀ p ∈ ps,scope.names.lookup p = some .local ∨ scope.names.lookup p = some .cell := fun p hp => by
    obtain ⟨i,hi⟩ := hsl p hp
    have := (isLocal_inv hi).1
    rw [ok.sco] at this
    exact this.imp_right fun q => q.resolve_right (ok.nofree p)
  have hbk : (ps.zip vals).map (·.1) = ps := List.map_fst_zip (by omega)
  have hmem : ∀ q ∈ ps.zip vals,q.1 ∈ ps := fun q hq => by rw [← hbk]; exact List.mem_map_of_mem hq
  refine wpAny_call (codeAny_call_cells (fd := docDef x params body scope pm code doc) (body := body) (binds := ps.zip vals) ?_ (r.keeps _ _ h2) h3 (hB.nolimit.keeps r.keeps) (h4.keeps r.keeps) rfl (ok.bind vals hvl pm code doc) rfl (fun q hq => ?_) (fun s₁ ic => ?_) ok.co ok.gen ok.kind)
  · have := b.1
    have hr : recursionLimit = 1000 := rfl
    omega
  · rcases hkd q.1 (hmem q hq) with e | e
    · exact .inl e
    · exact .inr ⟨e,lookup_some_of_key _ _ (cellsFrom_acc _ _ _ _ (.inl (mem_of_lookup' e)))⟩
  · generalize henv : callEnvC (docDef x params body scope pm code doc) s.heap.objs.size fa = env at ic ⊢
    have he1 : env.scope = scope := by rw [← henv]; rfl
    have he2 : env.locals = s.heap.objs.size := by rw [← henv]; rfl
    have he3 : env.globals = mainGlobals := by rw [← henv]; rfl
    have he4 : env.builtins = builtinsNs := by rw [← henv]; rfl
    have he6 : env.code = code := by rw [← henv]; rfl
    have he5 : env.cells = cellsFrom (s.heap.objs.size + 1) scope.names [] := by rw [← henv]; rfl
    have hkind : ∀ y,env.kindOf y = scope.names.lookup y := fun y => by rw [show env.kindOf y = env.scope.names.lookup y from rfl,he1]
    have hcn : (env.cells.map (·.1)).Nodup := by
      rw [he5]
      exact cellsFrom_names scope.names 0 (s.heap.objs.size + 1) [] [] rfl ▸ ok.cells
    have hclook : ∀ n a',(n,a') ∈ env.cells → env.cells.lookup n = some a' := fun n a' hm => lookup_of_mem_nodup hcn hm
    have hkeep := ic.toInCall.keep
    have r₁ : Rel B Kp σ G s₁ := r.grow hkeep rfl
    obtain ⟨hh,tk,hs₁⟩ := ic.toInCall.same
    have st₁ : Step G G s s₁ := Step.grow G (fun a o e => ⟨o,hkeep a o e⟩) (by rw [hs₁]) (by rw [hs₁])
    have hownge : ∀ a',Own env a' → s.heap.get? a' = none := fun a' ho => by
      have hle : s.heap.objs.size ≤ a' := by
        rcases ho with rfl | ⟨n,hm⟩
        · exact Nat.le_of_eq he2.symm
        · have := ic.above n a' hm
          rw [he2] at this
          exact Nat.le_of_lt this
      cases q : s.heap.get? a' with
      | none => rfl
      | some o' => exact absurd (Heap.lt_size q) (Nat.not_lt.mpr hle)
    have hslot : ∀ (y:Str) (i:Nat) (d:V),scope.names.lookup y = some .local ∨ scope.names.lookup y = some .cell → c.sc.lookup y = some i → (setAll (List.replicate c.nx none) is args)[i]? = some (some d) → ∃ v,(y,v) ∈ ps.zip vals ∧ B.R G v d := fun y i d hy hi hd => by
      rcases setAll_get is args _ i d hd with ⟨j,e1,e2⟩ | e
      · obtain ⟨v,e3,rv⟩ := rl.get e2
        have q := congrArg (fun l => l[j]?) ok.slots
        simp only [List.getElem?_map,e1,Option.map_some] at q
        cases e4 : ps[j]? with
        | none => rw [e4] at q; cases q
        | some p =>
          rw [e4] at q
          simp only [Option.map_some,Option.some.injEq] at q
          have hp := (isLocal_inv q).2
          have hyp : y = p := by
            rw [ok.sl] at hi hp
            exact slotsOf_inj _ _ _ _ _ hi hp
          subst hyp
          refine ⟨v,?_,rv⟩
          have hz : (ps.zip vals)[j]? = some (y,v) := by
            rw [List.getElem?_zip_eq_some]
            exact ⟨e4,e3⟩
          exact List.mem_of_getElem? hz
      · rw [List.getElem?_replicate] at e
        split at e <;> cases e
    have f₁ : FRs B c env (setAll (List.replicate c.nx none) is args) G σ s₁ := by
      refine ⟨⟨by rw [he1,ok.sco],by rw [ok.sco]; exact ok.kind,by rw [ok.sco]; exact ok.sl,ok.nx,fun y => by rw [ok.sco]; exact ok.nofree y,he3,he4,ic.apart,ic.above⟩,fun a' ho => ⟨?_,fun m => nS_of r (hownge a' ho) m⟩,fun a' ho => ?_,?_,fun y hy => ?_,fun h => by rw [he6,h5 h]⟩
      · exact r.noG (hownge a' ho)
      · rcases ho with rfl | ⟨n,hm⟩
        · obtain ⟨o',_,_,e,_⟩ := ic.toInCall.ns
          exact ⟨o',e⟩
        · obtain ⟨o',e,_⟩ := ic.cell n a' (hclook n a' hm)
          exact ⟨o',e⟩
      · refine ⟨_,ic.toInCall.ns,fun y i d hy hi hd => ?_⟩
        rw [ok.sco] at hy
        obtain ⟨v,hm,rv⟩ := hslot y i d (.inl hy) hi hd
        exact ⟨v,bindL_get _ y v ((hkind y).trans hy) _ _ (by rw [hbk]; exact ok.nodup) hm,rv⟩
      · rw [ok.sco] at hy
        have hsome : (env.cells.lookup y).isSome = true := by
          rw [he5]
          exact lookup_some_of_key _ _ (cellsFrom_acc _ _ _ _ (.inl (mem_of_lookup' hy)))
        obtain ⟨a',ha'⟩ := Option.isSome_iff_exists.mp hsome
        refine ⟨a',_,ha',ic.cell y a' ha',fun i d hi hd => ?_⟩
        obtain ⟨v,hm,rv⟩ := hslot y i d (.inr hy) hi hd
        exact ⟨v,bindC_get _ y v (by rw [hkind y,hy]; simp) _ _ (by rw [hbk]; exact ok.nodup) hm,rv⟩
    have b₁ : Bud k (A.deeper env) := by
      obtain ⟨q1,q2,q3⟩ := b
      refine ⟨?_,?_,q3⟩
      · show A.depth + 1 + k ≤ 999
        omega
      · show A.units + 3 + 8 * k + 5000 ≤ 9900
        omega
    refine ResS.run (h (A.deeper env) _ s₁ G Kp env b₁ r₁ f₁ fun a' ho => nK_of r (hownge a' ho)) fun fl s₂ G₂ σ₂ oo st₂ r₂ fo qo => ?_
    cases oo with
    | next L' =>
      obtain ⟨rfl,_⟩ := fo
      exact ⟨G₂,σ₂,.none,st₁.trans st₂,r₂,.none,qo⟩
    | brk L' => exact qo.elim
    | ret d =>
      obtain ⟨v,rfl,rv⟩ := fo
      exact ⟨G₂,σ₂,d,st₁.trans st₂,r₂,rv,qo⟩
end
noncomputable def frz1 (σ:Store) : V → V
  | .ref a => (match σ.lookup a with
    | some (.l xs) => .lst xs
    | some (.d kvs) => .sd kvs
    | _ => .ref a)
  | d => d
noncomputable def frzV (σ:Store) : V → V
  | .ref a => frz1 σ (.ref a)
  | .tup ds => .tup (ds.map (frz1 σ))
  | d => d
noncomputable def View.addAll (G:View) (τ:Store) (h:Heap) : View := fun a => if (τ.lookup a).isSome then h.get? a else G a
noncomputable def View.sub (G:View) (τ:Store) : View := fun a => if (τ.lookup a).isSome then none else G a
theorem lookup_mem {τ:Store} {a:Addr} {m:MO} (h:(a,m) ∈ τ) : (τ.lookup a).isSome = true := by
  induction τ with
  | nil => cases h
  | cons p r ih =>
    obtain ⟨b,n⟩ := p
    by_cases e : a = b
    · subst e; simp
    · have e' : (a == b) = false := beq_eq_false_iff_ne.mpr e
      simp only [List.lookup_cons,e']
      rcases List.mem_cons.mp h with q | q
      · cases q; exact absurd rfl e
      · exact ih q
theorem some_lookup {τ:Store} {a:Addr} (h:(τ.lookup a).isSome = true) : ∃ m,(a,m) ∈ τ := by
  obtain ⟨m,e⟩ := Option.isSome_iff_exists.mp h
  exact ⟨m,mem_of_lookup e⟩
section
variable {B:B0} {k:Nat} {c:Cx} {σ₀ τ σ:Store} {Kp:Heap} {G:View} {s:Shared} {L:Lc}
theorem le_addAll (r:Rel B Kp σ₀ G s) (h1:∀ p ∈ τ,p ∈ σ₀) : VLe G (G.addAll τ s.heap) := fun a o e => by
  unfold View.addAll
  split
  · rename_i q
    obtain ⟨m,hm⟩ := some_lookup q
    exact (r.notG (h1 _ hm) e).elim
  · exact e
theorem Rel.frz (r:Rel B Kp σ₀ G s) (h1:∀ p ∈ τ,p ∈ σ₀) (h2:∀ p ∈ σ,p ∈ σ₀) (hd:∀ a m,(a,m) ∈ σ → τ.lookup a = none) (hn:(σ.map (·.1)).Nodup) : Rel B Kp σ (G.addAll τ s.heap) s := by
  have le := le_addAll (τ := τ) r h1
  refine ⟨r.bas.trans le,fun a o e => ?_,r.kin,⟨fun a m hm => ?_,hn⟩,fun a m hm => r.hid a m (h2 _ hm)⟩
  · unfold View.addAll at e
    split at e
    · exact e
    · exact r.gin a o e
  · obtain ⟨q1,q2,o,q3,q4⟩ := r.sto.at_ a m (h2 _ hm)
    refine ⟨?_,q2,o,q3,q4.mono le⟩
    unfold View.addAll
    rw [hd a m hm]
    exact q1
theorem frz1_rep (r:Rel B Kp σ₀ G s) (h1:∀ p ∈ τ,p ∈ σ₀) {v:Value} {d:V} (h:B.R G v d) : B.R (G.addAll τ s.heap) v (frz1 τ d) := by
  have le := le_addAll (τ := τ) r h1
  cases d with
  | ref a =>
    rw [h.inv]
    show B.R _ _ (match τ.lookup a with | some (.l xs) => .lst xs | some (.d kvs) => .sd kvs | _ => .ref a)
    cases e : τ.lookup a with
    | none => exact .ref a
    | some m =>
      have hm := mem_of_lookup e
      have hg : ∀ {o},s.heap.get? a = some o → (G.addAll τ s.heap) a = some o := fun q3 => by unfold View.addAll; rw [if_pos (lookup_mem hm)]; exact q3
      cases m with
      | l xs =>
        obtain ⟨_,_,o,q3,vs,n,eo,z,l⟩ := r.sto.at_ _ _ (h1 _ hm)
        rw [eo] at q3
        exact .lst (hg q3) z (l.mono le)
      | d kvs =>
        obtain ⟨_,q2,o,q3,kvs',di,e1,l⟩ := r.sto.at_ _ _ (h1 _ hm)
        exact .sd (hg q3) di (q2.resolve_right fun h => by obtain ⟨_,_,e⟩ := h; cases e) e1 (l.mono le)
      | tab _ _ => exact .ref a
  | _ => exact h.mono le
theorem frzV_rep (r:Rel B Kp σ₀ G s) (h1:∀ p ∈ τ,p ∈ σ₀) {v:Value} {d:V} (h:B.R G v d) : B.R (G.addAll τ s.heap) v (frzV τ d) := by
  have le := le_addAll (τ := τ) r h1
  cases d with
  | ref a => exact frz1_rep r h1 h
  | tup ds =>
    obtain ⟨a,vs,n,e,g,z,l⟩ := h.inv
    rw [e]
    exact .tup (le _ _ g) z (RepL.ind (fun vs ds => RepL B.prog B.w (G.addAll τ s.heap) vs (ds.map (frz1 τ))) .nil (fun _ _ _ _ a _ i => .cons (frz1_rep r h1 a) i) l)
  | _ => exact h.mono le
theorem frzL_rep (r:Rel B Kp σ₀ G s) (h1:∀ p ∈ τ,p ∈ σ₀) {vs:List Value} {ds:List V} (l:B.RL G vs ds) : B.RL (G.addAll τ s.heap) vs (ds.map (frzV τ)) :=
  RepL.ind (fun vs ds => RepL B.prog B.w (G.addAll τ s.heap) vs (ds.map (frzV τ))) .nil (fun _ _ _ _ a _ i => .cons (frzV_rep r h1 a) i) l
theorem CallP_of_frz {f:Nat} {args:List V} {v:V} (h:CallM B k f args σ fun d σ' => ∃ τ,σ' = τ ++ σ ∧ frzV τ d = v) : CallP B k f args σ v := by
  intro A E s G Kp vals x fa b r rl hf hm
  refine ResM.run (h A E s G (maxK σ s.heap) vals x fa b r.max rl hf hm) fun u s' G₁ σ₁ d st r₁ rv q0 => ?_
  obtain ⟨τ,e1,e2⟩ := q0
  subst e1 e2
  have hnd := r₁.sto.nodup
  rw [List.map_append] at hnd
  obtain ⟨n1,n2,n3⟩ := List.nodup_append.mp hnd
  have h1 : ∀ p ∈ τ,p ∈ τ ++ σ := fun p hp => List.mem_append_left _ hp
  have hdis : ∀ a m,(a,m) ∈ σ → τ.lookup a = none := fun a m hm => by
    cases q : τ.lookup a with
    | none => rfl
    | some m' => exact absurd rfl (n3 a (List.mem_map.mpr ⟨_,mem_of_lookup q,rfl⟩) a (List.mem_map.mpr ⟨_,hm,rfl⟩))
  have r₂ := r₁.frz (τ := τ) (σ := σ) h1 (fun p hp => List.mem_append_right _ hp) hdis n2
  refine ⟨_,σ,_,⟨st.le.trans (le_addAll r₁ h1),fun a o e => ?_,st.alive,st.os,st.gens⟩,r.back r₂,frzV_rep r₁ h1 rv,rfl,rfl⟩
  unfold View.addAll at e
  split at e
  · rename_i q
    obtain ⟨m,hm⟩ := some_lookup q
    right
    cases q2 : s.heap.get? a with
    | none => rfl
    | some o' =>
      have := r₁.hid a m (h1 _ hm)
      rw [maxK_get q2 fun m' hm' => by have := hdis a m' hm'; rw [this] at q; cases q] at this
      cases this
  · exact st.new a o e
noncomputable def isAtom : V → Bool
  | .none => true
  | .bool _ => true
  | .int _ => true
  | .str _ => true
  | _ => false
noncomputable def MO.isD : MO → Bool
  | .d _ => true
  | _ => false
noncomputable def safeV (σ:Store) : V → Bool
  | .lst xs => xs.all isAtom && σ.all fun p => p.2.isD
  | d => isAtom d
theorem atom_rep {G G':View} {v:Value} {d:V} (ha:isAtom d = true) (h:B.R G v d) : B.R G' v d := by
  cases d with
  | none => rw [h.inv]; exact .none
  | bool b => rw [h.inv]; exact .bool b
  | int i => obtain ⟨t,e⟩ := h.inv; rw [e]; exact .int _ _
  | str i => obtain ⟨x,t,e,e'⟩ := h.inv; rw [e]; exact .str e'
  | _ => exact noB ha
theorem atoms_rep {G G':View} {vs:List Value} {ds:List V} (ha:ds.all isAtom = true) (l:B.RL G vs ds) : B.RL G' vs ds :=
  RepL.ind (fun vs ds => ds.all isAtom = true → RepL B.prog B.w G' vs ds) (fun _ => .nil) (fun _ _ _ _ a _ i ha => .cons (atom_rep (Bool.and_eq_true_iff.mp ha).1 a) (i (Bool.and_eq_true_iff.mp ha).2)) l ha
theorem CallP.thaw {f:Nat} {args:List V} {v:V} (h:CallP B k f (args.map (frzV σ)) [] v) (hs:safeV σ v = true) : CallP B k f args σ v := by
  intro A E s G Kp vals x fa b r rl hf hm
  have h1 : ∀ p ∈ σ,p ∈ σ := fun _ h => h
  have r₁ : Rel B Kp [] (G.addAll σ s.heap) s := r.frz h1 (fun p hp => by cases hp) (fun a m hm => by cases hm) .nil
  refine ResM.run (h A E s _ Kp vals x fa b r₁ (frzL_rep r h1 rl) hf hm) fun u s' G₁ σ₁ d st r₂ rv q0 => ?_
  obtain ⟨e1,e2⟩ := q0
  subst e1 e2
  have le0 := le_addAll (τ := σ) r h1
  have hnσ : ∀ a o,G a = some o → (σ.lookup a).isSome = false := fun a o e => by
    cases q : (σ.lookup a).isSome with
    | false => rfl
    | true => obtain ⟨m,hm⟩ := some_lookup q; exact (r.notG hm e).elim
  have le1 : VLe G (G₁.sub σ) := fun a o e => by
    unfold View.sub
    rw [hnσ a o e]
    exact st.le a o (le0 a o e)
  have hat : ∀ a m,(a,m) ∈ σ → ∃ o,s.heap.get? a = some o ∧ RepM B.prog B.w G o m ∧ G₁ a = some o := fun a m hm => by
    obtain ⟨_,_,o,q3,q4⟩ := r.sto.at_ a m hm
    refine ⟨o,q3,q4,st.le a o ?_⟩
    unfold View.addAll
    rw [if_pos (lookup_mem hm)]
    exact q3
  refine ⟨G₁.sub σ,σ,d,⟨le1,fun a o e => ?_,st.alive,st.os,st.gens⟩,⟨r.bas.trans le1,fun a o e => ?_,r₂.kin,⟨fun a m hm => ?_,r.sto.nodup⟩,r.hid⟩,?_,rfl,rfl⟩
  · unfold View.sub at e
    split at e
    · cases e
    · rename_i q
      rcases st.new a o e with q' | q'
      · unfold View.addAll at q'
        rw [if_neg q] at q'
        exact .inl q'
      · exact .inr q'
  · unfold View.sub at e
    split at e
    · cases e
    · exact r₂.gin a o e
  · obtain ⟨_,q2,_⟩ := r.sto.at_ a m hm
    obtain ⟨o,p1,p2,p3⟩ := hat a m hm
    refine ⟨?_,q2,o,r₂.gin a o p3,p2.mono le1⟩
    unfold View.sub
    rw [if_pos (lookup_mem hm)]
  · cases d with
    | lst xs =>
      have hs : (xs.all isAtom && σ.all fun p => p.2.isD) = true := hs
      have hs := Bool.and_eq_true_iff.mp hs
      obtain ⟨a,vs,n,e,g,z,l⟩ := rv.inv
      rw [e]
      refine .lst (n := n) ?_ z (atoms_rep hs.1 l)
      unfold View.sub
      split
      · rename_i q
        obtain ⟨m,hm⟩ := some_lookup q
        have hd := List.all_eq_true.mp hs.2 _ hm
        obtain ⟨o,p1,p2,p3⟩ := hat a m hm
        rw [p3] at g
        cases g
        cases m with
        | l _ => cases hd
        | tab _ _ => cases hd
        | d kvs =>
          obtain ⟨kvs',⟨es,ep,ex,_⟩,_⟩ := p2
          exact absurd ex.1 (by simp)
      · exact g
    | none => exact atom_rep hs rv
    | bool _ => exact atom_rep hs rv
    | int _ => exact atom_rep hs rv
    | str _ => exact atom_rep hs rv
    | _ => exact noB hs
end
section
variable {prog:Program} {w:World} {A:Around} {E:Value → Shared → Prop} {s:Shared}
theorem list_no_keys : typeLookup (.type "list") "keys" = pure none := am_miss_of_fast (by kernel_rfl)
theorem keys_miss_list {a:Addr} {xs:Array Value} {k:Nat} {Q:Option Value → Shared → Prop} (hx:s.heap.get? a = some (sq "list" xs k)) (hA:A.handled = none)
    (h:∀ h' tk,(∀ b o,s.heap.get? b = some o → h'.get? b = some o) → Q none { s with heap := h',toks := tk }) :
    wpAny (model prog w) A (getAttr? (.ref a) "keys") Q E s := by
  obtain ⟨hp,g,d,tk,os⟩ := s
  have hT : ∀ tk',(⟨hp,g,d,tk',os⟩ : Shared).TypeIs (.ref a) "list" := fun _ => ⟨_,hx,rfl⟩
  have f1 := sub_AttributeError
  have f3 := F.slot_list_getattribute.lookup
  have f4 := F.slot_list_getattribute.bind (.ref a)
  have f5 := am_list_getattr_none
  unfold getAttr? getAttrBy? getAttrBy
  repeat (any_goals (first | assumption | exact hT _ | ((with_reducible show wpAny _ _ (call (Value.builtin "list.__getattribute__") _ _) _ _ _); refine call_meets F.slot_list_getattribute (hT _) am_entry_list_getattribute (F.args_list_getattribute_2 _ _) (meets_getattribute_miss_list a xs k #[] "keys" _ list_no_keys (by decide +kernel) (by size_fits)) ⟨hx,hA,fun h' tk' e hx' => ?_⟩) | wp_step))
  obtain ⟨t',u',he⟩ := hx'.there
  show wpAny _ _ (getattributeRaised _ _ _ _ _ _ _) _ _ _
  unfold getattributeRaised
  repeat (any_goals (first | assumption | wp_step))
  exact h _ _ hx'.keeps
end
theorem entry_update_loop : entryFor table "dict.update.loop" = some Builtin.«dict.update.loop» := entryFor_of_fast (by kernel_rfl)
theorem plain_update_loop : plainId "dict.update.loop" = true := by decide +kernel
noncomputable def pairOf : V → Option (List Nat × V)
  | .tup [.str k,v] => some (k,v)
  | _ => none
noncomputable def pairsOf : List V → Option (List (List Nat × V))
  | [] => some []
  | x :: xs => match pairOf x,pairsOf xs with
    | some p,some ps => some (p :: ps)
    | _,_ => none
noncomputable def putAll (ds:List (List Nat × V)) (ps:List (List Nat × V)) : List (List Nat × V) := ps.foldl (fun ds p => upd ds p.1 p.2) ds
section
variable {B:B0} {A:Around} {R:Result → Shared → Prop}
theorem pairOf_inv {x:V} {p:List Nat × V} (h:pairOf x = some p) : x = .tup [.str p.1,p.2] := by
  cases x with
  | tup xs => cases xs with
    | nil => exact noS h
    | cons a r => cases a with
      | str k => cases r with
        | nil => exact noS h
        | cons v r => cases r with
          | nil => cases h; rfl
          | cons _ _ => exact noS h
      | _ => exact noS h
  | _ => exact noS h
theorem pairsOf_inv {x:V} {xs:List V} {ps:List (List Nat × V)} (h:pairsOf (x :: xs) = some ps) : ∃ p ps',ps = p :: ps' ∧ pairOf x = some p ∧ pairsOf xs = some ps' := by
  have h : (match pairOf x,pairsOf xs with | some p,some ps => some (p :: ps) | _,_ => none) = some ps := h
  cases e : pairOf x with
  | none => rw [e] at h; exact noS h
  | some p => cases e' : pairsOf xs with
    | none => rw [e,e'] at h; exact noS h
    | some ps' => rw [e,e'] at h; exact ⟨p,ps',(Option.some.inj h).symm,rfl,rfl⟩
theorem update_end {d I l:Addr} {vs:Array Value} {i:Nat} {ii:Int} {t:Tok} {s:Shared} (hA:A.handled = none) (hit:s.heap.IsListIter I l i) (hL:s.heap.IsList l vs) (hi:vs[i]? = none) (h:∀ h' : Heap,(∀ a o,a ≠ I → s.heap.get? a = some o → h'.get? a = some o) → R (.ok (.ret .none)) { s with heap := h' }) :
    codeAny B.M A (.builtin "dict.update.loop" ⟨[.ref d,.ref I,.int ii t,.none],[]⟩) R s := by
  refine codeAny_builtin entry_update_loop ?_
  rw [Around.under_plainId plain_update_loop _]
  show wpAny _ A.in1 (pyNext (.ref I) >>= _) _ _ s
  refine wpAny_bind (wpAny_pyNext_list_end (A := A.in1) hA hit hL hi fun h' he => ?_)
  show wpAny _ A.in1 (Builtin.Dict.addKeywords d [] >>= _) _ _ _
  exact wpAny_bind (wpAny_pure (wpAny_pure (h _ he)))
theorem update_step {d I l T:Addr} {vs us:Array Value} {m i:Nat} {ii:Int} {t tt:Tok} {xs:Str} {v1:Value} {kvs:List (Str × Value)} {s:Shared} (hit:s.heap.IsListIter I l i) (hL:s.heap.IsList l vs) (hget:vs[i]? = some (.ref T)) (hT:s.heap.get? T = some (sq "tuple" us m)) (hTI:T ≠ I) (hus:us.toList = [.str xs tt,v1])
    (hd:s.heap.DictOf (PySem.strKind B.prog B.w) d kvs) (hId:I ≠ d) (hz:kvs.length ≤ 1000) (h:∀ h₂ : Heap,h₂.IsListIter I l (i + 1) → h₂.DictOf (PySem.strKind B.prog B.w) d (PySem.stored kvs xs v1) → (∀ a o,a ≠ I → a ≠ d → s.heap.get? a = some o → h₂.get? a = some o) → codeAny B.M A (.builtin "dict.update.loop" ⟨[.ref d,.ref I,.int (ii + 1) 0,.none],[]⟩) R { s with heap := h₂,toks := s.toks + 1 }) :
    codeAny B.M A (.builtin "dict.update.loop" ⟨[.ref d,.ref I,.int ii t,.none],[]⟩) R s := by
  refine codeAny_builtin entry_update_loop ?_
  rw [Around.under_plainId plain_update_loop _]
  show wpAny _ A.in1 (pyNext (.ref I) >>= _) _ _ s
  refine wpAny_bind (wpAny_pyNext_list_item hit hL hget fun h₁ hit₁ hs₁ => wpAny_bind (wpAny_holding (wpAny_bind (wpAny_tryCatch ?_))))
  unfold Builtin.Dict.pairItems
  have hT₁ := hs₁.extBut _ _ hTI hT
  refine wpAny_bind (wpAny_typeOf ⟨_,hT₁,rfl⟩ ?_)
  rw [if_pos (by decide)]
  refine wpAny_bind (wpAny_seqItems hT₁ rfl (wpAny_pure ?_))
  show wpAny _ _ (match us.toList with | [k,v] => holding [k,v] (dictSet d k v) | l => _) _ _ _
  rw [hus]
  have hd₁ : h₁.DictOf (PySem.strKind B.prog B.w) d kvs := by
    obtain ⟨o,es,ep,ho,r⟩ := hd
    exact ⟨o,es,ep,hs₁.extBut _ _ (Ne.symm hId) ho,r⟩
  exact wpAny_holding (wpAny_dictSet_pairs (strKind_is B.prog B.w xs tt) hd₁ (fun h₂ hd₂ hs₂ => wpAny_pure ⟨plainId_quiet plain_update_loop _,h h₂ (hit₁.extBut hs₂.extBut hId) hd₂ fun a o h1 h2 e => hs₂.extBut _ _ h2 (hs₁.extBut _ _ h1 e)⟩) (by rw [show sizeLine = 2 ^ 24 from rfl]; omega))
theorem update_loop {d I l:Addr} {vs:Array Value} {n:Nat} {G:View} (hA:A.handled = none) (hl:G l = some (sq "list" vs n)) (hGI:G I = none) (hGd:G d = none) (hId:I ≠ d) (hz:vs.size ≤ 1000) (rest:List V) :
    ∀ (ps:List (List Nat × V)) (i:Nat) (ii:Int) (t:Tok) (kvs:List (Str × Value)) (ds:List (List Nat × V)) (s:Shared),pairsOf rest = some ps → vs.size = i + rest.length → B.RL G (vs.toList.drop i) rest → kvs.length ≤ i →
      (∀ a o,G a = some o → s.heap.get? a = some o) → s.heap.IsListIter I l i → s.heap.DictOf (PySem.strKind B.prog B.w) d kvs → RepD B.prog B.w G kvs ds →
      (∀ s' kvs',(∀ a o,a ≠ I → a ≠ d → s.heap.get? a = some o → s'.heap.get? a = some o) → s'.os = s.os → s'.gens = s.gens → s'.heap.DictOf (PySem.strKind B.prog B.w) d kvs' → RepD B.prog B.w G kvs' (putAll ds ps) → R (.ok (.ret .none)) s') →
      codeAny B.M A (.builtin "dict.update.loop" ⟨[.ref d,.ref I,.int ii t,.none],[]⟩) R s := by
  induction rest with
  | nil =>
    intro ps i ii t kvs ds s hp hi rl hk gin hit hd hr hR
    cases hp
    refine update_end hA hit ⟨_,gin _ _ hl,rfl,n,rfl⟩ (Array.getElem?_eq_none (Nat.le_of_eq hi)) fun h' he => ?_
    obtain ⟨o,es,ep,ho,r⟩ := hd
    exact hR _ kvs (fun a o ha _ e => he a o ha e) rfl rfl ⟨o,es,ep,he _ _ (Ne.symm hId) ho,r⟩ hr
  | cons x rest ih =>
    intro ps i ii t kvs ds s hp hi rl hk gin hit hd hr hR
    obtain ⟨p,ps',rfl,hpx,hps⟩ := pairsOf_inv hp
    have hlt : i < vs.size := by rw [hi]; exact Nat.lt_add_of_pos_right (Nat.succ_pos _)
    have hlt' : i < vs.toList.length := hlt
    rw [List.drop_eq_getElem_cons hlt'] at rl
    obtain ⟨_,_,e,rx,rl⟩ := rl.invV
    obtain ⟨rfl,rfl⟩ := List.cons.inj e
    have hget : vs[i]? = some (vs.toList[i]'hlt') := by rw [← Array.getElem?_toList]; exact List.getElem?_eq_getElem hlt'
    rw [pairOf_inv hpx] at rx
    obtain ⟨T,us,m,e,g,z,l2⟩ := rx.inv
    obtain ⟨vk,v1,hus,rk,rv⟩ := l2.inv2
    obtain ⟨xs,tt,ek,hxk⟩ := rk.inv
    rw [e] at hget
    rw [ek] at hus
    refine update_step hit ⟨_,gin _ _ hl,rfl,n,rfl⟩ hget (gin _ _ g) (fun q => by rw [q,hGI] at g; exact noS g) hus hd hId (by omega) fun h₂ hit₂ hd₂ hk₂ => ?_
    refine ih ps' (i + 1) (ii + 1) 0 _ (upd ds p.1 p.2) { s with heap := h₂,toks := s.toks + 1 } hps (by rw [hi,List.length_cons,Nat.add_assoc,Nat.add_comm 1]) rl ?_ (fun a o e => hk₂ a o (fun q => by rw [q,hGI] at e; exact noS e) (fun q => by rw [q,hGd] at e; exact noS e) (gin a o e)) hit₂ hd₂ ?_ fun s' kvs' hk' eo eg hd' hr' => hR s' kvs' (fun a o h1 h2 e => hk' a o h1 h2 (hk₂ a o h1 h2 e)) eo eg hd' hr'
    · exact Nat.le_trans (stored_length_le kvs xs v1) (Nat.succ_le_succ hk)
    · rw [← hxk]
      exact hr.stored xs rv
end
section
variable {prog:Program} {w:World} {A:Around} {E:Value → Shared → Prop} {s:Shared}
theorem nextOf_tuple_item {it t:Addr} {i:Nat} {items:Array Value} {x:Value} {Q:Value → Shared → Prop} (hit:s.heap.IsTupleIter it t i) (ht:s.heap.IsTuple t items) (hx:items[i]? = some x)
    (hQ:∀ h',h'.IsTupleIter it t (i + 1) → Heap.SameBut it s.heap h' → Q x { s with heap := h' }) : wpAny (model prog w) A (Builtin.SmallTypes.nextOf (.ref it)) Q E s := by
  obtain ⟨o,ho,hc,hd⟩ := id hit
  obtain ⟨ol,hol,_,nl,hdl⟩ := ht
  unfold Builtin.SmallTypes.nextOf
  refine wpAny_bind (wpAny_callSpecial?_slot (name := Str.ofString "__next__") hit.typeIs F.slot_tuple_iterator_next
    (wpAny_call_entry F.slot_tuple_iterator_next hit.typeIs F.entry_tuple_iterator_next ?_ (F.args_tuple_iterator_next_1 _)))
  show wpAny _ _ (field (.ref it) 0 >>= _) _ _ s
  refine wpAny_bind (wpAny_field ho hd (x := .ref t) rfl ?_)
  show wpAny _ _ (if (Value.ref t == Value.none) = true then _ else _) _ _ s
  rw [if_neg (show ¬ ((Value.ref t == Value.none) = true) from Bool.false_ne_true)]
  show wpAny _ _ (field (.ref it) 1 >>= _) _ _ s
  refine wpAny_bind (wpAny_field ho hd (x := .int i 0) rfl ?_)
  show wpAny _ _ (seqItems? (.ref t) >>= _) _ _ s
  refine wpAny_bind (wpAny_seqItems hol hdl ?_)
  simp only [Int.toNat_natCast,hx]
  refine wpAny_bind (wpAny_setField ho hd (by simp) (wpAny_pure ⟨x,rfl,wpAny_pure (hQ _ ?_ (Heap.SameBut.update ..))⟩))
  exact ⟨_,Heap.get?_update_self _ ho (Obj.isFreed_of_fields (Obj.data_mapFields hd _)),(Obj.cls_mapFields ..).trans hc,by
    rw [Obj.data_mapFields hd]; simp [rawInt]⟩
theorem nextOf_tuple_end {it t:Addr} {i:Nat} {items:Array Value} {Q:Value → Shared → Prop} (hh:A.handled = none) (hit:s.heap.IsTupleIter it t i) (ht:s.heap.IsTuple t items) (hx:items[i]? = none)
    (hE:∀ h' e,Heap.ExtBut it s.heap h' → (∃ o,h'.get? e = some o ∧ o.cls = .type "StopIteration") → E (.ref e) { s with heap := h' }) : wpAny (model prog w) A (Builtin.SmallTypes.nextOf (.ref it)) Q E s := by
  obtain ⟨o,ho,hc,hd⟩ := id hit
  obtain ⟨ol,hol,_,nl,hdl⟩ := ht
  unfold Builtin.SmallTypes.nextOf
  refine wpAny_bind (wpAny_callSpecial?_slot (name := Str.ofString "__next__") hit.typeIs F.slot_tuple_iterator_next
    (wpAny_call_entry F.slot_tuple_iterator_next hit.typeIs F.entry_tuple_iterator_next ?_ (F.args_tuple_iterator_next_1 _)))
  show wpAny _ _ (field (.ref it) 0 >>= _) _ _ s
  refine wpAny_bind (wpAny_field ho hd (x := .ref t) rfl ?_)
  show wpAny _ _ (if (Value.ref t == Value.none) = true then _ else _) _ _ s
  rw [if_neg (show ¬ ((Value.ref t == Value.none) = true) from Bool.false_ne_true)]
  show wpAny _ _ (field (.ref it) 1 >>= _) _ _ s
  refine wpAny_bind (wpAny_field ho hd (x := .int i 0) rfl ?_)
  show wpAny _ _ (seqItems? (.ref t) >>= _) _ _ s
  refine wpAny_bind (wpAny_seqItems hol hdl ?_)
  simp only [Int.toNat_natCast,hx]
  refine wpAny_bind (wpAny_rule (wpAny_bind (wpAny_setField ho hd (by simp) ?_)))
  show wpAny _ _ (newExc (.type "StopIteration") [] >>= _) _ _ _
  refine wpAny_bind ?_
  simp only [newExc,newTuple]
  refine wpAny_bind (wpAny_newObj_type ?_ (by size_fits))
  refine wpAny_bind (m := firstArgMember _ _) (wpAny_of_eq (a := Value.none) (by first | rfl | (simp only [firstArgMember]; rfl)) ?_)
  refine wpAny_newObj_type ?_ (by size_fits)
  simp only [raiseNew]
  refine wpAny_bind (wpAny_handled ?_)
  first | rw [show A.in1.handled = none from hh] | rw [hh]
  refine wpAny_bind (wpAny_pure (wpAny_throw ?_))
  exact hE _ _ (((Heap.SameBut.update ..).extBut.push _).push _) ⟨_,Heap.get?_push_size _ rfl,rfl⟩
end
theorem Draws.tuple {prog:Program} {w:World} {A:Around} (hh:A.handled = none) (it l:Addr) (hne:l ≠ it) (items:Array Value) :
    Draws prog w A it [it,l] items.size (fun i v => items[i]? = some v) (fun i h => h.IsTupleIter it l i ∧ h.IsTuple l items) where
  live := fun _ _ st => let ⟨o,ho,_⟩ := st.1; ⟨o,ho⟩
  frame := fun _ _ _ st hk => ⟨let ⟨o,ho,r⟩ := st.1; ⟨o,hk it (by simp) o ho,r⟩,let ⟨o,ho,r⟩ := st.2; ⟨o,hk l (by simp) o ho,r⟩⟩
  item := fun i s Q E hi st hQ => by
    refine nextOf_tuple_item st.1 st.2 (x := items[i]) (by simp [hi]) fun h' hit' hs' => ?_
    exact hQ _ h' s.toks (by simp [hi]) ⟨hit',st.2.extBut hs'.extBut hne⟩ hs'
  done := fun s Q E st hE => nextOf_tuple_end hh st.1 st.2 (by simp) hE
noncomputable abbrev EnumO (it:Addr) (i:Int) (f0:Value) (f1:Bool) (old:Value) : Obj := { cls := .type "enumerate",dict := none,data := .fields #[f0,.bool f1,.ref it,rawInt i,.none,old],slots := #[] }
noncomputable def OutOK (h:Heap) (f0:Value) : Prop := f0 = .none ∨ ∃ (T:Addr) (o:Obj),f0 = rawInt (T:Nat) ∧ h.get? T = some o
theorem OutOK.keeps {h h':Heap} {f0:Value} (x:OutOK h f0) (hk:∀ b o,h.get? b = some o → ∃ o',h'.get? b = some o') : OutOK h' f0 := by
  rcases x with h | ⟨T,o,e1,e2⟩
  · exact .inl h
  · obtain ⟨o',e'⟩ := hk T o e2
    exact .inr ⟨T,o',e1,e'⟩
section
variable {prog:Program} {w:World} {A:Around} {E:Value → Shared → Prop} {s:Shared}
theorem alive_get {a:Addr} {o:Obj} {Q:Option Obj → Shared → Prop} (ho:s.heap.get? a = some o) (h:Q (some o) s) : wpAny (model prog w) A (loadIfAlive a) Q E s := by
  have h' : Q (s.heap.get? a) s := by rw [ho]; exact h
  exact fun _ _ _ => h'
theorem enum_next {e it:Addr} {fp:List Addr} {n i:Nat} {P:Nat → Value → Prop} {St:Nat → Heap → Prop} {f0 old:Value} {f1:Bool} {Q:Value → Shared → Prop}
    (D:Draws prog w A it fp n P St) (he:s.heap.get? e = some (EnumO it i f0 f1 old)) (h0:OutOK s.heap f0) (hst:St i s.heap) (hlt:i < n) (hne:e ≠ it) (hef:e ∉ fp)
    (hQ:∀ x h' tk f0' f1' old',P i x → h'.get? e = some (EnumO it ((i:Int) + 1) f0' f1' old') → OutOK h' f0' → (f0' = rawInt s.heap.objs.size ∨ f0' = f0) → St (i + 1) h' →
      h'.get? s.heap.objs.size = some (sq "tuple" #[.int i tk,x] 0) → (∀ b o,b ≠ e → b ≠ it → s.heap.get? b = some o → h'.get? b = some o) → Q (.ref s.heap.objs.size) { s with heap := h',toks := tk + 1 }) :
    wpAny (model prog w) A (Builtin.«enumerate.__next__» ⟨[.ref e],[]⟩) (fun fin s' => ∃ v,fin = .done (.ret v) ∧ Q v s') E s := by
  obtain ⟨hp,g,d,tk₀,os⟩ := s
  show wpAny _ _ (field (.ref e) 2 >>= _) _ _ _
  refine wpAny_bind (wpAny_field he rfl (x := .ref it) rfl ?_)
  refine wpAny_bind (D.item i _ _ _ hlt hst fun x h₁ tk hPx hit₁ hs₁ => ?_)
  replace hs₁ : Heap.SameBut it hp h₁ := hs₁
  have he₁ : h₁.get? e = some (EnumO it i f0 f1 old) := (hs₁.2 e hne).trans he
  show wpAny _ _ (field (.ref e) 3 >>= _) _ _ ⟨h₁,g,d,tk,os⟩
  refine wpAny_bind (wpAny_field he₁ rfl (x := rawInt i) rfl ?_)
  show wpAny _ _ (field (.ref e) 4 >>= _) _ _ ⟨h₁,g,d,tk,os⟩
  refine wpAny_bind (wpAny_field he₁ rfl (x := .none) rfl ?_)
  show wpAny _ _ (mkInt i >>= _) _ _ ⟨h₁,g,d,tk,os⟩
  refine wpAny_bind (wpAny_mkInt ?_)
  show wpAny _ _ (setField (.ref e) 3 (rawInt ((i:Int) + 1)) >>= _) _ _ ⟨h₁,g,d,tk + 1,os⟩
  refine wpAny_bind (wpAny_setField_rec he₁ (by simp) fun h₂ he₂ hs₂ => ?_)
  replace hs₂ : Heap.SameBut e h₁ h₂ := hs₂
  replace he₂ : h₂.get? e = some (EnumO it ((i:Int) + 1) f0 f1 old) := he₂
  show wpAny _ _ (setField (.ref e) 4 .none >>= _) _ _ ⟨h₂,g,d,tk + 1,os⟩
  refine wpAny_bind (wpAny_setField_rec he₂ (by simp) fun h₃ he₃ hs₃ => ?_)
  replace hs₃ : Heap.SameBut e h₂ h₃ := hs₃
  replace he₃ : h₃.get? e = some (EnumO it ((i:Int) + 1) f0 f1 old) := he₃
  show wpAny _ _ (newTuple [.int i tk,x] >>= _) _ _ ⟨h₃,g,d,tk + 1,os⟩
  refine wpAny_bind (wpAny_newTuple ?_)
  have he₄ : (h₃.push (sq "tuple" #[.int i tk,x] 0)).get? e = some (EnumO it ((i:Int) + 1) f0 f1 old) := Heap.get?_push_of_some _ he₃
  have hal : ∀ b o,hp.get? b = some o → ∃ o',(h₃.push (sq "tuple" #[.int i tk,x] 0)).get? b = some o' := fun b o hb => by
    by_cases q : b = e
    · subst q; exact ⟨_,he₄⟩
    · by_cases q' : b = it
      · subst q'
        obtain ⟨o₁,e₁⟩ := D.live _ _ hit₁
        exact ⟨o₁,Heap.get?_push_of_some _ ((hs₃.2 _ q).trans ((hs₂.2 _ q).trans e₁))⟩
      · exact ⟨o,Heap.get?_push_of_some _ ((hs₃.2 _ q).trans ((hs₂.2 _ q).trans ((hs₁.2 _ q').trans hb)))⟩
  have h0' := OutOK.keeps h0 hal
  clear hal
  generalize hh₄ : h₃.push (sq "tuple" #[.int i tk,x] 0) = h₄ at he₄ h0'
  have hsz : h₃.objs.size = hp.objs.size := by rw [hs₃.1,hs₂.1,hs₁.1]
  have hel : e < hp.objs.size := Heap.lt_size he
  have ht₄ : h₄.get? hp.objs.size = some (sq "tuple" #[.int i tk,x] 0) := by rw [← hh₄,← hsz]; exact Heap.get?_push_size _ rfl
  have hk₄ : ∀ b o,b ≠ e → b ≠ it → hp.get? b = some o → h₄.get? b = some o := fun b o hbe hbi hb => by
    rw [← hh₄]; exact Heap.get?_push_of_some _ (hs₃.extBut b o hbe (hs₂.extBut b o hbe (hs₁.extBut b o hbi hb)))
  have hit₄ : St (i + 1) h₄ := D.frame _ _ _ hit₁ fun b hb o y => by
    have hbe : b ≠ e := fun q => hef (q ▸ hb)
    rw [← hh₄]; exact Heap.get?_push_of_some _ (hs₃.extBut b o hbe (hs₂.extBut b o hbe y))
  show wpAny _ _ (Builtin.SmallTypes.ownedTupleIsFree (.ref e) >>= _) _ _ ⟨h₄,g,d,tk + 1,os⟩
  rw [hsz]
  clear hh₄ he₃ hs₃ he₂ hs₂ he₁ hs₁ hit₁ hsz h₃ h₂ h₁
  refine wpAny_bind ?_
  unfold Builtin.SmallTypes.ownedTupleIsFree
  refine wpAny_bind (wpAny_field he₄ rfl (x := f0) rfl ?_)
  rcases h0' with rfl | ⟨T,oT,rfl,hT⟩
  · refine wpAny_pure ?_
    simp only [if_true]
    refine wpAny_bind (wpAny_rule ?_)
    refine wpAny_bind (wpAny_field he₄ rfl (x := old) rfl ?_)
    refine wpAny_bind (wpAny_setField_rec he₄ (by simp) fun h₅ he₅ hs₅ => ?_)
    replace hs₅ : Heap.SameBut e h₄ h₅ := hs₅
    replace he₅ : h₅.get? e = some (EnumO it ((i:Int) + 1) .none f1 x) := he₅
    show wpAny _ _ (Builtin.SmallTypes.ownedTupleHandOut (.ref e) (.ref hp.objs.size) >>= _) _ _ ⟨h₅,g,d,tk + 1,os⟩
    refine wpAny_bind ?_
    unfold Builtin.SmallTypes.ownedTupleHandOut
    refine wpAny_bind (wpAny_setField_rec he₅ (by simp) fun h₆ he₆ hs₆ => ?_)
    replace hs₆ : Heap.SameBut e h₅ h₆ := hs₆
    replace he₆ : h₆.get? e = some (EnumO it ((i:Int) + 1) (rawInt hp.objs.size) f1 x) := he₆
    refine wpAny_setField_rec he₆ (by simp) fun h₇ he₇ hs₇ => ?_
    replace hs₇ : Heap.SameBut e h₆ h₇ := hs₇
    replace he₇ : h₇.get? e = some (EnumO it ((i:Int) + 1) (rawInt hp.objs.size) false x) := he₇
    have up : ∀ b o,b ≠ e → h₄.get? b = some o → h₇.get? b = some o := fun b o hbe y => hs₇.extBut b o hbe (hs₆.extBut b o hbe (hs₅.extBut b o hbe y))
    have hT₇ := up _ _ (Nat.ne_of_gt hel) ht₄
    refine wpAny_bind (wpAny_letGo (wpAny_pure ⟨_,rfl,hQ x h₇ tk _ _ _ hPx he₇ (.inr ⟨_,_,rfl,hT₇⟩) (.inl rfl) ?_ hT₇ fun b o hbe hbi hb => up b o hbe (hk₄ b o hbe hbi hb)⟩))
    exact D.frame _ _ _ hit₄ fun b hb o y => up b o (fun q => hef (q ▸ hb)) y
  · show wpAny _ _ (loadIfAlive ((T:Int).toNat) >>= _) _ _ _
    rw [Int.toNat_natCast]
    refine wpAny_bind (alive_get hT ?_)
    show wpAny _ _ (field (.ref e) 1 >>= _) _ _ _
    refine wpAny_bind (wpAny_field he₄ rfl (x := .bool f1) rfl ?_)
    cases f1 with
    | true =>
      refine wpAny_pure ?_
      simp only [Bool.false_eq_true,if_false]
      exact wpAny_pure ⟨_,rfl,hQ x h₄ tk _ _ _ hPx he₄ (.inr ⟨T,oT,rfl,hT⟩) (.inr rfl) hit₄ ht₄ hk₄⟩
    | false =>
      show wpAny _ _ (setField (.ref e) 1 (.bool true) >>= _) _ _ _
      refine wpAny_bind (wpAny_setField_rec he₄ (by simp) fun h₅ he₅ hs₅ => wpAny_pure ?_)
      replace hs₅ : Heap.SameBut e h₄ h₅ := hs₅
      replace he₅ : h₅.get? e = some (EnumO it ((i:Int) + 1) (rawInt (T:Nat)) true old) := he₅
      simp only [Bool.false_eq_true,if_false]
      have hT' : ∃ o',h₅.get? T = some o' := by
        by_cases q : T = e
        · subst q; exact ⟨_,he₅⟩
        · exact ⟨oT,hs₅.extBut _ _ q hT⟩
      obtain ⟨oT',hT'⟩ := hT'
      exact wpAny_pure ⟨_,rfl,hQ x h₅ tk _ _ _ hPx he₅ (.inr ⟨T,oT',rfl,hT'⟩) (.inr rfl) (D.frame _ _ _ hit₄ fun b hb o y => hs₅.extBut b o (fun q => hef (q ▸ hb)) y) (hs₅.extBut _ _ (Nat.ne_of_gt hel) ht₄) fun b o hbe hbi hb => hs₅.extBut b o hbe (hk₄ b o hbe hbi hb)⟩
end
section
variable {prog:Program} {w:World} {A:Around} {E:Value → Shared → Prop} {s:Shared}
theorem pyNext_enum_item {e it:Addr} {fp:List Addr} {n i:Nat} {P:Nat → Value → Prop} {St:Nat → Heap → Prop} {f0 old:Value} {f1:Bool} {Q:Option Value → Shared → Prop}
    (D:Draws prog w A.in1 it fp n P St) (he:s.heap.get? e = some (EnumO it i f0 f1 old)) (h0:OutOK s.heap f0) (hst:St i s.heap) (hlt:i < n) (hne:e ≠ it) (hef:e ∉ fp)
    (hQ:∀ x h' tk f0' f1' old',P i x → h'.get? e = some (EnumO it ((i:Int) + 1) f0' f1' old') → OutOK h' f0' → (f0' = rawInt s.heap.objs.size ∨ f0' = f0) → St (i + 1) h' →
      h'.get? s.heap.objs.size = some (sq "tuple" #[.int i tk,x] 0) → (∀ b o,b ≠ e → b ≠ it → s.heap.get? b = some o → h'.get? b = some o) → Q (some (.ref s.heap.objs.size)) { s with heap := h',toks := tk + 1 }) :
    wpAny (model prog w) A (pyNext (.ref e)) Q E s := by
  have hT : s.TypeIs (.ref e) "enumerate" := ⟨_,he,rfl⟩
  unfold pyNext
  exact wpAny_bind (wpAny_attempt (wpAny_callSpecial?_slot (name := Str.ofString "__next__") hT F.slot_enumerate_next
    (wpAny_call_entry F.slot_enumerate_next hT F.entry_enumerate_next
      (enum_next D he h0 hst hlt hne hef fun x h' tk f0' f1' old' a b c d k q r => wpAny_pure (hQ x h' tk f0' f1' old' a b c d k q r)) (F.args_enumerate_next_1 _))))
theorem pyNext_enum_end {e it:Addr} {fp:List Addr} {n:Nat} {P:Nat → Value → Prop} {St:Nat → Heap → Prop} {i:Int} {f0 old:Value} {f1:Bool} {Q:Option Value → Shared → Prop}
    (D:Draws prog w A.in1 it fp n P St) (he:s.heap.get? e = some (EnumO it i f0 f1 old)) (hst:St n s.heap)
    (hQ:∀ h',Heap.ExtBut it s.heap h' → Q none { s with heap := h' }) : wpAny (model prog w) A (pyNext (.ref e)) Q E s := by
  have hT : s.TypeIs (.ref e) "enumerate" := ⟨_,he,rfl⟩
  unfold pyNext
  refine wpAny_bind (wpAny_attempt (wpAny_callSpecial?_slot (name := Str.ofString "__next__") hT F.slot_enumerate_next
    (wpAny_call_entry F.slot_enumerate_next hT F.entry_enumerate_next ?_ (F.args_enumerate_next_1 _))))
  show wpAny _ _ (field (.ref e) 2 >>= _) _ _ _
  refine wpAny_bind (wpAny_field he rfl (x := .ref it) rfl ?_)
  refine wpAny_bind (D.done _ _ _ hst fun h' x he' hx' => ?_)
  obtain ⟨o,ho,hc⟩ := hx'
  refine wpAny_bind (wpAny_isInstance (T := "StopIteration") (b := true) ⟨o,ho,hc⟩ isSubtype_stop ?_)
  exact wpAny_pure (hQ _ he')
theorem pyIter_enum {e it:Addr} {i:Int} {f0 old:Value} {f1:Bool} {Q:Value → Shared → Prop} (he:s.heap.get? e = some (EnumO it i f0 f1 old)) (h:Q (.ref e) s) : wpAny (model prog w) A (pyIter (.ref e)) Q E s := by
  have hT : s.TypeIs (.ref e) "enumerate" := ⟨_,he,rfl⟩
  refine wpAny_pyIter_slot hT F.slot_enumerate_iter (wpAny_call_entry F.slot_enumerate_iter hT F.entry_enumerate_iter ?_ (F.args_enumerate_iter_1 _))
  show wpAny _ _ (ret (.ref e)) _ _ s
  exact wpAny_pure ⟨_,rfl,"enumerate",_,hT,F.slot_enumerate_next.lookup,h⟩
theorem letGo_enum {elts:List Expr} {x1:Nat} {pos:Pos} {e it T:Addr} {i:Int} {f0 old:Value} {f1:Bool} {Q:Unit → Shared → Prop} (he:s.heap.get? e = some (EnumO it i f0 f1 old))
    (hQ:∀ h' f0',h'.get? e = some (EnumO it i f0' f1 old) → (f0' = .none ∨ f0' = f0) → Heap.SameBut e s.heap h' → Q () { s with heap := h' }) :
    wpAny (model prog w) A (letOwnedTupleGo (.Tuple elts x1 pos) (.ref e) (.ref T)) Q E s := by
  unfold letOwnedTupleGo
  refine wpAny_bind (wpAny_load he ?_)
  show wpAny _ _ (if (["enumerate","zip","dict_itemiterator","dict_reverseitemiterator","odict_iterator","itertools.zip_longest","itertools.pairwise"].contains "enumerate" &&
      (#[f0,.bool f1,.ref it,rawInt i,.none,old] : Array Value)[0]? == some (rawInt T)) = true then _ else _) Q E s
  split
  · refine wpAny_bind (wpAny_rule ?_)
    show wpAny _ _ (setField (.ref e) 0 .none) Q E s
    exact wpAny_setField_rec he (by simp) fun h' hz' hs' => hQ h' .none hz' (.inl rfl) hs'
  · exact wpAny_pure (hQ s.heap f0 he (.inr rfl) (Heap.SameBut.refl ..))
end
noncomputable def enumV (i:Int) : List V → List V
  | [] => []
  | x :: xs => .tup [.int i,x] :: enumV (i + 1) xs
theorem enumV_length (i:Int) (xs:List V) : (enumV i xs).length = xs.length := by
  induction xs generalizing i with
  | nil => rfl
  | cons x xs ih => simp [enumV,ih]
theorem enumV_get (i:Int) (xs:List V) (j:Nat) : (enumV i xs)[j]? = (xs[j]?).map fun x => .tup [.int (i + j),x] := by
  induction xs generalizing i j with
  | nil => simp [enumV]
  | cons x xs ih =>
    cases j with
    | zero => simp [enumV]
    | succ j =>
      simp only [enumV,List.getElem?_cons_succ,ih]
      cases xs[j]? with
      | none => rfl
      | some y =>
        simp only [Option.map_some,Option.some.injEq,V.tup.injEq,List.cons.injEq,V.int.injEq,and_true]
        omega
section
variable {B:B0} {k:Nat} {c:Cx} {σ:Store} {L:Lc}
theorem Itr.enum {A:Around} {elts:List Expr} {x1:Nat} {pos:Pos} {e it:Addr} {fp:List Addr} {xs:List V} {P:Nat → Value → Prop} {St:Nat → Heap → Prop} {G₀:View} (D:Draws B.prog B.w A.in1 it fp xs.length P St) (hei:e ≠ it) (hef:e ∉ fp) (hif:it ∈ fp)
    (hP:∀ i v d,P i v → xs[i]? = some d → B.R G₀ v d) (hfp:∀ b ∈ fp,b ≠ it → ∃ o,G₀ b = some o) :
    Itr B A (.Tuple elts x1 pos) e [e,it] (enumV 0 xs) fun i G h => (∃ f0 f1 old,h.get? e = some (EnumO it i f0 f1 old) ∧ OutOK h f0 ∧ ∀ T : Addr,f0 = rawInt (T:Nat) → ∃ o,G T = some o) ∧ St i h ∧ VLe G₀ G ∧ (∀ a o,G a = some o → h.get? a = some o) ∧ G e = none ∧ G it = none where
  frame := fun i G G' h h' ⟨⟨f0,f1,old,he,ho,hT⟩,st,l,g,n1,n2⟩ l' g' hN hw => by
    refine ⟨⟨f0,f1,old,hw e (.head _) _ he,?_,fun T hf => ?_⟩,D.frame i h h' st fun b hb o y => ?_,l.trans l',g',hN e (.head _),hN it (.tail _ (.head _))⟩
    · rcases ho with q | ⟨T,o,q1,q2⟩
      · exact .inl q
      · obtain ⟨o',q3⟩ := hT T q1
        exact .inr ⟨T,o',q1,g' T o' (l' T o' q3)⟩
    · obtain ⟨o',q3⟩ := hT T hf
      exact ⟨o',l' T o' q3⟩
    · by_cases q : b = it
      · exact hw b (by simp [q]) o y
      · obtain ⟨o',h1⟩ := hfp b hb q
        have e1 := g b o' (l b o' h1)
        rw [y] at e1
        cases e1
        exact g' b o (l' b o (l b o h1))
  item := fun i s G E Q d hd ⟨⟨f0,f1,old,he,ho,hT⟩,st,l,g,n1,n2⟩ hg h => by
    have hlt : i < xs.length := by
      have := (List.getElem?_eq_some_iff.mp hd).1
      rw [enumV_length] at this
      exact this
    rw [enumV_get,List.getElem?_eq_getElem hlt] at hd
    simp only [Option.map_some,Option.some.injEq] at hd
    subst hd
    have hnew : s.heap.get? s.heap.objs.size = none := heap_none _
    have hGn : G s.heap.objs.size = none := by
      cases q : G s.heap.objs.size with
      | none => rfl
      | some o => have := hg _ _ q; rw [hnew] at this; cases this
    refine pyNext_enum_item D he ho st hlt hei hef fun x h' tk f0' f1' old' hp he' ho' hf' st' hT' hk => ⟨_,rfl,?_⟩
    refine letGo_enum he' fun h'' f0'' he'' hf'' hs'' => ?_
    have hne : s.heap.objs.size ≠ e := Nat.ne_of_gt (Heap.lt_size he)
    have hT'' : h''.get? s.heap.objs.size = some (sq "tuple" #[.int i tk,x] 0) := (hs''.2 _ hne).trans hT'
    have hk'' : ∀ b o,b ∉ [e,it] → s.heap.get? b = some o → h''.get? b = some o := fun b o hb y => by
      simp only [List.mem_cons,List.not_mem_nil,or_false,not_or] at hb
      exact (hs''.2 b hb.1).trans (hk b o hb.1 hb.2 y)
    have hlit : ∃ o,h''.get? it = some o := by
      obtain ⟨o,q⟩ := D.live _ _ st'
      exact ⟨o,(hs''.2 _ (Ne.symm hei)).trans q⟩
    have g'' : ∀ a o,(G.add s.heap.objs.size (sq "tuple" #[.int i tk,x] 0)) a = some o → h''.get? a = some o := fun a o q => by
      unfold View.add at q
      split at q
      · rename_i e1; subst e1; cases q; exact hT''
      · exact hk'' a o (fun hm => by
          simp only [List.mem_cons,List.not_mem_nil,or_false] at hm
          rcases hm with rfl | rfl
          · rw [n1] at q; cases q
          · rw [n2] at q; cases q) (g a o q)
    have le' : VLe G (G.add s.heap.objs.size (sq "tuple" #[.int i tk,x] 0)) := VLe.add hGn _
    have hadd : ∀ a,a ≠ s.heap.objs.size → G a = none → (G.add s.heap.objs.size (sq "tuple" #[.int i tk,x] 0)) a = none := fun a q1 q2 => by
      unfold View.add
      rw [if_neg q1]
      exact q2
    have hitne : it ≠ s.heap.objs.size := by
      obtain ⟨o,q⟩ := D.live _ _ st
      exact Nat.ne_of_lt (Heap.lt_size q)
    refine h (.ref s.heap.objs.size) _ (G.add s.heap.objs.size (sq "tuple" #[.int i tk,x] 0)) ⟨le',fun a o q => ?_,fun a o q => ?_,rfl,fun q => q⟩ g'' ?_ ?_ hk''
    · unfold View.add at q
      split at q
      · rename_i e1; subst e1; exact .inr hnew
      · exact .inl q
    · by_cases q1 : a = e
      · subst q1; exact ⟨_,he''⟩
      · by_cases q2 : a = it
        · subst q2; exact hlit
        · exact ⟨o,hk'' a o (by simp [q1,q2]) q⟩
    · rw [Int.zero_add]
      refine .tup (View.add_self _ _ _) (by simp [sizeLine]) (.cons (.int _ _) (.cons ((hP i x _ hp (List.getElem?_eq_getElem hlt)).mono (l.trans le')) .nil))
    · refine ⟨⟨f0'',f1',old',by rw [he'']; norm_cast,?_,fun T hf => ?_⟩,D.frame _ _ _ st' fun b hb o y => (hs''.2 b (fun q => hef (q ▸ hb))).trans y,l.trans le',g'',hadd e (Ne.symm hne) n1,hadd it hitne n2⟩
      · rcases hf'' with q | q
        · exact .inl q
        · rw [q]
          refine OutOK.keeps ho' fun b o y => ?_
          by_cases q1 : b = e
          · subst q1; exact ⟨_,he''⟩
          · exact ⟨o,(hs''.2 b q1).trans y⟩
      · rcases hf'' with q | q
        · rw [q] at hf; cases hf
        · rw [q] at hf
          rcases hf' with q2 | q2
          · rw [q2] at hf
            have e3 : s.heap.objs.size = T := by
              simp only [rawInt,Value.int.injEq,and_true] at hf
              exact Int.ofNat.inj hf
            rw [← e3]
            exact ⟨_,View.add_self _ _ _⟩
          · rw [q2] at hf
            obtain ⟨o,q3⟩ := hT T hf
            exact ⟨o,le' T o q3⟩
  done := fun s G E Q ⟨⟨f0,f1,old,he,ho,hT⟩,st,l,g,n1,n2⟩ hg h => by
    rw [enumV_length] at he st
    refine pyNext_enum_end D he st fun h' hx => h _ (fun b o hb q => hx b o (fun e' => hb (by simp [e'])) q) rfl rfl
  self := fun i s G E Q ⟨⟨f0,f1,old,he,ho,hT⟩,st,l,g,n1,n2⟩ hg h => pyIter_enum he h
end
end Mine
end
section
namespace Mine
open PySem PySem.Calls PyProof.Rows
open AutoSeq1 (wpAny_loadPart')
theorem meets_enum_newT (l:Addr) (items:Array Value) (n:Nat) :
    Meets (Builtin.«enumerate.__new__» ⟨[.type "enumerate",.ref l],[]⟩) (fun _ R s => s.heap.get? l = some (sq "tuple" items n) ∧
      R (.ok (.ret (.ref (s.heap.push { cls := .type "tuple_iterator",data := .fields #[.ref l,.int 0 0] }).objs.size)))
        { s with heap := (s.heap.push { cls := .type "tuple_iterator",data := .fields #[.ref l,.int 0 0] }).push { cls := .type "enumerate",data := .fields #[.none,.bool false,.ref s.heap.objs.size,rawInt 0,.none,.none] } }) :=
  .of_wp fun prog w A R s h => by
    obtain ⟨hp,g,d,tk,os⟩ := s; obtain ⟨hl,h⟩ := h
    have hsub := sub_enumerate
    have hL : Heap.IsTuple (Shared.heap ⟨hp,g,d,tk,os⟩) l items := ⟨_,hl,rfl,n,rfl⟩
    wp_walk using wpAny_loadPart' hl
    refine wpAny_stack_any fun st => wpAny_pure ?_
    split
    · rename_i c _ _ _ _ _
      cases (c == Value.type "enumerate")
      · wp_walk using wpAny_loadPart' hl,wpAny_pyIter_tuple hL
        exact ⟨_,rfl,h⟩
      · wp_walk using wpAny_loadPart' hl,wpAny_pyIter_tuple hL
        exact ⟨_,rfl,h⟩
    · wp_walk using wpAny_loadPart' hl,wpAny_pyIter_tuple hL
      exact ⟨_,rfl,h⟩
section
variable {prog:Program} {w:World} {A:Around} {E:Value → Shared → Prop} {s:Shared}
theorem call_enum_seq {T:String} {l:Addr} {items:Array Value} {n:Nat} {Q:Value → Shared → Prop} (hT:T = "list" ∨ T = "tuple") (hl:s.heap.get? l = some (sq T items n))
    (h:∀ h',h'.get? (s.heap.objs.size + 1) = some (EnumO s.heap.objs.size 0 .none false .none) → h'.get? s.heap.objs.size = some { cls := .type (T ++ "_iterator"),data := .fields #[.ref l,.int 0 0] } →
      (∀ b o,s.heap.get? b = some o → h'.get? b = some o) → Q (.ref (s.heap.objs.size + 1)) { s with heap := h' }) :
    wpAny (model prog w) A (call (.type "enumerate") [.ref l]) Q E s := by
  have key : ∀ o : Obj,o.isFreed = false → (∀ h',h'.get? (s.heap.objs.size + 1) = some (EnumO s.heap.objs.size 0 .none false .none) → h'.get? s.heap.objs.size = some o → (∀ b o,s.heap.get? b = some o → h'.get? b = some o) → Q (.ref (s.heap.objs.size + 1)) { s with heap := h' }) →
      (⟨(s.heap.push o).push { cls := .type "enumerate",data := .fields #[.none,.bool false,.ref s.heap.objs.size,rawInt 0,.none,.none] },s.gens,s.drawn,s.toks,s.os⟩ : Shared).TypeIs (.ref (s.heap.push o).objs.size) "enumerate" ∧
      Q (.ref (s.heap.push o).objs.size) { s with heap := (s.heap.push o).push { cls := .type "enumerate",data := .fields #[.none,.bool false,.ref s.heap.objs.size,rawInt 0,.none,.none] } } := fun o hf hq => by
    have hz : (s.heap.push o).objs.size = s.heap.objs.size + 1 := Heap.size_push ..
    have he := Heap.get?_push_size (s.heap.push o) (o := { cls := .type "enumerate",data := .fields #[.none,.bool false,.ref s.heap.objs.size,rawInt 0,.none,.none] }) rfl
    rw [hz] at he ⊢
    exact ⟨⟨_,he,rfl⟩,hq _ he (Heap.get?_push_of_some _ (Heap.get?_push_size _ hf)) fun b o x => Heap.get?_push_of_some _ (Heap.get?_push_of_some _ x)⟩
  rcases hT with rfl | rfl
  · exact callType_new F.called_enumerate (by decide) (F.typeCall_enumerate_1 _) (F.newCall_enumerate_1 _) (fun obj => F.args_object_init_2 obj _) F.entry_enumerate_new
      (meets_enumerate_newL l items n none #[]) ⟨hl,key _ rfl h⟩
  · exact callType_new F.called_enumerate (by decide) (F.typeCall_enumerate_1 _) (F.newCall_enumerate_1 _) (fun obj => F.args_object_init_2 obj _) F.entry_enumerate_new
      (meets_enum_newT l items n) ⟨hl,key _ rfl h⟩
end
noncomputable def seqV : V → Option (List V)
  | .lst xs => some xs
  | .tup xs => some xs
  | _ => none
section
variable {B:B0} {k:Nat} {c:Cx} {σ:Store} {L:Lc}
theorem draws_of {A:Around} (hA:A.handled = none) {G:View} {T:String} {a it:Addr} {vs:Array Value} {n:Nat} {ds:List V} (hT:T = "list" ∨ T = "tuple") (g:G a = some (sq T vs n)) (l:B.RL G vs.toList ds) (hne:a ≠ it) :
    ∃ St : Nat → Heap → Prop,Draws B.prog B.w A it [it,a] ds.length (fun i v => vs[i]? = some v) St ∧ ∀ h : Heap,h.get? it = some { cls := .type (T ++ "_iterator"),data := .fields #[.ref a,.int 0 0] } → h.get? a = some (sq T vs n) → St 0 h := by
  rw [← l.size]
  rcases hT with rfl | rfl
  · exact ⟨_,Draws.list hA it a hne vs,fun h h1 h2 => ⟨⟨_,h1,rfl,rfl⟩,⟨_,h2,rfl,n,rfl⟩⟩⟩
  · exact ⟨_,Draws.tuple hA it a hne vs,fun h h1 h2 => ⟨⟨_,h1,rfl,rfl⟩,⟨_,h2,rfl,n,rfl⟩⟩⟩
theorem seqV_at {G:View} {v:Value} {x:V} {xs:List V} (h:B.R G v x) (hx:seqV x = some xs) : ∃ T a vs n,(T = "list" ∨ T = "tuple") ∧ v = .ref a ∧ G a = some (sq T vs n) ∧ vs.size ≤ sizeLine ∧ B.RL G vs.toList xs := by
  cases x with
  | lst ds => cases hx; obtain ⟨a,vs,n,e⟩ := h.inv; exact ⟨_,a,vs,n,.inl rfl,e⟩
  | tup ds => cases hx; obtain ⟨a,vs,n,e⟩ := h.inv; exact ⟨_,a,vs,n,.inr rfl,e⟩
  | _ => exact noS hx
theorem SRC_enum {e:Expr} {elts:List Expr} {x1:Nat} {tp p pos:Pos} {P:List V → Prop} (hB:B.OK) (hg:isGlob c (nm "enumerate") = true) (hs:notStar e = true)
    (h:EV B k c σ L e fun x => ∃ xs,seqV x = some xs ∧ P (enumV 0 xs)) : SRC B k c σ L (.Call (.Name (nm "enumerate") p) [e] [] pos) (.Tuple elts x1 tp) P := by
  intro A E s G Kp env b r f
  refine wpAny_Call_NameR (name_builtin hB hg r f (v := .type "enumerate") (by decide) ?_)
  have hev : EVs B k c σ L [e] fun ds => ∃ d xs,ds = [d] ∧ seqV d = some xs ∧ P (enumV 0 xs) := EVs_cons hs (h.mono fun d hd => EVs_nil (hd.elim fun xs q => ⟨d,xs,rfl,q⟩))
  refine PySem.callWith_type (plainArgs (e := e) fun y hy => by rw [List.mem_singleton.mp hy]; exact hs) (evalArgs_of hs hev b r f fun us s₁ G₁ ds st r₁ rl q0 => ?_)
  obtain ⟨d,xs,e3,hx,q⟩ := q0
  rw [e3] at rl
  obtain ⟨u,eu,ru⟩ := rl.inv1
  obtain ⟨T,a,vs,n,hT,e4,g,z,l⟩ := seqV_at ru hx
  rw [eu,e4]
  have hl := r₁.gin _ _ g
  have hlt : a < s₁.heap.objs.size := Heap.lt_size hl
  refine call_enum_seq hT hl fun h' he hit hk => pyIter_enum he ?_
  obtain ⟨St,D,hst⟩ := draws_of (A := A.in1) (it := s₁.heap.objs.size) b.2.2 hT g l (Nat.ne_of_lt hlt)
  have r₂ : Rel B Kp σ G₁ { s₁ with heap := h' } := r₁.grow hk rfl
  have st₂ : Step G₁ G₁ s₁ { s₁ with heap := h' } := Step.grow G₁ (fun a o q => ⟨o,hk a o q⟩) rfl rfl
  have hsz : s₁.heap.get? s₁.heap.objs.size = none := heap_none _
  have hsz1 : s₁.heap.get? (s₁.heap.objs.size + 1) = none := by
    cases q : s₁.heap.get? (s₁.heap.objs.size + 1) with
    | none => rfl
    | some o => have : s₁.heap.objs.size + 1 < s₁.heap.objs.size := Heap.lt_size q; omega
  refine ⟨s₁.heap.objs.size + 1,[s₁.heap.objs.size + 1,s₁.heap.objs.size],_,_,G₁,rfl,Itr.enum (G₀ := G₁) D (Nat.succ_ne_self _) ?_ (.head _) (item_rep l) (fp_two g),⟨⟨_,_,_,he,.inl rfl,fun T q => by cases q⟩,hst _ hit (hk _ _ hl),VLe.refl _,r₂.gin,r₁.noG hsz1,r₁.noG hsz⟩,st.trans st₂,r₂,fun b hb => ?_,?_,q⟩
  · intro hm
    simp only [List.mem_cons,List.not_mem_nil,or_false] at hm
    rcases hm with hm | hm
    · exact Nat.succ_ne_self _ hm
    · rw [← hm] at hlt
      exact absurd (Nat.lt_trans (Nat.lt_succ_self _) hlt) (Nat.lt_irrefl _)
  · simp only [List.mem_cons,List.not_mem_nil,or_false] at hb
    rcases hb with rfl | rfl
    · exact ⟨st.gone hsz1,r₁.noG hsz1,_,he⟩
    · exact ⟨st.gone hsz,r₁.noG hsz,_,hit⟩
  · rw [enumV_length,← l.size]
    exact z
end
end Mine
end
section
namespace Mine
open PySem PySem.Calls PyProof.Rows
theorem enum_no_keys : typeLookup (.type "enumerate") "keys" = pure none := am_miss_of_fast (by kernel_rfl)
theorem enum_no_getattr : typeLookup (.type "enumerate") "__getattr__" = pure none := by rw [typeLookup_type,builtinLookup_eq_fast]; kernel_rfl
theorem entry_enum_getattribute : entryFor table "enumerate.__getattribute__" = some Builtin.«object.__getattribute__» :=
  entryFor_alias (id' := "object.__getattribute__") (by kernel_rfl) (by decide +kernel) (by decide +kernel) (by kernel_rfl)
theorem meets_getattribute_miss_enum (a it:Addr) (i:Int) (f0 old:Value) (f1:Bool) (u:Tok) :
    Meets (Builtin.«object.__getattribute__» ⟨[.ref a,.str "keys" u],[]⟩) (fun A R s => s.heap.get? a = some (EnumO it i f0 f1 old) ∧ raisesAttr (.ref a) "keys" A R s) :=
  Meets.of_wp fun prog w A R s hs => by
    obtain ⟨hp,g,d,tk,os⟩ := s
    obtain ⟨hx,hs⟩ := hs
    have hT : (⟨hp,g,d,tk,os⟩ : Shared).TypeIs (.ref a) "enumerate" := ⟨_,hx,rfl⟩
    have hmiss := enum_no_keys
    have hname : (["__module__","__name__","__qualname__","__doc__","__annotations__"] : List Str).contains "keys" = false := by decide +kernel
    unfold Builtin.«object.__getattribute__»
    repeat (any_goals (first | assumption | wp_step))
    try simp only [hname,Bool.false_eq_true,if_false]
    repeat (any_goals (first | assumption | wp_step))
    exact wpAny_raiseAttrError hs.1 hs.2 (attrMsg_fits (by decide +kernel) (by size_fits))
section
variable {prog:Program} {w:World} {A:Around} {E:Value → Shared → Prop} {s:Shared}
theorem keys_miss_enum {a it:Addr} {i:Int} {f0 old:Value} {f1:Bool} {Q:Option Value → Shared → Prop} (hx:s.heap.get? a = some (EnumO it i f0 f1 old)) (hA:A.handled = none)
    (h:∀ h' tk,(∀ b o,s.heap.get? b = some o → h'.get? b = some o) → Q none { s with heap := h',toks := tk }) :
    wpAny (model prog w) A (getAttr? (.ref a) "keys") Q E s := by
  obtain ⟨hp,g,d,tk,os⟩ := s
  have hT : ∀ tk',(⟨hp,g,d,tk',os⟩ : Shared).TypeIs (.ref a) "enumerate" := fun _ => ⟨_,hx,rfl⟩
  have f1' := sub_AttributeError
  have f3 := F.slot_enumerate_getattribute.lookup
  have f4 := F.slot_enumerate_getattribute.bind (.ref a)
  have f5 := enum_no_getattr
  unfold getAttr? getAttrBy? getAttrBy
  repeat (any_goals (first | assumption | exact hT _ | ((with_reducible show wpAny _ _ (call (Value.builtin "enumerate.__getattribute__") _ _) _ _ _); refine call_meets F.slot_enumerate_getattribute (hT _) entry_enum_getattribute (F.args_enumerate_getattribute_2 _ _) (meets_getattribute_miss_enum a it i f0 old f1 _) ⟨hx,hA,fun h' tk' e hx' => ?_⟩) | wp_step))
  obtain ⟨t',u',he⟩ := hx'.there
  show wpAny _ _ (getattributeRaised _ _ _ _ _ _ _) _ _ _
  unfold getattributeRaised
  repeat (any_goals (first | assumption | wp_step))
  exact h _ _ hx'.keeps
end
theorem dict_from {B:B0} {A:Around} {E:Value → Shared → Prop} {s:Shared} {v:Value} {T:String} {Q:Value → Shared → Prop} (hT:s.TypeIs v T) (hTd:(Value.type T != Value.type "dict") = true)
    (h:(⟨s.heap.push { cls := .type "dict",data := .dict #[] },s.gens,s.drawn,s.toks,s.os⟩ : Shared).TypeIs v T)
    (hk:∀ Q' E',(∀ h' tk,(∀ b o,(s.heap.push { cls := .type "dict",data := .dict #[] }).get? b = some o → h'.get? b = some o) → Q' none { s with heap := h',toks := tk }) → wpAny B.M A.in1.in1 (getAttr? v "keys") Q' E' { s with heap := s.heap.push { cls := .type "dict",data := .dict #[] } })
    (hi:∀ h' tk,(∀ b o,(s.heap.push { cls := .type "dict",data := .dict #[] }).get? b = some o → h'.get? b = some o) →
      wpAny B.M A.in1.in1 (pyIter v) (fun it s₂ => codeAny B.M A.in1 (.builtin "dict.update.loop" ⟨[.ref s.heap.objs.size,it,rawInt 0,.none],[]⟩) (fun r s' => r = .ok (.ret .none) ∧ Q (.ref s.heap.objs.size) s') s₂) (fun _ _ => False) { s with heap := h',toks := tk }) :
    wpAny B.M A (call (.type "dict") [v]) Q E s := by
  refine callType_codes (Q₁ := fun obj s₁ => obj = .ref s.heap.objs.size ∧ s₁ = { s with heap := s.heap.push { cls := .type "dict",data := .dict #[] } }) F.kt_called_dict (F.kt_typeCall_dict_1 _) F.entry_dict_init (kt_code_dict_new _ ⟨rfl,rfl⟩) ?_
  rintro obj s₁ ⟨rfl,rfl⟩
  have hnew : (s.heap.push { cls := .type "dict",data := .dict #[] }).get? s.heap.objs.size = some { cls := .type "dict",data := .dict #[] } := Heap.get?_push_size _ rfl
  have hTn : (⟨s.heap.push { cls := .type "dict",data := .dict #[] },s.gens,s.drawn,s.toks,s.os⟩ : Shared).TypeIs (.ref s.heap.objs.size) "dict" := ⟨_,hnew,rfl⟩
  refine ⟨hTn,F.args_dict_init_2 _ _,?_⟩
  unfold Builtin.«dict.__init__»
  refine wpAny_bind ?_
  unfold Builtin.Dict.selfAndRest
  refine wpAny_bind (wpAny_notOrdered_dict hTn ?_)
  show wpAny _ _ (pure (s.heap.objs.size,[v])) _ _ _
  refine wpAny_pure ?_
  show wpAny _ _ (Builtin.Dict.updateFrom "dict.__init__" s.heap.objs.size v [] .none) _ _ _
  unfold Builtin.Dict.updateFrom
  refine wpAny_bind (wpAny_typeOf h ?_)
  rw [if_pos hTd]
  refine wpAny_bind (hk _ _ fun h' tk hkeep => ?_)
  rw [if_pos (by rfl)]
  refine wpAny_bind (wpAny_rule ?_)
  refine wpAny_bind (wpAny_mono (hi h' tk hkeep) (fun it s₂ h₂ => wpAny_bind (wpAny_pure (wpAny_pure ⟨plainId_quiet plain_update_loop _,codeAny_mono h₂ fun r s' hr => ?_⟩))) fun _ _ q => q.elim)
  obtain ⟨rfl,q⟩ := hr
  exact ⟨rfl,q⟩
noncomputable def dictW (x:V) (Q:V → Prop) : Prop :=
  match x with
  | .lst xs => (match pairsOf xs with
    | some ps => xs.length ≤ 1000 ∧ Q (.sd (putAll [] ps))
    | none => False)
  | _ => False
section
variable {B:B0} {k:Nat} {c:Cx} {σ:Store} {L:Lc} {Q:V → Prop}
theorem Res.fresh {Kp:Heap} {G:View} {s s':Shared} {D:Addr} {o:Obj} {d:V} (r:Rel B Kp σ G s) (h0:s.heap.get? D = none) (hD:s'.heap.get? D = some o) (hk:∀ a o,s.heap.get? a = some o → s'.heap.get? a = some o) (eo:s'.os = s.os) (eg:s'.gens = s.gens)
    (hv:B.R (G.add D o) (.ref D) d) (q:Q d) : Res B Kp σ Q G s (.ref D) s' := by
  have hG : G D = none := by
    cases q2 : G D with
    | none => rfl
    | some o => have := r.gin D o q2; rw [h0] at this; cases this
  have r' : Rel B Kp σ G s' := r.grow hk rfl
  exact ⟨G.add D o,d,(Step.grow G (fun a o e => ⟨o,hk a o e⟩) eo eg).addv hG h0,r'.addv hD hG (fun m => nS_of r h0 m),hv,q⟩
theorem prim_dict (hB:B.OK) {A:Around} {E:Value → Shared → Prop} {s:Shared} {G:View} {Kp:Heap} {v:Value} {x:V} (b:Bud k A) (r:Rel B Kp σ G s) (rv:B.R G v x) (h:dictW x Q) : wpAny B.M A (call (.type "dict") [v]) (Res B Kp σ Q G s) E s := by
  unfold dictW at h
  split at h
  · split at h
    · rename_i xs _ ps hps
      obtain ⟨hz,q⟩ := h
      cases rv with | @lst a vs n _ g z l =>
      have e := l.length
      simp at e
      have hl := r.gin _ _ g
      have hn0 : s.heap.get? s.heap.objs.size = none := heap_none _
      have hl' : (s.heap.push { cls := .type "dict",data := .dict #[] }).get? a = some (sq "list" vs n) := Heap.get?_push_of_some _ hl
      have hd0 : (s.heap.push { cls := .type "dict",data := .dict #[] }).get? s.heap.objs.size = some { cls := .type "dict",data := .dict #[] } := Heap.get?_push_size _ rfl
      have hGd : G s.heap.objs.size = none := r.none_size
      refine dict_from (T := "list") ⟨_,hl,rfl⟩ (by decide) ⟨_,hl',rfl⟩ (fun Q' E' hq => keys_miss_list hl' b.2.2 hq) fun h' tk hk => ?_
      have hla := hk _ _ hl'
      refine wpAny_pyIter_list ⟨_,hla,rfl,n,rfl⟩ ?_
      have hI0 : h'.get? h'.objs.size = none := heap_none _
      have hdl := hk _ _ hd0
      have hGI : G h'.objs.size = none := by
        cases q2 : G h'.objs.size with
        | none => rfl
        | some o => have := hk _ _ (Heap.get?_push_of_some _ (r.gin _ o q2)); rw [hI0] at this; cases this
      refine update_loop (l := a) (vs := vs) (n := n) (G := G) (A := A.in1) b.2.2 g hGI hGd (Nat.ne_of_gt (Heap.lt_size hdl)) (by omega) xs ps 0 0 0 [] [] _ hps (by omega) l (Nat.zero_le _) ?_ ⟨_,Heap.get?_push_size _ rfl,rfl,rfl⟩ ?_ RepD.nil fun s' kvs' hk' eo eg hd' hr' => ⟨rfl,?_⟩
      · exact fun a o q2 => Heap.get?_push_of_some _ (hk _ _ (Heap.get?_push_of_some _ (r.gin a o q2)))
      · exact Heap.dictOf_iff.mpr ⟨_,Heap.get?_push_of_some _ hdl,dict_empty _ _⟩
      · obtain ⟨o,ho,di⟩ := Heap.dictOf_iff.mp hd'
        refine Res.fresh r hn0 ho (fun a o q2 => hk' a o (fun e2 => ?_) (fun e2 => ?_) (Heap.get?_push_of_some _ (hk _ _ (Heap.get?_push_of_some _ q2)))) eo eg ?_ q
        · subst e2
          have := hk _ _ (Heap.get?_push_of_some _ q2)
          rw [hI0] at this
          cases this
        · subst e2; rw [hn0] at q2; cases q2
        · exact .sd (View.add_self _ _ _) di (not_sys hB r) hr'.1 (hr'.2.mono (VLe.add hGd _))
    · exact h.elim
  · exact h.elim
theorem evalArg1 {fv:Value} {e:Expr} {pos:Pos} {A:Around} {E:Value → Shared → Prop} {s:Shared} {env:Env} {M:Model} {Q':Args → Shared → Prop} (hs:notStar e = true) (h:wpAny M A (eval e env) (fun v s' => Q' ⟨[v],[]⟩ s') E s) :
    wpAny M A (evalArgs fv true (backTo pos (starEach [e] env)) []) Q' E s := by
  have e1 : starEach [e] env = [(false,eval e env)] := by rw [starEach_cons hs]; rfl
  have h1 : wpAny M A (spliced (backTo pos (starEach [e] env))) (fun vs s' => Q' ⟨vs,[]⟩ s') E s :=
    wpAny_items_cons (wpAny_mono h (fun v s' h' => wpAny_items_nil h') fun _ _ e => e) (starEach_cons hs)
  rw [e1] at h1 ⊢
  exact evalArgs_plain h1
theorem enum_loop {A:Around} {R:Result → Shared → Prop} {d e it:Addr} {fp:List Addr} {P:Nat → Value → Prop} {St:Nat → Heap → Prop} {G:View} {xs:List V} (D:Draws B.prog B.w A.in1.in1 it fp xs.length P St) (hei:e ≠ it) (hef:e ∉ fp) (hdf:d ∉ fp) (hde:d ≠ e) (hdi:d ≠ it) (hif:it ∈ fp)
    (hP:∀ i v x,P i v → xs[i]? = some x → B.R G v x) (hz:xs.length ≤ 1000) (s₀:Shared) (hes:s₀.heap.get? e = none) (his:s₀.heap.get? it = none) (hds:s₀.heap.get? d = none) :
    ∀ (m i:Nat) (ii:Int) (t:Tok) (kvs:List (Int × Value)) (s:Shared) (f0 old:Value) (f1:Bool),xs.length - i = m → i ≤ xs.length → s.heap.get? e = some (EnumO it i f0 f1 old) → OutOK s.heap f0 → (∀ T : Addr,f0 = rawInt (T:Nat) → T ≠ e ∧ T ≠ it ∧ T ≠ d) → St i s.heap → s.heap.DictOf (PySem.intKind B.prog B.w) d kvs →
      kvs.map (·.1) = (List.range i).map Int.ofNat → B.RL G (kvs.map (·.2)) (xs.take i) → (∀ a o,s₀.heap.get? a = some o → s.heap.get? a = some o) → s.os = s₀.os → s.gens = s₀.gens →
      (∀ s' kvs',(∀ a o,s₀.heap.get? a = some o → s'.heap.get? a = some o) → s'.os = s₀.os → s'.gens = s₀.gens → s'.heap.DictOf (PySem.intKind B.prog B.w) d kvs' → kvs'.map (·.1) = (List.range xs.length).map Int.ofNat → B.RL G (kvs'.map (·.2)) xs → R (.ok (.ret .none)) s') →
      codeAny B.M A (.builtin "dict.update.loop" ⟨[.ref d,.ref e,.int ii t,.none],[]⟩) R s := by
  intro m
  induction m with
  | zero =>
    intro i ii t kvs s f0 old f1 hm hi he ho hT st hd hk1 hk2 keep eo eg hR
    have hin : i = xs.length := by omega
    subst hin
    refine codeAny_builtin entry_update_loop ?_
    rw [Around.under_plainId plain_update_loop _]
    show wpAny _ A.in1 (pyNext (.ref e) >>= _) _ _ s
    refine wpAny_bind (pyNext_enum_end D he st fun h' hx => ?_)
    show wpAny _ A.in1 (Builtin.Dict.addKeywords d [] >>= _) _ _ _
    refine wpAny_bind (wpAny_pure (wpAny_pure ?_))
    obtain ⟨o,es,ep,ho',r⟩ := hd
    refine hR _ kvs (fun a o q => hx a o (fun e2 => by subst e2; rw [his] at q; cases q) (keep a o q)) eo eg ⟨o,es,ep,hx _ _ hdi ho',r⟩ hk1 ?_
    rw [List.take_length] at hk2
    exact hk2
  | succ m ih =>
    intro i ii t kvs s f0 old f1 hm hi he ho hT st hd hk1 hk2 keep eo eg hR
    have hlt : i < xs.length := by omega
    refine codeAny_builtin entry_update_loop ?_
    rw [Around.under_plainId plain_update_loop _]
    show wpAny _ A.in1 (pyNext (.ref e) >>= _) _ _ s
    refine wpAny_bind (pyNext_enum_item D he ho st hlt hei hef fun x h₁ tk f0' f1' old' hp he₁ ho₁ hf₁ st₁ hT₁ hk₁ => ?_)
    refine wpAny_bind (wpAny_holding ?_)
    have hTT : ({ s with heap := h₁,toks := tk + 1 } : Shared).TypeIs (.ref s.heap.objs.size) "tuple" := ⟨_,hT₁,rfl⟩
    have hd₁ : h₁.DictOf (PySem.intKind B.prog B.w) d kvs := by
      obtain ⟨o,es,ep,ho',r⟩ := hd
      exact ⟨o,es,ep,hk₁ _ _ hde hdi ho',r⟩
    have hlen : kvs.length = i := by
      have := congrArg List.length hk1
      simpa using this
    refine wpAny_bind (wpAny_tryCatch ?_)
    unfold Builtin.Dict.pairItems
    refine wpAny_bind (wpAny_typeOf hTT ?_)
    rw [if_pos (by decide)]
    refine wpAny_bind (wpAny_seqItems hT₁ rfl (wpAny_pure ?_))
    show wpAny _ _ (holding [.int i tk,x] (dictSet d (.int i tk) x)) _ _ _
    refine wpAny_holding (wpAny_dictSet_pairs (intKind_is B.prog B.w (i:Int) tk) hd₁ (fun h₂ hd₂ hs₂ => ?_) (by rw [show sizeLine = 2 ^ 24 from rfl]; omega))
    refine wpAny_pure ⟨plainId_quiet plain_update_loop _,?_⟩
    have hst : stored kvs (i:Int) x = kvs ++ [((i:Int),x)] := by
      unfold stored
      rw [if_neg]
      intro hany
      obtain ⟨p,hp1,hp2⟩ := List.any_eq_true.mp hany
      have hp3 : p.1 = (i:Int) := by simpa using hp2
      have hm : p.1 ∈ (List.range i).map Int.ofNat := by rw [← hk1]; exact List.mem_map_of_mem hp1
      obtain ⟨j,hj1,hj2⟩ := List.mem_map.mp hm
      have := List.mem_range.mp hj1
      rw [hp3] at hj2
      have : j = i := Int.ofNat.inj hj2
      omega
    rw [hst] at hd₂
    have hTe : s.heap.objs.size ≠ e := Nat.ne_of_gt (Heap.lt_size he)
    have hTi : s.heap.objs.size ≠ it := by obtain ⟨o,q⟩ := D.live _ _ st; exact Nat.ne_of_gt (Heap.lt_size q)
    have hTd : s.heap.objs.size ≠ d := by obtain ⟨o,_,_,q,_⟩ := hd; exact Nat.ne_of_gt (Heap.lt_size q)
    have up : ∀ a o,a ≠ d → h₁.get? a = some o → h₂.get? a = some o := fun a o h1 q => (hs₂.2 a h1).trans q
    refine ih (i + 1) (ii + 1) 0 _ _ f0' old' f1' (by omega) hlt (by rw [up _ _ (Ne.symm hde) he₁]; norm_cast) (OutOK.keeps ho₁ fun b o q => ?_) (fun T hT2 => ?_) (D.frame _ _ _ st₁ fun b hb o q => up b o (fun e2 => hdf (e2 ▸ hb)) q) hd₂ ?_ ?_ (fun a o q => up a o (fun e2 => by subst e2; rw [hds] at q; cases q) (hk₁ a o (fun e2 => by subst e2; rw [hes] at q; cases q) (fun e2 => by subst e2; rw [his] at q; cases q) (keep a o q))) eo eg hR
    · by_cases q1 : b = d
      · subst q1
        obtain ⟨o',_,_,q2,_⟩ := hd₂
        exact ⟨o',q2⟩
      · exact ⟨o,up b o q1 q⟩
    · rcases hf₁ with q | q
      · rw [q] at hT2
        have e3 : s.heap.objs.size = T := by
          simp only [rawInt,Value.int.injEq,and_true] at hT2
          exact Int.ofNat.inj hT2
        rw [← e3]
        exact ⟨hTe,hTi,hTd⟩
      · rw [q] at hT2
        exact hT T hT2
    · rw [List.map_append,hk1,List.range_succ,List.map_append]
      rfl
    · rw [List.map_append,List.take_add_one,List.getElem?_eq_getElem hlt]
      exact hk2.append (.cons (hP i x _ hp (List.getElem?_eq_getElem hlt)) .nil)
end
section
variable {B:B0} {k:Nat} {c:Cx} {σ:Store} {L:Lc} {Q:V → Prop}
theorem int_dict_empty (prog:Program) (w:World) : ({ cls := .type "dict",data := .dict #[] } : Obj).IsDictOf (PySem.intKind prog w) [] :=
  ⟨#[],0,⟨rfl,rfl,rfl⟩,rfl,by intro e h; simp at h,.nil,.nil⟩
theorem EV_dictE {e:Expr} {p p2 pos pos2:Pos} (hB:B.OK) (hg1:isGlob c (nm "dict") = true) (hg2:isGlob c (nm "enumerate") = true) (hs:notStar e = true)
    (h:EV B k c σ L e fun x => ∃ xs,seqV x = some xs ∧ xs.length ≤ 1000 ∧ Q (.ed xs)) : EV B k c σ L (.Call (.Name (nm "dict") p) [.Call (.Name (nm "enumerate") p2) [e] [] pos2] [] pos) Q := by
  intro A E s G Kp env b r f
  refine wpAny_Call_NameR (name_builtin hB hg1 r f (v := .type "dict") (by decide) ?_)
  refine PySem.callWith_type (plainArgs (e := e) fun y hy => by simp at hy; subst hy; rfl) (evalArg1 rfl ?_)
  refine wpAny_Call_NameR (name_builtin hB hg2 r f (v := .type "enumerate") (by decide) ?_)
  have hev : EVs B k c σ L [e] fun ds => ∃ d xs,ds = [d] ∧ seqV d = some xs ∧ xs.length ≤ 1000 ∧ Q (.ed xs) := EVs_cons hs (h.mono fun d hd => EVs_nil (hd.elim fun xs q => ⟨d,xs,rfl,q⟩))
  refine PySem.callWith_type (plainArgs (e := e) fun y hy => by rw [List.mem_singleton.mp hy]; exact hs) (evalArgs_of hs hev b r f fun us s₁ G₁ ds st r₁ rl q0 => ?_)
  obtain ⟨d,xs,e3,hx,hz,q⟩ := q0
  rw [e3] at rl
  obtain ⟨u,eu,ru⟩ := rl.inv1
  obtain ⟨T,a,vs,n,hT,e4,g,z,l⟩ := seqV_at ru hx
  rw [eu,e4]
  have hl := r₁.gin _ _ g
  have hlt : a < s₁.heap.objs.size := Heap.lt_size hl
  refine call_enum_seq hT hl fun h' he hit hk => ?_
  obtain ⟨St,D,hst⟩ := draws_of (A := A.in1.in1.in1) (it := s₁.heap.objs.size) b.2.2 hT g l (Nat.ne_of_lt hlt)
  have r₂ : Rel B Kp σ G₁ { s₁ with heap := h' } := r₁.grow hk rfl
  have st₂ : Step G₁ G₁ s₁ { s₁ with heap := h' } := Step.grow G₁ (fun a o q => ⟨o,hk a o q⟩) rfl rfl
  have hsz : s₁.heap.get? s₁.heap.objs.size = none := heap_none _
  have hsz1 : s₁.heap.get? (s₁.heap.objs.size + 1) = none := by
    cases q : s₁.heap.get? (s₁.heap.objs.size + 1) with
    | none => rfl
    | some o => exact absurd (Nat.lt_trans (Nat.lt_succ_self _) (Heap.lt_size q)) (Nat.lt_irrefl _)
  have hd0 : (h'.push { cls := .type "dict",data := .dict #[] }).get? h'.objs.size = some { cls := .type "dict",data := .dict #[] } := Heap.get?_push_size _ rfl
  have he1 : (h'.push { cls := .type "dict",data := .dict #[] }).get? (s₁.heap.objs.size + 1) = _ := Heap.get?_push_of_some _ he
  have hit1 : (h'.push { cls := .type "dict",data := .dict #[] }).get? s₁.heap.objs.size = _ := Heap.get?_push_of_some _ hit
  have hdn : s₁.heap.get? h'.objs.size = none := by
    cases q2 : s₁.heap.get? h'.objs.size with
    | none => rfl
    | some o => have := hk _ _ q2; rw [heap_none] at this; cases this
  refine dict_from (s := { s₁ with heap := h' }) (T := "enumerate") ⟨_,he,rfl⟩ (by decide) ⟨_,he1,rfl⟩ (fun Q' E' hq => keys_miss_enum he1 b.2.2 hq) fun h₃ tk hk₃ => ?_
  refine pyIter_enum (hk₃ _ _ he1) ?_
  have hi1 : s₁.heap.objs.size + 1 ≠ s₁.heap.objs.size := Nat.succ_ne_self _
  have hnf : ∀ b : Addr,s₁.heap.objs.size < b → b ∉ [s₁.heap.objs.size,a] := fun b hb hm => by
    simp only [List.mem_cons,List.not_mem_nil,or_false] at hm
    rcases hm with rfl | rfl
    · exact Nat.lt_irrefl _ hb
    · exact Nat.lt_irrefl _ (Nat.lt_trans hb hlt)
  have hlt1 : s₁.heap.objs.size + 1 < h'.objs.size := Heap.lt_size he
  have hltd : s₁.heap.objs.size < h'.objs.size := Nat.lt_trans (Nat.lt_succ_self _) hlt1
  refine enum_loop (G := G₁) (A := A.in1) (it := s₁.heap.objs.size) (fp := [s₁.heap.objs.size,a]) (xs := xs) D hi1 (hnf _ (Nat.lt_succ_self _)) (hnf _ hltd) (Nat.ne_of_gt hlt1) (Nat.ne_of_gt hltd) (.head _)
    (item_rep l) hz s₁ hsz1 hsz hdn xs.length 0 0 0 [] _ .none .none false (by omega) (Nat.zero_le _) (hk₃ _ _ he1) (.inl rfl) (fun T q => by cases q) (hst _ (hk₃ _ _ hit1) (hk₃ _ _ (Heap.get?_push_of_some _ (hk _ _ hl)))) ?_ rfl .nil (fun a o q2 => hk₃ _ _ (Heap.get?_push_of_some _ (hk _ _ q2))) rfl rfl fun s' kvs' keep eo eg hd' hk1 hk2 => ⟨rfl,?_⟩
  · exact Heap.dictOf_iff.mpr ⟨_,hk₃ _ _ hd0,int_dict_empty _ _⟩
  · obtain ⟨o,ho,di⟩ := Heap.dictOf_iff.mp hd'
    refine Res.step st (Res.fresh r₁ hdn ho keep eo eg (.ed (View.add_self _ _ _) di (not_sys hB r₂) hk1 (hk2.mono (VLe.add (r₁.noG hdn) _))) q)
end
end Mine
end
section
namespace Mine
open PySem PySem.Calls PyProof.Rows PySem.W
theorem kas_two {G:Array Nat → Shared → Prop} {ask:Nat → Nat → (Bool → Shared → Prop) → Shared → Prop} {s:Shared} (h:ask 1 0 (fun b s' => G (if b = true then #[1,0] else #[0,1]) s') s) : (kas_sort 2).kasWp ask G s := by
  have e : kas_sort 2 = .ask 1 0 fun b => .ret (if b = true then #[1,0] else #[0,1]) := by
    have : ∀ f g : Bool → KasT (Array Nat),(∀ b,f b = g b) → KasT.ask 1 0 f = KasT.ask 1 0 g := fun f g h => by rw [funext h]
    exact this _ _ fun b => by cases b <;> rfl
  rw [e]
  exact h
section
variable {prog:Program} {w:World} {A:Around} {E:Value → Shared → Prop} {s:Shared}
inductive SortIn (h:Heap) : List Value → List Value → Prop
  | nil : SortIn h [] []
  | one (v:Value) : SortIn h [v] [v]
  | two {a1 a2:Addr} {k1 k2:Str} {t1 t2:Tok} {x1 x2:Value} {n1 n2:Nat} (h1:h.get? a1 = some (sq "tuple" #[.str k1 t1,x1] n1)) (h2:h.get? a2 = some (sq "tuple" #[.str k2 t2,x2] n2)) (hk:k1 ≠ k2) :
    SortIn h [.ref a1,.ref a2] (if k2.cps.toList < k1.cps.toList then [.ref a2,.ref a1] else [.ref a1,.ref a2])
theorem sort_small {a:Addr} {vs out:List Value} {n:Nat} {Q:Value → Shared → Prop} (ho:s.heap.get? a = some (sq "list" vs.toArray n)) (hin:SortIn s.heap vs out)
    (h:∀ h' c,h'.get? a = some (sq "list" out.toArray c) → (∀ b o,b ≠ a → s.heap.get? b = some o → h'.get? b = some o) → Q .none { s with heap := h' }) : wpAny (model prog w) A (call (.builtin "list.sort") [.ref a]) Q E s := by
  have hlen : vs.length ≤ 2 := by cases hin <;> simp
  have hlo : out.length = vs.length := by
    cases hin with
    | nil => rfl
    | one v => rfl
    | two h1 h2 hk => split <;> rfl
  refine wpAny_call_entry slot_list_sort ⟨_,ho,rfl⟩ entry_list_sort ?_ (args_list_sort _)
  rw [list_sort_plain]
  have s1 := Heap.SameBut.update s.heap a (Obj.mapSeq fun _ => (#[] : Array Value))
  obtain ⟨e1,ho1⟩ : ∃ e1,(s.heap.update a (Obj.mapSeq fun _ => (#[] : Array Value))).get? a = some (seqObj "list" #[] e1) := ⟨_,get?_update_seq ho fun _ => #[]⟩
  refine wpAny_bind (listItems_at ho rfl ?_)
  refine wpAny_bind (listUpdate_at ho rfl ?_ (by rw [List.size_toArray,sizeLine_eq]; omega) (Nat.zero_le _))
  refine wpAny_bind (seqEpoch_at ho1 rfl ?_)
  refine wpAny_bind (wpAny_newTuple ?_ (by show vs.length ≤ _; rw [sizeLine_eq]; omega))
  refine wpAny_bind (wpAny_newList ?_ (Nat.zero_le _))
  refine wpAny_holding ?_
  show wpAny (model prog w) A.in1 _ _ E { s with heap := ((s.heap.update a (Obj.mapSeq fun _ => (#[] : Array Value))).push (seqObj "tuple" vs.toArray 0)).push (seqObj "list" #[] 0) }
  generalize hH : ((s.heap.update a (Obj.mapSeq fun _ => (#[] : Array Value))).push (seqObj "tuple" vs.toArray 0)).push (seqObj "list" #[] 0) = H
  have hoH : H.get? a = some (seqObj "list" #[] e1) := by rw [← hH]; exact Heap.get?_push_of_some _ (Heap.get?_push_of_some _ ho1)
  have hkH : ∀ b o,b ≠ a → s.heap.get? b = some o → H.get? b = some o := fun b o hb e => by rw [← hH]; exact Heap.get?_push_of_some _ (Heap.get?_push_of_some _ ((s1.2 b hb).trans e))
  clear hH
  dsimp only
  have fin : ∀ st : SortSt,(arrOf st).map (·.2) = out.toArray → failedOf st = none → wpAny (model prog w) A.in1 (do
      let touched := (← seqEpoch a) != e1
      Builtin.List.listUpdate (.ref a) fun _ => (arrOf st).map (·.2)
      if let some e := failedOf st then rule "list.sort.comparison-raised"; throw e
      if touched then rule "list.sort.modified"; raiseError "ValueError" "list modified during sort"
      ret .none) (fun fin s' => ∃ v,fin = .done (.ret v) ∧ Q v s') E { s with heap := H } := fun st h1 h2 => by
    refine wpAny_bind (seqEpoch_at hoH rfl ?_)
    rw [h1]
    have s2 := Heap.SameBut.update H a (Obj.mapSeq fun _ => out.toArray)
    obtain ⟨c2,hc2⟩ : ∃ c2,(H.update a (Obj.mapSeq fun _ => out.toArray)).get? a = some (seqObj "list" out.toArray c2) := ⟨_,get?_update_seq hoH fun _ => out.toArray⟩
    refine wpAny_bind (listUpdate_at hoH rfl ?_ (Nat.zero_le _) (by show out.length ≤ _; rw [hlo,sizeLine_eq]; omega))
    rw [h2]
    simp only [bne_self_eq_false,Bool.false_eq_true,if_false]
    exact wpAny_pure ⟨_,rfl,h _ c2 hc2 fun b o hb e => (s2.2 b hb).trans (hkH b o hb e)⟩
  cases hin with
  | nil =>
    rw [if_pos (by simp),if_pos (by simp)]
    refine wpAny_bind (wpAny_pure (wpAny_bind (wpAny_pure ?_)))
    exact fin _ (by with_unfolding_all rfl) (by with_unfolding_all rfl)
  | one v =>
    rw [if_pos (by simp),if_pos (by simp)]
    refine wpAny_bind (wpAny_pure (wpAny_bind (wpAny_pure ?_)))
    exact fin _ (by with_unfolding_all rfl) (by with_unfolding_all rfl)
  | @two a1 a2 k1 k2 t1 t2 x1 x2 n1 n2 h1 h2 hk =>
    rw [if_neg (by simp),if_neg (by simp)]
    have na1 : a1 ≠ a := fun e => by subst e; rw [ho] at h1; simp at h1
    have na2 : a2 ≠ a := fun e => by subst e; rw [ho] at h2; simp at h2
    have g1 := hkH _ _ na1 h1
    have g2 := hkH _ _ na2 h2
    refine wpAny_bind (kat_kind (s := { s with heap := H }) (T := .type "str") (KatTups.cons g1 rfl rfl rfl (KatTups.cons g2 rfl rfl rfl KatTups.nil)) (by simp) (fun v hv => ?_) (by decide) ?_)
    · simp only [List.mem_cons,List.not_mem_nil,or_false] at hv
      rcases hv with rfl | rfl <;> exact .now
    · refine wpAny_bind (kat_run (vs := [.ref a1,.ref a2]) (ks := [.ref a1,.ref a2]) (Q := fun st s' => wpAny (model prog w) A.in1 (do
        let touched := (← seqEpoch a) != e1
        Builtin.List.listUpdate (.ref a) fun _ => (arrOf st).map (·.2)
        if let some e := failedOf st then rule "list.sort.comparison-raised"; throw e
        if touched then rule "list.sort.modified"; raiseError "ValueError" "list modified during sort"
        ret .none) (fun fin s' => ∃ v,fin = .done (.ret v) ∧ Q v s') E s') (G := fun p s' => p = (if k2.cps.toList < k1.cps.toList then #[1,0] else #[0,1]) ∧ s' = { s with heap := H }) rfl (by simp) (by simp) (fun p st s' q1 q2 q3 q4 => ?_) (kas_two ?_))
      · obtain ⟨rfl,rfl⟩ := q4
        refine fin st ?_ q3
        rw [kat_snds rfl q2]
        split <;> rfl
      · show wpAny (model prog w) A.in1 (keyLt' (tuples' (Value.type "str" != Value.type "tuple")) (.ref a2) (.ref a1)) _ _ _
        refine kat_lt g2 rfl g1 rfl (kat_cons (eqBool_str ?_))
        have hne : (k2 == k1) = false := beq_eq_false_iff_ne.mpr (Ne.symm hk)
        rw [hne]
        refine kat_no (oneLt_str ?_)
        by_cases hlt : k2.cps.toList < k1.cps.toList
        · simp [hlt]
        · simp [hlt]
end
noncomputable def View.addH (G:View) (ns:List Addr) (h:Heap) : View := fun a => if a ∈ ns then h.get? a else G a
noncomputable def itemsV (kvs:List (List Nat × V)) : List V := kvs.map fun p => .tup [.str p.1,p.2]
noncomputable def sortKV : List (List Nat × V) → List (List Nat × V)
  | [a,b] => if b.1 < a.1 then [b,a] else [a,b]
  | l => l
section
variable {B:B0} {k:Nat} {c:Cx} {σ:Store} {L:Lc} {Q:V → Prop}
theorem VLe.addH {G:View} {ns:List Addr} {h:Heap} (hn:∀ a ∈ ns,G a = none) : VLe G (G.addH ns h) := fun a o e => by
  unfold View.addH
  split
  · rename_i q; rw [hn a q] at e; cases e
  · exact e
theorem Rel.addH {Kp:Heap} {G:View} {s:Shared} {ns:List Addr} (r:Rel B Kp σ G s) (hn:∀ a ∈ ns,G a = none) (hs:∀ a ∈ ns,∀ m,(a,m) ∉ σ) : Rel B Kp σ (G.addH ns s.heap) s := by
  have le := VLe.addH (h := s.heap) hn
  refine ⟨r.bas.trans le,fun a o' e => ?_,r.kin,⟨fun a m hm => ?_,r.sto.nodup⟩,r.hid⟩
  · unfold View.addH at e
    split at e
    · exact e
    · exact r.gin a o' e
  · obtain ⟨h1,h2,o',h3,h4⟩ := r.sto.at_ a m hm
    refine ⟨?_,h2,o',h3,h4.mono le⟩
    unfold View.addH
    rw [if_neg (fun q => hs a q m hm)]
    exact h1
theorem Res.freshH {Kp:Heap} {G:View} {s s':Shared} {ns:List Addr} {v:Value} {d:V} (r:Rel B Kp σ G s) (h0:∀ a ∈ ns,s.heap.get? a = none) (hk:∀ a o,s.heap.get? a = some o → s'.heap.get? a = some o) (eo:s'.os = s.os) (eg:s'.gens = s.gens)
    (hv:VLe G (G.addH ns s'.heap) → B.R (G.addH ns s'.heap) v d) (q:Q d) : Res B Kp σ Q G s v s' := by
  have hG : ∀ a ∈ ns,G a = none := fun a ha => by
    cases q2 : G a with
    | none => rfl
    | some o => have := r.gin a o q2; rw [h0 a ha] at this; cases this
  have r' : Rel B Kp σ G s' := r.grow hk rfl
  have le := VLe.addH (h := s'.heap) hG
  refine ⟨G.addH ns s'.heap,d,⟨le,fun a o e => ?_,fun a o e => ⟨o,hk a o e⟩,eo,by rw [eg]; exact id⟩,r'.addH hG (fun a ha m => nS_of r (h0 a ha) m),hv le,q⟩
  unfold View.addH at e
  split at e
  · rename_i q2; exact .inr (h0 a q2)
  · exact .inl e
theorem items_run {R:List (List Nat × V) → Prop} {o:Expr} {ap cp:Pos} (hn:nullary o = false) (hl:(ap.endLine == cp.line) = true) (h:EV B k c σ L o fun a => ∃ kvs,dictOfV σ a = some kvs ∧ R kvs)
    {A:Around} {E:Value → Shared → Prop} {s:Shared} {G:View} {Kp:Heap} {env:Env} {Q':Value → Shared → Prop} (b:Bud k A) (r:Rel B Kp σ G s) (f:FRx B c env L G Kp)
    (hQ:∀ s₁ G₁ ad rr kvs ep ds,Step G G₁ s s₁ → Rel B Kp σ G₁ s₁ → s₁.heap.IsItemsView rr ad → s₁.heap.DictAt (PySem.strKind B.prog B.w) ad kvs ep → RepD B.prog B.w G₁ kvs ds → (kvs.map (·.1)).Nodup → R ds → Q' (.ref rr) s₁) :
    wpAny B.M A (eval (.Call (.Attribute o (nm "items") ap) [] [] cp) env) Q' E s := by
  refine wpAny_Call_method (T := "dict") (id := "dict.items") (base_plain hn) rfl hl F.plainAttrs_dict F.slot_dict_items F.type_dict_items ?_
  refine Res.run (h A E s G Kp env b r f) fun v₁ s₁ G₁ a st r₁ rv q0 => ?_
  obtain ⟨ds,hd,q⟩ := q0
  obtain ⟨ad,kvs,rfl,n,hD,hR⟩ := dict_at r₁ rv hd
  refine ⟨hD.typeIs,hD.mapOf.noDict,?_⟩
  show wpAny _ _ (callWith cp (.builtin "dict.items") [.ref ad] [] []) Q' E s₁
  refine method_meetsIn F.slot_dict_items F.entry_dict_items rfl (PySem.evalArgs_none ⟨rfl,hD.typeIs,F.args_dict_items_1 _,_,meets_dict_items (PySem.strKind B.prog B.w) ad n,⟨kvs,hD⟩,?_⟩)
  obtain ⟨ob,es,ep,d0,d1,d2,d3,d4,d5⟩ := hD
  exact hQ _ G₁ ad s₁.heap.objs.size kvs ep ds (st.trans (Step.pushRaw _ _ _)) (r₁.pushRaw _) ⟨_,Heap.get?_push_size _ rfl,rfl,rfl⟩ ⟨ob,es,Heap.get?_push_of_some _ d0,d1,d2,d3,d4,d5⟩ hR d5 q
theorem pairs_rep {G G':View} (le:VLe G G') {h:Heap} {lo:Addr} {as:List Addr} {kvs:List (Str × Value)} {ds:List (List Nat × V)} (g:KdxG (PySem.strKind B.prog B.w) kvs lo h as) (hl:as.length = kvs.length) (hr:RepD B.prog B.w G kvs ds) (hv:∀ a ∈ as,G' a = h.get? a) : B.RL G' (as.map Value.ref) (itemsV ds) := by
  have key : ∀ (as:List Addr) (kvs:List (Str × Value)) (ds:List (List Nat × V)),as.length = kvs.length → RepD B.prog B.w G kvs ds → (∀ (j:Nat) a,as[j]? = some a → ∃ key k x,kvs[j]? = some (k,x) ∧ (PySem.strKind B.prog B.w).is k key = true ∧ h.get? a = some { cls := .type "tuple",data := .seq #[key,x] }) → (∀ a ∈ as,G' a = h.get? a) → B.RL G' (as.map Value.ref) (itemsV ds) := by
    intro as
    induction as with
    | nil =>
      intro kvs ds hl hr _ _
      have := hr.length
      cases kvs with
      | nil => cases ds with
        | nil => exact .nil
        | cons _ _ => cases this
      | cons _ _ => cases hl
    | cons a as ih =>
      intro kvs ds hl hr hp hv
      cases kvs with
      | nil => cases hl
      | cons p kvs =>
        obtain ⟨kk,x⟩ := p
        obtain ⟨d,rr,rfl,rx,hr'⟩ := hr.uncons
        obtain ⟨key,k',x',e1,e2,e3⟩ := hp 0 a rfl
        simp only [List.getElem?_cons_zero,Option.some.injEq,Prod.mk.injEq] at e1
        obtain ⟨rfl,rfl⟩ := e1
        obtain ⟨t,rfl⟩ := Value.isStrOf_shape (show Value.isStrOf kk key = true from e2)
        refine .cons (.tup (vs := #[.str kk t,x]) (n := 0) ?_ (by simp [sizeLine]) (.cons (.str rfl) (.cons (rx.mono le) .nil))) (ih kvs rr (by simpa using hl) hr' (fun j a' hj => ?_) fun a' ha' => hv a' (.tail _ ha'))
        · rw [hv a (.head _)]; exact e3
        · exact hp (j + 1) a' (by simpa using hj)
  exact key as kvs ds hl hr g.pairs hv
theorem sort_key {G₁:View} {h' hx:Heap} {lo:Addr} {as:List Addr} {kvs:List (Str × Value)} {ds:List (List Nat × V)} (hg:KdxG (PySem.strKind B.prog B.w) kvs lo h' as) (hal:as.length = kvs.length) (hR:RepD B.prog B.w G₁ kvs ds) (hnd:(kvs.map (·.1)).Nodup) (hz:kvs.length ≤ 2)
    (up:∀ a o,h'.get? a = some o → hx.get? a = some o) : ∃ as' : List Addr,SortIn hx (as.map Value.ref) (as'.map Value.ref) ∧ (∀ a ∈ as',a ∈ as) ∧ as'.length ≤ 2 ∧ ∀ G' : View,VLe G₁ G' → (∀ a ∈ as,G' a = h'.get? a) → B.RL G' (as'.map Value.ref) (itemsV (sortKV ds)) := by
  have full : ∀ G' : View,VLe G₁ G' → (∀ a ∈ as,G' a = h'.get? a) → B.RL G' (as.map Value.ref) (itemsV ds) := fun G' le hv => pairs_rep le hg hal hR hv
  have hl := hR.length
  cases kvs with
  | nil =>
    cases as with
    | cons _ _ => cases hal
    | nil => cases ds with
      | cons _ _ => cases hl
      | nil => exact ⟨[],.nil,fun a h => h,by simp,full⟩
  | cons p1 kvs =>
    cases as with
    | nil => cases hal
    | cons a1 as =>
      cases ds with
      | nil => cases hl
      | cons d1 ds =>
        cases kvs with
        | nil =>
          cases as with
          | cons _ _ => cases hal
          | nil => cases ds with
            | cons _ _ => cases hl
            | nil => exact ⟨[a1],.one _,fun a h => h,by simp,full⟩
        | cons p2 kvs =>
          cases as with
          | nil => cases hal
          | cons a2 as =>
            cases ds with
            | nil => cases hl
            | cons d2 ds =>
              cases kvs with
              | cons _ _ => simp at hz
              | nil =>
                cases as with
                | cons _ _ => cases hal
                | nil => cases ds with
                  | cons _ _ => cases hl
                  | nil =>
                    obtain ⟨k1,x1⟩ := p1
                    obtain ⟨k2,x2⟩ := p2
                    obtain ⟨key1,k1',x1',e1,e2,e3⟩ := hg.pairs 0 a1 rfl
                    obtain ⟨key2,k2',x2',f1,f2,f3⟩ := hg.pairs 1 a2 rfl
                    simp only [List.getElem?_cons_zero,Option.some.injEq,Prod.mk.injEq] at e1
                    simp only [List.getElem?_cons_succ,List.getElem?_cons_zero,Option.some.injEq,Prod.mk.injEq] at f1
                    obtain ⟨rfl,rfl⟩ := e1
                    obtain ⟨rfl,rfl⟩ := f1
                    obtain ⟨t1,rfl⟩ := Value.isStrOf_shape (show Value.isStrOf k1 key1 = true from e2)
                    obtain ⟨t2,rfl⟩ := Value.isStrOf_shape (show Value.isStrOf k2 key2 = true from f2)
                    have hk12 : k1 ≠ k2 := by simpa using hnd
                    have hkeys := hR.1
                    simp only [List.map_cons,List.map_nil,List.cons.injEq,and_true] at hkeys
                    have hin := SortIn.two (up _ _ e3) (up _ _ f3) hk12
                    have hs : sortKV [d1,d2] = if d2.1 < d1.1 then [d2,d1] else [d1,d2] := rfl
                    rw [← hkeys.1,← hkeys.2] at hs
                    by_cases hlt : k2.cps.toList < k1.cps.toList
                    · rw [if_pos hlt] at hin hs
                      rw [hs]
                      refine ⟨[a2,a1],hin,fun a h => by simp only [List.mem_cons,List.not_mem_nil,or_false] at h ⊢; exact h.symm,by simp,fun G' le hv => ?_⟩
                      have := full G' le hv
                      cases this with | cons q1 q2 =>
                      cases q2 with | cons q2 q3 =>
                      exact .cons q2 (.cons q1 .nil)
                    · rw [if_neg hlt] at hin hs
                      rw [hs]
                      exact ⟨[a1,a2],hin,fun a h => h,by simp,full⟩
theorem EV_listItems {o:Expr} {p ap cp pos:Pos} (hB:B.OK) (hg:isGlob c (nm "list") = true) (hn:nullary o = false) (hl:(ap.endLine == cp.line) = true)
    (h:EV B k c σ L o fun a => ∃ kvs,dictOfV σ a = some kvs ∧ kvs.length ≤ 1000 ∧ Q (.lst (itemsV kvs))) : EV B k c σ L (.Call (.Name (nm "list") p) [.Call (.Attribute o (nm "items") ap) [] [] cp] [] pos) Q := by
  intro A E s G Kp env b r f
  refine wpAny_Call_NameR (name_builtin hB hg r f (v := .type "list") (by decide) ?_)
  refine PySem.callWith_type (plainArgs (e := o) fun y hy => by simp at hy; subst hy; rfl) (evalArg1 rfl ?_)
  refine items_run hn hl h b r f fun s₁ G₁ ad rr kvs ep ds st r₁ hv hm hR hnd q0 => ?_
  obtain ⟨hz,q⟩ := q0
  have hlen := hR.length
  refine kdx_call b.2.2 hv hm (by rw [sizeLine_eq]; omega) fun h' tk acc cc as hk hD hal hg hac => ?_
  have hsz : s₁.heap.get? s₁.heap.objs.size = none := heap_none _
  have hna : ∀ a ∈ as,s₁.heap.get? a = none := fun a ha => by
    cases q2 : s₁.heap.get? a with
    | none => rfl
    | some o => exact absurd (Nat.lt_trans (hg.above a ha) (Heap.lt_size q2)) (Nat.lt_irrefl _)
  refine Res.step st (Res.freshH (ns := s₁.heap.objs.size :: as) r₁ (fun a ha => ?_) hk rfl rfl (fun le => ?_) q)
  · rcases List.mem_cons.mp ha with rfl | ha
    · exact hsz
    · exact hna a ha
  · refine .lst (vs := acc) (n := cc) ?_ ?_ ?_
    · unfold View.addH
      rw [if_pos (.head _)]
      exact hD
    · have : acc.toList.length = as.length := by rw [hac]; simp
      rw [Array.length_toList] at this
      rw [this,hal,sizeLine_eq]
      omega
    · rw [hac]
      refine pairs_rep le hg hal hR fun a ha => ?_
      unfold View.addH
      rw [if_pos (.tail _ ha)]
theorem EV_sortedItems {o:Expr} {p ap cp pos:Pos} (hB:B.OK) (hg:isGlob c (nm "sorted") = true) (hn:nullary o = false) (hl:(ap.endLine == cp.line) = true)
    (h:EV B k c σ L o fun a => ∃ kvs,dictOfV σ a = some kvs ∧ kvs.length ≤ 2 ∧ Q (.lst (itemsV (sortKV kvs)))) : EV B k c σ L (.Call (.Name (nm "sorted") p) [.Call (.Attribute o (nm "items") ap) [] [] cp] [] pos) Q := by
  intro A E s G Kp env b r f
  refine wpAny_Call_NameR (name_builtin hB hg r f (v := .builtin "sorted") (by decide) ?_)
  refine callWith_builtin (plainArgs (e := o) fun y hy => by simp at hy; subst hy; rfl) (evalArg1 rfl ?_)
  refine items_run hn hl h b r f fun s₁ G₁ ad rr kvs ep ds st r₁ hv hm hR hnd q0 => ?_
  obtain ⟨hz,q⟩ := q0
  have hlen := hR.length
  refine call_function_entry kind_sorted plain_sorted entry_sorted (args_sorted1 _) ?_
  unfold Builtin.«sorted»
  refine wpAny_bind (m := checkCount "sorted" 1 1 _) (wpAny_pure ?_)
  refine wpAny_bind (kdx_collect (A := A.in1) b.2.2 hv hm (by rw [sizeLine_eq]; omega) fun h' tk as hk hal hg => ?_)
  refine wpAny_bind (wpAny_newList ?_ (by simp [sizeLine_eq]; omega))
  have hsz : s₁.heap.get? h'.objs.size = none := by
    cases q2 : s₁.heap.get? h'.objs.size with
    | none => rfl
    | some o => have := hk _ _ q2; rw [heap_none] at this; cases this
  have hna : ∀ a ∈ as,s₁.heap.get? a = none := fun a ha => by
    cases q2 : s₁.heap.get? a with
    | none => rfl
    | some o => exact absurd (Nat.lt_trans (hg.above a ha) (Heap.lt_size q2)) (Nat.lt_irrefl _)
  have hall : ∀ a ∈ as,∃ o,(h'.push { cls := .type "list",data := .seq (as.map Value.ref).toArray }).get? a = some o ∧ h'.get? a = some o := fun a ha => by
    obtain ⟨j,hj⟩ := List.mem_iff_getElem?.mp ha
    obtain ⟨_,_,_,_,_,e⟩ := hg.pairs j a hj
    exact ⟨_,Heap.get?_push_of_some _ e,e⟩
  have hne : ∀ a ∈ as,a ≠ h'.objs.size := fun a ha => by
    obtain ⟨o,_,e⟩ := hall a ha
    exact Nat.ne_of_lt (Heap.lt_size e)
  obtain ⟨as',hin,hsub,hl2,hrep⟩ := sort_key (hx := h'.push { cls := .type "list",data := .seq (as.map Value.ref).toArray }) hg hal hR hnd (by omega) fun a o e => Heap.get?_push_of_some _ e
  refine wpAny_bind (wpAny_holding (sort_small (a := h'.objs.size) (n := 0) (Heap.get?_push_size _ rfl) hin fun h₂ cc hD hk₂ => ?_))
  refine wpAny_pure ⟨_,rfl,Res.step st (Res.freshH (ns := h'.objs.size :: as) r₁ (fun a ha => ?_) (fun a o q2 => ?_) rfl rfl (fun le => ?_) q)⟩
  · rcases List.mem_cons.mp ha with rfl | ha
    · exact hsz
    · exact hna a ha
  · exact hk₂ a o (fun e => by subst e; rw [hsz] at q2; cases q2) (Heap.get?_push_of_some _ (hk a o q2))
  · refine .lst (vs := (as'.map Value.ref).toArray) (n := cc) ?_ (by simp [sizeLine_eq]; omega) ?_
    · unfold View.addH
      rw [if_pos (.head _)]
      exact hD
    · refine hrep _ le fun a ha => ?_
      unfold View.addH
      rw [if_pos (.tail _ ha)]
      obtain ⟨o,e1,e2⟩ := hall a ha
      show h₂.get? a = h'.get? a
      rw [e2]
      exact hk₂ a o (hne a ha) e1
end
noncomputable abbrev ZipO (TI TO:Addr) (f0:Value) (f1:Bool) : Obj := { cls := .type "zip",dict := none,data := .fields #[f0,.bool f1,.bool false,.ref TI,.ref TO],slots := #[] }
structure ZApart (z TI TO i1 i2:Addr) (fp1 fp2:List Addr) : Prop where
  TIz : TI ≠ z
  TOz : TO ≠ z
  TITO : TI ≠ TO
  z1 : z ∉ fp1
  z2 : z ∉ fp2
  TI1 : TI ∉ fp1
  TI2 : TI ∉ fp2
  TO1 : TO ∉ fp1
  TO2 : TO ∉ fp2
  i12 : i1 ∉ fp2
  i21 : i2 ∉ fp1
  in1 : i1 ∈ fp1
  in2 : i2 ∈ fp2
section
variable {prog:Program} {w:World} {A:Around} {E:Value → Shared → Prop} {s:Shared}
theorem owned_held {z TI TO T:Addr} {f1:Bool} {oT:Obj} (hz:s.heap.get? z = some (ZipO TI TO (rawInt (T:Nat)) f1)) (hT:s.heap.get? T = some oT) :
    wpAny (model prog w) A (Builtin.SmallTypes.ownedTupleIsFree (.ref z)) (fun b s' => b = false ∧ ∃ h₁ f1',s' = { s with heap := h₁ } ∧ h₁.get? z = some (ZipO TI TO (rawInt (T:Nat)) f1') ∧ Heap.SameBut z s.heap h₁) E s := by
  unfold Builtin.SmallTypes.ownedTupleIsFree
  refine wpAny_bind (wpAny_field hz rfl (x := rawInt (T:Nat)) rfl ?_)
  show wpAny _ _ (loadIfAlive ((T:Int).toNat) >>= _) _ _ _
  rw [Int.toNat_natCast]
  refine wpAny_bind (alive_get hT ?_)
  show wpAny _ _ (field (.ref z) 1 >>= _) _ _ _
  refine wpAny_bind (wpAny_field hz rfl (x := .bool f1) rfl ?_)
  cases f1 with
  | true => exact wpAny_pure ⟨rfl,_,_,rfl,hz,Heap.SameBut.refl ..⟩
  | false =>
    show wpAny _ _ (setField (.ref z) 1 (.bool true) >>= _) _ _ _
    refine wpAny_bind (wpAny_setField_rec hz (by simp) fun h₁ hz₁ hs₁ => wpAny_pure ⟨rfl,h₁,true,rfl,hz₁,hs₁⟩)
theorem zip_next {z TI TO i1 i2:Addr} {fp1 fp2:List Addr} {n1 n2 i:Nat} {P1 P2:Nat → Value → Prop} {S1 S2:Nat → Heap → Prop} {f0 a b:Value} {f1:Bool} {Q:Value → Shared → Prop}
    (X:ZApart z TI TO i1 i2 fp1 fp2) (D1:Draws prog w A i1 fp1 n1 P1 S1) (D2:Draws prog w A i2 fp2 n2 P2 S2) (hz:s.heap.get? z = some (ZipO TI TO f0 f1)) (h0:OutOK s.heap f0) (hTI:IsPair s.heap TI (.ref i1) (.ref i2)) (hTO:IsPair s.heap TO a b)
    (st1:S1 i s.heap) (st2:S2 i s.heap) (hlt1:i < n1) (hlt2:i < n2)
    (hQ:∀ x y h' tk f0' f1' a' b',P1 i x → P2 i y → h'.get? z = some (ZipO TI TO f0' f1') → OutOK h' f0' → (f0' = rawInt s.heap.objs.size ∨ f0' = f0) → IsPair h' TI (.ref i1) (.ref i2) → IsPair h' TO a' b' → S1 (i + 1) h' → S2 (i + 1) h' →
      h'.get? s.heap.objs.size = some (sq "tuple" #[x,y] 0) → (∀ c o,c ≠ z → c ≠ TO → c ≠ i1 → c ≠ i2 → s.heap.get? c = some o → h'.get? c = some o) → Q (.ref s.heap.objs.size) { s with heap := h',toks := tk }) :
    wpAny (model prog w) A (Builtin.«zip.__next__» ⟨[.ref z],[]⟩) (fun fin s' => ∃ v,fin = .done (.ret v) ∧ Q v s') E s := by
  have hi1z : i1 ≠ z := fun e => X.z1 (e ▸ X.in1)
  have hi2z : i2 ≠ z := fun e => X.z2 (e ▸ X.in2)
  have hi12 : i1 ≠ i2 := fun e => X.i12 (e ▸ X.in2)
  have hTOi1 : TO ≠ i1 := fun e => X.TO1 (e ▸ X.in1)
  have hTOi2 : TO ≠ i2 := fun e => X.TO2 (e ▸ X.in2)
  have hTIi1 : TI ≠ i1 := fun e => X.TI1 (e ▸ X.in1)
  have hTIi2 : TI ≠ i2 := fun e => X.TI2 (e ▸ X.in2)
  show wpAny _ _ (field (.ref z) 2 >>= _) _ _ _
  refine wpAny_bind (wpAny_field hz rfl (x := .bool false) rfl ?_)
  show wpAny _ _ (field (.ref z) 3 >>= _) _ _ _
  refine wpAny_bind (wpAny_field hz rfl (x := .ref TI) rfl ?_)
  refine wpAny_bind (wpAny_seqItems hTI rfl ?_)
  show wpAny _ _ (Builtin.SmallTypes.ownedTupleIsFree (.ref z) >>= _) _ _ _
  refine wpAny_bind ?_
  rcases h0 with rfl | ⟨T,oT,rfl,hT⟩
  · unfold Builtin.SmallTypes.ownedTupleIsFree
    refine wpAny_bind (wpAny_field hz rfl (x := .none) rfl (wpAny_pure ?_))
    simp only [if_true]
    refine wpAny_bind (wpAny_rule ?_)
    refine wpAny_bind (wpAny_field hz rfl (x := .ref TO) rfl ?_)
    refine wpAny_bind (wpAny_setField_rec hz (by simp) fun h₁ hz₁ hs₁ => ?_)
    replace hz₁ : h₁.get? z = some (ZipO TI TO .ellipsis f1) := hz₁
    refine wpAny_bind ?_
    simp only [List.zipIdx_cons,List.zipIdx_nil,List.forIn_cons,List.forIn_nil]
    refine wpAny_bind (wpAny_bind (wpAny_onRaise ?_))
    show wpAny _ _ (Builtin.SmallTypes.nextOf (.ref i1) >>= _) _ _ _
    refine wpAny_bind (D1.item i _ _ _ hlt1 (D1.frame _ _ _ st1 fun b hb o e => hs₁.extBut b o (fun q => X.z1 (q ▸ hb)) e) fun x h₂ tk₂ hPx st1₂ hs₂ => wpAny_pure ?_)
    replace hs₂ : Heap.SameBut i1 h₁ h₂ := hs₂
    have hTO₂ : IsPair h₂ TO a b := hs₂.extBut _ _ hTOi1 (hs₁.extBut _ _ X.TOz hTO)
    refine wpAny_bind (wpAny_seqItems hTO₂ rfl ?_)
    refine wpAny_bind (wpAny_updateSeq_pair hTO₂ fun h₃ hTO₃ hs₃ => ?_)
    replace hTO₃ : IsPair h₃ TO x b := hTO₃
    replace hs₃ : Heap.SameBut TO h₂ h₃ := hs₃
    refine wpAny_bind (wpAny_letGo (wpAny_pure ?_))
    refine wpAny_bind (wpAny_bind (wpAny_onRaise ?_))
    show wpAny _ _ (Builtin.SmallTypes.nextOf (.ref i2) >>= _) _ _ _
    refine wpAny_bind (D2.item i _ _ _ hlt2 (D2.frame _ _ _ st2 fun b hb o e => hs₃.extBut b o (fun q => X.TO2 (q ▸ hb)) (hs₂.extBut b o (fun q => X.i12 (q ▸ hb)) (hs₁.extBut b o (fun q => X.z2 (q ▸ hb)) e))) fun y h₄ tk₄ hPy st2₄ hs₄ => wpAny_pure ?_)
    replace hs₄ : Heap.SameBut i2 h₃ h₄ := hs₄
    have hTO₄ : IsPair h₄ TO x b := hs₄.extBut _ _ hTOi2 hTO₃
    refine wpAny_bind (wpAny_seqItems hTO₄ rfl ?_)
    refine wpAny_bind (wpAny_updateSeq_pair hTO₄ fun h₅ hTO₅ hs₅ => ?_)
    replace hTO₅ : IsPair h₅ TO x y := hTO₅
    replace hs₅ : Heap.SameBut TO h₄ h₅ := hs₅
    refine wpAny_bind (wpAny_letGo (wpAny_pure (wpAny_pure ?_)))
    refine wpAny_bind (wpAny_seqItems hTO₅ rfl ?_)
    refine wpAny_bind (wpAny_newTuple ?_)
    have hsz : h₅.objs.size = s.heap.objs.size := by rw [hs₅.1,hs₄.1,hs₃.1,hs₂.1,hs₁.1]
    have hz₅ : h₅.get? z = some (ZipO TI TO .ellipsis f1) := hs₅.extBut _ _ X.TOz.symm (hs₄.extBut _ _ hi2z.symm (hs₃.extBut _ _ X.TOz.symm (hs₂.extBut _ _ hi1z.symm hz₁)))
    have hk₅ : ∀ c o,c ≠ z → c ≠ TO → c ≠ i1 → c ≠ i2 → s.heap.get? c = some o → h₅.get? c = some o := fun c o c1 c2 c3 c4 e =>
      hs₅.extBut _ _ c2 (hs₄.extBut _ _ c4 (hs₃.extBut _ _ c2 (hs₂.extBut _ _ c3 (hs₁.extBut _ _ c1 e))))
    have st1₅ : S1 (i + 1) h₅ := D1.frame _ _ _ st1₂ fun b hb o e => hs₅.extBut b o (fun q => X.TO1 (q ▸ hb)) (hs₄.extBut b o (fun q => X.i21 (q ▸ hb)) (hs₃.extBut b o (fun q => X.TO1 (q ▸ hb)) e))
    have st2₅ : S2 (i + 1) h₅ := D2.frame _ _ _ st2₄ fun b hb o e => hs₅.extBut b o (fun q => X.TO2 (q ▸ hb)) e
    have hzlt : z < h₅.objs.size := Heap.lt_size hz₅
    show wpAny _ _ (Builtin.SmallTypes.ownedTupleHandOut (.ref z) (.ref h₅.objs.size) >>= _) _ _ _
    refine wpAny_bind ?_
    unfold Builtin.SmallTypes.ownedTupleHandOut
    have hz₆ : (h₅.push (sq "tuple" #[x,y] 0)).get? z = some (ZipO TI TO .ellipsis f1) := Heap.get?_push_of_some _ hz₅
    refine wpAny_bind (wpAny_setField_rec hz₆ (by simp) fun h₇ hz₇ hs₇ => ?_)
    replace hz₇ : h₇.get? z = some (ZipO TI TO (rawInt h₅.objs.size) f1) := hz₇
    refine wpAny_setField_rec hz₇ (by simp) fun h₈ hz₈ hs₈ => ?_
    replace hz₈ : h₈.get? z = some (ZipO TI TO (rawInt h₅.objs.size) false) := hz₈
    have up : ∀ c o,c ≠ z → h₅.get? c = some o → h₈.get? c = some o := fun c o c1 e => hs₈.extBut _ _ c1 (hs₇.extBut _ _ c1 (Heap.get?_push_of_some _ e))
    have hT₈ : h₈.get? h₅.objs.size = some (sq "tuple" #[x,y] 0) := hs₈.extBut _ _ (Nat.ne_of_gt hzlt) (hs₇.extBut _ _ (Nat.ne_of_gt hzlt) (Heap.get?_push_size _ rfl))
    rw [hsz] at hz₈ hT₈
    refine wpAny_pure ⟨_,rfl,?_⟩
    show Q (.ref h₅.objs.size) _
    rw [hsz]
    exact hQ x y h₈ _ _ _ _ _ hPx hPy hz₈ (.inr ⟨_,_,rfl,hT₈⟩) (.inl rfl) (up _ _ X.TIz (hk₅ _ _ X.TIz X.TITO hTIi1 hTIi2 hTI)) (up _ _ X.TOz hTO₅) (D1.frame _ _ _ st1₅ fun b hb o e => up b o (fun q => X.z1 (q ▸ hb)) e) (D2.frame _ _ _ st2₅ fun b hb o e => up b o (fun q => X.z2 (q ▸ hb)) e) hT₈ fun c o c1 c2 c3 c4 e => up c o c1 (hk₅ c o c1 c2 c3 c4 e)
  · refine wpAny_mono (owned_held hz hT) (fun b' s' hb => ?_) fun _ _ e => e
    obtain ⟨rfl,h₁,f1',rfl,hz₁,hs₁⟩ := hb
    simp only [Bool.false_eq_true,if_false]
    rw [← Array.forIn_toList]
    simp only [List.forIn_cons,List.forIn_nil]
    refine wpAny_bind (wpAny_bind (wpAny_bind (wpAny_holding ?_)))
    show wpAny _ _ (Builtin.SmallTypes.nextOf (.ref i1) >>= _) _ _ _
    refine wpAny_bind (D1.item i _ _ _ hlt1 (D1.frame _ _ _ st1 fun b hb o e => hs₁.extBut b o (fun q => X.z1 (q ▸ hb)) e) fun x h₂ tk₂ hPx st1₂ hs₂ => wpAny_pure (wpAny_pure ?_))
    replace hs₂ : Heap.SameBut i1 h₁ h₂ := hs₂
    refine wpAny_bind (wpAny_bind (wpAny_holding ?_))
    show wpAny _ _ (Builtin.SmallTypes.nextOf (.ref i2) >>= _) _ _ _
    refine wpAny_bind (D2.item i _ _ _ hlt2 (D2.frame _ _ _ st2 fun b hb o e => hs₂.extBut b o (fun q => X.i12 (q ▸ hb)) (hs₁.extBut b o (fun q => X.z2 (q ▸ hb)) e)) fun y h₄ tk₄ hPy st2₄ hs₄ => wpAny_pure (wpAny_pure (wpAny_pure ?_)))
    replace hs₄ : Heap.SameBut i2 h₂ h₄ := hs₄
    refine wpAny_bind (wpAny_newTuple ?_ (by simp [sizeLine_eq]))
    have hsz : h₄.objs.size = s.heap.objs.size := by rw [hs₄.1,hs₂.1,hs₁.1]
    have hk₄ : ∀ c o,c ≠ z → c ≠ i1 → c ≠ i2 → s.heap.get? c = some o → h₄.get? c = some o := fun c o c1 c3 c4 e => hs₄.extBut _ _ c4 (hs₂.extBut _ _ c3 (hs₁.extBut _ _ c1 e))
    have hz₄ : h₄.get? z = some (ZipO TI TO (rawInt (T:Nat)) f1') := hs₄.extBut _ _ hi2z.symm (hs₂.extBut _ _ hi1z.symm hz₁)
    have hT₄ : ∃ o,h₄.get? T = some o := by
      by_cases q1 : T = z
      · subst q1; exact ⟨_,hz₄⟩
      · by_cases q2 : T = i1
        · subst q2
          obtain ⟨o,e⟩ := D1.live _ _ st1₂
          exact ⟨o,hs₄.extBut _ _ hi12 e⟩
        · by_cases q3 : T = i2
          · subst q3
            exact D2.live _ _ st2₄
          · exact ⟨oT,hk₄ T oT q1 q2 q3 hT⟩
    obtain ⟨oT',hT₄⟩ := hT₄
    have up : ∀ c o,h₄.get? c = some o → (h₄.push (sq "tuple" #[x,y] 0)).get? c = some o := fun c o e => Heap.get?_push_of_some _ e
    have hTn : (h₄.push (sq "tuple" #[x,y] 0)).get? s.heap.objs.size = some (sq "tuple" #[x,y] 0) := by rw [← hsz]; exact Heap.get?_push_size _ rfl
    refine wpAny_pure ⟨_,rfl,?_⟩
    show Q (.ref h₄.objs.size) _
    rw [hsz]
    exact hQ x y _ _ _ _ _ _ hPx hPy (up _ _ hz₄) (.inr ⟨T,oT',rfl,up _ _ hT₄⟩) (.inr rfl) (up _ _ (hk₄ _ _ X.TIz hTIi1 hTIi2 hTI)) (up _ _ (hk₄ _ _ X.TOz hTOi1 hTOi2 hTO)) (D1.frame _ _ _ st1₂ fun b hb o e => up b o (hs₄.extBut b o (fun q => X.i21 (q ▸ hb)) e)) (D2.frame _ _ _ st2₄ fun b hb o e => up b o e) hTn fun c o c1 c2 c3 c4 e => up c o (hk₄ c o c1 c3 c4 e)
theorem zip_end {z TI TO i1 i2:Addr} {fp1 fp2:List Addr} {n1:Nat} {P1:Nat → Value → Prop} {S1:Nat → Heap → Prop} {f0 a b:Value} {f1:Bool} {Q:PySem.Fin → Shared → Prop}
    (X:ZApart z TI TO i1 i2 fp1 fp2) (D1:Draws prog w A i1 fp1 n1 P1 S1) (hz:s.heap.get? z = some (ZipO TI TO f0 f1)) (h0:OutOK s.heap f0) (hTI:IsPair s.heap TI (.ref i1) (.ref i2)) (hTO:IsPair s.heap TO a b) (st1:S1 n1 s.heap)
    (hE:∀ h' e,(∀ c o,c ≠ z → c ≠ TO → c ≠ i1 → c ≠ i2 → s.heap.get? c = some o → h'.get? c = some o) → (∃ o,h'.get? e = some o ∧ o.cls = .type "StopIteration") → E (.ref e) { s with heap := h' }) :
    wpAny (model prog w) A (Builtin.«zip.__next__» ⟨[.ref z],[]⟩) Q E s := by
  have hi1z : i1 ≠ z := fun e => X.z1 (e ▸ X.in1)
  show wpAny _ _ (field (.ref z) 2 >>= _) _ _ _
  refine wpAny_bind (wpAny_field hz rfl (x := .bool false) rfl ?_)
  show wpAny _ _ (field (.ref z) 3 >>= _) _ _ _
  refine wpAny_bind (wpAny_field hz rfl (x := .ref TI) rfl ?_)
  refine wpAny_bind (wpAny_seqItems hTI rfl ?_)
  show wpAny _ _ (Builtin.SmallTypes.ownedTupleIsFree (.ref z) >>= _) _ _ _
  refine wpAny_bind ?_
  rcases h0 with rfl | ⟨T,oT,rfl,hT⟩
  · unfold Builtin.SmallTypes.ownedTupleIsFree
    refine wpAny_bind (wpAny_field hz rfl (x := .none) rfl (wpAny_pure ?_))
    simp only [if_true]
    refine wpAny_bind (wpAny_rule ?_)
    refine wpAny_bind (wpAny_field hz rfl (x := .ref TO) rfl ?_)
    refine wpAny_bind (wpAny_setField_rec hz (by simp) fun h₁ hz₁ hs₁ => ?_)
    replace hz₁ : h₁.get? z = some (ZipO TI TO .ellipsis f1) := hz₁
    refine wpAny_bind ?_
    simp only [List.zipIdx_cons,List.zipIdx_nil,List.forIn_cons,List.forIn_nil]
    refine wpAny_bind (wpAny_bind (wpAny_onRaise ?_))
    show wpAny _ _ (Builtin.SmallTypes.nextOf (.ref i1) >>= _) _ _ _
    refine wpAny_bind (D1.done _ _ _ (D1.frame _ _ _ st1 fun b hb o e => hs₁.extBut b o (fun q => X.z1 (q ▸ hb)) e) fun h₂ e hs₂ he => ?_)
    obtain ⟨oe,hoe,hce⟩ := he
    have hz₂ : h₂.get? z = some (ZipO TI TO .ellipsis f1) := hs₂ _ _ hi1z.symm hz₁
    have hez : e ≠ z := fun x => by subst x; rw [hz₂] at hoe; cases hoe; simp at hce
    exact wpAny_setField_rec hz₂ (by simp) fun h₃ _ hs₃ => hE h₃ e (fun c o c1 _ c3 _ x => hs₃.extBut _ _ c1 (hs₂ _ _ c3 (hs₁.extBut _ _ c1 x))) ⟨oe,hs₃.extBut _ _ hez hoe,hce⟩
  · refine wpAny_mono (owned_held hz hT) (fun b' s' hb => ?_) fun _ _ e => e
    obtain ⟨rfl,h₁,f1',rfl,hz₁,hs₁⟩ := hb
    simp only [Bool.false_eq_true,if_false]
    rw [← Array.forIn_toList]
    simp only [List.forIn_cons,List.forIn_nil]
    refine wpAny_bind (wpAny_bind (wpAny_bind (wpAny_holding ?_)))
    show wpAny _ _ (Builtin.SmallTypes.nextOf (.ref i1) >>= _) _ _ _
    refine wpAny_bind (D1.done _ _ _ (D1.frame _ _ _ st1 fun b hb o e => hs₁.extBut b o (fun q => X.z1 (q ▸ hb)) e) fun h₂ e hs₂ he => ?_)
    exact hE h₂ e (fun c o c1 _ c3 _ x => hs₂ _ _ c3 (hs₁.extBut _ _ c1 x)) he
theorem pyNext_zip_item {z TI TO i1 i2:Addr} {fp1 fp2:List Addr} {n1 n2 i:Nat} {P1 P2:Nat → Value → Prop} {S1 S2:Nat → Heap → Prop} {f0 a b:Value} {f1:Bool} {Q:Option Value → Shared → Prop}
    (X:ZApart z TI TO i1 i2 fp1 fp2) (D1:Draws prog w A.in1 i1 fp1 n1 P1 S1) (D2:Draws prog w A.in1 i2 fp2 n2 P2 S2) (hz:s.heap.get? z = some (ZipO TI TO f0 f1)) (h0:OutOK s.heap f0) (hTI:IsPair s.heap TI (.ref i1) (.ref i2)) (hTO:IsPair s.heap TO a b)
    (st1:S1 i s.heap) (st2:S2 i s.heap) (hlt1:i < n1) (hlt2:i < n2)
    (hQ:∀ x y h' tk f0' f1' a' b',P1 i x → P2 i y → h'.get? z = some (ZipO TI TO f0' f1') → OutOK h' f0' → (f0' = rawInt s.heap.objs.size ∨ f0' = f0) → IsPair h' TI (.ref i1) (.ref i2) → IsPair h' TO a' b' → S1 (i + 1) h' → S2 (i + 1) h' →
      h'.get? s.heap.objs.size = some (sq "tuple" #[x,y] 0) → (∀ c o,c ≠ z → c ≠ TO → c ≠ i1 → c ≠ i2 → s.heap.get? c = some o → h'.get? c = some o) → Q (some (.ref s.heap.objs.size)) { s with heap := h',toks := tk }) :
    wpAny (model prog w) A (pyNext (.ref z)) Q E s := by
  have hT : s.TypeIs (.ref z) "zip" := ⟨_,hz,rfl⟩
  unfold pyNext
  exact wpAny_bind (wpAny_attempt (wpAny_callSpecial?_slot (name := Str.ofString "__next__") hT F.slot_zip_next
    (wpAny_call_entry F.slot_zip_next hT F.entry_zip_next
      (zip_next X D1 D2 hz h0 hTI hTO st1 st2 hlt1 hlt2 fun x y h' tk f0' f1' a' b' q1 q2 q3 q4 q5 q6 q7 q8 q9 q10 q11 => wpAny_pure (hQ x y h' tk f0' f1' a' b' q1 q2 q3 q4 q5 q6 q7 q8 q9 q10 q11)) (F.args_zip_next_1 _))))
theorem pyNext_zip_end {z TI TO i1 i2:Addr} {fp1 fp2:List Addr} {n1:Nat} {P1:Nat → Value → Prop} {S1:Nat → Heap → Prop} {f0 a b:Value} {f1:Bool} {Q:Option Value → Shared → Prop}
    (X:ZApart z TI TO i1 i2 fp1 fp2) (D1:Draws prog w A.in1 i1 fp1 n1 P1 S1) (hz:s.heap.get? z = some (ZipO TI TO f0 f1)) (h0:OutOK s.heap f0) (hTI:IsPair s.heap TI (.ref i1) (.ref i2)) (hTO:IsPair s.heap TO a b) (st1:S1 n1 s.heap)
    (hQ:∀ h',(∀ c o,c ≠ z → c ≠ TO → c ≠ i1 → c ≠ i2 → s.heap.get? c = some o → h'.get? c = some o) → Q none { s with heap := h' }) : wpAny (model prog w) A (pyNext (.ref z)) Q E s := by
  have hT : s.TypeIs (.ref z) "zip" := ⟨_,hz,rfl⟩
  unfold pyNext
  refine wpAny_bind (wpAny_attempt (wpAny_callSpecial?_slot (name := Str.ofString "__next__") hT F.slot_zip_next
    (wpAny_call_entry F.slot_zip_next hT F.entry_zip_next (zip_end X D1 hz h0 hTI hTO st1 fun h' e hk he => ?_) (F.args_zip_next_1 _))))
  obtain ⟨o,ho,hc⟩ := he
  refine wpAny_bind (wpAny_isInstance (T := "StopIteration") (b := true) ⟨o,ho,hc⟩ isSubtype_stop ?_)
  exact wpAny_pure (hQ _ hk)
end
noncomputable abbrev itO (T:String) (l:Addr) : Obj := { cls := .type (T ++ "_iterator"),data := .fields #[.ref l,.int 0 0] }
theorem meets_zip_newT (l1 l2:Addr) (xs ys:Array Value) :
    Meets (Builtin.«zip.__new__» ⟨[.type "zip",.ref l1,.ref l2],[]⟩) (fun _ R s => s.heap.IsTuple l1 xs ∧ s.heap.IsList l2 ys ∧
      R (.ok (.ret (.ref ((((s.heap.push (itO "tuple" l1)).push (itO "list" l2)).push { cls := .type "tuple",data := .seq #[.ref s.heap.objs.size,.ref (s.heap.push (itO "tuple" l1)).objs.size] }).push { cls := .type "tuple",data := .seq #[.none,.none] }).objs.size)))
        { s with heap := ((((s.heap.push (itO "tuple" l1)).push (itO "list" l2)).push { cls := .type "tuple",data := .seq #[.ref s.heap.objs.size,.ref (s.heap.push (itO "tuple" l1)).objs.size] }).push { cls := .type "tuple",data := .seq #[.none,.none] }).push { cls := .type "zip",data := .fields #[.none,.bool false,.bool false,.ref ((s.heap.push (itO "tuple" l1)).push (itO "list" l2)).objs.size,.ref (((s.heap.push (itO "tuple" l1)).push (itO "list" l2)).push { cls := .type "tuple",data := .seq #[.ref s.heap.objs.size,.ref (s.heap.push (itO "tuple" l1)).objs.size] }).objs.size] } }) :=
  .of_wp fun prog w A R s h => by
    obtain ⟨hp,g,d,tk,os⟩ := s; obtain ⟨hl1,hl2,h⟩ := h
    have hsub := sub_zip
    have hL1 : Heap.IsTuple (Shared.heap ⟨hp,g,d,tk,os⟩) l1 xs := hl1
    have hL2 : Heap.IsList (Shared.heap ⟨hp.push { cls := .type "tuple_iterator",data := .fields #[.ref l1,.int 0 0] },g,d,tk,os⟩) l2 ys := Heap.IsList.push hl2 _
    wp_walk using wpAny_pyIter_tuple hL1,wpAny_pyIter_list hL2
    exact ⟨_,rfl,h⟩
section
variable {prog:Program} {w:World} {A:Around} {E:Value → Shared → Prop} {s:Shared}
theorem call_zip_seq {T:String} {l1 l2:Addr} {xs ys:Array Value} {n1 n2:Nat} {Q:Value → Shared → Prop} (hT:T = "list" ∨ T = "tuple") (hl1:s.heap.get? l1 = some (sq T xs n1)) (hl2:s.heap.get? l2 = some (sq "list" ys n2))
    (h:∀ h',h'.get? (s.heap.objs.size + 4) = some (ZipO (s.heap.objs.size + 2) (s.heap.objs.size + 3) .none false) → IsPair h' (s.heap.objs.size + 2) (.ref s.heap.objs.size) (.ref (s.heap.objs.size + 1)) →
      IsPair h' (s.heap.objs.size + 3) .none .none → h'.get? s.heap.objs.size = some (itO T l1) → h'.get? (s.heap.objs.size + 1) = some (itO "list" l2) →
      (∀ c o,s.heap.get? c = some o → h'.get? c = some o) → Q (.ref (s.heap.objs.size + 4)) { s with heap := h' }) :
    wpAny (model prog w) A (call (.type "zip") [.ref l1,.ref l2]) Q E s := by
  have key : ∀ H1 H2 H3 H4 H5 : Heap,∀ o1 : Obj,o1.isFreed = false → H1 = s.heap.push o1 → H2 = H1.push (itO "list" l2) → H3 = H2.push { cls := .type "tuple",data := .seq #[.ref s.heap.objs.size,.ref H1.objs.size] } → H4 = H3.push { cls := .type "tuple",data := .seq #[.none,.none] } →
      H5 = H4.push { cls := .type "zip",data := .fields #[.none,.bool false,.bool false,.ref H2.objs.size,.ref H3.objs.size] } → o1 = itO T l1 → ({ s with heap := H5 } : Shared).TypeIs (.ref H4.objs.size) "zip" ∧ Q (.ref H4.objs.size) { s with heap := H5 } := by
    intro H1 H2 H3 H4 H5 o1 hf e1 e2 e3 e4 e5 eo
    have z1 : H1.objs.size = s.heap.objs.size + 1 := by rw [e1]; exact Heap.size_push ..
    have z2 : H2.objs.size = s.heap.objs.size + 2 := by rw [e2,Heap.size_push,z1]
    have z3 : H3.objs.size = s.heap.objs.size + 3 := by rw [e3,Heap.size_push,z2]
    have z4 : H4.objs.size = s.heap.objs.size + 4 := by rw [e4,Heap.size_push,z3]
    have g5 : H5.get? H4.objs.size = some (ZipO H2.objs.size H3.objs.size .none false) := by rw [e5]; exact Heap.get?_push_size _ rfl
    have u5 : ∀ a o,H4.get? a = some o → H5.get? a = some o := fun a o q => by rw [e5]; exact Heap.get?_push_of_some _ q
    have u4 : ∀ a o,H3.get? a = some o → H5.get? a = some o := fun a o q => u5 a o (by rw [e4]; exact Heap.get?_push_of_some _ q)
    have u3 : ∀ a o,H2.get? a = some o → H5.get? a = some o := fun a o q => u4 a o (by rw [e3]; exact Heap.get?_push_of_some _ q)
    have u2 : ∀ a o,H1.get? a = some o → H5.get? a = some o := fun a o q => u3 a o (by rw [e2]; exact Heap.get?_push_of_some _ q)
    have g4 : H5.get? H3.objs.size = some { cls := .type "tuple",data := .seq #[.none,.none] } := u5 _ _ (by rw [e4]; exact Heap.get?_push_size _ rfl)
    have g3 : H5.get? H2.objs.size = some { cls := .type "tuple",data := .seq #[.ref s.heap.objs.size,.ref H1.objs.size] } := u4 _ _ (by rw [e3]; exact Heap.get?_push_size _ rfl)
    have g2 : H5.get? H1.objs.size = some (itO "list" l2) := u3 _ _ (by rw [e2]; exact Heap.get?_push_size _ rfl)
    have g1 : H5.get? s.heap.objs.size = some o1 := u2 _ _ (by rw [e1]; exact Heap.get?_push_size _ hf)
    rw [z2,z3,z4] at g5
    rw [z1,z2] at g3
    rw [z3] at g4
    rw [z1] at g2
    rw [z4]
    rw [eo] at g1
    exact ⟨⟨_,g5,rfl⟩,h _ g5 g3 g4 g1 g2 fun c o x => u2 c o (by rw [e1]; exact Heap.get?_push_of_some _ x)⟩
  rcases hT with rfl | rfl
  · exact callType_new F.called_zip (by decide) (F.typeCall_zip_2 _ _) (F.newCall_zip_2 _ _) (fun obj => F.args_object_init_3 obj _ _) F.entry_zip_new
      (meets_zip_new l1 l2 xs ys) ⟨⟨_,hl1,rfl,n1,rfl⟩,⟨_,hl2,rfl,n2,rfl⟩,key _ _ _ _ _ _ rfl rfl rfl rfl rfl rfl rfl⟩
  · exact callType_new F.called_zip (by decide) (F.typeCall_zip_2 _ _) (F.newCall_zip_2 _ _) (fun obj => F.args_object_init_3 obj _ _) F.entry_zip_new
      (meets_zip_newT l1 l2 xs ys) ⟨⟨_,hl1,rfl,n1,rfl⟩,⟨_,hl2,rfl,n2,rfl⟩,key _ _ _ _ _ _ rfl rfl rfl rfl rfl rfl rfl⟩
theorem pyIter_zip {z TI TO:Addr} {f0:Value} {f1:Bool} {Q:Value → Shared → Prop} (hz:s.heap.get? z = some (ZipO TI TO f0 f1)) (h:Q (.ref z) s) : wpAny (model prog w) A (pyIter (.ref z)) Q E s := by
  have hT : s.TypeIs (.ref z) "zip" := ⟨_,hz,rfl⟩
  refine wpAny_pyIter_slot hT F.slot_zip_iter (wpAny_call_entry F.slot_zip_iter hT F.entry_zip_iter ?_ (F.args_zip_iter_1 _))
  show wpAny _ _ (ret (.ref z)) _ _ s
  exact wpAny_pure ⟨_,rfl,"zip",_,hT,F.slot_zip_next.lookup,h⟩
theorem letGo_zip {elts:List Expr} {x1:Nat} {pos:Pos} {z TI TO T:Addr} {f0:Value} {f1:Bool} {Q:Unit → Shared → Prop} (hz:s.heap.get? z = some (ZipO TI TO f0 f1))
    (hQ:∀ h' f0',h'.get? z = some (ZipO TI TO f0' f1) → (f0' = .none ∨ f0' = f0) → Heap.SameBut z s.heap h' → Q () { s with heap := h' }) :
    wpAny (model prog w) A (letOwnedTupleGo (.Tuple elts x1 pos) (.ref z) (.ref T)) Q E s := by
  unfold letOwnedTupleGo
  refine wpAny_bind (wpAny_load hz ?_)
  show wpAny _ _ (if (["enumerate","zip","dict_itemiterator","dict_reverseitemiterator","odict_iterator","itertools.zip_longest","itertools.pairwise"].contains "zip" &&
      (#[f0,.bool f1,.bool false,.ref TI,.ref TO] : Array Value)[0]? == some (rawInt T)) = true then _ else _) Q E s
  split
  · refine wpAny_bind (wpAny_rule ?_)
    show wpAny _ _ (setField (.ref z) 0 .none) Q E s
    exact wpAny_setField_rec hz (by simp) fun h' hz' hs' => hQ h' .none hz' (.inl rfl) hs'
  · exact wpAny_pure (hQ s.heap f0 hz (.inr rfl) (Heap.SameBut.refl ..))
end
noncomputable def zipV : List V → List V → List V
  | x :: xs,y :: ys => .tup [x,y] :: zipV xs ys
  | _,_ => []
theorem zipV_length : ∀ (xs ys:List V),xs.length ≤ ys.length → (zipV xs ys).length = xs.length
  | [],ys,_ => by cases ys <;> rfl
  | x :: xs,[],h => by simp at h
  | x :: xs,y :: ys,h => by simp [zipV,zipV_length xs ys (by simpa using h)]
theorem zipV_get : ∀ (xs ys:List V) (i:Nat) (x y:V),xs[i]? = some x → ys[i]? = some y → (zipV xs ys)[i]? = some (.tup [x,y])
  | [],ys,i,x,y,h,_ => by simp at h
  | _ :: _,[],i,x,y,_,h => by simp at h
  | a :: xs,b :: ys,i,x,y,h1,h2 => by
    cases i with
    | zero => simp at h1 h2; subst h1 h2; rfl
    | succ i => simp at h1 h2; simp [zipV,zipV_get xs ys i x y h1 h2]
section
variable {B:B0} {k:Nat} {c:Cx} {σ:Store} {L:Lc}
structure ZipSt (z TI TO i1 i2:Addr) (S1 S2:Nat → Heap → Prop) (G₀:View) (i:Nat) (G:View) (h:Heap) : Prop where
  at_ : ∃ f0 f1 a b,h.get? z = some (ZipO TI TO f0 f1) ∧ OutOK h f0 ∧ (∀ T : Addr,f0 = rawInt (T:Nat) → ∃ o,G T = some o) ∧ IsPair h TO a b
  pair : IsPair h TI (.ref i1) (.ref i2)
  s1 : S1 i h
  s2 : S2 i h
  le : VLe G₀ G
  gin : ∀ a o,G a = some o → h.get? a = some o
  out : ∀ a ∈ [z,TI,TO,i1,i2],G a = none
theorem zip_step {A:Around} {z TI TO i1 i2:Addr} {fp1 fp2:List Addr} {n1 n2:Nat} {P1 P2:Nat → Value → Prop} {S1 S2:Nat → Heap → Prop} {G₀:View} {xs ys:List V} (X:ZApart z TI TO i1 i2 fp1 fp2) (D1:Draws B.prog B.w A.in1 i1 fp1 n1 P1 S1) (D2:Draws B.prog B.w A.in1 i2 fp2 n2 P2 S2)
    (hP1:∀ i v d,P1 i v → xs[i]? = some d → B.R G₀ v d) (hP2:∀ i v d,P2 i v → ys[i]? = some d → B.R G₀ v d) {i:Nat} {s:Shared} {G:View} {E:Value → Shared → Prop} {Q:Option Value → Shared → Prop} {dx dy:V} (hx:xs[i]? = some dx) (hy:ys[i]? = some dy) (h1:i < n1) (h2:i < n2)
    (st:ZipSt z TI TO i1 i2 S1 S2 G₀ i G s.heap)
    (h:∀ s₂ o,ZipSt z TI TO i1 i2 S1 S2 G₀ (i + 1) (G.add s.heap.objs.size o) s₂.heap → Step G (G.add s.heap.objs.size o) s s₂ → B.R (G.add s.heap.objs.size o) (.ref s.heap.objs.size) (.tup [dx,dy]) → (∀ b o,b ∉ [z,TI,TO,i1,i2] → s.heap.get? b = some o → s₂.heap.get? b = some o) → s₂.gens = s.gens → Q (some (.ref s.heap.objs.size)) s₂) :
    wpAny B.M A (pyNext (.ref z)) Q E s := by
  obtain ⟨⟨f0,f1,a,b,hz,ho,hT,hTO⟩,hTI,s1,s2,l,g,hn⟩ := st
  have hnew : s.heap.get? s.heap.objs.size = none := heap_none _
  have hGn : G s.heap.objs.size = none := by
    cases q : G s.heap.objs.size with
    | none => rfl
    | some o => have := g _ _ q; rw [hnew] at this; cases this
  refine pyNext_zip_item X D1 D2 hz ho hTI hTO s1 s2 h1 h2 fun x y h' tk f0' f1' a' b' p1 p2 hz' ho' hf' hTI' hTO' st1' st2' hT' hk => ?_
  have le' : VLe G (G.add s.heap.objs.size (sq "tuple" #[x,y] 0)) := VLe.add hGn _
  have hk' : ∀ b o,b ∉ [z,TI,TO,i1,i2] → s.heap.get? b = some o → h'.get? b = some o := fun b o hb q => by
    simp only [List.mem_cons,List.not_mem_nil,or_false,not_or] at hb
    exact hk b o hb.1 hb.2.2.1 hb.2.2.2.1 hb.2.2.2.2 q
  have hal : ∀ b o,s.heap.get? b = some o → ∃ o',h'.get? b = some o' := fun b o q => by
    by_cases q1 : b = z
    · subst q1; exact ⟨_,hz'⟩
    · by_cases q2 : b = TO
      · subst q2; exact ⟨_,hTO'⟩
      · by_cases q3 : b = i1
        · subst q3; exact D1.live _ _ st1'
        · by_cases q4 : b = i2
          · subst q4; exact D2.live _ _ st2'
          · exact ⟨o,hk b o q1 q2 q3 q4 q⟩
  have hlv : ∀ a ∈ [z,TI,TO,i1,i2],∃ o,s.heap.get? a = some o := fun a ha => by
    simp only [List.mem_cons,List.not_mem_nil,or_false] at ha
    rcases ha with rfl | rfl | rfl | rfl | rfl
    · exact ⟨_,hz⟩
    · exact ⟨_,hTI⟩
    · exact ⟨_,hTO⟩
    · exact D1.live _ _ s1
    · exact D2.live _ _ s2
  have g' : ∀ a o,(G.add s.heap.objs.size (sq "tuple" #[x,y] 0)) a = some o → h'.get? a = some o := fun a o q => by
    unfold View.add at q
    split at q
    · rename_i e1; subst e1; cases q; exact hT'
    · exact hk' a o (fun hm => by rw [hn a hm] at q; cases q) (g a o q)
  refine h _ (sq "tuple" #[x,y] 0) ⟨⟨f0',f1',a',b',hz',ho',fun T hT2 => ?_,hTO'⟩,hTI',st1',st2',l.trans le',g',fun a ha => ?_⟩ ⟨le',fun a o q => ?_,hal,rfl,fun q => q⟩ ?_ hk' rfl
  · rcases hf' with q2 | q2
    · rw [q2] at hT2
      have e3 : s.heap.objs.size = T := by
        simp only [rawInt,Value.int.injEq,and_true] at hT2
        exact Int.ofNat.inj hT2
      rw [← e3]
      exact ⟨_,View.add_self _ _ _⟩
    · rw [q2] at hT2
      obtain ⟨o,q3⟩ := hT T hT2
      exact ⟨o,le' T o q3⟩
  · unfold View.add
    obtain ⟨o,q⟩ := hlv a ha
    rw [if_neg (Nat.ne_of_lt (Heap.lt_size q))]
    exact hn a ha
  · unfold View.add at q
    split at q
    · rename_i e1; subst e1; exact .inr hnew
    · exact .inl q
  · exact .tup (View.add_self _ _ _) (by simp [sizeLine]) (.cons ((hP1 i x _ p1 hx).mono (l.trans le')) (.cons ((hP2 i y _ p2 hy).mono (l.trans le')) .nil))
theorem ZipSt.frame {A:Around} {z TI TO i1 i2:Addr} {fp1 fp2:List Addr} {n1 n2:Nat} {P1 P2:Nat → Value → Prop} {S1 S2:Nat → Heap → Prop} {G₀:View} (D1:Draws B.prog B.w A.in1 i1 fp1 n1 P1 S1) (D2:Draws B.prog B.w A.in1 i2 fp2 n2 P2 S2)
    (hf1:∀ b ∈ fp1,b ≠ i1 → ∃ o,G₀ b = some o) (hf2:∀ b ∈ fp2,b ≠ i2 → ∃ o,G₀ b = some o) {i:Nat} {G G':View} {h h':Heap} (st:ZipSt z TI TO i1 i2 S1 S2 G₀ i G h) (l':VLe G G') (g':∀ a o,G' a = some o → h'.get? a = some o) (hN:∀ b ∈ [z,TI,TO,i1,i2],G' b = none)
    (hw:∀ b ∈ [z,TI,TO,i1,i2],∀ o,h.get? b = some o → h'.get? b = some o) : ZipSt z TI TO i1 i2 S1 S2 G₀ i G' h' := by
  obtain ⟨⟨f0,f1,a,b,hz,ho,hT,hTO⟩,hTI,s1,s2,l,g,hn⟩ := st
  have hfp : ∀ (fp:List Addr) (it:Addr),it ∈ [z,TI,TO,i1,i2] → (∀ b ∈ fp,b ≠ it → ∃ o,G₀ b = some o) → ∀ b ∈ fp,∀ o,h.get? b = some o → h'.get? b = some o := fun fp it hit hfp b hb o y => by
    by_cases q : b = it
    · exact hw b (by rw [q]; exact hit) o y
    · obtain ⟨o',h1⟩ := hfp b hb q
      have e1 := g b o' (l b o' h1)
      rw [y] at e1
      cases e1
      exact g' b o (l' b o (l b o h1))
  refine ⟨⟨f0,f1,a,b,hw z (by simp) _ hz,?_,fun T hf => ?_,hw TO (by simp) _ hTO⟩,hw TI (by simp) _ hTI,D1.frame i h h' s1 (hfp fp1 i1 (by simp) hf1),D2.frame i h h' s2 (hfp fp2 i2 (by simp) hf2),l.trans l',g',hN⟩
  · rcases ho with q | ⟨T,o,q1,q2⟩
    · exact .inl q
    · obtain ⟨o',q3⟩ := hT T q1
      exact .inr ⟨T,o',q1,g' T o' (l' T o' q3)⟩
  · obtain ⟨o',q3⟩ := hT T hf
    exact ⟨o',l' T o' q3⟩
theorem Itr.zip {A:Around} {elts:List Expr} {x1:Nat} {pos:Pos} {z TI TO i1 i2:Addr} {fp1 fp2:List Addr} {P1 P2:Nat → Value → Prop} {S1 S2:Nat → Heap → Prop} {G₀:View} {xs ys:List V} (X:ZApart z TI TO i1 i2 fp1 fp2) (D1:Draws B.prog B.w A.in1 i1 fp1 xs.length P1 S1) (D2:Draws B.prog B.w A.in1 i2 fp2 ys.length P2 S2)
    (hP1:∀ i v d,P1 i v → xs[i]? = some d → B.R G₀ v d) (hP2:∀ i v d,P2 i v → ys[i]? = some d → B.R G₀ v d) (hf1:∀ b ∈ fp1,b ≠ i1 → ∃ o,G₀ b = some o) (hf2:∀ b ∈ fp2,b ≠ i2 → ∃ o,G₀ b = some o) (hlen:xs.length ≤ ys.length) :
    Itr B A (.Tuple elts x1 pos) z [z,TI,TO,i1,i2] (zipV xs ys) (ZipSt z TI TO i1 i2 S1 S2 G₀) where
  frame := fun i G G' h h' st l' g' hN hw => st.frame D1 D2 hf1 hf2 l' g' hN hw
  item := fun i s G E Q d hd st hg h => by
    have hlt : i < xs.length := by
      have := (List.getElem?_eq_some_iff.mp hd).1
      rw [zipV_length _ _ hlen] at this
      exact this
    have hx := List.getElem?_eq_getElem hlt
    have hy := List.getElem?_eq_getElem (Nat.lt_of_lt_of_le hlt hlen)
    rw [zipV_get _ _ _ _ _ hx hy] at hd
    cases hd
    refine zip_step X D1 D2 hP1 hP2 hx hy hlt (Nat.lt_of_lt_of_le hlt hlen) st fun s₂ o st₂ stp rv hk eg => ⟨_,rfl,?_⟩
    obtain ⟨⟨f0,f1,a,b,hz,ho,hT,hTO⟩,hTI,s1,s2,l,g,hn⟩ := st₂
    refine letGo_zip hz fun h'' f0'' hz'' hf'' hs'' => ?_
    have oth : ∀ b o,b ≠ z → s₂.heap.get? b = some o → h''.get? b = some o := fun b o hb q => (hs''.2 b hb).trans q
    have hTOz := X.TOz
    have hTIz := X.TIz
    have g'' : ∀ a o',(G.add s.heap.objs.size o) a = some o' → h''.get? a = some o' := fun a o' q => oth a o' (fun e => by subst e; rw [hn a (.head _)] at q; cases q) (g a o' q)
    refine h _ _ (G.add s.heap.objs.size o) (stp.trans (Step.grow _ (fun a o' q => by
      by_cases q1 : a = z
      · subst q1; exact ⟨_,hz''⟩
      · exact ⟨o',oth a o' q1 q⟩) rfl rfl)) g'' rv ⟨⟨f0'',f1,a,b,hz'',?_,fun T hf => ?_,oth _ _ hTOz hTO⟩,oth _ _ hTIz hTI,D1.frame _ _ _ s1 fun b hb o q => oth b o (fun e => X.z1 (e ▸ hb)) q,D2.frame _ _ _ s2 fun b hb o q => oth b o (fun e => X.z2 (e ▸ hb)) q,l,g'',hn⟩ fun b o' hb q => oth b o' (fun e => hb (by simp [e])) (hk b o' hb q)
    · rcases hf'' with q | q
      · exact .inl q
      · rw [q]
        refine OutOK.keeps ho fun b o' y => ?_
        by_cases q1 : b = z
        · subst q1; exact ⟨_,hz''⟩
        · exact ⟨o',oth b o' q1 y⟩
    · rcases hf'' with q | q
      · rw [q] at hf; cases hf
      · rw [q] at hf; exact hT T hf
  done := fun s G E Q st hg h => by
    obtain ⟨⟨f0,f1,a,b,hz,ho,hT,hTO⟩,hTI,s1,s2,l,g,hn⟩ := st
    rw [zipV_length _ _ hlen] at s1
    exact pyNext_zip_end X D1 hz ho hTI hTO s1 fun h' hk => h _ (fun b o hb q => by
      simp only [List.mem_cons,List.not_mem_nil,or_false,not_or] at hb
      exact hk b o hb.1 hb.2.2.1 hb.2.2.2.1 hb.2.2.2.2 q) rfl rfl
  self := fun i s G E Q st hg h => by
    obtain ⟨⟨f0,f1,a,b,hz,ho,hT,hTO⟩,_⟩ := st
    exact pyIter_zip hz h
end
section
variable {B:B0} {k:Nat} {c:Cx} {σ:Store} {L:Lc} {Q:V → Prop}
theorem zip_run (hB:B.OK) {R:List V → List V → Prop} {e1 e2:Expr} {p pos:Pos} (hg:isGlob c (nm "zip") = true) (hs1:notStar e1 = true) (hs2:notStar e2 = true)
    (h:EV B k c σ L e1 fun d1 => EV B k c σ L e2 fun d2 => ∃ xs ys,seqV d1 = some xs ∧ d2 = .lst ys ∧ xs.length ≤ ys.length ∧ R xs ys) (A':Around) (hA':A'.handled = none)
    {A:Around} {E:Value → Shared → Prop} {s:Shared} {G:View} {Kp:Heap} {env:Env} {Q':Value → Shared → Prop} (b:Bud k A) (r:Rel B Kp σ G s) (f:FRx B c env L G Kp)
    (hQ:∀ s₂ G₁ z TI TO i1 i2 fp1 fp2 P1 P2 S1 S2 xs ys,Step G G₁ s s₂ → Rel B Kp σ G₁ s₂ → ZApart z TI TO i1 i2 fp1 fp2 → Draws B.prog B.w A' i1 fp1 xs.length P1 S1 → Draws B.prog B.w A' i2 fp2 ys.length P2 S2 →
      (∀ i v d,P1 i v → xs[i]? = some d → B.R G₁ v d) → (∀ i v d,P2 i v → ys[i]? = some d → B.R G₁ v d) → (∀ b ∈ fp1,b ≠ i1 → ∃ o,G₁ b = some o) → (∀ b ∈ fp2,b ≠ i2 → ∃ o,G₁ b = some o) → xs.length ≤ ys.length → xs.length ≤ sizeLine →
      ZipSt z TI TO i1 i2 S1 S2 G₁ 0 G₁ s₂.heap → (∀ a ∈ [z,TI,TO,i1,i2],s.heap.get? a = none ∧ G₁ a = none ∧ ∃ o,s₂.heap.get? a = some o) → R xs ys → Q' (.ref z) s₂) :
    wpAny B.M A (eval (.Call (.Name (nm "zip") p) [e1,e2] [] pos) env) Q' E s := by
  refine wpAny_Call_NameR (name_builtin hB hg r f (v := .type "zip") (by decide) ?_)
  have hev : EVs B k c σ L [e1,e2] fun ds => ∃ d1 ys xs,ds = [d1,.lst ys] ∧ seqV d1 = some xs ∧ xs.length ≤ ys.length ∧ R xs ys :=
    EVs_cons hs1 (h.mono fun d1 h1 => EVs_cons hs2 (h1.mono fun d2 hd => hd.elim fun xs hd => hd.elim fun ys q => EVs_nil ⟨d1,ys,xs,by rw [q.2.1],q.1,q.2.2⟩))
  refine PySem.callWith_type (plainArgs (e := e1) fun y hy => by simp at hy; rcases hy with rfl | rfl <;> assumption) (evalArgs_of hs1 hev b r f fun us s₁ G₁ ds st r₁ rl q0 => ?_)
  obtain ⟨d1,ys,xs,e3,hx,hlen,q⟩ := q0
  rw [e3] at rl
  obtain ⟨u1,u2,eu,ru1,ru2⟩ := rl.inv2
  obtain ⟨T,l1,vs,n,hT,eu1,g1,z1,rl1⟩ := seqV_at ru1 hx
  obtain ⟨l2,us,m,eu2,g2,z2,rl2⟩ := ru2.inv
  rw [eu,eu1,eu2]
  have hl1 := r₁.gin _ _ g1
  have hl2 := r₁.gin _ _ g2
  have lt1 : l1 < s₁.heap.objs.size := Heap.lt_size hl1
  have lt2 : l2 < s₁.heap.objs.size := Heap.lt_size hl2
  refine call_zip_seq hT hl1 hl2 fun h' hz hTI hTO hi1 hi2 hk => ?_
  have gtz : ∀ j : Nat,∀ a : Addr,a < s₁.heap.objs.size → a ≠ s₁.heap.objs.size + j := fun j a ha => Nat.ne_of_lt (Nat.lt_of_lt_of_le ha (Nat.le_add_right _ _))
  obtain ⟨S1,D1,hst1⟩ := draws_of (A := A') (it := s₁.heap.objs.size) hA' hT g1 rl1 (Nat.ne_of_lt lt1)
  obtain ⟨S2,D2,hst2⟩ := draws_of (A := A') (it := s₁.heap.objs.size + 1) hA' (.inl rfl) g2 rl2 (gtz 1 l2 lt2)
  have r₂ : Rel B Kp σ G₁ { s₁ with heap := h' } := r₁.grow hk rfl
  have st₂ : Step G₁ G₁ s₁ { s₁ with heap := h' } := Step.grow G₁ (fun a o q => ⟨o,hk a o q⟩) rfl rfl
  have hfresh : ∀ j : Nat,s₁.heap.get? (s₁.heap.objs.size + j) = none := fun j => by
    cases q : s₁.heap.get? (s₁.heap.objs.size + j) with
    | none => rfl
    | some o => exact absurd (Nat.lt_of_lt_of_le (Heap.lt_size q) (Nat.le_add_right _ j)) (Nat.lt_irrefl _)
  have ne : ∀ i j : Nat,i ≠ j → (s₁.heap.objs.size + i : Nat) ≠ s₁.heap.objs.size + j := fun i j hij e => hij (Nat.add_left_cancel e)
  have hmem : ∀ j : Nat,∀ i : Nat,∀ l : Addr,i ≠ j → l < s₁.heap.objs.size → (s₁.heap.objs.size + j : Nat) ∉ ([s₁.heap.objs.size + i,l] : List Addr) := fun j i l hij hl hm => by
    simp only [List.mem_cons,List.not_mem_nil,or_false] at hm
    rcases hm with hm | hm
    · exact ne j i (Ne.symm hij) hm
    · exact gtz j l hl hm.symm
  refine hQ _ G₁ (s₁.heap.objs.size + 4) (s₁.heap.objs.size + 2) (s₁.heap.objs.size + 3) s₁.heap.objs.size (s₁.heap.objs.size + 1) [s₁.heap.objs.size,l1] [s₁.heap.objs.size + 1,l2] _ _ S1 S2 xs ys (st.trans st₂) r₂
    ⟨ne 2 4 (by decide),ne 3 4 (by decide),ne 2 3 (by decide),hmem 4 0 l1 (by decide) lt1,hmem 4 1 l2 (by decide) lt2,hmem 2 0 l1 (by decide) lt1,hmem 2 1 l2 (by decide) lt2,hmem 3 0 l1 (by decide) lt1,hmem 3 1 l2 (by decide) lt2,hmem 0 1 l2 (by decide) lt2,hmem 1 0 l1 (by decide) lt1,.head _,.head _⟩
    D1 D2 (item_rep rl1) (item_rep rl2) (fp_two g1) (fp_two g2) hlen (by rw [← rl1.size]; exact z1)
    ⟨⟨_,_,_,_,hz,.inl rfl,(fun T q => nomatch q),hTO⟩,hTI,hst1 _ hi1 (hk _ _ hl1),hst2 _ hi2 (hk _ _ hl2),VLe.refl _,r₂.gin,fun a ha => ?_⟩ (fun a ha => ?_) q
  · simp only [List.mem_cons,List.not_mem_nil,or_false] at ha
    rcases ha with rfl | rfl | rfl | rfl | rfl
    · exact r₁.noG (hfresh 4)
    · exact r₁.noG (hfresh 2)
    · exact r₁.noG (hfresh 3)
    · exact r₁.noG (hfresh 0)
    · exact r₁.noG (hfresh 1)
  · simp only [List.mem_cons,List.not_mem_nil,or_false] at ha
    rcases ha with rfl | rfl | rfl | rfl | rfl
    · exact ⟨st.gone (hfresh 4),r₁.noG (hfresh 4),_,hz⟩
    · exact ⟨st.gone (hfresh 2),r₁.noG (hfresh 2),_,hTI⟩
    · exact ⟨st.gone (hfresh 3),r₁.noG (hfresh 3),_,hTO⟩
    · exact ⟨st.gone (hfresh 0),r₁.noG (hfresh 0),_,hi1⟩
    · exact ⟨st.gone (hfresh 1),r₁.noG (hfresh 1),_,hi2⟩
theorem SRC_zip (hB:B.OK) {P:List V → Prop} {e1 e2:Expr} {elts:List Expr} {x1:Nat} {tp p pos:Pos} (hg:isGlob c (nm "zip") = true) (hs1:notStar e1 = true) (hs2:notStar e2 = true)
    (h:EV B k c σ L e1 fun d1 => EV B k c σ L e2 fun d2 => ∃ xs ys,seqV d1 = some xs ∧ d2 = .lst ys ∧ xs.length ≤ ys.length ∧ P (zipV xs ys)) : SRC B k c σ L (.Call (.Name (nm "zip") p) [e1,e2] [] pos) (.Tuple elts x1 tp) P := by
  intro A E s G Kp env b r f
  refine zip_run hB hg hs1 hs2 h A.in1 b.2.2 b r f fun s₂ G₁ z TI TO i1 i2 fp1 fp2 P1 P2 S1 S2 xs ys st r₂ X D1 D2 hP1 hP2 hf1 hf2 hlen hz zs hall q => ?_
  obtain ⟨⟨f0,f1,a,b',hzo,_⟩,_⟩ := id zs
  refine pyIter_zip hzo ⟨z,[z,TI,TO,i1,i2],zipV xs ys,_,G₁,rfl,Itr.zip X D1 D2 hP1 hP2 hf1 hf2 hlen,zs,st,r₂,hall,by rw [zipV_length _ _ hlen]; exact hz,q⟩
end
theorem zip_no_len : typeLookup (.type "zip") "__len__" = pure none := by rw [typeLookup_type,builtinLookup_eq_fast]; kernel_rfl
theorem zip_no_hint : typeLookup (.type "zip") "__length_hint__" = pure none := by rw [typeLookup_type,builtinLookup_eq_fast]; kernel_rfl
section
variable {B:B0} {k:Nat} {c:Cx} {σ:Store} {L:Lc} {Q:V → Prop}
theorem zip_loop {A:Around} {R:Result → Shared → Prop} {S z TI TO i1 i2:Addr} {fp1 fp2:List Addr} {P1 P2:Nat → Value → Prop} {S1 S2:Nat → Heap → Prop} {G₀:View} {xs ys:List V} (X:ZApart z TI TO i1 i2 fp1 fp2) (D1:Draws B.prog B.w A.in1.in1 i1 fp1 xs.length P1 S1) (D2:Draws B.prog B.w A.in1.in1 i2 fp2 ys.length P2 S2)
    (hP1:∀ i v d,P1 i v → xs[i]? = some d → B.R G₀ v d) (hP2:∀ i v d,P2 i v → ys[i]? = some d → B.R G₀ v d) (hf1:∀ b ∈ fp1,b ≠ i1 → ∃ o,G₀ b = some o) (hf2:∀ b ∈ fp2,b ≠ i2 → ∃ o,G₀ b = some o) (hlen:xs.length ≤ ys.length) (hz:xs.length ≤ sizeLine) (hSw:S ∉ [z,TI,TO,i1,i2])
    (s₀ s₁:Shared) (hw0:∀ a ∈ [z,TI,TO,i1,i2],s₀.heap.get? a = none) (hS0:s₁.heap.get? S = none)
    (hR:∀ s' G' acc cc,Step G₀ G' s₀ s' → (∀ a o,G' a = some o → s'.heap.get? a = some o) → G' S = none → s'.heap.get? S = some (sq "list" acc cc) → acc.size ≤ sizeLine → B.RL G' acc.toList (zipV xs ys) → (∀ a o,a ∉ [z,TI,TO,i1,i2] → s₁.heap.get? a = some o → s'.heap.get? a = some o) → R (.ok (.ret .none)) s') :
    ∀ (m i:Nat) (G:View) (s:Shared) (acc:Array Value) (cc:Nat),xs.length - i = m → i ≤ xs.length → ZipSt z TI TO i1 i2 S1 S2 G₀ i G s.heap → Step G₀ G s₀ s → G S = none → s.heap.get? S = some (sq "list" acc cc) → acc.size = i → B.RL G acc.toList ((zipV xs ys).take i) → (∀ a o,a ∉ [z,TI,TO,i1,i2] → s₁.heap.get? a = some o → s.heap.get? a = some o) →
      codeAny B.M A (.builtin "list.extend.loop" ⟨[.ref S,.ref z,.none],[]⟩) R s := by
  intro m
  induction m with
  | zero =>
    intro i G s acc cc hm hi zs st hGS hS hacc rl keep
    have hin : i = xs.length := by omega
    subst hin
    refine codeAny_builtin F.entry_extend_loop ?_
    rw [Around.under_plainId F.plain_extend_loop _]
    show wpAny _ A.in1 (pyNext (.ref z) >>= _) _ _ s
    obtain ⟨⟨f0,f1,a,b,hzo,ho,hT,hTO⟩,hTI,s1,s2,l,g,hn⟩ := zs
    refine wpAny_bind (pyNext_zip_end X D1 hzo ho hTI hTO s1 fun h' hk => ?_)
    have hk' : ∀ b o,b ∉ [z,TI,TO,i1,i2] → s.heap.get? b = some o → h'.get? b = some o := fun b o hb q => by
      simp only [List.mem_cons,List.not_mem_nil,or_false,not_or] at hb
      exact hk b o hb.1 hb.2.2.1 hb.2.2.2.1 hb.2.2.2.2 q
    refine wpAny_pure (hR _ G acc cc ⟨st.le,st.new,fun a o q => ?_,st.os,fun q => st.gens q⟩ (fun a o q => hk' a o (fun hm => by rw [hn a hm] at q; cases q) (g a o q)) hGS (hk' S _ hSw hS) (by omega) ?_ fun a o q => ?_)
    · obtain ⟨o',q'⟩ := st.alive a o q
      exact ⟨o',hk' a o' (fun hm => by rw [hw0 a hm] at q; cases q) q'⟩
    · rw [List.take_of_length_le (by rw [zipV_length _ _ hlen]; exact Nat.le_refl _)] at rl
      exact rl
    · exact fun q2 => hk' a o q (keep a o q q2)
  | succ m ih =>
    intro i G s acc cc hm hi zs st hGS hS hacc rl keep
    have hlt : i < xs.length := by omega
    have hx := List.getElem?_eq_getElem hlt
    have hy := List.getElem?_eq_getElem (Nat.lt_of_lt_of_le hlt hlen)
    refine codeAny_builtin F.entry_extend_loop ?_
    rw [Around.under_plainId F.plain_extend_loop _]
    show wpAny _ A.in1 (pyNext (.ref z) >>= _) _ _ s
    refine wpAny_bind (zip_step X D1 D2 hP1 hP2 hx hy hlt (Nat.lt_of_lt_of_le hlt hlen) zs fun s₂ o zs₂ stp rv hk eg₂ => ?_)
    have hS₂ := hk S _ hSw hS
    have hSn : S ≠ s.heap.objs.size := Nat.ne_of_lt (Heap.lt_size hS)
    have hGS₂ : (G.add s.heap.objs.size o) S = none := by
      unfold View.add
      rw [if_neg hSn]
      exact hGS
    show wpAny _ A.in1 (updateSeq S (·.push (.ref s.heap.objs.size)) >>= _) _ _ _
    refine wpAny_bind ?_
    have oth : ∀ b o,b ≠ S → s₂.heap.get? b = some o → (s₂.heap.update S (Obj.mapSeq (·.push (Value.ref s.heap.objs.size)))).get? b = some o := fun b o hb q => (Heap.get?_update_other _ _ (Ne.symm hb)).trans q
    have hS₃ : (s₂.heap.update S (Obj.mapSeq (·.push (Value.ref s.heap.objs.size)))).get? S = some (sq "list" (acc.push (.ref s.heap.objs.size)) (cc + 1)) := by
      rw [Heap.get?_update_self _ hS₂ (by rw [show Obj.mapSeq (·.push (Value.ref s.heap.objs.size)) (sq "list" acc cc) = _ from Obj.mapSeq_push_plain acc cc _]; rfl)]
      exact congrArg some (Obj.mapSeq_push_plain acc cc _)
    refine wpAny_updateSeq hS₂ rfl (wpAny_pure ⟨plainId_quiet F.plain_extend_loop _,?_⟩) (by omega) (by show (acc.push _).size ≤ sizeLine + 1; rw [Array.size_push]; omega)
    refine ih (i + 1) (G.add s.heap.objs.size o) _ (acc.push (.ref s.heap.objs.size)) (cc + 1) (by omega) hlt (zs₂.frame D1 D2 hf1 hf2 (VLe.refl _) (fun a o' q => oth a o' (fun e => by rw [e,hGS₂] at q; cases q) (zs₂.gin a o' q)) zs₂.out fun b hb o' q => oth b o' (fun e => hSw (e ▸ hb)) q) ((st.trans stp).trans (Step.grow _ (fun a o' q => by
      by_cases q1 : a = S
      · subst q1; exact ⟨_,hS₃⟩
      · exact ⟨o',oth a o' q1 q⟩) rfl rfl)) hGS₂ hS₃ (by rw [Array.size_push,hacc]) ?_ (fun a o' hm q => oth a o' (fun e => by rw [e,hS0] at q; cases q) (hk a o' hm (keep a o' hm q)))
    rw [Array.toList_push,List.take_add_one,zipV_get _ _ _ _ _ hx hy]
    exact (rl.mono stp.le).append (.cons rv .nil)
theorem EV_listZip {e1 e2:Expr} {p p2 pos pos2:Pos} (hB:B.OK) (hg1:isGlob c (nm "list") = true) (hg:isGlob c (nm "zip") = true) (hs1:notStar e1 = true) (hs2:notStar e2 = true)
    (h:EV B k c σ L e1 fun d1 => EV B k c σ L e2 fun d2 => ∃ xs ys,seqV d1 = some xs ∧ d2 = .lst ys ∧ xs.length ≤ ys.length ∧ Q (.lst (zipV xs ys))) : EV B k c σ L (.Call (.Name (nm "list") p) [.Call (.Name (nm "zip") p2) [e1,e2] [] pos2] [] pos) Q := by
  intro A E s G Kp env b r f
  refine wpAny_Call_NameR (name_builtin hB hg1 r f (v := .type "list") (by decide) ?_)
  refine PySem.callWith_type (plainArgs (e := e1) fun y hy => by simp at hy; subst hy; rfl) (evalArg1 rfl ?_)
  refine zip_run hB hg hs1 hs2 h A.in1.in1.in1 b.2.2 b r f fun s₂ G₁ z TI TO i1 i2 fp1 fp2 P1 P2 S1 S2 xs ys st r₂ X D1 D2 hP1 hP2 hf1 hf2 hlen hz zs hall q => ?_
  obtain ⟨⟨f0,f1,a0,b0,hzo,ho,hTT,hTO⟩,hTI,s1,s2,l,g,hn⟩ := id zs
  have hsz : s₂.heap.get? s₂.heap.objs.size = none := heap_none _
  have hGS : G₁ s₂.heap.objs.size = none := r₂.none_size
  have hlv : ∀ a ∈ [z,TI,TO,i1,i2],a ≠ s₂.heap.objs.size := fun a ha => by
    obtain ⟨_,_,o,q⟩ := hall a ha
    exact Nat.ne_of_lt (Heap.lt_size q)
  have hSw : s₂.heap.objs.size ∉ [z,TI,TO,i1,i2] := fun hm => hlv _ hm rfl
  have hzS : s₂.heap.objs.size ≠ z := Ne.symm (hlv z (.head _))
  refine callType_codes (Q₁ := fun obj s₁ => obj = .ref s₂.heap.objs.size ∧ s₁ = { s₂ with heap := s₂.heap.push { cls := .type "list",data := .seq #[] } }) F.called_list (F.typeCall_list_1 _) F.entry_list_init (code_list_new _ ⟨rfl,rfl⟩) fun obj s₁ h₁ => ?_
  obtain ⟨rfl,rfl⟩ := h₁
  have hS : (s₂.heap.push { cls := .type "list",data := .seq #[] }).get? s₂.heap.objs.size = some { cls := .type "list",data := .seq #[] } := Heap.get?_push_size _ rfl
  refine ⟨⟨_,hS,rfl⟩,F.args_list_init_2 _ _,?_⟩
  show wpAny _ _ (do let old ← Builtin.List.listItems (.ref s₂.heap.objs.size); Builtin.List.listUpdate (.ref s₂.heap.objs.size) (fun _ => #[]); letGo old.toList.reverse; Builtin.List.listExtendWith (.ref s₂.heap.objs.size) (.ref z) .none) _ _ _
  refine wpAny_bind ?_
  unfold Builtin.List.listItems
  refine wpAny_bind (wpAny_seqItems hS rfl (wpAny_pure ?_))
  show wpAny _ _ (updateSeq s₂.heap.objs.size (fun _ => #[]) >>= fun _ => letGo (#[] : Array Value).toList.reverse >>= fun _ => Builtin.List.listExtendWith (.ref s₂.heap.objs.size) (.ref z) .none) _ _ _
  refine wpAny_bind (wpAny_updateSeq hS rfl ?_)
  obtain ⟨c2,hS₂⟩ : ∃ c2,((s₂.heap.push { cls := .type "list",data := .seq #[] }).update s₂.heap.objs.size (Obj.mapSeq (fun _ => (#[] : Array Value)))).get? s₂.heap.objs.size = some (seqObj "list" #[] c2) := ⟨_,get?_update_seq hS fun _ => #[]⟩
  have up₂ : ∀ b o,s₂.heap.get? b = some o → ((s₂.heap.push { cls := .type "list",data := .seq #[] }).update s₂.heap.objs.size (Obj.mapSeq (fun _ => (#[] : Array Value)))).get? b = some o := fun b o e => (Heap.get?_update_other _ _ (fun q:s₂.heap.objs.size = b => by subst q; rw [hsz] at e; cases e)).trans (Heap.get?_push_of_some _ e)
  generalize (s₂.heap.push { cls := .type "list",data := .seq #[] }).update s₂.heap.objs.size (Obj.mapSeq (fun _ => (#[] : Array Value))) = H₂ at hS₂ up₂
  refine wpAny_bind (wpAny_letGo ?_)
  unfold Builtin.List.listExtendWith
  have hT : ∀ H : Heap,(∀ b o,s₂.heap.get? b = some o → H.get? b = some o) → ({ s₂ with heap := H } : Shared).TypeIs (.ref z) "zip" := fun H hH => ⟨_,hH _ _ hzo,rfl⟩
  refine wpAny_bind (wpAny_typeOf (hT H₂ up₂) ?_)
  have h1 : Builtin.List.listSameRef (.ref s₂.heap.objs.size) (.ref z) = false := by simp [Builtin.List.listSameRef,hzS]
  have h2 : (Value.type "zip" == Value.type "list") = false := by decide
  have h3 : (Value.type "zip" == Value.type "tuple") = false := by decide
  simp only [h1,h2,h3,Bool.or_false,Bool.false_eq_true,if_false]
  refine wpAny_bind (pyIter_zip (up₂ _ _ hzo) ?_)
  refine wpAny_bind (wpAny_holding ?_)
  unfold Builtin.List.listLengthHint
  refine wpAny_bind (wpAny_specialOf (hT H₂ up₂) zip_no_len ?_)
  show wpAny _ _ (specialOf (Value.ref z) (Str.ofString "__length_hint__") >>= _) _ _ _
  refine wpAny_bind (wpAny_specialOf (hT H₂ up₂) zip_no_hint ?_)
  refine wpAny_pure ?_
  show wpAny _ _ (rule "list.extend.makes-room" >>= fun _ => Builtin.List.listTouch (.ref s₂.heap.objs.size) >>= fun _ =>
    again (.builtin "list.extend.loop" ⟨[.ref s₂.heap.objs.size,.ref z,.none],[]⟩)) _ _ _
  refine wpAny_bind (wpAny_rule ?_)
  refine wpAny_bind ?_
  show wpAny _ _ (updateSeq s₂.heap.objs.size (·.push .none) >>= fun _ => updateSeq s₂.heap.objs.size (·.pop)) _ _ _
  refine wpAny_bind (wpAny_updateSeq hS₂ rfl ?_)
  obtain ⟨c3,hS₃⟩ : ∃ c3,(H₂.update s₂.heap.objs.size (Obj.mapSeq (·.push Value.none))).get? s₂.heap.objs.size = some (seqObj "list" (#[].push Value.none) c3) := ⟨_,get?_update_seq hS₂ (·.push Value.none)⟩
  refine wpAny_updateSeq (hz := by seq_fits) hS₃ rfl ?_
  obtain ⟨c4,hS₄⟩ : ∃ c4,((H₂.update s₂.heap.objs.size (Obj.mapSeq (·.push Value.none))).update s₂.heap.objs.size (Obj.mapSeq (·.pop))).get? s₂.heap.objs.size = some (seqObj "list" ((#[].push Value.none).pop) c4) := ⟨_,get?_update_seq hS₃ (·.pop)⟩
  have up₄ : ∀ b o,s₂.heap.get? b = some o → ((H₂.update s₂.heap.objs.size (Obj.mapSeq (·.push Value.none))).update s₂.heap.objs.size (Obj.mapSeq (·.pop))).get? b = some o := fun b o e => by
    have hb : s₂.heap.objs.size ≠ b := fun q => by subst q; rw [hsz] at e; cases e
    exact (Heap.get?_update_other _ _ hb).trans ((Heap.get?_update_other _ _ hb).trans (up₂ b o e))
  generalize (H₂.update s₂.heap.objs.size (Obj.mapSeq (·.push Value.none))).update s₂.heap.objs.size (Obj.mapSeq (·.pop)) = H₄ at hS₄ up₄
  have hp0 : ((#[].push Value.none).pop : Array Value) = #[] := rfl
  rw [hp0] at hS₄
  have st₄ : Step G₁ G₁ s₂ { s₂ with heap := H₄ } := Step.grow G₁ (fun a o e => ⟨o,up₄ a o e⟩) rfl rfl
  have hw0 : ∀ a ∈ [z,TI,TO,i1,i2],s.heap.get? a = none := fun a ha => (hall a ha).1
  have hS0 : s.heap.get? s₂.heap.objs.size = none := by
    cases q2 : s.heap.get? s₂.heap.objs.size with
    | none => rfl
    | some o => obtain ⟨o',q3⟩ := st.alive _ _ q2; rw [hsz] at q3; cases q3
  have stS : Step G₁ G₁ s { s₂ with heap := H₄ } := ⟨VLe.refl _,fun a o q2 => .inl q2,fun a o q2 => by
    obtain ⟨o',q3⟩ := st.alive a o q2
    exact ⟨o',up₄ a o' q3⟩,st.os,st.gens⟩
  refine wpAny_pure ⟨plainId_quiet F.plain_extend_loop _,zip_loop (A := A.in1) X D1 D2 hP1 hP2 hf1 hf2 hlen hz hSw s s₂ hw0 hsz (fun s' G' acc cc st' gin' hGS' hS' hsz' rl' keep => ⟨rfl,?_⟩) xs.length 0 G₁ { s₂ with heap := H₄ } #[] c4 (by omega) (Nat.zero_le _)
    (zs.frame D1 D2 hf1 hf2 (VLe.refl _) (fun a o q2 => up₄ a o (g a o q2)) hn fun b hb o q2 => up₄ b o q2) stS hGS hS₄ rfl .nil fun a o _ q2 => up₄ a o q2⟩
  have hSs : s.heap.get? s₂.heap.objs.size = none := hS0
  have stt : Step G G' s s' := ⟨st.le.trans st'.le,fun a o q2 => (st'.new a o q2).elim (fun q3 => st.new a o q3) .inr,st'.alive,st'.os,st'.gens⟩
  have hws : ∀ a ∈ [z,TI,TO,i1,i2],Kp.get? a = none ∧ ∀ m,(a,m) ∉ σ := fun a ha => ⟨nK_of r (hw0 a ha),fun m => nS_of r (hw0 a ha) m⟩
  have r' : Rel B Kp σ G' s' := by
    refine ⟨r₂.bas.trans st'.le,gin',fun a o e => keep a o (fun hm => by rw [(hws a hm).1] at e; cases e) (r₂.kin a o e),⟨fun a m hm => ?_,r₂.sto.nodup⟩,r₂.hid⟩
    obtain ⟨q1,q2,o,q3,q4⟩ := r₂.sto.at_ a m hm
    refine ⟨?_,q2,o,keep a o (fun hm' => (hws a hm').2 m hm) q3,q4.mono st'.le⟩
    cases e : G' a with
    | none => rfl
    | some o' =>
      obtain ⟨_,_,o₀,p3,_⟩ := r.sto.at_ a m hm
      rcases st'.new a o' e with q5 | q5
      · rw [q1] at q5; cases q5
      · rw [p3] at q5; cases q5
  exact ⟨_,_,stt.addv hGS' hSs,r'.addv hS' hGS' (fun m => nS_of r hSs m),.lst (View.add_self _ _ _) hsz' (rl'.mono (VLe.add hGS' _)),q⟩
end
end Mine
end
section
namespace Mine
open PySem PySem.Calls PyProof.Rows
noncomputable def isI : V → Bool
  | .int _ => true
  | _ => false
noncomputable def isPL : List V → Bool
  | [_,y] => isI y
  | _ => false
noncomputable def isPI : V → Bool
  | .tup xs => isPL xs
  | _ => false
noncomputable def allI (xs:List V) : Bool := xs.all isPI
theorem isPI_inv {d:V} (h:isPI d = true) : ∃ x i,d = .tup [x,.int i] := by
  cases d with
  | tup xs => cases xs with
    | nil => exact noB h
    | cons x r => cases r with
      | nil => exact noB h
      | cons y r => cases r with
        | nil => cases y with
          | int i => exact ⟨x,i,rfl⟩
          | _ => exact noB h
        | cons _ _ => exact noB h
  | _ => exact noB h
noncomputable def gexOk (gs:Scope) (xa xb:Str) : Bool :=
  !gs.isCoroutine && gs.kind == .function && gs.names.all (fun x => x.2 != .cell && x.2 != .free) && gs.names.lookup (".0" : Str) == some .local && gs.names.lookup xa == some .local && gs.names.lookup xb == some .local &&
    !(xa == xb) && gs.names.lookup (nm "type") == some .globalImplicit && gs.names.lookup (nm "int") == some .globalImplicit && okName xb
noncomputable abbrev gexElt (xb:Str) (p1 p2 p3 p4 p5:Pos) : Expr := .Compare (.Call (.Name (nm "type") p1) [.Name xb p2] [] p3) [.Is] [.Name (nm "int") p4] p5
theorem allI_at {B:B0} {G:View} {vs:Array Value} {xs:List V} (rl:B.RL G vs.toList xs) (ha:allI xs = true) (j:Nat) (hj:j < vs.size) : ∃ t us n va i tk,vs[j]? = some (.ref t) ∧ G t = some (sq "tuple" us n) ∧ us = #[va,.int i tk] := by
  have hv : vs.toList[j]? = some vs[j] := by rw [Array.getElem?_toList]; exact Array.getElem?_eq_getElem hj
  obtain ⟨d,hd,rv⟩ := rl.getV hv
  obtain ⟨x,i,e⟩ := isPI_inv (List.all_eq_true.mp ha d (List.mem_of_getElem? hd))
  rw [e] at rv
  obtain ⟨t,us,n,et,g,z,l⟩ := rv.inv
  obtain ⟨va,vb,e,r1,r2⟩ := l.inv2
  obtain ⟨tk,e2⟩ := r2.inv
  rw [e2] at e
  exact ⟨t,us,n,va,i,tk,by rw [← et]; exact Array.getElem?_eq_getElem hj,g,by rw [← Array.toArray_toList (xs := us),e]⟩
theorem allI_fun {B:B0} {G:View} {vs:Array Value} {xs:List V} (rl:B.RL G vs.toList xs) (ha:allI xs = true) : ∃ F : Nat → Addr × Array Value,∀ j,(∃ va i tk,(F j).2 = #[va,.int i tk]) ∧ (j < vs.size → ∃ nn,vs[j]? = some (.ref (F j).1) ∧ G (F j).1 = some (sq "tuple" (F j).2 nn)) := by
  have hpt : ∀ j,∃ tu : Addr × Array Value,(∃ va i tk,tu.2 = #[va,.int i tk]) ∧ (j < vs.size → ∃ nn,vs[j]? = some (.ref tu.1) ∧ G tu.1 = some (sq "tuple" tu.2 nn)) := fun j => by
    by_cases hj : j < vs.size
    · obtain ⟨t,us,nn,va,i,tk,e1,e2,e3⟩ := allI_at rl ha j hj
      exact ⟨(t,us),⟨va,i,tk,e3⟩,fun _ => ⟨nn,e1,e2⟩⟩
    · exact ⟨(0,#[.none,.int 0 0]),⟨_,_,_,rfl⟩,fun h => absurd h hj⟩
  exact ⟨fun j => (hpt j).choose,fun j => (hpt j).choose_spec⟩
section
variable {B:B0} {k:Nat} {c:Cx} {σ:Store} {L:Lc} {Q:V → Prop}
theorem gex_elt (hB:B.OK) {gs:Scope} {xb:Str} {p1 p2 p3 p4 p5:Pos} {cenv:Env} {A:Around} {E:Value → Shared → Prop} {s:Shared} {m:Str → Option Value} {i:Int} {t:Tok} (hsc:cenv.scope = gs) (hgl:cenv.globals = mainGlobals) (hbi:cenv.builtins = builtinsNs) (hk:gs.kind = .function)
    (hxb:gs.names.lookup xb = some .local) (hb:okName xb = true) (ht:gs.names.lookup (nm "type") = some .globalImplicit) (hi:gs.names.lookup (nm "int") = some .globalImplicit) (hkeep:∀ b o,B.base.get? b = some o → s.heap.get? b = some o) (hn:s.heap.Ns cenv.locals m) (hm:m xb = some (.int i t)) :
    wpAny B.M A (eval (gexElt xb p1 p2 p3 p4 p5) cenv) (fun y s₃ => y = .bool true ∧ Keeps s s₃) E s := by
  have hkind : cenv.scope.kind = .function := by rw [hsc]; exact hk
  have kd : ∀ x kd,gs.names.lookup x = some kd → cenv.kindOf x = some kd := fun x kd h => by rw [show cenv.kindOf x = cenv.scope.names.lookup x from rfl,hsc]; exact h
  have glb : ∀ (x:Str) (v:Value) (pos:Pos) (Q':Value → Shared → Prop),(x,v) ∈ blts → gs.names.lookup x = some .globalImplicit → okName x = true → Q' v s → wpAny B.M A (eval (.Name x pos) cenv) Q' E s := fun x v pos Q' hx hl ho hq => by
    obtain ⟨m1,m2⟩ := hB.blt x v hx
    refine Name_function_global hkind (kd x _ hl) (loadGlobal_builtin (mg := B.mg) (mb := B.mb) ?_ m1 ?_ m2 hq) (okName_debug ho)
    · rw [hgl]; exact hB.g.keeps hkeep
    · rw [hbi]; exact hB.b.keeps hkeep
  refine wpAny_Compare1 (wpAny_Call_NameR (glb (nm "type") (.type "type") p1 _ (by decide) ht (by decide) ?_)) rfl
  refine PySem.callWith_type rfl ?_
  have harg : wpAny B.M A (eval (.Name xb p2) cenv) (fun v s' => v = .int i t ∧ s' = s) E s := wpAny_Name (wpAny_loadName_local hkind (kd _ _ hxb) hn hm ⟨rfl,rfl⟩) (okName_debug hb)
  refine evalArgs_plain (wpAny_items_cons (wpAny_mono harg (fun v s' hh => ?_) fun _ _ e => e) rfl)
  obtain ⟨rfl,rfl⟩ := hh
  refine wpAny_items_nil ?_
  refine call_type_of (Tx := "int") rfl (by decide) ?_
  refine glb (nm "int") (.type "int") p4 _ (by decide) hi (by decide) ?_
  exact wpAny_is_plain rfl ⟨by simp,_,_,rfl,fun _ _ e => e⟩
theorem gex_code {env:Env} {A:Around} {E:Value → Shared → Prop} {s:Shared} {tc P:Addr} {ps:Array Value} {pos:Pos} {q:Str} {gs:Scope} {Q':Value → Shared → Prop} (hc:env.code = .ref tc) (h1:s.heap.IsCode tc P ps) (h2:s.heap.TableAt tc P ps)
    (h:∀ code h' tk ps',Heap.ExtBut P s.heap h' → s.heap.objs.size ≤ h'.objs.size → h'.IsCode tc P ps' → h'.TableAt tc P ps' → Q' code { s with heap := h',toks := tk }) : wpAny B.M A (genexprCode env pos q gs) Q' E s := by
  cases hnf : codeAmong pos ps.toList with
  | none => exact wpAny_genexprCodeX hc h1 h2 hnf fun c' h' tk hx hge hlt hcode _ htab _ => h _ h' tk _ hx (Nat.le_trans hge (Nat.le_of_lt hlt)) hcode htab
  | some cv => exact wpAny_genexprCode_hit hc h1 hnf (h cv s.heap s.toks ps (Heap.ExtBut.refl _ _) (Nat.le_refl _) h1 h2)
theorem tab_any {h h2:Heap} {c P:Addr} {ps:Array Value} {oc op:Obj} (a1:h.get? c = some oc) (a2:h.get? P = some op) (b1:h2.get? c = some oc) (b2:h2.get? P = some op) (x:h.IsCode c P ps) (y:h.TableAt c P ps) : h2.IsCode c P ps ∧ h2.TableAt c P ps := by
  obtain ⟨o,vs,file,tf,flags,tg,inF,text,tt,op',e1,r1,r2,r3,r4,r5,r6,e2,r7⟩ := x
  obtain ⟨⟨o',vs',f1,f2⟩,f3⟩ := y
  rw [a1] at e1 f1
  rw [a2] at e2 f3
  cases e1; cases f1; cases e2
  exact ⟨⟨_,vs,file,tf,flags,tg,inF,text,tt,_,b1,r1,r2,r3,r4,r5,r6,b2,r7⟩,⟨⟨_,vs',b1,f2⟩,b2.trans f3⟩⟩
theorem left_push {gens:Array GenState} {g:GenState} (h:leftWithCleanup gens = false) (hg:g.bare = true) : leftWithCleanup (gens.push g) = false := by
  unfold leftWithCleanup at h ⊢
  rw [Array.any_push,h,Bool.false_or]
  cases g <;> first | rfl | simpa [GenState.bare] using hg
theorem left_moved {a b:Array GenState} {g:Nat} (h:leftWithCleanup a = false) (m:GenOnlyQ g a b) : leftWithCleanup b = false := by
  have ba : ∀ y ∈ a,y.bare = true := fun y hy => by
    unfold leftWithCleanup at h
    have := Array.any_eq_false.mp h
    obtain ⟨i,hi,e⟩ := Array.getElem_of_mem hy
    have := this i hi
    rw [e] at this
    cases y <;> first | rfl | simpa [GenState.bare] using this
  exact leftWithCleanup_false_of_bare (m.bare ba)
end
section
variable {B:B0} {k:Nat} {c:Cx} {σ:Store} {L:Lc} {Q:V → Prop}
theorem lookup_of_nodup {σ:Store} (h:(σ.map (·.1)).Nodup) {a:Addr} {m:MO} (hm:(a,m) ∈ σ) : σ.lookup a = some m := by
  induction σ with
  | nil => cases hm
  | cons p r ih =>
    obtain ⟨b,n⟩ := p
    simp only [List.map_cons,List.nodup_cons] at h
    rcases List.mem_cons.mp hm with e | e
    · cases e; simp
    · have hne : (a == b) = false := beq_eq_false_iff_ne.mpr fun q => h.1 (by rw [← q]; exact List.mem_map.mpr ⟨_,e,rfl⟩)
      simp only [List.lookup_cons,hne]
      exact ih h.2 e
theorem allInt_end {Kp:Heap} {G G₁:View} {s s₁ s':Shared} {P:Addr} {oP oc:Obj} {ps:Array Value} {h₃:Heap} (st₁:Step G G₁ s s₁) (r₁:Rel B Kp σ G₁ s₁) (hP:(P,MO.tab B.tc P) ∈ σ) (gP:G₁ P = none) (gC:G₁ B.tc = some oc) (hw:∀ bb o,s₁.heap.get? bb = some o → bb ≠ P → s'.heap.get? bb = some o) (hP':s'.heap.get? P = some oP)
    (hC₃:h₃.get? B.tc = some oc) (hP₃:h₃.get? P = some oP) (c3:h₃.IsCode B.tc P ps) (tb3:h₃.TableAt B.tc P ps) (eo:s'.os = s₁.os) (eg:leftWithCleanup s₁.gens = false → leftWithCleanup s'.gens = false) (q:Q (.bool true)) : Res B Kp σ Q G s (.bool true) s' := by
  have hgx : ∀ a o,G₁ a = some o → a ≠ P := fun a o e q => by rw [q,gP] at e; exact noS e
  have st' : Step G₁ G₁ s₁ s' := ⟨VLe.refl _,fun _ _ h => .inl h,fun bb o e => by
    by_cases hbP : bb = P
    · rw [hbP]; exact ⟨_,hP'⟩
    · exact ⟨o,hw bb o e hbP⟩,eo,eg⟩
  refine ⟨G₁,.bool true,st₁.trans st',⟨r₁.bas,fun bb o e => hw bb o (r₁.gin bb o e) (hgx bb o e),fun bb o e => hw bb o (r₁.kin bb o e) (fun q => by rw [q,r₁.hid _ _ hP] at e; exact noS e),⟨fun bb mm hm => ?_,r₁.sto.nodup⟩,r₁.hid⟩,.bool true,q⟩
  obtain ⟨h1,h2,o,h3,h4⟩ := r₁.sto.at_ bb mm hm
  by_cases hbP : bb = P
  · subst hbP
    have e1 := lookup_of_nodup r₁.sto.nodup hm
    rw [lookup_of_nodup r₁.sto.nodup hP] at e1
    rw [← Option.some.inj e1]
    exact ⟨h1,.inr ⟨_,_,rfl⟩,oP,hP',oc,ps,gC,fun hh a1 a2 => tab_any hC₃ hP₃ a1 a2 c3 tb3⟩
  · exact ⟨h1,h2,o,hw bb o h3 hbP,h4⟩
structure GexOK (gs:Scope) (xa xb:Str) : Prop where
  o1 : gs.isCoroutine = false
  o2 : gs.kind = .function
  o3 : ∀ x ∈ gs.names,x.2 ≠ .cell ∧ x.2 ≠ .free
  o4 : gs.names.lookup (".0" : Str) = some .local
  o5 : gs.names.lookup xa = some .local
  o6 : gs.names.lookup xb = some .local
  o7 : xa ≠ xb
  o8 : gs.names.lookup (nm "type") = some .globalImplicit
  o9 : gs.names.lookup (nm "int") = some .globalImplicit
  o10 : okName xb = true
theorem gexOk_of {gs:Scope} {xa xb:Str} (h:gexOk gs xa xb = true) : GexOK gs xa xb := by
  unfold gexOk at h
  simp only [Bool.and_eq_true,Bool.not_eq_true',beq_iff_eq,beq_eq_false_iff_ne,List.all_eq_true,bne_iff_ne] at h
  exact ⟨h.1.1.1.1.1.1.1.1.1,h.1.1.1.1.1.1.1.1.2,h.1.1.1.1.1.1.1.2,h.1.1.1.1.1.1.2,h.1.1.1.1.1.2,h.1.1.1.1.2,h.1.1.1.2,h.1.1.2,h.1.2,h.2⟩
theorem lt_limit {A:Around} (b:Bud k A) : A.depth < recursionLimit := Nat.lt_of_le_of_lt (Nat.le_trans (Nat.le_add_right _ _) b.1) (by decide)
theorem EV_allInt (hB:B.OK) {iter:Expr} {xa xb:Str} {pa pb pt p p1 p2 p3 p4 p5 pos gpos:Pos} {kt:Nat} {gs:Scope} (hg:isGlob c (nm "all") = true) (hgen:c.gen = true) (hok:gexOk gs xa xb = true) (hfold:∀ env x,genFold iter env x = pure x)
    (h:EV B k c σ L iter fun d => (∃ P,(P,MO.tab B.tc P) ∈ σ) ∧ ∃ xs,d = .lst xs ∧ allI xs = true ∧ Q (.bool true)) :
    EV B k c σ L (.Call (.Name (nm "all") p) [.GeneratorExp (gexElt xb p1 p2 p3 p4 p5) [⟨.Tuple [.Name xa pa,.Name xb pb] kt pt,iter,[],0⟩] gs gpos] [] pos) Q := by
  intro A E s G Kp env b r f
  have o := gexOk_of hok
  have hcl : closureFor gs env = pure (cl0 env gs.names []) := closureFor_eq fun x hx hf => absurd hf (o.o3 x hx).2
  refine wpAny_Call_NameR (name_builtin hB hg r f (v := .builtin "all") (by decide) ?_)
  suffices key : wpAny B.M A (spliced (backTo pos (starEach [.GeneratorExp (gexElt xb p1 p2 p3 p4 p5) [⟨.Tuple [.Name xa pa,.Name xb pb] kt pt,iter,[],0⟩] gs gpos] env))) (fun vs s' => wpAny B.M A (call (.builtin "all") vs) (Res B Kp σ Q G s) E s') E s by
    refine callWith_builtin rfl ?_
    rw [starEach_cons rfl] at key ⊢
    exact evalArgs_plain key
  refine wpAny_items_cons ?_ rfl
  refine wpAny_GeneratorExp_walksQT b.2.2 o.o1 hcl (fun y hy => (o.o3 y hy).1) o.o4 o.o5 o.o6 o.o7 o.o2 (lt_limit b) (Res.run (h A E s G Kp env b r f) fun xv s₁ G₁ d st₁ r₁ rv hh => ?_) (hfold env)
  obtain ⟨⟨P,hP⟩,xs,e0,hall,q⟩ := hh
  rw [e0] at rv
  obtain ⟨l,vs,n,e0,g,z,rl⟩ := rv.inv
  rw [e0]
  have hl := r₁.gin _ _ g
  obtain ⟨gP,_,oP,heP,oc,ps,gC,htab⟩ := r₁.sto.at_ _ _ hP
  refine wpAny_pyIter_list ⟨_,hl,rfl,n,rfl⟩ ?_
  have hk₂ : ∀ a o,s₁.heap.get? a = some o → (s₁.heap.push { cls := .type "list_iterator",data := .fields #[.ref l,.int 0 0] }).get? a = some o := fun a o e => Heap.get?_push_of_some _ e
  generalize hs₂ : ({ s₁ with heap := s₁.heap.push { cls := .type "list_iterator",data := .fields #[.ref l,.int 0 0] } } : Shared) = s₂
  have hh₂ : s₂.heap = s₁.heap.push { cls := .type "list_iterator",data := .fields #[.ref l,.int 0 0] } := by rw [← hs₂]
  have hI₂ : s₂.heap.IsListIter s₁.heap.objs.size l 0 := ⟨_,by rw [hh₂]; exact Heap.get?_push_size _ rfl,rfl,rfl⟩
  have k₂ : ∀ a o,s₁.heap.get? a = some o → s₂.heap.get? a = some o := fun a o e => by rw [hh₂]; exact hk₂ a o e
  have r₂ : Rel B Kp σ G₁ s₂ := r₁.grow k₂ rfl
  have keep₂ := r₂.keeps
  obtain ⟨t1,t2⟩ := htab s₂.heap (r₂.gin _ _ gC) (k₂ _ _ heP)
  refine ⟨hB.nolimit.keeps keep₂,gex_code (f.code hgen) t1 t2 fun code h₃ tk ps' hx₃ hz₃ c3 tb3 => ?_⟩
  have hIP : s₁.heap.objs.size ≠ P := fun e => absurd (Heap.lt_size heP) (by rw [e]; exact Nat.lt_irrefl _)
  have hgx : ∀ a o,G₁ a = some o → a ≠ P := fun a o e q => by rw [q,gP] at e; exact noS e
  have gin₃ : ∀ a o,G₁ a = some o → h₃.get? a = some o := fun a o e => hx₃ a o (hgx a o e) (r₂.gin a o e)
  have keep₃ : ∀ a o,B.base.get? a = some o → h₃.get? a = some o := fun a o e => gin₃ a o (r₁.bas a o e)
  obtain ⟨bm,ob,M⟩ := hB.bmod
  have M₃ := M.keeps keep₃
  refine wpAny_builtinsFor (by rw [f.glob]; exact M₃.ns) M₃.name M₃.ne M₃.obj M₃.cls M₃.dict M₃.data ?_
  obtain ⟨F,hF⟩ := allI_fun rl hall
  have hne : l ≠ s₁.heap.objs.size := Nat.ne_of_lt (Heap.lt_size hl)
  have hTI : ∀ j,j < vs.size → (F j).1 ≠ s₁.heap.objs.size := fun j hj => by
    obtain ⟨nn,e1,e2⟩ := (hF j).2 hj
    exact Nat.ne_of_lt (Heap.lt_size (r₁.gin _ _ e2))
  have hIlt : s₁.heap.objs.size < h₃.objs.size := Nat.lt_of_lt_of_le (by rw [hh₂,heap_size_push]; exact Nat.lt_succ_self _) hz₃
  have hI₃ : h₃.IsListIter s₁.heap.objs.size l 0 := by
    obtain ⟨o,e1,e2⟩ := hI₂
    exact ⟨o,hx₃ _ _ hIP e1,e2⟩
  have hst : ∀ k,k < vs.size → h₃.IsTuple (F k).1 (F k).2 := fun j hj => by
    obtain ⟨nn,e1,e2⟩ := (hF j).2 hj
    exact ⟨_,gin₃ _ _ e2,rfl,nn,rfl⟩
  have hlim := hB.nolimit.keeps keep₃
  refine ⟨s₁.heap.objs.size,_,[s₁.heap.objs.size],vs.size,fun j v => v = (F j).2,_,_,fun _ => true,fun _ y => y = .bool true,rfl,fun A' hA' => WalksU.listOfTuples hA' _ l hne vs (fun j => (F j).1) (fun j => (F j).2) (fun j hj => by obtain ⟨nn,e1,_⟩ := (hF j).2 hj; exact e1) hTI,fun i vals hv => ?_,⟨hI₃,⟨_,gin₃ _ _ g,rfl,n,rfl⟩,hst⟩,fun bb hb => ?_,hlim,?_,fun href hk => ⟨?_,?_⟩,fun a h₅ tk' gst hbare hlt hsz₅ hk₅ W hat => ?_⟩
  · subst hv
    obtain ⟨va,i,tk,e⟩ := (hF _).1
    exact ⟨_,_,e⟩
  · rcases List.mem_cons.mp hb with rfl | hb
    · exact hIlt
    · rcases List.mem_cons.mp hb with rfl | hb
      · exact Heap.lt_size (gin₃ _ _ g)
      · obtain ⟨j,hj,rfl⟩ := List.mem_map.mp hb
        obtain ⟨o,e,_⟩ := hst j (List.mem_range.mp hj)
        exact Heap.lt_size e
  · intro hm
    simp only [List.mem_singleton] at hm
    obtain ⟨_,hn,_⟩ := hB.nolimit.keeps r₁.keeps
    have := hn.lt
    rw [hm] at this
    exact Nat.lt_irrefl _ this
  · intro A' E' i va vb s₂' m₂ _ _ _ _ _ _
    exact wpAny_pure ⟨rfl,_,_,rfl,fun _ _ e => e⟩
  · intro A' E' i va vb s₂' m₂ hA' hv _ hns hma hmb hkp
    obtain ⟨va',j,tk,e⟩ := (hF i).1
    have e2 : (#[va,vb] : Array Value) = #[va',.int j tk] := hv.trans e
    have e3 : vb = .int j tk := by
      have := congrArg (fun a:Array Value => a[1]?) e2
      simpa using this
    subst e3
    refine gex_elt hB (gs := gs) rfl f.glob rfl o.o2 o.o6 o.o10 o.o8 o.o9 (fun bb o e => ?_) hns hmb
    have e1 := keep₃ bb o e
    refine hkp bb (List.mem_range.mpr (Heap.lt_size e1)) (fun hm => ?_) o (hk bb o e1)
    simp only [List.mem_singleton] at hm
    have := Heap.lt_size (r₁.keeps _ _ e)
    rw [hm] at this
    exact Nat.lt_irrefl _ this
  · refine wpAny_items_nil ?_
    have W1 := WalksS.in4_1 W
    refine call_all_walkS (W1.self 0 _ _ _ hat ⟨a,_,_,_,_,_,_,fun _ => true,rfl,W1,hat,fun i v s' Q' E' hp hq => ?_,fun s' mv => ?_⟩)
    · obtain ⟨_,_,rfl⟩ := hp
      exact wpAny_truthy_bool hq
    · have out : ∀ bb : Addr,bb < s₁.heap.objs.size → bb ∉ [h₃.objs.size,s₁.heap.objs.size] := fun bb lt hm => by
        rcases List.mem_cons.mp hm with q | hm
        · rw [q] at lt; exact Nat.lt_irrefl _ (Nat.lt_trans lt hIlt)
        · rw [List.mem_singleton.mp hm] at lt; exact Nat.lt_irrefl _ lt
      have hPt : h₃.get? P = some _ := tb3.2
      rw [show ((List.range (passing (fun _ => true) vs.size 0).length).all fun _ => true) = true by simp]
      exact allInt_end st₁ r₁ hP gP gC (fun bb o e hbP => mv.heap bb o (out bb (Heap.lt_size e)) (hk₅ bb o (hx₃ bb o hbP (k₂ bb o e)))) (mv.heap P _ (out P (Heap.lt_size heP)) (hk₅ P _ hPt)) (gin₃ _ _ gC) hPt c3 tb3 (mv.os.trans (by rw [← hs₂])) (fun hcl => left_moved (left_push (by rw [← hs₂]; exact hcl) hbare) mv.gens) q
end
end Mine
end
section
namespace Mine

set_option genSizeOfSpec false
set_option genInjectivity false
open PySem PySem.Calls PyProof.Rows
noncomputable def notSlice : Expr → Bool
  | .Slice _ _ _ _ => false
  | _ => true
noncomputable def primName : Pr → Option Str
  | .len => some (nm "len")
  | .type => some (nm "type")
  | .dict => some (nm "dict")
  | .list => some (nm "list")
  | _ => none
inductive Sy where
  | e (x:Expr)
  | es (l:List Expr)
  | o (x:Option Expr)
  | c (x:Expr)
  | r (t it:Expr) (s:Src)
noncomputable def notList : Expr → Bool
  | .List _ _ => false
  | _ => true
inductive Tr : Cx → Sy → CE → Prop
  | lit {c:Cx} {kk:Const} {v:V} {n:Nat} {p:Pos} : cConst kk = some v → Tr c (.e (.Constant kk n p)) (.lit v)
  | loc {c:Cx} {x:Str} {i:Nat} {p:Pos} : isLocal c x = some i → Tr c (.e (.Name x p)) (.var i)
  | gl {c:Cx} {x:Str} {i:Nat} {p:Pos} : isGlob c x = true → c.gls[i]? = some x → Tr c (.e (.Name x p)) (.gl i)
  | ty {c:Cx} {x:Str} {v:Value} {p:Pos} : isGlob c x = true → (x,v) ∈ blts → Tr c (.e (.Name x p)) (.lit (.atom v))
  | tup {c:Cx} {es:List Expr} {ce:CE} {n:Nat} {p:Pos} : Tr c (.es es) ce → Tr c (.e (.Tuple es n p)) (.tup ce)
  | lst {c:Cx} {es:List Expr} {ce:CE} {p:Pos} : Tr c (.es es) ce → Tr c (.e (.List es p)) (.lst ce)
  | bin {c:Cx} {l r:Expr} {op:Operator} {bo:BOp} {a b:CE} {p:Pos} : cBin op = some bo → Tr c (.e l) a → Tr c (.e r) b → Tr c (.e (.BinOp l op r p)) (.bin bo a b)
  | not {c:Cx} {x:Expr} {a:CE} {p:Pos} : Tr c (.e x) a → Tr c (.e (.UnaryOp .Not x p)) (.not a)
  | neg {c:Cx} {x:Expr} {a:CE} {p:Pos} : Tr c (.e x) a → Tr c (.e (.UnaryOp .USub x p)) (.neg a)
  | and {c:Cx} {x y:Expr} {a b:CE} {p:Pos} : Tr c (.e x) a → Tr c (.e y) b → Tr c (.e (.BoolOp .And [x,y] p)) (.and a b)
  | or {c:Cx} {x y:Expr} {a b:CE} {p:Pos} : Tr c (.e x) a → Tr c (.e y) b → Tr c (.e (.BoolOp .Or [x,y] p)) (.or a b)
  | ite {c:Cx} {t x y:Expr} {ct a b:CE} {p:Pos} : Tr c (.e t) ct → Tr c (.e x) a → Tr c (.e y) b → Tr c (.e (.IfExp t x y p)) (.ite ct a b)
  | cmp {c:Cx} {l r:Expr} {op:CmpOp} {a b:CE} {p:Pos} : behindInMarks op r = false → Tr c (.e l) a → Tr c (.e r) b → Tr c (.e (.Compare l [op] [r] p)) (.cmp (cCmp op) a b)
  | rev {c:Cx} {v:Expr} {a:CE} {n:Nat} {p1 p2 p pos:Pos} : Tr c (.e v) a → Tr c (.e (.Subscript v (.Slice none none (some (.UnaryOp .USub (.Constant (.int 1) n p1) p2)) p) pos)) (.rev a)
  | sl {c:Cx} {v:Expr} {lo hi:Option Expr} {a b d:CE} {p pos:Pos} : Tr c (.e v) a → Tr c (.o lo) b → Tr c (.o hi) d → Tr c (.e (.Subscript v (.Slice lo hi none p) pos)) (.sl a b d)
  | idx {c:Cx} {v i:Expr} {a b:CE} {pos:Pos} : notSlice i = true → Tr c (.e v) a → Tr c (.e i) b → Tr c (.e (.Subscript v i pos)) (.idx a b)
  | call {c:Cx} {f:Str} {i:Nat} {e:Expr} {es:List Expr} {ce:CE} {p pos:Pos} : isGlob c f = true → c.fns[i]? = some f → notStar e = true → Tr c (.es (e :: es)) ce → Tr c (.e (.Call (.Name f p) (e :: es) [] pos)) (.call i ce)
  | prim {c:Cx} {f:Str} {pr:Pr} {x:Expr} {a:CE} {p pos:Pos} : isGlob c f = true → primName pr = some f → notStar x = true → Tr c (.e x) a → Tr c (.e (.Call (.Name f p) [x] [] pos)) (.prim pr (.cons a .nil))
  | dictE {c:Cx} {x:Expr} {a:CE} {p p2 pos pos2:Pos} : isGlob c (nm "dict") = true → isGlob c (nm "enumerate") = true → notStar x = true → Tr c (.e x) a → Tr c (.e (.Call (.Name (nm "dict") p) [.Call (.Name (nm "enumerate") p2) [x] [] pos2] [] pos)) (.prim .dictE (.cons a .nil))
  | listItems {c:Cx} {o:Expr} {a:CE} {p ap cp pos:Pos} : isGlob c (nm "list") = true → nullary o = false → (ap.endLine == cp.line) = true → Tr c (.e o) a → Tr c (.e (.Call (.Name (nm "list") p) [.Call (.Attribute o (nm "items") ap) [] [] cp] [] pos)) (.prim .listItems (.cons a .nil))
  | sortedItems {c:Cx} {o:Expr} {a:CE} {p ap cp pos:Pos} : isGlob c (nm "sorted") = true → nullary o = false → (ap.endLine == cp.line) = true → Tr c (.e o) a → Tr c (.e (.Call (.Name (nm "sorted") p) [.Call (.Attribute o (nm "items") ap) [] [] cp] [] pos)) (.prim .sortedItems (.cons a .nil))
  | listZip {c:Cx} {x y:Expr} {a b:CE} {p p2 pos pos2:Pos} : isGlob c (nm "list") = true → isGlob c (nm "zip") = true → notStar x = true → notStar y = true → Tr c (.e x) a → Tr c (.e y) b → Tr c (.e (.Call (.Name (nm "list") p) [.Call (.Name (nm "zip") p2) [x,y] [] pos2] [] pos)) (.prim .listZip (.cons a (.cons b .nil)))
  | allI {c:Cx} {iter:Expr} {a:CE} {xa xb:Str} {pa pb pt p p1 p2 p3 p4 p5 pos gpos:Pos} {kt:Nat} {gs:Scope} : isGlob c (nm "all") = true → c.gen = true → gexOk gs xa xb = true → notSet iter = true → notList iter = true → Tr c (.e iter) a → Tr c (.e (.Call (.Name (nm "all") p) [.GeneratorExp (gexElt xb p1 p2 p3 p4 p5) [⟨.Tuple [.Name xa pa,.Name xb pb] kt pt,iter,[],0⟩] gs gpos] [] pos)) (.prim .allInt (.cons a .nil))
  | get {c:Cx} {o x y:Expr} {a b d:CE} {ap pos:Pos} : nullary o = false → (ap.endLine == pos.line) = true → notStar x = true → notStar y = true → Tr c (.e o) a → Tr c (.e x) b → Tr c (.e y) d → Tr c (.e (.Call (.Attribute o (nm "get") ap) [x,y] [] pos)) (.get a b d)
  | comp {c:Cx} {e:Expr} {ce:CE} : Tr c (.c e) ce → Tr c (.e e) ce
  | nil {c:Cx} : Tr c (.es []) .nil
  | cons {c:Cx} {e:Expr} {es:List Expr} {a b:CE} : notStar e = true → Tr c (.e e) a → Tr c (.es es) b → Tr c (.es (e :: es)) (.cons a b)
  | onone {c:Cx} : Tr c (.o none) (.lit .none)
  | osome {c:Cx} {e:Expr} {a:CE} : Tr c (.e e) a → Tr c (.o (some e)) a
  | one {c:Cx} {elt t it:Expr} {src:Src} {a b:CE} {tg:List Nat} {scope:Scope} {pos:Pos} : compOk c scope = true → ownTgt scope t = true → cTgt (cIn c scope) t = some tg → notSet it = true → Tr c (.r t it src) a → Tr (cIn c scope) (.e elt) b →
      Tr c (.c (.ListComp elt [⟨t,it,[],0⟩] scope pos)) (.comp c.nx (compLocals scope.names c.nx).length src a tg b)
  | two {c:Cx} {elt t it t2 it2:Expr} {src src2:Src} {a a2 b:CE} {tg tg2:List Nat} {scope:Scope} {pos:Pos} : compOk c scope = true → ownTgt scope t = true → cTgt (cIn c scope) t = some tg → notSet it = true → ownTgt scope t2 = true → cTgt (cIn c scope) t2 = some tg2 → notSet it2 = true → (tg2.all fun i => !tg.contains i) = true →
      Tr c (.r t it src) a → Tr (cIn c scope) (.r t2 it2 src2) a2 → Tr (cIn c scope) (.e elt) b →
      Tr c (.c (.ListComp elt [⟨t,it,[],0⟩,⟨t2,it2,[],0⟩] scope pos)) (.comp2 c.nx (compLocals scope.names c.nx).length src a tg src2 a2 tg2 b)
  | seq {c:Cx} {t e:Expr} {a:CE} : Tr c (.e e) a → Tr c (.r t e .seq) (.cons a .nil)
  | range1 {c:Cx} {t x:Expr} {a:CE} {p pos:Pos} : isGlob c (nm "range") = true → notStar x = true → Tr c (.e x) a → Tr c (.r t (.Call (.Name (nm "range") p) [x] [] pos) .range1) (.cons a .nil)
  | range2 {c:Cx} {t x y:Expr} {a b:CE} {p pos:Pos} : isGlob c (nm "range") = true → notStar x = true → notStar y = true → Tr c (.e x) a → Tr c (.e y) b → Tr c (.r t (.Call (.Name (nm "range") p) [x,y] [] pos) .range2) (.cons a (.cons b .nil))
  | enum {c:Cx} {elts:List Expr} {n:Nat} {tp:Pos} {x:Expr} {a:CE} {p pos:Pos} : isGlob c (nm "enumerate") = true → notStar x = true → Tr c (.e x) a → Tr c (.r (.Tuple elts n tp) (.Call (.Name (nm "enumerate") p) [x] [] pos) .enum) (.cons a .nil)
  | zip {c:Cx} {elts:List Expr} {n:Nat} {tp:Pos} {x y:Expr} {a b:CE} {p pos:Pos} : isGlob c (nm "zip") = true → notStar x = true → notStar y = true → Tr c (.e x) a → Tr c (.e y) b → Tr c (.r (.Tuple elts n tp) (.Call (.Name (nm "zip") p) [x,y] [] pos) .zip) (.cons a (.cons b .nil))
noncomputable abbrev TrE (c:Cx) (e:Expr) (ce:CE) : Prop := Tr c (.e e) ce
noncomputable abbrev TrEs (c:Cx) (es:List Expr) (ce:CE) : Prop := Tr c (.es es) ce
noncomputable abbrev TrO (c:Cx) (e:Option Expr) (ce:CE) : Prop := Tr c (.o e) ce
noncomputable abbrev TrC (c:Cx) (e:Expr) (ce:CE) : Prop := Tr c (.c e) ce
noncomputable abbrev TrR (c:Cx) (t it:Expr) (s:Src) (ce:CE) : Prop := Tr c (.r t it s) ce
noncomputable def optW {α:Type} (o:Option α) (P:α → Prop) : Prop :=
  match o with
  | some a => P a
  | none => False
theorem optW_some {α:Type} {o:Option α} {P:α → Prop} (h:optW o P) : ∃ a,o = some a ∧ P a := by
  cases o with
  | none => exact h.elim
  | some a => exact ⟨a,rfl,h⟩
noncomputable def slotW (o:Option (Option V)) (P:V → Prop) : Prop :=
  match o with
  | some a => optW a P
  | none => False
theorem slotW_some {o:Option (Option V)} {P:V → Prop} (h:slotW o P) : ∃ a,o = some (some a) ∧ P a := by
  cases o with
  | none => exact h.elim
  | some a => obtain ⟨d,e,q⟩ := optW_some h; exact ⟨d,by rw [e],q⟩
noncomputable def lstV : V → Option (List V)
  | .lst xs => some xs
  | _ => none
theorem lstV_some {x:V} {xs:List V} (h:lstV x = some xs) : x = .lst xs := by
  cases x with
  | lst ys => rw [Option.some.inj h]
  | _ => exact noS h
noncomputable def primW (tc:Addr) (σ:Store) (p:Pr) (vs:List V) (Q:V → Prop) : Prop :=
  match vs with
  | [x] => (match p with
    | .len => lenW σ x Q
    | .type => typeW x Q
    | .dict => dictW x Q
    | .list => optW (seqV x) fun xs => Q (.lst xs)
    | .dictE => optW (seqV x) fun xs => xs.length ≤ 1000 ∧ Q (.ed xs)
    | .listItems => optW (dictOfV σ x) fun kvs => kvs.length ≤ 1000 ∧ Q (.lst (itemsV kvs))
    | .sortedItems => optW (dictOfV σ x) fun kvs => kvs.length ≤ 2 ∧ Q (.lst (itemsV (sortKV kvs)))
    | .allInt => (∃ P,(P,MO.tab tc P) ∈ σ) ∧ optW (lstV x) fun xs => allI xs = true ∧ Q (.bool true)
    | _ => False)
  | [x,y] => (match p with
    | .listZip => optW (seqV x) fun xs => optW (lstV y) fun ys => xs.length ≤ ys.length ∧ Q (.lst (zipV xs ys))
    | _ => False)
  | _ => False
noncomputable def srcW (s:Src) (vs:List V) (P:List V → Prop) : Prop :=
  match s with
  | .range1 => ranW vs P
  | .range2 => ranW vs P
  | .seq => (match vs with
    | [x] => optW (srcOf x) fun xs => xs.length ≤ sizeLine ∧ P xs
    | _ => False)
  | .enum => (match vs with
    | [x] => optW (seqV x) fun xs => P (enumV 0 xs)
    | _ => False)
  | .zip => (match vs with
    | [x,y] => optW (seqV x) fun xs => optW (lstV y) fun ys => xs.length ≤ ys.length ∧ P (zipV xs ys)
    | _ => False)
noncomputable def compW (f:Lc → (V → Prop) → Prop) (tg:List Nat) (L:Lc) : List V → List V → (V → Prop) → Prop
  | [],acc,Q => Q (.lst acc)
  | x :: xs,acc,Q => ∃ L',bindT tg x L = some L' ∧ f L' fun y => compW f tg L xs (acc ++ [y]) Q
noncomputable def compI (f:Lc → (V → Prop) → Prop) (tg:List Nat) (L:Lc) : List V → List V → (List V → Prop) → Prop
  | [],acc,N => N acc
  | x :: xs,acc,N => ∃ L',bindT tg x L = some L' ∧ acc.length ≤ 100000 ∧ f L' fun y => compI f tg L xs (acc ++ [y]) N
noncomputable def comp2W (g:Lc → (List V → Prop) → Prop) (f:Lc → (V → Prop) → Prop) (tg tg2:List Nat) (L:Lc) : List V → List V → (V → Prop) → Prop
  | [],acc,Q => acc.length ≤ 100000 ∧ Q (.lst acc)
  | x :: xs,acc,Q => ∃ L',bindT tg x L = some L' ∧ g L' fun ys => compI f tg2 L' ys acc fun acc' => comp2W g f tg tg2 L xs acc' Q
noncomputable def newL0 (n0 cnt:Nat) (L:Lc) : Lc := L.take n0 ++ List.replicate cnt none
section
variable (B:B0) (k:Nat) (σ:Store)
mutual
noncomputable def evW : CE → Lc → (V → Prop) → Prop
  | .lit v,L,Q => Q v
  | .var i,L,Q => slotW L[i]? Q
  | .gl i,L,Q => optW B.gv[i]? Q
  | .nil,_,_ => False
  | .cons _ _,_,_ => False
  | .tup es,L,Q => evWs es L fun ds => ds.length ≤ sizeLine ∧ Q (.tup ds)
  | .lst es,L,Q => evWs es L fun ds => ds.length ≤ sizeLine ∧ Q (.lst ds)
  | .idx e i,L,Q => evW e L fun x => evW i L fun y => idxW σ x y Q
  | .sl e lo hi,L,Q => evW e L fun x => evW lo L fun y => evW hi L fun z => slW σ x y z Q
  | .rev e,L,Q => evW e L fun x => revW σ x Q
  | .bin op a b,L,Q => evW a L fun x => evW b L fun y => binW σ op x y Q
  | .cmp op a b,L,Q => evW a L fun x => evW b L fun y => cmpW op x y Q
  | .not a,L,Q => evW a L fun x => notW x Q
  | .neg a,L,Q => evW a L fun x => negW x Q
  | .and a b,L,Q => evW a L fun d => ∃ p,d = .bool p ∧ (p = true → evW b L Q) ∧ (p = false → Q (.bool false))
  | .or a b,L,Q => evW a L fun d => ∃ p,d = .bool p ∧ (p = false → evW b L Q) ∧ (p = true → Q (.bool true))
  | .ite t a b,L,Q => tvW t L fun p => (p = true → evW a L Q) ∧ (p = false → evW b L Q)
  | .call f es,L,Q => evWs es L fun vs => ∃ v,CallP B k f vs σ v ∧ Q v
  | .prim p es,L,Q => evWs es L fun vs => primW B.tc σ p vs Q
  | .get d i x,L,Q => evW d L fun a => isD σ a = true ∧ evW i L fun y => evW x L fun z => getW σ a y z Q
  | .comp n0 cnt src it tg elt,L,Q => evWs it L fun vs => srcW src vs fun xs => compW (evW elt) tg (newL0 n0 cnt L) xs [] Q
  | .comp2 n0 cnt src it tg src2 it2 tg2 elt,L,Q => evWs it L fun vs => srcW src vs fun xs => comp2W (fun L' P => evWs it2 L' fun ws => srcW src2 ws P) (evW elt) tg tg2 (newL0 n0 cnt L) xs [] Q
noncomputable def evWs : CE → Lc → (List V → Prop) → Prop
  | .nil,L,Q => Q []
  | .cons e es,L,Q => evW e L fun d => evWs es L fun ds => Q (d :: ds)
  | _,_,_ => False
noncomputable def tvW : CE → Lc → (Bool → Prop) → Prop
  | .not a,L,Q => tvW a L fun p => Q (!p)
  | .and a b,L,Q => tvW a L fun p => (p = true → tvW b L Q) ∧ (p = false → Q false)
  | .or a b,L,Q => tvW a L fun p => (p = false → tvW b L Q) ∧ (p = true → Q true)
  | .ite t a b,L,Q => tvW t L fun p => (p = true → tvW a L Q) ∧ (p = false → tvW b L Q)
  | .cmp op a b,L,Q => evW a L fun x => evW b L fun y => cmpW op x y fun d => ∃ p,d = .bool p ∧ Q p
  | .lit v,L,Q => ∃ p,v = .bool p ∧ Q p
  | .var i,L,Q => slotW L[i]? fun d => ∃ p,d = .bool p ∧ Q p
  | .idx e i,L,Q => evW e L fun x => evW i L fun y => idxW σ x y fun d => ∃ p,d = .bool p ∧ Q p
  | .call f es,L,Q => evWs es L fun vs => ∃ v,CallP B k f vs σ v ∧ ∃ p,v = .bool p ∧ Q p
  | .prim pr es,L,Q => evWs es L fun vs => primW B.tc σ pr vs fun d => ∃ p,d = .bool p ∧ Q p
  | .gl _,_,_ => False
  | .nil,_,_ => False
  | .cons _ _,_,_ => False
  | .tup _,_,_ => False
  | .lst _,_,_ => False
  | .sl _ _ _,_,_ => False
  | .rev _,_,_ => False
  | .bin _ _ _,_,_ => False
  | .neg _,_,_ => False
  | .get _ _ _,_,_ => False
  | .comp _ _ _ _ _ _,_,_ => False
  | .comp2 _ _ _ _ _ _ _ _ _,_,_ => False
end
end
end Mine
end
section
namespace Mine
open PySem PySem.Calls PyProof.Rows
structure CxOK (B:B0) (c:Cx) : Prop where
  fns : c.fns = B.fns
  gls : c.gls = B.gls
theorem CxOK.in_ {B:B0} {c:Cx} (h:CxOK B c) (scope:Scope) : CxOK B (cIn c scope) := ⟨h.fns,h.gls⟩
theorem notSlice_ok {i:Expr} (h:notSlice i = true) : ∀ o j,subscripted i false o j = operate [o,j] (getItem o j) := by
  intro o j
  cases i <;> first | rfl | cases h
theorem notSet_ok {it:Expr} (h:notSet it = true) : ∀ (env:Env) (x:Value),foldedSetIterable it env x = pure x := by
  intro env x
  cases it <;> first | rfl | cases h
section
variable {B:B0} {k:Nat} {σ:Store}
theorem CompP_of {c:Cx} {elt:Expr} {f:Lc → (V → Prop) → Prop} {tg:List Nat} {L:Lc} (h:∀ L' Q',f L' Q' → EV B k c σ L' elt Q') : ∀ (xs acc:List V) (Q:V → Prop),compW f tg L xs acc Q → CompP B k c σ L tg elt xs acc Q
  | [],acc,Q,q => q
  | x :: xs,acc,Q,⟨L',e,q⟩ => ⟨L',e,(h L' _ q).mono fun y hy => CompP_of h xs (acc ++ [y]) Q hy⟩
theorem compI_of {c:Cx} {elt:Expr} {f:Lc → (V → Prop) → Prop} {tg:List Nat} {L:Lc} (h:∀ L' Q',f L' Q' → EV B k c σ L' elt Q') : ∀ (xs acc:List V) (N:List V → Prop),compI f tg L xs acc N → LoopP (OneF B k c σ L tg elt) xs acc fun d => ∃ acc',d = .lst acc' ∧ N acc'
  | [],acc,N,q => ⟨acc,rfl,q⟩
  | x :: xs,acc,N,q => by
    obtain ⟨L',e,hz,q⟩ := q
    exact ⟨L',e,Nat.le_trans hz (by decide),(h L' _ q).mono fun y hy => compI_of h xs (acc ++ [y]) N hy⟩
theorem comp2_of {c:Cx} {elt t2 it2:Expr} {g:Lc → (List V → Prop) → Prop} {f:Lc → (V → Prop) → Prop} {tg tg2:List Nat} {L:Lc} (hg:∀ L' P,g L' P → SRC B k c σ L' it2 t2 P) (hs:∀ {L' P P'},SRC B k c σ L' it2 t2 P → (∀ xs,P xs → P' xs) → SRC B k c σ L' it2 t2 P') (h:∀ L' Q',f L' Q' → EV B k c σ L' elt Q') : ∀ (xs acc:List V) (Q:V → Prop),comp2W g f tg tg2 L xs acc Q →
    LoopP (TwoF B k c σ L tg tg2 t2 it2 elt) xs acc fun d => ∃ acc',d = .lst acc' ∧ acc'.length ≤ sizeLine ∧ Q d
  | [],acc,Q,q => ⟨acc,rfl,Nat.le_trans q.1 (by decide),q.2⟩
  | x :: xs,acc,Q,q => by
    obtain ⟨L',e,q⟩ := q
    refine ⟨L',e,hs (hg L' _ q) fun ys hy => ?_⟩
    have key : ∀ (ys acc:List V) {N N':List V → Prop},(∀ a,N a → N' a) → LoopP (OneF B k c σ L' tg2 elt) ys acc (fun d => ∃ acc',d = .lst acc' ∧ N acc') → LoopP (OneF B k c σ L' tg2 elt) ys acc fun d => ∃ acc',d = .lst acc' ∧ N' acc' := by
      intro ys
      induction ys with
      | nil => intro acc N N' hn q; obtain ⟨a,e,q⟩ := q; exact ⟨a,e,hn a q⟩
      | cons y ys ih => intro acc N N' hn q; obtain ⟨L'',e,hz,q⟩ := q; exact ⟨L'',e,hz,q.mono fun d hd => ih _ hn hd⟩
    exact key ys acc (fun a ha => comp2_of hg hs h xs a Q ha) (compI_of h ys acc _ hy)
theorem EVs.mono' {c:Cx} {L:Lc} {es:List Expr} {Q Q':List V → Prop} (h:EVs B k c σ L es Q) (q:∀ ds,Q ds → Q' ds) : EVs B k c σ L es Q' :=
  fun A E s G Kp env pos b r f => ResL.run (h A E s G Kp env pos b r f) fun _ _ G' d a1 a2 a3 a4 => ⟨G',d,a1,a2,a3,q d a4⟩
theorem TV.mono {c:Cx} {L:Lc} {e:Expr} {Q Q':Bool → Prop} (h:TV B k c σ L e Q) (q:∀ p,Q p → Q' p) : TV B k c σ L e Q' :=
  fun A E s G Kp env b r f => ResB.run (h A E s G Kp env b r f) fun _ _ G' a1 a2 a3 => ⟨G',a1,a2,q _ a3⟩
theorem SRC.mono {c:Cx} {L:Lc} {it t:Expr} {P P':List V → Prop} (h:SRC B k c σ L it t P) (q:∀ xs,P xs → P' xs) : SRC B k c σ L it t P' := h.len fun xs _ => q xs
theorem tgt_ge {c:Cx} {scope:Scope} {t:Expr} {tg:List Nat} (ho:ownTgt scope t = true) (ht:cTgt (cIn c scope) t = some tg) : ∀ i ∈ tg,c.nx ≤ i := by
  have key : ∀ x j,scope.names.lookup x = some .local ∧ okName x = true → isLocal (cIn c scope) x = some j → c.nx ≤ j := fun x j h1 h3 => (compLocals_lookup _ _ _ _ (local_slot h1.1 h1.2 h3)).2.1
  intro i hi
  cases tgt_of ht with
  | one hj => rw [List.mem_singleton.mp hi]; exact key _ _ (own1_of ho) hj
  | two hx hy =>
    rcases List.mem_cons.mp hi with e | hi
    · rw [e]; exact key _ _ (own2_of ho).1 hx
    · rw [List.mem_singleton.mp hi]; exact key _ _ (own2_of ho).2 hy
theorem L0_none {c:Cx} {scope:Scope} {L:Lc} {i:Nat} {d:V} (h:c.nx ≤ i) : (L0 c scope L)[i]? ≠ some (some d) := by
  intro e
  unfold L0 at e
  rw [List.getElem?_append_right (by rw [List.length_take]; omega),List.getElem?_replicate] at e
  split at e <;> cases e
theorem CR_two {c:Cx} {L:Lc} {scope:Scope} {tgt elt iter t2 it2:Expr} {tg tg2:List Nat} {pos:Pos} {Q:V → Prop} (ok:compOk c scope = true) (ho:ownTgt scope tgt = true) (ht:cTgt (cIn c scope) tgt = some tg) (hs:notSet iter = true) (ho2:ownTgt scope t2 = true) (ht2:cTgt (cIn c scope) t2 = some tg2) (hs2:notSet it2 = true) (hd:(tg2.all fun i => !tg.contains i) = true)
    (h:SRC B k c σ L iter tgt fun xs => LoopP (TwoF B k (cIn c scope) σ (L0 c scope L) tg tg2 t2 it2 elt) xs [] fun d => ∃ acc,d = .lst acc ∧ acc.length ≤ sizeLine ∧ Q d) : CR B k c σ L (.ListComp elt [⟨tgt,iter,[],0⟩,⟨t2,it2,[],0⟩] scope pos) scope (eval iter) Q := by
  intro A E s G Kp env pos' use Q' b r f hR
  refine core_two ok ho ht (notSet_ok hs env) ho2 ht2 (notSet_ok hs2) (fun x L' e i hi d hd' => ?_) (fun x L' L'' e i hi => bindT_out ho2 ht2 e i hi) h b r f hR
  have hni : i ∉ tg := fun hm => by
    have := List.all_eq_true.mp hd i hi
    simp only [Bool.not_eq_true',List.contains_eq_mem,decide_eq_false_iff_not] at this
    exact this hm
  have hsame : L'[i]? = (L0 c scope L)[i]? := bindT_get e hni
  rw [hsame] at hd'
  exact L0_none (tgt_ge ho2 ht2 i hi) hd'
theorem genFold_ok {it:Expr} (h:notSet it = true) (h2:notList it = true) (env:Env) (x:Value) : genFold it env x = pure x := by
  cases it <;> first | rfl | (cases h; done) | (cases h2; done)
theorem prim_list {A:Around} {E:Value → Shared → Prop} {s:Shared} {G:View} {Kp:Heap} {v:Value} {x:V} {xs:List V} {Q:V → Prop} (r:Rel B Kp σ G s) (rv:B.R G v x) (hx:seqV x = some xs) (q:Q (.lst xs)) : wpAny B.M A (call (.type "list") [v]) (Res B Kp σ Q G s) E s := by
  obtain ⟨T,a,vs,n,hT,rfl,g,z,l⟩ := seqV_at rv hx
  refine call_list_seq (hsz := z) a hT (r.gin _ _ g) rfl rfl fun h' c' hk hD => ?_
  exact Res.fresh r (heap_none _) hD hk rfl rfl (.lst (View.add_self _ _ _) z (l.mono (VLe.add r.none_size _))) q
theorem args1 {c:Cx} {L:Lc} {x:Expr} {R:V → Prop} (hs:notStar x = true) (h:EV B k c σ L x R) : EVs B k c σ L [x] fun ds => ∃ d,ds = [d] ∧ R d := EVs_cons hs (h.mono fun d hd => EVs_nil ⟨d,rfl,hd⟩)
theorem prim_ok (hB:B.OK) {c:Cx} {L:Lc} {f:Str} {pr:Pr} {x:Expr} {p pos:Pos} {Q:V → Prop} (hg:isGlob c f = true) (hf:primName pr = some f) (hs:notStar x = true) (h:EV B k c σ L x fun d => primW B.tc σ pr [d] Q) : EV B k c σ L (.Call (.Name f p) [x] [] pos) Q := by
  have hs' : ∀ y ∈ [x],notStar y = true := fun y hy => by simp at hy; subst hy; exact hs
  cases pr <;> simp only [primName,Option.some.injEq,reduceCtorEq] at hf <;> subst hf
  · refine EV_blt hB hg (id := "len") (by decide) hs' ((args1 hs h).mono' fun ds ⟨d,e,hd⟩ A E s G Kp vs b r rl => ?_)
    subst e
    cases rl with | cons rv rl => cases rl; exact leaf_len r rv hd
  · refine EV_blty hB hg (id := "dict") (by decide) hs' ((args1 hs h).mono' fun ds ⟨d,e,hd⟩ A E s G Kp vs b r rl => ?_)
    subst e
    cases rl with | cons rv rl => cases rl; exact prim_dict hB b r rv hd
  · refine EV_blty hB hg (id := "list") (by decide) hs' ((args1 hs h).mono' fun ds ⟨d,e,hd⟩ A E s G Kp vs b r rl => ?_)
    subst e
    cases rl with | cons rv rl =>
    cases rl
    obtain ⟨xs,e1,e2⟩ := optW_some hd
    exact prim_list r rv e1 e2
  · refine EV_blty hB hg (id := "type") (by decide) hs' ((args1 hs h).mono' fun ds ⟨d,e,hd⟩ A E s G Kp vs b r rl => ?_)
    subst e
    cases rl with | cons rv rl => cases rl; exact leaf_type r rv hd
end
noncomputable def Snd (B:B0) (k:Nat) (σ:Store) (c:Cx) (ce:CE) : Sy → Prop
  | .e x => (∀ L Q,evW B k σ ce L Q → EV B k c σ L x Q) ∧ (∀ L Q,tvW B k σ ce L Q → TV B k c σ L x Q)
  | .es l => ∀ L Q,evWs B k σ ce L Q → EVs B k c σ L l Q
  | .o x => ∀ L Q,evW B k σ ce L Q → EVo B k c σ L x Q
  | .c x => ∃ elt t it gs scope pos,x = .ListComp elt (⟨t,it,[],0⟩ :: gs) scope pos ∧ (∀ L Q,evW B k σ ce L Q → CR B k c σ L x scope (eval it) Q) ∧ ∀ L Q,¬ tvW B k σ ce L Q
  | .r t it s => ∀ L (P:List V → Prop),evWs B k σ ce L (fun vs => srcW s vs P) → SRC B k c σ L it t P
section
variable {B:B0} {k:Nat} {σ:Store}
theorem mk2 {c:Cx} {e:Expr} {ce:CE} (h1:∀ L Q,evW B k σ ce L Q → EV B k c σ L e Q) (h2:∀ L Q,tvW B k σ ce L Q → evW B k σ ce L fun d => ∃ p,d = .bool p ∧ Q p) (he:∀ env whole,isTrue e env whole = (do let v ← whole; standAt e.pos; holding [v] (truthy v))) :
    (∀ L Q,evW B k σ ce L Q → EV B k c σ L e Q) ∧ (∀ L Q,tvW B k σ ce L Q → TV B k c σ L e Q) := ⟨h1,fun L Q q => TV_val he (h1 L _ (h2 L Q q))⟩
theorem snd (hB:B.OK) {c:Cx} {sy:Sy} {ce:CE} (h:Tr c sy ce) : CxOK B c → Snd B k σ c ce sy := by
  induction h with
  | lit h =>
    intro hc
    exact mk2 (fun L Q q => EV_const h q) (fun L Q q => q) (fun _ _ => rfl)
  | loc h =>
    intro hc
    refine mk2 (fun L Q q => ?_) (fun L Q q => q) (fun _ _ => rfl)
    obtain ⟨d,e,q⟩ := slotW_some q
    exact EV_local h e q
  | gl hg hi =>
    intro hc
    refine ⟨fun L Q q => ?_,fun L Q q => False.elim q⟩
    obtain ⟨d,e,q⟩ := optW_some q
    exact EV_gl hB hg (by rw [← hc.gls]; exact hi) e q
  | ty hg hv =>
    intro hc
    exact mk2 (fun L Q q => EV_tyname hB hg hv q) (fun L Q q => q) (fun _ _ => rfl)
  | tup _ ih =>
    intro hc
    refine ⟨fun L Q q => ?_,fun L Q q => False.elim q⟩
    exact EV_tuple (ih hc L _ q)
  | lst _ ih =>
    intro hc
    refine ⟨fun L Q q => ?_,fun L Q q => False.elim q⟩
    exact EV_list (ih hc L _ q)
  | bin ho _ _ ih1 ih2 =>
    intro hc
    refine ⟨fun L Q q => ?_,fun L Q q => False.elim q⟩
    exact EV_bin ho (((ih1 hc).1 L _ q).mono fun d hd => (ih2 hc).1 L _ hd)
  | not _ ih =>
    intro hc
    refine ⟨fun L Q q => ?_,fun L Q q => ?_⟩
    · exact EV_not ((ih hc).1 L _ q)
    · exact TV_not ((ih hc).2 L _ q)
  | neg _ ih =>
    intro hc
    refine ⟨fun L Q q => ?_,fun L Q q => False.elim q⟩
    exact EV_neg ((ih hc).1 L _ q)
  | and _ _ ih1 ih2 =>
    intro hc
    refine ⟨fun L Q q => ?_,fun L Q q => ?_⟩
    · refine EV_and (((ih1 hc).1 L _ q).mono fun d hd => ?_)
      obtain ⟨p,e,p1,p2⟩ := hd
      exact ⟨p,e,fun hp => (ih2 hc).1 L _ (p1 hp),p2⟩
    · exact TV_and (((ih1 hc).2 L _ q).mono fun p hp => ⟨fun h => (ih2 hc).2 L _ (hp.1 h),hp.2⟩)
  | or _ _ ih1 ih2 =>
    intro hc
    refine ⟨fun L Q q => ?_,fun L Q q => ?_⟩
    · refine EV_or (((ih1 hc).1 L _ q).mono fun d hd => ?_)
      obtain ⟨p,e,p1,p2⟩ := hd
      exact ⟨p,e,fun hp => (ih2 hc).1 L _ (p1 hp),p2⟩
    · exact TV_or (((ih1 hc).2 L _ q).mono fun p hp => ⟨fun h => (ih2 hc).2 L _ (hp.1 h),hp.2⟩)
  | ite _ _ _ ih0 ih1 ih2 =>
    intro hc
    refine ⟨fun L Q q => ?_,fun L Q q => ?_⟩
    · exact EV_ite (((ih0 hc).2 L _ q).mono fun p hp => ⟨fun h => (ih1 hc).1 L _ (hp.1 h),fun h => (ih2 hc).1 L _ (hp.2 h)⟩)
    · exact TV_ite (((ih0 hc).2 L _ q).mono fun p hp => ⟨fun h => (ih1 hc).2 L _ (hp.1 h),fun h => (ih2 hc).2 L _ (hp.2 h)⟩)
  | cmp hm _ _ ih1 ih2 =>
    intro hc
    refine ⟨fun L Q q => ?_,fun L Q q => ?_⟩
    · exact EV_cmp hm (((ih1 hc).1 L _ q).mono fun d hd => (ih2 hc).1 L _ hd)
    · exact TV_cmp hm (((ih1 hc).1 L _ q).mono fun d hd => (ih2 hc).1 L _ hd)
  | rev _ ih =>
    intro hc
    refine ⟨fun L Q q => ?_,fun L Q q => False.elim q⟩
    exact EV_rev ((ih hc).1 L _ q)
  | sl _ _ _ ih1 ih2 ih3 =>
    intro hc
    refine ⟨fun L Q q => ?_,fun L Q q => False.elim q⟩
    exact EV_sl (((ih1 hc).1 L _ q).mono fun d hd => ((ih2 hc L _ hd).mono fun d' hd' => ih3 hc L _ hd'))
  | idx hs _ _ ih1 ih2 =>
    intro hc
    refine mk2 (fun L Q q => ?_) (fun L Q q => q) (fun _ _ => rfl)
    exact EV_idx (notSlice_ok hs) (((ih1 hc).1 L _ q).mono fun d hd => (ih2 hc).1 L _ hd)
  | call hg hi hs _ ih =>
    intro hc
    refine mk2 (fun L Q q => ?_) (fun L Q q => q) (fun _ _ => rfl)
    exact EV_call hB hg (by rw [← hc.fns]; exact hi) hs (ih hc L _ q)
  | prim hg hf hs _ ih =>
    intro hc
    refine mk2 (fun L Q q => ?_) (fun L Q q => q) (fun _ _ => rfl)
    exact prim_ok hB hg hf hs ((ih hc).1 L _ q)
  | dictE hg1 hg2 hs _ ih =>
    intro hc
    refine mk2 (fun L Q q => ?_) (fun L Q q => q) (fun _ _ => rfl)
    exact EV_dictE hB hg1 hg2 hs (((ih hc).1 L _ q).mono fun d hd => optW_some hd)
  | listItems hg hn hl _ ih =>
    intro hc
    refine mk2 (fun L Q q => ?_) (fun L Q q => q) (fun _ _ => rfl)
    exact EV_listItems hB hg hn hl (((ih hc).1 L _ q).mono fun d hd => optW_some hd)
  | sortedItems hg hn hl _ ih =>
    intro hc
    refine mk2 (fun L Q q => ?_) (fun L Q q => q) (fun _ _ => rfl)
    exact EV_sortedItems hB hg hn hl (((ih hc).1 L _ q).mono fun d hd => optW_some hd)
  | listZip hg1 hg2 hs1 hs2 _ _ ih1 ih2 =>
    intro hc
    refine mk2 (fun L Q q => ?_) (fun L Q q => q) (fun _ _ => rfl)
    refine EV_listZip hB hg1 hg2 hs1 hs2 (((ih1 hc).1 L _ q).mono fun d hd => ((ih2 hc).1 L _ hd).mono fun d2 hd2 => ?_)
    obtain ⟨xs,e1,hd2⟩ := optW_some hd2
    obtain ⟨ys,e2,hd2⟩ := optW_some hd2
    exact ⟨_,_,e1,lstV_some e2,hd2⟩
  | allI hg hgen hok h1 h2 _ ih =>
    intro hc
    refine mk2 (fun L Q q => ?_) (fun L Q q => q) (fun _ _ => rfl)
    refine EV_allInt hB hg hgen hok (genFold_ok h1 h2) (((ih hc).1 L _ q).mono fun d hd => ?_)
    obtain ⟨hp,hd⟩ := hd
    obtain ⟨xs,e1,e2⟩ := optW_some hd
    exact ⟨hp,xs,lstV_some e1,e2⟩
  | get hn hl hs1 hs2 _ _ _ ih1 ih2 ih3 =>
    intro hc
    refine ⟨fun L Q q => ?_,fun L Q q => False.elim q⟩
    exact EV_get hn hl hs1 hs2 (((ih1 hc).1 L _ q).mono fun d hd => ⟨hd.1,((ih2 hc).1 L _ hd.2).mono fun d2 hd2 => (ih3 hc).1 L _ hd2⟩)
  | comp _ ih =>
    intro hc
    obtain ⟨elt,t,it,gs,scope,pos,rfl,h1,h2⟩ := ih hc
    exact ⟨fun L Q q => EV_of_CR (h1 L Q q),fun L Q q => (h2 L Q q).elim⟩
  | nil => intro hc L Q q; exact EVs_nil q
  | cons hs _ _ ih1 ih2 =>
    intro hc L Q q
    exact EVs_cons hs (((ih1 hc).1 L _ q).mono fun d hd => ih2 hc L _ hd)
  | onone => intro hc L Q q; exact EVo_none q
  | osome _ ih => intro hc L Q q; exact EVo_some ((ih hc).1 L Q q)
  | one ok ho ht hs _ _ ih1 ih2 =>
    intro hc
    refine ⟨_,_,_,_,_,_,rfl,fun L Q q => ?_,fun L Q q => q⟩
    exact CR_one ok ho ht (notSet_ok hs) ((ih1 hc L _ q).mono fun xs hx => CompP_of (fun L' Q' => (ih2 (hc.in_ _)).1 L' Q') xs [] Q hx)
  | two ok ho ht hs ho2 ht2 hs2 hd _ _ _ ih1 ih2 ih3 =>
    intro hc
    refine ⟨_,_,_,_,_,_,rfl,fun L Q q => ?_,fun L Q q => q⟩
    exact CR_two ok ho ht hs ho2 ht2 hs2 hd ((ih1 hc L _ q).mono fun xs hx => comp2_of (fun L' P hg => ih2 (hc.in_ _) L' P hg) (fun h q => h.mono q) (fun L' Q' => (ih3 (hc.in_ _)).1 L' Q') xs [] Q hx)
  | seq _ ih =>
    intro hc L P q
    exact SRC_seq (((ih hc).1 L _ q).mono fun d hd => optW_some hd)
  | range1 hg hs _ ih =>
    intro hc L P q
    exact SRC_range hB hg (fun y hy => by rw [List.mem_singleton.mp hy]; exact hs) (EVs_cons hs (((ih hc).1 L _ q).mono fun d hd => EVs_nil hd))
  | range2 hg hs1 hs2 _ _ ih1 ih2 =>
    intro hc L P q
    exact SRC_range hB hg (fun y hy => by simp at hy; rcases hy with rfl | rfl <;> assumption) (EVs_cons hs1 (((ih1 hc).1 L _ q).mono fun d hd => EVs_cons hs2 (((ih2 hc).1 L _ hd).mono fun d2 hd2 => EVs_nil hd2)))
  | enum hg hs _ ih =>
    intro hc L P q
    exact SRC_enum hB hg hs (((ih hc).1 L _ q).mono fun d hd => optW_some hd)
  | zip hg hs1 hs2 _ _ ih1 ih2 =>
    intro hc L P q
    refine SRC_zip hB hg hs1 hs2 (((ih1 hc).1 L _ q).mono fun d hd => ((ih2 hc).1 L _ hd).mono fun d2 hd2 => ?_)
    obtain ⟨xs,e1,hd2⟩ := optW_some hd2
    obtain ⟨ys,e2,hd2⟩ := optW_some hd2
    exact ⟨_,_,e1,lstV_some e2,hd2⟩
theorem sE (hB:B.OK) {c:Cx} {e:Expr} {ce:CE} (h:TrE c e ce) (hc:CxOK B c) : (∀ L Q,evW B k σ ce L Q → EV B k c σ L e Q) ∧ (∀ L Q,tvW B k σ ce L Q → TV B k c σ L e Q) := snd hB h hc
theorem sEs (hB:B.OK) {c:Cx} {es:List Expr} {ce:CE} (h:TrEs c es ce) (hc:CxOK B c) : ∀ L Q,evWs B k σ ce L Q → EVs B k c σ L es Q := snd hB h hc
theorem sC (hB:B.OK) {c:Cx} {e:Expr} {ce:CE} (h:TrC c e ce) (hc:CxOK B c) : ∃ elt t it gs scope pos,e = .ListComp elt (⟨t,it,[],0⟩ :: gs) scope pos ∧ (∀ L Q,evW B k σ ce L Q → CR B k c σ L e scope (eval it) Q) ∧ ∀ L Q,¬ tvW B k σ ce L Q := snd hB h hc
theorem sR (hB:B.OK) {c:Cx} {t it:Expr} {src:Src} {a:CE} (h:TrR c t it src a) (hc:CxOK B c) : ∀ L (P:List V → Prop),evWs B k σ a L (fun vs => srcW src vs P) → SRC B k c σ L it t P := snd hB h hc
end
end Mine
end
section
namespace Mine

set_option genSizeOfSpec false
set_option genInjectivity false
open PySem PySem.Calls PyProof.Rows
inductive TrF : Cx → Expr → CE → Prop
  | list {c:Cx} {es:List Expr} {a:CE} {p:Pos} : TrEs c es a → TrF c (.List es p) (.lst a)
  | copy {c:Cx} {v:Expr} {a:CE} {p pos:Pos} : TrE c v a → TrF c (.Subscript v (.Slice none none none p) pos) (.sl a (.lit .none) (.lit .none))
  | mul {c:Cx} {x y:Expr} {a b:CE} {pos:Pos} : TrE c x a → TrE c y b → TrF c (.BinOp x .Mult y pos) (.bin .mul a b)
inductive TrS : Cx → List Stmt → CS → Prop
  | nil {c:Cx} : TrS c [] .nil
  | asg {c:Cx} {x:Str} {i:Nat} {e:Expr} {a:CE} {p pos:Pos} {r:List Stmt} {k:CS} : isLocal c x = some i → plainVal e = true → TrE c e a → TrS c r k → TrS c (.Assign [.Name x p] e pos :: r) (.asg i a k)
  | asgComp {c:Cx} {x:Str} {i:Nat} {e:Expr} {a:CE} {p pos:Pos} {r:List Stmt} {k:CS} : isLocal c x = some i → TrC c e a → TrS c r k → TrS c (.Assign [.Name x p] e pos :: r) (.asg i a k)
  | unp {c:Cx} {ts:List Expr} {xs:List Str} {is:List Nat} {e:Expr} {a:CE} {n:Nat} {p pos:Pos} {r:List Stmt} {k:CS} : tgtNames ts = some xs → xs.map (isLocal c) = is.map some → plainVal e = true → swB c ts xs is e = true → TrE c e a → TrS c r k → TrS c (.Assign [.Tuple ts n p] e pos :: r) (.unp is a k)
  | newL {c:Cx} {x:Str} {i:Nat} {e:Expr} {a:CE} {p pos:Pos} {r:List Stmt} {k:CS} : isLocal c x = some i → plainVal e = true → TrF c e a → TrS c r k → TrS c (.Assign [.Name x p] e pos :: r) (.newL i a k)
  | newD {c:Cx} {x:Str} {i:Nat} {p q pos:Pos} {r:List Stmt} {k:CS} : isLocal c x = some i → TrS c r k → TrS c (.Assign [.Name x p] (.Dict [] [] q) pos :: r) (.newD i k)
  | newLL {c:Cx} {x:Str} {i n:Nat} {p p1 p2 p3 pos:Pos} {r:List Stmt} {k:CS} : isLocal c x = some i → TrS c r k → TrS c (.Assign [.Name x p] (.Tuple [.List [] p1,.List [] p2] n p3) pos :: r) (.newLL i k)
  | asgC {c:Cx} {x f:Str} {i fi:Nat} {e:Expr} {es:List Expr} {a:CE} {p q cp pos:Pos} {r:List Stmt} {k:CS} : isLocal c x = some i → isGlob c f = true → c.fns[fi]? = some f → notStar e = true → TrEs c (e :: es) a → TrS c r k → TrS c (.Assign [.Name x p] (.Call (.Name f q) (e :: es) [] cp) pos :: r) (.asgC i fi a k)
  | unpC {c:Cx} {ts:List Expr} {xs:List Str} {is:List Nat} {n:Nat} {f:Str} {fi:Nat} {e:Expr} {es:List Expr} {a:CE} {p q cp pos:Pos} {r:List Stmt} {k:CS} : tgtNames ts = some xs → xs.map (isLocal c) = is.map some → isGlob c f = true → c.fns[fi]? = some f → notStar e = true → TrEs c (e :: es) a → TrS c r k →
      TrS c (.Assign [.Tuple ts n p] (.Call (.Name f q) (e :: es) [] cp) pos :: r) (.unpC is fi a k)
  | app {c:Cx} {o x:Expr} {a b:CE} {ap cp pos:Pos} {r:List Stmt} {k:CS} : nullary o = false → (ap.endLine == cp.line) = true → notStar x = true → TrE c o a → TrE c x b → TrS c r k → TrS c (.Expr (.Call (.Attribute o (nm "append") ap) [x] [] cp) pos :: r) (.app a b k)
  | sto {c:Cx} {o i v:Expr} {a b d:CE} {p pos:Pos} {r:List Stmt} {k:CS} : plainVal v = true → TrE c o a → TrE c i b → TrE c v d → TrS c r k → TrS c (.Assign [.Subscript o i p] v pos :: r) (.sto a b d k)
  | iff {c:Cx} {t:Expr} {a:CE} {x y r:List Stmt} {cx cy k:CS} {pos:Pos} : TrE c t a → TrS c x cx → TrS c y cy → TrS c r k → TrS c (.If t x y pos :: r) (.iff a cx cy k)
  | whl {c:Cx} {t:Expr} {a:CE} {x r:List Stmt} {cx k:CS} {pos:Pos} : TrE c t a → TrS c x cx → TrS c r k → TrS c (.While t x [] pos :: r) (.whl a cx k)
  | for_ {c:Cx} {t it:Expr} {src:Src} {a:CE} {tg:List Nat} {x r:List Stmt} {cx k:CS} {pos:Pos} : cTgt c t = some tg → notSet it = true → TrR c t it src a → TrS c x cx → TrS c r k → TrS c (.For t it x [] pos :: r) (.for_ src a tg cx k)
  | ret {c:Cx} {e:Expr} {a:CE} {pos:Pos} {r:List Stmt} : TrE c e a → TrS c (.Return (some e) pos :: r) (.ret a)
  | brk {c:Cx} {pos:Pos} {r:List Stmt} : TrS c (.Break pos :: r) .brk
noncomputable abbrev StF := Lc → Store → (Out → Store → Prop) → Prop
noncomputable def thenW (f:StF) (Q:Out → Store → Prop) : Out → Store → Prop
  | .next L,σ => f L σ Q
  | .brk L,σ => Q (.brk L) σ
  | .ret d,σ => Q (.ret d) σ
noncomputable def turnW (go:Lc → Store → Prop) (rest:StF) (Q:Out → Store → Prop) : Out → Store → Prop
  | .next L,σ => go L σ
  | .brk L,σ => rest L σ Q
  | .ret d,σ => Q (.ret d) σ
noncomputable def whlW (t:Lc → Store → (Bool → Prop) → Prop) (body rest:StF) (Q:Out → Store → Prop) : Nat → Lc → Store → Prop
  | 0,_,_ => False
  | n + 1,L,σ => t L σ fun p => (p = true → body L σ (turnW (whlW t body rest Q n) rest Q)) ∧ (p = false → rest L σ Q)
noncomputable def forW (tg:List Nat) (body rest:StF) (Q:Out → Store → Prop) : List V → Lc → Store → Prop
  | [],L,σ => rest L σ Q
  | x :: xs,L,σ => ∃ L',bindT tg x L = some L' ∧ body L' σ (turnW (forW tg body rest Q xs) rest Q)
section
variable (B:B0) (k:Nat)
noncomputable def evF (σ:Store) (e:CE) (L:Lc) (Q:List V → Prop) : Prop :=
  match e with
  | .lst es => evWs B k σ es L fun ds => ds.length ≤ sizeLine ∧ Q ds
  | .sl a _ _ => evW B k σ a L fun x => ∃ xs,listOfV σ x = some xs ∧ Q xs
  | .bin _ a b => evW B k σ a L fun d => evW B k σ b L fun e => ∃ xs n,d = .lst xs ∧ e = .int n ∧ n < 2 ^ 63 ∧ -(2 ^ 63) ≤ n ∧ xs.length * n.toNat ≤ 2 ^ 24 ∧ Q (List.replicate n.toNat xs).flatten
  | _ => False
noncomputable def stW : CS → StF
  | .nil,L,σ,Q => Q (.next L) σ
  | .asg i e r,L,σ,Q => evW B k σ e L fun d => stW r (L.set i (some d)) σ Q
  | .unp is e r,L,σ,Q => evW B k σ e L fun d => ∃ ds,d = .tup ds ∧ ds.length = is.length ∧ stW r (setAll L is ds) σ Q
  | .newL i e r,L,σ,Q => evF B k σ e L fun xs => ∀ a,(∀ m,(a,m) ∉ σ) → stW r (L.set i (some (.ref a))) ((a,.l xs) :: σ) Q
  | .newD i r,L,σ,Q => ∀ a,(∀ m,(a,m) ∉ σ) → stW r (L.set i (some (.ref a))) ((a,.d []) :: σ) Q
  | .newLL i r,L,σ,Q => ∀ a b,(∀ m,(a,m) ∉ σ) → (∀ m,(b,m) ∉ σ) → a ≠ b → stW r (L.set i (some (.tup [.ref a,.ref b]))) ((b,.l []) :: (a,.l []) :: σ) Q
  | .asgC i f es r,L,σ,Q => evWs B k σ es L fun vs => CallM B k f vs σ fun d σ' => stW r (L.set i (some d)) σ' Q
  | .unpC is f es r,L,σ,Q => evWs B k σ es L fun vs => CallM B k f vs σ fun d σ' => ∃ ds,d = .tup ds ∧ ds.length = is.length ∧ stW r (setAll L is ds) σ' Q
  | .app o x r,L,σ,Q => evW B k σ o L fun a => ∃ ad xs,a = .ref ad ∧ σ.lookup ad = some (.l xs) ∧ evW B k σ x L fun d => xs.length ≤ 1000 ∧ stW r L (σ.put ad (.l (xs ++ [d]))) Q
  | .sto o i v r,L,σ,Q => evW B k σ v L fun d => evW B k σ o L fun a => evW B k σ i L fun j => stoW σ a j d fun σ' => stW r L σ' Q
  | .iff c a b r,L,σ,Q => tvW B k σ c L fun p => (p = true → stW a L σ (thenW (stW r) Q)) ∧ (p = false → stW b L σ (thenW (stW r) Q))
  | .whl c b r,L,σ,Q => ∃ n,whlW (fun L σ R => tvW B k σ c L R) (stW b) (stW r) Q n L σ
  | .for_ src it tg b r,L,σ,Q => evWs B k σ it L fun vs => srcW src vs fun xs => forW tg (stW b) (stW r) Q xs L σ
  | .ret e,L,σ,Q => evW B k σ e L fun d => Q (.ret d) σ
  | .brk,L,σ,Q => Q (.brk L) σ
end
section
variable {B:B0} {k:Nat}
theorem sF (hB:B.OK) {c:Cx} {e:Expr} {a:CE} {σ:Store} {L:Lc} {Q:List V → Prop} (h:TrF c e a) (hc:CxOK B c) (q:evF B k σ a L Q) : EVF B k c σ L e Q := by
  cases h with
  | list h => exact EVF_list (sEs hB h hc L _ q)
  | copy h => exact EVF_copy ((sE hB h hc).1 L _ q)
  | mul h1 h2 => exact EVF_mul (((sE hB h1 hc).1 L _ q).mono fun d hd => (sE hB h2 hc).1 L _ hd)
theorem CallM.mono {f:Nat} {args:List V} {σ:Store} {Q Q':V → Store → Prop} (h:CallM B k f args σ Q) (q:∀ d σ',Q d σ' → Q' d σ') : CallM B k f args σ Q' := by
  intro A E s G Kp vals x fa b r rl hf hm
  exact ResM.run (h A E s G Kp vals x fa b r rl hf hm) fun v s' G' σ' d a1 a2 a3 a4 => ⟨G',σ',d,a1,a2,a3,q d σ' a4⟩
theorem sThen {c:Cx} {rest:List Stmt} {Q:Out → Store → Prop} {f:StF} (hr:∀ L σ,f L σ Q → ST B k c σ L rest Q) (o:Out) (σ:Store) (q:thenW f Q o σ) : Then B k c rest Q o σ := by
  cases o with
  | next L => exact hr L σ q
  | brk L => exact q
  | ret d => exact q
theorem sFor {c:Cx} {body rest:List Stmt} {tg:List Nat} {fb fr:StF} {Q:Out → Store → Prop} (hb:∀ L σ Q,fb L σ Q → ST B k c σ L body Q) (hr:∀ L σ,fr L σ Q → ST B k c σ L rest Q) : ∀ (xs:List V) (L:Lc) (σ:Store),forW tg fb fr Q xs L σ → ForP B k c tg body rest Q xs L σ
  | [],L,σ,q => hr L σ q
  | x :: xs,L,σ,q => by
    obtain ⟨L',e,q⟩ := q
    exact ⟨L',e,(hb L' σ _ q).mono fun o σ' ho => by
      cases o with
      | next L => exact sFor hb hr xs L σ' ho
      | brk L => exact hr L σ' ho
      | ret d => exact ho⟩
theorem sWhl {c:Cx} {t:Expr} {body rest:List Stmt} {ft:Lc → Store → (Bool → Prop) → Prop} {fb fr:StF} {Q:Out → Store → Prop} (ht:∀ L σ R,ft L σ R → TV B k c σ L t R) (hb:∀ L σ Q,fb L σ Q → ST B k c σ L body Q) (hr:∀ L σ,fr L σ Q → ST B k c σ L rest Q) :
    ∀ (n:Nat) (L:Lc) (σ:Store),whlW ft fb fr Q n L σ → WhlP B k c t body rest Q n L σ
  | 0,L,σ,q => q
  | n + 1,L,σ,q => by
    refine (ht L σ _ q).mono fun p hp => ⟨fun e => (hb L σ _ (hp.1 e)).mono fun o σ' ho => ?_,fun e => hr L σ (hp.2 e)⟩
    cases o with
    | next L => exact sWhl ht hb hr n L σ' ho
    | brk L => exact hr L σ' ho
    | ret d => exact ho
theorem sS (hB:B.OK) {c:Cx} {body:List Stmt} {cs:CS} (h:TrS c body cs) (hc:CxOK B c) : ∀ L σ Q,stW B k cs L σ Q → ST B k c σ L body Q := by
  induction h with
  | nil => intro L σ Q q; exact ST_nil q
  | asg hx hp he _ ih =>
    intro L σ Q q
    exact ST_asg hx hp (((sE hB he hc).1 L _ q).mono fun d hd => ih _ _ _ hd)
  | asgComp hx he _ ih =>
    intro L σ Q q
    obtain ⟨elt,t,it,gs,scope,pos,rfl,h1,_⟩ := sC (k := k) (σ := σ) hB he hc
    refine ST_asgComp hx ?_
    intro A E s G Kp env pos' use Q' b r f hR
    exact h1 L _ q A E s G Kp env pos' use Q' b r f fun s' C D m G' ys n acc a1 a2 a3 a4 a5 a6 a7 => hR s' C D m G' ys n acc a1 a2 a3 a4 a5 a6 (ih _ _ _ a7)
  | unp hx hi hp hs he _ ih =>
    intro L σ Q q
    refine ST_unp hx hi hp hs (((sE hB he hc).1 L _ q).mono fun d hd => ?_)
    obtain ⟨ds,e1,e2,hd⟩ := hd
    exact ⟨ds,e1,e2,ih _ _ _ hd⟩
  | newL hx hp he _ ih =>
    intro L σ Q q
    refine ST_newL hB hx hp ?_
    intro A E s G Kp env b r f
    refine wpAny_mono (sF hB he hc q A E s G Kp env b r f) (fun v s' hh => ?_) fun _ _ e => e
    obtain ⟨G₁,s₁,vs,n,xs,a1,a2,a3,a4,a5,a6,a7⟩ := hh
    exact ⟨G₁,s₁,vs,n,xs,a1,a2,a3,a4,a5,a6,fun a ha => ih _ _ _ (a7 a ha)⟩
  | newD hx _ ih =>
    intro L σ Q q
    exact ST_newD hB hx fun a ha => ih _ _ _ (q a ha)
  | newLL hx _ ih =>
    intro L σ Q q
    exact ST_newLL hB hx fun a b h1 h2 h3 => ih _ _ _ (q a b h1 h2 h3)
  | asgC hx hg hf hs he _ ih =>
    intro L σ Q q
    exact ST_asgC hB hx hg (by rw [← hc.fns]; exact hf) hs ((sEs hB he hc L _ q).mono' fun vs hv => hv.mono fun d σ' hd => ih _ _ _ hd)
  | unpC hx hi hg hf hs he _ ih =>
    intro L σ Q q
    refine ST_unpC hB hx hi hg (by rw [← hc.fns]; exact hf) hs ((sEs hB he hc L _ q).mono' fun vs hv => hv.mono fun d σ' hd => ?_)
    obtain ⟨ds,e1,e2,hd⟩ := hd
    exact ⟨ds,e1,e2,ih _ _ _ hd⟩
  | app hn hl hs h1 h2 _ ih =>
    intro L σ Q q
    refine ST_app hn hl hs (((sE hB h1 hc).1 L _ q).mono fun a ha => ?_)
    obtain ⟨ad,xs,e1,e2,hd⟩ := ha
    exact ⟨ad,xs,e1,e2,((sE hB h2 hc).1 L _ hd).mono fun d hd => ⟨hd.1,ih _ _ _ hd.2⟩⟩
  | sto hp h1 h2 h3 _ ih =>
    intro L σ Q q
    refine ST_sto hp (((sE hB h3 hc).1 L _ q).mono fun d hd => ((sE hB h1 hc).1 L _ hd).mono fun a ha => ((sE hB h2 hc).1 L _ ha).mono fun j hj => ?_)
    exact stoW_mono hj fun σ' q => ih _ _ _ q
  | iff ht _ _ _ ih1 ih2 ih3 =>
    intro L σ Q q
    refine ST_if (((sE hB ht hc).2 L _ q).mono fun p hp => ⟨fun e => (ih1 L σ _ (hp.1 e)).mono ?_,fun e => (ih2 L σ _ (hp.2 e)).mono ?_⟩)
    · exact sThen fun L σ => ih3 L σ Q
    · exact sThen fun L σ => ih3 L σ Q
  | whl ht _ _ ih1 ih2 =>
    intro L σ Q q
    obtain ⟨n,q⟩ := q
    exact ST_while ⟨n,sWhl (fun L σ R hR => (sE hB ht hc).2 L R hR) (fun L σ Q => ih1 L σ Q) (fun L σ => ih2 L σ Q) n L σ q⟩
  | for_ ht hs hr _ _ ih1 ih2 =>
    intro L σ Q q
    exact ST_for ht (notSet_ok hs) ((sR hB hr hc L _ q).mono fun xs hx => sFor (fun L σ Q => ih1 L σ Q) (fun L σ => ih2 L σ Q) xs L σ hx)
  | ret he =>
    intro L σ Q q
    exact ST_ret ((sE hB he hc).1 L _ q)
  | brk => intro L σ Q q; exact ST_brk q
end
end Mine
end
section
namespace Mine
open PySem PySem.Calls PyProof.Rows
noncomputable abbrev TE (c:Cx) (e:Expr) := Option { ce:CE // TrE c e ce }
noncomputable abbrev TRec := ∀ (c:Cx) (e:Expr),TE c e
noncomputable def stepName (c:Cx) (x:Str) (p:Pos) : TE c (.Name x p) :=
  match h : isLocal c x with
  | some i => some ⟨.var i,.loc h⟩
  | none =>
    if hg : isGlob c x = true then
      if h2 : c.gls[(idxIn c.gls x).getD 0]? = some x then some ⟨.gl _,.gl hg h2⟩
      else if h3 : x = nm "int" then some ⟨.lit (.atom (.type "int")),.ty hg (by subst h3; decide)⟩
      else if h3 : x = nm "bool" then some ⟨.lit (.atom (.type "bool")),.ty hg (by subst h3; decide)⟩
      else none
    else none
noncomputable def stepEs (r:TRec) (c:Cx) : (es:List Expr) → Option { ce:CE // TrEs c es ce }
  | [] => some ⟨.nil,.nil⟩
  | e :: es => if h : notStar e = true then
      match r c e,stepEs r c es with
      | some a,some b => some ⟨.cons a.1 b.1,.cons h a.2 b.2⟩
      | _,_ => none
    else none
noncomputable def stepO (r:TRec) (c:Cx) : (e:Option Expr) → Option { ce:CE // TrO c e ce }
  | none => some ⟨.lit .none,.onone⟩
  | some e => (r c e).map fun a => ⟨a.1,.osome a.2⟩
noncomputable def stepR (r:TRec) (c:Cx) (t it:Expr) : Option ((s:Src) × { ce:CE // TrR c t it s ce }) :=
  match it with
  | .Call (.Name f p) args [] pos =>
    if h : f = nm "range" ∧ isGlob c f = true then
      match args with
      | [x] => if hs : notStar x = true then (r c x).map fun a => ⟨.range1,.cons a.1 .nil,by obtain ⟨rfl,hg⟩ := h; exact .range1 hg hs a.2⟩ else none
      | [x,y] => if hs : notStar x = true ∧ notStar y = true then
          match r c x,r c y with
          | some a,some b => some ⟨.range2,.cons a.1 (.cons b.1 .nil),by obtain ⟨rfl,hg⟩ := h; exact .range2 hg hs.1 hs.2 a.2 b.2⟩
          | _,_ => none
        else none
      | _ => none
    else if h : f = nm "enumerate" ∧ isGlob c f = true then
      match t,args with
      | .Tuple elts n tp,[x] => if hs : notStar x = true then (r c x).map fun a => ⟨.enum,.cons a.1 .nil,by obtain ⟨rfl,hg⟩ := h; exact .enum hg hs a.2⟩ else none
      | _,_ => none
    else if h : f = nm "zip" ∧ isGlob c f = true then
      match t,args with
      | .Tuple elts n tp,[x,y] => if hs : notStar x = true ∧ notStar y = true then
          match r c x,r c y with
          | some a,some b => some ⟨.zip,.cons a.1 (.cons b.1 .nil),by obtain ⟨rfl,hg⟩ := h; exact .zip hg hs.1 hs.2 a.2 b.2⟩
          | _,_ => none
        else none
      | _,_ => none
    else (r c (.Call (.Name f p) args [] pos)).map fun a => ⟨.seq,.cons a.1 .nil,.seq a.2⟩
  | it => (r c it).map fun a => ⟨.seq,.cons a.1 .nil,.seq a.2⟩
noncomputable def stepC (r:TRec) (c:Cx) (e:Expr) : Option { ce:CE // TrC c e ce } :=
  match e with
  | .ListComp elt [⟨t,it,[],0⟩] scope pos =>
    if h : compOk c scope = true ∧ ownTgt scope t = true ∧ notSet it = true then
      match ht : cTgt (cIn c scope) t,stepR r c t it,r (cIn c scope) elt with
      | some tg,some a,some b => some ⟨_,.one h.1 h.2.1 ht h.2.2 a.2.2 b.2⟩
      | _,_,_ => none
    else none
  | .ListComp elt [⟨t,it,[],0⟩,⟨t2,it2,[],0⟩] scope pos =>
    if h : compOk c scope = true ∧ ownTgt scope t = true ∧ notSet it = true ∧ ownTgt scope t2 = true ∧ notSet it2 = true then
      match ht : cTgt (cIn c scope) t,ht2 : cTgt (cIn c scope) t2,stepR r c t it,stepR r (cIn c scope) t2 it2,r (cIn c scope) elt with
      | some tg,some tg2,some a,some a2,some b => if hd : (tg2.all fun i => !tg.contains i) = true then some ⟨_,.two h.1 h.2.1 ht h.2.2.1 h.2.2.2.1 ht2 h.2.2.2.2 hd a.2.2 a2.2.2 b.2⟩ else none
      | _,_,_,_,_ => none
    else none
  | _ => none
noncomputable def stepPrim (r:TRec) (c:Cx) (pr:Pr) (f:Str) (p:Pos) (x:Expr) (pos:Pos) (hg:isGlob c f = true) : TE c (.Call (.Name f p) [x] [] pos) :=
  if h : primName pr = some f ∧ notStar x = true then (r c x).map fun a => ⟨_,.prim hg h.1 h.2 a.2⟩ else none
noncomputable def stepB1 (r:TRec) (c:Cx) (f:Str) (p:Pos) (x:Expr) (pos:Pos) (hg:isGlob c f = true) : TE c (.Call (.Name f p) [x] [] pos) :=
  match x with
  | .GeneratorExp (.Compare (.Call (.Name ty p1) [.Name xb' p2] [] p3) [.Is] [.Name it p4] p5) [⟨.Tuple [.Name xa pa,.Name xb pb] kt pt,iter,[],0⟩] gs gpos =>
    if h : f = nm "all" ∧ ty = nm "type" ∧ it = nm "int" ∧ xb' = xb ∧ c.gen = true ∧ gexOk gs xa xb = true ∧ notSet iter = true ∧ notList iter = true then (r c iter).map fun a => ⟨.prim .allInt (.cons a.1 .nil),by obtain ⟨rfl,rfl,rfl,rfl,h1,h2,h3,h4⟩ := h; exact .allI hg h1 h2 h3 h4 a.2⟩
    else none
  | .Call (.Name g p2) [y] [] pos2 =>
    if h : f = nm "dict" ∧ g = nm "enumerate" ∧ isGlob c g = true ∧ notStar y = true then (r c y).map fun a => ⟨.prim .dictE (.cons a.1 .nil),by obtain ⟨rfl,rfl,hg2,hs⟩ := h; exact .dictE hg hg2 hs a.2⟩
    else if f = nm "len" then stepPrim r c .len f p _ pos hg else if f = nm "dict" then stepPrim r c .dict f p _ pos hg else if f = nm "type" then stepPrim r c .type f p _ pos hg else if f = nm "list" then stepPrim r c .list f p _ pos hg else none
  | .Call (.Name g p2) [y,z] [] pos2 =>
    if h : f = nm "list" ∧ g = nm "zip" ∧ isGlob c g = true ∧ notStar y = true ∧ notStar z = true then
      match r c y,r c z with
      | some a,some b => some ⟨.prim .listZip (.cons a.1 (.cons b.1 .nil)),by obtain ⟨rfl,rfl,hg2,hs1,hs2⟩ := h; exact .listZip hg hg2 hs1 hs2 a.2 b.2⟩
      | _,_ => none
    else if f = nm "len" then stepPrim r c .len f p _ pos hg else if f = nm "dict" then stepPrim r c .dict f p _ pos hg else if f = nm "type" then stepPrim r c .type f p _ pos hg else none
  | .Call (.Attribute o m ap) [] [] cp =>
    if h : f = nm "list" ∧ m = nm "items" ∧ nullary o = false ∧ (ap.endLine == cp.line) = true then (r c o).map fun a => ⟨.prim .listItems (.cons a.1 .nil),by obtain ⟨rfl,rfl,h1,h2⟩ := h; exact .listItems hg h1 h2 a.2⟩
    else if h : f = nm "sorted" ∧ m = nm "items" ∧ nullary o = false ∧ (ap.endLine == cp.line) = true then (r c o).map fun a => ⟨.prim .sortedItems (.cons a.1 .nil),by obtain ⟨rfl,rfl,h1,h2⟩ := h; exact .sortedItems hg h1 h2 a.2⟩
    else none
  | x => if f = nm "len" then stepPrim r c .len f p x pos hg else if f = nm "dict" then stepPrim r c .dict f p x pos hg else if f = nm "type" then stepPrim r c .type f p x pos hg else if f = nm "list" then stepPrim r c .list f p x pos hg else none
noncomputable def stepCall (r:TRec) (c:Cx) (f:Expr) (args:List Expr) (kw:List Keyword) (pos:Pos) : TE c (.Call f args kw pos) :=
  match f,kw with
  | .Name g p,[] =>
    if hg : isGlob c g = true then
      if hf : c.fns[(idxIn c.fns g).getD 0]? = some g then
        match args with
        | [] => none
        | e :: es => if hs : notStar e = true then (stepEs r c (e :: es)).map fun a => ⟨_,.call hg hf hs a.2⟩ else none
      else match args with
        | [x] => stepB1 r c g p x pos hg
        | _ => none
    else none
  | .Attribute o m ap,[] =>
    match args with
    | [x,y] => if h : m = nm "get" ∧ nullary o = false ∧ (ap.endLine == pos.line) = true ∧ notStar x = true ∧ notStar y = true then
        match r c o,r c x,r c y with
        | some a,some b,some d => some ⟨.get a.1 b.1 d.1,by obtain ⟨rfl,h1,h2,h3,h4⟩ := h; exact .get h1 h2 h3 h4 a.2 b.2 d.2⟩
        | _,_,_ => none
      else none
    | _ => none
  | _,_ => none
noncomputable def stepSub (r:TRec) (c:Cx) (v s:Expr) (pos:Pos) : TE c (.Subscript v s pos) :=
  match s with
  | .Slice none none (some (.UnaryOp .USub (.Constant (.int 1) _ _) _)) _ => (r c v).map fun a => ⟨_,.rev a.2⟩
  | .Slice lo hi none _ =>
    match r c v,stepO r c lo,stepO r c hi with
    | some a,some b,some d => some ⟨_,.sl a.2 b.2 d.2⟩
    | _,_,_ => none
  | i => if h : notSlice i = true then
      match r c v,r c i with
      | some a,some b => some ⟨_,.idx h a.2 b.2⟩
      | _,_ => none
    else none
noncomputable def stepE (r:TRec) : TRec := fun c e =>
  match e with
  | .Constant kk n p => (match h:cConst kk with
    | some v => some ⟨_,.lit h⟩
    | none => none)
  | .Name x p => stepName c x p
  | .Tuple es n p => (stepEs r c es).map fun a => ⟨_,.tup a.2⟩
  | .List es p => (stepEs r c es).map fun a => ⟨_,.lst a.2⟩
  | .BinOp l op x p => (match h:cBin op,r c l,r c x with
    | some bo,some a,some b => some ⟨_,.bin h a.2 b.2⟩
    | _,_,_ => none)
  | .UnaryOp op x p => (match op with
    | .Not => (r c x).map fun a => ⟨_,.not a.2⟩
    | .USub => (r c x).map fun a => ⟨_,.neg a.2⟩
    | _ => none)
  | .BoolOp op vs p => (match op,vs with
    | .And,[x,y] => (match r c x,r c y with
      | some a,some b => some ⟨_,.and a.2 b.2⟩
      | _,_ => none)
    | .Or,[x,y] => (match r c x,r c y with
      | some a,some b => some ⟨_,.or a.2 b.2⟩
      | _,_ => none)
    | _,_ => none)
  | .IfExp t x y p => (match r c t,r c x,r c y with
    | some a,some b,some d => some ⟨_,.ite a.2 b.2 d.2⟩
    | _,_,_ => none)
  | .Compare l ops rs p => (match ops,rs with
    | [op],[x] => if h : behindInMarks op x = false then
        (match r c l,r c x with
        | some a,some b => some ⟨_,.cmp h a.2 b.2⟩
        | _,_ => none)
      else none
    | _,_ => none)
  | .Subscript v s p => stepSub r c v s p
  | .Call f args kw p => stepCall r c f args kw p
  | .ListComp elt gs sc p => (stepC r c (.ListComp elt gs sc p)).map fun a => ⟨_,.comp a.2⟩
  | _ => none
noncomputable def tE : Nat → TRec
  | 0 => fun _ _ => none
  | n + 1 => stepE (tE n)
noncomputable abbrev TS (c:Cx) (ss:List Stmt) := Option { cs:CS // TrS c ss cs }
noncomputable def slotsFor (c:Cx) : List Str → List Nat
  | [] => []
  | x :: xs => (isLocal c x).getD 0 :: slotsFor c xs
noncomputable def stepF (r:TRec) (c:Cx) (e:Expr) : Option { ce:CE // TrF c e ce } :=
  match e with
  | .List es p => (stepEs r c es).map fun a => ⟨_,.list a.2⟩
  | .Subscript v (.Slice none none none p) pos => (r c v).map fun a => ⟨_,.copy a.2⟩
  | .BinOp x .Mult y pos => (match r c x,r c y with
    | some a,some b => some ⟨_,.mul a.2 b.2⟩
    | _,_ => none)
  | _ => none
noncomputable def stepMu (r:TRec) (c:Cx) (x:Str) (i:Nat) (hx:isLocal c x = some i) (p:Pos) (e:Expr) (pos:Pos) (ss:List Stmt) (k:{ cs:CS // TrS c ss cs }) : TS c (.Assign [.Name x p] e pos :: ss) :=
  match e with
  | .Dict [] [] q => some ⟨_,.newD hx k.2⟩
  | .Tuple [.List [] p1,.List [] p2] n p3 => some ⟨_,.newLL hx k.2⟩
  | .Call (.Name f q) (e1 :: es) [] cp =>
    if h : isGlob c f = true ∧ c.fns[(idxIn c.fns f).getD 0]? = some f ∧ notStar e1 = true then (stepEs r c (e1 :: es)).map fun a => ⟨_,.asgC hx h.1 h.2.1 h.2.2 a.2 k.2⟩ else none
  | e => if h : plainVal e = true then (stepF r c e).map fun a => ⟨_,.newL hx h a.2 k.2⟩ else none
noncomputable def stepNameAsg (r:TRec) (c:Cx) (x:Str) (p:Pos) (e:Expr) (pos:Pos) (ss:List Stmt) (k:{ cs:CS // TrS c ss cs }) : TS c (.Assign [.Name x p] e pos :: ss) :=
  match hx : isLocal c x with
  | none => none
  | some i =>
    if c.mu.contains i then stepMu r c x i hx p e pos ss k
    else if h : plainVal e = true then (r c e).map fun a => ⟨_,.asg hx h a.2 k.2⟩
    else (stepC r c e).map fun a => ⟨_,.asgComp hx a.2 k.2⟩
noncomputable def stepTupAsg (r:TRec) (c:Cx) (ts:List Expr) (n:Nat) (p:Pos) (e:Expr) (pos:Pos) (ss:List Stmt) (k:{ cs:CS // TrS c ss cs }) : TS c (.Assign [.Tuple ts n p] e pos :: ss) :=
  match hx : tgtNames ts with
  | none => none
  | some xs =>
    if hi : xs.map (isLocal c) = (slotsFor c xs).map some then
      let plain : Unit → TS c (.Assign [.Tuple ts n p] e pos :: ss) := fun _ => if h : plainVal e = true ∧ swB c ts xs (slotsFor c xs) e = true then (r c e).map fun a => ⟨_,.unp hx hi h.1 h.2 a.2 k.2⟩ else none
      match e,plain with
      | .Call (.Name f q) (e1 :: es) [] cp,plain =>
        if c.eff.contains ((idxIn c.fns f).getD 0) then
          if h : isGlob c f = true ∧ c.fns[(idxIn c.fns f).getD 0]? = some f ∧ notStar e1 = true then (stepEs r c (e1 :: es)).map fun a => ⟨_,.unpC hx hi h.1 h.2.1 h.2.2 a.2 k.2⟩ else none
        else plain ()
      | _,plain => plain ()
    else none
noncomputable def stepAsg (r:TRec) (c:Cx) (ts:List Expr) (e:Expr) (pos:Pos) (ss:List Stmt) (k:{ cs:CS // TrS c ss cs }) : TS c (.Assign ts e pos :: ss) :=
  match ts with
  | [.Name x p] => stepNameAsg r c x p e pos ss k
  | [.Tuple ts n p] => stepTupAsg r c ts n p e pos ss k
  | [.Subscript o i p] => if h : plainVal e = true then
      match r c o,r c i,r c e with
      | some a,some b,some d => some ⟨_,.sto h a.2 b.2 d.2 k.2⟩
      | _,_,_ => none
    else none
  | _ => none
noncomputable def stepS (r:TRec) (rs:∀ c ss,TS c ss) (c:Cx) (st:Stmt) (ss:List Stmt) : TS c (st :: ss) :=
  match st with
  | .Return (some e) p => (r c e).map fun a => ⟨_,.ret a.2⟩
  | .Break p => some ⟨_,.brk⟩
  | .Assign ts e p => (match rs c ss with
    | some k => stepAsg r c ts e p ss k
    | none => none)
  | .If t x y p => (match r c t,rs c x,rs c y,rs c ss with
    | some a,some b,some d,some k => some ⟨_,.iff a.2 b.2 d.2 k.2⟩
    | _,_,_,_ => none)
  | .While t x [] p => (match r c t,rs c x,rs c ss with
    | some a,some b,some k => some ⟨_,.whl a.2 b.2 k.2⟩
    | _,_,_ => none)
  | .For t it x [] p => if h : notSet it = true then
      (match ht:cTgt c t,stepR r c t it,rs c x,rs c ss with
      | some tg,some a,some b,some k => some ⟨_,.for_ ht h a.2.2 b.2 k.2⟩
      | _,_,_,_ => none)
    else none
  | .Expr (.Call (.Attribute o m ap) [x] [] cp) p => if h : m = nm "append" ∧ nullary o = false ∧ (ap.endLine == cp.line) = true ∧ notStar x = true then
      (match r c o,r c x,rs c ss with
      | some a,some b,some k => some ⟨.app a.1 b.1 k.1,by obtain ⟨rfl,h1,h2,h3⟩ := h; exact .app h1 h2 h3 a.2 b.2 k.2⟩
      | _,_,_ => none)
    else none
  | _ => none
noncomputable def tS : Nat → ∀ c ss,TS c ss
  | 0,_,_ => none
  | _ + 1,_,[] => some ⟨_,.nil⟩
  | n + 1,c,st :: ss => stepS (tE n) (tS n) c st ss
theorem tS_ok {n:Nat} {c:Cx} {ss:List Stmt} {cs:CS} (h:(tS n c ss).map (·.1) = some cs) : TrS c ss cs := by
  cases e : tS n c ss with
  | none => rw [e] at h; cases h
  | some a => rw [e] at h; cases h; exact a.2
noncomputable def ForN (f:List Value → Prop) : Nat → List Value → Prop
  | 0,acc => f acc
  | n + 1,acc => ∀ v,ForN f n (acc ++ [v])
theorem ForN.all {f:List Value → Prop} : ∀ (n:Nat) (acc:List Value),ForN f n acc → ∀ vals : List Value,vals.length = n → f (acc ++ vals)
  | 0,acc,h,vals,hl => by
    cases vals with
    | nil => rw [List.append_nil]; exact h
    | cons _ _ => cases hl
  | n + 1,acc,h,vals,hl => by
    cases vals with
    | nil => cases hl
    | cons v vs =>
      have := ForN.all n (acc ++ [v]) (h v) vs (by simpa using hl)
      rw [List.append_assoc] at this
      exact this
noncomputable def fnChk (c:Cx) (scope:Scope) (ps:List Str) (is:List Nat) : Bool :=
  decide (scope.kind = .function) && decide (c.nx = c.sc.length) && scope.names.all (fun x => x.2 != .free) && !scope.isCoroutine && !scope.isGenerator && decide (((cellsFrom 0 scope.names []).map (·.1)).Nodup) &&
    decide (ps.map (isLocal c) = is.map some) && decide ps.Nodup
theorem FnOK.of {c:Cx} {x:Str} {params:Arguments} {body:List Stmt} {scope:Scope} {ps:List Str} {is:List Nat} (h1:c.scope = scope) (h2:c.sc = slotsOf scope.names 0) (h:fnChk c scope ps is = true)
    (hb:ForN (fun vals => ∀ pm code doc,bindArgs (docDef x params body scope pm code doc) ⟨vals,[]⟩ = pure (ps.zip vals)) ps.length []) : FnOK c x params body scope ps is := by
  unfold fnChk at h
  simp only [Bool.and_eq_true,decide_eq_true_eq,Bool.not_eq_true',List.all_eq_true] at h
  obtain ⟨⟨⟨⟨⟨⟨⟨a1,a2⟩,a3⟩,a4⟩,a5⟩,a6⟩,a7⟩,a8⟩ := h
  refine ⟨h1,a1,h2,a2,fun y hy => ?_,a4,a5,a6,a7,a8,fun vals hl => ForN.all _ [] hb vals hl⟩
  have := a3 (y,.free) (mem_of_lookup' hy)
  simp at this
noncomputable def pr1 : Program := PySem.Challenge.pw_sx_r082_1
noncomputable def R1 (i:Nat) : DefRec := ((recsOf pr1)[i]?).getD ⟨nm "",{ posonlyargs := [],args := [],vararg := none,kwonlyargs := [],kw_defaults := [],kwarg := none,defaults := [] },[],default,default⟩
noncomputable def gls1 : List Str := [nm "_law_FLOWS",nm "_law_SPACES"]
noncomputable def fns1 : List Str := [nm "_dict",nm "_with",nm "_store",nm "_every",nm "_value",nm "value",nm "holds",nm "_parts",nm "_made",nm "replaced",nm "_do",nm "run",nm "_before",nm "before",nm "conditions",nm "refute",nm "_law_term",nm "_law_cond",nm "_law_step",nm "_law_block",nm "_law_walk",nm "_law_due",nm "_law_truth",nm "law"]
noncomputable def core0 : CS :=
  .newD 1 (.for_ .seq (.cons (.var 0) .nil) [2,3] (.sto (.var 1) (.var 2) (.var 3) .nil) (.ret (.var 1)))
noncomputable abbrev cx0 : Cx := cxOf (R1 0).scope fns1 gls1 [1] [10]
theorem nx0 : cx0.nx = 4 := by kernel_rfl
theorem ok0 : FnOK cx0 (R1 0).name (R1 0).params (R1 0).body (R1 0).scope [nm "pairs"] [0] := FnOK.of rfl rfl (by kernel_rfl) (fun v0 pm code doc => by kernel_rfl)
theorem tr0 : TrS cx0 (R1 0).body core0 := tS_ok (n := 200) (by kernel_rfl)
noncomputable def core1 : CS :=
  .newD 3 (.for_ .seq (.cons (.var 0) .nil) [4] (.sto (.var 3) (.var 4) (.idx (.var 0) (.var 4)) .nil) (.sto (.var 3) (.var 1) (.var 2) (.ret (.var 3))))
noncomputable abbrev cx1 : Cx := cxOf (R1 1).scope fns1 gls1 [3] [10]
theorem nx1 : cx1.nx = 5 := by kernel_rfl
theorem ok1 : FnOK cx1 (R1 1).name (R1 1).params (R1 1).body (R1 1).scope [nm "table",nm "key",nm "value"] [0,1,2] := FnOK.of rfl rfl (by kernel_rfl) (fun v0 v1 v2 pm code doc => by kernel_rfl)
theorem tr1 : TrS cx1 (R1 1).body core1 := tS_ok (n := 200) (by kernel_rfl)
noncomputable def core2 : CS :=
  .newL 3 (.sl (.var 0) (.lit .none) (.lit .none)) (.iff (.and (.cmp .ge (.var 1) (.lit (.int 0))) (.cmp .lt (.var 1) (.prim .len (.cons (.var 3) .nil)))) (.sto (.var 3) (.var 1) (.var 2) .nil) .nil (.ret (.var 3)))
noncomputable abbrev cx2 : Cx := cxOf (R1 2).scope fns1 gls1 [3] [10]
theorem nx2 : cx2.nx = 4 := by kernel_rfl
theorem ok2 : FnOK cx2 (R1 2).name (R1 2).params (R1 2).body (R1 2).scope [nm "cells",nm "place",nm "value"] [0,1,2] := FnOK.of rfl rfl (by kernel_rfl) (fun v0 v1 v2 pm code doc => by kernel_rfl)
theorem tr2 : TrS cx2 (R1 2).body core2 := tS_ok (n := 200) (by kernel_rfl)
noncomputable def core3 : CS :=
  .asg 3 (.call 4 (.cons (.idx (.var 0) (.lit (.int 2))) (.cons (.var 1) (.cons (.var 2) .nil)))) (.asg 4 (.call 4 (.cons (.idx (.var 0) (.lit (.int 3))) (.cons (.var 1) (.cons (.var 2) .nil)))) (.for_ .range2 (.cons (.var 3) (.cons (.var 4) .nil)) [5] (.iff (.not (.call 4 (.cons (.idx (.var 0) (.lit (.int 4))) (.cons (.call 1 (.cons (.var 1) (.cons (.idx (.var 0) (.lit (.int 1))) (.cons (.var 5) .nil)))) (.cons (.var 2) .nil))))) (.ret (.lit (.bool false))) .nil .nil) (.ret (.lit (.bool true)))))
noncomputable abbrev cx3 : Cx := cxOf (R1 3).scope fns1 gls1 [] [10]
theorem nx3 : cx3.nx = 6 := by kernel_rfl
theorem ok3 : FnOK cx3 (R1 3).name (R1 3).params (R1 3).body (R1 3).scope [nm "t",nm "names",nm "arrays"] [0,1,2] := FnOK.of rfl rfl (by kernel_rfl) (fun v0 v1 v2 pm code doc => by kernel_rfl)
theorem tr3 : TrS cx3 (R1 3).body core3 := tS_ok (n := 200) (by kernel_rfl)
noncomputable def core4 : CS :=
  .iff (.cmp .eq (.idx (.var 0) (.lit (.int 0))) (.lit (.str [110,117,109]))) (.ret (.idx (.var 0) (.lit (.int 1)))) .nil (.iff (.cmp .eq (.idx (.var 0) (.lit (.int 0))) (.lit (.str [116,114,117,101]))) (.ret (.lit (.bool true))) .nil (.iff (.cmp .eq (.idx (.var 0) (.lit (.int 0))) (.lit (.str [118,97,114]))) (.ret (.get (.var 1) (.idx (.var 0) (.lit (.int 1))) (.lit (.int 0)))) .nil (.iff (.cmp .eq (.idx (.var 0) (.lit (.int 0))) (.lit (.str [97,114,114,97,121]))) (.ret (.get (.var 2) (.idx (.var 0) (.lit (.int 1))) (.lst .nil))) .nil (.iff (.cmp .eq (.idx (.var 0) (.lit (.int 0))) (.lit (.str [97,108,108]))) (.ret (.call 3 (.cons (.var 0) (.cons (.var 1) (.cons (.var 2) .nil))))) .nil (.asg 3 (.comp 4 1 .seq (.cons (.sl (.var 0) (.lit (.int 1)) (.lit .none)) .nil) [4] (.call 4 (.cons (.var 4) (.cons (.var 1) (.cons (.var 2) .nil))))) (.iff (.cmp .eq (.idx (.var 0) (.lit (.int 0))) (.lit (.str [97,100,100]))) (.ret (.bin .add (.idx (.var 3) (.lit (.int 0))) (.idx (.var 3) (.lit (.int 1))))) .nil (.iff (.cmp .eq (.idx (.var 0) (.lit (.int 0))) (.lit (.str [115,117,98]))) (.ret (.bin .sub (.idx (.var 3) (.lit (.int 0))) (.idx (.var 3) (.lit (.int 1))))) .nil (.iff (.cmp .eq (.idx (.var 0) (.lit (.int 0))) (.lit (.str [97,116]))) (.iff (.and (.cmp .ge (.idx (.var 3) (.lit (.int 1))) (.lit (.int 0))) (.cmp .lt (.idx (.var 3) (.lit (.int 1))) (.prim .len (.cons (.idx (.var 3) (.lit (.int 0))) .nil)))) (.ret (.idx (.idx (.var 3) (.lit (.int 0))) (.idx (.var 3) (.lit (.int 1))))) .nil (.ret (.lit (.int 0)))) .nil (.iff (.cmp .eq (.idx (.var 0) (.lit (.int 0))) (.lit (.str [115,105,122,101]))) (.ret (.prim .len (.cons (.idx (.var 3) (.lit (.int 0))) .nil))) .nil (.iff (.cmp .eq (.idx (.var 0) (.lit (.int 0))) (.lit (.str [115,116,111,114,101]))) (.ret (.call 2 (.cons (.idx (.var 3) (.lit (.int 0))) (.cons (.idx (.var 3) (.lit (.int 1))) (.cons (.idx (.var 3) (.lit (.int 2))) .nil))))) .nil (.iff (.cmp .eq (.idx (.var 0) (.lit (.int 0))) (.lit (.str [108,101,115,115]))) (.ret (.cmp .lt (.idx (.var 3) (.lit (.int 0))) (.idx (.var 3) (.lit (.int 1))))) .nil (.iff (.cmp .eq (.idx (.var 0) (.lit (.int 0))) (.lit (.str [101,113,117,97,108]))) (.ret (.cmp .eq (.idx (.var 3) (.lit (.int 0))) (.idx (.var 3) (.lit (.int 1))))) .nil (.iff (.cmp .eq (.idx (.var 0) (.lit (.int 0))) (.lit (.str [110,111,116]))) (.ret (.not (.idx (.var 3) (.lit (.int 0))))) .nil (.iff (.cmp .eq (.idx (.var 0) (.lit (.int 0))) (.lit (.str [97,110,100]))) (.ret (.and (.idx (.var 3) (.lit (.int 0))) (.idx (.var 3) (.lit (.int 1))))) .nil (.iff (.cmp .eq (.idx (.var 0) (.lit (.int 0))) (.lit (.str [111,114]))) (.ret (.or (.idx (.var 3) (.lit (.int 0))) (.idx (.var 3) (.lit (.int 1))))) .nil (.ret (.or (.not (.idx (.var 3) (.lit (.int 0)))) (.idx (.var 3) (.lit (.int 1))))))))))))))))))))
noncomputable abbrev cx4 : Cx := cxOf (R1 4).scope fns1 gls1 [] [10]
theorem nx4 : cx4.nx = 4 := by kernel_rfl
theorem ok4 : FnOK cx4 (R1 4).name (R1 4).params (R1 4).body (R1 4).scope [nm "t",nm "names",nm "arrays"] [0,1,2] := FnOK.of rfl rfl (by kernel_rfl) (fun v0 v1 v2 pm code doc => by kernel_rfl)
theorem tr4 : TrS cx4 (R1 4).body core4 := tS_ok (n := 200) (by kernel_rfl)
noncomputable def core5 : CS :=
  .ret (.call 4 (.cons (.var 0) (.cons (.call 0 (.cons (.idx (.var 1) (.lit (.int 0))) .nil)) (.cons (.call 0 (.cons (.idx (.var 1) (.lit (.int 1))) .nil)) .nil))))
noncomputable abbrev cx5 : Cx := cxOf (R1 5).scope fns1 gls1 [] [10]
theorem nx5 : cx5.nx = 2 := by kernel_rfl
theorem ok5 : FnOK cx5 (R1 5).name (R1 5).params (R1 5).body (R1 5).scope [nm "t",nm "state"] [0,1] := FnOK.of rfl rfl (by kernel_rfl) (fun v0 v1 pm code doc => by kernel_rfl)
theorem tr5 : TrS cx5 (R1 5).body core5 := tS_ok (n := 200) (by kernel_rfl)
noncomputable def core6 : CS :=
  .ret (.call 5 (.cons (.var 0) (.cons (.var 1) .nil)))
noncomputable abbrev cx6 : Cx := cxOf (R1 6).scope fns1 gls1 [] [10]
theorem nx6 : cx6.nx = 2 := by kernel_rfl
theorem ok6 : FnOK cx6 (R1 6).name (R1 6).params (R1 6).body (R1 6).scope [nm "c",nm "state"] [0,1] := FnOK.of rfl rfl (by kernel_rfl) (fun v0 v1 pm code doc => by kernel_rfl)
theorem tr6 : TrS cx6 (R1 6).body core6 := tS_ok (n := 200) (by kernel_rfl)
noncomputable def core7 : CS :=
  .iff (.cmp .in_ (.idx (.var 0) (.lit (.int 0))) (.lst (.cons (.lit (.str [110,117,109])) (.cons (.lit (.str [118,97,114])) (.cons (.lit (.str [97,114,114,97,121])) (.cons (.lit (.str [116,114,117,101])) .nil)))))) (.ret (.lst .nil)) .nil (.iff (.cmp .eq (.idx (.var 0) (.lit (.int 0))) (.lit (.str [97,108,108]))) (.ret (.lst (.cons (.idx (.var 0) (.lit (.int 2))) (.cons (.idx (.var 0) (.lit (.int 3))) (.cons (.idx (.var 0) (.lit (.int 4))) .nil))))) .nil (.ret (.comp 1 1 .seq (.cons (.sl (.var 0) (.lit (.int 1)) (.lit .none)) .nil) [1] (.var 1))))
noncomputable abbrev cx7 : Cx := cxOf (R1 7).scope fns1 gls1 [] [10]
theorem nx7 : cx7.nx = 1 := by kernel_rfl
theorem ok7 : FnOK cx7 (R1 7).name (R1 7).params (R1 7).body (R1 7).scope [nm "t"] [0] := FnOK.of rfl rfl (by kernel_rfl) (fun v0 pm code doc => by kernel_rfl)
theorem tr7 : TrS cx7 (R1 7).body core7 := tS_ok (n := 200) (by kernel_rfl)
noncomputable def core8 : CS :=
  .iff (.cmp .eq (.var 1) (.lst .nil)) (.ret (.var 0)) .nil (.iff (.cmp .eq (.idx (.var 0) (.lit (.int 0))) (.lit (.str [97,108,108]))) (.ret (.tup (.cons (.lit (.str [97,108,108])) (.cons (.idx (.var 0) (.lit (.int 1))) (.cons (.idx (.var 1) (.lit (.int 0))) (.cons (.idx (.var 1) (.lit (.int 1))) (.cons (.idx (.var 1) (.lit (.int 2))) .nil))))))) .nil (.iff (.cmp .eq (.prim .len (.cons (.var 1) .nil)) (.lit (.int 1))) (.ret (.tup (.cons (.idx (.var 0) (.lit (.int 0))) (.cons (.idx (.var 1) (.lit (.int 0))) .nil)))) .nil (.iff (.cmp .eq (.prim .len (.cons (.var 1) .nil)) (.lit (.int 2))) (.ret (.tup (.cons (.idx (.var 0) (.lit (.int 0))) (.cons (.idx (.var 1) (.lit (.int 0))) (.cons (.idx (.var 1) (.lit (.int 1))) .nil))))) .nil (.ret (.tup (.cons (.idx (.var 0) (.lit (.int 0))) (.cons (.idx (.var 1) (.lit (.int 0))) (.cons (.idx (.var 1) (.lit (.int 1))) (.cons (.idx (.var 1) (.lit (.int 2))) .nil)))))))))
noncomputable abbrev cx8 : Cx := cxOf (R1 8).scope fns1 gls1 [] [10]
theorem nx8 : cx8.nx = 2 := by kernel_rfl
theorem ok8 : FnOK cx8 (R1 8).name (R1 8).params (R1 8).body (R1 8).scope [nm "t",nm "parts"] [0,1] := FnOK.of rfl rfl (by kernel_rfl) (fun v0 v1 pm code doc => by kernel_rfl)
theorem tr8 : TrS cx8 (R1 8).body core8 := tS_ok (n := 200) (by kernel_rfl)
noncomputable def core9 : CS :=
  .iff (.cmp .eq (.var 0) (.var 1)) (.ret (.var 2)) .nil (.ret (.call 8 (.cons (.var 0) (.cons (.comp 3 1 .seq (.cons (.call 7 (.cons (.var 0) .nil)) .nil) [3] (.call 9 (.cons (.var 3) (.cons (.var 1) (.cons (.var 2) .nil))))) .nil))))
noncomputable abbrev cx9 : Cx := cxOf (R1 9).scope fns1 gls1 [] [10]
theorem nx9 : cx9.nx = 3 := by kernel_rfl
theorem ok9 : FnOK cx9 (R1 9).name (R1 9).params (R1 9).body (R1 9).scope [nm "c",nm "old",nm "new"] [0,1,2] := FnOK.of rfl rfl (by kernel_rfl) (fun v0 v1 v2 pm code doc => by kernel_rfl)
theorem tr9 : TrS cx9 (R1 9).body core9 := tS_ok (n := 200) (by kernel_rfl)
noncomputable def core10 : CS :=
  .for_ .seq (.cons (.var 0) .nil) [4] (.asg 5 (.lit (.str [100,111,110,101])) (.iff (.cmp .eq (.idx (.var 4) (.lit (.int 0))) (.lit (.str [115,101,116]))) (.sto (.var 1) (.idx (.var 4) (.lit (.int 1))) (.call 4 (.cons (.idx (.var 4) (.lit (.int 2))) (.cons (.var 1) (.cons (.var 2) .nil)))) .nil) (.iff (.cmp .eq (.idx (.var 4) (.lit (.int 0))) (.lit (.str [112,117,116]))) (.asg 6 (.call 4 (.cons (.idx (.var 4) (.lit (.int 2))) (.cons (.var 1) (.cons (.var 2) .nil)))) (.sto (.var 2) (.idx (.var 4) (.lit (.int 1))) (.call 2 (.cons (.get (.var 2) (.idx (.var 4) (.lit (.int 1))) (.lst .nil)) (.cons (.var 6) (.cons (.call 4 (.cons (.idx (.var 4) (.lit (.int 3))) (.cons (.var 1) (.cons (.var 2) .nil)))) .nil)))) .nil)) (.iff (.cmp .eq (.idx (.var 4) (.lit (.int 0))) (.lit (.str [97,115,115,101,114,116]))) (.iff (.not (.call 4 (.cons (.idx (.var 4) (.lit (.int 1))) (.cons (.var 1) (.cons (.var 2) .nil))))) (.ret (.tup (.cons (.lit (.str [102,97,105,108,101,100])) (.cons (.var 3) .nil)))) .nil .nil) (.iff (.cmp .eq (.idx (.var 4) (.lit (.int 0))) (.lit (.str [105,102]))) (.iff (.call 4 (.cons (.idx (.var 4) (.lit (.int 1))) (.cons (.var 1) (.cons (.var 2) .nil)))) (.unpC [5,3] 10 (.cons (.idx (.var 4) (.lit (.int 2))) (.cons (.var 1) (.cons (.var 2) (.cons (.var 3) .nil)))) .nil) (.unpC [5,3] 10 (.cons (.idx (.var 4) (.lit (.int 3))) (.cons (.var 1) (.cons (.var 2) (.cons (.var 3) .nil)))) .nil) .nil) (.iff (.cmp .eq (.idx (.var 4) (.lit (.int 0))) (.lit (.str [119,104,105,108,101]))) (.whl (.and (.cmp .eq (.var 5) (.lit (.str [100,111,110,101]))) (.call 4 (.cons (.idx (.var 4) (.lit (.int 1))) (.cons (.var 1) (.cons (.var 2) .nil))))) (.iff (.cmp .eq (.var 3) (.lit (.int 0))) (.ret (.tup (.cons (.lit (.str [109,111,114,101])) (.cons (.lit (.int 0)) .nil)))) .nil (.unpC [5,3] 10 (.cons (.idx (.var 4) (.lit (.int 3))) (.cons (.var 1) (.cons (.var 2) (.cons (.bin .sub (.var 3) (.lit (.int 1))) .nil)))) .nil)) .nil) .nil .nil) .nil) .nil) .nil) (.iff (.cmp .ne (.var 5) (.lit (.str [100,111,110,101]))) (.ret (.tup (.cons (.var 5) (.cons (.var 3) .nil)))) .nil .nil))) (.ret (.tup (.cons (.lit (.str [100,111,110,101])) (.cons (.var 3) .nil))))
noncomputable abbrev cx10 : Cx := cxOf (R1 10).scope fns1 gls1 [] [10]
theorem nx10 : cx10.nx = 7 := by kernel_rfl
theorem ok10 : FnOK cx10 (R1 10).name (R1 10).params (R1 10).body (R1 10).scope [nm "block",nm "names",nm "arrays",nm "left"] [0,1,2,3] := FnOK.of rfl rfl (by kernel_rfl) (fun v0 v1 v2 v3 pm code doc => by kernel_rfl)
theorem tr10 : TrS cx10 (R1 10).body core10 := tS_ok (n := 200) (by kernel_rfl)
noncomputable def core11 : CS :=
  .asgC 3 0 (.cons (.idx (.var 1) (.lit (.int 0))) .nil) (.newD 4 (.for_ .seq (.cons (.idx (.var 1) (.lit (.int 1))) .nil) [5,6] (.sto (.var 4) (.var 5) (.sl (.var 6) (.lit .none) (.lit .none)) .nil) (.unpC [7,8] 10 (.cons (.var 0) (.cons (.var 3) (.cons (.var 4) (.cons (.var 2) .nil)))) (.iff (.cmp .eq (.var 7) (.lit (.str [109,111,114,101]))) (.ret (.tup (.cons (.lit (.str [109,111,114,101])) (.cons (.lit .none) .nil)))) .nil (.ret (.tup (.cons (.var 7) (.cons (.tup (.cons (.prim .sortedItems (.cons (.var 3) .nil)) (.cons (.prim .sortedItems (.cons (.var 4) .nil)) .nil))) .nil))))))))
noncomputable abbrev cx11 : Cx := cxOf (R1 11).scope fns1 gls1 [3,4] [10]
theorem nx11 : cx11.nx = 9 := by kernel_rfl
theorem ok11 : FnOK cx11 (R1 11).name (R1 11).params (R1 11).body (R1 11).scope [nm "block",nm "state",nm "limit"] [0,1,2] := FnOK.of rfl rfl (by kernel_rfl) (fun v0 v1 v2 pm code doc => by kernel_rfl)
theorem tr11 : TrS cx11 (R1 11).body core11 := tS_ok (n := 200) (by kernel_rfl)
noncomputable def core12 : CS :=
  .asg 2 (.lst .nil) (.for_ .seq (.cons (.rev (.var 0)) .nil) [3] (.iff (.cmp .eq (.idx (.var 3) (.lit (.int 0))) (.lit (.str [115,101,116]))) (.asg 1 (.call 9 (.cons (.var 1) (.cons (.tup (.cons (.lit (.str [118,97,114])) (.cons (.idx (.var 3) (.lit (.int 1))) .nil))) (.cons (.idx (.var 3) (.lit (.int 2))) .nil)))) .nil) (.iff (.cmp .eq (.idx (.var 3) (.lit (.int 0))) (.lit (.str [112,117,116]))) (.asg 4 (.tup (.cons (.lit (.str [97,114,114,97,121])) (.cons (.idx (.var 3) (.lit (.int 1))) .nil))) (.asg 1 (.call 9 (.cons (.var 1) (.cons (.var 4) (.cons (.tup (.cons (.lit (.str [115,116,111,114,101])) (.cons (.var 4) (.cons (.idx (.var 3) (.lit (.int 2))) (.cons (.idx (.var 3) (.lit (.int 3))) .nil))))) .nil)))) .nil)) (.iff (.cmp .eq (.idx (.var 3) (.lit (.int 0))) (.lit (.str [97,115,115,101,114,116]))) (.asg 1 (.tup (.cons (.lit (.str [97,110,100])) (.cons (.idx (.var 3) (.lit (.int 1))) (.cons (.var 1) .nil)))) .nil) (.iff (.cmp .eq (.idx (.var 3) (.lit (.int 0))) (.lit (.str [105,102]))) (.unp [5,6] (.call 12 (.cons (.idx (.var 3) (.lit (.int 2))) (.cons (.var 1) .nil))) (.unp [7,8] (.call 12 (.cons (.idx (.var 3) (.lit (.int 3))) (.cons (.var 1) .nil))) (.asg 2 (.bin .add (.bin .add (.var 6) (.var 8)) (.var 2)) (.asg 1 (.tup (.cons (.lit (.str [97,110,100])) (.cons (.tup (.cons (.lit (.str [105,109,112,108,105,101,115])) (.cons (.idx (.var 3) (.lit (.int 1))) (.cons (.var 5) .nil)))) (.cons (.tup (.cons (.lit (.str [105,109,112,108,105,101,115])) (.cons (.tup (.cons (.lit (.str [110,111,116])) (.cons (.idx (.var 3) (.lit (.int 1))) .nil))) (.cons (.var 7) .nil)))) .nil)))) .nil)))) (.iff (.cmp .eq (.idx (.var 3) (.lit (.int 0))) (.lit (.str [119,104,105,108,101]))) (.unp [5,9] (.call 12 (.cons (.idx (.var 3) (.lit (.int 3))) (.cons (.idx (.var 3) (.lit (.int 2))) .nil))) (.asg 10 (.tup (.cons (.lit (.str [105,109,112,108,105,101,115])) (.cons (.tup (.cons (.lit (.str [97,110,100])) (.cons (.idx (.var 3) (.lit (.int 2))) (.cons (.idx (.var 3) (.lit (.int 1))) .nil)))) (.cons (.var 5) .nil)))) (.asg 11 (.tup (.cons (.lit (.str [105,109,112,108,105,101,115])) (.cons (.tup (.cons (.lit (.str [97,110,100])) (.cons (.idx (.var 3) (.lit (.int 2))) (.cons (.tup (.cons (.lit (.str [110,111,116])) (.cons (.idx (.var 3) (.lit (.int 1))) .nil))) .nil)))) (.cons (.var 1) .nil)))) (.asg 2 (.bin .add (.bin .add (.lst (.cons (.var 10) (.cons (.var 11) .nil))) (.var 9)) (.var 2)) (.asg 1 (.idx (.var 3) (.lit (.int 2))) .nil))))) .nil .nil) .nil) .nil) .nil) .nil) (.ret (.tup (.cons (.var 1) (.cons (.var 2) .nil)))))
noncomputable abbrev cx12 : Cx := cxOf (R1 12).scope fns1 gls1 [] [10]
theorem nx12 : cx12.nx = 12 := by kernel_rfl
theorem ok12 : FnOK cx12 (R1 12).name (R1 12).params (R1 12).body (R1 12).scope [nm "block",nm "after"] [0,1] := FnOK.of rfl rfl (by kernel_rfl) (fun v0 v1 pm code doc => by kernel_rfl)
theorem tr12 : TrS cx12 (R1 12).body core12 := tS_ok (n := 200) (by kernel_rfl)
noncomputable def core13 : CS :=
  .ret (.idx (.call 12 (.cons (.var 0) (.cons (.var 1) .nil))) (.lit (.int 0)))
noncomputable abbrev cx13 : Cx := cxOf (R1 13).scope fns1 gls1 [] [10]
theorem nx13 : cx13.nx = 2 := by kernel_rfl
theorem ok13 : FnOK cx13 (R1 13).name (R1 13).params (R1 13).body (R1 13).scope [nm "block",nm "after"] [0,1] := FnOK.of rfl rfl (by kernel_rfl) (fun v0 v1 pm code doc => by kernel_rfl)
theorem tr13 : TrS cx13 (R1 13).body core13 := tS_ok (n := 200) (by kernel_rfl)
noncomputable def core14 : CS :=
  .unp [3,4] (.call 12 (.cons (.var 1) (.cons (.var 2) .nil))) (.ret (.bin .add (.lst (.cons (.tup (.cons (.lit (.str [105,109,112,108,105,101,115])) (.cons (.var 0) (.cons (.var 3) .nil)))) .nil)) (.var 4)))
noncomputable abbrev cx14 : Cx := cxOf (R1 14).scope fns1 gls1 [] [10]
theorem nx14 : cx14.nx = 5 := by kernel_rfl
theorem ok14 : FnOK cx14 (R1 14).name (R1 14).params (R1 14).body (R1 14).scope [nm "first",nm "block",nm "last"] [0,1,2] := FnOK.of rfl rfl (by kernel_rfl) (fun v0 v1 v2 pm code doc => by kernel_rfl)
theorem tr14 : TrS cx14 (R1 14).body core14 := tS_ok (n := 200) (by kernel_rfl)
noncomputable def core15 : CS :=
  .asg 6 (.bin .add (.prim .len (.cons (.var 1) .nil)) (.bin .mul (.prim .len (.cons (.var 2) .nil)) (.var 5))) (.iff (.and (.cmp .gt (.var 6) (.lit (.int 0))) (.cmp .le (.var 4) (.var 3))) (.ret (.lit .none)) .nil (.newL 7 (.bin .mul (.lst (.cons (.var 3) .nil)) (.var 6)) (.whl (.lit (.bool true)) (.newLL 8 (.for_ .range1 (.cons (.prim .len (.cons (.var 1) .nil)) .nil) [9] (.app (.idx (.var 8) (.lit (.int 0))) (.tup (.cons (.idx (.var 1) (.var 9)) (.cons (.idx (.var 7) (.var 9)) .nil))) .nil) (.for_ .range1 (.cons (.prim .len (.cons (.var 2) .nil)) .nil) [9] (.asg 10 (.bin .add (.prim .len (.cons (.var 1) .nil)) (.bin .mul (.var 9) (.var 5))) (.app (.idx (.var 8) (.lit (.int 1))) (.tup (.cons (.idx (.var 2) (.var 9)) (.cons (.sl (.var 7) (.var 10) (.bin .add (.var 10) (.var 5))) .nil))) .nil)) (.iff (.not (.call 6 (.cons (.var 0) (.cons (.var 8) .nil)))) (.ret (.var 8)) .nil (.asg 9 (.bin .sub (.var 6) (.lit (.int 1))) (.whl (.and (.cmp .ge (.var 9) (.lit (.int 0))) (.cmp .eq (.idx (.var 7) (.var 9)) (.bin .sub (.var 4) (.lit (.int 1))))) (.sto (.var 7) (.var 9) (.var 3) (.asg 9 (.bin .sub (.var 9) (.lit (.int 1))) .nil)) (.iff (.cmp .lt (.var 9) (.lit (.int 0))) (.ret (.lit .none)) .nil (.sto (.var 7) (.var 9) (.bin .add (.idx (.var 7) (.var 9)) (.lit (.int 1))) .nil)))))))) .nil)))
noncomputable abbrev cx15 : Cx := cxOf (R1 15).scope fns1 gls1 [7,8] [10]
theorem nx15 : cx15.nx = 11 := by kernel_rfl
theorem ok15 : FnOK cx15 (R1 15).name (R1 15).params (R1 15).body (R1 15).scope [nm "c",nm "names",nm "arrays",nm "low",nm "high",nm "size"] [0,1,2,3,4,5] := FnOK.of rfl rfl (by kernel_rfl) (fun v0 v1 v2 v3 v4 v5 pm code doc => by kernel_rfl)
theorem tr15 : TrS cx15 (R1 15).body core15 := tS_ok (n := 200) (by kernel_rfl)
noncomputable def core16 : CS :=
  .unp [3,4,5,6] (.tup (.cons (.get (.idx (.var 2) (.lit (.int 0))) (.lit (.str [120])) (.lit (.int 0))) (.cons (.get (.idx (.var 2) (.lit (.int 0))) (.lit (.str [121])) (.lit (.int 0))) (.cons (.get (.idx (.var 2) (.lit (.int 1))) (.lit (.str [97])) (.lst .nil)) (.cons (.idx (.var 1) (.lit (.int 1))) .nil))))) (.unp [7,8,9,10] (.tup (.cons (.tup (.cons (.lit (.str [118,97,114])) (.cons (.lit (.str [120])) .nil))) (.cons (.tup (.cons (.lit (.str [118,97,114])) (.cons (.lit (.str [121])) .nil))) (.cons (.tup (.cons (.lit (.str [97,114,114,97,121])) (.cons (.lit (.str [97])) .nil))) (.cons (.tup (.cons (.lit (.str [110,117,109])) (.cons (.var 6) .nil))) .nil))))) (.asg 11 (.lst (.cons (.tup (.cons (.var 7) (.cons (.var 3) .nil))) (.cons (.tup (.cons (.var 8) (.cons (.var 4) .nil))) (.cons (.tup (.cons (.var 10) (.cons (.var 6) .nil))) (.cons (.tup (.cons (.tup (.cons (.lit (.str [115,105,122,101])) (.cons (.var 9) .nil))) (.cons (.prim .len (.cons (.var 5) .nil)) .nil))) (.cons (.tup (.cons (.tup (.cons (.lit (.str [97,100,100])) (.cons (.var 7) (.cons (.var 10) .nil)))) (.cons (.bin .add (.var 3) (.var 6)) .nil))) (.cons (.tup (.cons (.tup (.cons (.lit (.str [115,117,98])) (.cons (.var 8) (.cons (.var 7) .nil)))) (.cons (.bin .sub (.var 4) (.var 3)) .nil))) (.cons (.tup (.cons (.tup (.cons (.lit (.str [97,116])) (.cons (.var 9) (.cons (.var 7) .nil)))) (.cons (.get (.prim .dictE (.cons (.var 5) .nil)) (.var 3) (.lit (.int 0))) .nil))) .nil)))))))) (.ret (.idx (.var 11) (.bin .mod (.bin .add (.var 0) (.idx (.var 1) (.lit (.int 0)))) (.lit (.int 7)))))))
noncomputable abbrev cx16 : Cx := cxOf (R1 16).scope fns1 gls1 [] [10]
theorem nx16 : cx16.nx = 12 := by kernel_rfl
theorem ok16 : FnOK cx16 (R1 16).name (R1 16).params (R1 16).body (R1 16).scope [nm "u",nm "mix",nm "s"] [0,1,2] := FnOK.of rfl rfl (by kernel_rfl) (fun v0 v1 v2 pm code doc => by kernel_rfl)
theorem tr16 : TrS cx16 (R1 16).body core16 := tS_ok (n := 200) (by kernel_rfl)
noncomputable def core17 : CS :=
  .unp [3,4] (.call 16 (.cons (.var 0) (.cons (.var 1) (.cons (.var 2) .nil)))) (.unp [5,6,7,8] (.tup (.cons (.get (.idx (.var 2) (.lit (.int 0))) (.lit (.str [120])) (.lit (.int 0))) (.cons (.get (.idx (.var 2) (.lit (.int 0))) (.lit (.str [121])) (.lit (.int 0))) (.cons (.get (.idx (.var 2) (.lit (.int 1))) (.lit (.str [97])) (.lst .nil)) (.cons (.idx (.var 1) (.lit (.int 1))) .nil))))) (.unp [9,10] (.tup (.cons (.tup (.cons (.lit (.str [118,97,114])) (.cons (.lit (.str [120])) .nil))) (.cons (.tup (.cons (.lit (.str [118,97,114])) (.cons (.lit (.str [75])) .nil))) .nil))) (.unp [11,12] (.tup (.cons (.tup (.cons (.lit (.str [108,101,115,115])) (.cons (.var 3) (.cons (.tup (.cons (.lit (.str [118,97,114])) (.cons (.lit (.str [121])) .nil))) .nil)))) (.cons (.cmp .lt (.var 4) (.var 6)) .nil))) (.unp [13,14] (.tup (.cons (.tup (.cons (.lit (.str [101,113,117,97,108])) (.cons (.var 9) (.cons (.var 3) .nil)))) (.cons (.cmp .eq (.var 5) (.var 4)) .nil))) (.asg 15 (.tup (.cons (.lit (.str [108,101,115,115])) (.cons (.tup (.cons (.lit (.str [97,100,100])) (.cons (.var 10) (.cons (.tup (.cons (.lit (.str [97,116])) (.cons (.tup (.cons (.lit (.str [97,114,114,97,121])) (.cons (.lit (.str [97])) .nil))) (.cons (.var 10) .nil)))) .nil)))) (.cons (.var 3) .nil)))) (.asg 16 (.lit (.bool true)) (.for_ .range2 (.cons (.var 5) (.cons (.bin .add (.var 5) (.var 8)) .nil)) [17] (.iff (.cmp .ge (.bin .add (.var 17) (.get (.prim .dictE (.cons (.var 7) .nil)) (.var 17) (.lit (.int 0)))) (.var 4)) (.asg 16 (.lit (.bool false)) .nil) .nil .nil) (.asg 18 (.lst (.cons (.tup (.cons (.tup (.cons (.lit (.str [116,114,117,101])) .nil)) (.cons (.lit (.bool true)) .nil))) (.cons (.tup (.cons (.var 11) (.cons (.var 12) .nil))) (.cons (.tup (.cons (.var 13) (.cons (.var 14) .nil))) (.cons (.tup (.cons (.tup (.cons (.lit (.str [110,111,116])) (.cons (.var 11) .nil))) (.cons (.not (.var 12)) .nil))) (.cons (.tup (.cons (.tup (.cons (.lit (.str [97,110,100])) (.cons (.var 11) (.cons (.var 13) .nil)))) (.cons (.and (.var 12) (.var 14)) .nil))) (.cons (.tup (.cons (.tup (.cons (.lit (.str [111,114])) (.cons (.var 11) (.cons (.var 13) .nil)))) (.cons (.or (.var 12) (.var 14)) .nil))) (.cons (.tup (.cons (.tup (.cons (.lit (.str [105,109,112,108,105,101,115])) (.cons (.var 13) (.cons (.var 11) .nil)))) (.cons (.or (.not (.var 14)) (.var 12)) .nil))) (.cons (.tup (.cons (.tup (.cons (.lit (.str [97,108,108])) (.cons (.lit (.str [75])) (.cons (.var 9) (.cons (.tup (.cons (.lit (.str [97,100,100])) (.cons (.var 9) (.cons (.tup (.cons (.lit (.str [110,117,109])) (.cons (.var 8) .nil))) .nil)))) (.cons (.var 15) .nil)))))) (.cons (.var 16) .nil))) .nil))))))))) (.ret (.idx (.var 18) (.bin .mod (.var 0) (.lit (.int 8)))))))))))))
noncomputable abbrev cx17 : Cx := cxOf (R1 17).scope fns1 gls1 [] [10]
theorem nx17 : cx17.nx = 19 := by kernel_rfl
theorem ok17 : FnOK cx17 (R1 17).name (R1 17).params (R1 17).body (R1 17).scope [nm "u",nm "mix",nm "s"] [0,1,2] := FnOK.of rfl rfl (by kernel_rfl) (fun v0 v1 v2 pm code doc => by kernel_rfl)
theorem tr17 : TrS cx17 (R1 17).body core17 := tS_ok (n := 200) (by kernel_rfl)
noncomputable def core18 : CS :=
  .unp [3,4] (.var 2) (.unp [5,6] (.call 16 (.cons (.var 0) (.cons (.var 1) (.cons (.var 2) .nil)))) (.unp [7,8] (.call 17 (.cons (.bin .add (.var 0) (.idx (.var 1) (.lit (.int 0)))) (.cons (.var 1) (.cons (.var 2) .nil)))) (.asg 9 (.get (.var 3) (.lit (.str [120])) (.lit (.int 0))) (.asg 10 (.comp 12 2 .enum (.cons (.get (.var 4) (.lit (.str [97])) (.lst .nil)) .nil) [12,13] (.ite (.cmp .eq (.var 12) (.var 9)) (.var 6) (.var 13))) (.asg 11 (.lst (.cons (.tup (.cons (.tup (.cons (.lit (.str [115,107,105,112])) .nil)) (.cons (.lit (.bool true)) (.cons (.var 2) .nil)))) (.cons (.tup (.cons (.tup (.cons (.lit (.str [115,101,116])) (.cons (.lit (.str [120])) (.cons (.var 5) .nil)))) (.cons (.lit (.bool true)) (.cons (.tup (.cons (.prim .dict (.cons (.bin .add (.prim .listItems (.cons (.var 3) .nil)) (.lst (.cons (.tup (.cons (.lit (.str [120])) (.cons (.var 6) .nil))) .nil))) .nil)) (.cons (.var 4) .nil))) .nil)))) (.cons (.tup (.cons (.tup (.cons (.lit (.str [115,101,116])) (.cons (.lit (.str [121])) (.cons (.var 5) .nil)))) (.cons (.lit (.bool true)) (.cons (.tup (.cons (.prim .dict (.cons (.bin .add (.prim .listItems (.cons (.var 3) .nil)) (.lst (.cons (.tup (.cons (.lit (.str [121])) (.cons (.var 6) .nil))) .nil))) .nil)) (.cons (.var 4) .nil))) .nil)))) (.cons (.tup (.cons (.tup (.cons (.lit (.str [112,117,116])) (.cons (.lit (.str [97])) (.cons (.tup (.cons (.lit (.str [118,97,114])) (.cons (.lit (.str [120])) .nil))) (.cons (.var 5) .nil))))) (.cons (.lit (.bool true)) (.cons (.tup (.cons (.var 3) (.cons (.prim .dict (.cons (.bin .add (.prim .listItems (.cons (.var 4) .nil)) (.lst (.cons (.tup (.cons (.lit (.str [97])) (.cons (.var 10) .nil))) .nil))) .nil)) .nil))) .nil)))) (.cons (.tup (.cons (.tup (.cons (.lit (.str [97,115,115,101,114,116])) (.cons (.var 7) .nil))) (.cons (.var 8) (.cons (.var 2) .nil)))) .nil)))))) (.ret (.idx (.var 11) (.bin .mod (.var 0) (.lit (.int 5))))))))))
noncomputable abbrev cx18 : Cx := cxOf (R1 18).scope fns1 gls1 [] [10]
theorem nx18 : cx18.nx = 12 := by kernel_rfl
theorem ok18 : FnOK cx18 (R1 18).name (R1 18).params (R1 18).body (R1 18).scope [nm "u",nm "mix",nm "s"] [0,1,2] := FnOK.of rfl rfl (by kernel_rfl) (fun v0 v1 v2 pm code doc => by kernel_rfl)
theorem tr18 : TrS cx18 (R1 18).body core18 := tS_ok (n := 200) (by kernel_rfl)
noncomputable def core19 : CS :=
  .asg 3 (.tup (.cons (.lit (.str [119,104,105,108,101])) (.cons (.idx (.var 2) (.lit (.int 3))) (.cons (.idx (.var 2) (.lit (.int 9))) (.cons (.lst (.cons (.idx (.var 1) (.lit (.int 4))) .nil)) .nil))))) (.asg 4 (.lst (.cons (.lst (.cons (.tup (.cons (.lit (.str [119,104,105,108,101])) (.cons (.idx (.var 2) (.lit (.int 1))) (.cons (.idx (.var 2) (.lit (.int 8))) (.cons (.lst (.cons (.idx (.var 1) (.lit (.int 2))) (.cons (.var 3) (.cons (.idx (.var 1) (.lit (.int 6))) .nil)))) .nil))))) .nil)) (.cons (.lst (.cons (.tup (.cons (.lit (.str [119,104,105,108,101])) (.cons (.idx (.var 2) (.lit (.int 1))) (.cons (.idx (.var 2) (.lit (.int 8))) (.cons (.lst (.cons (.idx (.var 1) (.lit (.int 2))) .nil)) .nil))))) (.cons (.var 3) .nil))) (.cons (.lst (.cons (.tup (.cons (.lit (.str [105,102])) (.cons (.idx (.var 2) (.lit (.int 1))) (.cons (.lst (.cons (.idx (.var 1) (.lit (.int 2))) (.cons (.var 3) .nil))) (.cons (.lst (.cons (.idx (.var 1) (.lit (.int 6))) .nil)) .nil))))) .nil)) (.cons (.lst (.cons (.tup (.cons (.lit (.str [105,102])) (.cons (.idx (.var 2) (.lit (.int 1))) (.cons (.lst (.cons (.idx (.var 1) (.lit (.int 6))) .nil)) (.cons (.lst (.cons (.idx (.var 1) (.lit (.int 2))) (.cons (.var 3) .nil))) .nil))))) .nil)) (.cons (.lst (.cons (.tup (.cons (.lit (.str [105,102])) (.cons (.idx (.var 2) (.lit (.int 1))) (.cons (.lst (.cons (.idx (.var 1) (.lit (.int 2))) .nil)) (.cons (.lst (.cons (.idx (.var 1) (.lit (.int 6))) .nil)) .nil))))) .nil)) .nil)))))) (.ret (.bin .add (.bin .add (.lst (.cons (.idx (.var 1) (.lit (.int 0))) .nil)) (.idx (.var 4) (.var 0))) (.lst (.cons (.idx (.var 1) (.lit (.int 5))) .nil)))))
noncomputable abbrev cx19 : Cx := cxOf (R1 19).scope fns1 gls1 [] [10]
theorem nx19 : cx19.nx = 5 := by kernel_rfl
theorem ok19 : FnOK cx19 (R1 19).name (R1 19).params (R1 19).body (R1 19).scope [nm "shape",nm "steps",nm "asks"] [0,1,2] := FnOK.of rfl rfl (by kernel_rfl) (fun v0 v1 v2 pm code doc => by kernel_rfl)
theorem tr19 : TrS cx19 (R1 19).body core19 := tS_ok (n := 200) (by kernel_rfl)
noncomputable def core20 : CS :=
  .asg 5 (.lit (.int 0)) (.whl (.lit (.bool true)) (.iff (.cmp .eq (.var 5) (.lit (.int 7))) .brk .nil (.unp [6,7,8,9] (.idx (.var 0) (.var 5)) (.iff (.cmp .eq (.var 6) (.lit (.str [115,116,101,112]))) (.unp [10,11,3] (.call 18 (.cons (.idx (.var 1) (.var 5)) (.cons (.var 2) (.cons (.var 3) .nil)))) (.iff (.not (.var 11)) (.ret (.tup (.cons (.lit (.str [102,97,105,108,101,100])) (.cons (.var 3) .nil)))) .nil (.asg 5 (.var 7) .nil))) (.iff (.not (.idx (.call 17 (.cons (.idx (.var 1) (.var 5)) (.cons (.var 2) (.cons (.var 3) .nil)))) (.lit (.int 1)))) (.asg 5 (.var 8) .nil) (.iff (.cmp .eq (.var 6) (.lit (.str [108,111,111,112]))) (.iff (.cmp .eq (.var 4) (.lit (.int 0))) (.ret (.tup (.cons (.lit (.str [109,111,114,101])) (.cons (.var 3) .nil)))) .nil (.asg 4 (.bin .sub (.var 4) (.lit (.int 1))) .nil)) .nil (.asg 5 (.var 7) .nil)) .nil) .nil))) (.ret (.tup (.cons (.lit (.str [100,111,110,101])) (.cons (.var 3) .nil)))))
noncomputable abbrev cx20 : Cx := cxOf (R1 20).scope fns1 gls1 [] [10]
theorem nx20 : cx20.nx = 12 := by kernel_rfl
theorem ok20 : FnOK cx20 (R1 20).name (R1 20).params (R1 20).body (R1 20).scope [nm "flow",nm "pieces",nm "mix",nm "s",nm "left"] [0,1,2,3,4] := FnOK.of rfl rfl (by kernel_rfl) (fun v0 v1 v2 v3 v4 pm code doc => by kernel_rfl)
theorem tr20 : TrS cx20 (R1 20).body core20 := tS_ok (n := 200) (by kernel_rfl)
noncomputable def core21 : CS :=
  .for_ .range1 (.cons (.lit (.int 4)) .nil) [5] (.unp [6,7,8,9] (.idx (.var 0) (.var 3)) (.iff (.cmp .eq (.var 6) (.lit (.str [115,116,101,112]))) (.unp [10,11,4] (.call 18 (.cons (.idx (.var 1) (.var 3)) (.cons (.var 2) (.cons (.var 4) .nil)))) (.iff (.not (.var 11)) (.ret (.lit (.bool false))) .nil (.asg 3 (.var 7) .nil))) .nil (.iff (.cmp .eq (.var 6) (.lit (.str [102,111,114,107]))) (.asg 11 (.idx (.call 17 (.cons (.idx (.var 1) (.var 3)) (.cons (.var 2) (.cons (.var 4) .nil)))) (.lit (.int 1))) (.asg 3 (.ite (.var 11) (.var 7) (.var 8)) .nil)) .nil .nil))) (.ret (.idx (.call 17 (.cons (.idx (.var 1) (.idx (.idx (.var 0) (.var 3)) (.lit (.int 3)))) (.cons (.var 2) (.cons (.var 4) .nil)))) (.lit (.int 1))))
noncomputable abbrev cx21 : Cx := cxOf (R1 21).scope fns1 gls1 [] [10]
theorem nx21 : cx21.nx = 12 := by kernel_rfl
theorem ok21 : FnOK cx21 (R1 21).name (R1 21).params (R1 21).body (R1 21).scope [nm "flow",nm "pieces",nm "mix",nm "pc",nm "s"] [0,1,2,3,4] := FnOK.of rfl rfl (by kernel_rfl) (fun v0 v1 v2 v3 v4 pm code doc => by kernel_rfl)
theorem tr21 : TrS cx21 (R1 21).body core21 := tS_ok (n := 200) (by kernel_rfl)
noncomputable def core22 : CS :=
  .unp [5,6,7,8] (.var 3) (.asg 9 (.idx (.call 17 (.cons (.idx (.var 1) (.var 5)) (.cons (.var 2) (.cons (.var 4) .nil)))) (.lit (.int 1))) (.asg 10 (.idx (.call 17 (.cons (.idx (.var 1) (.var 6)) (.cons (.var 2) (.cons (.var 4) .nil)))) (.lit (.int 1))) (.iff (.or (.not (.var 9)) (.cmp .eq (.var 10) (.var 8))) (.ret (.lit (.bool true))) .nil (.ret (.call 21 (.cons (.var 0) (.cons (.var 1) (.cons (.var 2) (.cons (.var 7) (.cons (.var 4) .nil))))))))))
noncomputable abbrev cx22 : Cx := cxOf (R1 22).scope fns1 gls1 [] [10]
theorem nx22 : cx22.nx = 11 := by kernel_rfl
theorem ok22 : FnOK cx22 (R1 22).name (R1 22).params (R1 22).body (R1 22).scope [nm "flow",nm "pieces",nm "mix",nm "path",nm "s"] [0,1,2,3,4] := FnOK.of rfl rfl (by kernel_rfl) (fun v0 v1 v2 v3 v4 pm code doc => by kernel_rfl)
theorem tr22 : TrS cx22 (R1 22).body core22 := tS_ok (n := 200) (by kernel_rfl)
noncomputable def core23 : CS :=
  .iff (.cmp .lt (.prim .len (.cons (.var 0) .nil)) (.lit (.int 24))) (.ret (.lit (.bool true))) .nil (.asg 1 (.bin .mod (.idx (.var 0) (.lit (.int 0))) (.lit (.int 5))) (.asg 2 (.idx (.gl 0) (.var 1)) (.asg 3 (.tup (.cons (.idx (.var 0) (.lit (.int 1))) (.cons (.bin .mod (.idx (.var 0) (.lit (.int 2))) (.lit (.int 4))) .nil))) (.asg 4 (.lst (.cons (.idx (.var 0) (.lit (.int 3))) (.cons (.idx (.var 0) (.lit (.int 4))) (.cons (.idx (.var 0) (.lit (.int 5))) (.cons (.idx (.var 0) (.lit (.int 6))) (.cons (.idx (.var 0) (.lit (.int 7))) (.cons (.idx (.var 0) (.lit (.int 8))) (.cons (.idx (.var 0) (.lit (.int 9))) (.cons (.idx (.var 0) (.lit (.int 10))) (.cons (.idx (.var 0) (.lit (.int 11))) (.cons (.idx (.var 0) (.lit (.int 12))) (.cons (.idx (.var 0) (.lit (.int 13))) .nil)))))))))))) (.asg 5 (.bin .mod (.idx (.var 0) (.lit (.int 17))) (.lit (.int 4))) (.asg 6 (.sl (.lst (.cons (.tup (.cons (.lit (.str [120])) (.cons (.bin .sub (.bin .mod (.idx (.var 0) (.lit (.int 14))) (.lit (.int 5))) (.lit (.int 2))) .nil))) (.cons (.tup (.cons (.lit (.str [121])) (.cons (.idx (.var 0) (.lit (.int 15))) .nil))) .nil))) (.bin .mod (.idx (.var 0) (.lit (.int 16))) (.lit (.int 3))) (.lit .none)) (.asg 7 (.sl (.lst (.cons (.tup (.cons (.lit (.str [97])) (.cons (.sl (.lst (.cons (.bin .sub (.bin .mod (.idx (.var 0) (.lit (.int 18))) (.lit (.int 5))) (.lit (.int 2))) (.cons (.bin .sub (.bin .mod (.idx (.var 0) (.lit (.int 19))) (.lit (.int 5))) (.lit (.int 2))) .nil))) (.bin .sub (.var 5) (.lit (.int 1))) (.lit .none)) .nil))) .nil)) (.lit .none) (.var 5)) (.asg 8 (.tup (.cons (.var 6) (.cons (.var 7) .nil))) (.asg 9 (.tup (.cons (.sl (.var 6) (.lit .none) (.lit .none)) (.cons (.comp 42 2 .seq (.cons (.var 7) .nil) [42,43] (.tup (.cons (.var 42) (.cons (.sl (.var 43) (.lit .none) (.lit .none)) .nil)))) .nil))) (.asg 10 (.tup (.cons (.prim .dict (.cons (.idx (.var 9) (.lit (.int 0))) .nil)) (.cons (.prim .dict (.cons (.idx (.var 9) (.lit (.int 1))) .nil)) .nil))) (.newL 11 (.lst .nil) (.newL 12 (.lst .nil) (.for_ .seq (.cons (.var 4) .nil) [13] (.app (.var 11) (.idx (.call 18 (.cons (.var 13) (.cons (.var 3) (.cons (.var 10) .nil)))) (.lit (.int 0))) (.app (.var 12) (.idx (.call 17 (.cons (.var 13) (.cons (.var 3) (.cons (.var 10) .nil)))) (.lit (.int 0))) .nil)) (.asg 14 (.call 19 (.cons (.var 1) (.cons (.var 11) (.cons (.var 12) .nil)))) (.unp [15,16] (.call 20 (.cons (.var 2) (.cons (.var 4) (.cons (.var 3) (.cons (.var 10) (.cons (.bin .mod (.idx (.var 0) (.lit (.int 20))) (.lit (.int 4))) .nil)))))) (.asg 17 (.tup (.cons (.var 15) (.cons (.tup (.cons (.prim .sortedItems (.cons (.idx (.var 16) (.lit (.int 0))) .nil)) (.cons (.prim .sortedItems (.cons (.idx (.var 16) (.lit (.int 1))) .nil)) .nil))) .nil))) (.iff (.cmp .eq (.var 15) (.lit (.str [109,111,114,101]))) (.asg 17 (.tup (.cons (.lit (.str [109,111,114,101])) (.cons (.lit .none) .nil))) .nil) .nil (.asg 18 (.call 11 (.cons (.var 14) (.cons (.var 8) (.cons (.bin .mod (.idx (.var 0) (.lit (.int 20))) (.lit (.int 4))) .nil)))) (.iff (.cmp .ne (.var 18) (.var 17)) (.ret (.lit (.bool false))) .nil (.iff (.and (.cmp .ne (.var 15) (.lit (.str [109,111,114,101]))) (.not (.prim .allInt (.cons (.idx (.idx (.var 18) (.lit (.int 1))) (.lit (.int 0))) .nil)))) (.ret (.lit (.bool false))) .nil (.asg 19 (.call 13 (.cons (.var 14) (.cons (.idx (.var 12) (.lit (.int 7))) .nil))) (.asg 18 (.call 6 (.cons (.var 19) (.cons (.var 8) .nil))) (.iff (.or (.not (.cmp .is_ (.prim .type (.cons (.var 18) .nil)) (.lit (.atom (PySem.Value.type "bool"))))) (.cmp .ne (.var 18) (.call 21 (.cons (.var 2) (.cons (.var 4) (.cons (.var 3) (.cons (.lit (.int 0)) (.cons (.var 10) .nil)))))))) (.ret (.lit (.bool false))) .nil (.asg 20 (.lst (.cons (.tup (.cons (.lit (.int 10)) (.cons (.lit (.int 10)) (.cons (.lit (.int 0)) (.cons (.lit (.bool false)) .nil))))) .nil)) (.for_ .seq (.cons (.tup (.cons (.lit (.int 1)) (.cons (.lit (.int 3)) .nil))) .nil) [21] (.unp [22,23,24,25] (.idx (.var 2) (.var 21)) (.iff (.cmp .eq (.var 22) (.lit (.str [108,111,111,112]))) (.asg 20 (.bin .add (.var 20) (.lst (.cons (.tup (.cons (.var 25) (.cons (.var 21) (.cons (.var 23) (.cons (.lit (.bool false)) .nil))))) (.cons (.tup (.cons (.var 25) (.cons (.var 21) (.cons (.var 24) (.cons (.lit (.bool true)) .nil))))) .nil)))) .nil) .nil .nil)) (.asg 26 (.call 14 (.cons (.idx (.var 12) (.lit (.int 10))) (.cons (.var 14) (.cons (.idx (.var 12) (.lit (.int 7))) .nil)))) (.iff (.or (.cmp .ne (.comp 42 1 .seq (.cons (.var 26) .nil) [42] (.idx (.var 42) (.lit (.int 0)))) (.bin .mul (.lst (.cons (.lit (.str [105,109,112,108,105,101,115])) .nil)) (.prim .len (.cons (.var 20) .nil)))) (.cmp .ne (.idx (.var 26) (.lit (.int 0))) (.tup (.cons (.lit (.str [105,109,112,108,105,101,115])) (.cons (.idx (.var 12) (.lit (.int 10))) (.cons (.var 19) .nil)))))) (.ret (.lit (.bool false))) .nil (.for_ .zip (.cons (.var 26) (.cons (.var 20) .nil)) [27,28] (.asg 18 (.call 6 (.cons (.var 27) (.cons (.var 8) .nil))) (.iff (.or (.not (.cmp .is_ (.prim .type (.cons (.var 18) .nil)) (.lit (.atom (PySem.Value.type "bool"))))) (.cmp .ne (.var 18) (.call 22 (.cons (.var 2) (.cons (.var 4) (.cons (.var 3) (.cons (.var 28) (.cons (.var 10) .nil)))))))) (.ret (.lit (.bool false))) .nil .nil)) (.unp [29,30,31] (.idx (.gl 1) (.bin .mod (.idx (.var 0) (.lit (.int 23))) (.lit (.int 8)))) (.asg 32 (.bin .sub (.bin .mod (.idx (.var 0) (.lit (.int 21))) (.lit (.int 4))) (.lit (.int 2))) (.asg 33 (.bin .sub (.bin .add (.var 32) (.bin .mod (.idx (.var 0) (.lit (.int 22))) (.lit (.int 4)))) (.lit (.int 1))) (.asg 34 (.bin .mod (.idx (.var 0) (.lit (.int 20))) (.prim .len (.cons (.var 20) .nil))) (.asg 35 (.lst (.cons (.lst .nil) .nil)) (.for_ .range1 (.cons (.bin .add (.prim .len (.cons (.var 29) .nil)) (.bin .mul (.prim .len (.cons (.var 30) .nil)) (.var 31))) .nil) [36] (.asg 35 (.comp2 42 2 .seq (.cons (.var 35) .nil) [42] .range2 (.cons (.var 32) (.cons (.var 33) .nil)) [43] (.bin .add (.var 42) (.lst (.cons (.var 43) .nil)))) .nil) (.asg 17 (.lit .none) (.for_ .seq (.cons (.var 35) .nil) [37] (.asg 38 (.sl (.var 37) (.prim .len (.cons (.var 29) .nil)) (.lit .none)) (.asg 39 (.tup (.cons (.prim .listZip (.cons (.var 29) (.cons (.var 37) .nil))) (.cons (.comp 42 2 .enum (.cons (.var 30) .nil) [42,43] (.tup (.cons (.var 43) (.cons (.sl (.sl (.var 38) (.bin .mul (.var 42) (.var 31)) (.lit .none)) (.lit .none) (.var 31)) .nil)))) .nil))) (.iff (.not (.call 22 (.cons (.var 2) (.cons (.var 4) (.cons (.var 3) (.cons (.idx (.var 20) (.var 34)) (.cons (.tup (.cons (.prim .dict (.cons (.idx (.var 39) (.lit (.int 0))) .nil)) (.cons (.prim .dict (.cons (.idx (.var 39) (.lit (.int 1))) .nil)) .nil))) .nil))))))) (.asg 17 (.var 39) .brk) .nil .nil))) (.asg 40 (.prim .list (.cons (.var 29) .nil)) (.asg 41 (.prim .list (.cons (.var 30) .nil)) (.asg 18 (.call 15 (.cons (.idx (.var 26) (.var 34)) (.cons (.var 40) (.cons (.var 41) (.cons (.var 32) (.cons (.var 33) (.cons (.var 31) .nil))))))) (.iff (.cmp .ne (.var 18) (.var 17)) (.ret (.lit (.bool false))) .nil (.iff (.or (.cmp .ne (.var 8) (.var 9)) (.cmp .ne (.var 14) (.call 19 (.cons (.var 1) (.cons (.var 11) (.cons (.var 12) .nil)))))) (.ret (.lit (.bool false))) .nil (.iff (.or (.cmp .ne (.var 40) (.prim .list (.cons (.var 29) .nil))) (.cmp .ne (.var 41) (.prim .list (.cons (.var 30) .nil)))) (.ret (.lit (.bool false))) .nil (.ret (.lit (.bool true)))))))))))))))))))))))))))))))))))))))))))))
noncomputable abbrev cx23 : Cx := { cxOf (R1 23).scope fns1 gls1 [11,12] [10] with gen := true }
theorem nx23 : cx23.nx = 42 := by kernel_rfl
theorem ok23 : FnOK cx23 (R1 23).name (R1 23).params (R1 23).body (R1 23).scope [nm "script"] [0] := FnOK.of rfl rfl (by kernel_rfl) (fun v0 pm code doc => by kernel_rfl)
theorem tr23 : TrS cx23 (R1 23).body core23 := tS_ok (n := 200) (by kernel_rfl)
structure Prog1 (B:B0) : Prop where
  ok : B.OK
  fns : B.fns = fns1
  gls : B.gls = gls1
  at_ : ∀ i,i < 24 → FnAt B (R1 i).name (R1 i).params (R1 i).body (R1 i).scope (i == 23)
theorem callB {B:B0} {k:Nat} {c:Cx} {cs:CS} {σ:Store} (P:Prog1 B) {i:Nat} {ps:List Str} {is:List Nat} {args:List V} {Q:V → Store → Prop} (hi:i < 24) (hn:fns1[i]? = some (R1 i).name) (ok:FnOK c (R1 i).name (R1 i).params (R1 i).body (R1 i).scope ps is) (tr:TrS c (R1 i).body cs) (hc:c.fns = fns1 ∧ c.gls = gls1) (hl:args.length = ps.length)
    (h:stW B k cs (setAll (List.replicate c.nx none) is args) σ (RetQ Q)) (hg:c.gen = (i == 23) := by rfl) : CallM B (k + 1) i args σ Q :=
  CallM_of_body P.ok (by rw [P.fns]; exact hn) (by rw [hg]; exact P.at_ i hi) ok hl (sS P.ok tr ⟨hc.1.trans P.fns.symm,hc.2.trans P.gls.symm⟩ _ _ _ h)
theorem put_head {σ:Store} {a:Addr} {x y:MO} (h:∀ m,(a,m) ∉ σ) : Store.put ((a,x) :: σ) a y = (a,y) :: σ := by
  unfold Store.put
  rw [List.map_cons,if_pos rfl]
  congr 1
  induction σ with
  | nil => rfl
  | cons p r ih =>
    obtain ⟨b,n⟩ := p
    rw [List.map_cons,if_neg (fun e:b = a => h n (by rw [e]; exact .head _)),ih fun m hm => h m (.tail _ hm)]
noncomputable def EvTo (B:B0) (k:Nat) (σ:Store) (L:Lc) (e:CE) (d:V) : Prop := ∀ Q : V → Prop,Q d → evW B k σ e L Q
noncomputable def EvsTo (B:B0) (k:Nat) (σ:Store) (L:Lc) (e:CE) (ds:List V) : Prop := ∀ Q : List V → Prop,Q ds → evWs B k σ e L Q
noncomputable def TvTo (B:B0) (k:Nat) (σ:Store) (L:Lc) (e:CE) (p:Bool) : Prop := ∀ Q : Bool → Prop,Q p → tvW B k σ e L Q
inductive Rv where
  | v (d:V)
  | vs (ds:List V)
structure Ob where
  f : Nat
  a : List V
  r : V
noncomputable def Obs (B:B0) (k:Nat) (σ:Store) : List Ob → Prop
  | [] => True
  | o :: os => CallP B k o.f o.a σ o.r ∧ Obs B k σ os
theorem Obs.app {B:B0} {k:Nat} {σ:Store} {a b:List Ob} (h:Obs B k σ (a ++ b)) : Obs B k σ a ∧ Obs B k σ b := by
  induction a with
  | nil => exact ⟨trivial,h⟩
  | cons o os ih => exact ⟨⟨h.1,(ih h.2).1⟩,(ih h.2).2⟩
noncomputable abbrev Rx : Type := Rv × List V × List Ob
noncomputable def oneV (r:Option Rx) (f:V → List V → List Ob → Option Rx) : Option Rx :=
  match r with
  | some (.v d,rs,o) => f d rs o
  | _ => none
noncomputable def allV (r:Option Rx) (f:List V → List V → List Ob → Option Rx) : Option Rx :=
  match r with
  | some (.vs d,rs,o) => f d rs o
  | _ => none
theorem oneV_inv {r:Option Rx} {f:V → List V → List Ob → Option Rx} {z:Rx} (h:oneV r f = some z) : ∃ d rs o,r = some (.v d,rs,o) ∧ f d rs o = some z := by
  cases r with
  | none => exact noS h
  | some x =>
    obtain ⟨a,rs,o⟩ := x
    cases a with
    | v d => exact ⟨d,rs,o,rfl,h⟩
    | vs d => exact noS h
theorem allV_inv {r:Option Rx} {f:List V → List V → List Ob → Option Rx} {z:Rx} (h:allV r f = some z) : ∃ d rs o,r = some (.vs d,rs,o) ∧ f d rs o = some z := by
  cases r with
  | none => exact noS h
  | some x =>
    obtain ⟨a,rs,o⟩ := x
    cases a with
    | v d => exact noS h
    | vs d => exact ⟨d,rs,o,rfl,h⟩
noncomputable def idx1 (σ:Store) (x y:V) : Option V :=
  match y with
  | .int j => if 0 ≤ j then (seqOfV σ x).bind fun xs => xs[j.toNat]? else none
  | .str c => (dictOfV σ x).bind fun kvs => kvs.lookup c
  | _ => none
noncomputable def bin1 (op:BOp) (x y:V) : Option V :=
  match x,y with
  | .int i,.int j => (match op with
    | .add => some (.int (i + j))
    | .sub => some (.int (i - j))
    | _ => none)
  | _,_ => none
noncomputable def cmp1 (op:COp) (x y:V) : Option V :=
  match x,y with
  | .int i,.int j => (match op with
    | .eq => some (.bool (i == j))
    | .ne => some (.bool (i != j))
    | .lt => some (.bool (decide (i < j)))
    | .le => some (.bool (decide (i ≤ j)))
    | .gt => some (.bool (decide (j < i)))
    | .ge => some (.bool (decide (j ≤ i)))
    | _ => none)
  | .str i,.str j => (match op with
    | .eq => some (.bool (i == j))
    | .ne => some (.bool (i != j))
    | _ => none)
  | _,_ => none
noncomputable def val1 (r:Option V) (rs:List V) (o:List Ob) : Option Rx := r.map fun d => (.v d,rs,o)
noncomputable def ev1 (σ:Store) (L:Lc) : CE → List V → Option Rx
  | .lit v,rs => some (.v v,rs,[])
  | .var i,rs => (match L[i]? with | some d => val1 d rs [] | none => none)
  | .nil,rs => some (.vs [],rs,[])
  | .cons e es,rs => oneV (ev1 σ L e rs) fun d rs o => allV (ev1 σ L es rs) fun ds rs o' => some (.vs (d :: ds),rs,o ++ o')
  | .tup es,rs => allV (ev1 σ L es rs) fun ds rs o => if ds.length ≤ 1000 then some (.v (.tup ds),rs,o) else none
  | .lst es,rs => allV (ev1 σ L es rs) fun ds rs o => if ds.length ≤ 1000 then some (.v (.lst ds),rs,o) else none
  | .idx e i,rs => oneV (ev1 σ L e rs) fun x rs o => oneV (ev1 σ L i rs) fun y rs o' => val1 (idx1 σ x y) rs (o ++ o')
  | .bin op a b,rs => oneV (ev1 σ L a rs) fun x rs o => oneV (ev1 σ L b rs) fun y rs o' => val1 (bin1 op x y) rs (o ++ o')
  | .cmp op a b,rs => oneV (ev1 σ L a rs) fun x rs o => oneV (ev1 σ L b rs) fun y rs o' => val1 (cmp1 op x y) rs (o ++ o')
  | .not a,rs => oneV (ev1 σ L a rs) fun x rs o => (match x with | .bool p => some (.v (.bool (!p)),rs,o) | _ => none)
  | .call f es,rs => allV (ev1 σ L es rs) fun ds rs o => (match rs with | r :: rs => some (.v r,rs,o ++ [⟨f,ds,r⟩]) | [] => none)
  | .prim p es,rs => allV (ev1 σ L es rs) fun ds rs o => (match p,ds with | .len,[x] => val1 ((seqOfV σ x).map fun xs => .int xs.length) rs o | _,_ => none)
  | _,_ => none
section
variable {B:B0} {k:Nat} {σ:Store} {L:Lc}
noncomputable def Rv.Ok (B:B0) (k:Nat) (σ:Store) (L:Lc) (e:CE) : Rv → Prop
  | .v d => EvTo B k σ L e d
  | .vs ds => EvsTo B k σ L e ds
theorem val1_inv {r:Option V} {rs:List V} {o:List Ob} {z:Rx} (h:val1 r rs o = some z) : ∃ d,r = some d ∧ z = (.v d,rs,o) := by
  obtain ⟨d,e,e'⟩ := Option.map_eq_some_iff.mp h
  exact ⟨d,e,e'.symm⟩
theorem idx1_ok {x y d:V} (h:idx1 σ x y = some d) (Q:V → Prop) (q:Q d) : idxW σ x y Q := by
  cases y with
  | int j =>
    have h : (if 0 ≤ j then (seqOfV σ x).bind fun xs => xs[j.toNat]? else none) = some d := h
    by_cases h0 : 0 ≤ j
    · rw [if_pos h0] at h
      obtain ⟨xs,e,h⟩ := Option.bind_eq_some_iff.mp h
      show (match seqOfV σ x with | some xs => 0 ≤ j ∧ ∃ v,xs[j.toNat]? = some v ∧ Q v | none => False)
      rw [e]
      exact ⟨h0,d,h,q⟩
    · rw [if_neg h0] at h
      exact noS h
  | str c =>
    obtain ⟨xs,e,h⟩ := Option.bind_eq_some_iff.mp h
    show (match dictOfV σ x with | some kvs => ∃ v,kvs.lookup c = some v ∧ Q v | none => False)
    rw [e]
    exact ⟨d,h,q⟩
  | _ => exact noS h
theorem bin1_ok {op:BOp} {x y d:V} (h:bin1 op x y = some d) (Q:V → Prop) (q:Q d) : binW σ op x y Q := by
  cases x with
  | int i => cases y with
    | int j => cases op with
      | add => cases h; exact q
      | sub => cases h; exact q
      | _ => exact noS h
    | _ => exact noS h
  | _ => exact noS h
theorem cmp1_ok {op:COp} {x y d:V} (h:cmp1 op x y = some d) (Q:V → Prop) (q:Q d) : cmpW op x y Q := by
  cases x with
  | int i => cases y with
    | int j => cases op with
      | eq => cases h; exact q
      | ne => cases h; exact q
      | lt => cases h; exact q
      | le => cases h; exact q
      | gt => cases h; exact q
      | ge => cases h; exact q
      | _ => exact noS h
    | _ => exact noS h
  | str i => cases y with
    | str j => cases op with
      | eq => cases h; exact q
      | ne => cases h; exact q
      | _ => exact noS h
    | _ => exact noS h
  | _ => exact noS h
theorem two1 {f:V → V → Option V} {a b:CE} {rs:List V} {z:Rx} (h:oneV (ev1 σ L a rs) (fun x rs o => oneV (ev1 σ L b rs) fun y rs o' => val1 (f x y) rs (o ++ o')) = some z) :
    ∃ x y d r1 r2 o1 o2,ev1 σ L a rs = some (.v x,r1,o1) ∧ ev1 σ L b r1 = some (.v y,r2,o2) ∧ f x y = some d ∧ z = (.v d,r2,o1 ++ o2) := by
  obtain ⟨x,r1,o1,e1,h⟩ := oneV_inv h
  obtain ⟨y,r2,o2,e2,h⟩ := oneV_inv h
  obtain ⟨d,e3,e4⟩ := val1_inv h
  exact ⟨x,y,d,r1,r2,o1,o2,e1,e2,e3,e4⟩
theorem ev1_ok (e:CE) : ∀ (rs:List V) (z:Rx),ev1 σ L e rs = some z → Obs B k σ z.2.2 → z.1.Ok B k σ L e := by
  induction e with
  | lit v => intro rs z h _; cases h; exact fun Q q => q
  | var i =>
    intro rs z h _
    have h : (match L[i]? with | some d => val1 d rs [] | none => none) = some z := h
    cases e : L[i]? with
    | none => rw [e] at h; exact noS h
    | some d =>
      rw [e] at h
      obtain ⟨d',e',rfl⟩ := val1_inv h
      intro Q q
      show slotW L[i]? Q
      rw [e,e']
      exact q
  | nil => intro rs z h _; cases h; exact fun Q q => q
  | cons e es ih1 ih2 =>
    intro rs z h ho
    obtain ⟨d,r1,o1,e1,h⟩ := oneV_inv h
    obtain ⟨ds,r2,o2,e2,h⟩ := allV_inv h
    cases h
    exact fun Q q => ih1 _ _ e1 ho.app.1 _ (ih2 _ _ e2 ho.app.2 _ q)
  | tup es ih =>
    intro rs z h ho
    obtain ⟨ds,r1,o1,e1,h⟩ := allV_inv h
    by_cases hz : ds.length ≤ 1000
    · rw [if_pos hz] at h
      cases h
      exact fun Q q => ih _ _ e1 ho _ ⟨le_line hz,q⟩
    · rw [if_neg hz] at h; exact noS h
  | lst es ih =>
    intro rs z h ho
    obtain ⟨ds,r1,o1,e1,h⟩ := allV_inv h
    by_cases hz : ds.length ≤ 1000
    · rw [if_pos hz] at h
      cases h
      exact fun Q q => ih _ _ e1 ho _ ⟨le_line hz,q⟩
    · rw [if_neg hz] at h; exact noS h
  | idx a b ih1 ih2 =>
    intro rs z h ho
    obtain ⟨x,y,d,r1,r2,o1,o2,e1,e2,e3,rfl⟩ := two1 (f := idx1 σ) h
    exact fun Q q => ih1 _ _ e1 ho.app.1 _ (ih2 _ _ e2 ho.app.2 _ (idx1_ok e3 Q q))
  | bin op a b ih1 ih2 =>
    intro rs z h ho
    obtain ⟨x,y,d,r1,r2,o1,o2,e1,e2,e3,rfl⟩ := two1 (f := bin1 op) h
    exact fun Q q => ih1 _ _ e1 ho.app.1 _ (ih2 _ _ e2 ho.app.2 _ (bin1_ok e3 Q q))
  | cmp op a b ih1 ih2 =>
    intro rs z h ho
    obtain ⟨x,y,d,r1,r2,o1,o2,e1,e2,e3,rfl⟩ := two1 (f := cmp1 op) h
    exact fun Q q => ih1 _ _ e1 ho.app.1 _ (ih2 _ _ e2 ho.app.2 _ (cmp1_ok e3 Q q))
  | not a ih =>
    intro rs z h ho
    obtain ⟨d,r1,o1,e1,h⟩ := oneV_inv h
    cases d with
    | bool p => cases h; exact fun Q q => ih _ _ e1 ho _ q
    | _ => exact noS h
  | call f es ih =>
    intro rs z h ho
    obtain ⟨ds,r1,o1,e1,h⟩ := allV_inv h
    cases r1 with
    | nil => exact noS h
    | cons r r1 =>
      cases h
      exact fun Q q => ih _ _ e1 ho.app.1 _ ⟨r,ho.app.2.1,q⟩
  | prim p es ih =>
    intro rs z h ho
    obtain ⟨ds,r1,o1,e1,h⟩ := allV_inv h
    cases p with
    | len => cases ds with
      | nil => exact noS h
      | cons x r => cases r with
        | nil =>
          obtain ⟨d,e2,rfl⟩ := val1_inv h
          obtain ⟨xs,e3,rfl⟩ := Option.map_eq_some_iff.mp e2
          refine fun Q q => ih _ _ e1 ho _ ?_
          show (match seqOfV σ x with | some xs => Q (.int xs.length) | none => False)
          rw [e3]
          exact q
        | cons _ _ => exact noS h
    | _ => exact noS h
  | _ => intro rs z h _; exact noS h
theorem to_ev {e:CE} {rs:List V} {d:V} {o:List Ob} (h:ev1 σ L e rs = some (.v d,[],o)) (ho:Obs B k σ o) : EvTo B k σ L e d := ev1_ok e rs _ h ho
theorem to_evs {e:CE} {rs:List V} {ds:List V} {o:List Ob} (h:ev1 σ L e rs = some (.vs ds,[],o)) (ho:Obs B k σ o) : EvsTo B k σ L e ds := ev1_ok e rs _ h ho
noncomputable def tvE (r:Option Rx) : Option (Bool × List V × List Ob) :=
  match r with
  | some (.v (.bool p),rs,o) => some (p,rs,o)
  | _ => none
theorem tvE_inv {r:Option Rx} {z:Bool × List V × List Ob} (h:tvE r = some z) : r = some (.v (.bool z.1),z.2.1,z.2.2) := by
  cases r with
  | none => exact noS h
  | some x =>
    obtain ⟨a,rs,o⟩ := x
    cases a with
    | v d => cases d with
      | bool p => cases h; rfl
      | _ => exact noS h
    | vs d => exact noS h
noncomputable def tv1 (σ:Store) (L:Lc) : CE → List V → Option (Bool × List V × List Ob)
  | .not a,rs => (tv1 σ L a rs).map fun z => (!z.1,z.2)
  | .and a b,rs => (tv1 σ L a rs).bind fun z => if z.1 = true then (tv1 σ L b z.2.1).map fun y => (y.1,y.2.1,z.2.2 ++ y.2.2) else some z
  | .or a b,rs => (tv1 σ L a rs).bind fun z => if z.1 = true then some z else (tv1 σ L b z.2.1).map fun y => (y.1,y.2.1,z.2.2 ++ y.2.2)
  | .cmp op a b,rs => tvE (ev1 σ L (.cmp op a b) rs)
  | .lit v,rs => tvE (ev1 σ L (.lit v) rs)
  | .var i,rs => tvE (ev1 σ L (.var i) rs)
  | .idx a b,rs => tvE (ev1 σ L (.idx a b) rs)
  | .call f es,rs => tvE (ev1 σ L (.call f es) rs)
  | .prim p es,rs => tvE (ev1 σ L (.prim p es) rs)
  | _,_ => none
theorem tv_of {e:CE} {p:Bool} (h:EvTo B k σ L e (.bool p)) (he:∀ Q,evW B k σ e L (fun d => ∃ p,d = .bool p ∧ Q p) → tvW B k σ e L Q) : TvTo B k σ L e p := fun Q q => he Q (h _ ⟨p,rfl,q⟩)
theorem tv1_ok (e:CE) : ∀ (rs:List V) (z:Bool × List V × List Ob),tv1 σ L e rs = some z → Obs B k σ z.2.2 → TvTo B k σ L e z.1 := by
  induction e with
  | not a ih =>
    intro rs z h ho
    obtain ⟨y,e,rfl⟩ := Option.map_eq_some_iff.mp h
    exact fun Q q => ih _ _ e ho _ q
  | and a b ih1 ih2 =>
    intro rs z h ho
    obtain ⟨y,e,h⟩ := Option.bind_eq_some_iff.mp h
    by_cases hp : y.1 = true
    · rw [if_pos hp] at h
      obtain ⟨w,e',rfl⟩ := Option.map_eq_some_iff.mp h
      exact fun Q q => ih1 _ _ e ho.app.1 _ ⟨fun _ => ih2 _ _ e' ho.app.2 _ q,fun g => by rw [hp] at g; exact noB g.symm⟩
    · rw [if_neg hp] at h
      cases h
      exact fun Q q => ih1 _ _ e ho _ ⟨fun g => absurd g hp,fun g => by rw [g] at q; exact q⟩
  | or a b ih1 ih2 =>
    intro rs z h ho
    obtain ⟨y,e,h⟩ := Option.bind_eq_some_iff.mp h
    by_cases hp : y.1 = true
    · rw [if_pos hp] at h
      cases h
      exact fun Q q => ih1 _ _ e ho _ ⟨fun g => by rw [hp] at g; exact noB g.symm,fun g => by rw [g] at q; exact q⟩
    · rw [if_neg hp] at h
      obtain ⟨w,e',rfl⟩ := Option.map_eq_some_iff.mp h
      exact fun Q q => ih1 _ _ e ho.app.1 _ ⟨fun _ => ih2 _ _ e' ho.app.2 _ q,fun g => absurd g hp⟩
  | cmp op a b => intro rs z h ho; exact tv_of (ev1_ok (.cmp op a b) rs _ (tvE_inv h) ho) fun _ q => q
  | lit v => intro rs z h ho; exact tv_of (ev1_ok (.lit v) rs _ (tvE_inv h) ho) fun _ q => q
  | var i => intro rs z h ho; exact tv_of (ev1_ok (.var i) rs _ (tvE_inv h) ho) fun _ q => q
  | idx a b => intro rs z h ho; exact tv_of (ev1_ok (.idx a b) rs _ (tvE_inv h) ho) fun _ q => q
  | call f es => intro rs z h ho; exact tv_of (ev1_ok (.call f es) rs _ (tvE_inv h) ho) fun _ q => q
  | prim f es => intro rs z h ho; exact tv_of (ev1_ok (.prim f es) rs _ (tvE_inv h) ho) fun _ q => q
  | _ => intro rs z h _; exact noS h
theorem to_tv {e:CE} {rs:List V} {p:Bool} {o:List Ob} (h:tv1 σ L e rs = some (p,[],o)) (ho:Obs B k σ o) : TvTo B k σ L e p := tv1_ok e rs _ h ho
noncomputable def stK (B:B0) (k:Nat) : List CS → CS → StF
  | [],s => stW B k s
  | r :: ks,s => fun L σ Q => stW B k s L σ (thenW (stK B k ks r) Q)
theorem thenW_K (ks:List CS) (r:CS) (Q:Out → Store → Prop) : (match ks with | [] => thenW (stW B k r) Q | k' :: ks' => thenW (stW B k r) (thenW (stK B k ks' k') Q)) = thenW (stK B k ks r) Q := by
  cases ks with
  | nil => rfl
  | cons k' ks' =>
    funext o σ
    cases o <;> rfl
noncomputable abbrev Gx : Type := Lc × List CS × CS × List V × List Ob
noncomputable def go1 (σ:Store) : Nat → Lc → List CS → CS → List V → Option Gx
  | 0,L,ks,s,rs => some (L,ks,s,rs,[])
  | n + 1,L,ks,s,rs => (match s with
    | .asg i e r => (match ev1 σ L e rs with
      | some (.v d,rs,o) => (go1 σ n (L.set i (some d)) ks r rs).map fun z => (z.1,z.2.1,z.2.2.1,z.2.2.2.1,o ++ z.2.2.2.2)
      | _ => none)
    | .unp is e r => (match ev1 σ L e rs with
      | some (.v d,rs,o) => (match d with
        | .tup ds => if ds.length = is.length then (go1 σ n (setAll L is ds) ks r rs).map fun z => (z.1,z.2.1,z.2.2.1,z.2.2.2.1,o ++ z.2.2.2.2) else none
        | _ => none)
      | _ => none)
    | .iff c a b r => (match tv1 σ L c rs with
      | some (p,rs,o) => (go1 σ n L (r :: ks) (if p = true then a else b) rs).map fun z => (z.1,z.2.1,z.2.2.1,z.2.2.2.1,o ++ z.2.2.2.2)
      | none => none)
    | .nil => (match ks with | r :: ks => go1 σ n L ks r rs | [] => none)
    | _ => none)
theorem go1_ok (n:Nat) : ∀ (L:Lc) (ks:List CS) (s:CS) (rs:List V) (z:Gx) (Q:Out → Store → Prop),go1 σ n L ks s rs = some z → Obs B k σ z.2.2.2.2 → stK B k z.2.1 z.2.2.1 z.1 σ Q → stK B k ks s L σ Q := by
  induction n with
  | zero => intro L ks s rs z Q h _ q; cases h; exact q
  | succ n ih =>
    intro L ks s rs z Q h ho q
    cases s with
    | asg i e r =>
      have h : (match ev1 σ L e rs with
        | some (.v d,rs,o) => (go1 σ n (L.set i (some d)) ks r rs).map fun z => (z.1,z.2.1,z.2.2.1,z.2.2.2.1,o ++ z.2.2.2.2)
        | _ => none) = some z := h
      cases e1 : ev1 σ L e rs with
      | none => rw [e1] at h; exact noS h
      | some x =>
        obtain ⟨a,rs',o⟩ := x
        rw [e1] at h
        cases a with
        | vs _ => exact noS h
        | v d =>
          obtain ⟨y,e2,rfl⟩ := Option.map_eq_some_iff.mp h
          have t := ih _ _ _ _ _ Q e2 ho.app.2 q
          have hv : EvTo B k σ L e d := ev1_ok e rs _ e1 ho.app.1
          cases ks with
          | nil => exact hv _ t
          | cons _ _ => exact hv _ t
    | unp is e r =>
      have h : (match ev1 σ L e rs with
        | some (.v d,rs,o) => (match d with
          | .tup ds => if ds.length = is.length then (go1 σ n (setAll L is ds) ks r rs).map fun z => (z.1,z.2.1,z.2.2.1,z.2.2.2.1,o ++ z.2.2.2.2) else none
          | _ => none)
        | _ => none) = some z := h
      cases e1 : ev1 σ L e rs with
      | none => rw [e1] at h; exact noS h
      | some x =>
        obtain ⟨a,rs',o⟩ := x
        rw [e1] at h
        cases a with
        | vs _ => exact noS h
        | v d => cases d with
          | tup ds =>
            have h : (if ds.length = is.length then (go1 σ n (setAll L is ds) ks r rs').map fun z => (z.1,z.2.1,z.2.2.1,z.2.2.2.1,o ++ z.2.2.2.2) else none) = some z := h
            by_cases hl : ds.length = is.length
            · rw [if_pos hl] at h
              obtain ⟨y,e2,rfl⟩ := Option.map_eq_some_iff.mp h
              have t := ih _ _ _ _ _ Q e2 ho.app.2 q
              have hv : EvTo B k σ L e (.tup ds) := ev1_ok e rs _ e1 ho.app.1
              cases ks with
              | nil => exact hv _ ⟨ds,rfl,hl,t⟩
              | cons _ _ => exact hv _ ⟨ds,rfl,hl,t⟩
            · rw [if_neg hl] at h; exact noS h
          | _ => exact noS h
    | iff c a b r =>
      have h : (match tv1 σ L c rs with
        | some (p,rs,o) => (go1 σ n L (r :: ks) (if p = true then a else b) rs).map fun z => (z.1,z.2.1,z.2.2.1,z.2.2.2.1,o ++ z.2.2.2.2)
        | none => none) = some z := h
      cases e1 : tv1 σ L c rs with
      | none => rw [e1] at h; exact noS h
      | some x =>
        obtain ⟨p,rs',o⟩ := x
        rw [e1] at h
        obtain ⟨y,e2,rfl⟩ := Option.map_eq_some_iff.mp h
        have t := ih _ _ _ _ _ Q e2 ho.app.2 q
        have hv : TvTo B k σ L c p := tv1_ok c rs _ e1 ho.app.1
        have t : stW B k (if p = true then a else b) L σ (thenW (stK B k ks r) Q) := t
        rw [← thenW_K] at t
        cases ks with
        | nil => exact hv _ ⟨fun g => by rw [if_pos g] at t; exact t,fun g => by rw [g] at t; exact t⟩
        | cons _ _ => exact hv _ ⟨fun g => by rw [if_pos g] at t; exact t,fun g => by rw [g] at t; exact t⟩
    | nil =>
      cases ks with
      | nil => exact noS h
      | cons r ks => exact ih L ks r rs z Q h ho q
    | _ => exact noS h
theorem go {n:Nat} {s:CS} {rs:List V} {L':Lc} {s':CS} {ks:List CS} {o:List Ob} {Q:Out → Store → Prop} (h:go1 σ n L [] s rs = some (L',ks,s',[],o)) (ho:Obs B k σ o) (q:stK B k ks s' L' σ Q) : stW B k s L σ Q := go1_ok n L [] s rs _ Q h ho q
theorem goR {n:Nat} {s:CS} {rs rs':List V} {L':Lc} {e:CE} {d:V} {ks:List CS} {o o':List Ob} {Q:Out → Store → Prop} (h:go1 σ n L [] s rs = some (L',ks,.ret e,rs',o)) (ho:Obs B k σ o) (h2:ev1 σ L' e rs' = some (.v d,[],o')) (ho':Obs B k σ o') (q:Q (.ret d) σ) : stW B k s L σ Q := by
  refine go1_ok n L [] s rs _ Q h ho ?_
  cases ks with
  | nil => exact to_ev h2 ho' _ q
  | cons _ _ => exact to_ev h2 ho' _ q
theorem goE {n:Nat} {s:CS} {rs:List V} {L':Lc} {e:CE} {d:V} {ks:List CS} {o:List Ob} {Q:Out → Store → Prop} (h:go1 σ n L [] s rs = some (L',ks,.ret e,[],o)) (ho:Obs B k σ o) (h2:EvTo B k σ L' e d) (q:Q (.ret d) σ) : stW B k s L σ Q := by
  refine go1_ok n L [] s rs _ Q h ho ?_
  cases ks with
  | nil => exact h2 _ q
  | cons _ _ => exact h2 _ q
theorem to_pure {e:CE} {d:V} (h:ev1 σ L e [] = some (.v d,[],[])) : EvTo B k σ L e d := to_ev h trivial
theorem goP {n:Nat} {s:CS} {L':Lc} {e:CE} {d:V} {ks:List CS} {Q:Out → Store → Prop} (h:go1 σ n L [] s [] = some (L',ks,.ret e,[],[])) (h2:ev1 σ L' e [] = some (.v d,[],[])) (q:Q (.ret d) σ) : stW B k s L σ Q := goE h trivial (to_pure h2) q
theorem to_c1 {e:CE} {d r:V} {f:Nat} {vs:List V} (h:ev1 σ L e [r] = some (.v d,[],[⟨f,vs,r⟩])) (hc:CallP B k f vs σ r) : EvTo B k σ L e d := to_ev h ⟨hc,trivial⟩
theorem tv_c1 {e:CE} {p:Bool} {r:V} {f:Nat} {vs:List V} (h:tv1 σ L e [r] = some (p,[],[⟨f,vs,r⟩])) (hc:CallP B k f vs σ r) : TvTo B k σ L e p := to_tv h ⟨hc,trivial⟩
theorem tv_pure {e:CE} {p:Bool} (h:tv1 σ L e [] = some (p,[],[])) : TvTo B k σ L e p := to_tv h trivial
theorem goS {n:Nat} {s:CS} {L':Lc} {s':CS} {ks:List CS} {Q:Out → Store → Prop} (h:go1 σ n L [] s [] = some (L',ks,s',[],[])) (q:stK B k ks s' L' σ Q) : stW B k s L σ Q := go h trivial q
theorem st_nil {f:StF} {Q:Out → Store → Prop} (q:f L σ Q) : stW B k .nil L σ (thenW f Q) := q
theorem st_nilT {go:Lc → Store → Prop} {f:StF} {Q:Out → Store → Prop} (q:go L σ) : stW B k .nil L σ (turnW go f Q) := q
theorem st_ret {e:CE} {d:V} {Q:Out → Store → Prop} (h:EvTo B k σ L e d) (q:Q (.ret d) σ) : stW B k (.ret e) L σ Q := h _ q
theorem st_asg {e:CE} {d:V} {m:Nat} {r:CS} {Q:Out → Store → Prop} (h:EvTo B k σ L e d) (t:stW B k r (L.set m (some d)) σ Q) : stW B k (.asg m e r) L σ Q := h _ t
theorem st_unp {e:CE} {ds:List V} {is:List Nat} {r:CS} {Q:Out → Store → Prop} (h:EvTo B k σ L e (.tup ds)) (hl:ds.length = is.length) (t:stW B k r (setAll L is ds) σ Q) : stW B k (.unp is e r) L σ Q := h _ ⟨ds,rfl,hl,t⟩
theorem st_if {e:CE} {p:Bool} {s1 s2 r:CS} {Q:Out → Store → Prop} (h:TvTo B k σ L e p) (h1:p = true → stW B k s1 L σ (thenW (stW B k r) Q)) (h2:p = false → stW B k s2 L σ (thenW (stW B k r) Q)) : stW B k (.iff e s1 s2 r) L σ Q := h _ ⟨h1,h2⟩
theorem st_no {e:CE} {s1 r:CS} {Q:Out → Store → Prop} (h:TvTo B k σ L e false) (t:stW B k r L σ Q) : stW B k (.iff e s1 .nil r) L σ Q := st_if h (fun e => noB e) fun _ => t
theorem st_yes {e:CE} {s1 s2 r:CS} {Q:Out → Store → Prop} (h:TvTo B k σ L e true) (t:stW B k s1 L σ (thenW (stW B k r) Q)) : stW B k (.iff e s1 s2 r) L σ Q := st_if h (fun _ => t) fun e => noB e.symm
theorem st_newD {i:Nat} {r:CS} {Q:Out → Store → Prop} (t:∀ a,(∀ m,(a,m) ∉ σ) → stW B k r (L.set i (some (.ref a))) ((a,.d []) :: σ) Q) : stW B k (.newD i r) L σ Q := t
theorem st_stoD {o i v:CE} {d:V} {a:Addr} {cs:List Nat} {kvs:List (List Nat × V)} {r:CS} {Q:Out → Store → Prop} (hv:EvTo B k σ L v d) (ho:EvTo B k σ L o (.ref a)) (hi:EvTo B k σ L i (.str cs)) (e:σ.lookup a = some (.d kvs)) (hz:kvs.length ≤ 1000) (t:stW B k r L (σ.put a (.d (upd kvs cs d))) Q) : stW B k (.sto o i v r) L σ Q := hv _ (ho _ (hi _ (stoW_d e ⟨hz,t⟩)))
theorem st_stoL {o i v:CE} {d:V} {a:Addr} {j:Int} {xs:List V} {r:CS} {Q:Out → Store → Prop} (hv:EvTo B k σ L v d) (ho:EvTo B k σ L o (.ref a)) (hi:EvTo B k σ L i (.int j)) (e:σ.lookup a = some (.l xs)) (h0:0 ≤ j) (hz:j.toNat < xs.length) (t:stW B k r L (σ.put a (.l (xs.set j.toNat d))) Q) : stW B k (.sto o i v r) L σ Q := hv _ (ho _ (hi _ (stoW_l e ⟨h0,hz,t⟩)))
theorem st_app {o x:CE} {d:V} {a:Addr} {xs:List V} {r:CS} {Q:Out → Store → Prop} (ho:EvTo B k σ L o (.ref a)) (e:σ.lookup a = some (.l xs)) (hx:EvTo B k σ L x d) (hz:xs.length ≤ 1000) (t:stW B k r L (σ.put a (.l (xs ++ [d]))) Q) : stW B k (.app o x r) L σ Q := ho _ ⟨a,xs,rfl,e,hx _ ⟨hz,t⟩⟩
theorem st_seq {e:CE} {x:V} {xs:List V} {tg:List Nat} {b r:CS} {Q:Out → Store → Prop} (h:EvTo B k σ L e x) (hs:srcOf x = some xs) (hz:xs.length ≤ 1000) (t:forW tg (stW B k b) (stW B k r) Q xs L σ) : stW B k (.for_ .seq (.cons e .nil) tg b r) L σ Q := by
  refine h _ ?_
  show optW (srcOf x) fun xs => xs.length ≤ sizeLine ∧ _
  rw [hs]
  exact ⟨le_line hz,t⟩
end
section
variable {B:B0} {k:Nat} {σ:Store} {L:Lc} {a b e es:CE} {x y d v:V} {xs ys ds vs:List V} {i j:Int} {n:Nat} {p q:Bool}
theorem to_var (h:L[n]? = some (some d)) : EvTo B k σ L (.var n) d := fun Q q => by
  show slotW L[n]? Q
  rw [h]
  exact q
theorem to_lit : EvTo B k σ L (.lit v) v := fun Q q => q
theorem to_gl (h:B.gv[n]? = some d) : EvTo B k σ L (.gl n) d := fun Q q => by
  show optW B.gv[n]? Q
  rw [h]
  exact q
theorem to_nil : EvsTo B k σ L .nil [] := fun Q q => q
theorem to_cons (h:EvTo B k σ L e d) (t:EvsTo B k σ L es ds) : EvsTo B k σ L (.cons e es) (d :: ds) := fun Q q => h _ (t _ q)
theorem to_tup (h:EvsTo B k σ L es ds) (hz:ds.length ≤ 1000) : EvTo B k σ L (.tup es) (.tup ds) := fun Q q => h _ ⟨le_line hz,q⟩
theorem to_lst (h:EvsTo B k σ L es ds) (hz:ds.length ≤ 1000) : EvTo B k σ L (.lst es) (.lst ds) := fun Q q => h _ ⟨le_line hz,q⟩
theorem to_idx (h1:EvTo B k σ L a x) (h2:EvTo B k σ L b (.int i)) (hs:seqOfV σ x = some xs) (h0:0 ≤ i) (hv:xs[i.toNat]? = some v) : EvTo B k σ L (.idx a b) v := fun Q q => by
  refine h1 _ (h2 _ ?_)
  show (match seqOfV σ x with | some xs => 0 ≤ i ∧ ∃ v,xs[i.toNat]? = some v ∧ Q v | none => False)
  rw [hs]
  exact ⟨h0,v,hv,q⟩
theorem to_mod (h1:EvTo B k σ L a (.int i)) (h2:EvTo B k σ L b (.int j)) (h0:0 < j) : EvTo B k σ L (.bin .mod a b) (.int (i % j)) := fun Q q => h1 _ (h2 _ ⟨h0,q⟩)
theorem to_add (h1:EvTo B k σ L a (.int i)) (h2:EvTo B k σ L b (.int j)) : EvTo B k σ L (.bin .add a b) (.int (i + j)) := fun Q q => h1 _ (h2 _ q)
theorem to_sub (h1:EvTo B k σ L a (.int i)) (h2:EvTo B k σ L b (.int j)) : EvTo B k σ L (.bin .sub a b) (.int (i - j)) := fun Q q => h1 _ (h2 _ q)
theorem to_mul (h1:EvTo B k σ L a (.int i)) (h2:EvTo B k σ L b (.int j)) (z1:i.natAbs ≤ 1000) (z2:j.natAbs ≤ 1000) : EvTo B k σ L (.bin .mul a b) (.int (i * j)) := fun Q q => h1 _ (h2 _ ⟨⟨by omega,by omega⟩,q⟩)
theorem to_cat (h1:EvTo B k σ L a (.lst xs)) (h2:EvTo B k σ L b (.lst ys)) (hz:xs.length + ys.length ≤ 100000) : EvTo B k σ L (.bin .add a b) (.lst (xs ++ ys)) := fun Q q => by
  exact h1 _ (h2 _ ⟨Nat.le_trans hz (by decide),q⟩)
theorem to_rep (h1:EvTo B k σ L a (.lst [x])) (h2:EvTo B k σ L b (.int n)) (hz:n ≤ 1000) : EvTo B k σ L (.bin .mul a b) (.lst (List.replicate n x)) := fun Q q => by
  refine h1 _ (h2 _ ⟨⟨Int.natCast_nonneg n,by omega,?_⟩,?_⟩)
  · rw [Int.toNat_natCast,List.length_singleton,Nat.one_mul]; exact le_line hz
  · rw [Int.toNat_natCast]
    have hr : ∀ n,(List.replicate n [x]).flatten = List.replicate n x := by
      intro n
      induction n with
      | zero => rfl
      | succ n ih => rw [List.replicate_succ,List.flatten_cons,ih,List.replicate_succ]; rfl
    rw [hr]
    exact q
theorem to_sl {lo hi:V} {l h:Option Int} (h1:EvTo B k σ L a (.lst xs)) (h2:EvTo B k σ L b lo) (h3:EvTo B k σ L e hi) (e1:partOf lo = some l) (e2:partOf hi = some h) : EvTo B k σ L (.sl a b e) (.lst (pick xs l h none)) := fun Q q => by
  refine h1 _ (h2 _ (h3 _ ?_))
  show (match some xs,partOf lo,partOf hi with | some xs,some l,some h => Q (.lst (pick xs l h none)) | _,_,_ => False)
  rw [e1,e2]
  exact q
theorem to_call {f:Nat} (h:EvsTo B k σ L es vs) (hc:CallP B k f vs σ v) : EvTo B k σ L (.call f es) v := fun Q q => h _ ⟨v,hc,q⟩
theorem to_prim {pr:Pr} (h:EvsTo B k σ L es vs) (hp:∀ Q : V → Prop,Q d → primW B.tc σ pr vs Q) : EvTo B k σ L (.prim pr es) d := fun Q q => h _ (hp Q q)
theorem to_len (h:EvTo B k σ L e x) (hs:seqOfV σ x = some xs) : EvTo B k σ L (.prim .len (.cons e .nil)) (.int xs.length) := to_prim (to_cons h to_nil) fun Q q => by
  show (match seqOfV σ x with | some xs => Q (.int xs.length) | none => False)
  rw [hs]
  exact q
theorem to_list (h:EvTo B k σ L e x) (hs:seqV x = some xs) : EvTo B k σ L (.prim .list (.cons e .nil)) (.lst xs) := to_prim (to_cons h to_nil) fun Q q => by
  show optW (seqV x) fun xs => Q (.lst xs)
  rw [hs]
  exact q
theorem to_sorted {ps:List (List Nat × V)} (h:EvTo B k σ L e (.sd ps)) (hz:ps.length ≤ 2) : EvTo B k σ L (.prim .sortedItems (.cons e .nil)) (.lst (itemsV (sortKV ps))) := to_prim (to_cons h to_nil) fun Q q => ⟨hz,q⟩
theorem tv_and (h1:TvTo B k σ L a p) (h2:p = true → TvTo B k σ L b q) (h3:p = false → q = false) : TvTo B k σ L (.and a b) q := fun Q hq => by
  refine h1 _ ⟨fun e => h2 e _ hq,fun e => ?_⟩
  rw [h3 e] at hq; exact hq
theorem tv_or_no (h1:TvTo B k σ L a false) (h2:TvTo B k σ L b false) : TvTo B k σ L (.or a b) false := fun Q hq => by
  exact h1 _ ⟨fun _ => h2 _ hq,fun e => noB e⟩
theorem tv_not (h1:TvTo B k σ L a p) : TvTo B k σ L (.not a) (!p) := fun Q hq => h1 _ hq
theorem tv_lt (h1:EvTo B k σ L a (.int i)) (h2:EvTo B k σ L b (.int j)) : TvTo B k σ L (.cmp .lt a b) (decide (i < j)) := fun Q hq => h1 _ (h2 _ ⟨_,rfl,hq⟩)
theorem tv_prim {pr:Pr} (h:EvsTo B k σ L es vs) (hp:∀ Q : V → Prop,Q (.bool p) → primW B.tc σ pr vs Q) : TvTo B k σ L (.prim pr es) p := fun Q hq => h _ (hp _ ⟨p,rfl,hq⟩)
theorem tv_call {f:Nat} (h:EvsTo B k σ L es vs) (hc:CallP B k f vs σ (.bool p)) : TvTo B k σ L (.call f es) p := fun Q hq => h _ ⟨_,hc,p,rfl,hq⟩
theorem tv_eqs {s t:List Nat} (h1:EvTo B k σ L a (.str s)) (h2:EvTo B k σ L b (.str t)) : TvTo B k σ L (.cmp .eq a b) (s == t) := fun Q hq => h1 _ (h2 _ ⟨_,rfl,hq⟩)
theorem tv_nes {s t:List Nat} (h1:EvTo B k σ L a (.str s)) (h2:EvTo B k σ L b (.str t)) : TvTo B k σ L (.cmp .ne a b) (s != t) := fun Q hq => h1 _ (h2 _ ⟨_,rfl,hq⟩)
theorem to_sl1 (h:EvTo B k σ L a (.tup (x :: xs))) : EvTo B k σ L (.sl a (.lit (.int 1)) (.lit .none)) (.tup xs) := fun Q q => h _ q
theorem to_comp {n0 cnt:Nat} {tg:List Nat} {Q:V → Prop} (h:EvTo B k σ L e x) (hs:srcOf x = some xs) (hz:xs.length ≤ 1000) (t:compW (evW B k σ a) tg (newL0 n0 cnt L) xs [] Q) : evW B k σ (.comp n0 cnt .seq (.cons e .nil) tg a) L Q := by
  refine h _ ?_
  show optW (srcOf x) fun xs => xs.length ≤ sizeLine ∧ _
  rw [hs]
  exact ⟨le_line hz,t⟩
theorem lookup_head {σ:Store} {a:Addr} {m:MO} : ((a,m) :: σ).lookup a = some m := by rw [List.lookup_cons,beq_self_eq_true]
theorem tv_ge1 (h1:EvTo B k σ L a (.int i)) (h:0 ≤ i) : TvTo B k σ L (.cmp .ge a (.lit (.int 0))) true := fun Q q => h1 _ ⟨true,by rw [decide_eq_true h],q⟩
theorem tv_ge0 (h1:EvTo B k σ L a (.int i)) (h:¬ 0 ≤ i) : TvTo B k σ L (.cmp .ge a (.lit (.int 0))) false := fun Q q => h1 _ ⟨false,by rw [decide_eq_false h],q⟩
theorem tv_lt1 (h1:EvTo B k σ L a (.int i)) (h2:EvTo B k σ L b (.int j)) (h:i < j) : TvTo B k σ L (.cmp .lt a b) true := fun Q q => h1 _ (h2 _ ⟨true,by rw [decide_eq_true h],q⟩)
theorem tv_lt0 (h1:EvTo B k σ L a (.int i)) (h2:EvTo B k σ L b (.int j)) (h:¬ i < j) : TvTo B k σ L (.cmp .lt a b) false := fun Q q => h1 _ (h2 _ ⟨false,by rw [decide_eq_false h],q⟩)
theorem st_newC {m:Nat} {c:CE} {r:CS} {Q:Out → Store → Prop} (h:EvTo B k σ L a x) (hs:listOfV σ x = some xs) (t:∀ ad,(∀ m,(ad,m) ∉ σ) → stW B k r (L.set m (some (.ref ad))) ((ad,.l xs) :: σ) Q) : stW B k (.newL m (.sl a b c) r) L σ Q := h _ ⟨xs,hs,t⟩
theorem to_idxD {cs:List Nat} {kvs:List (List Nat × V)} (h1:EvTo B k σ L a x) (h2:EvTo B k σ L b (.str cs)) (hs:dictOfV σ x = some kvs) (hv:kvs.lookup cs = some v) : EvTo B k σ L (.idx a b) v := fun Q q => by
  refine h1 _ (h2 _ ?_)
  show (match dictOfV σ x with | some kvs => ∃ v,kvs.lookup cs = some v ∧ Q v | none => False)
  rw [hs]
  exact ⟨v,hv,q⟩
theorem to_get {cs:List Nat} {kvs:List (List Nat × V)} (h1:EvTo B k σ L a (.sd kvs)) (h2:EvTo B k σ L b (.str cs)) (h3:EvTo B k σ L e d) : EvTo B k σ L (.get a b e) ((kvs.lookup cs).getD d) := fun Q q => h1 _ ⟨rfl,h2 _ (h3 _ q)⟩
theorem to_and (h1:EvTo B k σ L a (.bool p)) (h2:EvTo B k σ L b (.bool q)) : EvTo B k σ L (.and a b) (.bool (p && q)) := fun Q hq => h1 _ ⟨p,rfl,fun e => h2 _ (by rw [e] at hq; exact hq),fun e => by rw [e] at hq; exact hq⟩
theorem to_or (h1:EvTo B k σ L a (.bool p)) (h2:EvTo B k σ L b (.bool q)) : EvTo B k σ L (.or a b) (.bool (p || q)) := fun Q hq => h1 _ ⟨p,rfl,fun e => h2 _ (by rw [e] at hq; exact hq),fun e => by rw [e] at hq; exact hq⟩
theorem st_range2 {i j:Int} {tg:List Nat} {s r:CS} {Q:Out → Store → Prop} (h1:EvTo B k σ L a (.int i)) (h2:EvTo B k σ L b (.int j)) (hz:j - i ≤ 2 ^ 24) (t:forW tg (stW B k s) (stW B k r) Q (rangeV i (j - i).toNat) L σ) : stW B k (.for_ .range2 (.cons a (.cons b .nil)) tg s r) L σ Q := h1 _ (h2 _ ⟨hz,t⟩)
theorem st_range1 {j:Int} {tg:List Nat} {s r:CS} {Q:Out → Store → Prop} (h2:EvTo B k σ L b (.int j)) (hz:j ≤ 2 ^ 24) (t:forW tg (stW B k s) (stW B k r) Q (rangeV 0 j.toNat) L σ) : stW B k (.for_ .range1 (.cons b .nil) tg s r) L σ Q := h2 _ ⟨hz,t⟩
theorem tv_in (h1:EvTo B k σ L a x) (h2:EvTo B k σ L b (.lst ys)) (p1:x.plain = true) (p2:plainL ys = true) (hd:x.depth ≤ 4000) (e:(ys.any fun z => veq z x) = p) : TvTo B k σ L (.cmp .in_ a b) p := fun Q q => h1 _ (h2 _ ⟨p1,p2,hd,p,congrArg V.bool e,q⟩)
theorem tv_eqL (h1:EvTo B k σ L a (.lst xs)) (h2:EvTo B k σ L b (.lst ys)) (p1:plainL xs = true) (p2:plainL ys = true) (hd:(V.lst ys).depth ≤ 4000) (e:veq (.lst xs) (.lst ys) = p) : TvTo B k σ L (.cmp .eq a b) p := fun Q q => h1 _ (h2 _ ⟨p1,p2,.inr hd,p,congrArg V.bool e,q⟩)
theorem tv_eqT (h1:EvTo B k σ L a (.tup xs)) (h2:EvTo B k σ L b (.tup ys)) (p1:plainL xs = true) (p2:plainL ys = true) (hd:(V.tup ys).depth ≤ 4000) (e:veq (.tup xs) (.tup ys) = p) : TvTo B k σ L (.cmp .eq a b) p := fun Q q => h1 _ (h2 _ ⟨p1,p2,.inr hd,p,congrArg V.bool e,q⟩)
theorem to_rev (h:EvTo B k σ L a x) (hs:listOfV σ x = some xs) : EvTo B k σ L (.rev a) (.lst xs.reverse) := fun Q q => h _ (by
  show (match listOfV σ x with | some xs => Q (.lst xs.reverse) | _ => False)
  rw [hs]
  exact q)
theorem to_getR {ad:Addr} {cs:List Nat} {kvs:List (List Nat × V)} (h1:EvTo B k σ L a (.ref ad)) (hs:σ.lookup ad = some (.d kvs)) (h2:EvTo B k σ L b (.str cs)) (h3:EvTo B k σ L e d) : EvTo B k σ L (.get a b e) ((kvs.lookup cs).getD d) := fun Q q => by
  have hd : dictOfV σ (.ref ad) = some kvs := by
    show (match σ.lookup ad with | some (.d kvs) => some kvs | _ => none) = some kvs
    rw [hs]
  refine h1 _ ⟨?_,h2 _ (h3 _ ?_)⟩
  · show (dictOfV σ (.ref ad)).isSome = true
    rw [hd]; rfl
  · show (match dictOfV σ (.ref ad) with | some kvs => Q ((kvs.lookup cs).getD d) | none => False)
    rw [hd]
    exact q
theorem st_unpC {is:List Nat} {f:Nat} {σ':Store} {r:CS} {Q:Out → Store → Prop} (h:EvsTo B k σ L es vs) (hc:CallM B k f vs σ fun d τ => d = .tup ds ∧ τ = σ') (hl:ds.length = is.length) (t:stW B k r (setAll L is ds) σ' Q) : stW B k (.unpC is f es r) L σ Q := h _ (hc.mono fun d τ hd => by
  obtain ⟨rfl,rfl⟩ := hd
  exact ⟨ds,rfl,hl,t⟩)
theorem st_asgC {m f:Nat} {r:CS} {R:V → Store → Prop} {Q:Out → Store → Prop} (h:EvsTo B k σ L es vs) (hc:CallM B k f vs σ R) (t:∀ d τ,R d τ → stW B k r (L.set m (some d)) τ Q) : stW B k (.asgC m f es r) L σ Q := h _ (hc.mono t)
end
theorem upd_length (ds:List (List Nat × V)) (k:List Nat) (v:V) : (upd ds k v).length ≤ ds.length + 1 := by
  unfold upd
  split
  · rw [List.length_map]; exact Nat.le_succ _
  · rw [List.length_append]; exact Nat.le_refl _
section
variable {B:B0} {k:Nat} {σ:Store}
theorem frz_l {a:Addr} {ys:List V} : frzV [(a,.l ys)] (.ref a) = .lst ys := by
  show (match [(a,MO.l ys)].lookup a with | some (.l xs) => V.lst xs | some (.d kvs) => .sd kvs | _ => .ref a) = .lst ys
  rw [lookup_head]
theorem frz_d {a:Addr} {ys:List (List Nat × V)} : frzV [(a,.d ys)] (.ref a) = .sd ys := by
  show (match [(a,MO.d ys)].lookup a with | some (.l xs) => V.lst xs | some (.d kvs) => .sd kvs | _ => .ref a) = .sd ys
  rw [lookup_head]
theorem c_store (P:Prog1 B) (xs:List V) (p:Int) (v:V) (hx:xs.length ≤ 1000) : CallP B (k + 1) 2 [.lst xs,.int p,v] σ (.lst (if 0 ≤ p ∧ p < xs.length then xs.set p.toNat v else xs)) := by
  refine CallP_of_frz (callB P (by decide) (by kernel_rfl) ok2 tr2 ⟨rfl,rfl⟩ rfl ?_)
  rw [nx2]
  refine st_newC (x := .lst xs) (to_var rfl) rfl fun a ha => ?_
  have hl : seqOfV ((a,MO.l xs) :: σ) (.ref a) = some xs := by
    show (match ((a,MO.l xs) :: σ).lookup a with | some (.l xs) => some xs | _ => none) = some xs
    rw [lookup_head]
  have fin : ∀ ys L,L[3]? = some (some (V.ref a)) → ys = (if 0 ≤ p ∧ p < xs.length then xs.set p.toNat v else xs) → stW B k (.ret (.var 3)) L ((a,.l ys) :: σ) (RetQ fun d σ' => ∃ τ,σ' = τ ++ σ ∧ frzV τ d = .lst (if 0 ≤ p ∧ p < xs.length then xs.set p.toNat v else xs)) := fun ys L h e => st_ret (to_var h) ⟨[(a,.l ys)],rfl,by rw [frz_l,e]⟩
  by_cases hp : 0 ≤ p ∧ p < xs.length
  · refine st_yes (tv_and (p := true) (tv_ge1 (to_var rfl) hp.1) (fun _ => tv_lt1 (to_var rfl) (to_len (to_var rfl) hl) hp.2) fun e => e) ?_
    refine st_stoL (to_var rfl) (to_var rfl) (to_var rfl) lookup_head hp.1 (by have := hp.1; have := hp.2; omega) ?_
    rw [put_head ha]
    exact st_nil (fin _ _ rfl (by rw [if_pos hp]))
  · refine st_no ?_ (fin _ _ rfl (by rw [if_neg hp]))
    by_cases h0 : 0 ≤ p
    · exact tv_and (p := true) (tv_ge1 (to_var rfl) h0) (fun _ => tv_lt0 (to_var rfl) (to_len (to_var rfl) hl) fun h => hp ⟨h0,h⟩) fun e => rfl
    · exact tv_and (p := false) (tv_ge0 (to_var rfl) h0) (fun e => noB e) fun _ => rfl
theorem c_dictM (P:Prog1 B) (ps:List (List Nat × V)) (hz:ps.length ≤ 1000) : CallM B (k + 1) 0 [.lst (itemsV ps)] σ fun d σ' => ∃ a,(∀ m,(a,m) ∉ σ) ∧ d = .ref a ∧ σ' = (a,.d (putAll [] ps)) :: σ := by
  refine callB P (by decide) (by kernel_rfl) ok0 tr0 ⟨rfl,rfl⟩ rfl ?_
  rw [nx0]
  refine st_newD fun a ha => st_seq (to_var rfl) rfl (by rw [itemsV,List.length_map]; exact hz) ?_
  have key : ∀ (qs acc:List (List Nat × V)) (l2 l3:Option V),acc.length + qs.length ≤ 1000 → putAll acc qs = putAll [] ps →
      forW [2,3] (stW B k (.sto (.var 1) (.var 2) (.var 3) .nil)) (stW B k (.ret (.var 1))) (RetQ fun d σ' => ∃ a,(∀ m,(a,m) ∉ σ) ∧ d = .ref a ∧ σ' = (a,.d (putAll [] ps)) :: σ) (itemsV qs) [some (.lst (itemsV ps)),some (.ref a),l2,l3] ((a,.d acc) :: σ) := by
    intro qs
    induction qs with
    | nil => exact fun acc l2 l3 _ h => st_ret (to_var rfl) ⟨a,ha,rfl,by rw [← h]; rfl⟩
    | cons q qs ih =>
      intro acc l2 l3 hl h
      refine Exists.intro [some (.lst (itemsV ps)),some (.ref a),some (.str q.1),some q.2] (And.intro rfl (st_stoD (to_var rfl) (to_var rfl) (to_var rfl) lookup_head (Nat.le_trans (Nat.le_add_right _ _) hl) ?_))
      rw [put_head ha]
      refine st_nilT ?_
      exact ih (upd acc q.1 q.2) _ _ (Nat.le_trans (Nat.add_le_add_right (upd_length acc q.1 q.2) _) (by rw [Nat.add_right_comm]; exact hl)) h
  exact key ps [] none none (by rw [List.length_nil,Nat.zero_add]; exact hz) rfl
theorem c_dict (P:Prog1 B) (ps:List (List Nat × V)) (hz:ps.length ≤ 1000) : CallP B (k + 1) 0 [.lst (itemsV ps)] σ (.sd (putAll [] ps)) :=
  CallP_of_frz ((c_dictM P ps hz).mono fun d σ' h => by
    obtain ⟨a,ha,e1,e2⟩ := h
    exact ⟨[(a,.d (putAll [] ps))],e2,by rw [e1]; exact frz_d⟩)
end
noncomputable abbrev keysOf (kvs:List (List Nat × V)) : List (List Nat) := kvs.map (·.1)
theorem upd_new {ds:List (List Nat × V)} {k:List Nat} {v:V} (h:k ∉ keysOf ds) : upd ds k v = ds ++ [(k,v)] := by
  unfold upd
  rw [if_neg]
  intro hany
  obtain ⟨p,hp,e⟩ := List.any_eq_true.mp hany
  exact h (List.mem_map.mpr ⟨p,hp,by simpa using e⟩)
theorem lookup_nodup {pre post:List (List Nat × V)} {k:List Nat} {v:V} (h:k ∉ keysOf pre) : (pre ++ (k,v) :: post).lookup k = some v := by
  induction pre with
  | nil => simp
  | cons p r ih =>
    obtain ⟨k',v'⟩ := p
    simp only [keysOf,List.map_cons,List.mem_cons,not_or] at h
    have e' : (k == k') = false := beq_eq_false_iff_ne.mpr h.1
    simp only [List.cons_append,List.lookup_cons,e']
    exact ih h.2
section
variable {B:B0} {k:Nat} {σ:Store}
theorem c_with (P:Prog1 B) (kvs:List (List Nat × V)) (key:List Nat) (v:V) (hn:(keysOf kvs).Nodup) (hz:kvs.length ≤ 900) : CallP B (k + 1) 1 [.sd kvs,.str key,v] σ (.sd (upd kvs key v)) := by
  refine CallP_of_frz (callB P (by decide) (by kernel_rfl) ok1 tr1 ⟨rfl,rfl⟩ rfl ?_)
  rw [nx1]
  refine st_newD fun a ha => st_seq (to_var rfl) rfl (by rw [List.length_map]; exact Nat.le_trans hz (by decide)) ?_
  have key : ∀ (post pre:List (List Nat × V)) (l4:Option V),kvs = pre ++ post →
      forW [4] (stW B k (.sto (.var 3) (.var 4) (.idx (.var 0) (.var 4)) .nil)) (stW B k (.sto (.var 3) (.var 1) (.var 2) (.ret (.var 3)))) (RetQ fun d σ' => ∃ τ,σ' = τ ++ σ ∧ frzV τ d = .sd (upd kvs key v)) (post.map fun p => .str p.1)
        [some (.sd kvs),some (.str key),some v,some (.ref a),l4] ((a,.d pre) :: σ) := by
    intro post
    induction post with
    | nil =>
      intro pre l4 e
      rw [List.append_nil] at e
      subst e
      refine st_stoD (to_var rfl) (to_var rfl) (to_var rfl) lookup_head (Nat.le_trans hz (by decide)) ?_
      rw [put_head ha]
      exact st_ret (to_var rfl) ⟨[(a,.d (upd kvs key v))],rfl,frz_d⟩
    | cons q post ih =>
      intro pre l4 e
      have hnd : q.1 ∉ keysOf pre := by
        rw [e,keysOf,List.map_append,List.map_cons] at hn
        exact fun hm => (List.nodup_append.mp hn).2.2 q.1 hm q.1 (.head _) rfl
      have hlk : kvs.lookup q.1 = some q.2 := by rw [e]; exact lookup_nodup hnd
      refine Exists.intro [some (.sd kvs),some (.str key),some v,some (.ref a),some (.str q.1)] (And.intro rfl (st_stoD (to_idxD (to_var rfl) (to_var rfl) rfl hlk) (to_var rfl) (to_var rfl) lookup_head (by rw [e,List.length_append] at hz; exact Nat.le_trans (Nat.le_add_right _ _) (Nat.le_trans hz (by decide))) ?_))
      rw [put_head ha,upd_new hnd]
      refine st_nilT ?_
      exact ih (pre ++ [q]) _ (by rw [e,List.append_assoc]; rfl)
  exact key kvs [] none rfl
end
end Mine
end
section
namespace Mine
open PySem
mutual
inductive IT where
  | num (i:Int)
  | var (x:List Nat)
  | add (a b:IT)
  | sub (a b:IT)
  | at_ (a:AT) (i:IT)
  | size (a:AT)
inductive AT where
  | arr (x:List Nat)
  | store (a:AT) (i v:IT)
end
inductive BT where
  | tru
  | less (a b:IT)
  | equal (a b:IT)
  | not (a:BT)
  | and (a b:BT)
  | or (a b:BT)
  | implies (a b:BT)
  | all (lo:IT) (n:Int) (body:BT)
noncomputable abbrev kK : List Nat := [75]
noncomputable abbrev kx : List Nat := [120]
noncomputable abbrev ky : List Nat := [121]
noncomputable abbrev ka : List Nat := [97]
structure St where
  ns : List (List Nat × Int)
  ar : List (List Nat × List Int)
noncomputable def St.getI (s:St) (x:List Nat) : Int := (s.ns.lookup x).getD 0
noncomputable def St.getA (s:St) (x:List Nat) : List Int := (s.ar.lookup x).getD []
noncomputable def updT {α:Type} (kvs:List (List Nat × α)) (k:List Nat) (v:α) : List (List Nat × α) :=
  if kvs.any (fun p => p.1 == k) then kvs.map (fun p => if p.1 == k then (p.1,v) else p) else kvs ++ [(k,v)]
noncomputable def St.setI (s:St) (x:List Nat) (i:Int) : St := { s with ns := updT s.ns x i }
noncomputable def St.setA (s:St) (x:List Nat) (a:List Int) : St := { s with ar := updT s.ar x a }
noncomputable def getC (a:List Int) (i:Int) : Int := if 0 ≤ i ∧ i < a.length then a.getD i.toNat 0 else 0
noncomputable def setC (a:List Int) (i v:Int) : List Int := if 0 ≤ i ∧ i < a.length then a.set i.toNat v else a
mutual
noncomputable def evI (s:St) : IT → Int
  | .num i => i
  | .var x => s.getI x
  | .add a b => evI s a + evI s b
  | .sub a b => evI s a - evI s b
  | .at_ a i => getC (evA s a) (evI s i)
  | .size a => (evA s a).length
noncomputable def evA (s:St) : AT → List Int
  | .arr x => s.getA x
  | .store a i v => setC (evA s a) (evI s i) (evI s v)
end
noncomputable def evB (s:St) : BT → Bool
  | .tru => true
  | .less a b => decide (evI s a < evI s b)
  | .equal a b => evI s a == evI s b
  | .not a => !evB s a
  | .and a b => evB s a && evB s b
  | .or a b => evB s a || evB s b
  | .implies a b => !evB s a || evB s b
  | .all lo n body => (List.range n.toNat).all fun j => evB (s.setI kK (evI s lo + j)) body
mutual
noncomputable def repI : IT → V
  | .num i => .tup [.str [110,117,109],.int i]
  | .var x => .tup [.str [118,97,114],.str x]
  | .add a b => .tup [.str [97,100,100],repI a,repI b]
  | .sub a b => .tup [.str [115,117,98],repI a,repI b]
  | .at_ a i => .tup [.str [97,116],repA a,repI i]
  | .size a => .tup [.str [115,105,122,101],repA a]
noncomputable def repA : AT → V
  | .arr x => .tup [.str [97,114,114,97,121],.str x]
  | .store a i v => .tup [.str [115,116,111,114,101],repA a,repI i,repI v]
end
noncomputable def repB : BT → V
  | .tru => .tup [.str [116,114,117,101]]
  | .less a b => .tup [.str [108,101,115,115],repI a,repI b]
  | .equal a b => .tup [.str [101,113,117,97,108],repI a,repI b]
  | .not a => .tup [.str [110,111,116],repB a]
  | .and a b => .tup [.str [97,110,100],repB a,repB b]
  | .or a b => .tup [.str [111,114],repB a,repB b]
  | .implies a b => .tup [.str [105,109,112,108,105,101,115],repB a,repB b]
  | .all lo n body => .tup [.str [97,108,108],.str kK,repI lo,.tup [.str [97,100,100],repI lo,.tup [.str [110,117,109],.int n]],repB body]
mutual
noncomputable def dI : IT → Nat
  | .num _ => 0
  | .var _ => 0
  | .add a b => max (dI a) (dI b) + 1
  | .sub a b => max (dI a) (dI b) + 1
  | .at_ a i => max (dA a) (dI i) + 1
  | .size a => dA a + 1
noncomputable def dA : AT → Nat
  | .arr _ => 0
  | .store a i v => max (dA a) (max (dI i) (dI v)) + 1
end
noncomputable def dB : BT → Nat
  | .tru => 0
  | .less a b => max (dI a) (dI b) + 1
  | .equal a b => max (dI a) (dI b) + 1
  | .not a => dB a + 1
  | .and a b => max (dB a) (dB b) + 1
  | .or a b => max (dB a) (dB b) + 1
  | .implies a b => max (dB a) (dB b) + 1
  | .all lo _ body => max (dI lo + 1) (dB body) + 2
noncomputable def arV1 (a:List Int) : V := .lst (a.map .int)
noncomputable def nsV (s:St) : List (List Nat × V) := s.ns.map fun p => (p.1,.int p.2)
noncomputable def arV (s:St) : List (List Nat × V) := s.ar.map fun p => (p.1,arV1 p.2)
structure St.OK (s:St) (m:Nat) : Prop where
  keys : (s.ns.map (·.1)).Nodup
  keysA : (s.ar.map (·.1)).Nodup
  len : s.ns.length + m ≤ 900
  lenA : ∀ p ∈ s.ar,p.2.length ≤ 1000
end Mine
end
section
namespace Mine

theorem c2 {α β γ:Type} (f:α → β → γ) {a a':α} {b b':β} (h:a = a') (k:b = b') : f a b = f a' b' := by rw [h,k]
theorem lk1 {α:Type} (z y:List Nat) (w:α) (r:List (List Nat × α)) : ((y,w) :: r).lookup z = if z = y then some w else r.lookup z := by
  rw [List.lookup_cons]
  by_cases e : z = y
  · rw [if_pos e,e,beq_self_eq_true]
  · rw [if_neg e,beq_eq_false_iff_ne.mpr e]
section
variable {α:Type} {k z:List Nat} {v:α}
theorem lkm_ne (h:z ≠ k) (l:List (List Nat × α)) : (l.map fun p => if p.1 == k then (p.1,v) else p).lookup z = l.lookup z := by
  induction l with
  | nil => rfl
  | cons p r ih =>
    obtain ⟨y,w⟩ := p
    show ((if (y == k) = true then (y,v) else (y,w)) :: r.map _).lookup z = _
    by_cases e : y = k
    · rw [if_pos (beq_iff_eq.mpr e),lk1,lk1,ih,if_neg fun q => h (q.trans e),if_neg fun q => h (q.trans e)]
    · rw [if_neg fun q => e (eq_of_beq q),lk1,lk1,ih]
theorem lkm_eq (l:List (List Nat × α)) (h:(l.any fun p => p.1 == k) = true) : (l.map fun p => if p.1 == k then (p.1,v) else p).lookup k = some v := by
  induction l with
  | nil => exact noB h
  | cons p r ih =>
    obtain ⟨y,w⟩ := p
    have h : (y == k || r.any fun p => p.1 == k) = true := h
    show ((if (y == k) = true then (y,v) else (y,w)) :: r.map _).lookup k = _
    by_cases e : y = k
    · rw [if_pos (beq_iff_eq.mpr e),lk1,if_pos e.symm]
    · rw [if_neg fun q => e (eq_of_beq q),lk1,if_neg (Ne.symm e)]
      rw [beq_eq_false_iff_ne.mpr e] at h
      exact ih h
theorem lk_no (l:List (List Nat × α)) (h:¬ (l.any fun p => p.1 == k) = true) : l.lookup k = none := by
  rw [List.lookup_eq_none_iff]
  exact fun p hp => bne_iff_ne.mpr fun e => h (List.any_eq_true.mpr ⟨p,hp,beq_iff_eq.mpr e.symm⟩)
end
theorem lookup_updT {α:Type} (kvs:List (List Nat × α)) (k:List Nat) (v:α) (z:List Nat) : (updT kvs k v).lookup z = if z = k then some v else kvs.lookup z := by
  unfold updT
  by_cases hany : kvs.any (fun p => p.1 == k) = true
  · rw [if_pos hany]
    by_cases e : z = k
    · rw [if_pos e,e,lkm_eq kvs hany]
    · rw [if_neg e,lkm_ne e]
  · rw [if_neg hany,List.lookup_append,lk1]
    by_cases e : z = k
    · rw [if_pos e,if_pos e,e,lk_no kvs hany]; rfl
    · rw [if_neg e,if_neg e]; exact Option.or_none
theorem getI_setI (s:St) (x:List Nat) (v:Int) (z:List Nat) : (s.setI x v).getI z = if z = x then v else s.getI z := by
  unfold St.setI St.getI
  rw [lookup_updT]
  by_cases e : z = x
  · rw [if_pos e,if_pos e]; rfl
  · rw [if_neg e,if_neg e]
theorem getA_setI (s:St) (x:List Nat) (v:Int) (z:List Nat) : (s.setI x v).getA z = s.getA z := rfl
theorem getA_setA (s:St) (x:List Nat) (v:List Int) (z:List Nat) : (s.setA x v).getA z = if z = x then v else s.getA z := by
  unfold St.setA St.getA
  rw [lookup_updT]
  by_cases e : z = x
  · rw [if_pos e,if_pos e]; rfl
  · rw [if_neg e,if_neg e]
theorem getI_setA (s:St) (x:List Nat) (v:List Int) (z:List Nat) : (s.setA x v).getI z = s.getI z := rfl
structure Sub where
  f : List Nat → IT
  g : List Nat → AT
mutual
noncomputable def sbI (r:Sub) : IT → IT
  | .num i => .num i
  | .var x => r.f x
  | .add a b => .add (sbI r a) (sbI r b)
  | .sub a b => .sub (sbI r a) (sbI r b)
  | .at_ a i => .at_ (sbA r a) (sbI r i)
  | .size a => .size (sbA r a)
noncomputable def sbA (r:Sub) : AT → AT
  | .arr x => r.g x
  | .store a i v => .store (sbA r a) (sbI r i) (sbI r v)
end
noncomputable def sbB (r:Sub) : BT → BT
  | .tru => .tru
  | .less a b => .less (sbI r a) (sbI r b)
  | .equal a b => .equal (sbI r a) (sbI r b)
  | .not a => .not (sbB r a)
  | .and a b => .and (sbB r a) (sbB r b)
  | .or a b => .or (sbB r a) (sbB r b)
  | .implies a b => .implies (sbB r a) (sbB r b)
  | .all lo n body => .all (sbI r lo) n (sbB r body)
structure Sees (r:Sub) (s s':St) : Prop where
  i : ∀ z,s'.getI z = evI s (r.f z)
  a : ∀ z,s'.getA z = evA s (r.g z)
theorem IT.both {P:IT → Prop} {Q:AT → Prop} (h1:∀ i,P (.num i)) (h2:∀ x,P (.var x)) (h3:∀ a b,P a → P b → P (.add a b)) (h4:∀ a b,P a → P b → P (.sub a b)) (h5:∀ a b,Q a → P b → P (.at_ a b)) (h6:∀ a,Q a → P (.size a)) (h7:∀ x,Q (.arr x)) (h8:∀ a i v,Q a → P i → P v → Q (.store a i v)) : (∀ t,P t) ∧ ∀ t,Q t :=
  ⟨IT.rec (motive_1 := P) (motive_2 := Q) h1 h2 h3 h4 h5 h6 h7 h8,AT.rec (motive_1 := P) (motive_2 := Q) h1 h2 h3 h4 h5 h6 h7 h8⟩
theorem ev_sb {r:Sub} {s s':St} (h:Sees r s s') : (∀ t,evI s (sbI r t) = evI s' t) ∧ ∀ t,evA s (sbA r t) = evA s' t :=
  IT.both (fun _ => rfl) (fun x => (h.i x).symm) (fun _ _ => c2 (· + ·)) (fun _ _ => c2 (· - ·)) (fun _ _ => c2 getC) (fun _ e => congrArg (fun l:List Int => (l.length : Int)) e) (fun x => (h.a x).symm) fun _ _ _ e1 e2 e3 => c2 (fun f x => f x) (c2 setC e1 e2) e3
theorem evI_sb {r:Sub} {s s':St} (h:Sees r s s') (t:IT) : evI s (sbI r t) = evI s' t := (ev_sb h).1 t
theorem evA_sb {r:Sub} {s s':St} (h:Sees r s s') (t:AT) : evA s (sbA r t) = evA s' t := (ev_sb h).2 t
structure Clean (r:Sub) : Prop where
  k : r.f kK = .var kK
  i : ∀ z,z ≠ kK → ∀ s j,evI (St.setI s kK j) (r.f z) = evI s (r.f z)
  a : ∀ z s j,evA (St.setI s kK j) (r.g z) = evA s (r.g z)
theorem Sees.all {r:Sub} {s s':St} (h:Sees r s s') (c:Clean r) (j:Int) : Sees r (s.setI kK j) (s'.setI kK j) :=
  ⟨fun z => by
    rw [getI_setI]
    by_cases e : z = kK
    · rw [if_pos e,e,c.k]
      exact ((getI_setI s kK j kK).trans (if_pos rfl)).symm
    · rw [if_neg e,c.i z e,h.i z],fun z => by rw [getA_setI,c.a,h.a]⟩
theorem evB_sb {r:Sub} (c:Clean r) (t:BT) : ∀ {s s':St},Sees r s s' → evB s (sbB r t) = evB s' t := by
  induction t with
  | tru => exact fun _ => rfl
  | less a b => exact fun h => c2 (fun x y:Int => decide (x < y)) (evI_sb h a) (evI_sb h b)
  | equal a b => exact fun h => c2 (fun x y:Int => x == y) (evI_sb h a) (evI_sb h b)
  | not a ih => exact fun h => congrArg (!·) (ih h)
  | and a b ih1 ih2 => exact fun h => c2 (· && ·) (ih1 h) (ih2 h)
  | or a b ih1 ih2 => exact fun h => c2 (· || ·) (ih1 h) (ih2 h)
  | implies a b ih1 ih2 => exact fun h => c2 (!· || ·) (ih1 h) (ih2 h)
  | all lo n body ih =>
    intro s s' h
    show ((List.range n.toNat).all fun j => evB (s.setI kK (evI s (sbI r lo) + j)) (sbB r body)) = _
    rw [evI_sb h]
    exact congrArg (List.range n.toNat).all (funext fun j => ih (h.all c _))
noncomputable def subI (x:List Nat) (e:IT) : Sub := ⟨fun z => if z = x then e else .var z,.arr⟩
noncomputable def subA (x:List Nat) (e:AT) : Sub := ⟨.var,fun z => if z = x then e else .arr z⟩
theorem sees_subI (s:St) (x:List Nat) (e:IT) : Sees (subI x e) s (s.setI x (evI s e)) :=
  ⟨fun z => by
    rw [getI_setI]
    show _ = evI s (if z = x then e else .var z)
    by_cases q : z = x
    · rw [if_pos q,if_pos q]
    · rw [if_neg q,if_neg q]; rfl,fun z => rfl⟩
theorem sees_subA (s:St) (x:List Nat) (e:AT) : Sees (subA x e) s (s.setA x (evA s e)) :=
  ⟨fun z => rfl,fun z => by
    rw [getA_setA]
    show _ = evA s (if z = x then e else .arr z)
    by_cases q : z = x
    · rw [if_pos q,if_pos q]
    · rw [if_neg q,if_neg q]; rfl⟩
mutual
noncomputable def fqI : IT → Bool
  | .num _ => true
  | .var x => x != kK
  | .add a b => fqI a && fqI b
  | .sub a b => fqI a && fqI b
  | .at_ a i => fqA a && fqI i
  | .size a => fqA a
noncomputable def fqA : AT → Bool
  | .arr _ => true
  | .store a i v => fqA a && fqI i && fqI v
end
theorem an {a b:Bool} (h:(a && b) = true) : a = true ∧ b = true := Bool.and_eq_true_iff.mp h
theorem fq_ok : (∀ t : IT,fqI t = true → ∀ (s:St) (j:Int),evI (s.setI kK j) t = evI s t) ∧ ∀ t : AT,fqA t = true → ∀ (s:St) (j:Int),evA (s.setI kK j) t = evA s t :=
  IT.both (fun _ _ _ _ => rfl) (fun x h s j => (getI_setI s kK j x).trans (if_neg (bne_iff_ne.mp h))) (fun _ _ i1 i2 h s j => c2 (· + ·) (i1 (an h).1 s j) (i2 (an h).2 s j)) (fun _ _ i1 i2 h s j => c2 (· - ·) (i1 (an h).1 s j) (i2 (an h).2 s j)) (fun _ _ i1 i2 h s j => c2 getC (i1 (an h).1 s j) (i2 (an h).2 s j)) (fun _ i1 h s j => congrArg (fun l:List Int => (l.length : Int)) (i1 h s j)) (fun _ _ _ _ => rfl)
    fun _ _ _ i1 i2 i3 h s j => c2 (fun f x => f x) (c2 setC (i1 (an (an h).1).1 s j) (i2 (an (an h).1).2 s j)) (i3 (an h).2 s j)
theorem fqI_ok (t:IT) (h:fqI t = true) (s:St) (j:Int) : evI (s.setI kK j) t = evI s t := fq_ok.1 t h s j
theorem fqA_ok (t:AT) (h:fqA t = true) (s:St) (j:Int) : evA (s.setI kK j) t = evA s t := fq_ok.2 t h s j
theorem clean_subI {x:List Nat} {e:IT} (hx:x ≠ kK) (he:fqI e = true) : Clean (subI x e) :=
  ⟨if_neg (Ne.symm hx),fun z hz s j => by
    show evI _ (if z = x then e else .var z) = evI s (if z = x then e else .var z)
    by_cases q : z = x
    · rw [if_pos q]; exact fqI_ok e he s j
    · rw [if_neg q]; exact (getI_setI s kK j z).trans (if_neg hz),fun z s j => rfl⟩
theorem clean_subA {x:List Nat} {e:AT} (he:fqA e = true) : Clean (subA x e) :=
  ⟨rfl,fun z hz s j => (getI_setI s kK j z).trans (if_neg hz),fun z s j => by
    show evA _ (if z = x then e else .arr z) = evA s (if z = x then e else .arr z)
    by_cases q : z = x
    · rw [if_pos q]; exact fqA_ok e he s j
    · rw [if_neg q]; rfl⟩
theorem mx {a b a' b' d:Nat} (h1:a' ≤ a + d) (h2:b' ≤ b + d) : max a' b' ≤ max a b + d := Nat.max_le.mpr ⟨Nat.le_trans h1 (Nat.add_le_add_right (Nat.le_max_left _ _) _),Nat.le_trans h2 (Nat.add_le_add_right (Nat.le_max_right _ _) _)⟩
theorem s1 {a b d:Nat} (h:a ≤ b + d) : a + 1 ≤ b + 1 + d := by rw [Nat.add_right_comm]; exact Nat.succ_le_succ h
theorem mx1 {a b a' b' d:Nat} (h1:a' ≤ a + d) (h2:b' ≤ b + d) : max a' b' + 1 ≤ max a b + 1 + d := s1 (mx h1 h2)
theorem d_sb {r:Sub} {d:Nat} (hf:∀ z,dI (r.f z) ≤ d) (hg:∀ z,dA (r.g z) ≤ d) : (∀ t,dI (sbI r t) ≤ dI t + d) ∧ ∀ t,dA (sbA r t) ≤ dA t + d :=
  IT.both (fun _ => Nat.zero_le _) (fun x => Nat.le_trans (hf x) (Nat.le_add_left _ _)) (fun _ _ => mx1) (fun _ _ => mx1) (fun _ _ => mx1) (fun _ => s1) (fun x => Nat.le_trans (hg x) (Nat.le_add_left _ _)) fun _ _ _ h1 h2 h3 => mx1 h1 (mx h2 h3)
theorem dI_sb {r:Sub} {d:Nat} (hf:∀ z,dI (r.f z) ≤ d) (hg:∀ z,dA (r.g z) ≤ d) (t:IT) : dI (sbI r t) ≤ dI t + d := (d_sb hf hg).1 t
theorem dA_sb {r:Sub} {d:Nat} (hf:∀ z,dI (r.f z) ≤ d) (hg:∀ z,dA (r.g z) ≤ d) (t:AT) : dA (sbA r t) ≤ dA t + d := (d_sb hf hg).2 t
theorem dB_sb {r:Sub} {d:Nat} (hf:∀ z,dI (r.f z) ≤ d) (hg:∀ z,dA (r.g z) ≤ d) (t:BT) : dB (sbB r t) ≤ dB t + d := by
  induction t with
  | tru => exact Nat.zero_le _
  | less a b => exact mx1 (dI_sb hf hg a) (dI_sb hf hg b)
  | equal a b => exact mx1 (dI_sb hf hg a) (dI_sb hf hg b)
  | not a ih => exact s1 ih
  | and a b ih1 ih2 => exact mx1 ih1 ih2
  | or a b ih1 ih2 => exact mx1 ih1 ih2
  | implies a b ih1 ih2 => exact mx1 ih1 ih2
  | all lo n body ih => exact s1 (mx1 (s1 (dI_sb hf hg lo)) ih)
structure Lw where
  m : Int
  n : Int
  p : Nat → Int
noncomputable def lawT (w:Lw) (u:Int) : IT :=
  match ((u + w.m) % 7).toNat with
  | 0 => .var kx
  | 1 => .var ky
  | 2 => .num w.n
  | 3 => .size (.arr ka)
  | 4 => .add (.var kx) (.num w.n)
  | 5 => .sub (.var ky) (.var kx)
  | _ => .at_ (.arr ka) (.var kx)
noncomputable def lawL (w:Lw) (u:Int) : BT := .less (lawT w u) (.var ky)
noncomputable def lawE (w:Lw) (u:Int) : BT := .equal (.var kx) (lawT w u)
noncomputable def lawK (w:Lw) (u:Int) : BT := .less (.add (.var kK) (.at_ (.arr ka) (.var kK))) (lawT w u)
noncomputable def lawC (w:Lw) (u:Int) : BT :=
  match (u % 8).toNat with
  | 0 => .tru
  | 1 => lawL w u
  | 2 => lawE w u
  | 3 => .not (lawL w u)
  | 4 => .and (lawL w u) (lawE w u)
  | 5 => .or (lawL w u) (lawE w u)
  | 6 => .implies (lawE w u) (lawL w u)
  | _ => .all (.var kx) w.n (lawK w u)
inductive Sm where
  | skip
  | set (x:List Nat) (e:IT)
  | put (a:List Nat) (i e:IT)
  | asrt (c:BT)
  | ite (c:BT) (p q:List Sm)
  | whl (c kept:BT) (p:List Sm)
noncomputable def lawS (w:Lw) (u:Int) : Sm :=
  match (u % 5).toNat with
  | 0 => .skip
  | 1 => .set kx (lawT w u)
  | 2 => .set ky (lawT w u)
  | 3 => .put ka (.var kx) (lawT w u)
  | _ => .asrt (lawC w (u + w.m))
inductive How where | done | failed | more
  deriving DecidableEq
inductive Job where
  | blk (b:List Sm)
  | one (a:Sm)
  | lp (c:BT) (p:List Sm)
noncomputable def putS (s:St) (a:List Nat) (i e:IT) : St := s.setA a (setC (s.getA a) (evI s i) (evI s e))
inductive Ex : Job → St → Nat → How → St → Nat → Prop
  | nil {s l} : Ex (.blk []) s l .done s l
  | consD {a r s l s1 l1 h s2 l2} : Ex (.one a) s l .done s1 l1 → Ex (.blk r) s1 l1 h s2 l2 → Ex (.blk (a :: r)) s l h s2 l2
  | consX {a r s l h s1 l1} : Ex (.one a) s l h s1 l1 → h ≠ .done → Ex (.blk (a :: r)) s l h s1 l1
  | skip {s l} : Ex (.one .skip) s l .done s l
  | set {x e s l} : Ex (.one (.set x e)) s l .done (s.setI x (evI s e)) l
  | put {a i e s l} : Ex (.one (.put a i e)) s l .done (putS s a i e) l
  | asT {c s l} : evB s c = true → Ex (.one (.asrt c)) s l .done s l
  | asF {c s l} : evB s c = false → Ex (.one (.asrt c)) s l .failed s l
  | iteT {c p q s l h s1 l1} : evB s c = true → Ex (.blk p) s l h s1 l1 → Ex (.one (.ite c p q)) s l h s1 l1
  | iteF {c p q s l h s1 l1} : evB s c = false → Ex (.blk q) s l h s1 l1 → Ex (.one (.ite c p q)) s l h s1 l1
  | whl {c k p s l h s1 l1} : Ex (.lp c p) s l h s1 l1 → Ex (.one (.whl c k p)) s l h s1 l1
  | lpF {c p s l} : evB s c = false → Ex (.lp c p) s l .done s l
  | lp0 {c p s} : evB s c = true → Ex (.lp c p) s 0 .more s 0
  | lpD {c p s l s1 l1 h s2 l2} : evB s c = true → Ex (.blk p) s l .done s1 l1 → Ex (.lp c p) s1 l1 h s2 l2 → Ex (.lp c p) s (l + 1) h s2 l2
  | lpX {c p s l h s1 l1} : evB s c = true → Ex (.blk p) s l h s1 l1 → h ≠ .done → Ex (.lp c p) s (l + 1) h s1 l1
inductive Kd where | step | loop | fork | goal
  deriving DecidableEq
structure Nd where
  kd : Kd
  here : Nat
  there : Nat
  goal : Nat
noncomputable def flows : Nat → List Nd
  | 0 => [⟨.step,1,1,0⟩,⟨.loop,2,5,8⟩,⟨.step,3,3,0⟩,⟨.loop,4,6,9⟩,⟨.step,3,3,0⟩,⟨.step,7,7,0⟩,⟨.step,1,1,0⟩,⟨.goal,7,7,7⟩]
  | 1 => [⟨.step,1,1,0⟩,⟨.loop,2,3,8⟩,⟨.step,1,1,0⟩,⟨.loop,4,5,9⟩,⟨.step,3,3,0⟩,⟨.step,7,7,0⟩,⟨.step,7,7,0⟩,⟨.goal,7,7,7⟩]
  | 2 => [⟨.step,1,1,0⟩,⟨.fork,2,6,0⟩,⟨.step,3,3,0⟩,⟨.loop,4,5,9⟩,⟨.step,3,3,0⟩,⟨.step,7,7,0⟩,⟨.step,5,5,0⟩,⟨.goal,7,7,7⟩]
  | 3 => [⟨.step,1,1,0⟩,⟨.fork,6,2,0⟩,⟨.step,3,3,0⟩,⟨.loop,4,5,9⟩,⟨.step,3,3,0⟩,⟨.step,7,7,0⟩,⟨.step,5,5,0⟩,⟨.goal,7,7,7⟩]
  | _ => [⟨.step,1,1,0⟩,⟨.fork,2,6,0⟩,⟨.step,5,5,0⟩,⟨.step,7,7,0⟩,⟨.step,7,7,0⟩,⟨.step,7,7,0⟩,⟨.step,5,5,0⟩,⟨.goal,7,7,7⟩]
noncomputable def nd (sh pc:Nat) : Nd := ((flows sh)[pc]?).getD ⟨.goal,7,7,7⟩
noncomputable def okS (s:St) : Sm → Bool
  | .asrt c => evB s c
  | _ => true
noncomputable def doS (s:St) : Sm → St
  | .set x e => s.setI x (evI s e)
  | .put a i e => putS s a i e
  | _ => s
inductive Wk (sh:Nat) (w:Lw) : Nat → St → Nat → How → St → Prop
  | fin {s l} : Wk sh w 7 s l .done s
  | stepT {pc s l h e} : pc < 7 → (nd sh pc).kd = .step → okS s (lawS w (w.p pc)) = true → Wk sh w (nd sh pc).here (doS s (lawS w (w.p pc))) l h e → Wk sh w pc s l h e
  | stepF {pc s l} : pc < 7 → (nd sh pc).kd = .step → okS s (lawS w (w.p pc)) = false → Wk sh w pc s l .failed (doS s (lawS w (w.p pc)))
  | no {pc s l h e} : pc < 7 → (nd sh pc).kd ≠ .step → evB s (lawC w (w.p pc)) = false → Wk sh w (nd sh pc).there s l h e → Wk sh w pc s l h e
  | fork {pc s l h e} : pc < 7 → (nd sh pc).kd = .fork → evB s (lawC w (w.p pc)) = true → Wk sh w (nd sh pc).here s l h e → Wk sh w pc s l h e
  | lp0 {pc s} : pc < 7 → (nd sh pc).kd = .loop → evB s (lawC w (w.p pc)) = true → Wk sh w pc s 0 .more s
  | lp {pc s l h e} : pc < 7 → (nd sh pc).kd = .loop → evB s (lawC w (w.p pc)) = true → Wk sh w (nd sh pc).here s l h e → Wk sh w pc s (l + 1) h e
noncomputable def innerB (w:Lw) : Sm := .whl (lawC w (w.p 3)) (lawC w (w.p 9)) [lawS w (w.p 4)]
noncomputable def midB (w:Lw) : Nat → List Sm
  | 0 => [.whl (lawC w (w.p 1)) (lawC w (w.p 8)) [lawS w (w.p 2),innerB w,lawS w (w.p 6)]]
  | 1 => [.whl (lawC w (w.p 1)) (lawC w (w.p 8)) [lawS w (w.p 2)],innerB w]
  | 2 => [.ite (lawC w (w.p 1)) [lawS w (w.p 2),innerB w] [lawS w (w.p 6)]]
  | 3 => [.ite (lawC w (w.p 1)) [lawS w (w.p 6)] [lawS w (w.p 2),innerB w]]
  | _ => [.ite (lawC w (w.p 1)) [lawS w (w.p 2)] [lawS w (w.p 6)]]
noncomputable def blockB (w:Lw) (sh:Nat) : List Sm := [lawS w (w.p 0)] ++ midB w sh ++ [lawS w (w.p 5)]
structure Inv (s:St) : Prop where
  kn : (s.ns.map (·.1)).Nodup
  kna : (s.ar.map (·.1)).Nodup
  inn : ∀ p ∈ s.ns,p.1 = kx ∨ p.1 = ky
  ina : ∀ p ∈ s.ar,p.1 = ka ∨ p.1 = [98]
  len : ∀ p ∈ s.ar,p.2.length ≤ 2
theorem keys_updT {α:Type} (kvs:List (List Nat × α)) (k:List Nat) (v:α) : (updT kvs k v).map (·.1) = if k ∈ kvs.map (·.1) then kvs.map (·.1) else kvs.map (·.1) ++ [k] := by
  unfold updT
  by_cases h : kvs.any (fun p => p.1 == k) = true
  · have hm : k ∈ kvs.map (·.1) := by
      obtain ⟨p,hp,e⟩ := List.any_eq_true.mp h
      exact List.mem_map.mpr ⟨p,hp,eq_of_beq e⟩
    rw [if_pos h,if_pos hm,List.map_map]
    refine congrArg (fun f => kvs.map f) (funext fun p => ?_)
    show (if (p.1 == k) = true then (p.1,v) else p).1 = p.1
    by_cases e : (p.1 == k) = true
    · rw [if_pos e]
    · rw [if_neg e]
  · have hm : k ∉ kvs.map (·.1) := fun hm => by
      obtain ⟨p,hp,e⟩ := List.mem_map.mp hm
      exact h (List.any_eq_true.mpr ⟨p,hp,beq_iff_eq.mpr e⟩)
    rw [if_neg h,if_neg hm,List.map_append]; rfl
theorem nodup_updT {α:Type} {kvs:List (List Nat × α)} {k:List Nat} {v:α} (h:(kvs.map (·.1)).Nodup) : ((updT kvs k v).map (·.1)).Nodup := by
  rw [keys_updT]
  by_cases hk : k ∈ kvs.map (·.1)
  · rw [if_pos hk]; exact h
  · rw [if_neg hk]
    exact List.nodup_append.mpr ⟨h,List.nodup_cons.mpr ⟨List.not_mem_nil,List.nodup_nil⟩,fun a ha b hb e => hk (by rw [← List.mem_singleton.mp hb,← e]; exact ha)⟩
theorem mem_updT {α:Type} {kvs:List (List Nat × α)} {k:List Nat} {v:α} {p:List Nat × α} (h:p ∈ updT kvs k v) : p = (k,v) ∨ p ∈ kvs := by
  unfold updT at h
  by_cases hk : kvs.any (fun p => p.1 == k) = true
  · rw [if_pos hk] at h
    obtain ⟨q,hq,e⟩ := List.mem_map.mp h
    by_cases hk : (q.1 == k) = true
    · rw [if_pos hk,eq_of_beq hk] at e
      exact .inl e.symm
    · rw [if_neg hk] at e
      exact .inr (e ▸ hq)
  · rw [if_neg hk] at h
    exact (List.mem_append.mp h).elim .inr fun h => .inl (List.mem_singleton.mp h)
theorem setC_length (a:List Int) (i v:Int) : (setC a i v).length = a.length := by
  unfold setC
  by_cases h : 0 ≤ i ∧ i < a.length
  · rw [if_pos h,List.length_set]
  · rw [if_neg h]
theorem mem_lookT {α:Type} {l:List (List Nat × α)} {x:List Nat} {v:α} (h:l.lookup x = some v) : (x,v) ∈ l := by
  induction l with
  | nil => exact noS h
  | cons p r ih =>
    obtain ⟨y,w⟩ := p
    rw [lk1] at h
    by_cases e : x = y
    · rw [if_pos e] at h
      rw [e,Option.some.inj h]; exact .head _
    · rw [if_neg e] at h
      exact .tail _ (ih h)
theorem getA_len {s:St} (h:∀ p ∈ s.ar,p.2.length ≤ 2) (x:List Nat) : (s.getA x).length ≤ 2 := by
  unfold St.getA
  cases e : s.ar.lookup x with
  | none => exact Nat.zero_le _
  | some v => exact h _ (mem_lookT e)
theorem Inv.setI {s:St} (h:Inv s) {x:List Nat} (hx:x = kx ∨ x = ky) (v:Int) : Inv (s.setI x v) :=
  ⟨nodup_updT h.kn,h.kna,fun p hp => (mem_updT hp).elim (fun e => by rw [e]; exact hx) (h.inn p),h.ina,h.len⟩
theorem Inv.setA {s:St} (h:Inv s) {x:List Nat} (hx:x = ka ∨ x = [98]) {v:List Int} (hv:v.length ≤ 2) : Inv (s.setA x v) :=
  ⟨h.kn,nodup_updT h.kna,h.inn,fun p hp => (mem_updT hp).elim (fun e => by rw [e]; exact hx) (h.ina p),fun p hp => (mem_updT hp).elim (fun e => by rw [e]; exact hv) (h.len p)⟩
theorem len_two {α:Type} {l:List (List Nat × α)} {u v:List Nat} (hn:(l.map (·.1)).Nodup) (hi:∀ p ∈ l,p.1 = u ∨ p.1 = v) : l.length ≤ 2 := by
  have h := List.Nodup.length_le_of_subset (l₂ := [u,v]) hn fun x hx => by
    obtain ⟨p,hp,rfl⟩ := List.mem_map.mp hx
    rcases hi p hp with e | e
    · rw [e]; exact .head _
    · rw [e]; exact .tail _ (.head _)
  rw [List.length_map] at h
  exact h
theorem Inv.ln {s:St} (h:Inv s) : s.ns.length ≤ 2 := len_two h.kn h.inn
theorem Inv.la {s:St} (h:Inv s) : s.ar.length ≤ 2 := len_two h.kna h.ina
theorem lawT_ind (w:Lw) (u:Int) {P:IT → Prop} (h0:P (.var kx)) (h1:P (.var ky)) (h2:P (.num w.n)) (h3:P (.size (.arr ka))) (h4:P (.add (.var kx) (.num w.n))) (h5:P (.sub (.var ky) (.var kx))) (h6:P (.at_ (.arr ka) (.var kx))) : P (lawT w u) := by
  unfold lawT
  generalize ((u + w.m) % 7).toNat = n
  match n with
  | 0 => exact h0
  | 1 => exact h1
  | 2 => exact h2
  | 3 => exact h3
  | 4 => exact h4
  | 5 => exact h5
  | n + 6 => exact h6
theorem lawC_ind (w:Lw) (u:Int) {P:BT → Prop} (h0:P .tru) (h1:P (lawL w u)) (h2:P (lawE w u)) (h3:P (.not (lawL w u))) (h4:P (.and (lawL w u) (lawE w u))) (h5:P (.or (lawL w u) (lawE w u))) (h6:P (.implies (lawE w u) (lawL w u))) (h7:P (.all (.var kx) w.n (lawK w u))) : P (lawC w u) := by
  unfold lawC
  generalize (u % 8).toNat = n
  match n with
  | 0 => exact h0
  | 1 => exact h1
  | 2 => exact h2
  | 3 => exact h3
  | 4 => exact h4
  | 5 => exact h5
  | 6 => exact h6
  | n + 7 => exact h7
theorem mod_lt (u:Int) {n:Nat} (h:0 < n) : (u % n).toNat < n := by
  have h1 := Int.emod_lt_of_pos u (Int.natCast_pos.mpr h)
  exact (Int.toNat_lt (Int.emod_nonneg u (by rintro e; rw [Int.natCast_eq_zero.mp e] at h; exact absurd h (Nat.lt_irrefl _)))).mpr h1
theorem lawT_pick {α:Type} (f:IT → α) (w:Lw) (u:Int) : [f (.var kx),f (.var ky),f (.num w.n),f (.size (.arr ka)),f (.add (.var kx) (.num w.n)),f (.sub (.var ky) (.var kx)),f (.at_ (.arr ka) (.var kx))][((u + w.m) % 7).toNat]? = some (f (lawT w u)) := by
  have h := mod_lt (u + w.m) (n := 7) (by decide)
  unfold lawT
  revert h
  generalize ((u + w.m) % 7).toNat = n
  intro h
  match n with
  | 0 => rfl
  | 1 => rfl
  | 2 => rfl
  | 3 => rfl
  | 4 => rfl
  | 5 => rfl
  | 6 => rfl
  | n + 7 => exact absurd h (Nat.not_lt.mpr (Nat.le_add_left _ _))
theorem lawC_pick {α:Type} (f:BT → α) (w:Lw) (u:Int) : [f .tru,f (lawL w u),f (lawE w u),f (.not (lawL w u)),f (.and (lawL w u) (lawE w u)),f (.or (lawL w u) (lawE w u)),f (.implies (lawE w u) (lawL w u)),f (.all (.var kx) w.n (lawK w u))][(u % 8).toNat]? = some (f (lawC w u)) := by
  have h := mod_lt u (n := 8) (by decide)
  unfold lawC
  revert h
  generalize (u % 8).toNat = n
  intro h
  match n with
  | 0 => rfl
  | 1 => rfl
  | 2 => rfl
  | 3 => rfl
  | 4 => rfl
  | 5 => rfl
  | 6 => rfl
  | 7 => rfl
  | n + 8 => exact absurd h (Nat.not_lt.mpr (Nat.le_add_left _ _))
theorem lawS_pick {α:Type} (f:Sm → α) (w:Lw) (u:Int) : [f .skip,f (.set kx (lawT w u)),f (.set ky (lawT w u)),f (.put ka (.var kx) (lawT w u)),f (.asrt (lawC w (u + w.m)))][(u % 5).toNat]? = some (f (lawS w u)) := by
  have h := mod_lt u (n := 5) (by decide)
  unfold lawS
  revert h
  generalize (u % 5).toNat = n
  intro h
  match n with
  | 0 => rfl
  | 1 => rfl
  | 2 => rfl
  | 3 => rfl
  | 4 => rfl
  | n + 5 => exact absurd h (Nat.not_lt.mpr (Nat.le_add_left _ _))
theorem lawS_ind (w:Lw) (u:Int) {P:Sm → Prop} (h0:P .skip) (h1:P (.set kx (lawT w u))) (h2:P (.set ky (lawT w u))) (h3:P (.put ka (.var kx) (lawT w u))) (h4:P (.asrt (lawC w (u + w.m)))) : P (lawS w u) := by
  unfold lawS
  generalize (u % 5).toNat = n
  match n with
  | 0 => exact h0
  | 1 => exact h1
  | 2 => exact h2
  | 3 => exact h3
  | n + 4 => exact h4
theorem Inv.doS {s:St} (h:Inv s) (w:Lw) (u:Int) : Inv (doS s (lawS w u)) :=
  lawS_ind w u (P := fun a => Inv (Mine.doS s a)) h (h.setI (.inl rfl) _) (h.setI (.inr rfl) _) (h.setA (.inl rfl) (by rw [setC_length]; exact getA_len h.len _)) h
inductive SegR (sh:Nat) (w:Lw) (J:Job) (pc pc':Nat) (s:St) (l:Nat) : Prop
  | mk (h:How) (s1:St) (l1:Nat) (x:Ex J s l h s1 l1) (le:l1 ≤ l) (i:Inv s1) (d:h = .done → ∀ h2 e,Wk sh w pc' s1 l1 h2 e → Wk sh w pc s l h2 e) (n:h ≠ .done → Wk sh w pc s l h s1)
noncomputable def Seg (sh:Nat) (w:Lw) (J:Job) (pc pc':Nat) : Prop := ∀ s l,Inv s → SegR sh w J pc pc' s l
section
variable {sh:Nat} {w:Lw}
theorem Seg.nil (pc:Nat) : Seg sh w (.blk []) pc pc := fun s l hi => ⟨.done,s,l,.nil,Nat.le_refl _,hi,fun _ _ _ k => k,fun e => absurd rfl e⟩
theorem Seg.cons {a:Sm} {r:List Sm} {pc pc1 pc2:Nat} (h1:Seg sh w (.one a) pc pc1) (h2:Seg sh w (.blk r) pc1 pc2) : Seg sh w (.blk (a :: r)) pc pc2 := by
  intro s l hi
  obtain ⟨h,s1,l1,x,hl,hi1,kd,kx⟩ := h1 s l hi
  by_cases e : h = .done
  · obtain ⟨h',s2,l2,x',hl',hi2,kd',kx'⟩ := h2 s1 l1 hi1
    rw [e] at x
    exact ⟨h',s2,l2,.consD x x',Nat.le_trans hl' hl,hi2,fun e3 h3 e4 k => kd e _ _ (kd' e3 h3 e4 k),fun e3 => kd e _ _ (kx' e3)⟩
  · exact ⟨h,s1,l1,.consX x e,hl,hi1,fun q => absurd q e,kx⟩
theorem ex_ok (s:St) (l:Nat) (w:Lw) (u:Int) : okS s (lawS w u) = true → Ex (.one (lawS w u)) s l .done (doS s (lawS w u)) l :=
  lawS_ind w u (P := fun a => okS s a = true → Ex (.one a) s l .done (doS s a) l) (fun _ => .skip) (fun _ => .set) (fun _ => .set) (fun _ => .put) fun h => .asT h
theorem ex_no (s:St) (l:Nat) (w:Lw) (u:Int) : okS s (lawS w u) = false → Ex (.one (lawS w u)) s l .failed (doS s (lawS w u)) l :=
  lawS_ind w u (P := fun a => okS s a = false → Ex (.one a) s l .failed (doS s a) l) (fun e => noB e.symm) (fun e => noB e.symm) (fun e => noB e.symm) (fun e => noB e.symm) fun h => .asF h
theorem Seg.step {pc:Nat} (hp:pc < 7) (hk:(nd sh pc).kd = .step) : Seg sh w (.one (lawS w (w.p pc))) pc (nd sh pc).here := by
  intro s l hi
  cases ok : okS s (lawS w (w.p pc)) with
  | true => exact ⟨.done,_,l,ex_ok s l w _ ok,Nat.le_refl _,hi.doS w _,fun _ h2 e k => .stepT hp hk ok k,fun e => absurd rfl e⟩
  | false => exact ⟨.failed,_,l,ex_no s l w _ ok,Nat.le_refl _,hi.doS w _,(nomatch ·),fun _ => .stepF hp hk ok⟩
theorem kd_ne {a:Kd} {n:Nd} (h:n.kd = a) (g:a ≠ .step) : n.kd ≠ .step := by rw [h]; exact g
theorem Seg.ite {pc pc':Nat} {p q:List Sm} (hp:pc < 7) (hk:(nd sh pc).kd = .fork) (h1:Seg sh w (.blk p) (nd sh pc).here pc') (h2:Seg sh w (.blk q) (nd sh pc).there pc') : Seg sh w (.one (.ite (lawC w (w.p pc)) p q)) pc pc' := by
  intro s l hi
  cases c : evB s (lawC w (w.p pc)) with
  | true =>
    obtain ⟨h,s1,l1,x,hl,hi1,kd,kx⟩ := h1 s l hi
    exact ⟨h,s1,l1,.iteT c x,hl,hi1,fun e h2 e2 k => .fork hp hk c (kd e h2 e2 k),fun e => .fork hp hk c (kx e)⟩
  | false =>
    obtain ⟨h,s1,l1,x,hl,hi1,kd,kx⟩ := h2 s l hi
    have hk' := kd_ne hk (nomatch ·)
    exact ⟨h,s1,l1,.iteF c x,hl,hi1,fun e h2 e2 k => .no hp hk' c (kd e h2 e2 k),fun e => .no hp hk' c (kx e)⟩
theorem Seg.lp {pc:Nat} {p:List Sm} (hp:pc < 7) (hk:(nd sh pc).kd = .loop) (h1:Seg sh w (.blk p) (nd sh pc).here pc) (n:Nat) : ∀ l,l ≤ n → ∀ s,Inv s → SegR sh w (.lp (lawC w (w.p pc)) p) pc (nd sh pc).there s l := by
  induction n with
  | zero =>
    intro l hl s hi
    cases Nat.le_zero.mp hl
    cases c : evB s (lawC w (w.p pc)) with
    | true => exact ⟨.more,s,0,.lp0 c,Nat.le_refl _,hi,(nomatch ·),fun _ => .lp0 hp hk c⟩
    | false => exact ⟨.done,s,0,.lpF c,Nat.le_refl _,hi,fun _ h2 e k => .no hp (kd_ne hk (nomatch ·)) c k,fun e => absurd rfl e⟩
  | succ n ih =>
    intro l hl s hi
    cases c : evB s (lawC w (w.p pc)) with
    | true => cases l with
      | zero => exact ⟨.more,s,0,.lp0 c,Nat.le_refl _,hi,(nomatch ·),fun _ => .lp0 hp hk c⟩
      | succ l =>
        obtain ⟨h,s1,l1,x,hl1,hi1,kd,kx⟩ := h1 s l hi
        by_cases e : h = .done
        · obtain ⟨h',s2,l2,x',hl2,hi2,kd',kx'⟩ := ih l1 (Nat.le_trans hl1 (Nat.le_of_succ_le_succ hl)) s1 hi1
          rw [e] at x
          exact ⟨h',s2,l2,.lpD c x x',Nat.le_succ_of_le (Nat.le_trans hl2 hl1),hi2,fun e3 h2 e2 k => .lp hp hk c (kd e _ _ (kd' e3 h2 e2 k)),fun e3 => .lp hp hk c (kd e _ _ (kx' e3))⟩
        · exact ⟨h,s1,l1,.lpX c x e,Nat.le_succ_of_le hl1,hi1,fun q => absurd q e,fun q => .lp hp hk c (kx q)⟩
    | false => exact ⟨.done,s,l,.lpF c,Nat.le_refl _,hi,fun _ h2 e k => .no hp (kd_ne hk (nomatch ·)) c k,fun e => absurd rfl e⟩
theorem Seg.whl {pc:Nat} {kept:BT} {p:List Sm} (hp:pc < 7) (hk:(nd sh pc).kd = .loop) (h1:Seg sh w (.blk p) (nd sh pc).here pc) : Seg sh w (.one (.whl (lawC w (w.p pc)) kept p)) pc (nd sh pc).there := by
  intro s l hi
  obtain ⟨h,s1,l1,x,hl,hi,kd,kx⟩ := Seg.lp hp hk h1 l l (Nat.le_refl _) s hi
  exact ⟨h,s1,l1,.whl x,hl,hi,kd,kx⟩
theorem Seg.in (h:(nd sh 3).kd = .loop) (h3:(nd sh 3).here = 4) (h4:(nd sh 4).kd = .step) (h5:(nd sh 4).here = 3) : Seg sh w (.one (innerB w)) 3 (nd sh 3).there := .whl (by decide) h (by rw [h3]; exact .cons (.step (by decide) h4) (by rw [h5]; exact .nil _))
theorem Seg.block (w:Lw) (sh:Nat) : Seg sh w (.blk (blockB w sh)) 0 7 := by
  match sh with
  | 0 => exact .cons (.step (pc := 0) (by decide) rfl) (.cons (.whl (pc := 1) (by decide) rfl (.cons (.step (pc := 2) (by decide) rfl) (.cons (.in rfl rfl rfl rfl) (.cons (.step (pc := 6) (by decide) rfl) (.nil _))))) (.cons (.step (pc := 5) (by decide) rfl) (.nil _)))
  | 1 => exact .cons (.step (pc := 0) (by decide) rfl) (.cons (.whl (pc := 1) (by decide) rfl (.cons (.step (pc := 2) (by decide) rfl) (.nil _))) (.cons (.in rfl rfl rfl rfl) (.cons (.step (pc := 5) (by decide) rfl) (.nil _))))
  | 2 => exact .cons (.step (pc := 0) (by decide) rfl) (.cons (.ite (pc := 1) (by decide) rfl (.cons (.step (pc := 2) (by decide) rfl) (.cons (.in rfl rfl rfl rfl) (.nil _))) (.cons (.step (pc := 6) (by decide) rfl) (.nil _))) (.cons (.step (pc := 5) (by decide) rfl) (.nil _)))
  | 3 => exact .cons (.step (pc := 0) (by decide) rfl) (.cons (.ite (pc := 1) (by decide) rfl (.cons (.step (pc := 6) (by decide) rfl) (.nil _)) (.cons (.step (pc := 2) (by decide) rfl) (.cons (.in rfl rfl rfl rfl) (.nil _)))) (.cons (.step (pc := 5) (by decide) rfl) (.nil _)))
  | n + 4 => exact .cons (.step (pc := 0) (by decide) rfl) (.cons (.ite (pc := 1) (by decide) rfl (.cons (.step (pc := 2) (by decide) rfl) (.nil _)) (.cons (.step (pc := 6) (by decide) rfl) (.nil _))) (.cons (.step (pc := 5) (by decide) rfl) (.nil _)))
theorem run_walk (w:Lw) (sh:Nat) (s:St) (l:Nat) (hi:Inv s) : ∃ h s1 l1,Ex (.blk (blockB w sh)) s l h s1 l1 ∧ Inv s1 ∧ Wk sh w 0 s l h s1 := by
  obtain ⟨h,s1,l1,x,_,hi1,kd,kx⟩ := Seg.block w sh s l hi
  refine ⟨h,s1,l1,x,hi1,?_⟩
  by_cases e : h = .done
  · rw [e]; exact kd e _ _ .fin
  · exact kx e
end
noncomputable def wpS (c:BT) : Sm → BT
  | .set x e => sbB (subI x e) c
  | .put a i e => sbB (subA a (.store (.arr a) i e)) c
  | .asrt b => .and b c
  | _ => c
inductive Bf : Job → BT → BT → List BT → Prop
  | nil {c} : Bf (.blk []) c c []
  | cons {a r c c1 l1 c2 l2} : Bf (.blk r) c c1 l1 → Bf (.one a) c1 c2 l2 → Bf (.blk (a :: r)) c c2 (l2 ++ l1)
  | skip {c} : Bf (.one .skip) c c []
  | set {x e c} : dB c ≤ 36 → Bf (.one (.set x e)) c (sbB (subI x e) c) []
  | put {a i e c} : dB c ≤ 36 → Bf (.one (.put a i e)) c (sbB (subA a (.store (.arr a) i e)) c) []
  | asrt {b c} : Bf (.one (.asrt b)) c (.and b c) []
  | ite {b p q c P Q one two} : Bf (.blk p) c P one → Bf (.blk q) c Q two → Bf (.one (.ite b p q)) c (.and (.implies b P) (.implies (.not b) Q)) (one ++ two)
  | whl {b kept p c P inner} : Bf (.blk p) kept P inner → Bf (.one (.whl b kept p)) c kept ([.implies (.and kept b) P,.implies (.and kept (.not b)) c] ++ inner)
noncomputable def dueF (sh:Nat) (w:Lw) : Nat → Nat → St → Bool
  | 0,pc,s => evB s (lawC w (w.p (nd sh pc).goal))
  | n + 1,pc,s =>
    match (nd sh pc).kd with
    | .step => if okS s (lawS w (w.p pc)) then dueF sh w n (nd sh pc).here (doS s (lawS w (w.p pc))) else false
    | .fork => dueF sh w n (if evB s (lawC w (w.p pc)) then (nd sh pc).here else (nd sh pc).there) s
    | _ => dueF sh w n pc s
structure Path where
  goal : Nat
  test : Nat
  pc : Nat
  out : Bool
noncomputable def truthF (sh:Nat) (w:Lw) (q:Path) (s:St) : Bool :=
  if evB s (lawC w (w.p q.goal)) = false ∨ evB s (lawC w (w.p q.test)) = q.out then true else dueF sh w 4 q.pc s
noncomputable def D (sh:Nat) (w:Lw) (pc m:Nat) (c:BT) : Prop := ∀ n,m ≤ n → ∀ s,dueF sh w n pc s = evB s c
structure LsOK1 (sh:Nat) (w:Lw) (c:BT) (q:Path) : Prop where
  im : ∃ a b,c = .implies a b
  d : dB c ≤ 40
  tr : ∀ s,evB s c = truthF sh w q s
inductive LsOK (sh:Nat) (w:Lw) : List BT → List Path → Prop
  | nil : LsOK sh w [] []
  | cons {c q cs qs} : LsOK1 sh w c q → LsOK sh w cs qs → LsOK sh w (c :: cs) (q :: qs)
section
variable {sh:Nat} {w:Lw}
theorem LsOK.append {cs ds:List BT} {ps qs:List Path} (h:LsOK sh w cs ps) (k:LsOK sh w ds qs) : LsOK sh w (cs ++ ds) (ps ++ qs) := by
  induction h with
  | nil => exact k
  | cons a _ ih => exact .cons a ih
theorem D.mono {pc m m':Nat} {c:BT} (h:D sh w pc m c) (l:m ≤ m') : D sh w pc m' c := fun n hn s => h n (Nat.le_trans l hn) s
theorem due_step {n pc:Nat} {s:St} (h:(nd sh pc).kd = .step) : dueF sh w (n + 1) pc s = if okS s (lawS w (w.p pc)) then dueF sh w n (nd sh pc).here (doS s (lawS w (w.p pc))) else false := by
  show (match (nd sh pc).kd with | .step => _ | .fork => _ | _ => _) = _
  rw [h]
theorem due_fork {n pc:Nat} {s:St} (h:(nd sh pc).kd = .fork) : dueF sh w (n + 1) pc s = dueF sh w n (if evB s (lawC w (w.p pc)) then (nd sh pc).here else (nd sh pc).there) s := by
  show (match (nd sh pc).kd with | .step => _ | .fork => _ | _ => _) = _
  rw [h]
theorem D.base {pc:Nat} (hk:(nd sh pc).kd ≠ .step) (hk2:(nd sh pc).kd ≠ .fork) : D sh w pc 0 (lawC w (w.p (nd sh pc).goal)) := by
  intro n
  induction n with
  | zero => exact fun _ s => rfl
  | succ n ih =>
    intro _ s
    show (match (nd sh pc).kd with | .step => _ | .fork => _ | _ => _) = _
    cases e : (nd sh pc).kd with
    | step => exact absurd e hk
    | fork => exact absurd e hk2
    | loop => exact ih (Nat.zero_le _) s
    | goal => exact ih (Nat.zero_le _) s
theorem fq_lawT (w:Lw) (u:Int) : fqI (lawT w u) = true := lawT_ind w u (P := fun t => fqI t = true) rfl rfl rfl rfl rfl rfl rfl
theorem d_lawT (w:Lw) (u:Int) : dI (lawT w u) ≤ 1 := lawT_ind w u (P := fun t => dI t ≤ 1) (Nat.zero_le _) (Nat.zero_le _) (Nat.zero_le _) (Nat.le_refl _) (Nat.le_refl _) (Nat.le_refl _) (Nat.le_refl _)
theorem mm {a b d:Nat} (h:a ≤ d) (k:b ≤ d) : max a b ≤ d := Nat.max_le.mpr ⟨h,k⟩
theorem d_lawC (w:Lw) (u:Int) : dB (lawC w u) ≤ 5 := by
  have hl : dB (lawL w u) ≤ 2 := Nat.succ_le_succ (mm (d_lawT w u) (Nat.zero_le _))
  have he : dB (lawE w u) ≤ 2 := Nat.succ_le_succ (mm (Nat.zero_le _) (d_lawT w u))
  have h2 : (2:Nat) ≤ 4 := by decide
  have hb : max (dB (lawL w u)) (dB (lawE w u)) + 1 ≤ 5 := Nat.succ_le_succ (mm (Nat.le_trans hl h2) (Nat.le_trans he h2))
  refine lawC_ind w u (P := fun c => dB c ≤ 5) (Nat.zero_le _) (Nat.le_trans hl (by decide)) (Nat.le_trans he (by decide)) (Nat.succ_le_succ (Nat.le_trans hl h2)) hb hb (by rw [Nat.max_comm] at hb; exact hb) ?_
  exact Nat.succ_le_succ (Nat.succ_le_succ (mm (by decide) (Nat.succ_le_succ (mm (by decide) (Nat.le_succ_of_le (d_lawT w u))))))
theorem wp_ok (s:St) (c:BT) (w:Lw) (u:Int) : evB s (wpS c (lawS w u)) = (okS s (lawS w u) && evB (doS s (lawS w u)) c) :=
  lawS_ind w u (P := fun a => evB s (wpS c a) = (okS s a && evB (doS s a) c)) rfl (evB_sb (clean_subI (by decide) (fq_lawT w u)) c (sees_subI s _ _)) (evB_sb (clean_subI (by decide) (fq_lawT w u)) c (sees_subI s _ _))
    (evB_sb (clean_subA (e := .store (.arr ka) (.var kx) (lawT w u)) (Bool.and_eq_true_iff.mpr ⟨rfl,fq_lawT w u⟩)) c (sees_subA s ka (.store (.arr ka) (.var kx) (lawT w u)))) rfl
theorem bf_lawS (w:Lw) (u:Int) {c:BT} (hd:dB c ≤ 36) : Bf (.one (lawS w u)) c (wpS c (lawS w u)) [] :=
  lawS_ind w u (P := fun a => Bf (.one a) c (wpS c a) []) .skip (.set hd) (.set hd) (.put hd) .asrt
theorem d_subI (x:List Nat) (w:Lw) (u:Int) (c:BT) : dB (sbB (subI x (lawT w u)) c) ≤ dB c + 1 := by
  refine dB_sb (fun z => ?_) (fun z => Nat.zero_le _) c
  show dI (if z = x then lawT w u else .var z) ≤ 1
  by_cases e : z = x
  · rw [if_pos e]; exact d_lawT w u
  · rw [if_neg e]; exact Nat.zero_le _
theorem d_subA (w:Lw) (u:Int) (c:BT) : dB (sbB (subA ka (.store (.arr ka) (.var kx) (lawT w u))) c) ≤ dB c + 2 := by
  refine dB_sb (fun z => Nat.zero_le _) (fun z => ?_) c
  show dA (if z = ka then .store (.arr ka) (.var kx) (lawT w u) else .arr z) ≤ 2
  by_cases e : z = ka
  · rw [if_pos e]; exact Nat.succ_le_succ (mm (Nat.zero_le _) (mm (Nat.zero_le _) (d_lawT w u)))
  · rw [if_neg e]; exact Nat.zero_le _
theorem d_wpS (w:Lw) (u:Int) {c:BT} {d:Nat} (hd:dB c ≤ d) (h5:5 ≤ d) : dB (wpS c (lawS w u)) ≤ d + 2 :=
  have hI := fun x => Nat.le_trans (d_subI x w u c) (Nat.add_le_add hd (Nat.le_succ 1))
  lawS_ind w u (P := fun a => dB (wpS c a) ≤ d + 2) (Nat.le_trans hd (Nat.le_add_right _ _)) (hI kx) (hI ky) (Nat.le_trans (d_subA w u c) (Nat.add_le_add_right hd 2)) (Nat.succ_le_succ (mm (Nat.le_succ_of_le (Nat.le_trans (d_lawC w _) h5)) (Nat.le_succ_of_le hd)))
inductive BDR (sh:Nat) (w:Lw) (J:Job) (pc m d:Nat) (c:BT) (ps:List Path) : Prop
  | mk (c1:BT) (ls:List BT) (b:Bf J c c1 ls) (D:D sh w pc m c1) (d:dB c1 ≤ d) (o:LsOK sh w ls ps)
noncomputable def BD (sh:Nat) (w:Lw) (J:Job) (pc' pc i j:Nat) (ps:List Path) : Prop :=
  ∀ c m d,D sh w pc' m c → m + i ≤ 4 → dB c ≤ d → 5 ≤ d → d + j ≤ 36 → BDR sh w J pc (m + i) (d + j) c ps
theorem a1 {m i j n:Nat} (h:m + (i + j) ≤ n) : m + i ≤ n := Nat.le_trans (Nat.add_le_add_left (Nat.le_add_right i j) m) h
theorem a2 {m i j n:Nat} (h:m + (i + j) ≤ n) : m + i + j ≤ n := by rw [Nat.add_assoc]; exact h
theorem BD.nil (pc:Nat) : BD sh w (.blk []) pc pc 0 0 [] := fun c m d hD _ hd _ _ => ⟨c,[],.nil,hD,hd,.nil⟩
theorem BD.cons {a:Sm} {r:List Sm} {pc2 pc1 pc i1 j1 i2 j2:Nat} {ps1 ps2:List Path} (h2:BD sh w (.one a) pc1 pc i2 j2 ps2) (h1:BD sh w (.blk r) pc2 pc1 i1 j1 ps1) : BD sh w (.blk (a :: r)) pc2 pc (i1 + i2) (j1 + j2) (ps2 ++ ps1) := by
  intro c m d hD hm hd h5 hj
  obtain ⟨c1,l1,b1,D1,d1,o1⟩ := h1 c m d hD (a1 hm) hd h5 (a1 hj)
  obtain ⟨c2,l2,b2,D2,d2,o2⟩ := h2 c1 (m + i1) (d + j1) D1 (a2 hm) d1 (Nat.le_trans h5 (Nat.le_add_right _ _)) (a2 hj)
  rw [Nat.add_assoc] at D2 d2
  exact ⟨c2,l2 ++ l1,.cons b1 b2,D2,d2,o2.append o1⟩
theorem pos1 {m n:Nat} (h:m + 1 ≤ n) : ∃ j,n = j + 1 ∧ m ≤ j := by
  cases n with
  | zero => exact absurd h (Nat.not_succ_le_zero _)
  | succ n => exact ⟨n,rfl,Nat.le_of_succ_le_succ h⟩
theorem BD.step {pc:Nat} (hk:(nd sh pc).kd = .step) : BD sh w (.one (lawS w (w.p pc))) (nd sh pc).here pc 1 2 [] := by
  intro c m d hD hm hd h5 hj
  refine ⟨_,[],bf_lawS w _ (Nat.le_trans hd (Nat.le_trans (Nat.le_add_right _ _) hj)),?_,d_wpS w _ hd h5,.nil⟩
  intro n hn s
  obtain ⟨n,rfl,hn'⟩ := pos1 hn
  rw [due_step hk,wp_ok]
  cases ok : okS s (lawS w (w.p pc)) with
  | true => exact hD n hn' _
  | false => rfl
theorem BD.weak {J:Job} {pc' pc i j i' j':Nat} {ps:List Path} (h:BD sh w J pc' pc i j ps) (hi:i ≤ i') (hj:j ≤ j') : BD sh w J pc' pc i' j' ps := by
  intro c m d hD hm hd h5 hj'
  have e1 := Nat.add_le_add_left hi m
  have e2 := Nat.add_le_add_left hj d
  obtain ⟨c1,l1,b1,D1,d1,o1⟩ := h c m d hD (Nat.le_trans e1 hm) hd h5 (Nat.le_trans e2 hj')
  exact ⟨c1,l1,b1,D1.mono e1,Nat.le_trans d1 e2,o1⟩
theorem BD.ite {pc pc' i j:Nat} {p q:List Sm} {ps qs:List Path} (hk:(nd sh pc).kd = .fork) (h1:BD sh w (.blk p) pc' (nd sh pc).here i j ps) (h2:BD sh w (.blk q) pc' (nd sh pc).there i j qs) : BD sh w (.one (.ite (lawC w (w.p pc)) p q)) pc' pc (i + 1) (j + 3) (ps ++ qs) := by
  intro c m d hD hm hd h5 hj
  obtain ⟨c1,l1,b1,D1,d1,o1⟩ := h1 c m d hD (a1 hm) hd h5 (a1 hj)
  obtain ⟨c2,l2,b2,D2,d2,o2⟩ := h2 c m d hD (a1 hm) hd h5 (a1 hj)
  refine ⟨_,_,.ite b1 b2,?_,?_,o1.append o2⟩
  · intro n hn s
    obtain ⟨n,rfl,hn'⟩ := pos1 (m := m + i) (by rw [Nat.add_assoc]; exact hn)
    rw [due_fork hk]
    show _ = ((!evB s (lawC w (w.p pc)) || evB s c1) && (!(!evB s (lawC w (w.p pc))) || evB s c2))
    cases e : evB s (lawC w (w.p pc)) with
    | true => exact (D1 n hn' s).trans (Bool.and_true _).symm
    | false => exact D2 n hn' s
  · have e : dB (lawC w (w.p pc)) ≤ d + j := Nat.le_trans (d_lawC w _) (Nat.le_trans h5 (Nat.le_add_right _ _))
    exact Nat.succ_le_succ (mm (Nat.le_succ_of_le (Nat.succ_le_succ (mm e d1))) (Nat.succ_le_succ (mm (Nat.succ_le_succ e) (Nat.le_succ_of_le d2))))
theorem T1 (K b p:Bool) : (!(K && b) || p) = if K = false ∨ b = false then true else p := by cases K <;> cases b <;> rfl
theorem T2 (K b p:Bool) : (!(K && !b) || p) = if K = false ∨ b = true then true else p := by cases K <;> cases b <;> rfl
theorem T3 (K p:Bool) : (!K || p) = if K = false ∨ K = false then true else p := by cases K <;> rfl
theorem BD.whl {pc i j:Nat} {p:List Sm} {ps:List Path} (hk:(nd sh pc).kd = .loop) (h1:BD sh w (.blk p) pc (nd sh pc).here i j ps) (hi:i ≤ 4) (hj:j ≤ 30) :
    BD sh w (.one (.whl (lawC w (w.p pc)) (lawC w (w.p (nd sh pc).goal)) p)) (nd sh pc).there pc 0 0 ([⟨(nd sh pc).goal,pc,(nd sh pc).here,false⟩,⟨(nd sh pc).goal,pc,(nd sh pc).there,true⟩] ++ ps) := by
  intro c m d hD hm hd h5 hj'
  have hb : D sh w pc 0 (lawC w (w.p (nd sh pc).goal)) := .base (kd_ne hk (nomatch ·)) (by rw [hk]; exact (nomatch ·))
  have e1 : dB (lawC w (w.p pc)) ≤ 37 := Nat.le_trans (d_lawC w _) (by decide)
  have e2 := d_lawC w (w.p (nd sh pc).goal)
  have e3 : dB (lawC w (w.p (nd sh pc).goal)) ≤ 38 := Nat.le_trans e2 (by decide)
  obtain ⟨c1,l1,b1,D1,d1,o1⟩ := h1 _ 0 5 hb (by rw [Nat.zero_add]; exact hi) e2 (Nat.le_refl _) (Nat.le_trans (Nat.add_le_add_left hj 5) (by decide))
  rw [Nat.zero_add] at D1
  have d1 := Nat.le_trans d1 (Nat.add_le_add_left hj 5)
  refine ⟨_,_,.whl b1,hb.mono (Nat.zero_le _),Nat.le_trans e2 h5,.append (.cons ⟨⟨_,_,rfl⟩,?_,fun s => ?_⟩ (.cons ⟨⟨_,_,rfl⟩,?_,fun s => ?_⟩ .nil)) o1⟩
  · exact Nat.succ_le_succ (mm (Nat.succ_le_succ (mm e3 (Nat.le_succ_of_le e1))) (Nat.le_trans d1 (by decide)))
  · exact (T1 ..).trans (by rw [← D1 4 hi s]; rfl)
  · exact Nat.succ_le_succ (mm (Nat.succ_le_succ (mm e3 (Nat.succ_le_succ e1))) (Nat.le_trans hd (Nat.le_trans hj' (by decide))))
  · exact (T2 ..).trans (by rw [← hD 4 hm s]; rfl)
noncomputable def pathsL (sh:Nat) : List Path :=
  [1,3].flatMap fun pc => if (nd sh pc).kd = .loop then [⟨(nd sh pc).goal,pc,(nd sh pc).here,false⟩,⟨(nd sh pc).goal,pc,(nd sh pc).there,true⟩] else []
theorem BD.block (w:Lw) (sh:Nat) : BD sh w (.blk (blockB w sh)) 7 0 4 20 (pathsL sh) := by
  match sh with
  | 0 =>
    have a0 := (BD.step (sh := 0) (w := w) (pc := 0) rfl)
    have a2 := (BD.step (sh := 0) (w := w) (pc := 2) rfl)
    have a5 := BD.cons (BD.step (sh := 0) (w := w) (pc := 5) rfl) (BD.nil _)
    have a6 := BD.cons (BD.step (sh := 0) (w := w) (pc := 6) rfl) (BD.nil _)
    have a4 := BD.cons (BD.step (sh := 0) (w := w) (pc := 4) rfl) (BD.nil _)
    have inn := BD.whl (sh := 0) (w := w) (pc := 3) rfl a4 (by decide) (by decide)
    have mid := BD.whl (sh := 0) (w := w) (pc := 1) rfl (BD.cons a2 (BD.cons inn a6)) (by decide) (by decide)
    exact (BD.cons a0 (BD.cons mid a5)).weak (by decide) (by decide)
  | 1 =>
    have a0 := (BD.step (sh := 1) (w := w) (pc := 0) rfl)
    have a2 := (BD.step (sh := 1) (w := w) (pc := 2) rfl)
    have a5 := BD.cons (BD.step (sh := 1) (w := w) (pc := 5) rfl) (BD.nil _)
    have a6 := BD.cons (BD.step (sh := 1) (w := w) (pc := 6) rfl) (BD.nil _)
    have a4 := BD.cons (BD.step (sh := 1) (w := w) (pc := 4) rfl) (BD.nil _)
    have inn := BD.whl (sh := 1) (w := w) (pc := 3) rfl a4 (by decide) (by decide)
    have mid := BD.whl (sh := 1) (w := w) (pc := 1) rfl (BD.cons a2 (BD.nil _)) (by decide) (by decide)
    exact (BD.cons a0 (BD.cons mid (BD.cons inn a5))).weak (by decide) (by decide)
  | 2 =>
    have a0 := (BD.step (sh := 2) (w := w) (pc := 0) rfl)
    have a2 := (BD.step (sh := 2) (w := w) (pc := 2) rfl)
    have a5 := BD.cons (BD.step (sh := 2) (w := w) (pc := 5) rfl) (BD.nil _)
    have a6 := BD.cons (BD.step (sh := 2) (w := w) (pc := 6) rfl) (BD.nil _)
    have a4 := BD.cons (BD.step (sh := 2) (w := w) (pc := 4) rfl) (BD.nil _)
    have inn := BD.whl (sh := 2) (w := w) (pc := 3) rfl a4 (by decide) (by decide)
    have mid := BD.ite (sh := 2) (w := w) (pc := 1) rfl (BD.cons a2 (BD.cons inn (BD.nil _))) a6
    exact (BD.cons a0 (BD.cons mid a5)).weak (by decide) (by decide)
  | 3 =>
    have a0 := (BD.step (sh := 3) (w := w) (pc := 0) rfl)
    have a2 := (BD.step (sh := 3) (w := w) (pc := 2) rfl)
    have a5 := BD.cons (BD.step (sh := 3) (w := w) (pc := 5) rfl) (BD.nil _)
    have a6 := BD.cons (BD.step (sh := 3) (w := w) (pc := 6) rfl) (BD.nil _)
    have a4 := BD.cons (BD.step (sh := 3) (w := w) (pc := 4) rfl) (BD.nil _)
    have inn := BD.whl (sh := 3) (w := w) (pc := 3) rfl a4 (by decide) (by decide)
    have mid := BD.ite (sh := 3) (w := w) (pc := 1) rfl a6 (BD.cons a2 (BD.cons inn (BD.nil _)))
    exact (BD.cons a0 (BD.cons mid a5)).weak (by decide) (by decide)
  | n + 4 =>
    have a0 := (BD.step (sh := (n + 4)) (w := w) (pc := 0) rfl)
    have a2 := (BD.step (sh := (n + 4)) (w := w) (pc := 2) rfl)
    have a5 := BD.cons (BD.step (sh := (n + 4)) (w := w) (pc := 5) rfl) (BD.nil _)
    have a6 := BD.cons (BD.step (sh := (n + 4)) (w := w) (pc := 6) rfl) (BD.nil _)
    have mid := BD.ite (sh := n + 4) (w := w) (pc := 1) rfl (BD.cons a2 (BD.nil _)) a6
    exact (BD.cons a0 (BD.cons mid a5)).weak (by decide) (by decide)
theorem nd7 (sh:Nat) : nd sh 7 = ⟨.goal,7,7,7⟩ := by
  match sh with
  | 0 => rfl
  | 1 => rfl
  | 2 => rfl
  | 3 => rfl
  | n + 4 => rfl
theorem before_due (w:Lw) (sh:Nat) : ∃ need ls,Bf (.blk (blockB w sh)) (lawC w (w.p 7)) need ls ∧ dB need ≤ 36 ∧ (∀ s,evB s need = dueF sh w 4 0 s) ∧ LsOK sh w (.implies (lawC w (w.p 10)) need :: ls) (⟨10,10,0,false⟩ :: pathsL sh) := by
  have hb := D.base (sh := sh) (w := w) (pc := 7) (by rw [nd7]; exact (nomatch ·)) (by rw [nd7]; exact (nomatch ·))
  rw [nd7] at hb
  obtain ⟨c1,ls,b1,D1,d1,o1⟩ := BD.block w sh _ 0 5 hb (by decide) (d_lawC w _) (by decide) (by decide)
  have hs : ∀ s,evB s c1 = dueF sh w 4 0 s := fun s => (D1 4 (by decide) s).symm
  refine ⟨c1,ls,b1,Nat.le_trans d1 (by decide),hs,.cons ⟨⟨_,_,rfl⟩,?_,fun s => ?_⟩ o1⟩
  · exact Nat.succ_le_succ (mm (Nat.le_trans (d_lawC w _) (by decide)) (Nat.le_trans d1 (by decide)))
  · exact (T3 ..).trans (by rw [hs]; rfl)
end
noncomputable def rowAt (lo:Int) (w:Nat) : Nat → Nat → List Int
  | 0,_ => []
  | n + 1,j => rowAt lo w n (j / w) ++ [lo + (j % w : Nat)]
theorem rowAt_length (lo:Int) (w:Nat) : ∀ n j,(rowAt lo w n j).length = n
  | 0,_ => rfl
  | n + 1,j => by rw [rowAt,List.length_append,rowAt_length lo w n]; rfl
noncomputable def rws (lo:Int) (w:Nat) : Nat → List (List Int)
  | 0 => [[]]
  | n + 1 => (rws lo w n).flatMap fun r => (List.range w).map fun v => r ++ [lo + (v:Nat)]
theorem range_mul (a w:Nat) : List.range (a * w) = (List.range a).flatMap fun q => (List.range w).map fun r => q * w + r := by
  induction a with
  | zero => simp
  | succ a ih =>
    rw [Nat.succ_mul,List.range_add,List.range_succ,List.flatMap_append,ih]
    simp
theorem rws_eq (lo:Int) (w n:Nat) : rws lo w n = (List.range (w ^ n)).map (rowAt lo w n) := by
  induction n with
  | zero => rfl
  | succ n ih =>
    rw [rws,ih,Nat.pow_succ,range_mul,List.map_flatMap,List.flatMap_map]
    congr 1
    funext q
    rw [List.map_map]
    apply List.map_congr_left
    intro r hr
    have hr := List.mem_range.mp hr
    have hw : 0 < w := by omega
    simp only [Function.comp_apply,rowAt]
    rw [Nat.mul_comm q w,Nat.mul_add_div hw,Nat.mul_add_mod,Nat.div_eq_of_lt hr,Nat.mod_eq_of_lt hr,Nat.add_zero]
noncomputable def nxt (lo hi:Int) : List Int → Option (List Int)
  | [] => none
  | x :: xs => if x = hi - 1 then (nxt lo hi xs).map (lo :: ·) else some ((x + 1) :: xs)
theorem nxt_row (lo:Int) (w:Nat) (hw:0 < w) : ∀ n j,j < w ^ n → nxt lo (lo + w) (rowAt lo w n j).reverse = if j + 1 < w ^ n then some (rowAt lo w n (j + 1)).reverse else none := by
  intro n
  induction n with
  | zero =>
    intro j hj
    rw [Nat.pow_zero] at hj ⊢
    rw [if_neg (by omega)]; rfl
  | succ n ih =>
    intro j hj
    have hj' : j / w < w ^ n := by
      rw [Nat.pow_succ] at hj
      exact Nat.div_lt_of_lt_mul (by rw [Nat.mul_comm]; exact hj)
    have hdm := Nat.div_add_mod j w
    have hm := Nat.mod_lt j hw
    rw [rowAt,List.reverse_append,List.reverse_singleton,List.singleton_append,nxt]
    by_cases c : j % w + 1 = w
    · have e1 : (lo + (j % w : Nat) : Int) = lo + w - 1 := by omega
      rw [if_pos e1,ih _ hj']
      have h1 : j + 1 = (j / w + 1) * w := by rw [Nat.add_mul,Nat.one_mul,Nat.mul_comm]; omega
      have h2 : (j + 1) / w = j / w + 1 := by rw [h1,Nat.mul_div_cancel _ hw]
      have h3 : (j + 1) % w = 0 := by rw [h1,Nat.mul_mod_left]
      have h4 : (j + 1 < w ^ (n + 1)) ↔ (j / w + 1 < w ^ n) := by
        rw [h1,Nat.pow_succ]
        exact Nat.mul_lt_mul_right hw
      by_cases c2 : j / w + 1 < w ^ n
      · rw [if_pos c2,if_pos (h4.mpr c2)]
        simp only [Option.map_some,rowAt,List.reverse_append,List.reverse_singleton,List.singleton_append,h2,h3]
        simp
      · rw [if_neg c2,if_neg (fun h => c2 (h4.mp h))]; rfl
    · have e1 : ¬ (lo + (j % w : Nat) : Int) = lo + w - 1 := by omega
      rw [if_neg e1]
      have h2 : (j + 1) / w = j / w := by
        have h : j + 1 = w * (j / w) + (j % w + 1) := by omega
        have h' : (j % w + 1) / w = 0 := Nat.div_eq_of_lt (by omega)
        calc (j + 1) / w = (w * (j / w) + (j % w + 1)) / w := by rw [← h]
          _ = j / w := by rw [Nat.mul_add_div hw,h',Nat.add_zero]
      have h3 : (j + 1) % w = j % w + 1 := by
        have h : j + 1 = w * (j / w) + (j % w + 1) := by omega
        have h' : (j % w + 1) % w = j % w + 1 := Nat.mod_eq_of_lt (by omega)
        calc (j + 1) % w = (w * (j / w) + (j % w + 1)) % w := by rw [← h]
          _ = j % w + 1 := by rw [Nat.mul_add_mod,h']
      have h4 : j + 1 < w ^ (n + 1) := by
        rw [Nat.pow_succ]
        have h5 : w * (j / w + 1) ≤ w * w ^ n := Nat.mul_le_mul_left w hj'
        rw [Nat.mul_add,Nat.mul_one] at h5
        rw [Nat.mul_comm (w ^ n) w]
        omega
      rw [if_pos h4]
      simp only [rowAt,List.reverse_append,List.reverse_singleton,List.singleton_append,h2,h3]
      congr 1
      congr 1
      omega
noncomputable def spot (names rooms:List (List Nat)) (size:Nat) (r:List Int) : St :=
  ⟨names.zip r,(List.range rooms.length).map fun i => (rooms.getD i [],(r.drop (names.length + i * size)).take size)⟩
noncomputable def firstBad (f:List Int → Bool) (rows:List (List Int)) : Option (List Int) := rows.find? fun r => !f r
end Mine
end
section
namespace Mine
open PySem PySem.Calls PyProof.Rows
section
variable {B:B0} {k:Nat} {σ:Store}
theorem lookup_map {α:Type} (f:α → V) (l:List (List Nat × α)) (x:List Nat) : (l.map fun p => (p.1,f p.2)).lookup x = (l.lookup x).map f := by
  induction l with
  | nil => rfl
  | cons p r ih =>
    obtain ⟨y,a⟩ := p
    by_cases e : x = y
    · subst e; simp
    · have e' : (x == y) = false := beq_eq_false_iff_ne.mpr e
      simp only [List.map_cons,List.lookup_cons,e',ih]
theorem getI_V (s:St) (x:List Nat) : ((nsV s).lookup x).getD (.int 0) = .int (s.getI x) := by
  unfold nsV St.getI
  rw [lookup_map V.int s.ns x]
  cases s.ns.lookup x <;> rfl
theorem getA_V (s:St) (x:List Nat) : ((arV s).lookup x).getD (.lst []) = arV1 (s.getA x) := by
  unfold arV St.getA
  rw [lookup_map arV1 s.ar x]
  cases s.ar.lookup x <;> rfl
noncomputable def ValP (B:B0) (k:Nat) (t:V) (s:St) (v:V) : Prop := ∀ σ,CallP B k 4 [t,.sd (nsV s),.sd (arV s)] σ v
theorem val_of (P:Prog1 B) {t:V} {s:St} {v:V} (h:∀ σ,stW B k core4 [some t,some (.sd (nsV s)),some (.sd (arV s)),none] σ (RetQ fun d σ' => d = v ∧ σ' = σ)) : ValP B (k + 1) t s v := by
  intro σ
  refine callB P (by decide) (by kernel_rfl) ok4 tr4 ⟨rfl,rfl⟩ rfl ?_
  rw [nx4]
  exact h σ
theorem v_num (P:Prog1 B) (i:Int) (s:St) : ValP B (k + 1) (repI (.num i)) s (.int i) := val_of P fun σ => goR (n := 1) rfl trivial rfl trivial ⟨rfl,rfl⟩
theorem v_var (P:Prog1 B) (x:List Nat) (s:St) : ValP B (k + 1) (repI (.var x)) s (.int (s.getI x)) := by
  refine val_of P fun σ => goE (n := 5) rfl trivial (to_get (to_var rfl) (to_pure rfl) to_lit) ?_
  rw [getI_V]
  exact ⟨rfl,rfl⟩
theorem v_arr (P:Prog1 B) (x:List Nat) (s:St) : ValP B (k + 1) (repA (.arr x)) s (arV1 (s.getA x)) := by
  refine val_of P fun σ => goE (n := 7) rfl trivial (to_get (to_var rfl) (to_pure rfl) (to_lst to_nil (by decide))) ?_
  rw [getA_V]
  exact ⟨rfl,rfl⟩
end
section
variable {B:B0} {k:Nat} {σ:Store}
inductive ValL (B:B0) (k:Nat) (s:St) : List V → List V → Prop
  | nil : ValL B k s [] []
  | cons {t v:V} {ts vs:List V} : ValP B k t s v → ValL B k s ts vs → ValL B k s (t :: ts) (v :: vs)
theorem comp_vals {t:V} {s:St} {args vals:List V} (h:ValL B k s args vals) : ∀ (acc:List V) (Q:V → Prop),Q (.lst (acc ++ vals)) →
    compW (evW B k σ (.call 4 (.cons (.var 4) (.cons (.var 1) (.cons (.var 2) .nil))))) [4] [some t,some (.sd (nsV s)),some (.sd (arV s)),none,none] args acc Q := by
  induction h with
  | nil => intro acc Q q; rw [List.append_nil] at q; exact q
  | @cons t' v' ts vs hv _ ih =>
    intro acc Q q
    exact Exists.intro [some t,some (.sd (nsV s)),some (.sd (arV s)),none,some t'] (And.intro rfl (to_c1 rfl (hv σ) _ (ih (acc ++ [v']) Q (by rw [List.append_assoc]; exact q))))
theorem st_parts {tag:List Nat} {args vals:List V} {s:St} {r:CS} {Q:Out → Store → Prop} (hz:args.length ≤ 100) (hv:ValL B k s args vals) (h:stW B k r [some (.tup (.str tag :: args)),some (.sd (nsV s)),some (.sd (arV s)),some (.lst vals)] σ Q) :
    stW B k (.asg 3 (.comp 4 1 .seq (.cons (.sl (.var 0) (.lit (.int 1)) (.lit .none)) .nil) [4] (.call 4 (.cons (.var 4) (.cons (.var 1) (.cons (.var 2) .nil))))) r) [some (.tup (.str tag :: args)),some (.sd (nsV s)),some (.sd (arV s)),none] σ Q :=
  to_comp (to_sl1 (to_var rfl)) rfl (Nat.le_trans hz (by decide)) (comp_vals hv [] _ h)
theorem ValP.two {s:St} {a b x y:V} (h1:ValP B k a s x) (h2:ValP B k b s y) : ValL B k s [a,b] [x,y] := .cons h1 (.cons h2 .nil)
theorem val_parts (P:Prog1 B) {tag:List Nat} {args vals:List V} {s:St} {v:V} (ht:∀ σ,∃ r,go1 σ 10 [some (.tup (.str tag :: args)),some (.sd (nsV s)),some (.sd (arV s)),none] [] core4 [] = some ([some (.tup (.str tag :: args)),some (.sd (nsV s)),some (.sd (arV s)),none],[],.asg 3 (.comp 4 1 .seq (.cons (.sl (.var 0) (.lit (.int 1)) (.lit .none)) .nil) [4] (.call 4 (.cons (.var 4) (.cons (.var 1) (.cons (.var 2) .nil))))) r,[],[]) ∧
      stW B k r [some (.tup (.str tag :: args)),some (.sd (nsV s)),some (.sd (arV s)),some (.lst vals)] σ (RetQ fun d σ' => d = v ∧ σ' = σ)) (hz:args.length ≤ 100) (hv:ValL B k s args vals) : ValP B (k + 1) (.tup (.str tag :: args)) s v :=
  val_of P fun σ => (ht σ).elim fun r h => goS h.1 (st_parts hz hv h.2)
theorem v_add (P:Prog1 B) {a b:V} {s:St} {i j:Int} (h1:ValP B k a s (.int i)) (h2:ValP B k b s (.int j)) : ValP B (k + 1) (.tup [.str [97,100,100],a,b]) s (.int (i + j)) :=
  val_parts P (fun σ => ⟨_,rfl,goP (n := 1) rfl rfl ⟨rfl,rfl⟩⟩) (by simp) (h1.two h2)
theorem v_sub (P:Prog1 B) {a b:V} {s:St} {i j:Int} (h1:ValP B k a s (.int i)) (h2:ValP B k b s (.int j)) : ValP B (k + 1) (.tup [.str [115,117,98],a,b]) s (.int (i - j)) :=
  val_parts P (fun σ => ⟨_,rfl,goP (n := 3) rfl rfl ⟨rfl,rfl⟩⟩) (by simp) (h1.two h2)
end
section
variable {B:B0} {k:Nat} {σ:Store}
theorem v_size (P:Prog1 B) {a:V} {s:St} {x:List Int} (h1:ValP B k a s (arV1 x)) : ValP B (k + 1) (.tup [.str [115,105,122,101],a]) s (.int x.length) :=
  val_parts P (fun σ => ⟨_,rfl,goP (n := 7) (d := .int (x.map V.int).length) rfl rfl ⟨by rw [List.length_map],rfl⟩⟩) (by simp) (.cons h1 .nil)
theorem getC_no {x:List Int} {i:Int} (h:¬ (0 ≤ i ∧ i < x.length)) : getC x i = 0 := if_neg h
theorem getC_yes {x:List Int} {i:Int} (h:0 ≤ i ∧ i < x.length) : (x.map V.int)[i.toNat]? = some (.int (getC x i)) := by
  have hn : i.toNat < x.length := by omega
  unfold getC
  rw [if_pos h,List.getElem?_map,List.getElem?_eq_getElem hn,List.getD,List.getElem?_eq_getElem hn]
  rfl
theorem v_at (P:Prog1 B) {a b:V} {s:St} {x:List Int} {i:Int} (h1:ValP B k a s (arV1 x)) (h2:ValP B k b s (.int i)) : ValP B (k + 1) (.tup [.str [97,116],a,b]) s (.int (getC x i)) := by
  refine val_parts P (fun σ => ⟨_,rfl,goS (n := 5) rfl ?_⟩) (by simp) (h1.two h2)
  by_cases hp : 0 ≤ i ∧ i < x.length
  · refine st_yes (tv_and (p := true) (tv_ge1 (to_pure rfl) hp.1) (fun _ => tv_lt1 (to_pure rfl) (to_len (to_pure rfl) rfl) (by rw [List.length_map]; exact hp.2)) fun e => e) ?_
    exact st_ret (to_idx (to_pure rfl) (to_pure rfl) rfl hp.1 (getC_yes hp)) ⟨rfl,rfl⟩
  · refine st_no ?_ (st_ret to_lit ⟨by rw [getC_no hp],rfl⟩)
    by_cases h0 : 0 ≤ i
    · exact tv_and (p := true) (tv_ge1 (to_pure rfl) h0) (fun _ => tv_lt0 (to_pure rfl) (to_len (to_pure rfl) rfl) (by rw [List.length_map]; exact fun h => hp ⟨h0,h⟩)) fun e => rfl
    · exact tv_and (p := false) (tv_ge0 (to_pure rfl) h0) (fun e => noB e) fun _ => rfl
end
section
variable {B:B0} {k:Nat} {σ:Store}
theorem setC_map (x:List Int) (i j:Int) : (if 0 ≤ i ∧ i < (x.map V.int).length then (x.map V.int).set i.toNat (.int j) else x.map V.int) = (setC x i j).map V.int := by
  unfold setC
  rw [List.length_map]
  split
  · rw [List.map_set]
  · rfl
theorem v_store (P:Prog1 B) {a b d:V} {s:St} {x:List Int} {i j:Int} (hz:x.length ≤ 1000) (h1:ValP B (k + 1) a s (arV1 x)) (h2:ValP B (k + 1) b s (.int i)) (h3:ValP B (k + 1) d s (.int j)) : ValP B (k + 2) (.tup [.str [115,116,111,114,101],a,b,d]) s (arV1 (setC x i j)) := by
  refine val_parts P (fun σ => ⟨_,rfl,goE (n := 9) rfl trivial (to_c1 rfl (c_store (k := k) (σ := σ) P (x.map V.int) i (.int j) (by rw [List.length_map]; exact hz))) ⟨?_,rfl⟩⟩) (by simp) (.cons h1 (.cons h2 (.cons h3 .nil)))
  rw [setC_map]
  rfl
theorem v_less (P:Prog1 B) {a b:V} {s:St} {i j:Int} (h1:ValP B k a s (.int i)) (h2:ValP B k b s (.int j)) : ValP B (k + 1) (.tup [.str [108,101,115,115],a,b]) s (.bool (decide (i < j))) :=
  val_parts P (fun σ => ⟨_,rfl,goP (n := 11) rfl rfl ⟨rfl,rfl⟩⟩) (by simp) (h1.two h2)
theorem v_equal (P:Prog1 B) {a b:V} {s:St} {i j:Int} (h1:ValP B k a s (.int i)) (h2:ValP B k b s (.int j)) : ValP B (k + 1) (.tup [.str [101,113,117,97,108],a,b]) s (.bool (i == j)) :=
  val_parts P (fun σ => ⟨_,rfl,goP (n := 13) rfl rfl ⟨rfl,rfl⟩⟩) (by simp) (h1.two h2)
theorem v_not (P:Prog1 B) {a:V} {s:St} {p:Bool} (h1:ValP B k a s (.bool p)) : ValP B (k + 1) (.tup [.str [110,111,116],a]) s (.bool (!p)) :=
  val_parts P (fun σ => ⟨_,rfl,goP (n := 15) rfl rfl ⟨rfl,rfl⟩⟩) (by simp) (.cons h1 .nil)
theorem v_and (P:Prog1 B) {a b:V} {s:St} {p q:Bool} (h1:ValP B k a s (.bool p)) (h2:ValP B k b s (.bool q)) : ValP B (k + 1) (.tup [.str [97,110,100],a,b]) s (.bool (p && q)) :=
  val_parts P (fun σ => ⟨_,rfl,goE (n := 17) rfl trivial (to_and (to_pure rfl) (to_pure rfl)) ⟨rfl,rfl⟩⟩) (by simp) (h1.two h2)
theorem v_or (P:Prog1 B) {a b:V} {s:St} {p q:Bool} (h1:ValP B k a s (.bool p)) (h2:ValP B k b s (.bool q)) : ValP B (k + 1) (.tup [.str [111,114],a,b]) s (.bool (p || q)) :=
  val_parts P (fun σ => ⟨_,rfl,goE (n := 19) rfl trivial (to_or (to_pure rfl) (to_pure rfl)) ⟨rfl,rfl⟩⟩) (by simp) (h1.two h2)
theorem v_implies (P:Prog1 B) {a b:V} {s:St} {p q:Bool} (h1:ValP B k a s (.bool p)) (h2:ValP B k b s (.bool q)) : ValP B (k + 1) (.tup [.str [105,109,112,108,105,101,115],a,b]) s (.bool (!p || q)) :=
  val_parts P (fun σ => ⟨_,rfl,goE (n := 20) rfl trivial (to_or (to_pure rfl) (to_pure rfl)) ⟨rfl,rfl⟩⟩) (by simp) (h1.two h2)
theorem v_true (P:Prog1 B) {s:St} : ValP B (k + 1) (.tup [.str [116,114,117,101]]) s (.bool true) := val_of P fun σ => goP (n := 3) rfl rfl ⟨rfl,rfl⟩
end
theorem upd_map {α:Type} (f:α → V) (kvs:List (List Nat × α)) (x:List Nat) (v:α) : upd (kvs.map fun p => (p.1,f p.2)) x (f v) = (updT kvs x v).map fun p => (p.1,f p.2) := by
  unfold upd updT
  have e : (kvs.map fun p => (p.1,f p.2)).any (fun p => p.1 == x) = kvs.any (fun p => p.1 == x) := by rw [List.any_map]; rfl
  rw [e]
  split
  · rw [List.map_map,List.map_map]
    apply List.map_congr_left
    intro p hp
    simp only [Function.comp_apply]
    split <;> rfl
  · rw [List.map_append]; rfl
theorem nsV_setI (s:St) (x:List Nat) (i:Int) : upd (nsV s) x (.int i) = nsV (s.setI x i) := upd_map V.int s.ns x i
theorem arV_setA (s:St) (x:List Nat) (a:List Int) : upd (arV s) x (arV1 a) = arV (s.setA x a) := upd_map arV1 s.ar x a
theorem arV_setI (s:St) (x:List Nat) (i:Int) : arV (s.setI x i) = arV s := rfl
theorem nsV_setA (s:St) (x:List Nat) (a:List Int) : nsV (s.setA x a) = nsV s := rfl
theorem keys_nsV (s:St) : keysOf (nsV s) = s.ns.map (·.1) := by unfold keysOf nsV; rw [List.map_map]; rfl
theorem keys_arV (s:St) : keysOf (arV s) = s.ar.map (·.1) := by unfold keysOf arV; rw [List.map_map]; rfl
section
variable {B:B0} {k:Nat} {σ:Store}
theorem notT {p:Bool} (h:(!p) = true) : p = false := by cases p <;> first | rfl | exact noB h
theorem notF {p:Bool} (h:(!p) = false) : p = true := by cases p <;> first | rfl | exact noB h.symm
noncomputable def every_b : CS := .iff (.not (.call 4 (.cons (.idx (.var 0) (.lit (.int 4))) (.cons (.call 1 (.cons (.var 1) (.cons (.idx (.var 0) (.lit (.int 1))) (.cons (.var 5) .nil)))) (.cons (.var 2) .nil))))) (.ret (.lit (.bool false))) .nil .nil
theorem c_every (P:Prog1 B) {lo hi body:V} {s:St} {l:Int} {n:Nat} {bf:Nat → Bool} (hn:n ≤ 1000) (hk:(s.ns.map (·.1)).Nodup) (hz:s.ns.length ≤ 900)
    (h1:ValP B (k + 1) lo s (.int l)) (h2:ValP B (k + 1) hi s (.int (l + n))) (h3:∀ j : Nat,j < n → ValP B (k + 1) body (s.setI kK (l + j)) (.bool (bf j))) :
    CallP B (k + 2) 3 [.tup [.str [97,108,108],.str kK,lo,hi,body],.sd (nsV s),.sd (arV s)] σ (.bool ((List.range n).all bf)) := by
  refine callB P (by decide) (by kernel_rfl) ok3 tr3 ⟨rfl,rfl⟩ rfl ?_
  rw [nx3]
  refine go (n := 2) (rs := [.int l,.int (l + n)]) rfl (And.intro (h1 σ) (And.intro (h2 σ) trivial)) ?_
  refine st_range2 (to_var rfl) (to_var rfl) (by omega) ?_
  rw [show (l + (n:Int) - l).toNat = n by omega]
  have key : ∀ (m i:Nat) (l5:Option V),i + m = n → (∀ j,j < i → bf j = true) →
      forW [5] (stW B (k + 1) every_b) (stW B (k + 1) (.ret (.lit (.bool true)))) (RetQ fun d σ' => d = .bool ((List.range n).all bf) ∧ σ' = σ) (rangeV (l + i) m)
        [some (.tup [.str [97,108,108],.str kK,lo,hi,body]),some (.sd (nsV s)),some (.sd (arV s)),some (.int l),some (.int (l + n)),l5] σ := by
    intro m
    induction m with
    | zero =>
      intro i l5 him hb
      refine st_ret to_lit ⟨?_,rfl⟩
      rw [List.all_eq_true.mpr fun j hj => hb j (by have := List.mem_range.mp hj; omega)]
    | succ m ih =>
      intro i l5 him hb
      refine Exists.intro [some (.tup [.str [97,108,108],.str kK,lo,hi,body]),some (.sd (nsV s)),some (.sd (arV s)),some (.int l),some (.int (l + n)),some (.int (l + i))] (And.intro rfl ?_)
      have hv := h3 i (by omega) σ
      rw [← nsV_setI] at hv
      refine st_if (p := !bf i) (to_tv (rs := [.sd (upd (nsV s) kK (.int (l + i))),.bool (bf i)]) rfl (And.intro (c_with P (nsV s) kK (.int (l + i)) (by rw [keys_nsV]; exact hk) (by rw [nsV,List.length_map]; exact hz)) (And.intro hv trivial))) (fun e => ?_) fun e => ?_
      · refine st_ret to_lit ⟨?_,rfl⟩
        rw [List.all_eq_false.mpr ⟨i,List.mem_range.mpr (by omega),by rw [notT e]; decide⟩]
      · refine st_nil (st_nilT ?_)
        rw [show (l + (i:Int) + 1) = l + (i + 1 : Nat) by omega]
        refine ih (i + 1) _ (by omega) fun j hj => ?_
        by_cases q : j = i
        · rw [q]; exact notF e
        · exact hb j (by omega)
  have := key n 0 none (by omega) (fun j hj => absurd hj (Nat.not_lt_zero _))
  rw [Int.natCast_zero,Int.add_zero] at this
  exact this
theorem v_all (P:Prog1 B) {lo body:V} {s:St} {l:Int} {n:Int} {bf:Nat → Bool} (hn:n ≤ 1000) (hn0:0 ≤ n) (hk:(s.ns.map (·.1)).Nodup) (hz:s.ns.length ≤ 900)
    (h1:ValP B (k + 1) lo s (.int l)) (h2:ValP B (k + 1) (.tup [.str [97,100,100],lo,.tup [.str [110,117,109],.int n]]) s (.int (l + n))) (h3:∀ j : Nat,j < n → ValP B (k + 1) body (s.setI kK (l + j)) (.bool (bf j))) :
    ValP B (k + 3) (.tup [.str [97,108,108],.str kK,lo,.tup [.str [97,100,100],lo,.tup [.str [110,117,109],.int n]],body]) s (.bool ((List.range n.toNat).all bf)) := by
  refine val_of P fun σ => ?_
  exact goE (n := 9) rfl trivial (to_c1 rfl (c_every (k := k) (σ := σ) P (n := n.toNat) (by omega) hk hz h1 (by rw [Int.toNat_of_nonneg hn0]; exact h2) (fun j hj => h3 j (by omega)))) ⟨rfl,rfl⟩
end
theorem ml {a b k:Nat} (h:max a b + 1 ≤ k) : a + 1 ≤ k := Nat.le_trans (Nat.succ_le_succ (Nat.le_max_left _ _)) h
theorem mr {a b k:Nat} (h:max a b + 1 ≤ k) : b + 1 ≤ k := Nat.le_trans (Nat.succ_le_succ (Nat.le_max_right _ _)) h
theorem nl {a b k:Nat} (h:max a b ≤ k) : a ≤ k := Nat.le_trans (Nat.le_max_left _ _) h
theorem nr {a b k:Nat} (h:max a b ≤ k) : b ≤ k := Nat.le_trans (Nat.le_max_right _ _) h
theorem sk {a k:Nat} (h:a + 1 ≤ k + 1) : a ≤ k := Nat.le_of_succ_le_succ h
theorem k1 {n k:Nat} (h:n + 1 ≤ k) : ∃ j,k = j + 1 := Nat.exists_eq_add_of_le' (Nat.le_trans (Nat.le_add_left 1 n) h)
theorem getA_le {s:St} {m:Nat} (h:s.OK m) (x:List Nat) : (s.getA x).length ≤ 1000 := by
  unfold St.getA
  cases e : s.ar.lookup x with
  | none => exact Nat.zero_le _
  | some v => exact h.lenA _ (mem_lookT e)
theorem evA_le {s:St} {m:Nat} (h:s.OK m) (t:AT) : (evA s t).length ≤ 1000 :=
  (IT.both (P := fun _ => True) (Q := fun t => (evA s t).length ≤ 1000) (fun _ => trivial) (fun _ => trivial) (fun _ _ _ _ => trivial) (fun _ _ _ _ => trivial) (fun _ _ _ _ => trivial) (fun _ _ => trivial) (getA_le h) fun a i v h _ _ => by
    show (setC (evA s a) (evI s i) (evI s v)).length ≤ 1000
    rw [setC_length]; exact h).2 t
noncomputable def okB : BT → Bool
  | .tru => true
  | .less _ _ => true
  | .equal _ _ => true
  | .not a => okB a
  | .and a b => okB a && okB b
  | .or a b => okB a && okB b
  | .implies a b => okB a && okB b
  | .all _ n body => decide (0 ≤ n ∧ n ≤ 1000) && okB body
theorem and2 {a b c d:Bool} (h:a = c) (k:b = d) : (a && b) = (c && d) := by rw [h,k]
theorem okB_sb (r:Sub) (t:BT) : okB (sbB r t) = okB t := by
  induction t with
  | tru => rfl
  | less a b => rfl
  | equal a b => rfl
  | not a ih => exact ih
  | and a b ih1 ih2 => exact and2 ih1 ih2
  | or a b ih1 ih2 => exact and2 ih1 ih2
  | implies a b ih1 ih2 => exact and2 ih1 ih2
  | all lo n body ih => exact and2 rfl ih
theorem okB2 {a b:BT} (h:(okB a && okB b) = true) : okB a = true ∧ okB b = true := Bool.and_eq_true_iff.mp h
theorem St.OK.weak {s:St} {m m':Nat} (h:s.OK m) (l:m' ≤ m) : s.OK m' := ⟨h.keys,h.keysA,Nat.le_trans (Nat.add_le_add_left l _) h.len,h.lenA⟩
theorem length_updT {α:Type} (kvs:List (List Nat × α)) (k:List Nat) (v:α) : (updT kvs k v).length ≤ kvs.length + 1 := by
  unfold updT
  by_cases h : kvs.any (fun p => p.1 == k) = true
  · rw [if_pos h,List.length_map]; exact Nat.le_succ _
  · rw [if_neg h,List.length_append]; exact Nat.le_refl _
theorem St.OK.setK {s:St} {m:Nat} (h:s.OK (m + 1)) (x:List Nat) (v:Int) : (s.setI x v).OK m :=
  ⟨nodup_updT h.keys,h.keysA,Nat.le_trans (Nat.add_le_add_right (length_updT s.ns x v) m) (by rw [Nat.add_right_comm]; exact h.len),h.lenA⟩
theorem Inv.ok {s:St} (h:Inv s) : s.OK 800 := ⟨h.kn,h.kna,Nat.le_trans (Nat.add_le_add_right h.ln 800) (by decide),fun p hp => Nat.le_trans (h.len p hp) (by decide)⟩
section
variable {B:B0} {σ:Store}
theorem val_IA (P:Prog1 B) {s:St} {m:Nat} (hs:s.OK m) : (∀ t k,dI t ≤ k → ValP B (k + 1) (repI t) s (.int (evI s t))) ∧ ∀ t k,dA t ≤ k → ValP B (k + 1) (repA t) s (arV1 (evA s t)) :=
  IT.both (fun i k _ => v_num P i s) (fun x k _ => v_var P x s)
    (fun a b i1 i2 k h => by obtain ⟨k,rfl⟩ := k1 h; exact v_add P (i1 k (nl (sk h))) (i2 k (nr (sk h))))
    (fun a b i1 i2 k h => by obtain ⟨k,rfl⟩ := k1 h; exact v_sub P (i1 k (nl (sk h))) (i2 k (nr (sk h))))
    (fun a b i1 i2 k h => by obtain ⟨k,rfl⟩ := k1 h; exact v_at P (i1 k (nl (sk h))) (i2 k (nr (sk h))))
    (fun a i1 k h => by obtain ⟨k,rfl⟩ := k1 h; exact v_size P (i1 k (sk h))) (fun x k _ => v_arr P x s)
    fun a i v i1 i2 i3 k h => by obtain ⟨k,rfl⟩ := k1 h; exact v_store P (evA_le hs a) (i1 k (nl (sk h))) (i2 k (nl (nr (sk h)))) (i3 k (nr (nr (sk h))))
theorem val_I (P:Prog1 B) {s:St} {m:Nat} (hs:s.OK m) (t:IT) (k:Nat) (h:dI t ≤ k) : ValP B (k + 1) (repI t) s (.int (evI s t)) := (val_IA P hs).1 t k h
theorem val_B (P:Prog1 B) (t:BT) : ∀ {s:St} {k:Nat},okB t = true → dB t ≤ k → s.OK (dB t) → ValP B (k + 1) (repB t) s (.bool (evB s t)) := by
  induction t with
  | tru => exact fun _ _ _ => v_true P
  | less a b =>
    intro s k _ h hs
    obtain ⟨k,rfl⟩ := k1 h
    exact v_less P (val_I P hs a k (nl (sk h))) (val_I P hs b k (nr (sk h)))
  | equal a b =>
    intro s k _ h hs
    obtain ⟨k,rfl⟩ := k1 h
    exact v_equal P (val_I P hs a k (nl (sk h))) (val_I P hs b k (nr (sk h)))
  | not a ih =>
    intro s k ho h hs
    obtain ⟨k,rfl⟩ := k1 h
    exact v_not P (ih ho (sk h) (hs.weak (Nat.le_succ _)))
  | and a b ih1 ih2 =>
    intro s k ho h hs
    obtain ⟨k,rfl⟩ := k1 h
    exact v_and P (ih1 (okB2 ho).1 (nl (sk h)) (hs.weak (Nat.le_succ_of_le (Nat.le_max_left _ _)))) (ih2 (okB2 ho).2 (nr (sk h)) (hs.weak (Nat.le_succ_of_le (Nat.le_max_right _ _))))
  | or a b ih1 ih2 =>
    intro s k ho h hs
    obtain ⟨k,rfl⟩ := k1 h
    exact v_or P (ih1 (okB2 ho).1 (nl (sk h)) (hs.weak (Nat.le_succ_of_le (Nat.le_max_left _ _)))) (ih2 (okB2 ho).2 (nr (sk h)) (hs.weak (Nat.le_succ_of_le (Nat.le_max_right _ _))))
  | implies a b ih1 ih2 =>
    intro s k ho h hs
    obtain ⟨k,rfl⟩ := k1 h
    exact v_implies P (ih1 (okB2 ho).1 (nl (sk h)) (hs.weak (Nat.le_succ_of_le (Nat.le_max_left _ _)))) (ih2 (okB2 ho).2 (nr (sk h)) (hs.weak (Nat.le_succ_of_le (Nat.le_max_right _ _))))
  | all lo n body ih =>
    intro s k ho h hs
    obtain ⟨k,rfl⟩ := k1 h
    obtain ⟨k,rfl⟩ := k1 (sk h)
    have ho : (decide (0 ≤ n ∧ n ≤ 1000) && okB body) = true := ho
    have ho := Bool.and_eq_true_iff.mp ho
    have hn := of_decide_eq_true ho.1
    have hl : dI lo + 1 ≤ k := nl (sk (sk h))
    exact v_all P hn.2 hn.1 hs.keys (Nat.le_trans (Nat.le_add_right _ _) hs.len) (val_I P hs lo k (Nat.le_of_succ_le hl)) (val_I P hs (.add lo (.num n)) k (Nat.le_trans (Nat.succ_le_succ (Nat.max_le.mpr ⟨Nat.le_refl _,Nat.zero_le _⟩)) hl)) fun j hj => ih ho.2 (nr (sk (sk h))) ((hs.weak (m' := dB body + 1) (Nat.succ_le_succ (Nat.le_succ_of_le (Nat.le_max_right _ _)))).setK _ _)
end
theorem putAll_new : ∀ (ps acc:List (List Nat × V)),(keysOf (acc ++ ps)).Nodup → putAll acc ps = acc ++ ps
  | [],acc,_ => by simp [putAll]
  | p :: ps,acc,h => by
    have h1 : p.1 ∉ keysOf acc := by
      rw [keysOf,List.map_append,List.map_cons] at h
      exact fun hm => (List.nodup_append.mp h).2.2 p.1 hm p.1 (.head _) rfl
    show putAll (upd acc p.1 p.2) ps = _
    rw [upd_new h1,putAll_new ps _ (by rw [List.append_assoc]; exact h),List.append_assoc]
    rfl
noncomputable def stV (s:St) : V := .tup [.lst (itemsV (nsV s)),.lst (itemsV (arV s))]
section
variable {B:B0} {k:Nat} {σ:Store}
theorem c_value (P:Prog1 B) {t:BT} {s:St} (ho:okB t = true) (hk:dB t + 1 ≤ k) (hs:s.OK (dB t)) (hl:s.ns.length ≤ 1000) (hla:s.ar.length ≤ 1000) : CallP B (k + 1) 5 [repB t,stV s] σ (.bool (evB s t)) := by
  obtain ⟨k,rfl⟩ := k1 hk
  refine callB P (by decide) (by kernel_rfl) ok5 tr5 ⟨rfl,rfl⟩ rfl ?_
  rw [nx5]
  have h1 := c_dict (k := k) (σ := σ) P (nsV s) (by rw [nsV,List.length_map]; exact hl)
  have h2 := c_dict (k := k) (σ := σ) P (arV s) (by rw [arV,List.length_map]; exact hla)
  rw [putAll_new _ _ (by rw [List.nil_append,keys_nsV]; exact hs.keys),List.nil_append] at h1
  rw [putAll_new _ _ (by rw [List.nil_append,keys_arV]; exact hs.keysA),List.nil_append] at h2
  exact st_ret (to_ev (rs := [.sd (nsV s),.sd (arV s),.bool (evB s t)]) (o := [⟨0,[.lst (itemsV (nsV s))],.sd (nsV s)⟩,⟨0,[.lst (itemsV (arV s))],.sd (arV s)⟩,⟨4,[repB t,.sd (nsV s),.sd (arV s)],.bool (evB s t)⟩]) rfl ⟨h1,h2,val_B P t ho (sk hk) hs σ,trivial⟩) ⟨rfl,rfl⟩
theorem c_holds (P:Prog1 B) {t:BT} {s:St} (ho:okB t = true) (hk:dB t + 1 ≤ k) (hs:s.OK (dB t)) (hl:s.ns.length ≤ 1000) (hla:s.ar.length ≤ 1000) : CallP B (k + 2) 6 [repB t,stV s] σ (.bool (evB s t)) := by
  refine callB P (by decide) (by kernel_rfl) ok6 tr6 ⟨rfl,rfl⟩ rfl ?_
  rw [nx6]
  exact st_ret (to_c1 rfl (c_value P ho hk hs hl hla)) ⟨rfl,rfl⟩
end
theorem veq_str (a b:List Nat) : veq (.str a) (.str b) = (a == b) := by
  show ((⟨a.toArray⟩ : Str) == ⟨b.toArray⟩) = (a == b)
  by_cases h : a = b
  · rw [h,beq_self_eq_true,beq_self_eq_true]
  · rw [beq_eq_false_iff_ne.mpr h,beq_eq_false_iff_ne]
    exact fun e => h (congrArg (fun s:Str => s.cps.toList) e)
theorem veq_tup (a b:V) (xs ys:List V) : veq (.tup (a :: xs)) (.tup (b :: ys)) = (veq a b && veq (.tup xs) (.tup ys)) := rfl
theorem veq_nil : veq (.tup []) (.tup []) = true := rfl
theorem veq_nil1 (b:V) (ys:List V) : veq (.tup []) (.tup (b :: ys)) = false := rfl
theorem veq_nil2 (b:V) (ys:List V) : veq (.tup (b :: ys)) (.tup []) = false := rfl
mutual
theorem veq_refl (x:V) : veq x x = true := by
  cases x with
  | tup xs => exact veq_reflL xs
  | lst xs => exact veq_reflL xs
  | bool b => exact (beq_self_eq_true b)
  | int i => exact (beq_self_eq_true i)
  | str s => exact (veq_str s s).trans (beq_self_eq_true s)
  | _ => rfl
theorem veq_reflL (xs:List V) : PyData.eqvAll (dataL xs) (dataL xs) = true := by
  cases xs with
  | nil => rfl
  | cons x xs => exact Bool.and_eq_true_iff.mpr ⟨veq_refl x,veq_reflL xs⟩
end
noncomputable def leafTags : List (List Nat) := [[110,117,109],[118,97,114],[97,114,114,97,121],[116,114,117,101]]
theorem depth_str (a:List Nat) : (V.str a).depth ≤ 4000 := Nat.zero_le _
theorem leaf_any (tag:List Nat) : ([V.str [110,117,109],.str [118,97,114],.str [97,114,114,97,121],.str [116,114,117,101]].any fun z => veq z (.str tag)) = decide (tag ∈ leafTags) := by
  rw [show ([V.str [110,117,109],.str [118,97,114],.str [97,114,114,97,121],.str [116,114,117,101]] : List V) = leafTags.map V.str from rfl,List.any_map]
  by_cases h : tag ∈ leafTags
  · rw [decide_eq_true h,List.any_eq_true]
    exact ⟨tag,h,(veq_str tag tag).trans (beq_self_eq_true _)⟩
  · rw [decide_eq_false h,List.any_eq_false]
    exact fun x hx e => h (by rw [← eq_of_beq ((veq_str x tag).symm.trans e)]; exact hx)
theorem veq_lnil (ps:List V) : veq (.lst ps) (.lst []) = ps.isEmpty := by cases ps <;> rfl
section
variable {B:B0} {k:Nat} {σ:Store}
theorem comp_id {t:V} : ∀ (xs acc:List V) (Q:V → Prop),Q (.lst (acc ++ xs)) → compW (evW B k σ (.var 1)) [1] [some t,none] xs acc Q
  | [],acc,Q,q => by rw [List.append_nil] at q; exact q
  | x :: xs,acc,Q,q => Exists.intro [some t,some x] (And.intro rfl ((to_var rfl:EvTo B k σ [some t,some x] (.var 1) x) _ (comp_id xs (acc ++ [x]) Q (by rw [List.append_assoc]; exact q))))
noncomputable def PartsOf (tag:List Nat) (rest ps:List V) : Prop := (tag ∈ leafTags ∧ ps = []) ∨ (tag ∉ leafTags ∧ tag = [97,108,108] ∧ ∃ a b c d,rest = [a,b,c,d] ∧ ps = [b,c,d]) ∨ (tag ∉ leafTags ∧ tag ≠ [97,108,108] ∧ ps = rest)
theorem c_parts (P:Prog1 B) {tag:List Nat} {rest:List V} (ht:(V.str tag).plain = true) (hz:rest.length ≤ 100) (ps:List V) (h:PartsOf tag rest ps) : CallP B (k + 1) 7 [.tup (.str tag :: rest)] σ (.lst ps) := by
  refine callB P (by decide) (by kernel_rfl) ok7 tr7 ⟨rfl,rfl⟩ rfl ?_
  rw [nx7]
  refine st_if (p := decide (tag ∈ leafTags)) (tv_in (x := .str tag) (to_pure rfl) (to_pure rfl) ht rfl (depth_str tag) (leaf_any tag)) (fun e => ?_) fun e => ?_
  · have hm := of_decide_eq_true e
    rcases h with ⟨_,rfl⟩ | h | h
    · exact st_ret (to_pure rfl) ⟨rfl,rfl⟩
    · exact absurd hm h.1
    · exact absurd hm h.1
  · have hm := of_decide_eq_false e
    refine st_nil ?_
    rcases h with h | ⟨_,rfl,a,b,c,d,rfl,rfl⟩ | ⟨_,hne,rfl⟩
    · exact absurd h.1 hm
    · exact goP (n := 1) rfl rfl ⟨rfl,rfl⟩
    · refine st_no (fun Q q => tv_eqs (to_pure rfl) to_lit Q (by rw [beq_eq_false_iff_ne.mpr hne]; exact q)) ?_
      exact to_comp (to_sl1 (to_var rfl)) rfl (Nat.le_trans hz (by decide)) (comp_id _ [] _ ⟨rfl,rfl⟩)
noncomputable def MadeOf (tag:List Nat) (rest ps:List V) (r:V) : Prop := (ps = [] ∧ r = .tup (.str tag :: rest)) ∨ (tag = [97,108,108] ∧ ∃ n xs a b c,rest = n :: xs ∧ ps = [a,b,c] ∧ r = .tup [.str tag,n,a,b,c]) ∨ (tag ≠ [97,108,108] ∧ ps ≠ [] ∧ ps.length ≤ 3 ∧ r = .tup (.str tag :: ps))
theorem c_made (P:Prog1 B) {tag:List Nat} {rest ps:List V} {r:V} (hp:plainL ps = true) (h:MadeOf tag rest ps r) : CallP B (k + 1) 8 [.tup (.str tag :: rest),.lst ps] σ r := by
  refine callB P (by decide) (by kernel_rfl) ok8 tr8 ⟨rfl,rfl⟩ rfl ?_
  rw [nx8]
  refine st_if (p := ps.isEmpty) (tv_eqL (to_var rfl) (to_pure rfl) hp rfl (by decide) (veq_lnil ps)) (fun e => ?_) fun e => ?_
  · rcases h with ⟨rfl,rfl⟩ | ⟨_,n,xs,a,b,c,rfl,rfl,rfl⟩ | ⟨_,hne,_⟩
    · exact st_ret (to_var rfl) ⟨rfl,rfl⟩
    · exact noB e
    · exact absurd (List.isEmpty_iff.mp e) hne
  · refine st_nil ?_
    rcases h with ⟨rfl,rfl⟩ | ⟨rfl,n,xs,a,b,c,rfl,rfl,rfl⟩ | ⟨hne,hne2,hl,rfl⟩
    · exact noB e.symm
    · exact goP (n := 1) rfl rfl ⟨rfl,rfl⟩
    · refine st_no (fun Q q => tv_eqs (to_pure rfl) to_lit Q (by rw [beq_eq_false_iff_ne.mpr hne]; exact q)) ?_
      cases ps with
      | nil => exact absurd rfl hne2
      | cons a r => cases r with
        | nil => exact goP (n := 1) rfl rfl ⟨rfl,rfl⟩
        | cons b r => cases r with
          | nil => exact goP (n := 3) rfl rfl ⟨rfl,rfl⟩
          | cons c r => cases r with
            | nil => exact goP (n := 4) rfl rfl ⟨rfl,rfl⟩
            | cons _ _ => exact absurd hl (Nat.not_le.mpr (Nat.le_add_left 4 _))
end
noncomputable abbrev tVar : List Nat := [118,97,114]
noncomputable abbrev tArr : List Nat := [97,114,114,97,121]
noncomputable abbrev oldV (t0 z0:List Nat) : V := .tup [.str t0,.str z0]
theorem veq_old (tag t0 z0:List Nat) (rest:List V) : veq (.tup (.str tag :: rest)) (oldV t0 z0) = (tag == t0 && veq (.tup rest) (.tup [.str z0])) := by rw [veq_tup,veq_str]
theorem veq_leaf (tag t0 z z0:List Nat) : veq (.tup [.str tag,.str z]) (oldV t0 z0) = (tag == t0 && z == z0) := by rw [veq_old,veq_tup,veq_str,veq_nil,Bool.and_true]
noncomputable def RepP (B:B0) (k:Nat) (t old new v:V) : Prop := ∀ σ,CallP B k 9 [t,old,new] σ v
inductive RepPL (B:B0) (k:Nat) (old new:V) : List V → List V → Prop
  | nil : RepPL B k old new [] []
  | cons {t v:V} {ts vs:List V} : RepP B k t old new v → RepPL B k old new ts vs → RepPL B k old new (t :: ts) (v :: vs)
section
variable {B:B0} {k:Nat} {σ:Store}
theorem old_depth (t0 z0:List Nat) : (oldV t0 z0).depth ≤ 4000 := Nat.le_of_ble_eq_true rfl
theorem rp_hit (P:Prog1 B) {xs:List V} {t0 z0:List Nat} {new:V} (hp:plainL xs = true) (ho:(oldV t0 z0).plain = true) (he:veq (.tup xs) (oldV t0 z0) = true) : RepP B (k + 1) (.tup xs) (oldV t0 z0) new new := by
  intro σ
  refine callB P (by decide) (by kernel_rfl) ok9 tr9 ⟨rfl,rfl⟩ rfl ?_
  rw [nx9]
  exact st_yes (tv_eqT (to_var rfl) (to_var rfl) hp ho (old_depth t0 z0) he) (st_ret (to_var rfl) ⟨rfl,rfl⟩)
theorem rp_comp {t old new:V} {ps qs:List V} (h:RepPL B k old new ps qs) : ∀ (acc:List V) (Q:V → Prop),Q (.lst (acc ++ qs)) →
    compW (evW B k σ (.call 9 (.cons (.var 3) (.cons (.var 1) (.cons (.var 2) .nil))))) [3] [some t,some old,some new,none] ps acc Q := by
  induction h with
  | nil => intro acc Q q; rw [List.append_nil] at q; exact q
  | @cons t' v' ts vs hv _ ih => exact fun acc Q q => Exists.intro [some t,some old,some new,some t'] (And.intro rfl (to_c1 rfl (hv σ) _ (ih (acc ++ [v']) Q (by rw [List.append_assoc]; exact q))))
theorem rp_node (P:Prog1 B) {tag t0 z0:List Nat} {rest ps qs:List V} {new r:V} (hp:(V.tup (.str tag :: rest)).plain = true) (ho:(oldV t0 z0).plain = true) (he:veq (.tup (.str tag :: rest)) (oldV t0 z0) = false) (hz:rest.length ≤ 100) (hz2:ps.length ≤ 100) (hq:plainL qs = true)
    (h1:PartsOf tag rest ps) (h2:RepPL B (k + 1) (oldV t0 z0) new ps qs) (h3:MadeOf tag rest qs r) : RepP B (k + 2) (.tup (.str tag :: rest)) (oldV t0 z0) new r := by
  intro σ
  refine callB P (by decide) (by kernel_rfl) ok9 tr9 ⟨rfl,rfl⟩ rfl ?_
  rw [nx9]
  refine st_no (tv_eqT (to_var rfl) (to_var rfl) hp ho (old_depth t0 z0) he) (st_ret (d := r) (to_call (vs := [.tup (.str tag :: rest),.lst qs]) (to_cons (to_var rfl) (to_cons (fun Q q => ?_) to_nil)) (c_made P hq h3)) ⟨rfl,rfl⟩)
  exact to_comp (to_c1 rfl (c_parts (σ := σ) P (Bool.and_eq_true_iff.mp hp).1 hz ps h1)) rfl (Nat.le_trans hz2 (by decide)) (rp_comp h2 [] _ q)
theorem plT {t:V} {xs:List V} (h:(V.tup (t :: xs)).plain = true) : plainL xs = true := (Bool.and_eq_true_iff.mp h).2
theorem plH {t:V} {xs:List V} (h:plainL (t :: xs) = true) : t.plain = true := (Bool.and_eq_true_iff.mp h).1
theorem plR {t:V} {xs:List V} (h:plainL (t :: xs) = true) : plainL xs = true := (Bool.and_eq_true_iff.mp h).2
theorem pl1 {t:List Nat} {x:V} (h:(V.tup [.str t,x]).plain = true) : x.plain = true := (Bool.and_eq_true_iff.mp (Bool.and_eq_true_iff.mp h).2).1
theorem pl2 {t:List Nat} {x y:V} (h:(V.tup [.str t,x,y]).plain = true) : x.plain = true ∧ y.plain = true := ⟨(Bool.and_eq_true_iff.mp (Bool.and_eq_true_iff.mp h).2).1,(Bool.and_eq_true_iff.mp (Bool.and_eq_true_iff.mp (Bool.and_eq_true_iff.mp h).2).2).1⟩
theorem pq {t:V} {xs ys:List V} (h:(V.tup (t :: xs)).plain = true) (k:plainL xs = true → plainL ys = true) : (V.tup (t :: ys)).plain = true := Bool.and_eq_true_iff.mpr ⟨(Bool.and_eq_true_iff.mp h).1,k (Bool.and_eq_true_iff.mp h).2⟩
theorem pc {x y:V} {xs ys:List V} (f:x.plain = true → y.plain = true) (g:plainL xs = true → plainL ys = true) (h:plainL (x :: xs) = true) : plainL (y :: ys) = true := Bool.and_eq_true_iff.mpr ⟨f (Bool.and_eq_true_iff.mp h).1,g (Bool.and_eq_true_iff.mp h).2⟩
structure Rp (r:Sub) (t0 z0:List Nat) (new:V) : Prop where
  i : ∀ z,(tVar = t0 ∧ z = z0 ∧ repI (r.f z) = new) ∨ (¬(tVar = t0 ∧ z = z0) ∧ r.f z = .var z)
  a : ∀ z,(tArr = t0 ∧ z = z0 ∧ repA (r.g z) = new) ∨ (¬(tArr = t0 ∧ z = z0) ∧ r.g z = .arr z)
  t : t0 = tVar ∨ t0 = tArr
  o : (oldV t0 z0).plain = true
  n : new.plain = true
theorem Rp.subI {x:List Nat} {e:IT} (hx:(V.str x).plain = true) (he:(repI e).plain = true) : Rp (subI x e) tVar x (repI e) := by
  refine ⟨fun z => ?_,fun z => .inr ⟨fun h => absurd h.1 (by decide),rfl⟩,.inl rfl,?_,he⟩
  · by_cases q : z = x
    · exact .inl ⟨rfl,q,congrArg repI (if_pos q)⟩
    · exact .inr ⟨fun h => q h.2,if_neg q⟩
  · show ((V.str tVar).plain && ((V.str x).plain && true)) = true
    rw [hx]; rfl
theorem Rp.subA {x:List Nat} {e:AT} (hx:(V.str x).plain = true) (he:(repA e).plain = true) : Rp (subA x e) tArr x (repA e) := by
  refine ⟨fun z => .inr ⟨fun h => absurd h.1 (by decide),rfl⟩,fun z => ?_,.inr rfl,?_,he⟩
  · by_cases q : z = x
    · exact .inl ⟨rfl,q,congrArg repA (if_pos q)⟩
    · exact .inr ⟨fun h => q h.2,if_neg q⟩
  · show ((V.str tArr).plain && ((V.str x).plain && true)) = true
    rw [hx]; rfl
end
section
variable {r:Sub} {t0 z0:List Nat} {new:V}
theorem Rp.pi (h:Rp r t0 z0 new) {z:List Nat} (hz:(repI (.var z)).plain = true) : (repI (r.f z)).plain = true := by
  rcases h.i z with ⟨_,_,e⟩ | ⟨_,e⟩
  · rw [e]; exact h.n
  · rw [e]; exact hz
theorem Rp.pa (h:Rp r t0 z0 new) {z:List Nat} (hz:(repA (.arr z)).plain = true) : (repA (r.g z)).plain = true := by
  rcases h.a z with ⟨_,_,e⟩ | ⟨_,e⟩
  · rw [e]; exact h.n
  · rw [e]; exact hz
theorem plain_sb (h:Rp r t0 z0 new) : (∀ t,(repI t).plain = true → (repI (sbI r t)).plain = true) ∧ ∀ t,(repA t).plain = true → (repA (sbA r t)).plain = true :=
  IT.both (fun _ hp => hp) (fun _ hp => h.pi hp) (fun _ _ i1 i2 hp => pq hp (pc i1 (pc i2 id))) (fun _ _ i1 i2 hp => pq hp (pc i1 (pc i2 id))) (fun _ _ i1 i2 hp => pq hp (pc i1 (pc i2 id))) (fun _ i1 hp => pq hp (pc i1 id)) (fun _ hp => h.pa hp) fun _ _ _ i1 i2 i3 hp => pq hp (pc i1 (pc i2 (pc i3 id)))
theorem plain_sbI (h:Rp r t0 z0 new) (t:IT) (hp:(repI t).plain = true) : (repI (sbI r t)).plain = true := (plain_sb h).1 t hp
theorem plain_sbA (h:Rp r t0 z0 new) (t:AT) (hp:(repA t).plain = true) : (repA (sbA r t)).plain = true := (plain_sb h).2 t hp
theorem plain_sbB (h:Rp r t0 z0 new) (t:BT) : (repB t).plain = true → (repB (sbB r t)).plain = true := by
  induction t with
  | tru => exact fun hp => hp
  | less a b => exact fun hp => pq hp (pc (plain_sbI h a) (pc (plain_sbI h b) id))
  | equal a b => exact fun hp => pq hp (pc (plain_sbI h a) (pc (plain_sbI h b) id))
  | not a ih => exact fun hp => pq hp (pc ih id)
  | and a b ih1 ih2 => exact fun hp => pq hp (pc ih1 (pc ih2 id))
  | or a b ih1 ih2 => exact fun hp => pq hp (pc ih1 (pc ih2 id))
  | implies a b ih1 ih2 => exact fun hp => pq hp (pc ih1 (pc ih2 id))
  | all lo n body ih => exact fun hp => pq hp (pc id (pc (plain_sbI h lo) (pc (plain_sbI h (.add lo (.num n))) (pc ih id))))
end
section
variable {B:B0} {k:Nat} {r:Sub} {t0 z0:List Nat} {new:V}
theorem tag_ne (h:Rp r t0 z0 new) {tag:List Nat} {rest:List V} (h1:tag ≠ tVar) (h2:tag ≠ tArr) : veq (.tup (.str tag :: rest)) (oldV t0 z0) = false := by
  rw [veq_old,beq_eq_false_iff_ne.mpr fun e => h.t.elim (fun q => h1 (e.trans q)) fun q => h2 (e.trans q),Bool.false_and]
noncomputable def okT (tag:List Nat) : Bool := decide (tag ≠ tVar ∧ tag ≠ tArr ∧ tag ∉ leafTags ∧ tag ≠ [97,108,108])
theorem rp_n (P:Prog1 B) (h:Rp r t0 z0 new) {tag:List Nat} {rest qs:List V} (ht:okT tag = true) (hp:(V.tup (.str tag :: rest)).plain = true) (hz:rest.length ≤ 100) (hq:(V.tup (.str tag :: qs)).plain = true) (hne:qs ≠ []) (hl:qs.length ≤ 3) (h2:RepPL B (k + 1) (oldV t0 z0) new rest qs) :
    RepP B (k + 2) (.tup (.str tag :: rest)) (oldV t0 z0) new (.tup (.str tag :: qs)) :=
  have ht := of_decide_eq_true ht
  rp_node P hp h.o (tag_ne h ht.1 ht.2.1) hz hz (Bool.and_eq_true_iff.mp hq).2 (.inr (.inr ⟨ht.2.2.1,ht.2.2.2,rfl⟩)) h2 (.inr (.inr ⟨ht.2.2.2,hne,hl,rfl⟩))
theorem rp_leaf (P:Prog1 B) (h:Rp r t0 z0 new) {tag:List Nat} {rest:List V} (hl:tag ∈ leafTags) (hz:rest.length ≤ 100) (hp:(V.tup (.str tag :: rest)).plain = true) (hv:veq (.tup (.str tag :: rest)) (oldV t0 z0) = false) : RepP B (k + 2) (.tup (.str tag :: rest)) (oldV t0 z0) new (.tup (.str tag :: rest)) :=
  rp_node P hp h.o hv hz (Nat.zero_le _) rfl (.inl ⟨hl,rfl⟩) .nil (.inl ⟨rfl,rfl⟩)
theorem RepPL.two {t a u b old:V} (h1:RepP B k t old new a) (h2:RepP B k u old new b) : RepPL B k old new [t,u] [a,b] := .cons h1 (.cons h2 .nil)
theorem rp_1 (P:Prog1 B) (h:Rp r t0 z0 new) {tag:List Nat} {a a':V} (ht:okT tag = true) (hp:(V.tup [.str tag,a]).plain = true) (hq:(V.tup [.str tag,a']).plain = true) (h1:a.plain = true → RepP B (k + 1) a (oldV t0 z0) new a') : RepP B (k + 2) (.tup [.str tag,a]) (oldV t0 z0) new (.tup [.str tag,a']) :=
  rp_n P h ht hp (Nat.le_of_ble_eq_true rfl) hq (fun e => nomatch e) (Nat.le_of_ble_eq_true rfl) (.cons (h1 (pl1 hp)) .nil)
theorem rp_2 (P:Prog1 B) (h:Rp r t0 z0 new) {tag:List Nat} {a b a' b':V} (ht:okT tag = true) (hp:(V.tup [.str tag,a,b]).plain = true) (hq:(V.tup [.str tag,a',b']).plain = true) (h1:a.plain = true → RepP B (k + 1) a (oldV t0 z0) new a') (h2:b.plain = true → RepP B (k + 1) b (oldV t0 z0) new b') : RepP B (k + 2) (.tup [.str tag,a,b]) (oldV t0 z0) new (.tup [.str tag,a',b']) :=
  rp_n P h ht hp (Nat.le_of_ble_eq_true rfl) hq (fun e => nomatch e) (Nat.le_of_ble_eq_true rfl) (.two (h1 (pl2 hp).1) (h2 (pl2 hp).2))
theorem leaf_no {tag z:List Nat} (h:¬(tag = t0 ∧ z = z0)) : veq (.tup [.str tag,.str z]) (oldV t0 z0) = false := by
  rw [veq_leaf,Bool.eq_false_iff]
  exact fun q => h ⟨eq_of_beq (Bool.and_eq_true_iff.mp q).1,eq_of_beq (Bool.and_eq_true_iff.mp q).2⟩
theorem leaf_yes {tag z:List Nat} (h1:tag = t0) (h2:z = z0) : veq (.tup [.str tag,.str z]) (oldV t0 z0) = true := by rw [veq_leaf,h1,h2,beq_self_eq_true,beq_self_eq_true]; rfl
theorem rep_IA (P:Prog1 B) (h:Rp r t0 z0 new) : (∀ t k,(repI t).plain = true → dI t ≤ k → RepP B (k + 2) (repI t) (oldV t0 z0) new (repI (sbI r t))) ∧ ∀ t k,(repA t).plain = true → dA t ≤ k → RepP B (k + 2) (repA t) (oldV t0 z0) new (repA (sbA r t)) := by
  refine IT.both (fun i k hp _ => rp_leaf P h (by decide) (Nat.le_of_ble_eq_true rfl) hp (tag_ne h (by decide) (by decide))) (fun z k hp _ => ?_)
    (fun a b i1 i2 k hp hd => by obtain ⟨k,rfl⟩ := k1 hd; exact rp_2 P h rfl hp (plain_sbI h (.add a b) hp) (fun p => i1 k p (nl (sk hd))) fun p => i2 k p (nr (sk hd)))
    (fun a b i1 i2 k hp hd => by obtain ⟨k,rfl⟩ := k1 hd; exact rp_2 P h rfl hp (plain_sbI h (.sub a b) hp) (fun p => i1 k p (nl (sk hd))) fun p => i2 k p (nr (sk hd)))
    (fun a b i1 i2 k hp hd => by obtain ⟨k,rfl⟩ := k1 hd; exact rp_2 P h rfl hp (plain_sbI h (.at_ a b) hp) (fun p => i1 k p (nl (sk hd))) fun p => i2 k p (nr (sk hd)))
    (fun a i1 k hp hd => by obtain ⟨k,rfl⟩ := k1 hd; exact rp_1 P h rfl hp (plain_sbI h (.size a) hp) fun p => i1 k p (sk hd)) (fun z k hp _ => ?_) fun a b d i1 i2 i3 k hp hd => ?_
  · show RepP B (k + 2) _ _ _ (repI (r.f z))
    rcases h.i z with ⟨e1,e2,e3⟩ | ⟨e1,e2⟩
    · rw [e3]; exact rp_hit P hp h.o (leaf_yes e1 e2)
    · rw [e2]; exact rp_leaf P h (by decide) (Nat.le_of_ble_eq_true rfl) hp (leaf_no e1)
  · show RepP B (k + 2) _ _ _ (repA (r.g z))
    rcases h.a z with ⟨e1,e2,e3⟩ | ⟨e1,e2⟩
    · rw [e3]; exact rp_hit P hp h.o (leaf_yes e1 e2)
    · rw [e2]; exact rp_leaf P h (by decide) (Nat.le_of_ble_eq_true rfl) hp (leaf_no e1)
  · obtain ⟨k,rfl⟩ := k1 hd
    have hp' := plT hp
    exact rp_n P h rfl hp (Nat.le_of_ble_eq_true rfl) (plain_sbA h (.store a b d) hp) (fun e => nomatch e) (Nat.le_of_ble_eq_true rfl) (.cons (i1 k (plH hp') (nl (sk hd))) (.two (i2 k (plH (plR hp')) (nl (nr (sk hd)))) (i3 k (plH (plR (plR hp'))) (nr (nr (sk hd))))))
theorem rep_I (P:Prog1 B) (h:Rp r t0 z0 new) (t:IT) (k:Nat) (hp:(repI t).plain = true) (hd:dI t ≤ k) : RepP B (k + 2) (repI t) (oldV t0 z0) new (repI (sbI r t)) := (rep_IA P h).1 t k hp hd
theorem rep_B (P:Prog1 B) (h:Rp r t0 z0 new) (t:BT) : ∀ (k:Nat),(repB t).plain = true → dB t ≤ k → RepP B (k + 2) (repB t) (oldV t0 z0) new (repB (sbB r t)) := by
  induction t with
  | tru => exact fun k hp hd => rp_leaf P h (by decide) (Nat.le_of_ble_eq_true rfl) hp (tag_ne h (by decide) (by decide))
  | less a b =>
    intro k hp hd
    obtain ⟨k,rfl⟩ := k1 hd
    exact rp_2 P h rfl hp (plain_sbB h (.less a b) hp) (fun p => rep_I P h a k p (nl (sk hd))) fun p => rep_I P h b k p (nr (sk hd))
  | equal a b =>
    intro k hp hd
    obtain ⟨k,rfl⟩ := k1 hd
    exact rp_2 P h rfl hp (plain_sbB h (.equal a b) hp) (fun p => rep_I P h a k p (nl (sk hd))) fun p => rep_I P h b k p (nr (sk hd))
  | not a ih =>
    intro k hp hd
    obtain ⟨k,rfl⟩ := k1 hd
    exact rp_1 P h rfl hp (plain_sbB h (.not a) hp) fun p => ih k p (sk hd)
  | and a b ih1 ih2 =>
    intro k hp hd
    obtain ⟨k,rfl⟩ := k1 hd
    exact rp_2 P h rfl hp (plain_sbB h (.and a b) hp) (fun p => ih1 k p (nl (sk hd))) fun p => ih2 k p (nr (sk hd))
  | or a b ih1 ih2 =>
    intro k hp hd
    obtain ⟨k,rfl⟩ := k1 hd
    exact rp_2 P h rfl hp (plain_sbB h (.or a b) hp) (fun p => ih1 k p (nl (sk hd))) fun p => ih2 k p (nr (sk hd))
  | implies a b ih1 ih2 =>
    intro k hp hd
    obtain ⟨k,rfl⟩ := k1 hd
    exact rp_2 P h rfl hp (plain_sbB h (.implies a b) hp) (fun p => ih1 k p (nl (sk hd))) fun p => ih2 k p (nr (sk hd))
  | all lo n body ih =>
    intro k hp hd
    obtain ⟨k,rfl⟩ := k1 hd
    have hq := plT (plain_sbB h (.all lo n body) hp)
    have hp1 := plR (plT hp)
    have hl : dI lo + 1 ≤ k := nl (Nat.le_of_succ_le (sk hd))
    exact rp_node P hp h.o (tag_ne h (by decide) (by decide)) (Nat.le_of_ble_eq_true rfl) (Nat.le_of_ble_eq_true rfl) (plR hq) (.inr (.inl ⟨by decide,rfl,_,_,_,_,rfl,rfl⟩)) (.cons (rep_I P h lo k (plH hp1) (Nat.le_of_succ_le hl)) (.two (rep_I P h (.add lo (.num n)) k (plH (plR hp1)) (Nat.le_trans (Nat.succ_le_succ (Nat.max_le.mpr ⟨Nat.le_refl _,Nat.zero_le _⟩)) hl)) (ih k (plH (plR (plR hp1))) (nr (Nat.le_of_succ_le (sk hd)))))) (.inr (.inl ⟨rfl,_,_,_,_,_,rfl,rfl,rfl⟩))
end
mutual
noncomputable def repS : Sm → V
  | .skip => .tup [.str [115,107,105,112]]
  | .set x e => .tup [.str [115,101,116],.str x,repI e]
  | .put a i e => .tup [.str [112,117,116],.str a,repI i,repI e]
  | .asrt c => .tup [.str [97,115,115,101,114,116],repB c]
  | .ite c p q => .tup [.str [105,102],repB c,.lst (repSs p),.lst (repSs q)]
  | .whl c kept p => .tup [.str [119,104,105,108,101],repB c,repB kept,.lst (repSs p)]
noncomputable def repSs : List Sm → List V
  | [] => []
  | a :: r => repS a :: repSs r
end
mutual
noncomputable def nS : Sm → Nat
  | .ite _ p q => max (nSs p) (nSs q) + 1
  | .whl _ _ p => nSs p + 1
  | _ => 0
noncomputable def nSs : List Sm → Nat
  | [] => 0
  | a :: r => max (nS a) (nSs r)
end
noncomputable def gB (c:BT) : Bool := (repB c).plain && okB c
mutual
noncomputable def gS : Sm → Bool
  | .skip => true
  | .set x e => (V.str x).plain && (repI e).plain
  | .put a i e => (V.str a).plain && (repI i).plain && (repI e).plain
  | .asrt c => gB c
  | .ite c p q => gB c && (gSs p && decide (p.length ≤ 1000)) && (gSs q && decide (q.length ≤ 1000))
  | .whl c kept p => gB c && gB kept && (gSs p && decide (p.length ≤ 1000))
noncomputable def gSs : List Sm → Bool
  | [] => true
  | a :: r => gS a && gSs r
end
theorem repSs_length (b:List Sm) : (repSs b).length = b.length := by
  induction b with
  | nil => rfl
  | cons a r ih => exact congrArg (· + 1) ih
theorem an2 {a b:Bool} (h:a = true) (k:b = true) : (a && b) = true := Bool.and_eq_true_iff.mpr ⟨h,k⟩
theorem plain_store {x:List Nat} {i e:IT} (hx:(V.str x).plain = true) (hi:(repI i).plain = true) (he:(repI e).plain = true) : (repA (.store (.arr x) i e)).plain = true := by
  show ((V.str [115,116,111,114,101]).plain && (((V.str tArr).plain && ((V.str x).plain && true)) && ((repI i).plain && ((repI e).plain && true)))) = true
  rw [hx,hi,he]; rfl
theorem k38 {k:Nat} (h:38 ≤ k) : ∃ j,k = j + 2 ∧ 36 ≤ j := by
  obtain ⟨j,rfl⟩ := Nat.exists_eq_add_of_le' (Nat.le_trans (by decide:2 ≤ 38) h)
  exact ⟨j,rfl,Nat.le_of_add_le_add_right (b := 2) h⟩
noncomputable def body12 : CS :=
  (.iff (.cmp .eq (.idx (.var 3) (.lit (.int 0))) (.lit (.str [115,101,116]))) (.asg 1 (.call 9 (.cons (.var 1) (.cons (.tup (.cons (.lit (.str [118,97,114])) (.cons (.idx (.var 3) (.lit (.int 1))) .nil))) (.cons (.idx (.var 3) (.lit (.int 2))) .nil)))) .nil) (.iff (.cmp .eq (.idx (.var 3) (.lit (.int 0))) (.lit (.str [112,117,116]))) (.asg 4 (.tup (.cons (.lit (.str [97,114,114,97,121])) (.cons (.idx (.var 3) (.lit (.int 1))) .nil))) (.asg 1 (.call 9 (.cons (.var 1) (.cons (.var 4) (.cons (.tup (.cons (.lit (.str [115,116,111,114,101])) (.cons (.var 4) (.cons (.idx (.var 3) (.lit (.int 2))) (.cons (.idx (.var 3) (.lit (.int 3))) .nil))))) .nil)))) .nil)) (.iff (.cmp .eq (.idx (.var 3) (.lit (.int 0))) (.lit (.str [97,115,115,101,114,116]))) (.asg 1 (.tup (.cons (.lit (.str [97,110,100])) (.cons (.idx (.var 3) (.lit (.int 1))) (.cons (.var 1) .nil)))) .nil) (.iff (.cmp .eq (.idx (.var 3) (.lit (.int 0))) (.lit (.str [105,102]))) (.unp [5,6] (.call 12 (.cons (.idx (.var 3) (.lit (.int 2))) (.cons (.var 1) .nil))) (.unp [7,8] (.call 12 (.cons (.idx (.var 3) (.lit (.int 3))) (.cons (.var 1) .nil))) (.asg 2 (.bin .add (.bin .add (.var 6) (.var 8)) (.var 2)) (.asg 1 (.tup (.cons (.lit (.str [97,110,100])) (.cons (.tup (.cons (.lit (.str [105,109,112,108,105,101,115])) (.cons (.idx (.var 3) (.lit (.int 1))) (.cons (.var 5) .nil)))) (.cons (.tup (.cons (.lit (.str [105,109,112,108,105,101,115])) (.cons (.tup (.cons (.lit (.str [110,111,116])) (.cons (.idx (.var 3) (.lit (.int 1))) .nil))) (.cons (.var 7) .nil)))) .nil)))) .nil)))) (.iff (.cmp .eq (.idx (.var 3) (.lit (.int 0))) (.lit (.str [119,104,105,108,101]))) (.unp [5,9] (.call 12 (.cons (.idx (.var 3) (.lit (.int 3))) (.cons (.idx (.var 3) (.lit (.int 2))) .nil))) (.asg 10 (.tup (.cons (.lit (.str [105,109,112,108,105,101,115])) (.cons (.tup (.cons (.lit (.str [97,110,100])) (.cons (.idx (.var 3) (.lit (.int 2))) (.cons (.idx (.var 3) (.lit (.int 1))) .nil)))) (.cons (.var 5) .nil)))) (.asg 11 (.tup (.cons (.lit (.str [105,109,112,108,105,101,115])) (.cons (.tup (.cons (.lit (.str [97,110,100])) (.cons (.idx (.var 3) (.lit (.int 2))) (.cons (.tup (.cons (.lit (.str [110,111,116])) (.cons (.idx (.var 3) (.lit (.int 1))) .nil))) .nil)))) (.cons (.var 1) .nil)))) (.asg 2 (.bin .add (.bin .add (.lst (.cons (.var 10) (.cons (.var 11) .nil))) (.var 9)) (.var 2)) (.asg 1 (.idx (.var 3) (.lit (.int 2))) .nil))))) .nil .nil) .nil) .nil) .nil) .nil)
theorem core12_eq : core12 = .asg 2 (.lst .nil) (.for_ .seq (.cons (.rev (.var 0)) .nil) [3] body12 (.ret (.tup (.cons (.var 1) (.cons (.var 2) .nil))))) := rfl
section
variable {B:B0} {k:Nat} {σ:Store}
noncomputable def OneP (B:B0) (k:Nat) (σ:Store) (a:Sm) (c c1:BT) (ls:List BT) : Prop :=
  ∀ (blk:Option V) (ls0:List V) (l4 l5 l6 l7 l8 l9 l10 l11:Option V) (T:Out → Store → Prop),ls0.length + ls.length ≤ 1000 →
    (∀ l4 l5 l6 l7 l8 l9 l10 l11,T (.next [blk,some (repB c1),some (.lst (ls.map repB ++ ls0)),some (repS a),l4,l5,l6,l7,l8,l9,l10,l11]) σ) →
    stW B k body12 [blk,some (repB c),some (.lst ls0),some (repS a),l4,l5,l6,l7,l8,l9,l10,l11] σ T
noncomputable def BlkP (B:B0) (k:Nat) (σ:Store) (b:List Sm) (c c1:BT) (ls:List BT) : Prop :=
  ∀ (R:StF) (T:Out → Store → Prop) (xs:List V) (blk:Option V) (ls0:List V) (l3 l4 l5 l6 l7 l8 l9 l10 l11:Option V),ls0.length + ls.length ≤ 1000 →
    (∀ l3 l4 l5 l6 l7 l8 l9 l10 l11,forW [3] (stW B k body12) R T xs [blk,some (repB c1),some (.lst (ls.map repB ++ ls0)),l3,l4,l5,l6,l7,l8,l9,l10,l11] σ) →
    forW [3] (stW B k body12) R T ((repSs b).reverse ++ xs) [blk,some (repB c),some (.lst ls0),l3,l4,l5,l6,l7,l8,l9,l10,l11] σ
theorem BlkP.call (P:Prog1 B) {b:List Sm} {c c1:BT} {ls:List BT} (h:BlkP B k σ b c c1 ls) (hz:ls.length ≤ 1000) (hb:b.length ≤ 1000) : CallP B (k + 1) 12 [.lst (repSs b),repB c] σ (.tup [repB c1,.lst (ls.map repB)]) := by
  refine callB P (by decide) (by kernel_rfl) ok12 tr12 ⟨rfl,rfl⟩ rfl ?_
  rw [nx12]
  refine st_asg (d := .lst []) (to_pure rfl) (st_seq (to_rev (to_var rfl) rfl) rfl (by rw [List.length_reverse,repSs_length]; exact hb) ?_)
  have h := h (stW B k (.ret (.tup (.cons (.var 1) (.cons (.var 2) .nil))))) (RetQ fun d σ' => d = .tup [repB c1,.lst (ls.map repB)] ∧ σ' = σ) [] (some (.lst (repSs b))) [] none none none none none none none none none (by rw [List.length_nil,Nat.zero_add]; exact hz) fun l3 l4 l5 l6 l7 l8 l9 l10 l11 => st_ret (to_pure rfl) ⟨by rw [List.append_nil],rfl⟩
  rw [List.append_nil] at h
  exact h
theorem one_skip (c:BT) : OneP B k σ .skip c c [] := fun blk ls0 l4 l5 l6 l7 l8 l9 l10 l11 T hz h => goS (n := 10) rfl (h ..)
theorem one_set (P:Prog1 B) {x:List Nat} {e:IT} {c:BT} (hg:gS (.set x e) = true) (hc:(repB c).plain = true) (hd:dB c ≤ 36) (hk:38 ≤ k) : OneP B k σ (.set x e) c (sbB (subI x e) c) [] := by
  intro blk ls0 l4 l5 l6 l7 l8 l9 l10 l11 T hz h
  obtain ⟨j,rfl,hj⟩ := k38 hk
  exact go (n := 3) (rs := [repB (sbB (subI x e) c)]) (o := [⟨9,[repB c,oldV tVar x,repI e],repB (sbB (subI x e) c)⟩]) rfl ⟨rep_B P (Rp.subI (an hg).1 (an hg).2) c j hc (Nat.le_trans hd hj) σ,trivial⟩ (h ..)
theorem gS_put {x:List Nat} {i e:IT} (hg:gS (.put x i e) = true) : (V.str x).plain = true ∧ (repA (.store (.arr x) i e)).plain = true := ⟨(an (an hg).1).1,plain_store (an (an hg).1).1 (an (an hg).1).2 (an hg).2⟩
theorem one_put (P:Prog1 B) {x:List Nat} {i e:IT} {c:BT} (hg:gS (.put x i e) = true) (hc:(repB c).plain = true) (hd:dB c ≤ 36) (hk:38 ≤ k) : OneP B k σ (.put x i e) c (sbB (subA x (.store (.arr x) i e)) c) [] := by
  intro blk ls0 l4 l5 l6 l7 l8 l9 l10 l11 T hz h
  obtain ⟨j,rfl,hj⟩ := k38 hk
  exact go (n := 6) (rs := [repB (sbB (subA x (.store (.arr x) i e)) c)]) (o := [⟨9,[repB c,oldV tArr x,repA (.store (.arr x) i e)],repB (sbB (subA x (.store (.arr x) i e)) c)⟩]) rfl ⟨rep_B P (Rp.subA (gS_put hg).1 (gS_put hg).2) c j hc (Nat.le_trans hd hj) σ,trivial⟩ (h ..)
theorem one_asrt {b c:BT} : OneP B k σ (.asrt b) c (.and b c) [] := fun blk ls0 l4 l5 l6 l7 l8 l9 l10 l11 T hz h => goS (n := 7) rfl (h ..)
theorem one_ite {b c c1 c2:BT} {p q:List Sm} {l1 l2:List BT} (h1:CallP B k 12 [.lst (repSs p),repB c] σ (.tup [repB c1,.lst (l1.map repB)])) (h2:CallP B k 12 [.lst (repSs q),repB c] σ (.tup [repB c2,.lst (l2.map repB)])) :
    OneP B k σ (.ite b p q) c (.and (.implies b c1) (.implies (.not b) c2)) (l1 ++ l2) := by
  intro blk ls0 l4 l5 l6 l7 l8 l9 l10 l11 T hz h
  rw [List.length_append] at hz
  rw [List.map_append] at h
  refine go (n := 6) (rs := [.tup [repB c1,.lst (l1.map repB)],.tup [repB c2,.lst (l2.map repB)]]) (o := [⟨12,[.lst (repSs p),repB c],.tup [repB c1,.lst (l1.map repB)]⟩,⟨12,[.lst (repSs q),repB c],.tup [repB c2,.lst (l2.map repB)]⟩]) rfl ⟨h1,h2,trivial⟩ ?_
  refine st_asg (to_cat (to_cat (to_var rfl) (to_var rfl) ?_) (to_var rfl) ?_) (st_asg (to_pure rfl) (h ..))
  · rw [List.length_map,List.length_map]; exact Nat.le_trans (Nat.le_trans (Nat.le_add_left _ _) hz) (by decide)
  · rw [List.length_append,List.length_map,List.length_map,Nat.add_comm]; exact Nat.le_trans hz (by decide)
theorem one_whl {b kept c c1:BT} {p:List Sm} {l1:List BT} (h1:CallP B k 12 [.lst (repSs p),repB kept] σ (.tup [repB c1,.lst (l1.map repB)])) :
    OneP B k σ (.whl b kept p) c kept ([.implies (.and kept b) c1,.implies (.and kept (.not b)) c] ++ l1) := by
  intro blk ls0 l4 l5 l6 l7 l8 l9 l10 l11 T hz h
  rw [List.length_append] at hz
  refine go (n := 8) (rs := [.tup [repB c1,.lst (l1.map repB)]]) (o := [⟨12,[.lst (repSs p),repB kept],.tup [repB c1,.lst (l1.map repB)]⟩]) rfl ⟨h1,trivial⟩ ?_
  refine st_asg (to_cat (to_cat (to_pure rfl) (to_var rfl) ?_) (to_var rfl) ?_) (st_asg (to_pure rfl) (h ..))
  · rw [List.length_map]; exact Nat.le_trans (Nat.le_trans (Nat.le_add_left _ _) hz) (by decide)
  · rw [List.length_append,List.length_map,Nat.add_comm]; exact Nat.le_trans hz (by decide)
end
theorem gB_of {a:BT} (h:gB a = true) : (repB a).plain = true ∧ okB a = true := an h
theorem gB_mk {a:BT} (h:(repB a).plain = true) (k:okB a = true) : gB a = true := an2 h k
theorem gB_sb {r:Sub} {t0 z0:List Nat} {new:V} (h:Rp r t0 z0 new) {c:BT} (hc:gB c = true) : gB (sbB r c) = true := gB_mk (plain_sbB h c (gB_of hc).1) (by rw [okB_sb]; exact (gB_of hc).2)
theorem plain2 {t:List Nat} {x y:V} (ht:(V.str t).plain = true) (hx:x.plain = true) (hy:y.plain = true) : (V.tup [.str t,x,y]).plain = true := by
  show ((V.str t).plain && (x.plain && (y.plain && true))) = true
  rw [ht,hx,hy]; rfl
theorem gB_and {a b:BT} (h1:gB a = true) (h2:gB b = true) : gB (.and a b) = true := gB_mk (plain2 (by decide) (gB_of h1).1 (gB_of h2).1) (an2 (gB_of h1).2 (gB_of h2).2)
theorem gB_implies {a b:BT} (h1:gB a = true) (h2:gB b = true) : gB (.implies a b) = true := gB_mk (plain2 (by decide) (gB_of h1).1 (gB_of h2).1) (an2 (gB_of h1).2 (gB_of h2).2)
theorem gB_not {a:BT} (h1:gB a = true) : gB (.not a) = true := gB_mk (by
  show ((V.str [110,111,116]).plain && ((repB a).plain && true)) = true
  rw [(gB_of h1).1]; rfl) (gB_of h1).2
theorem gB_plain {a:BT} (h1:gB a = true) : (repB a).plain = true := (gB_of h1).1
section
variable {B:B0}
noncomputable def BfOK (B:B0) (c c1:BT) (ls:List BT) : Job → Prop
  | .blk b => gSs b = true → (∀ k σ,nSs b + 38 ≤ k → BlkP B k σ b c c1 ls) ∧ gB c1 = true ∧ ∀ x ∈ ls,gB x = true
  | .one a => gS a = true → (∀ k σ,nS a + 38 ≤ k → OneP B k σ a c c1 ls) ∧ gB c1 = true ∧ ∀ x ∈ ls,gB x = true
  | .lp _ _ => True
theorem no_mem {P:BT → Prop} : ∀ x ∈ ([] : List BT),P x := fun _ h => nomatch h
theorem BlkP.nil {k:Nat} {σ:Store} {c:BT} : BlkP B k σ [] c c [] := fun R T xs blk ls0 l3 l4 l5 l6 l7 l8 l9 l10 l11 hz h => h ..
theorem BlkP.cons {k:Nat} {σ:Store} {a:Sm} {r:List Sm} {c c1 c2:BT} {l1 l2:List BT} (m1:BlkP B k σ r c c1 l1) (m2:OneP B k σ a c1 c2 l2) : BlkP B k σ (a :: r) c c2 (l2 ++ l1) := by
  intro R T xs blk ls0 l3 l4 l5 l6 l7 l8 l9 l10 l11 hz h
  rw [List.length_append] at hz
  show forW _ _ _ _ ((repS a :: repSs r).reverse ++ xs) _ _
  rw [List.reverse_cons,List.append_assoc]
  refine m1 R T _ blk ls0 l3 l4 l5 l6 l7 l8 l9 l10 l11 (Nat.le_trans (Nat.add_le_add_left (Nat.le_add_left _ _) _) hz) fun l3 l4 l5 l6 l7 l8 l9 l10 l11 => ?_
  refine Exists.intro [blk,some (repB c1),some (.lst (l1.map repB ++ ls0)),some (repS a),l4,l5,l6,l7,l8,l9,l10,l11] (And.intro rfl (m2 blk _ l4 l5 l6 l7 l8 l9 l10 l11 _ (by rw [List.length_append,List.length_map,Nat.add_comm l1.length,Nat.add_assoc,Nat.add_comm l1.length]; exact hz) fun l4 l5 l6 l7 l8 l9 l10 l11 => ?_))
  rw [← List.append_assoc,← List.map_append]
  exact h ..
theorem ks38 {a b k:Nat} (h:max a b + 38 ≤ k) : a + 38 ≤ k ∧ b + 38 ≤ k := ⟨Nat.le_trans (Nat.add_le_add_right (Nat.le_max_left _ _) _) h,Nat.le_trans (Nat.add_le_add_right (Nat.le_max_right _ _) _) h⟩
theorem kp38 {a k:Nat} (h:a + 1 + 38 ≤ k) : ∃ j,k = j + 1 ∧ a + 38 ≤ j := by
  cases k with
  | zero => exact absurd h (by rw [Nat.add_right_comm]; exact Nat.not_succ_le_zero _)
  | succ k => exact ⟨k,rfl,Nat.le_of_succ_le_succ (by rw [Nat.add_right_comm] at h; exact h)⟩
theorem kz {a k:Nat} (h:a + 38 ≤ k) : 38 ≤ k := Nat.le_trans (Nat.le_add_left _ _) h
theorem len2 {p q r n:Nat} (h:p + (q + r) ≤ n) : q ≤ n ∧ r ≤ n := ⟨Nat.le_trans (Nat.le_trans (Nat.le_add_right q r) (Nat.le_add_left _ p)) h,Nat.le_trans (Nat.le_trans (Nat.le_add_left r q) (Nat.le_add_left _ p)) h⟩
theorem gSl {p:List Sm} (h:(gSs p && decide (p.length ≤ 1000)) = true) : gSs p = true ∧ p.length ≤ 1000 := ⟨(an h).1,of_decide_eq_true (an h).2⟩
theorem bf_ok (P:Prog1 B) {J:Job} {c c1:BT} {ls:List BT} (h:Bf J c c1 ls) : gB c = true → BfOK B c c1 ls J := by
  induction h with
  | nil => exact fun hc _ => ⟨fun k σ hk => .nil,hc,no_mem⟩
  | cons b1 b2 ih1 ih2 =>
    intro hc hg
    obtain ⟨m1,g1,n1⟩ := ih1 hc (an hg).2
    obtain ⟨m2,g2,n2⟩ := ih2 g1 (an hg).1
    exact ⟨fun k σ hk => .cons (m1 k σ (ks38 hk).2) (m2 k σ (ks38 hk).1),g2,fun x hx => (List.mem_append.mp hx).elim (n2 x) (n1 x)⟩
  | skip => exact fun hc _ => ⟨fun k σ _ => one_skip _,hc,no_mem⟩
  | set hd => exact fun hc hg => ⟨fun k σ hk => one_set P hg (gB_plain hc) hd (kz hk),gB_sb (Rp.subI (an hg).1 (an hg).2) hc,no_mem⟩
  | put hd => exact fun hc hg => ⟨fun k σ hk => one_put P hg (gB_plain hc) hd (kz hk),gB_sb (Rp.subA (gS_put hg).1 (gS_put hg).2) hc,no_mem⟩
  | asrt => exact fun hc hg => ⟨fun k σ _ => one_asrt,gB_and hg hc,no_mem⟩
  | ite b1 b2 ih1 ih2 =>
    intro hc hg
    have gp := gSl (an (an hg).1).2
    have gq := gSl (an hg).2
    have g0 := (an (an hg).1).1
    obtain ⟨m1,g1,n1⟩ := ih1 hc gp.1
    obtain ⟨m2,g2,n2⟩ := ih2 hc gq.1
    refine ⟨fun k σ hk => ?_,gB_and (gB_implies g0 g1) (gB_implies (gB_not g0) g2),fun x hx => (List.mem_append.mp hx).elim (n1 x) (n2 x)⟩
    obtain ⟨k,rfl,hk'⟩ := kp38 hk
    intro blk ls0 l4 l5 l6 l7 l8 l9 l10 l11 T hz h
    have hz' := hz
    rw [List.length_append] at hz'
    exact one_ite ((m1 k σ (ks38 hk').1).call P (len2 hz').1 gp.2) ((m2 k σ (ks38 hk').2).call P (len2 hz').2 gq.2) blk ls0 l4 l5 l6 l7 l8 l9 l10 l11 T hz h
  | whl b1 ih1 =>
    intro hc hg
    have gp := gSl (an hg).2
    have g0 := (an (an hg).1).1
    have gk := (an (an hg).1).2
    obtain ⟨m1,g1,n1⟩ := ih1 gk gp.1
    refine ⟨fun k σ hk => ?_,gk,fun x hx => ?_⟩
    · obtain ⟨k,rfl,hk'⟩ := kp38 hk
      intro blk ls0 l4 l5 l6 l7 l8 l9 l10 l11 T hz h
      have hz' := hz
      rw [List.length_append] at hz'
      exact one_whl ((m1 k σ hk').call P (len2 hz').2 gp.2) blk ls0 l4 l5 l6 l7 l8 l9 l10 l11 T hz h
    · cases hx with
      | head => exact gB_implies (gB_and gk g0) g1
      | tail _ hx => cases hx with
        | head => exact gB_implies (gB_and gk (gB_not g0)) hc
        | tail _ hx => exact n1 x hx
variable {k:Nat} {σ:Store}
theorem c_12 (P:Prog1 B) {b:List Sm} {c c1:BT} {ls:List BT} (h:Bf (.blk b) c c1 ls) (hc:gB c = true) (hg:gSs b = true) (hk:nSs b + 38 ≤ k) (hz:ls.length ≤ 1000) (hb:b.length ≤ 1000) : CallP B (k + 1) 12 [.lst (repSs b),repB c] σ (.tup [repB c1,.lst (ls.map repB)]) := ((bf_ok P h hc hg).1 k σ hk).call P hz hb
theorem c_before (P:Prog1 B) {b:List Sm} {c c1:BT} {ls:List BT} (h:Bf (.blk b) c c1 ls) (hc:gB c = true) (hg:gSs b = true) (hk:nSs b + 38 ≤ k) (hz:ls.length ≤ 1000) (hb:b.length ≤ 1000) : CallP B (k + 2) 13 [.lst (repSs b),repB c] σ (repB c1) := by
  refine callB P (by decide) (by kernel_rfl) ok13 tr13 ⟨rfl,rfl⟩ rfl ?_
  rw [nx13]
  exact st_ret (to_c1 rfl (c_12 P h hc hg hk hz hb)) ⟨rfl,rfl⟩
theorem c_conditions (P:Prog1 B) {b:List Sm} {f c c1:BT} {ls:List BT} (h:Bf (.blk b) c c1 ls) (hc:gB c = true) (hg:gSs b = true) (hk:nSs b + 38 ≤ k) (hz:ls.length ≤ 1000) (hb:b.length ≤ 1000) : CallP B (k + 2) 14 [repB f,.lst (repSs b),repB c] σ (.lst ((.implies f c1 :: ls).map repB)) := by
  refine callB P (by decide) (by kernel_rfl) ok14 tr14 ⟨rfl,rfl⟩ rfl ?_
  rw [nx14]
  refine st_unp (to_c1 rfl (c_12 P h hc hg hk hz hb)) rfl (st_ret (to_cat (to_pure rfl) (to_var rfl) ?_) ⟨rfl,rfl⟩)
  rw [List.length_map]; exact Nat.le_trans (Nat.add_le_add_left hz 1) (by decide)
end
section
noncomputable def howV : How → List Nat
  | .done => [100,111,110,101]
  | .failed => [102,97,105,108,101,100]
  | .more => [109,111,114,101]
theorem howV_done {h:How} (e:h ≠ .done) : howV h ≠ howV .done := by cases h <;> first | exact absurd rfl e | decide
mutual
noncomputable def dOK : Sm → Bool
  | .skip => true
  | .set x e => (x == kx || x == ky) && decide (dI e ≤ 8)
  | .put a i e => a == ka && decide (dI i ≤ 8) && decide (dI e ≤ 8)
  | .asrt c => okB c && decide (dB c ≤ 8)
  | .ite c p q => okB c && decide (dB c ≤ 8) && (dOKs p && decide (p.length ≤ 1000)) && (dOKs q && decide (q.length ≤ 1000))
  | .whl c _ p => okB c && decide (dB c ≤ 8) && (dOKs p && decide (p.length ≤ 1000))
noncomputable def dOKs : List Sm → Bool
  | [] => true
  | a :: r => dOK a && dOKs r
end
theorem frz1_repI (σ:Store) (t:IT) : frz1 σ (repI t) = repI t := by cases t <;> rfl
theorem frz1_repA (σ:Store) (t:AT) : frz1 σ (repA t) = repA t := by cases t <;> rfl
theorem frz1_repB (σ:Store) (t:BT) : frz1 σ (repB t) = repB t := by cases t <;> rfl
theorem frz1_str (σ:Store) (t:List Nat) : frz1 σ (.str t) = .str t := rfl
theorem frz1_int (σ:Store) (t:Int) : frz1 σ (.int t) = .int t := rfl
theorem frz1_tup (σ:Store) (t:List V) : frz1 σ (.tup t) = .tup t := rfl
theorem frz2 (σ:Store) {t:List Nat} {x y:V} (hx:frz1 σ x = x) (hy:frz1 σ y = y) : frzV σ (.tup [.str t,x,y]) = .tup [.str t,x,y] := by
  show V.tup [.str t,frz1 σ x,frz1 σ y] = _
  rw [hx,hy]
theorem frzI (σ:Store) {t:List Nat} {x:V} (hx:frz1 σ x = x) : frzV σ (.tup [.str t,x]) = .tup [.str t,x] := by
  show V.tup [.str t,frz1 σ x] = _
  rw [hx]
theorem frzV_repI (σ:Store) (t:IT) : frzV σ (repI t) = repI t := by
  cases t with
  | num i => rfl
  | var x => rfl
  | add a b => exact frz2 σ (frz1_repI σ a) (frz1_repI σ b)
  | sub a b => exact frz2 σ (frz1_repI σ a) (frz1_repI σ b)
  | at_ a b => exact frz2 σ (frz1_repA σ a) (frz1_repI σ b)
  | size a => exact frzI σ (frz1_repA σ a)
theorem frzV_repB (σ:Store) (t:BT) : frzV σ (repB t) = repB t := by
  cases t with
  | tru => rfl
  | less a b => exact frz2 σ (frz1_repI σ a) (frz1_repI σ b)
  | equal a b => exact frz2 σ (frz1_repI σ a) (frz1_repI σ b)
  | not a => exact frzI σ (frz1_repB σ a)
  | and a b => exact frz2 σ (frz1_repB σ a) (frz1_repB σ b)
  | or a b => exact frz2 σ (frz1_repB σ a) (frz1_repB σ b)
  | implies a b => exact frz2 σ (frz1_repB σ a) (frz1_repB σ b)
  | all lo n body =>
    show V.tup [.str [97,108,108],.str kK,frz1 σ (repI lo),.tup [.str [97,100,100],repI lo,.tup [.str [110,117,109],.int n]],frz1 σ (repB body)] = _
    rw [frz1_repI,frz1_repB]; rfl
noncomputable def SN (an aa:Nat) (σ:Store) (s:St) : Store := (aa,.d (arV s)) :: (an,.d (nsV s)) :: σ
structure Fr (an aa:Nat) (σ:Store) : Prop where
  ne : an ≠ aa
  n : ∀ m,(an,m) ∉ σ
  a : ∀ m,(aa,m) ∉ σ
theorem put_out {σ:Store} {a:Nat} {y:MO} (h:∀ m,(a,m) ∉ σ) : Store.put σ a y = σ := by
  induction σ with
  | nil => rfl
  | cons p r ih =>
    obtain ⟨b,n⟩ := p
    unfold Store.put at ih ⊢
    rw [List.map_cons,if_neg (fun e:b = a => h n (by rw [e]; exact .head _)),ih fun m hm => h m (.tail _ hm)]
section
variable {B:B0} {k:Nat} {an aa:Nat} {σ:Store} {s:St}
theorem SN_n (f:Fr an aa σ) : (SN an aa σ s).lookup an = some (.d (nsV s)) := by
  show ((aa,MO.d (arV s)) :: (an,.d (nsV s)) :: σ).lookup an = _
  rw [List.lookup_cons,beq_eq_false_iff_ne.mpr f.ne]
  exact lookup_head
theorem SN_a : (SN an aa σ s).lookup aa = some (.d (arV s)) := lookup_head
theorem SN_putN (f:Fr an aa σ) (x:List (List Nat × V)) : (SN an aa σ s).put an (.d x) = (aa,.d (arV s)) :: (an,.d x) :: σ := by
  show (if aa = an then (an,.d x) else (aa,.d (arV s))) :: (if an = an then (an,.d x) else (an,.d (nsV s))) :: Store.put σ an (.d x) = _
  rw [if_neg (Ne.symm f.ne),if_pos rfl,put_out f.n]
theorem SN_putA (f:Fr an aa σ) (x:List (List Nat × V)) : (SN an aa σ s).put aa (.d x) = (aa,.d x) :: (an,.d (nsV s)) :: σ := by
  show (if aa = aa then (aa,.d x) else (aa,.d (arV s))) :: (if an = aa then (aa,.d x) else (an,.d (nsV s))) :: Store.put σ aa (.d x) = _
  rw [if_neg f.ne,if_pos rfl,put_out f.a]
theorem frz_ref {σ:Store} {a:Addr} {kvs:List (List Nat × V)} (h:σ.lookup a = some (.d kvs)) : frzV σ (.ref a) = .sd kvs := by
  show (match σ.lookup a with | some (.l xs) => V.lst xs | some (.d kvs) => .sd kvs | _ => .ref a) = _
  rw [h]
theorem do_V {t d:V} (f:Fr an aa σ) (e:frzV (SN an aa σ s) t = t) (hs:safeV (SN an aa σ s) d = true) (h:ValP B k t s d) : CallP B k 4 [t,.ref an,.ref aa] (SN an aa σ s) d := by
  refine CallP.thaw ?_ hs
  show CallP B k 4 [frzV (SN an aa σ s) t,frzV (SN an aa σ s) (.ref an),frzV (SN an aa σ s) (.ref aa)] [] d
  rw [e,frz_ref (SN_n f),frz_ref SN_a]
  exact h []
theorem do_I (P:Prog1 B) (f:Fr an aa σ) (hi:Inv s) {t:IT} (hd:dI t ≤ 8) (hk:9 ≤ k) : CallP B k 4 [repI t,.ref an,.ref aa] (SN an aa σ s) (.int (evI s t)) := by
  obtain ⟨k,rfl⟩ := k1 hk
  exact do_V f (frzV_repI _ t) rfl (val_I P hi.ok t k (Nat.le_trans hd (sk hk)))
theorem do_B (P:Prog1 B) (f:Fr an aa σ) (hi:Inv s) {t:BT} (ho:okB t = true) (hd:dB t ≤ 8) (hk:9 ≤ k) : CallP B k 4 [repB t,.ref an,.ref aa] (SN an aa σ s) (.bool (evB s t)) := by
  obtain ⟨k,rfl⟩ := k1 hk
  exact do_V f (frzV_repB _ t) rfl (val_B P t ho (Nat.le_trans hd (sk hk)) (hi.ok.weak (Nat.le_trans hd (by decide))))
noncomputable def body10 : CS :=
  (.asg 5 (.lit (.str [100,111,110,101])) (.iff (.cmp .eq (.idx (.var 4) (.lit (.int 0))) (.lit (.str [115,101,116]))) (.sto (.var 1) (.idx (.var 4) (.lit (.int 1))) (.call 4 (.cons (.idx (.var 4) (.lit (.int 2))) (.cons (.var 1) (.cons (.var 2) .nil)))) .nil) (.iff (.cmp .eq (.idx (.var 4) (.lit (.int 0))) (.lit (.str [112,117,116]))) (.asg 6 (.call 4 (.cons (.idx (.var 4) (.lit (.int 2))) (.cons (.var 1) (.cons (.var 2) .nil)))) (.sto (.var 2) (.idx (.var 4) (.lit (.int 1))) (.call 2 (.cons (.get (.var 2) (.idx (.var 4) (.lit (.int 1))) (.lst .nil)) (.cons (.var 6) (.cons (.call 4 (.cons (.idx (.var 4) (.lit (.int 3))) (.cons (.var 1) (.cons (.var 2) .nil)))) .nil)))) .nil)) (.iff (.cmp .eq (.idx (.var 4) (.lit (.int 0))) (.lit (.str [97,115,115,101,114,116]))) (.iff (.not (.call 4 (.cons (.idx (.var 4) (.lit (.int 1))) (.cons (.var 1) (.cons (.var 2) .nil))))) (.ret (.tup (.cons (.lit (.str [102,97,105,108,101,100])) (.cons (.var 3) .nil)))) .nil .nil) (.iff (.cmp .eq (.idx (.var 4) (.lit (.int 0))) (.lit (.str [105,102]))) (.iff (.call 4 (.cons (.idx (.var 4) (.lit (.int 1))) (.cons (.var 1) (.cons (.var 2) .nil)))) (.unpC [5,3] 10 (.cons (.idx (.var 4) (.lit (.int 2))) (.cons (.var 1) (.cons (.var 2) (.cons (.var 3) .nil)))) .nil) (.unpC [5,3] 10 (.cons (.idx (.var 4) (.lit (.int 3))) (.cons (.var 1) (.cons (.var 2) (.cons (.var 3) .nil)))) .nil) .nil) (.iff (.cmp .eq (.idx (.var 4) (.lit (.int 0))) (.lit (.str [119,104,105,108,101]))) (.whl (.and (.cmp .eq (.var 5) (.lit (.str [100,111,110,101]))) (.call 4 (.cons (.idx (.var 4) (.lit (.int 1))) (.cons (.var 1) (.cons (.var 2) .nil))))) (.iff (.cmp .eq (.var 3) (.lit (.int 0))) (.ret (.tup (.cons (.lit (.str [109,111,114,101])) (.cons (.lit (.int 0)) .nil)))) .nil (.unpC [5,3] 10 (.cons (.idx (.var 4) (.lit (.int 3))) (.cons (.var 1) (.cons (.var 2) (.cons (.bin .sub (.var 3) (.lit (.int 1))) .nil)))) .nil)) .nil) .nil .nil) .nil) .nil) .nil) (.iff (.cmp .ne (.var 5) (.lit (.str [100,111,110,101]))) (.ret (.tup (.cons (.var 5) (.cons (.var 3) .nil)))) .nil .nil)))
noncomputable abbrev fin10 : CS := .iff (.cmp .ne (.var 5) (.lit (.str [100,111,110,101]))) (.ret (.tup (.cons (.var 5) (.cons (.var 3) .nil)))) .nil .nil
theorem fin_ok {l0 l1 l2 l4 l6:Option V} {l:V} {h:How} {Q:Out → Store → Prop} (h1:h = .done → Q (.next [l0,l1,l2,some l,l4,some (.str (howV h)),l6]) σ) (h2:h ≠ .done → Q (.ret (.tup [.str (howV h),l])) σ) : stW B k fin10 [l0,l1,l2,some l,l4,some (.str (howV h)),l6] σ Q := by
  cases h with
  | done => exact goS (n := 2) rfl (h1 rfl)
  | failed => exact goP (n := 1) rfl rfl (h2 (nomatch ·))
  | more => exact goP (n := 1) rfl rfl (h2 (nomatch ·))
noncomputable def OneX (B:B0) (k:Nat) (an aa:Nat) (σ:Store) (a:Sm) (s:St) (l:Nat) (h:How) (s1:St) (l1:Nat) : Prop :=
  ∀ (blk l5 l6:Option V) (T:Out → Store → Prop),
    (h = .done → ∀ l6,T (.next [blk,some (.ref an),some (.ref aa),some (.int l1),some (repS a),some (.str (howV .done)),l6]) (SN an aa σ s1)) →
    (h ≠ .done → T (.ret (.tup [.str (howV h),.int l1])) (SN an aa σ s1)) →
    stW B k body10 [blk,some (.ref an),some (.ref aa),some (.int l),some (repS a),l5,l6] (SN an aa σ s) T
noncomputable def BlkX (B:B0) (k:Nat) (an aa:Nat) (σ:Store) (b:List Sm) (s:St) (l:Nat) (h:How) (s1:St) (l1:Nat) : Prop :=
  ∀ (blk l4 l5 l6:Option V),forW [4] (stW B k body10) (stW B k (.ret (.tup (.cons (.lit (.str [100,111,110,101])) (.cons (.var 3) .nil))))) (RetQ fun d σ' => d = .tup [.str (howV h),.int l1] ∧ σ' = SN an aa σ s1) (repSs b)
    [blk,some (.ref an),some (.ref aa),some (.int l),l4,l5,l6] (SN an aa σ s)
theorem BlkX.call (P:Prog1 B) {b:List Sm} {l:Nat} {h:How} {s1:St} {l1:Nat} (hx:BlkX B k an aa σ b s l h s1 l1) (hb:b.length ≤ 1000) : CallM B (k + 1) 10 [.lst (repSs b),.ref an,.ref aa,.int l] (SN an aa σ s) (fun d σ' => d = .tup [.str (howV h),.int l1] ∧ σ' = SN an aa σ s1) := by
  refine callB P (by decide) (by kernel_rfl) ok10 tr10 ⟨rfl,rfl⟩ rfl ?_
  rw [nx10]
  exact st_seq (to_var rfl) rfl (by rw [repSs_length]; exact hb) (hx _ _ _ _)
theorem fin_done {l0 l1 l2 l4 l6:Option V} {l:V} {Q:Out → Store → Prop} (h:Q (.next [l0,l1,l2,some l,l4,some (.str (howV .done)),l6]) σ) : stW B k fin10 [l0,l1,l2,some l,l4,some (.str (howV .done)),l6] σ Q := fin_ok (h := .done) (fun _ => h) fun e => absurd rfl e
theorem x_skip {l:Nat} : OneX B k an aa σ .skip s l .done s l := fun blk l5 l6 T h1 _ => goS (n := 11) rfl (fin_done (h1 rfl _))
theorem x_set (P:Prog1 B) (f:Fr an aa σ) (hi:Inv s) {l:Nat} {x:List Nat} {e:IT} (hd:dI e ≤ 8) (hk:9 ≤ k) : OneX B k an aa σ (.set x e) s l .done (s.setI x (evI s e)) l := by
  intro blk l5 l6 T h1 _
  refine goS (n := 2) rfl (st_stoD (to_c1 rfl (do_I P f hi hd hk)) (to_var rfl) (to_pure rfl) (SN_n f) (by rw [nsV,List.length_map]; exact Nat.le_trans hi.ln (by decide)) ?_)
  rw [SN_putN f,nsV_setI]
  exact fin_done (h1 rfl _)
theorem x_put (P:Prog1 B) (f:Fr an aa σ) (hi:Inv s) {l:Nat} {x:List Nat} {i e:IT} (hd:dI i ≤ 8) (hd2:dI e ≤ 8) (hk:9 ≤ k) : OneX B k an aa σ (.put x i e) s l .done (putS s x i e) l := by
  intro blk l5 l6 T h1 _
  refine go (n := 4) (rs := [.int (evI s i)]) (o := [⟨4,[repI i,.ref an,.ref aa],.int (evI s i)⟩]) rfl ⟨do_I P f hi hd hk,trivial⟩ ?_
  have hv := do_I P f hi hd2 hk
  have hc : CallP B k 2 [.lst ((s.getA x).map V.int),.int (evI s i),.int (evI s e)] (SN an aa σ s) (.lst ((setC (s.getA x) (evI s i) (evI s e)).map V.int)) := by
    obtain ⟨k,rfl⟩ := k1 hk
    rw [← setC_map]
    exact c_store P _ _ _ (by rw [List.length_map]; exact Nat.le_trans (getA_len hi.len x) (by decide))
  refine st_stoD (to_call (to_cons (fun Q q => to_getR (d := .lst []) (to_var rfl) SN_a (to_pure rfl) (to_pure rfl) Q (by rw [getA_V]; exact q)) (to_cons (to_var rfl) (to_cons (to_c1 rfl hv) to_nil))) hc) (to_var rfl) (to_pure rfl) SN_a (by rw [arV,List.length_map]; exact Nat.le_trans hi.la (by decide)) ?_
  rw [SN_putA f,show V.lst ((setC (s.getA x) (evI s i) (evI s e)).map V.int) = arV1 (setC (s.getA x) (evI s i) (evI s e)) from rfl,arV_setA]
  exact fin_done (h1 rfl _)
theorem x_asT (P:Prog1 B) (f:Fr an aa σ) (hi:Inv s) {l:Nat} {c:BT} (ho:okB c = true) (hd:dB c ≤ 8) (hk:9 ≤ k) (hc:evB s c = true) : OneX B k an aa σ (.asrt c) s l .done s l := by
  intro blk l5 l6 T h1 _
  have hb := do_B P f hi ho hd hk
  rw [hc] at hb
  exact go (n := 9) (rs := [.bool true]) (o := [⟨4,[repB c,.ref an,.ref aa],.bool true⟩]) rfl ⟨hb,trivial⟩ (fin_done (h1 rfl _))
theorem x_asF (P:Prog1 B) (f:Fr an aa σ) (hi:Inv s) {l:Nat} {c:BT} (ho:okB c = true) (hd:dB c ≤ 8) (hk:9 ≤ k) (hc:evB s c = false) : OneX B k an aa σ (.asrt c) s l .failed s l := by
  intro blk l5 l6 T _ h2
  have hb := do_B P f hi ho hd hk
  rw [hc] at hb
  exact goE (n := 5) (rs := [.bool false]) (o := [⟨4,[repB c,.ref an,.ref aa],.bool false⟩]) rfl ⟨hb,trivial⟩ (to_pure rfl) (h2 (nomatch ·))
theorem x_ite (P:Prog1 B) (f:Fr an aa σ) (hi:Inv s) {l:Nat} {c:BT} {p q:List Sm} {h:How} {s1:St} {l1:Nat} (ho:okB c = true) (hd:dB c ≤ 8) (hk:9 ≤ k)
    (hT:evB s c = true → CallM B k 10 [.lst (repSs p),.ref an,.ref aa,.int l] (SN an aa σ s) (fun d σ' => d = .tup [.str (howV h),.int l1] ∧ σ' = SN an aa σ s1))
    (hF:evB s c = false → CallM B k 10 [.lst (repSs q),.ref an,.ref aa,.int l] (SN an aa σ s) (fun d σ' => d = .tup [.str (howV h),.int l1] ∧ σ' = SN an aa σ s1)) : OneX B k an aa σ (.ite c p q) s l h s1 l1 := by
  intro blk l5 l6 T h1 h2
  have fin : stW B k fin10 [blk,some (.ref an),some (.ref aa),some (.int l1),some (repS (.ite c p q)),some (.str (howV h)),l6] (SN an aa σ s1) T := fin_ok (fun e => by rw [e]; exact h1 e _) h2
  refine goS (n := 5) rfl (st_if (tv_c1 rfl (do_B P f hi ho hd hk)) (fun e => ?_) fun e => ?_)
  · exact st_unpC (to_evs (rs := []) (o := []) rfl trivial) (hT e) rfl fin
  · exact st_unpC (to_evs (rs := []) (o := []) rfl trivial) (hF e) rfl fin
end
end
noncomputable abbrev wT10 : CE := .and (.cmp .eq (.var 5) (.lit (.str [100,111,110,101]))) (.call 4 (.cons (.idx (.var 4) (.lit (.int 1))) (.cons (.var 1) (.cons (.var 2) .nil))))
noncomputable abbrev wB10 : CS := .iff (.cmp .eq (.var 3) (.lit (.int 0))) (.ret (.tup (.cons (.lit (.str [109,111,114,101])) (.cons (.lit (.int 0)) .nil)))) .nil (.unpC [5,3] 10 (.cons (.idx (.var 4) (.lit (.int 3))) (.cons (.var 1) (.cons (.var 2) (.cons (.bin .sub (.var 3) (.lit (.int 1))) .nil)))) .nil)
section
variable {B:B0} {k:Nat} {an aa:Nat} {σ:Store} {s:St}
noncomputable def LpX (B:B0) (k:Nat) (an aa:Nat) (σ:Store) (c:BT) (p:List Sm) (s:St) (l:Nat) (h:How) (s1:St) (l1:Nat) : Prop :=
  ∀ (kept:BT) (blk l6:Option V) (T:Out → Store → Prop),
    T (.next [blk,some (.ref an),some (.ref aa),some (.int l1),some (repS (.whl c kept p)),some (.str (howV h)),l6]) (SN an aa σ s1) →
    (h ≠ .done → T (.ret (.tup [.str (howV h),.int l1])) (SN an aa σ s1)) →
    ∃ n,whlW (fun L σ R => tvW B k σ wT10 L R) (stW B k wB10) (stW B k .nil) T n [blk,some (.ref an),some (.ref aa),some (.int l),some (repS (.whl c kept p)),some (.str (howV .done)),l6] (SN an aa σ s)
theorem wt_ok (P:Prog1 B) (f:Fr an aa σ) (hi:Inv s) {c kept:BT} {p:List Sm} {b:Bool} {blk l3 l6:Option V} (ho:okB c = true) (hd:dB c ≤ 8) (hk:9 ≤ k) (hb:evB s c = b) :
    TvTo B k (SN an aa σ s) [blk,some (.ref an),some (.ref aa),l3,some (repS (.whl c kept p)),some (.str (howV .done)),l6] wT10 b := by
  have h := do_B P f hi ho hd hk
  rw [hb] at h
  exact tv_c1 rfl h
theorem wt_no {h:How} (hh:h ≠ .done) {c kept:BT} {p:List Sm} {blk l3 l6:Option V} : TvTo B k (SN an aa σ s) [blk,some (.ref an),some (.ref aa),l3,some (repS (.whl c kept p)),some (.str (howV h)),l6] wT10 false := by
  cases h with
  | done => exact absurd rfl hh
  | failed => exact tv_pure rfl
  | more => exact tv_pure rfl
theorem pred1 (l:Nat) : (((l + 1 : Nat) : Int) - 1) = (l:Int) := by rw [Int.natCast_add]; exact Int.add_sub_cancel _ _
theorem wb_ok {c kept:BT} {p:List Sm} {blk l6:Option V} {l:Nat} {h:How} {s1:St} {l1:Nat} {T:Out → Store → Prop} (hc:CallM B k 10 [.lst (repSs p),.ref an,.ref aa,.int l] (SN an aa σ s) (fun d σ' => d = .tup [.str (howV h),.int l1] ∧ σ' = SN an aa σ s1))
    (hT:T (.next [blk,some (.ref an),some (.ref aa),some (.int l1),some (repS (.whl c kept p)),some (.str (howV h)),l6]) (SN an aa σ s1)) :
    stW B k wB10 [blk,some (.ref an),some (.ref aa),some (.int (l + 1 : Nat)),some (repS (.whl c kept p)),some (.str (howV .done)),l6] (SN an aa σ s) T := by
  refine goS (n := 2) rfl (st_unpC (vs := [.lst (repSs p),.ref an,.ref aa,.int l]) (to_cons (to_pure rfl) (to_cons (to_var rfl) (to_cons (to_var rfl) (to_cons (fun Q q => to_sub (to_var rfl) to_lit Q ?_) to_nil)))) hc rfl hT)
  rw [pred1]
  exact q
theorem lp_F (P:Prog1 B) (f:Fr an aa σ) (hi:Inv s) {c:BT} {p:List Sm} {l:Nat} (ho:okB c = true) (hd:dB c ≤ 8) (hk:9 ≤ k) (hc:evB s c = false) : LpX B k an aa σ c p s l .done s l :=
  fun kept blk l6 T h1 _ => ⟨1,wt_ok P f hi ho hd hk hc _ ⟨fun e => noB e,fun _ => h1⟩⟩
theorem lp_0 (P:Prog1 B) (f:Fr an aa σ) (hi:Inv s) {c:BT} {p:List Sm} (ho:okB c = true) (hd:dB c ≤ 8) (hk:9 ≤ k) (hc:evB s c = true) : LpX B k an aa σ c p s 0 .more s 0 :=
  fun kept blk l6 T _ h2 => ⟨1,wt_ok P f hi ho hd hk hc _ ⟨fun _ => goP (n := 1) rfl rfl (h2 (nomatch ·)),fun e => noB e.symm⟩⟩
theorem lp_D (P:Prog1 B) (f:Fr an aa σ) (hi:Inv s) {c:BT} {p:List Sm} {l:Nat} {h:How} {s1 s2:St} {l1 l2:Nat} (ho:okB c = true) (hd:dB c ≤ 8) (hk:9 ≤ k) (hc:evB s c = true)
    (hp:CallM B k 10 [.lst (repSs p),.ref an,.ref aa,.int l] (SN an aa σ s) (fun d σ' => d = .tup [.str (howV .done),.int l1] ∧ σ' = SN an aa σ s1)) (hr:LpX B k an aa σ c p s1 l1 h s2 l2) : LpX B k an aa σ c p s (l + 1) h s2 l2 := by
  intro kept blk l6 T h1 h2
  obtain ⟨n,hn⟩ := hr kept blk l6 T h1 h2
  exact ⟨n + 1,wt_ok P f hi ho hd hk hc _ ⟨fun _ => wb_ok hp hn,fun e => noB e.symm⟩⟩
theorem lp_X (P:Prog1 B) (f:Fr an aa σ) (hi:Inv s) {c:BT} {p:List Sm} {l:Nat} {h:How} {s1:St} {l1:Nat} (ho:okB c = true) (hd:dB c ≤ 8) (hk:9 ≤ k) (hc:evB s c = true) (hh:h ≠ .done)
    (hp:CallM B k 10 [.lst (repSs p),.ref an,.ref aa,.int l] (SN an aa σ s) (fun d σ' => d = .tup [.str (howV h),.int l1] ∧ σ' = SN an aa σ s1)) : LpX B k an aa σ c p s (l + 1) h s1 l1 :=
  fun kept blk l6 T h1 h2 => ⟨2,wt_ok P f hi ho hd hk hc _ ⟨fun _ => wb_ok hp (wt_no hh _ ⟨fun e => noB e,fun _ => h1⟩),fun e => noB e.symm⟩⟩
theorem x_whl {c kept:BT} {p:List Sm} {l:Nat} {h:How} {s1:St} {l1:Nat} (hx:LpX B k an aa σ c p s l h s1 l1) : OneX B k an aa σ (.whl c kept p) s l h s1 l1 :=
  fun blk l5 l6 T h1 h2 => goS (n := 6) rfl (hx kept blk l6 _ (fin_ok (σ := SN an aa σ s1) (h := h) (fun e => by rw [e]; exact h1 e _) h2) h2)
noncomputable def ExOK (B:B0) (an aa:Nat) (σ:Store) (s:St) (l:Nat) (h:How) (s1:St) (l1:Nat) : Job → Prop
  | .blk b => dOKs b = true → (∀ k,nSs b + 9 ≤ k → BlkX B k an aa σ b s l h s1 l1) ∧ Inv s1
  | .one a => dOK a = true → (∀ k,nS a + 9 ≤ k → OneX B k an aa σ a s l h s1 l1) ∧ Inv s1
  | .lp c p => (okB c = true ∧ dB c ≤ 8) → (dOKs p && decide (p.length ≤ 1000)) = true → (∀ k,nSs p + 1 + 9 ≤ k → LpX B k an aa σ c p s l h s1 l1) ∧ Inv s1
theorem kz9 {a k:Nat} (h:a + 9 ≤ k) : 9 ≤ k := Nat.le_trans (Nat.le_add_left _ _) h
theorem ks9 {a b k:Nat} (h:max a b + 9 ≤ k) : a + 9 ≤ k ∧ b + 9 ≤ k := ⟨Nat.le_trans (Nat.add_le_add_right (Nat.le_max_left _ _) _) h,Nat.le_trans (Nat.add_le_add_right (Nat.le_max_right _ _) _) h⟩
theorem kp9 {a k:Nat} (h:a + 1 + 9 ≤ k) : ∃ j,k = j + 1 ∧ a + 9 ≤ j := by
  cases k with
  | zero => exact absurd h (by rw [Nat.add_right_comm]; exact Nat.not_succ_le_zero _)
  | succ k => exact ⟨k,rfl,Nat.le_of_succ_le_succ (by rw [Nat.add_right_comm] at h; exact h)⟩
theorem dOl {p:List Sm} (h:(dOKs p && decide (p.length ≤ 1000)) = true) : dOKs p = true ∧ p.length ≤ 1000 := ⟨(an h).1,of_decide_eq_true (an h).2⟩
theorem dOc {c:BT} (h:(okB c && decide (dB c ≤ 8)) = true) : okB c = true ∧ dB c ≤ 8 := ⟨(an h).1,of_decide_eq_true (an h).2⟩
end
section
variable {B:B0} {k:Nat} {n a:Nat} {σ:Store} {s:St}
theorem x_consD {x:Sm} {r:List Sm} {l:Nat} {h:How} {s1 s2:St} {l1 l2:Nat} (m1:OneX B k n a σ x s l .done s1 l1) (m2:BlkX B k n a σ r s1 l1 h s2 l2) : BlkX B k n a σ (x :: r) s l h s2 l2 :=
  fun blk l4 l5 l6 => Exists.intro [blk,some (.ref n),some (.ref a),some (.int l),some (repS x),l5,l6] (And.intro rfl (m1 blk l5 l6 _ (fun _ l6 => m2 ..) fun e => absurd rfl e))
theorem x_consX {x:Sm} {r:List Sm} {l:Nat} {h:How} {s1:St} {l1:Nat} (m1:OneX B k n a σ x s l h s1 l1) (hh:h ≠ .done) : BlkX B k n a σ (x :: r) s l h s1 l1 :=
  fun blk l4 l5 l6 => Exists.intro [blk,some (.ref n),some (.ref a),some (.int l),some (repS x),l5,l6] (And.intro rfl (m1 blk l5 l6 _ (fun e => absurd e hh) fun _ => ⟨rfl,rfl⟩))
theorem do_ok (P:Prog1 B) (f:Fr n a σ) {J:Job} {l:Nat} {h:How} {s1:St} {l1:Nat} (hx:Ex J s l h s1 l1) : Inv s → ExOK B n a σ s l h s1 l1 J := by
  induction hx with
  | nil => exact fun hi _ => ⟨fun k hk blk l4 l5 l6 => st_ret (to_pure rfl) ⟨rfl,rfl⟩,hi⟩
  | consD _ _ ih1 ih2 =>
    intro hi hd
    obtain ⟨m1,i1⟩ := ih1 hi (an hd).1
    obtain ⟨m2,i2⟩ := ih2 i1 (an hd).2
    exact ⟨fun k hk => x_consD (m1 k (ks9 hk).1) (m2 k (ks9 hk).2),i2⟩
  | consX _ hh ih1 =>
    intro hi hd
    obtain ⟨m1,i1⟩ := ih1 hi (an hd).1
    exact ⟨fun k hk => x_consX (m1 k (ks9 hk).1) hh,i1⟩
  | skip => exact fun hi _ => ⟨fun k hk => x_skip,hi⟩
  | set => exact fun hi hd => ⟨fun k hk => x_set P f hi (of_decide_eq_true (an hd).2) (kz9 hk),hi.setI ((Bool.or_eq_true_iff.mp (an hd).1).imp eq_of_beq eq_of_beq) _⟩
  | put => exact fun hi hd => ⟨fun k hk => x_put P f hi (of_decide_eq_true (an (an hd).1).2) (of_decide_eq_true (an hd).2) (kz9 hk),hi.setA (.inl (eq_of_beq (an (an hd).1).1)) (by rw [setC_length]; exact getA_len hi.len _)⟩
  | asT hc => exact fun hi hd => ⟨fun k hk => x_asT P f hi (dOc hd).1 (dOc hd).2 (kz9 hk) hc,hi⟩
  | asF hc => exact fun hi hd => ⟨fun k hk => x_asF P f hi (dOc hd).1 (dOc hd).2 (kz9 hk) hc,hi⟩
  | iteT hc _ ih =>
    intro hi hd
    have hp := dOl (an (an hd).1).2
    have h0 := dOc (an (an hd).1).1
    obtain ⟨m1,i1⟩ := ih hi hp.1
    refine ⟨fun k hk => ?_,i1⟩
    obtain ⟨k,rfl,hk'⟩ := kp9 hk
    exact x_ite P f hi h0.1 h0.2 (kz9 hk) (fun _ => (m1 k (ks9 hk').1).call P hp.2) fun e => by rw [hc] at e; exact noB e.symm
  | iteF hc _ ih =>
    intro hi hd
    have hp := dOl (an hd).2
    have h0 := dOc (an (an hd).1).1
    obtain ⟨m1,i1⟩ := ih hi hp.1
    refine ⟨fun k hk => ?_,i1⟩
    obtain ⟨k,rfl,hk'⟩ := kp9 hk
    exact x_ite P f hi h0.1 h0.2 (kz9 hk) (fun e => by rw [hc] at e; exact noB e) fun _ => (m1 k (ks9 hk').2).call P hp.2
  | whl _ ih =>
    intro hi hd
    obtain ⟨m1,i1⟩ := ih hi (dOc (an hd).1) (an hd).2
    exact ⟨fun k hk => x_whl (m1 k hk),i1⟩
  | lpF hc => exact fun hi h0 hd => ⟨fun k hk => lp_F P f hi h0.1 h0.2 (kz9 hk) hc,hi⟩
  | lp0 hc => exact fun hi h0 hd => ⟨fun k hk => lp_0 P f hi h0.1 h0.2 (kz9 hk) hc,hi⟩
  | lpD hc _ _ ih1 ih2 =>
    intro hi h0 hd
    obtain ⟨m1,i1⟩ := ih1 hi (dOl hd).1
    obtain ⟨m2,i2⟩ := ih2 i1 h0 hd
    refine ⟨fun k hk => ?_,i2⟩
    obtain ⟨k,rfl,hk'⟩ := kp9 hk
    exact lp_D P f hi h0.1 h0.2 (kz9 hk) hc ((m1 k hk').call P (dOl hd).2) (m2 (k + 1) hk)
  | lpX hc _ hh ih1 =>
    intro hi h0 hd
    obtain ⟨m1,i1⟩ := ih1 hi (dOl hd).1
    refine ⟨fun k hk => ?_,i1⟩
    obtain ⟨k,rfl,hk'⟩ := kp9 hk
    exact lp_X P f hi h0.1 h0.2 (kz9 hk) hc hh ((m1 k hk').call P (dOl hd).2)
end
noncomputable def endV (s:St) : V := .tup [.lst (itemsV (sortKV (nsV s))),.lst (itemsV (sortKV (arV s)))]
noncomputable def runV (h:How) (s:St) : V := if h = .more then .tup [.str (howV .more),.none] else .tup [.str (howV h),endV s]
section
variable {B:B0} {k:Nat} {σ:Store}
theorem ref_d {a:Addr} {kvs:List (List Nat × V)} (h:σ.lookup a = some (.d kvs)) : dictOfV σ (.ref a) = some kvs := by
  show (match σ.lookup a with | some (.d kvs) => some kvs | _ => none) = some kvs
  rw [h]
theorem to_sortR {L:Lc} {e:CE} {a:Addr} {kvs:List (List Nat × V)} (h:EvTo B k σ L e (.ref a)) (hs:σ.lookup a = some (.d kvs)) (hz:kvs.length ≤ 2) : EvTo B k σ L (.prim .sortedItems (.cons e .nil)) (.lst (itemsV (sortKV kvs))) := to_prim (to_cons h to_nil) fun Q q => by
  show optW (dictOfV σ (.ref a)) fun kvs => kvs.length ≤ 2 ∧ Q (.lst (itemsV (sortKV kvs)))
  rw [ref_d hs]
  exact ⟨hz,q⟩
theorem to_cp {L:Lc} {e:CE} {xs:List V} (h:EvTo B k σ L e (.lst xs)) : EvTo B k σ L (.sl e (.lit .none) (.lit .none)) (.lst xs) := fun Q q => to_sl h to_lit to_lit rfl rfl Q (by rw [pick_all]; exact q)
noncomputable abbrev end11 : CS := .iff (.cmp .eq (.var 7) (.lit (.str [109,111,114,101]))) (.ret (.tup (.cons (.lit (.str [109,111,114,101])) (.cons (.lit .none) .nil)))) .nil (.ret (.tup (.cons (.var 7) (.cons (.tup (.cons (.prim .sortedItems (.cons (.var 3) .nil)) (.cons (.prim .sortedItems (.cons (.var 4) .nil)) .nil))) .nil))))
theorem end_more {an aa:Nat} {s1:St} {L:Lc} (h:L[7]? = some (some (.str (howV .more)))) : stW B k end11 L (SN an aa σ s1) (RetQ fun d σ' => ∃ τ,σ' = τ ++ σ ∧ frzV τ d = runV .more s1) :=
  st_yes (fun Q q => tv_eqs (to_var h) to_lit Q q) (st_ret (to_pure rfl) ⟨[(aa,.d (arV s1)),(an,.d (nsV s1))],rfl,rfl⟩)
theorem end_sort {an aa:Nat} {s1:St} {L:Lc} {h:How} (f:Fr an aa σ) (i1:Inv s1) (e7:L[7]? = some (some (.str (howV h)))) (e3:L[3]? = some (some (.ref an))) (e4:L[4]? = some (some (.ref aa))) (hq:(howV h == howV .more) = false) (hr:runV h s1 = .tup [.str (howV h),endV s1]) :
    stW B k end11 L (SN an aa σ s1) (RetQ fun d σ' => ∃ τ,σ' = τ ++ σ ∧ frzV τ d = runV h s1) := by
  refine st_no (fun Q q => tv_eqs (to_var e7) to_lit Q ?_) (st_ret (to_tup (to_cons (to_var e7) (to_cons (to_tup (to_cons (to_sortR (to_var e3) (SN_n f) ?_) (to_cons (to_sortR (to_var e4) SN_a ?_) to_nil)) (Nat.le_of_ble_eq_true rfl)) to_nil)) (Nat.le_of_ble_eq_true rfl)) ⟨[(aa,.d (arV s1)),(an,.d (nsV s1))],rfl,?_⟩)
  · rw [show ([109,111,114,101] : List Nat) = howV .more from rfl,hq]; exact q
  · rw [nsV,List.length_map]; exact i1.ln
  · rw [arV,List.length_map]; exact i1.la
  · rw [hr]; rfl
theorem end_ok {an aa:Nat} {s1:St} {L:Lc} {h:How} (f:Fr an aa σ) (i1:Inv s1) (e7:L[7]? = some (some (.str (howV h)))) (e3:L[3]? = some (some (.ref an))) (e4:L[4]? = some (some (.ref aa))) : stW B k end11 L (SN an aa σ s1) (RetQ fun d σ' => ∃ τ,σ' = τ ++ σ ∧ frzV τ d = runV h s1) := by
  cases h with
  | more => exact end_more e7
  | done => exact end_sort f i1 e7 e3 e4 (by decide) rfl
  | failed => exact end_sort f i1 e7 e3 e4 (by decide) rfl
theorem copy_ok {R:StF} {T:Out → Store → Prop} {l0 l1 l2 l3 l7 l8:Option V} {aa:Nat} (haa:∀ m,(aa,m) ∉ σ) (post:List (List Nat × List Int)) : ∀ (pre:List (List Nat × V)) (l5 l6:Option V),(keysOf pre ++ post.map (·.1)).Nodup → pre.length + post.length ≤ 1000 →
    (∀ l5 l6,R [l0,l1,l2,l3,some (.ref aa),l5,l6,l7,l8] ((aa,.d (pre ++ post.map fun p => (p.1,arV1 p.2))) :: σ) T) →
    forW [5,6] (stW B k (.sto (.var 4) (.var 5) (.sl (.var 6) (.lit .none) (.lit .none)) .nil)) R T (itemsV (post.map fun p => (p.1,arV1 p.2))) [l0,l1,l2,l3,some (.ref aa),l5,l6,l7,l8] ((aa,.d pre) :: σ) := by
  induction post with
  | nil => intro pre l5 l6 _ _ h; rw [List.map_nil,List.append_nil] at h; exact h l5 l6
  | cons p post ih =>
    intro pre l5 l6 hn hz h
    rw [List.map_cons] at hn h
    refine Exists.intro [l0,l1,l2,l3,some (.ref aa),some (.str p.1),some (arV1 p.2),l7,l8] (And.intro rfl (st_stoD (to_cp (to_var rfl)) (to_var rfl) (to_var rfl) lookup_head (Nat.le_trans (Nat.le_add_right _ _) hz) ?_))
    rw [put_head haa,upd_new fun hm => (List.nodup_append.mp hn).2.2 p.1 hm p.1 (.head _) rfl]
    refine ih (pre ++ [(p.1,arV1 p.2)]) _ _ ?_ ?_ fun l5 l6 => ?_
    · rw [keysOf,List.map_append,List.append_assoc]; exact hn
    · rw [List.length_append,Nat.add_assoc,Nat.add_comm _ post.length]; exact hz
    · rw [List.append_assoc]; exact h l5 l6
theorem c_run (P:Prog1 B) {b:List Sm} {s s1:St} {l l1:Nat} {h:How} (hx:Ex (.blk b) s l h s1 l1) (hi:Inv s) (hd:dOKs b = true) (hb:b.length ≤ 1000) (hk:nSs b + 9 ≤ k) : CallP B (k + 2) 11 [.lst (repSs b),stV s,.int l] σ (runV h s1) := by
  refine CallP_of_frz (callB P (by decide) (by kernel_rfl) ok11 tr11 ⟨rfl,rfl⟩ rfl ?_)
  rw [nx11]
  refine st_asgC (vs := [.lst (itemsV (nsV s))]) (to_evs (rs := []) (o := []) rfl trivial) (c_dictM P (nsV s) (by rw [nsV,List.length_map]; exact Nat.le_trans hi.ln (by decide))) fun d σ' he => ?_
  obtain ⟨an,ha,rfl,rfl⟩ := he
  rw [putAll_new _ _ (by rw [List.nil_append,keys_nsV]; exact hi.kn),List.nil_append]
  refine st_newD fun aa haa => st_seq (x := .lst (itemsV (arV s))) (to_pure rfl) rfl (by rw [itemsV,List.length_map,arV,List.length_map]; exact Nat.le_trans hi.la (by decide)) ?_
  have f : Fr an aa σ := ⟨fun e => haa (.d (nsV s)) (by rw [e]; exact .head _),ha,fun m hm => haa m (.tail _ hm)⟩
  obtain ⟨m1,i1⟩ := do_ok P f hx hi hd
  exact copy_ok haa s.ar [] none none hi.kna (by rw [List.length_nil,Nat.zero_add]; exact Nat.le_trans hi.la (by decide)) fun l5 l6 => st_unpC (to_evs (rs := []) (o := []) rfl trivial) ((m1 k hk).call P hb) rfl (end_ok f i1 rfl rfl rfl)
end
noncomputable def mixV (w:Lw) : V := .tup [.int w.m,.int w.n]
noncomputable def sV (s:St) : V := .tup [.sd (nsV s),.sd (arV s)]
structure WOK (w:Lw) : Prop where
  lo : 0 ≤ w.n
  hi : w.n ≤ 3
theorem getC_ed (a:List Int) (x:Int) : (if 0 ≤ x then ((a.map V.int)[x.toNat]?).getD (.int 0) else .int 0) = .int (getC a x) := by
  unfold getC
  by_cases h : 0 ≤ x
  · rw [if_pos h,List.getElem?_map]
    by_cases h2 : x < a.length
    · rw [if_pos ⟨h,h2⟩,List.getD_eq_getElem?_getD]
      cases a[x.toNat]? <;> rfl
    · rw [if_neg fun q => h2 q.2,List.getElem?_eq_none ((Int.le_toNat h).mpr (Int.not_lt.mp h2))]
      rfl
  · rw [if_neg h,if_neg fun q => h q.1]
noncomputable def allK (f:Int → Bool) (i:Int) : Nat → Bool
  | 0 => true
  | m + 1 => f i && allK f (i + 1) m
theorem allK_eq (f:Int → Bool) (m:Nat) : ∀ i : Int,allK f i m = (List.range m).all fun j => f (i + j) := by
  induction m with
  | zero => exact fun i => rfl
  | succ m ih =>
    intro i
    rw [List.range_succ_eq_map,List.all_cons,List.all_map]
    show (f i && allK f (i + 1) m) = _
    rw [ih]
    refine c2 (· && ·) (congrArg f (Int.add_zero i).symm) (congrArg (List.range m).all (funext fun j => congrArg f ?_))
    show i + 1 + (j:Int) = i + ((j + 1 : Nat) : Int)
    rw [Int.natCast_add,Int.add_assoc,Int.add_comm 1]; rfl
section
variable {B:B0} {k:Nat} {σ:Store} {L:Lc} {a b:CE}
theorem to_getI {s:St} {x:List Nat} (h:EvTo B k σ L a (.sd (nsV s))) : EvTo B k σ L (.get a (.lit (.str x)) (.lit (.int 0))) (.int (s.getI x)) := fun Q q => to_get h to_lit to_lit Q (by rw [getI_V]; exact q)
theorem to_getA {s:St} {x:List Nat} (h:EvTo B k σ L a (.sd (arV s))) : EvTo B k σ L (.get a (.lit (.str x)) (.lst .nil)) (arV1 (s.getA x)) := fun Q q => to_get h to_lit (to_lst to_nil (Nat.zero_le _)) Q (by rw [getA_V]; exact q)
theorem to_getC {xs:List Int} {x:Int} (h1:EvTo B k σ L a (arV1 xs)) (hz:xs.length ≤ 1000) (h2:EvTo B k σ L b (.int x)) : EvTo B k σ L (.get (.prim .dictE (.cons a .nil)) b (.lit (.int 0))) (.int (getC xs x)) := fun Q q => by
  refine h1 _ ⟨by rw [List.length_map]; exact hz,rfl,h2 _ ?_⟩
  show Q (if 0 ≤ x then ((xs.map V.int)[x.toNat]?).getD (.int 0) else .int 0)
  rw [getC_ed]
  exact q
theorem to_four {s:St} {w:Lw} (h1:L[1]? = some (some (mixV w))) (h2:L[2]? = some (some (sV s))) : EvTo B k σ L (.tup (.cons (.get (.idx (.var 2) (.lit (.int 0))) (.lit (.str kx)) (.lit (.int 0))) (.cons (.get (.idx (.var 2) (.lit (.int 0))) (.lit (.str ky)) (.lit (.int 0))) (.cons (.get (.idx (.var 2) (.lit (.int 1))) (.lit (.str ka)) (.lst .nil)) (.cons (.idx (.var 1) (.lit (.int 1))) .nil))))) (.tup [.int (s.getI kx),.int (s.getI ky),arV1 (s.getA ka),.int w.n]) :=
  have e0 : EvTo B k σ L (.idx (.var 2) (.lit (.int 0))) (.sd (nsV s)) := to_idx (to_var h2) to_lit rfl (by decide) rfl
  to_tup (to_cons (to_getI e0) (to_cons (to_getI e0) (to_cons (to_getA (to_idx (to_var h2) to_lit rfl (by decide) rfl)) (to_cons (to_idx (to_var h1) to_lit rfl (by decide) rfl) to_nil)))) (Nat.le_of_ble_eq_true rfl)
theorem c_lawT (P:Prog1 B) {w:Lw} {s:St} (hi:Inv s) (u:Int) : CallP B (k + 1) 16 [.int u,mixV w,sV s] σ (.tup [repI (lawT w u),.int (evI s (lawT w u))]) := by
  refine callB P (by decide) (by kernel_rfl) ok16 tr16 ⟨rfl,rfl⟩ rfl ?_
  rw [nx16]
  have hl : (s.getA ka).length ≤ 1000 := Nat.le_trans (getA_len hi.len ka) (by decide)
  refine st_unp (to_four rfl rfl) rfl (goS (n := 1) (L := [some (.int u),some (mixV w),some (sV s),some (.int (s.getI kx)),some (.int (s.getI ky)),some (arV1 (s.getA ka)),some (.int w.n),none,none,none,none,none]) (L' := [some (.int u),some (mixV w),some (sV s),some (.int (s.getI kx)),some (.int (s.getI ky)),some (arV1 (s.getA ka)),some (.int w.n),some (repI (.var kx)),some (repI (.var ky)),some (repA (.arr ka)),some (repI (.num w.n)),none]) rfl (st_asg (d := .lst [.tup [repI (.var kx),.int (s.getI kx)],.tup [repI (.var ky),.int (s.getI ky)],.tup [repI (.num w.n),.int w.n],.tup [repI (.size (.arr ka)),.int ((s.getA ka).map V.int).length],.tup [repI (.add (.var kx) (.num w.n)),.int (s.getI kx + w.n)],.tup [repI (.sub (.var ky) (.var kx)),.int (s.getI ky - s.getI kx)],.tup [repI (.at_ (.arr ka) (.var kx)),.int (getC (s.getA ka) (s.getI kx))]]) (to_lst (to_cons (to_pure rfl) (to_cons (to_pure rfl) (to_cons (to_pure rfl) (to_cons (to_pure rfl) (to_cons (to_pure rfl) (to_cons (to_pure rfl) (to_cons (to_tup (to_cons (to_pure rfl) (to_cons (to_getC (to_var rfl) hl (to_var rfl)) to_nil)) (Nat.le_of_ble_eq_true rfl)) to_nil))))))) (Nat.le_of_ble_eq_true rfl)) ?_))
  rw [List.length_map]
  exact st_ret (to_idx (to_var rfl) (to_mod (i := u + w.m) (to_pure rfl) to_lit (by decide)) rfl (Int.emod_nonneg _ (by decide)) (lawT_pick (fun t => V.tup [repI t,.int (evI s t)]) w u)) ⟨rfl,rfl⟩
theorem evB_lawK (w:Lw) (s:St) (u j:Int) : evB (s.setI kK j) (lawK w u) = decide (j + getC (s.getA ka) j < evI s (lawT w u)) := by
  show decide ((s.setI kK j).getI kK + getC ((s.setI kK j).getA ka) ((s.setI kK j).getI kK) < evI (s.setI kK j) (lawT w u)) = _
  rw [fqI_ok _ (fq_lawT w u),getI_setI,if_pos rfl]; rfl
theorem tv_gei {i j:Int} (h1:EvTo B k σ L a (.int i)) (h2:EvTo B k σ L b (.int j)) : TvTo B k σ L (.cmp .ge a b) (decide (j ≤ i)) := fun Q hq => h1 _ (h2 _ ⟨_,rfl,hq⟩)
theorem loop17 {R:StF} {T:Out → Store → Prop} {l0 l1 l2 l3 l5 l6 l8 l9 l10 l11 l12 l13 l14 l15 l18:Option V} {t:Int} {xs:List Int} (hz:xs.length ≤ 1000) (m:Nat) : ∀ (i:Int) (each:Bool) (l17:Option V),
    (∀ l17,R [l0,l1,l2,l3,some (.int t),l5,l6,some (arV1 xs),l8,l9,l10,l11,l12,l13,l14,l15,some (.bool (each && allK (fun j => decide (j + getC xs j < t)) i m)),l17,l18] σ T) →
    forW [17] (stW B k (.iff (.cmp .ge (.bin .add (.var 17) (.get (.prim .dictE (.cons (.var 7) .nil)) (.var 17) (.lit (.int 0)))) (.var 4)) (.asg 16 (.lit (.bool false)) .nil) .nil .nil)) R T (rangeV i m)
      [l0,l1,l2,l3,some (.int t),l5,l6,some (arV1 xs),l8,l9,l10,l11,l12,l13,l14,l15,some (.bool each),l17,l18] σ := by
  induction m with
  | zero => intro i each l17 h; have h := h l17; rw [show (each && allK (fun j => decide (j + getC xs j < t)) i 0) = each from Bool.and_true _] at h; exact h
  | succ m ih =>
    intro i each l17 h
    refine Exists.intro [l0,l1,l2,l3,some (.int t),l5,l6,some (arV1 xs),l8,l9,l10,l11,l12,l13,l14,l15,some (.bool each),some (.int i),l18] (And.intro rfl (st_if (tv_gei (to_add (to_var rfl) (to_getC (to_var rfl) hz (to_var rfl))) (to_var rfl)) (fun e => ?_) fun e => ?_))
    · refine st_asg to_lit (ih (i + 1) false (some (.int i)) fun l17 => ?_)
      have h := h l17
      rw [show (each && allK (fun j => decide (j + getC xs j < t)) i (m + 1)) = (each && (decide (i + getC xs i < t) && allK (fun j => decide (j + getC xs j < t)) (i + 1) m)) from rfl,decide_eq_false (Int.not_lt.mpr (of_decide_eq_true e)),Bool.false_and,Bool.and_false] at h
      exact h
    · refine ih (i + 1) each (some (.int i)) fun l17 => ?_
      have h := h l17
      rw [show (each && allK (fun j => decide (j + getC xs j < t)) i (m + 1)) = (each && (decide (i + getC xs i < t) && allK (fun j => decide (j + getC xs j < t)) (i + 1) m)) from rfl,decide_eq_true (Int.not_le.mp (of_decide_eq_false e)),Bool.true_and] at h
      exact h
theorem c_lawC (P:Prog1 B) {w:Lw} (hw:WOK w) {s:St} (hi:Inv s) (u:Int) : CallP B (k + 2) 17 [.int u,mixV w,sV s] σ (.tup [repB (lawC w u),.bool (evB s (lawC w u))]) := by
  refine callB P (by decide) (by kernel_rfl) ok17 tr17 ⟨rfl,rfl⟩ rfl ?_
  rw [nx17]
  have hl : (s.getA ka).length ≤ 1000 := Nat.le_trans (getA_len hi.len ka) (by decide)
  have hn : s.getI kx + w.n - s.getI kx = w.n := by rw [Int.add_comm,Int.add_sub_cancel]
  refine st_unp (to_c1 rfl (c_lawT (k := k) (σ := σ) P (w := w) hi u)) rfl (st_unp (L := [some (.int u),some (mixV w),some (sV s),some (repI (lawT w u)),some (.int (evI s (lawT w u))),none,none,none,none,none,none,none,none,none,none,none,none,none,none]) (to_four rfl rfl) rfl (goS (n := 5) (L := [some (.int u),some (mixV w),some (sV s),some (repI (lawT w u)),some (.int (evI s (lawT w u))),some (.int (s.getI kx)),some (.int (s.getI ky)),some (arV1 (s.getA ka)),some (.int w.n),none,none,none,none,none,none,none,none,none,none]) (L' := [some (.int u),some (mixV w),some (sV s),some (repI (lawT w u)),some (.int (evI s (lawT w u))),some (.int (s.getI kx)),some (.int (s.getI ky)),some (arV1 (s.getA ka)),some (.int w.n),some (repI (.var kx)),some (repI (.var kK)),some (repB (lawL w u)),some (.bool (decide (evI s (lawT w u) < s.getI ky))),some (repB (lawE w u)),some (.bool (s.getI kx == evI s (lawT w u))),some (repB (lawK w u)),some (.bool true),none,none]) rfl (st_range2 (to_var rfl) (to_pure rfl) (by rw [hn]; exact Int.le_trans hw.hi (by decide)) ?_)))
  rw [hn]
  refine loop17 hl w.n.toNat (s.getI kx) true none fun l17 => ?_
  rw [Bool.true_and,allK_eq,show ((List.range w.n.toNat).all fun j => decide (s.getI kx + (j:Int) + getC (s.getA ka) (s.getI kx + j) < evI s (lawT w u))) = evB s (.all (.var kx) w.n (lawK w u)) from congrArg (List.range w.n.toNat).all (funext fun j => (evB_lawK w s u _).symm)]
  refine st_asg (d := .lst [.tup [repB .tru,.bool true],.tup [repB (lawL w u),.bool (decide (evI s (lawT w u) < s.getI ky))],.tup [repB (lawE w u),.bool (s.getI kx == evI s (lawT w u))],.tup [repB (.not (lawL w u)),.bool (!decide (evI s (lawT w u) < s.getI ky))],.tup [repB (.and (lawL w u) (lawE w u)),.bool (decide (evI s (lawT w u) < s.getI ky) && s.getI kx == evI s (lawT w u))],.tup [repB (.or (lawL w u) (lawE w u)),.bool (decide (evI s (lawT w u) < s.getI ky) || s.getI kx == evI s (lawT w u))],.tup [repB (.implies (lawE w u) (lawL w u)),.bool (!(s.getI kx == evI s (lawT w u)) || decide (evI s (lawT w u) < s.getI ky))],.tup [repB (.all (.var kx) w.n (lawK w u)),.bool (evB s (.all (.var kx) w.n (lawK w u)))]])
    (to_lst (to_cons (to_pure rfl) (to_cons (to_pure rfl) (to_cons (to_pure rfl) (to_cons (to_pure rfl) (to_cons (to_tup (to_cons (to_pure rfl) (to_cons (to_and (to_var rfl) (to_var rfl)) to_nil)) (Nat.le_of_ble_eq_true rfl)) (to_cons (to_tup (to_cons (to_pure rfl) (to_cons (to_or (to_var rfl) (to_var rfl)) to_nil)) (Nat.le_of_ble_eq_true rfl)) (to_cons (to_tup (to_cons (to_pure rfl) (to_cons (to_or (to_pure rfl) (to_var rfl)) to_nil)) (Nat.le_of_ble_eq_true rfl)) (to_cons (to_pure rfl) to_nil)))))))) (Nat.le_of_ble_eq_true rfl)) ?_
  exact st_ret (to_idx (to_var rfl) (to_mod (to_var rfl) to_lit (by decide)) rfl (Int.emod_nonneg _ (by decide)) (lawC_pick (fun c => V.tup [repB c,.bool (evB s c)]) w u)) ⟨rfl,rfl⟩
end
noncomputable def putC (x v:Int) : Int → List Int → List Int
  | _,[] => []
  | i,y :: ys => (if i = x then v else y) :: putC x v (i + 1) ys
theorem putC_lt {x v:Int} (a:List Int) : ∀ {i:Int},x < i → putC x v i a = a := by
  induction a with
  | nil => exact fun _ => rfl
  | cons y ys ih =>
    intro i h
    show (if i = x then v else y) :: putC x v (i + 1) ys = _
    rw [if_neg (Int.ne_of_gt h),ih (Int.lt_trans h (Int.lt_succ i))]
theorem putC_at {v:Int} (a:List Int) : ∀ (n:Nat) (i:Int),putC (i + n) v i a = a.set n v := by
  induction a with
  | nil => exact fun _ _ => rfl
  | cons y ys ih =>
    intro n i
    show (if i = i + (n:Int) then v else y) :: putC (i + n) v (i + 1) ys = _
    cases n with
    | zero => rw [show i + ((0:Nat) : Int) = i from Int.add_zero i,if_pos rfl,putC_lt ys (Int.lt_succ i)]; rfl
    | succ n => rw [if_neg (by omega),show i + ((n + 1 : Nat) : Int) = i + 1 + n by omega,ih n (i + 1)]; rfl
theorem putC_setC (x v:Int) (a:List Int) : putC x v 0 a = setC a x v := by
  unfold setC
  by_cases h : 0 ≤ x
  · obtain ⟨n,rfl⟩ := Int.eq_ofNat_of_zero_le h
    have e := putC_at (v := v) a n 0
    rw [Int.zero_add] at e
    rw [e]
    by_cases h2 : (n:Int) < a.length
    · rw [if_pos ⟨h,h2⟩]; rfl
    · rw [if_neg fun q => h2 q.2,List.set_eq_of_length_le (Int.ofNat_le.mp (Int.not_lt.mp h2))]
  · rw [if_neg fun q => h q.1,putC_lt a (Int.not_le.mp h)]
theorem pairsOf_items (kvs:List (List Nat × V)) (x:List Nat) (v:V) : pairsOf (itemsV kvs ++ [.tup [.str x,v]]) = some (kvs ++ [(x,v)]) := by
  induction kvs with
  | nil => rfl
  | cons p r ih =>
    show (match some (p.1,p.2),pairsOf (itemsV r ++ [.tup [.str x,v]]) with | some p,some ps => some (p :: ps) | _,_ => none) = _
    rw [ih]
    rfl
theorem putAll_snoc {kvs:List (List Nat × V)} (x:List Nat) (v:V) (hn:(keysOf kvs).Nodup) : putAll [] (kvs ++ [(x,v)]) = upd kvs x v := by
  have h := putAll_new kvs [] (by rw [List.nil_append]; exact hn)
  unfold putAll at h ⊢
  rw [List.foldl_append,h]
  rfl
section
variable {B:B0} {k:Nat} {σ:Store} {L:Lc} {a b t:CE}
theorem to_items {kvs:List (List Nat × V)} (h:EvTo B k σ L a (.sd kvs)) (hz:kvs.length ≤ 1000) : EvTo B k σ L (.prim .listItems (.cons a .nil)) (.lst (itemsV kvs)) := to_prim (to_cons h to_nil) fun Q q => ⟨hz,q⟩
theorem to_add1 {kvs:List (List Nat × V)} {x:List Nat} {v:V} (h1:EvTo B k σ L a (.sd kvs)) (h2:EvTo B k σ L b v) (hn:(keysOf kvs).Nodup) (hz:kvs.length ≤ 900) :
    EvTo B k σ L (.prim .dict (.cons (.bin .add (.prim .listItems (.cons a .nil)) (.lst (.cons (.tup (.cons (.lit (.str x)) (.cons b .nil))) .nil))) .nil)) (.sd (upd kvs x v)) := by
  have hl : (itemsV kvs).length + 1 ≤ 1000 := by rw [itemsV,List.length_map]; exact Nat.le_trans (Nat.succ_le_succ hz) (by decide)
  refine to_prim (to_cons (to_cat (to_items h1 (Nat.le_trans hz (by decide))) (to_lst (to_cons (to_tup (to_cons to_lit (to_cons h2 to_nil)) (Nat.le_of_ble_eq_true rfl)) to_nil) (Nat.le_of_ble_eq_true rfl)) (Nat.le_trans hl (by decide))) to_nil) fun Q q => ?_
  show (match pairsOf (itemsV kvs ++ [.tup [.str x,v]]) with | some ps => (itemsV kvs ++ [V.tup [.str x,v]]).length ≤ 1000 ∧ Q (.sd (putAll [] ps)) | none => False)
  rw [pairsOf_items]
  refine ⟨by rw [List.length_append]; exact hl,?_⟩
  rw [putAll_snoc x v hn]
  exact q
theorem to_ite {p:Bool} {d:V} (h:TvTo B k σ L t p) (h1:p = true → EvTo B k σ L a d) (h2:p = false → EvTo B k σ L b d) : EvTo B k σ L (.ite t a b) d := fun Q q => h _ ⟨fun e => h1 e _ q,fun e => h2 e _ q⟩
theorem to_compE {x:V} {xs:List V} {n0 cnt:Nat} {tg:List Nat} {Q:V → Prop} (h:EvTo B k σ L a x) (hs:seqV x = some xs) (t:compW (evW B k σ b) tg (newL0 n0 cnt L) (enumV 0 xs) [] Q) : evW B k σ (.comp n0 cnt .enum (.cons a .nil) tg b) L Q := by
  refine h _ ?_
  show optW (seqV x) fun xs => _
  rw [hs]
  exact t
theorem comp_put {l0 l1 l2 l3 l4 l5 l7 l8 l10 l11:Option V} {x v:Int} (a:List Int) : ∀ (i:Int) (acc:List V) (Q:V → Prop),Q (.lst (acc ++ (putC x v i a).map V.int)) →
    compW (evW B k σ (.ite (.cmp .eq (.var 12) (.var 9)) (.var 6) (.var 13))) [12,13] [l0,l1,l2,l3,l4,l5,some (.int v),l7,l8,some (.int x),l10,l11,none,none] (enumV i (a.map V.int)) acc Q := by
  induction a with
  | nil => intro i acc Q q; rw [show (putC x v i []).map V.int = [] from rfl,List.append_nil] at q; exact q
  | cons y ys ih =>
    intro i acc Q q
    refine Exists.intro [l0,l1,l2,l3,l4,l5,some (.int v),l7,l8,some (.int x),l10,l11,some (.int i),some (.int y)] (And.intro rfl (to_ite (d := .int (if i = x then v else y)) (p := i == x) (tv_pure rfl) (fun e => ?_) (fun e => ?_) _ (ih (i + 1) _ Q ?_)))
    · rw [if_pos (eq_of_beq e)]; exact to_var rfl
    · rw [if_neg (beq_eq_false_iff_ne.mp e)]; exact to_var rfl
    · rw [List.append_assoc]; exact q
theorem c_lawS (P:Prog1 B) {w:Lw} (hw:WOK w) {s:St} (hi:Inv s) (u:Int) : CallP B (k + 3) 18 [.int u,mixV w,sV s] σ (.tup [repS (lawS w u),.bool (okS s (lawS w u)),sV (doS s (lawS w u))]) := by
  refine callB P (by decide) (by kernel_rfl) ok18 tr18 ⟨rfl,rfl⟩ rfl ?_
  rw [nx18]
  have hln : (nsV s).length ≤ 900 := by rw [nsV,List.length_map]; exact Nat.le_trans hi.ln (by decide)
  have hla : (arV s).length ≤ 900 := by rw [arV,List.length_map]; exact Nat.le_trans hi.la (by decide)
  have hkn : (keysOf (nsV s)).Nodup := by rw [keys_nsV]; exact hi.kn
  have hka : (keysOf (arV s)).Nodup := by rw [keys_arV]; exact hi.kna
  refine go (n := 3) (rs := [.tup [repI (lawT w u),.int (evI s (lawT w u))],.tup [repB (lawC w (u + w.m)),.bool (evB s (lawC w (u + w.m)))]]) (o := [⟨16,[.int u,mixV w,sV s],.tup [repI (lawT w u),.int (evI s (lawT w u))]⟩,⟨17,[.int (u + w.m),mixV w,sV s],.tup [repB (lawC w (u + w.m)),.bool (evB s (lawC w (u + w.m)))]⟩]) (L' := [some (.int u),some (mixV w),some (sV s),some (.sd (nsV s)),some (.sd (arV s)),some (repI (lawT w u)),some (.int (evI s (lawT w u))),some (repB (lawC w (u + w.m))),some (.bool (evB s (lawC w (u + w.m)))),none,none,none]) rfl ⟨c_lawT P hi u,c_lawC P hw hi (u + w.m),trivial⟩ ?_
  refine st_asg (to_getI (to_var rfl)) (st_asg (L := [some (.int u),some (mixV w),some (sV s),some (.sd (nsV s)),some (.sd (arV s)),some (repI (lawT w u)),some (.int (evI s (lawT w u))),some (repB (lawC w (u + w.m))),some (.bool (evB s (lawC w (u + w.m)))),some (.int (s.getI kx)),none,none]) (d := arV1 (setC (s.getA ka) (s.getI kx) (evI s (lawT w u)))) (fun Q q => to_compE (to_getA (to_var rfl)) rfl (comp_put (s.getA ka) 0 [] _ (by rw [putC_setC]; exact q))) ?_)
  refine st_asg (L := [some (.int u),some (mixV w),some (sV s),some (.sd (nsV s)),some (.sd (arV s)),some (repI (lawT w u)),some (.int (evI s (lawT w u))),some (repB (lawC w (u + w.m))),some (.bool (evB s (lawC w (u + w.m)))),some (.int (s.getI kx)),some (arV1 (setC (s.getA ka) (s.getI kx) (evI s (lawT w u)))),none]) (d := .lst [.tup [repS .skip,.bool true,sV s],.tup [repS (.set kx (lawT w u)),.bool true,sV (s.setI kx (evI s (lawT w u)))],.tup [repS (.set ky (lawT w u)),.bool true,sV (s.setI ky (evI s (lawT w u)))],.tup [repS (.put ka (.var kx) (lawT w u)),.bool true,sV (putS s ka (.var kx) (lawT w u))],.tup [repS (.asrt (lawC w (u + w.m))),.bool (evB s (lawC w (u + w.m))),sV s]])
    (to_lst (to_cons (to_pure rfl) (to_cons (to_tup (to_cons (to_pure rfl) (to_cons to_lit (to_cons (to_tup (to_cons (d := .sd (nsV (s.setI kx (evI s (lawT w u))))) ?_ (to_cons (to_var rfl) to_nil)) (Nat.le_of_ble_eq_true rfl)) to_nil))) (Nat.le_of_ble_eq_true rfl)) (to_cons (to_tup (to_cons (to_pure rfl) (to_cons to_lit (to_cons (to_tup (to_cons (d := .sd (nsV (s.setI ky (evI s (lawT w u))))) ?_ (to_cons (to_var rfl) to_nil)) (Nat.le_of_ble_eq_true rfl)) to_nil))) (Nat.le_of_ble_eq_true rfl))
      (to_cons (to_tup (to_cons (to_pure rfl) (to_cons to_lit (to_cons (to_tup (to_cons (to_var rfl) (to_cons (d := .sd (arV (putS s ka (.var kx) (lawT w u)))) ?_ to_nil)) (Nat.le_of_ble_eq_true rfl)) to_nil))) (Nat.le_of_ble_eq_true rfl)) (to_cons (to_pure rfl) to_nil))))) (Nat.le_of_ble_eq_true rfl)) ?_
  · rw [← nsV_setI]; exact to_add1 (to_var rfl) (to_var rfl) hkn hln
  · rw [← nsV_setI]; exact to_add1 (to_var rfl) (to_var rfl) hkn hln
  · rw [putS,← arV_setA]; exact to_add1 (to_var rfl) (to_var rfl) hka hla
  · exact st_ret (to_idx (to_var rfl) (to_mod (to_var rfl) to_lit (by decide)) rfl (Int.emod_nonneg _ (by decide)) (lawS_pick (fun a => V.tup [repS a,.bool (okS s a),sV (doS s a)]) w u)) ⟨rfl,rfl⟩
end
noncomputable def kdV : Kd → List Nat
  | .step => [115,116,101,112]
  | .loop => [108,111,111,112]
  | .fork => [102,111,114,107]
  | .goal => [103,111,97,108]
noncomputable def ndV (n:Nd) : V := .tup [.str (kdV n.kd),.int n.here,.int n.there,.int n.goal]
noncomputable def flowV (sh:Nat) : V := .tup ((flows sh).map ndV)
noncomputable def piecesL (w:Lw) : List V := (List.range 11).map fun i => .int (w.p i)
theorem flows_len (sh:Nat) : (flows sh).length = 8 := by
  match sh with
  | 0 => rfl
  | 1 => rfl
  | 2 => rfl
  | 3 => rfl
  | n + 4 => rfl
theorem flow_at (sh pc:Nat) (h:pc < 8) : ((flows sh).map ndV)[((pc:Nat) : Int).toNat]? = some (ndV (nd sh pc)) := by
  have h' : pc < (flows sh).length := by rw [flows_len]; exact h
  rw [Int.toNat_natCast,List.getElem?_map,nd,List.getElem?_eq_getElem h']
  rfl
theorem piece_at (w:Lw) (pc:Nat) (h:pc < 11) : (piecesL w)[((pc:Nat) : Int).toNat]? = some (.int (w.p pc)) := by
  rw [Int.toNat_natCast,piecesL,List.getElem?_map,List.getElem?_range h]
  rfl
theorem kd_beq (a b:Kd) : (kdV a == kdV b) = decide (a = b) := by cases a <;> cases b <;> rfl
noncomputable def body20 : CS :=
  (.iff (.cmp .eq (.var 5) (.lit (.int 7))) .brk .nil (.unp [6,7,8,9] (.idx (.var 0) (.var 5)) (.iff (.cmp .eq (.var 6) (.lit (.str [115,116,101,112]))) (.unp [10,11,3] (.call 18 (.cons (.idx (.var 1) (.var 5)) (.cons (.var 2) (.cons (.var 3) .nil)))) (.iff (.not (.var 11)) (.ret (.tup (.cons (.lit (.str [102,97,105,108,101,100])) (.cons (.var 3) .nil)))) .nil (.asg 5 (.var 7) .nil))) (.iff (.not (.idx (.call 17 (.cons (.idx (.var 1) (.var 5)) (.cons (.var 2) (.cons (.var 3) .nil)))) (.lit (.int 1)))) (.asg 5 (.var 8) .nil) (.iff (.cmp .eq (.var 6) (.lit (.str [108,111,111,112]))) (.iff (.cmp .eq (.var 4) (.lit (.int 0))) (.ret (.tup (.cons (.lit (.str [109,111,114,101])) (.cons (.var 3) .nil)))) .nil (.asg 4 (.bin .sub (.var 4) (.lit (.int 1))) .nil)) .nil (.asg 5 (.var 7) .nil)) .nil) .nil)))
section
variable {B:B0} {k:Nat} {σ:Store}
noncomputable abbrev Lw20 (sh:Nat) (w:Lw) (s:St) (l:V) (pc:Nat) (l6 l7 l8 l9 l10 l11:Option V) : Lc := [some (flowV sh),some (.lst (piecesL w)),some (mixV w),some (sV s),some l,some (.int pc),l6,l7,l8,l9,l10,l11]
noncomputable abbrev end20 : CS := .ret (.tup (.cons (.lit (.str [100,111,110,101])) (.cons (.var 3) .nil)))
noncomputable abbrev test20 : CE := .not (.idx (.call 17 (.cons (.idx (.var 1) (.var 5)) (.cons (.var 2) (.cons (.var 3) .nil)))) (.lit (.int 1)))
noncomputable def W20 (B:B0) (k:Nat) (σ:Store) (h:How) (e:St) (n:Nat) (L:Lc) : Prop := whlW (fun L σ R => tvW B k σ (.lit (.bool true)) L R) (stW B k body20) (stW B k end20) (RetQ fun d σ' => d = .tup [.str (howV h),sV e] ∧ σ' = σ) n L σ
noncomputable def T20 (B:B0) (k:Nat) (σ:Store) (h:How) (e:St) (n:Nat) : Out → Store → Prop := turnW (whlW (fun L σ R => tvW B k σ (.lit (.bool true)) L R) (stW B k body20) (stW B k end20) (RetQ fun d σ' => d = .tup [.str (howV h),sV e] ∧ σ' = σ) n) (stW B k end20) (RetQ fun d σ' => d = .tup [.str (howV h),sV e] ∧ σ' = σ)
theorem w_in {h:How} {e:St} {n:Nat} {L:Lc} (t:stW B k body20 L σ (T20 B k σ h e n)) : W20 B k σ h e (n + 1) L := ⟨true,rfl,fun _ => t,fun e => noB e.symm⟩
theorem to_at {L:Lc} {a b:CE} {x v:V} {xs:List V} {n:Nat} (h1:EvTo B k σ L a x) (h2:EvTo B k σ L b (.int n)) (hs:seqOfV σ x = some xs) (hv:xs[((n:Nat) : Int).toNat]? = some v) : EvTo B k σ L (.idx a b) v := to_idx h1 h2 hs (Int.natCast_nonneg n) hv
theorem w_open {sh:Nat} {w:Lw} {s:St} {l:V} {pc:Nat} {l6 l7 l8 l9 l10 l11:Option V} {r:CS} {T:Out → Store → Prop} (hp:pc < 7)
    (h:stW B k r (Lw20 sh w s l pc (some (.str (kdV (nd sh pc).kd))) (some (.int (nd sh pc).here)) (some (.int (nd sh pc).there)) (some (.int (nd sh pc).goal)) l10 l11) σ T) :
    stW B k (.iff (.cmp .eq (.var 5) (.lit (.int 7))) .brk .nil (.unp [6,7,8,9] (.idx (.var 0) (.var 5)) r)) (Lw20 sh w s l pc l6 l7 l8 l9 l10 l11) σ T := by
  refine st_no (fun Q q => tv_pure (p := (pc:Int) == 7) rfl Q ?_) (st_unp (to_at (to_var rfl) (to_var rfl) rfl (flow_at sh pc (Nat.lt_succ_of_lt hp))) rfl h)
  rw [show ((pc:Int) == 7) = false from beq_eq_false_iff_ne.mpr fun e => absurd (Int.ofNat.inj e) (Nat.ne_of_lt hp)]
  exact q
section
variable {sh:Nat} {w:Lw} {s e:St} {l:V} {pc:Nat} {l7 l8 l9 l10 l11:Option V} {kd:List Nat} {h:How}
theorem piece20 (hp:pc < 7) {l6:Option V} : EvsTo B k σ (Lw20 sh w s l pc l6 l7 l8 l9 l10 l11) (.cons (.idx (.var 1) (.var 5)) (.cons (.var 2) (.cons (.var 3) .nil))) [.int (w.p pc),mixV w,sV s] := to_cons (to_at (to_var rfl) (to_var rfl) rfl (piece_at w pc (Nat.lt_trans hp (by decide)))) (to_cons (to_var rfl) (to_cons (to_var rfl) to_nil))
theorem tv_idx {L:Lc} {a b:CE} {p:Bool} (h:EvTo B k σ L (.idx a b) (.bool p)) : TvTo B k σ L (.idx a b) p := fun Q q => h _ ⟨p,rfl,q⟩
theorem t17 (P:Prog1 B) (hw:WOK w) (hi:Inv s) (hp:pc < 7) {l6:Option V} {b:Bool} (hc:evB s (lawC w (w.p pc)) = b) : TvTo B (k + 3) σ (Lw20 sh w s l pc l6 l7 l8 l9 l10 l11) test20 (!b) := by
  rw [← hc]
  exact tv_not (tv_idx (to_idx (to_call (piece20 hp) (c_lawC P hw hi _)) to_lit rfl (by decide) rfl))
noncomputable abbrev rest20 : CS := .iff (.cmp .eq (.var 6) (.lit (.str [108,111,111,112]))) (.iff (.cmp .eq (.var 4) (.lit (.int 0))) (.ret (.tup (.cons (.lit (.str [109,111,114,101])) (.cons (.var 3) .nil)))) .nil (.asg 4 (.bin .sub (.var 4) (.lit (.int 1))) .nil)) .nil (.asg 5 (.var 7) .nil)
noncomputable abbrev step20 : CS := .unp [10,11,3] (.call 18 (.cons (.idx (.var 1) (.var 5)) (.cons (.var 2) (.cons (.var 3) .nil)))) (.iff (.not (.var 11)) (.ret (.tup (.cons (.lit (.str [102,97,105,108,101,100])) (.cons (.var 3) .nil)))) .nil (.asg 5 (.var 7) .nil))
noncomputable abbrev top20 : CS := .iff (.cmp .eq (.var 6) (.lit (.str [115,116,101,112]))) step20 (.iff test20 (.asg 5 (.var 8) .nil) rest20 .nil) .nil
theorem w_step {T:Out → Store → Prop} (P:Prog1 B) (hw:WOK w) (hi:Inv s) (hp:pc < 7) (hk:kd = kdV .step) (t:stW B (k + 3) (.iff (.not (.var 11)) (.ret (.tup (.cons (.lit (.str [102,97,105,108,101,100])) (.cons (.var 3) .nil)))) .nil (.asg 5 (.var 7) .nil)) (Lw20 sh w (doS s (lawS w (w.p pc))) l pc (some (.str kd)) l7 l8 l9 (some (repS (lawS w (w.p pc)))) (some (.bool (okS s (lawS w (w.p pc)))))) σ T) :
    stW B (k + 3) top20 (Lw20 sh w s l pc (some (.str kd)) l7 l8 l9 l10 l11) σ T := by
  rw [hk] at t ⊢
  refine goS (n := 1) rfl (st_unp (to_call (piece20 hp) (c_lawS P hw hi _)) rfl ?_)
  have e : thenW (stW B (k + 3) .nil) T = T := by funext o σ; cases o <;> rfl
  show stW _ _ _ _ _ (thenW (stW B (k + 3) .nil) T)
  rw [e]
  exact t
theorem w_test {T:Out → Store → Prop} (P:Prog1 B) (hw:WOK w) (hi:Inv s) (hp:pc < 7) {kk:Kd} (hk:kk ≠ .step) {b:Bool} (hc:evB s (lawC w (w.p pc)) = b) (h1:b = false → T (.next ((Lw20 sh w s l pc (some (.str (kdV kk))) l7 l8 l9 l10 l11).set 5 (some (l8.getD .none)))) σ) (hl:∃ d,l8 = some d)
    (h2:b = true → stW B (k + 3) rest20 (Lw20 sh w s l pc (some (.str (kdV kk))) l7 l8 l9 l10 l11) σ T) : stW B (k + 3) top20 (Lw20 sh w s l pc (some (.str (kdV kk))) l7 l8 l9 l10 l11) σ T := by
  obtain ⟨d,rfl⟩ := hl
  have e : ∀ T,thenW (stW B (k + 3) .nil) T = T := fun T => by funext o σ; cases o <;> rfl
  refine st_if (p := false) (fun Q q => tv_pure (p := kdV kk == kdV .step) rfl Q (by rw [kd_beq,decide_eq_false hk]; exact q)) (fun e => noB e) fun _ => ?_
  refine st_if (t17 P hw hi hp hc) (fun g => ?_) fun g => ?_
  · exact st_asg (to_var rfl) (h1 (by cases b <;> first | rfl | exact noB g))
  · rw [e,e]; exact h2 (by cases b <;> first | rfl | exact noB g.symm)
theorem w20 (P:Prog1 B) (hw:WOK w) {l:Nat} (hx:Wk sh w pc s l h e) : Inv s → Inv e ∧ ∀ l6 l7 l8 l9 l10 l11 : Option V,∃ n,W20 B (k + 3) σ h e n (Lw20 sh w s (.int l) pc l6 l7 l8 l9 l10 l11) := by
  induction hx with
  | fin => exact fun hi => ⟨hi,fun l6 l7 l8 l9 l10 l11 => ⟨1,w_in (goS (n := 1) rfl (st_ret (k := k + 3) (to_pure rfl) ⟨rfl,rfl⟩))⟩⟩
  | stepT hp hkd ok _ ih =>
    intro hi
    obtain ⟨hie,ih⟩ := ih (hi.doS w _)
    refine ⟨hie,fun l6 l7 l8 l9 l10 l11 => ?_⟩
    obtain ⟨n,hn⟩ := ih _ _ _ _ _ _
    refine ⟨n + 1,w_in (w_open hp (w_step P hw hi hp (by rw [hkd]) ?_))⟩
    rw [ok]
    exact goS (n := 3) rfl hn
  | stepF hp hkd ok =>
    intro hi
    refine ⟨hi.doS w _,fun l6 l7 l8 l9 l10 l11 => ⟨1,w_in (w_open hp (w_step P hw hi hp (by rw [hkd]) ?_))⟩⟩
    rw [ok]
    exact goP (n := 1) rfl rfl ⟨rfl,rfl⟩
  | no hp hkd hc _ ih =>
    intro hi
    obtain ⟨hie,ih⟩ := ih hi
    refine ⟨hie,fun l6 l7 l8 l9 l10 l11 => ?_⟩
    obtain ⟨n,hn⟩ := ih _ _ _ _ _ _
    exact ⟨n + 1,w_in (w_open hp (w_test P hw hi hp hkd hc (fun _ => hn) ⟨_,rfl⟩ fun e => noB e))⟩
  | fork hp hkd hc _ ih =>
    intro hi
    obtain ⟨hie,ih⟩ := ih hi
    refine ⟨hie,fun l6 l7 l8 l9 l10 l11 => ?_⟩
    obtain ⟨n,hn⟩ := ih _ _ _ _ _ _
    refine ⟨n + 1,w_in (w_open hp (w_test P hw hi hp (kd_ne hkd (nomatch ·)) hc (fun e => noB e.symm) ⟨_,rfl⟩ fun _ => ?_))⟩
    rw [hkd]
    exact goS (n := 3) rfl hn
  | lp0 hp hkd hc =>
    intro hi
    refine ⟨hi,fun l6 l7 l8 l9 l10 l11 => ⟨1,w_in (w_open hp (w_test P hw hi hp (kd_ne hkd (nomatch ·)) hc (fun e => noB e.symm) ⟨_,rfl⟩ fun _ => ?_))⟩⟩
    rw [hkd]
    exact goP (n := 2) rfl rfl ⟨rfl,rfl⟩
  | lp hp hkd hc _ ih =>
    intro hi
    obtain ⟨hie,ih⟩ := ih hi
    refine ⟨hie,fun l6 l7 l8 l9 l10 l11 => ?_⟩
    obtain ⟨n,hn⟩ := ih _ _ _ _ _ _
    refine ⟨n + 1,w_in (w_open hp (w_test P hw hi hp (kd_ne hkd (nomatch ·)) hc (fun e => noB e.symm) ⟨_,rfl⟩ fun _ => ?_))⟩
    rw [hkd]
    refine goS (n := 3) rfl (st_asg (fun Q q => to_sub (to_var rfl) to_lit Q ?_) (st_nil (st_asg (to_var rfl) hn)))
    rw [pred1]
    exact q
end
theorem c_walk (P:Prog1 B) {sh:Nat} {w:Lw} (hw:WOK w) {s e:St} {l:Nat} {h:How} (hx:Wk sh w 0 s l h e) (hi:Inv s) : CallP B (k + 4) 20 [flowV sh,.lst (piecesL w),mixV w,sV s,.int l] σ (.tup [.str (howV h),sV e]) := by
  refine callB P (by decide) (by kernel_rfl) ok20 tr20 ⟨rfl,rfl⟩ rfl ?_
  rw [nx20]
  exact st_asg to_lit ((w20 (k := k) (σ := σ) P hw hx hi).2 none none none none none none)
end
theorem nd_bound (sh pc:Nat) : (nd sh pc).here < 8 ∧ (nd sh pc).there < 8 ∧ (nd sh pc).goal < 11 := by
  have hall : ∀ n ∈ flows sh,(decide (n.here < 8) && (decide (n.there < 8) && decide (n.goal < 11))) = true := by
    refine List.all_eq_true.mp ?_
    match sh with
    | 0 => rfl
    | 1 => rfl
    | 2 => rfl
    | 3 => rfl
    | n + 4 => rfl
  unfold nd
  cases e : (flows sh)[pc]? with
  | none => exact ⟨by decide,by decide,by decide⟩
  | some n =>
    have h := hall n (List.mem_of_getElem? e)
    exact ⟨of_decide_eq_true (an h).1,of_decide_eq_true (an (an h).2).1,of_decide_eq_true (an (an h).2).2⟩
noncomputable def pathV (q:Path) : V := .tup [.int q.goal,.int q.test,.int q.pc,.bool q.out]
noncomputable def body21 : CS :=
  (.unp [6,7,8,9] (.idx (.var 0) (.var 3)) (.iff (.cmp .eq (.var 6) (.lit (.str [115,116,101,112]))) (.unp [10,11,4] (.call 18 (.cons (.idx (.var 1) (.var 3)) (.cons (.var 2) (.cons (.var 4) .nil)))) (.iff (.not (.var 11)) (.ret (.lit (.bool false))) .nil (.asg 3 (.var 7) .nil))) .nil (.iff (.cmp .eq (.var 6) (.lit (.str [102,111,114,107]))) (.asg 11 (.idx (.call 17 (.cons (.idx (.var 1) (.var 3)) (.cons (.var 2) (.cons (.var 4) .nil)))) (.lit (.int 1))) (.asg 3 (.ite (.var 11) (.var 7) (.var 8)) .nil)) .nil .nil)))
noncomputable def rest21 : CS :=
  (.ret (.idx (.call 17 (.cons (.idx (.var 1) (.idx (.idx (.var 0) (.var 3)) (.lit (.int 3)))) (.cons (.var 2) (.cons (.var 4) .nil)))) (.lit (.int 1))))
section
variable {B:B0} {k:Nat} {σ:Store}
theorem due_same {sh:Nat} {w:Lw} {n pc:Nat} {s:St} (h1:(nd sh pc).kd ≠ .step) (h2:(nd sh pc).kd ≠ .fork) : dueF sh w (n + 1) pc s = dueF sh w n pc s := by
  show (match (nd sh pc).kd with | .step => _ | .fork => _ | _ => _) = _
  cases e : (nd sh pc).kd with
  | step => exact absurd e h1
  | fork => exact absurd e h2
  | loop => rfl
  | goal => rfl
theorem bound_if {b:Bool} {m n t:Nat} (h1:m < t) (h2:n < t) : (if b then m else n) < t := by cases b <;> assumption
theorem d21 (P:Prog1 B) {sh:Nat} {w:Lw} (hw:WOK w) (n:Nat) : ∀ (pc:Nat) (s:St) (a:Int) (l5 l6 l7 l8 l9 l10 l11:Option V),pc < 8 → Inv s →
    forW [5] (stW B (k + 3) body21) (stW B (k + 3) rest21) (RetQ fun d σ' => d = .bool (dueF sh w n pc s) ∧ σ' = σ) (rangeV a n) [some (flowV sh),some (.lst (piecesL w)),some (mixV w),some (.int pc),some (sV s),l5,l6,l7,l8,l9,l10,l11] σ := by
  induction n with
  | zero => exact fun pc s a l5 l6 l7 l8 l9 l10 l11 hp hi => st_ret (to_idx (to_call (to_cons (to_at (to_var rfl) (to_idx (to_at (to_var rfl) (to_var rfl) rfl (flow_at sh pc hp)) to_lit rfl (by decide) rfl) rfl (piece_at w _ (nd_bound sh pc).2.2)) (to_cons (to_var rfl) (to_cons (to_var rfl) to_nil))) (c_lawC P hw hi _)) to_lit rfl (by decide) rfl) ⟨rfl,rfl⟩
  | succ n ih =>
    intro pc s a l5 l6 l7 l8 l9 l10 l11 hp hi
    have hb := nd_bound sh pc
    have h11 : pc < 11 := Nat.lt_trans hp (by decide)
    refine Exists.intro [some (flowV sh),some (.lst (piecesL w)),some (mixV w),some (.int pc),some (sV s),some (.int a),l6,l7,l8,l9,l10,l11] (And.intro rfl (st_unp (to_at (to_var rfl) (to_var rfl) rfl (flow_at sh pc hp)) rfl ?_))
    show stW _ _ _ [some (flowV sh),some (.lst (piecesL w)),some (mixV w),some (.int pc),some (sV s),some (.int a),some (.str (kdV (nd sh pc).kd)),some (.int (nd sh pc).here),some (.int (nd sh pc).there),some (.int (nd sh pc).goal),l10,l11] _ _
    cases hkd : (nd sh pc).kd with
    | step =>
      refine goS (n := 1) rfl (st_unp (to_call (to_cons (to_at (to_var rfl) (to_var rfl) rfl (piece_at w pc h11)) (to_cons (to_var rfl) (to_cons (to_var rfl) to_nil))) (c_lawS P hw hi _)) rfl ?_)
      rw [due_step hkd]
      cases ok : okS s (lawS w (w.p pc)) with
      | false => exact goP (n := 1) rfl rfl ⟨rfl,rfl⟩
      | true => exact goS (n := 3) rfl (st_nil (goS (n := 2) rfl (ih (nd sh pc).here (doS s (lawS w (w.p pc))) (a + 1) _ _ _ _ _ _ _ hb.1 (hi.doS w _))))
    | fork =>
      rw [due_fork hkd]
      refine goS (n := 3) rfl (st_asg (to_idx (to_call (to_cons (to_at (to_var rfl) (to_var rfl) rfl (piece_at w pc h11)) (to_cons (to_var rfl) (to_cons (to_var rfl) to_nil))) (c_lawC P hw hi _)) to_lit rfl (by decide) rfl) (st_asg (d := .int ((if evB s (lawC w (w.p pc)) then (nd sh pc).here else (nd sh pc).there : Nat) : Int)) (to_ite (p := evB s (lawC w (w.p pc))) (tv_pure rfl) (fun e => ?_) fun e => ?_) (ih _ s (a + 1) _ _ _ _ _ _ _ (bound_if hb.1 hb.2.1) hi)))
      · rw [if_pos e]; exact to_var rfl
      · rw [e]; exact to_var rfl
    | loop =>
      rw [due_same (by rw [hkd]; exact (nomatch ·)) (by rw [hkd]; exact (nomatch ·))]
      exact goS (n := 4) rfl (ih pc s (a + 1) _ _ _ _ _ _ _ hp hi)
    | goal =>
      rw [due_same (by rw [hkd]; exact (nomatch ·)) (by rw [hkd]; exact (nomatch ·))]
      exact goS (n := 4) rfl (ih pc s (a + 1) _ _ _ _ _ _ _ hp hi)
theorem c_due (P:Prog1 B) {sh:Nat} {w:Lw} (hw:WOK w) {pc:Nat} (hp:pc < 8) {s:St} (hi:Inv s) : CallP B (k + 4) 21 [flowV sh,.lst (piecesL w),mixV w,.int pc,sV s] σ (.bool (dueF sh w 4 pc s)) := by
  refine callB P (by decide) (by kernel_rfl) ok21 tr21 ⟨rfl,rfl⟩ rfl ?_
  rw [nx21]
  exact st_range1 to_lit (by decide) (d21 P hw 4 pc s 0 _ _ _ _ _ _ _ hp hi)
theorem tv_eqb {L:Lc} {a b:CE} {p q:Bool} (h1:EvTo B k σ L a (.bool p)) (h2:EvTo B k σ L b (.bool q)) : TvTo B k σ L (.cmp .eq a b) (p == q) := fun Q hq => h1 _ (h2 _ ⟨_,rfl,hq⟩)
theorem tv_or1 {L:Lc} {a b:CE} {p q:Bool} (h1:TvTo B k σ L a p) (h2:TvTo B k σ L b q) : TvTo B k σ L (.or a b) (p || q) := fun Q hq => h1 _ ⟨fun e => h2 _ (by rw [e] at hq; exact hq),fun e => by rw [e] at hq; exact hq⟩
theorem or_of {g t o:Bool} : ((!g || t == o) = true → g = false ∨ t = o) ∧ ((!g || t == o) = false → ¬(g = false ∨ t = o)) := by cases g <;> cases t <;> cases o <;> decide
theorem c_truth (P:Prog1 B) {sh:Nat} {w:Lw} (hw:WOK w) {q:Path} (h1:q.goal < 11) (h2:q.test < 11) (h3:q.pc < 8) {s:St} (hi:Inv s) : CallP B (k + 5) 22 [flowV sh,.lst (piecesL w),mixV w,pathV q,sV s] σ (.bool (truthF sh w q s)) := by
  refine callB P (by decide) (by kernel_rfl) ok22 tr22 ⟨rfl,rfl⟩ rfl ?_
  rw [nx22]
  have ask : ∀ {L:Lc} {i n:Nat},n < 11 → L[1]? = some (some (.lst (piecesL w))) → L[2]? = some (some (mixV w)) → L[4]? = some (some (sV s)) → L[i]? = some (some (.int (n:Nat))) → EvTo B (k + 4) σ L (.idx (.call 17 (.cons (.idx (.var 1) (.var i)) (.cons (.var 2) (.cons (.var 4) .nil)))) (.lit (.int 1))) (.bool (evB s (lawC w (w.p n)))) :=
    fun hn e1 e2 e4 ei => to_idx (to_call (to_cons (to_at (to_var e1) (to_var ei) rfl (piece_at w _ hn)) (to_cons (to_var e2) (to_cons (to_var e4) to_nil))) (c_lawC P hw hi _)) to_lit rfl (by decide) rfl
  refine goS (n := 1) (L' := [some (flowV sh),some (.lst (piecesL w)),some (mixV w),some (pathV q),some (sV s),some (.int q.goal),some (.int q.test),some (.int q.pc),some (.bool q.out),none,none]) rfl (st_asg (ask h1 rfl rfl rfl rfl) (st_asg (ask h2 rfl rfl rfl rfl) (st_if (tv_or1 (tv_not (tv_pure (p := evB s (lawC w (w.p q.goal))) rfl)) (tv_eqb (to_var rfl) (to_var rfl))) (fun e => ?_) fun e => ?_)))
  · exact st_ret to_lit ⟨by rw [show truthF sh w q s = true from if_pos (or_of.1 e)],rfl⟩
  · exact st_nil (st_ret (to_c1 rfl (c_due P hw h3 hi)) ⟨by rw [show truthF sh w q s = dueF sh w 4 q.pc s from if_neg (or_of.2 e)],rfl⟩)
noncomputable def stepsL (w:Lw) : List V := (List.range 11).map fun i => repS (lawS w (w.p i))
noncomputable def asksL (w:Lw) : List V := (List.range 11).map fun i => repB (lawC w (w.p i))
theorem range_at {f:Nat → V} {i:Nat} (h:i < 11) : ((List.range 11).map f)[((i:Nat) : Int).toNat]? = some (f i) := by rw [Int.toNat_natCast,List.getElem?_map,List.getElem?_range h]; rfl
theorem ref_l {a:Addr} {xs:List V} (h:σ.lookup a = some (.l xs)) : seqOfV σ (.ref a) = some xs := by
  show (match σ.lookup a with | some (.l xs) => some xs | _ => none) = some xs
  rw [h]
theorem repSs_app (a b:List Sm) : repSs (a ++ b) = repSs a ++ repSs b := by
  induction a with
  | nil => rfl
  | cons x r ih => exact congrArg (repS x :: ·) ih
section
variable {L:Lc} {a b d e:CE} {c kept:BT} {p q:List Sm} {x y z:Sm}
theorem to_b1 (h:EvTo B k σ L a (repS x)) : EvTo B k σ L (.lst (.cons a .nil)) (.lst (repSs [x])) := to_lst (to_cons h to_nil) (Nat.le_of_ble_eq_true rfl)
theorem to_b2 (h:EvTo B k σ L a (repS x)) (h2:EvTo B k σ L b (repS y)) : EvTo B k σ L (.lst (.cons a (.cons b .nil))) (.lst (repSs [x,y])) := to_lst (to_cons h (to_cons h2 to_nil)) (Nat.le_of_ble_eq_true rfl)
theorem to_b3 (h:EvTo B k σ L a (repS x)) (h2:EvTo B k σ L b (repS y)) (h3:EvTo B k σ L d (repS z)) : EvTo B k σ L (.lst (.cons a (.cons b (.cons d .nil)))) (.lst (repSs [x,y,z])) := to_lst (to_cons h (to_cons h2 (to_cons h3 to_nil))) (Nat.le_of_ble_eq_true rfl)
theorem to_whlT (h1:EvTo B k σ L a (repB c)) (h2:EvTo B k σ L b (repB kept)) (h3:EvTo B k σ L d (.lst (repSs p))) : EvTo B k σ L (.tup (.cons (.lit (.str [119,104,105,108,101])) (.cons a (.cons b (.cons d .nil))))) (repS (.whl c kept p)) := to_tup (to_cons to_lit (to_cons h1 (to_cons h2 (to_cons h3 to_nil)))) (Nat.le_of_ble_eq_true rfl)
theorem to_iteT (h1:EvTo B k σ L a (repB c)) (h2:EvTo B k σ L b (.lst (repSs p))) (h3:EvTo B k σ L d (.lst (repSs q))) : EvTo B k σ L (.tup (.cons (.lit (.str [105,102])) (.cons a (.cons b (.cons d .nil))))) (repS (.ite c p q)) := to_tup (to_cons to_lit (to_cons h1 (to_cons h2 (to_cons h3 to_nil)))) (Nat.le_of_ble_eq_true rfl)
theorem to_rd {xs:List V} {n:Nat} {ad:Addr} {i:Int} {v:V} (hL:L[n]? = some (some (.ref ad))) (h:σ.lookup ad = some (.l xs)) (h0:0 ≤ i) (hv:xs[i.toNat]? = some v) : EvTo B k σ L (.idx (.var n) (.lit (.int i))) v := to_idx (to_var hL) to_lit (ref_l h) h0 hv
end
theorem mid_len (w:Lw) (sh:Nat) : (repSs (midB w sh)).length ≤ 2 := by
  rw [repSs_length]
  match sh with
  | 0 => exact Nat.le_of_ble_eq_true rfl
  | 1 => exact Nat.le_of_ble_eq_true rfl
  | 2 => exact Nat.le_of_ble_eq_true rfl
  | 3 => exact Nat.le_of_ble_eq_true rfl
  | n + 4 => exact Nat.le_of_ble_eq_true rfl
theorem mid_at (f:List Sm → V) (w:Lw) {sh:Nat} (h:sh < 5) : [f (midB w 0),f (midB w 1),f (midB w 2),f (midB w 3),f (midB w 4)][((sh:Nat) : Int).toNat]? = some (f (midB w sh)) := by
  match sh with
  | 0 => rfl
  | 1 => rfl
  | 2 => rfl
  | 3 => rfl
  | 4 => rfl
  | n + 5 => exact absurd h (Nat.not_lt.mpr (Nat.le_add_left _ _))
theorem c_block (P:Prog1 B) {sh:Nat} (hs:sh < 5) {w:Lw} {st ak:Nat} (h1:σ.lookup st = some (.l (stepsL w))) (h2:σ.lookup ak = some (.l (asksL w))) : CallP B (k + 1) 19 [.int sh,.ref st,.ref ak] σ (.lst (repSs (blockB w sh))) := by
  refine callB P (by decide) (by kernel_rfl) ok19 tr19 ⟨rfl,rfl⟩ rfl ?_
  rw [nx19]
  have S : ∀ {l0 l2 l3 l4:Option V} (i:Nat),i < 11 → EvTo B k σ [l0,some (.ref st),l2,l3,l4] (.idx (.var 1) (.lit (.int i))) (repS (lawS w (w.p i))) := fun i hi => to_rd rfl h1 (Int.natCast_nonneg i) (range_at hi)
  have A : ∀ {l0 l1 l3 l4:Option V} (i:Nat),i < 11 → EvTo B k σ [l0,l1,some (.ref ak),l3,l4] (.idx (.var 2) (.lit (.int i))) (repB (lawC w (w.p i))) := fun i hi => to_rd rfl h2 (Int.natCast_nonneg i) (range_at hi)
  have inn : ∀ {l4:Option V},EvTo B k σ [some (.int sh),some (.ref st),some (.ref ak),some (repS (innerB w)),l4] (.var 3) (repS (innerB w)) := to_var rfl
  refine st_asg (d := repS (innerB w)) (to_whlT (A 3 (by decide)) (A 9 (by decide)) (to_b1 (S 4 (by decide)))) (st_asg (L := [some (.int sh),some (.ref st),some (.ref ak),some (repS (innerB w)),none]) (d := .lst [.lst (repSs (midB w 0)),.lst (repSs (midB w 1)),.lst (repSs (midB w 2)),.lst (repSs (midB w 3)),.lst (repSs (midB w 4))])
    (to_lst (to_cons (to_b1 (to_whlT (A 1 (by decide)) (A 8 (by decide)) (to_b3 (S 2 (by decide)) inn (S 6 (by decide))))) (to_cons (to_b2 (to_whlT (A 1 (by decide)) (A 8 (by decide)) (to_b1 (S 2 (by decide)))) inn) (to_cons (to_b1 (to_iteT (A 1 (by decide)) (to_b2 (S 2 (by decide)) inn) (to_b1 (S 6 (by decide))))) (to_cons (to_b1 (to_iteT (A 1 (by decide)) (to_b1 (S 6 (by decide))) (to_b2 (S 2 (by decide)) inn))) (to_cons (to_b1 (to_iteT (A 1 (by decide)) (to_b1 (S 2 (by decide))) (to_b1 (S 6 (by decide))))) to_nil))))) (Nat.le_of_ble_eq_true rfl)) ?_)
  have hm := mid_len w sh
  refine st_ret (to_cat (to_cat (to_b1 (S 0 (by decide))) (to_at (to_var rfl) (to_var rfl) rfl (mid_at (fun m => .lst (repSs m)) w hs)) (Nat.le_trans (Nat.add_le_add_left hm 1) (by decide))) (to_b1 (S 5 (by decide))) (by rw [List.length_append]; exact Nat.le_trans (Nat.add_le_add_right (Nat.add_le_add_left hm 1) 1) (by decide))) ⟨?_,rfl⟩
  rw [← repSs_app,← repSs_app]
  rfl
end
theorem fm_drop (xs:List V) (s c:Nat) (h:s + c ≤ xs.length) : ((List.range c).map (fun k => s + k)).filterMap (fun i => xs[i]?) = (xs.drop s).take c := by
  induction c with
  | zero => rw [List.take_zero]; rfl
  | succ c ih =>
    rw [List.range_succ,List.map_append,List.filterMap_append,ih (Nat.le_of_succ_le h),List.take_add_one,List.getElem?_drop]
    refine congrArg _ ?_
    show [s + c].filterMap (fun i => xs[i]?) = _
    rw [List.filterMap_cons]
    cases xs[s + c]? <;> rfl
theorem pick_of {xs:List V} {lo hi:Option Int} (a z:Nat) (h1:sliceBounds lo hi none xs.length = ((a:Int),((a + z : Nat) : Int),1)) (h:a + z ≤ xs.length) : pick xs lo hi none = (xs.drop a).take z := by
  have hc : (if (a:Int) < ((a + z : Nat) : Int) then (((a + z : Nat) : Int) - a + 1 - 1) / 1 else 0).toNat = z := by
    by_cases hz : (a:Int) < ((a + z : Nat) : Int)
    · rw [if_pos hz,Int.ediv_one,Int.add_sub_cancel,Int.natCast_add,Int.add_comm,Int.add_sub_cancel,Int.toNat_natCast]
    · rw [if_neg hz]; show 0 = z; omega
  have h2 : sliceRange (a:Int) ((a + z : Nat) : Int) 1 = (List.range z).map (fun k => a + k) := by
    show (List.range (if (a:Int) < ((a + z : Nat) : Int) then (((a + z : Nat) : Int) - a + 1 - 1) / 1 else 0).toNat).map (fun k:Nat => ((a:Int) + 1 * (k:Int)).toNat) = _
    rw [hc]
    refine congrArg (fun f => (List.range z).map f) (funext fun k => ?_)
    rw [Int.one_mul,← Int.natCast_add,Int.toNat_natCast]
  unfold pick
  rw [h1]
  show (sliceRange (a:Int) ((a + z : Nat) : Int) 1).filterMap _ = _
  rw [h2]
  exact fm_drop xs a z h
theorem clampI {i:Int} {n:Nat} (h0:0 ≤ i) (h1:i ≤ n) : (if (1:Int) > 0 then max 0 (min (if i < 0 then i + n else i) n) else max (-1) (min (if i < 0 then i + n else i) ((n:Int) - 1))) = i := by
  rw [if_pos (by decide),if_neg (Int.not_lt.mpr h0),Int.min_eq_left h1,Int.max_eq_right h0]
theorem pick_nat (xs:List V) (a z:Nat) (h:a + z ≤ xs.length) : pick xs (some (a:Int)) (some ((a:Int) + z)) none = (xs.drop a).take z := by
  refine pick_of a z ?_ h
  show ((if (1:Int) > 0 then _ else _),(if (1:Int) > 0 then _ else _),(1:Int)) = _
  rw [clampI (Int.natCast_nonneg a) (Int.ofNat_le.mpr (Nat.le_trans (Nat.le_add_right a z) h)),clampI (i := (a:Int) + z) (Int.natCast_nonneg (a + z)) (Int.ofNat_le.mpr h)]
  rfl
theorem pick_from (xs:List V) (a:Nat) (h:a ≤ xs.length) : pick xs (some (a:Int)) none none = xs.drop a := by
  have e : a + (xs.length - a) = xs.length := Nat.add_sub_cancel' h
  rw [pick_of a (xs.length - a) ?_ (Nat.le_of_eq e),List.take_of_length_le (by rw [List.length_drop]; exact Nat.le_refl _)]
  show ((if (1:Int) > 0 then _ else _),(xs.length : Int),(1:Int)) = _
  rw [clampI (Int.natCast_nonneg a) (Int.ofNat_le.mpr h),e]
theorem zip_range (g:List Nat × Int → V) (N:List (List Nat)) : ∀ r : List Int,N.length ≤ r.length → (N.zip r).map g = (List.range N.length).map fun i => g (N.getD i [],r.getD i 0) := by
  induction N with
  | nil => exact fun _ _ => rfl
  | cons a N ih =>
    intro r h
    cases r with
    | nil => exact absurd h (Nat.not_succ_le_zero _)
    | cons b r =>
      rw [List.zip_cons_cons,List.map_cons,ih r (Nat.le_of_succ_le_succ h),List.length_cons,List.range_succ_eq_map,List.map_cons,List.map_map]
      rfl
theorem look_mid {τ σ:Store} {a:Nat} {m:MO} (h:∀ x,(a,x) ∉ τ) : (τ ++ (a,m) :: σ).lookup a = some m := by
  induction τ with
  | nil => exact lookup_head
  | cons p r ih =>
    obtain ⟨b,n⟩ := p
    rw [List.cons_append,List.lookup_cons,beq_eq_false_iff_ne.mpr fun e => h n (by rw [e]; exact .head _)]
    exact ih fun x hx => h x (.tail _ hx)
theorem put_mid {τ σ:Store} {a:Nat} {m m':MO} (h:∀ x,(a,x) ∉ τ) (h2:∀ x,(a,x) ∉ σ) : (τ ++ (a,m) :: σ).put a m' = τ ++ (a,m') :: σ := by
  have e1 := put_out (y := m') h
  have e2 := put_out (y := m') h2
  unfold Store.put at e1 e2 ⊢
  rw [List.map_append,List.map_cons,e1,e2,if_pos rfl]
theorem row_at {l r:List Int} {x:Int} {n:Nat} (h:l.length = n) : ((l ++ x :: r).map V.int)[((n:Nat) : Int).toNat]? = some (.int x) := by
  rw [Int.toNat_natCast,List.getElem?_map,List.getElem?_append_right (Nat.le_of_eq h),h,Nat.sub_self]; rfl
theorem row_set {l r:List Int} {x v:Int} {n:Nat} (h:l.length = n) : ((l ++ x :: r).map V.int).set ((n:Nat) : Int).toNat (.int v) = (l ++ v :: r).map V.int := by
  rw [Int.toNat_natCast,← List.map_set,List.set_append_right _ _ (Nat.le_of_eq h),h,Nat.sub_self]; rfl
theorem row_len {l r:List Int} {x:Int} {n:Nat} (h:l.length = n) : ((n:Nat) : Int).toNat < ((l ++ x :: r).map V.int).length := by
  rw [Int.toNat_natCast,List.length_map,List.length_append,h]; exact Nat.lt_add_of_pos_right (Nat.zero_lt_succ _)
noncomputable def body15 : CS :=
  (.newLL 8 (.for_ .range1 (.cons (.prim .len (.cons (.var 1) .nil)) .nil) [9] (.app (.idx (.var 8) (.lit (.int 0))) (.tup (.cons (.idx (.var 1) (.var 9)) (.cons (.idx (.var 7) (.var 9)) .nil))) .nil) (.for_ .range1 (.cons (.prim .len (.cons (.var 2) .nil)) .nil) [9] (.asg 10 (.bin .add (.prim .len (.cons (.var 1) .nil)) (.bin .mul (.var 9) (.var 5))) (.app (.idx (.var 8) (.lit (.int 1))) (.tup (.cons (.idx (.var 2) (.var 9)) (.cons (.sl (.var 7) (.var 10) (.bin .add (.var 10) (.var 5))) .nil))) .nil)) (.iff (.not (.call 6 (.cons (.var 0) (.cons (.var 8) .nil)))) (.ret (.var 8)) .nil (.asg 9 (.bin .sub (.var 6) (.lit (.int 1))) (.whl (.and (.cmp .ge (.var 9) (.lit (.int 0))) (.cmp .eq (.idx (.var 7) (.var 9)) (.bin .sub (.var 4) (.lit (.int 1))))) (.sto (.var 7) (.var 9) (.var 3) (.asg 9 (.bin .sub (.var 9) (.lit (.int 1))) .nil)) (.iff (.cmp .lt (.var 9) (.lit (.int 0))) (.ret (.lit .none)) .nil (.sto (.var 7) (.var 9) (.bin .add (.idx (.var 7) (.var 9)) (.lit (.int 1))) .nil))))))))
noncomputable abbrev oT : CE := .and (.cmp .ge (.var 9) (.lit (.int 0))) (.cmp .eq (.idx (.var 7) (.var 9)) (.bin .sub (.var 4) (.lit (.int 1))))
noncomputable abbrev oB : CS := .sto (.var 7) (.var 9) (.var 3) (.asg 9 (.bin .sub (.var 9) (.lit (.int 1))) .nil)
noncomputable abbrev oR : CS := .iff (.cmp .lt (.var 9) (.lit (.int 0))) (.ret (.lit .none)) .nil (.sto (.var 7) (.var 9) (.bin .add (.idx (.var 7) (.var 9)) (.lit (.int 1))) .nil)
section
variable {B:B0} {k:Nat} {σ τ:Store}
theorem whl_yes {L:Lc} {c:CE} {b:CS} {R:StF} {Q:Out → Store → Prop} {n:Nat} (h:TvTo B k σ L c true) (t:stW B k b L σ (turnW (whlW (fun L σ R => tvW B k σ c L R) (stW B k b) R Q n) R Q)) : whlW (fun L σ R => tvW B k σ c L R) (stW B k b) R Q (n + 1) L σ := h _ ⟨fun _ => t,fun e => noB e.symm⟩
theorem whl_no {L:Lc} {c:CE} {b:CS} {R:StF} {Q:Out → Store → Prop} {n:Nat} (h:TvTo B k σ L c false) (t:R L σ Q) : whlW (fun L σ R => tvW B k σ c L R) (stW B k b) R Q (n + 1) L σ := h _ ⟨fun e => noB e,fun _ => t⟩
theorem tv_eqi {L:Lc} {a b:CE} {i j:Int} (h1:EvTo B k σ L a (.int i)) (h2:EvTo B k σ L b (.int j)) : TvTo B k σ L (.cmp .eq a b) (i == j) := fun Q hq => h1 _ (h2 _ ⟨_,rfl,hq⟩)
theorem odo {ra:Nat} {lo hi:Int} (h1:∀ x,(ra,x) ∉ τ) (h2:∀ x,(ra,x) ∉ σ) {l0 l1 l2 l5 l6 l8 l10:Option V} {T:Out → Store → Prop} (rp:List Int) : ∀ (t:Nat),
    (nxt lo hi rp = none → ∀ row,T (.ret .none) (τ ++ (ra,.l row) :: σ)) →
    (∀ p,nxt lo hi rp = some p → ∀ l9,T (.next [l0,l1,l2,some (.int lo),some (.int hi),l5,l6,some (.ref ra),l8,l9,l10]) (τ ++ (ra,.l ((p.reverse ++ List.replicate t lo).map V.int)) :: σ)) →
    ∃ n,whlW (fun L σ R => tvW B k σ oT L R) (stW B k oB) (stW B k oR) T n [l0,l1,l2,some (.int lo),some (.int hi),l5,l6,some (.ref ra),l8,some (.int ((rp.length : Int) - 1)),l10] (τ ++ (ra,.l ((rp.reverse ++ List.replicate t lo).map V.int)) :: σ) := by
  induction rp with
  | nil => exact fun t hn _ => ⟨1,whl_no (tv_and (p := false) (tv_ge0 (to_var rfl) (by decide)) (fun e => noB e) fun _ => rfl) (st_yes (tv_lt1 (to_var rfl) to_lit (by decide)) (st_ret to_lit (hn rfl _)))⟩
  | cons x xs ih =>
    intro t hn hs
    have hk0 : (((x :: xs).length : Int) - 1) = (xs.length : Nat) := pred1 xs.length
    have hl : xs.reverse.length = xs.length := List.length_reverse
    have hx : nxt lo hi (x :: xs) = if x = hi - 1 then (nxt lo hi xs).map (lo :: ·) else some ((x + 1) :: xs) := rfl
    have h0 := Int.natCast_nonneg xs.length
    rw [hk0,List.reverse_cons,List.append_assoc,List.singleton_append]
    have hT : TvTo B k (τ ++ (ra,.l ((xs.reverse ++ x :: List.replicate t lo).map V.int)) :: σ) [l0,l1,l2,some (.int lo),some (.int hi),l5,l6,some (.ref ra),l8,some (.int ((xs.length : Nat) : Int)),l10] oT (x == hi - 1) :=
      tv_and (p := true) (tv_ge1 (to_var rfl) h0) (fun _ => tv_eqi (to_idx (to_var rfl) (to_var rfl) (ref_l (look_mid h1)) h0 (row_at hl)) (to_sub (to_var rfl) to_lit)) fun e => noB e.symm
    by_cases c : x = hi - 1
    · rw [beq_iff_eq.mpr c] at hT
      obtain ⟨n,ih⟩ := ih (t + 1) (fun e row => hn (by rw [hx,if_pos c,e]; rfl) row) fun p e l9 => by
        have h := hs (lo :: p) (by rw [hx,if_pos c,e]; rfl) l9
        rw [List.reverse_cons,List.append_assoc] at h
        exact h
      refine ⟨n + 1,whl_yes hT (st_stoL (to_var rfl) (to_var rfl) (to_var rfl) (look_mid h1) h0 (row_len hl) ?_)⟩
      rw [put_mid h1 h2]
      have e2 := row_set (r := List.replicate t lo) (x := x) (v := lo) hl
      rw [e2]
      exact st_asg (to_sub (to_var rfl) to_lit) ih
    · rw [beq_eq_false_iff_ne.mpr c] at hT
      refine ⟨1,whl_no hT (st_no (tv_lt0 (to_var rfl) to_lit (Int.not_lt.mpr h0)) (st_stoL (to_add (to_idx (to_var rfl) (to_var rfl) (ref_l (look_mid h1)) h0 (row_at hl)) to_lit) (to_var rfl) (to_var rfl) (look_mid h1) h0 (row_len hl) ?_))⟩
      rw [put_mid h1 h2]
      have e2 := row_set (r := List.replicate t lo) (x := x) (v := x + 1) hl
      rw [e2]
      have h := hs _ (by rw [hx,if_neg c]) (some (.int ((xs.length : Nat) : Int)))
      rw [List.reverse_cons,List.append_assoc] at h
      exact h
end
noncomputable def its1 (N:List (List Nat)) (r:List Int) (i:Nat) : List V := (List.range i).map fun j => .tup [.str (N.getD j []),.int (r.getD j 0)]
noncomputable def its2 (N R:List (List Nat)) (z:Nat) (r:List Int) (i:Nat) : List V := (List.range i).map fun j => .tup [.str (R.getD j []),arV1 ((r.drop (N.length + j * z)).take z)]
theorem its1_succ (N:List (List Nat)) (r:List Int) (i:Nat) : its1 N r (i + 1) = its1 N r i ++ [.tup [.str (N.getD i []),.int (r.getD i 0)]] := by
  unfold its1; rw [List.range_succ,List.map_append]; rfl
theorem its2_succ (N R:List (List Nat)) (z:Nat) (r:List Int) (i:Nat) : its2 N R z r (i + 1) = its2 N R z r i ++ [.tup [.str (R.getD i []),arV1 ((r.drop (N.length + i * z)).take z)]] := by
  unfold its2; rw [List.range_succ,List.map_append]; rfl
theorem its1_len (N:List (List Nat)) (r:List Int) (i:Nat) : (its1 N r i).length = i := by rw [its1,List.length_map,List.length_range]
theorem its2_len (N R:List (List Nat)) (z:Nat) (r:List Int) (i:Nat) : (its2 N R z r i).length = i := by rw [its2,List.length_map,List.length_range]
theorem stV_spot (N R:List (List Nat)) (z:Nat) (r:List Int) (h:N.length ≤ r.length) : stV (spot N R z r) = .tup [.lst (its1 N r N.length),.lst (its2 N R z r R.length)] := by
  unfold stV spot nsV arV itemsV its1 its2
  rw [List.map_map,zip_range _ N r h,List.map_map,List.map_map]
  rfl
structure Fr15 (a b ra:Nat) (τ σ:Store) : Prop where
  ab : a ≠ b
  ra_a : ra ≠ a
  ra_b : ra ≠ b
  t : ∀ x,(ra,x) ∉ τ
  s : ∀ x,(ra,x) ∉ σ
  a1 : ∀ row x,(a,x) ∉ τ ++ (ra,MO.l row) :: σ
  b1 : ∀ row x,(b,x) ∉ τ ++ (ra,MO.l row) :: σ
noncomputable def S15 (a b ra:Nat) (τ σ:Store) (row x y:List V) : Store := (b,.l y) :: (a,.l x) :: (τ ++ (ra,.l row) :: σ)
section
variable {B:B0} {k:Nat} {σ τ:Store} {a b ra:Nat} {row x y:List V}
theorem S15_a (f:Fr15 a b ra τ σ) : (S15 a b ra τ σ row x y).lookup a = some (.l x) := look_mid (τ := [(b,.l y)]) fun m hm => f.ab (congrArg Prod.fst (List.mem_singleton.mp hm))
theorem S15_b (f:Fr15 a b ra τ σ) : (S15 a b ra τ σ row x y).lookup b = some (.l y) := lookup_head
theorem S15_r (f:Fr15 a b ra τ σ) : (S15 a b ra τ σ row x y).lookup ra = some (.l row) := look_mid (τ := (b,.l y) :: (a,.l x) :: τ) fun m hm => (List.mem_cons.mp hm).elim (fun h => f.ra_b (congrArg Prod.fst h)) fun hm => (List.mem_cons.mp hm).elim (fun h => f.ra_a (congrArg Prod.fst h)) (f.t m)
theorem S15_putA (f:Fr15 a b ra τ σ) (x':List V) : (S15 a b ra τ σ row x y).put a (.l x') = S15 a b ra τ σ row x' y := put_mid (τ := [(b,.l y)]) (fun m hm => f.ab (congrArg Prod.fst (List.mem_singleton.mp hm))) (f.a1 row)
theorem S15_putB (f:Fr15 a b ra τ σ) (y':List V) : (S15 a b ra τ σ row x y).put b (.l y') = S15 a b ra τ σ row x y' := put_head fun m hm => (List.mem_cons.mp hm).elim (fun h => f.ab (congrArg Prod.fst h).symm) (f.b1 row m)
noncomputable abbrev L15 (c:V) (N R:List (List Nat)) (z:Nat) (lo hi:Int) (n ra:Nat) (l8 l9 l10:Option V) : Lc := [some c,some (.lst (N.map V.str)),some (.lst (R.map V.str)),some (.int lo),some (.int hi),some (.int z),some (.int n),some (.ref ra),l8,l9,l10]
theorem name_at (N:List (List Nat)) (i:Nat) (h:i < N.length) : (N.map V.str)[((i:Nat) : Int).toNat]? = some (.str (N.getD i [])) := by
  rw [Int.toNat_natCast,List.getElem?_map,List.getD_eq_getElem?_getD,List.getElem?_eq_getElem h]; rfl
theorem cell_at (r:List Int) (i:Nat) (h:i < r.length) : (r.map V.int)[((i:Nat) : Int).toNat]? = some (.int (r.getD i 0)) := by
  rw [Int.toNat_natCast,List.getElem?_map,List.getD_eq_getElem?_getD,List.getElem?_eq_getElem h]; rfl
theorem lt_of_add {i m n:Nat} (h:i + (m + 1) = n) : i < n := by rw [← h]; exact Nat.lt_add_of_pos_right (Nat.zero_lt_succ _)
theorem next_add {i m n:Nat} (h:i + (m + 1) = n) : i + 1 + m = n := by rw [Nat.add_assoc,Nat.add_comm 1]; exact h
theorem loop1 (f:Fr15 a b ra τ σ) {c:V} {N R:List (List Nat)} {z n:Nat} {lo hi:Int} {r:List Int} {l10:Option V} {F:StF} {T:Out → Store → Prop} (hN:N.length ≤ r.length) (hz:N.length ≤ 100)
    (h:∀ l9,F (L15 c N R z lo hi n ra (some (.tup [.ref a,.ref b])) l9 l10) (S15 a b ra τ σ (r.map V.int) (its1 N r N.length) []) T) (m:Nat) : ∀ (i:Nat) (l9:Option V),i + m = N.length →
    forW [9] (stW B k (.app (.idx (.var 8) (.lit (.int 0))) (.tup (.cons (.idx (.var 1) (.var 9)) (.cons (.idx (.var 7) (.var 9)) .nil))) .nil)) F T (rangeV i m) (L15 c N R z lo hi n ra (some (.tup [.ref a,.ref b])) l9 l10) (S15 a b ra τ σ (r.map V.int) (its1 N r i) []) := by
  induction m with
  | zero => intro i l9 e; rw [show i = N.length from e]; exact h l9
  | succ m ih =>
    intro i l9 e
    have hj := lt_of_add e
    refine Exists.intro (L15 c N R z lo hi n ra (some (.tup [.ref a,.ref b])) (some (.int i)) l10) (And.intro rfl (st_app (to_pure rfl) (S15_a f) (to_tup (to_cons (to_at (to_var rfl) (to_var rfl) rfl (name_at N i hj)) (to_cons (to_at (to_var rfl) (to_var rfl) (ref_l (S15_r f)) (cell_at r i (Nat.lt_of_lt_of_le hj hN))) to_nil)) (Nat.le_of_ble_eq_true rfl)) (by rw [its1_len]; exact Nat.le_trans (Nat.le_of_lt hj) (Nat.le_trans hz (by decide))) ?_))
    rw [S15_putA f,← its1_succ]
    exact ih (i + 1) _ (next_add e)
theorem to_slR {L:Lc} {e lo hi:CE} {v1 v2:V} {l h:Option Int} {ad:Addr} {xs:List V} (h1:EvTo B k σ L e (.ref ad)) (hs:σ.lookup ad = some (.l xs)) (h2:EvTo B k σ L lo v1) (h3:EvTo B k σ L hi v2) (e1:partOf v1 = some l) (e2:partOf v2 = some h) : EvTo B k σ L (.sl e lo hi) (.lst (pick xs l h none)) := fun Q q => by
  have hl : listOfV σ (.ref ad) = some xs := ref_l hs
  refine h1 _ (h2 _ (h3 _ ?_))
  show (match listOfV σ (.ref ad),partOf v1,partOf v2 with | some xs,some l,some h => Q (.lst (pick xs l h none)) | _,_,_ => False)
  rw [hl,e1,e2]
  exact q
theorem abs_le {n:Nat} (h:n ≤ 100) : ((n:Nat) : Int).natAbs ≤ 1000 := by rw [Int.natAbs_natCast]; exact Nat.le_trans h (by decide)
theorem loop2 (f:Fr15 a b ra τ σ) {c:V} {N R:List (List Nat)} {z n:Nat} {lo hi:Int} {r:List Int} {X:List V} {F:StF} {T:Out → Store → Prop} (hr:r.length = N.length + R.length * z) (hN:N.length ≤ 100) (hR:R.length ≤ 100) (hz:z ≤ 100)
    (h:∀ l9 l10,F (L15 c N R z lo hi n ra (some (.tup [.ref a,.ref b])) l9 l10) (S15 a b ra τ σ (r.map V.int) X (its2 N R z r R.length)) T) (m:Nat) : ∀ (i:Nat) (l9 l10:Option V),i + m = R.length →
    forW [9] (stW B k (.asg 10 (.bin .add (.prim .len (.cons (.var 1) .nil)) (.bin .mul (.var 9) (.var 5))) (.app (.idx (.var 8) (.lit (.int 1))) (.tup (.cons (.idx (.var 2) (.var 9)) (.cons (.sl (.var 7) (.var 10) (.bin .add (.var 10) (.var 5))) .nil))) .nil))) F T (rangeV i m) (L15 c N R z lo hi n ra (some (.tup [.ref a,.ref b])) l9 l10) (S15 a b ra τ σ (r.map V.int) X (its2 N R z r i)) := by
  induction m with
  | zero => intro i l9 l10 e; rw [show i = R.length from e]; exact h l9 l10
  | succ m ih =>
    intro i l9 l10 e
    have hi' := lt_of_add e
    have hb : N.length + i * z + z ≤ (r.map V.int).length := by
      rw [List.length_map,hr,Nat.add_assoc,← Nat.succ_mul]
      exact Nat.add_le_add_left (Nat.mul_le_mul_right z hi') _
    refine Exists.intro (L15 c N R z lo hi n ra (some (.tup [.ref a,.ref b])) (some (.int i)) l10) (And.intro rfl (st_asg (d := .int ((N.length + i * z : Nat) : Int)) (fun Q q => to_add (to_len (to_var rfl) rfl) (to_mul (to_var rfl) (to_var rfl) (abs_le (Nat.le_trans (Nat.le_of_lt hi') hR)) (abs_le hz)) Q (by rw [List.length_map]; exact q)) (st_app (L := L15 c N R z lo hi n ra (some (.tup [.ref a,.ref b])) (some (.int i)) (some (.int ((N.length + i * z : Nat) : Int)))) (to_pure rfl) (S15_b f) (to_tup (to_cons (to_at (to_var rfl) (to_var rfl) rfl (name_at R i hi')) (to_cons (to_slR (to_var rfl) (S15_r f) (to_var rfl) (to_add (to_var rfl) (to_var rfl)) rfl rfl) to_nil)) (Nat.le_of_ble_eq_true rfl)) (by rw [its2_len]; exact Nat.le_trans (Nat.le_of_lt hi') (Nat.le_trans hR (by decide))) ?_)))
    rw [S15_putB f,pick_nat _ _ _ hb,← List.map_drop,← List.map_take,show V.lst (((r.drop (N.length + i * z)).take z).map V.int) = arV1 ((r.drop (N.length + i * z)).take z) from rfl,← its2_succ]
    exact ih (i + 1) _ _ (next_add e)
end
structure Spc where
  N : List (List Nat)
  R : List (List Nat)
  z : Nat
noncomputable def Spc.n (p:Spc) : Nat := p.N.length + p.R.length * p.z
noncomputable def Spc.at (p:Spc) (r:List Int) : St := spot p.N p.R p.z r
structure Spc.OK (p:Spc) : Prop where
  n : p.N.length ≤ 100
  r : p.R.length ≤ 100
  z : p.z ≤ 100
  i : ∀ r : List Int,r.length = p.n → Inv (p.at r)
noncomputable def resV (p:Spc) (f:St → Bool) : List (List Int) → V
  | [] => .none
  | r :: rs => if f (p.at r) then resV p f rs else stV (p.at r)
section
variable {B:B0} {k:Nat} {σ τ:Store} {ra:Nat} {p:Spc} {t:BT} {lo hi:Int}
theorem st_newLL {L:Lc} {i:Nat} {r:CS} {Q:Out → Store → Prop} (t:∀ a b,(∀ m,(a,m) ∉ σ) → (∀ m,(b,m) ∉ σ) → a ≠ b → stW B k r (L.set i (some (.tup [.ref a,.ref b]))) ((b,.l []) :: (a,.l []) :: σ) Q) : stW B k (.newLL i r) L σ Q := t
theorem to_lenM {L:Lc} {n:Nat} {N:List (List Nat)} (h:L[n]? = some (some (.lst (N.map V.str)))) : EvTo B k σ L (.prim .len (.cons (.var n) .nil)) (.int (N.length : Nat)) := fun Q q => to_len (to_var h) rfl Q (by rw [List.length_map]; exact q)
theorem frz1_l {a:Addr} {xs:List V} (h:σ.lookup a = some (.l xs)) : frz1 σ (.ref a) = .lst xs := by
  show (match σ.lookup a with | some (.l xs) => V.lst xs | some (.d kvs) => .sd kvs | _ => .ref a) = _
  rw [h]
theorem frz_st {a b:Addr} {r:List Int} (hle:p.N.length ≤ r.length) (h1:σ.lookup a = some (.l (its1 p.N r p.N.length))) (h2:σ.lookup b = some (.l (its2 p.N p.R p.z r p.R.length))) : frzV σ (.tup [.ref a,.ref b]) = stV (p.at r) := by
  show V.tup [frz1 σ (.ref a),frz1 σ (.ref b)] = _
  rw [frz1_l h1,frz1_l h2,Spc.at,stV_spot _ _ _ _ hle]
theorem not_mid {a:Nat} {row:List V} {x:MO} (hra:ra ≠ a) (ha:∀ m,(a,m) ∉ τ ++ (ra,.l (row)) :: σ) {row':List V} : (a,x) ∉ τ ++ (ra,MO.l row') :: σ := fun hx =>
  (List.mem_append.mp hx).elim (fun h => ha x (List.mem_append.mpr (.inl h))) fun h => (List.mem_cons.mp h).elim (fun h => hra (congrArg Prod.fst h).symm) fun h => ha x (List.mem_append.mpr (.inr (.tail _ h)))
theorem turn15 (P:Prog1 B) (hp:p.OK) (ho:okB t = true) (hd:dB t ≤ 40) (hk:43 ≤ k) {r:List Int} (hr:r.length = p.n) (h1:∀ x,(ra,x) ∉ τ) (h2:∀ x,(ra,x) ∉ σ) {l8 l9 l10:Option V} {T:Out → Store → Prop}
    (hF:evB (p.at r) t = false → ∀ a b,Fr15 a b ra τ σ → T (.ret (.tup [.ref a,.ref b])) (S15 a b ra τ σ (r.map V.int) (its1 p.N r p.N.length) (its2 p.N p.R p.z r p.R.length)))
    (hE:evB (p.at r) t = true → nxt lo hi r.reverse = none → ∀ τ',T (.ret .none) (τ' ++ σ))
    (hN:evB (p.at r) t = true → ∀ q,nxt lo hi r.reverse = some q → ∀ τ',(∀ x,(ra,x) ∉ τ') → ∀ l8 l9 l10,T (.next (L15 (repB t) p.N p.R p.z lo hi p.n ra l8 l9 l10)) (τ' ++ (ra,.l (q.reverse.map V.int)) :: σ)) :
    stW B k body15 (L15 (repB t) p.N p.R p.z lo hi p.n ra l8 l9 l10) (τ ++ (ra,.l (r.map V.int)) :: σ) T := by
  refine st_newLL fun a b ha hb hab => ?_
  have hra : ra ≠ a := fun e => ha (.l (r.map V.int)) (by rw [← e]; exact List.mem_append.mpr (.inr (.head _)))
  have hrb : ra ≠ b := fun e => hb (.l (r.map V.int)) (by rw [← e]; exact List.mem_append.mpr (.inr (.head _)))
  have f : Fr15 a b ra τ σ := ⟨hab,hra,hrb,h1,h2,fun row x => not_mid hra ha,fun row x => not_mid hrb hb⟩
  have hle : p.N.length ≤ r.length := by rw [hr]; exact Nat.le_add_right _ _
  have z24 : ∀ {n:Nat},n ≤ 100 → ((n:Nat) : Int) ≤ 2 ^ 24 := fun h => Int.le_trans (Int.ofNat_le.mpr h) (by decide)
  refine st_range1 (to_lenM rfl) (z24 hp.n) ?_
  rw [Int.toNat_natCast]
  refine loop1 f hle hp.n (fun l9 => st_range1 (to_lenM rfl) (z24 hp.r) ?_) p.N.length 0 l9 (Nat.zero_add _)
  rw [Int.toNat_natCast]
  refine loop2 f hr hp.n hp.r hp.z (fun l9 l10 => ?_) p.R.length 0 l9 l10 (Nat.zero_add _)
  have hcall : CallP B k 6 [repB t,.tup [.ref a,.ref b]] (S15 a b ra τ σ (r.map V.int) (its1 p.N r p.N.length) (its2 p.N p.R p.z r p.R.length)) (.bool (evB (p.at r) t)) := by
    refine CallP.thaw ?_ rfl
    obtain ⟨j,rfl⟩ := Nat.exists_eq_add_of_le' (Nat.le_trans (by decide:2 ≤ 43) hk)
    have hj : 41 ≤ j := Nat.le_of_add_le_add_right (b := 2) hk
    have hi := hp.i r hr
    show CallP B (j + 2) 6 [frzV _ (repB t),frzV _ (.tup [.ref a,.ref b])] [] _
    rw [frzV_repB,frz_st hle (S15_a f) (S15_b f)]
    exact c_holds P ho (Nat.le_trans (Nat.succ_le_succ hd) hj) (hi.ok.weak (Nat.le_trans hd (by decide))) (Nat.le_trans hi.ln (by decide)) (Nat.le_trans hi.la (by decide))
  cases ht : evB (p.at r) t with
  | false =>
    rw [ht] at hcall
    exact go (n := 1) (rs := [.bool false]) (o := [⟨6,[repB t,.tup [.ref a,.ref b]],.bool false⟩]) rfl ⟨hcall,trivial⟩ (st_ret (to_var rfl) (hF ht a b f))
  | true =>
    rw [ht] at hcall
    refine go (n := 3) (rs := [.bool true]) (o := [⟨6,[repB t,.tup [.ref a,.ref b]],.bool true⟩]) (L' := L15 (repB t) p.N p.R p.z lo hi p.n ra (some (.tup [.ref a,.ref b])) (some (.int ((p.n : Nat) - 1))) l10) rfl ⟨hcall,trivial⟩ ?_
    have hnot : ∀ x,(ra,x) ∉ ((b,MO.l (its2 p.N p.R p.z r p.R.length)) :: (a,MO.l (its1 p.N r p.N.length)) :: τ) := fun x hx => (List.mem_cons.mp hx).elim (fun h => hrb (congrArg Prod.fst h)) fun hx => (List.mem_cons.mp hx).elim (fun h => hra (congrArg Prod.fst h)) (h1 x)
    have ho := odo (B := B) (k := k) (lo := lo) (hi := hi) (l0 := some (repB t)) (l1 := some (.lst (p.N.map V.str))) (l2 := some (.lst (p.R.map V.str))) (l5 := some (.int p.z)) (l6 := some (.int p.n)) (l8 := some (.tup [.ref a,.ref b])) (l10 := l10) (T := T) hnot h2 r.reverse 0 (fun e row => by
      have := hE ht e (((b,.l (its2 p.N p.R p.z r p.R.length)) :: (a,.l (its1 p.N r p.N.length)) :: τ) ++ [(ra,.l row)])
      rw [List.append_assoc] at this
      exact this) fun q e l9 => by
      rw [List.replicate_zero,List.append_nil]
      exact hN ht q e _ hnot (some (.tup [.ref a,.ref b])) l9 l10
    rw [List.reverse_reverse,List.replicate_zero,List.append_nil,List.length_reverse,hr] at ho
    exact ho
theorem mem_nil {x y:Nat × MO} (h:x ∈ τ ++ [y]) : x ∈ τ ++ y :: σ := (List.mem_append.mp h).elim (fun h => List.mem_append.mpr (.inl h)) fun h => List.mem_append.mpr (.inr (by rw [List.mem_singleton.mp h]; exact .head _))
theorem ret15 {a b:Nat} (f:Fr15 a b ra τ σ) {r:List Int} (hr:r.length = p.n) : ∃ τ',S15 a b ra τ σ (r.map V.int) (its1 p.N r p.N.length) (its2 p.N p.R p.z r p.R.length) = τ' ++ σ ∧ frzV τ' (.tup [.ref a,.ref b]) = stV (p.at r) := by
  have f' : Fr15 a b ra τ [] := ⟨f.ab,f.ra_a,f.ra_b,f.t,(fun x hx => nomatch hx),fun row x hx => f.a1 row x (mem_nil hx),fun row x hx => f.b1 row x (mem_nil hx)⟩
  refine ⟨S15 a b ra τ [] (r.map V.int) (its1 p.N r p.N.length) (its2 p.N p.R p.z r p.R.length),?_,frz_st (by rw [hr]; exact Nat.le_add_right _ _) (S15_a f') (S15_b f')⟩
  show _ :: _ :: (τ ++ (ra,MO.l (r.map V.int)) :: σ) = _ :: _ :: ((τ ++ [(ra,MO.l (r.map V.int))]) ++ σ)
  rw [List.append_assoc]; rfl
theorem loop15 (P:Prog1 B) (hp:p.OK) (ho:okB t = true) (hd:dB t ≤ 40) (hk:43 ≤ k) {w:Nat} (hw:p.n = 0 ∨ (hi = lo + w ∧ 0 < w)) (h2:∀ x,(ra,x) ∉ σ) (m:Nat) : ∀ (j:Nat) (τ:Store) (l8 l9 l10:Option V),j + (m + 1) = w ^ p.n → (∀ x,(ra,x) ∉ τ) →
    whlW (fun L σ R => tvW B k σ (.lit (.bool true)) L R) (stW B k body15) (stW B k .nil) (RetQ fun d σ' => ∃ τ',σ' = τ' ++ σ ∧ frzV τ' d = resV p (fun s => evB s t) ((List.range' j (m + 1)).map (rowAt lo w p.n))) (m + 1)
      (L15 (repB t) p.N p.R p.z lo hi p.n ra l8 l9 l10) (τ ++ (ra,.l ((rowAt lo w p.n j).map V.int)) :: σ) := by
  have hres : ∀ m j,resV p (fun s => evB s t) ((List.range' j (m + 1)).map (rowAt lo w p.n)) = if evB (p.at (rowAt lo w p.n j)) t then resV p (fun s => evB s t) ((List.range' (j + 1) m).map (rowAt lo w p.n)) else stV (p.at (rowAt lo w p.n j)) := fun m j => rfl
  induction m with
  | zero =>
    intro j τ l8 l9 l10 hj h1
    have hnx : nxt lo hi (rowAt lo w p.n j).reverse = none := by
      rcases hw with h | ⟨h,h'⟩
      · rw [h]; rfl
      · rw [h,nxt_row lo w h' p.n j (lt_of_add hj),if_neg (by rw [← hj]; exact Nat.lt_irrefl _)]
    refine whl_yes (tv_pure rfl) (turn15 P hp ho hd hk (rowAt_length lo w p.n j) h1 h2 (fun e a b f => ?_) (fun e _ τ' => ⟨τ',rfl,by rw [hres,e]; rfl⟩) fun e q hq => by rw [hnx] at hq; exact noS hq)
    obtain ⟨τ',e1,e2⟩ := ret15 (p := p) f (rowAt_length lo w p.n j)
    exact ⟨τ',e1,by rw [e2,hres,e]; rfl⟩
  | succ m ih =>
    intro j τ l8 l9 l10 hj h1
    have hnx : nxt lo hi (rowAt lo w p.n j).reverse = some (rowAt lo w p.n (j + 1)).reverse := by
      rcases hw with h | ⟨h,h'⟩
      · rw [h,Nat.pow_zero] at hj; exact absurd (Nat.succ.inj hj) (Nat.succ_ne_zero _)
      · rw [h,nxt_row lo w h' p.n j (lt_of_add hj),if_pos (lt_of_add (next_add hj))]
    rw [hres]
    cases e : evB (p.at (rowAt lo w p.n j)) t with
    | true =>
      refine whl_yes (tv_pure rfl) (turn15 P hp ho hd hk (rowAt_length lo w p.n j) h1 h2 (fun e' => by rw [e] at e'; exact noB e'.symm) (fun _ e' => by rw [hnx] at e'; exact noS e'.symm) fun _ q hq τ' h l8 l9 l10 => ?_)
      rw [hnx] at hq
      rw [← Option.some.inj hq,List.reverse_reverse]
      exact ih (j + 1) τ' l8 l9 l10 (next_add hj) h
    | false => exact whl_yes (tv_pure rfl) (turn15 P hp ho hd hk (rowAt_length lo w p.n j) h1 h2 (fun _ a b f => ret15 (p := p) f (rowAt_length lo w p.n j)) (fun e' => by rw [e] at e'; exact noB e') fun e' => by rw [e] at e'; exact noB e')
theorem rep_flat {α:Type} (x:α) (n:Nat) : (List.replicate n [x]).flatten = List.replicate n x := by
  induction n with
  | zero => rfl
  | succ n ih => rw [List.replicate_succ,List.flatten_cons,ih,List.replicate_succ]; rfl
theorem st_newM {L:Lc} {m n:Nat} {a b:CE} {x:V} {r:CS} {Q:Out → Store → Prop} (h1:EvTo B k σ L a (.lst [x])) (h2:EvTo B k σ L b (.int (n:Nat))) (hz:n ≤ 100000) (u:∀ ad,(∀ m,(ad,m) ∉ σ) → stW B k r (L.set m (some (.ref ad))) ((ad,.l (List.replicate n x)) :: σ) Q) : stW B k (.newL m (.bin .mul a b) r) L σ Q := by
  refine h1 _ (h2 _ ⟨[x],(n:Nat),rfl,rfl,Int.lt_of_le_of_lt (Int.ofNat_le.mpr hz) (by decide),Int.le_trans (by decide) (Int.natCast_nonneg n),?_,?_⟩)
  · rw [Int.toNat_natCast,List.length_singleton,Nat.one_mul]; exact Nat.le_trans hz (by decide)
  · rw [Int.toNat_natCast,rep_flat]; exact u
theorem row0 (lo:Int) (w n:Nat) : rowAt lo w n 0 = List.replicate n lo := by
  induction n with
  | zero => rfl
  | succ n ih =>
    show rowAt lo w n (0 / w) ++ [lo + ((0 % w : Nat) : Int)] = _
    rw [Nat.zero_div,Nat.zero_mod,ih,List.replicate_succ']
    exact congrArg (fun x => List.replicate n lo ++ [x]) (Int.add_zero lo)
theorem tv_gti {L:Lc} {a b:CE} {i j:Int} (h1:EvTo B k σ L a (.int i)) (h2:EvTo B k σ L b (.int j)) : TvTo B k σ L (.cmp .gt a b) (decide (j < i)) := fun Q hq => h1 _ (h2 _ ⟨_,rfl,hq⟩)
theorem tv_lei {L:Lc} {a b:CE} {i j:Int} {q:Bool} (h1:EvTo B k σ L a (.int i)) (h2:EvTo B k σ L b (.int j)) (e:decide (i ≤ j) = q) : TvTo B k σ L (.cmp .le a b) q := fun Q hq => h1 _ (h2 _ ⟨_,rfl,by rw [e]; exact hq⟩)
theorem c_refute (P:Prog1 B) (hp:p.OK) (ho:okB t = true) (hd:dB t ≤ 40) (hk:43 ≤ k) : CallP B (k + 1) 15 [repB t,.lst (p.N.map V.str),.lst (p.R.map V.str),.int lo,.int hi,.int p.z] σ (resV p (fun s => evB s t) (rws lo (hi - lo).toNat p.n)) := by
  refine CallP_of_frz (callB P (by decide) (by kernel_rfl) ok15 tr15 ⟨rfl,rfl⟩ rfl ?_)
  rw [nx15]
  refine st_asg (d := .int ((p.n : Nat) : Int)) (fun Q q => to_add (to_lenM rfl) (to_mul (to_lenM rfl) (to_var rfl) (abs_le hp.r) (abs_le hp.z)) Q q) ?_
  show stW _ _ _ [some (repB t),some (.lst (p.N.map V.str)),some (.lst (p.R.map V.str)),some (.int lo),some (.int hi),some (.int p.z),some (.int p.n),none,none,none,none] _ _
  by_cases h : p.n = 0 ∨ lo < hi
  · refine st_no (tv_and (tv_gti (to_var rfl) to_lit) (fun e => tv_lei (to_var rfl) (to_var rfl) (decide_eq_false (Int.not_le.mpr (h.resolve_left fun q => ?_)))) fun _ => rfl) ?_
    · rw [q] at e; exact absurd (of_decide_eq_true e) (Int.lt_irrefl _)
    · have hw : p.n = 0 ∨ (hi = lo + (hi - lo).toNat ∧ 0 < (hi - lo).toNat) := h.imp id fun h => ⟨by rw [Int.toNat_of_nonneg (Int.sub_nonneg_of_le (Int.le_of_lt h)),Int.add_comm,Int.sub_add_cancel],Int.lt_toNat.mpr (Int.sub_pos_of_lt h)⟩
      have hpos : 0 < (hi - lo).toNat ^ p.n := hw.elim (fun h => by rw [h,Nat.pow_zero]; decide) fun h => Nat.pow_pos h.2
      refine st_newM (n := p.n) (to_lst (to_cons (to_var rfl) to_nil) (Nat.le_of_ble_eq_true rfl)) (to_var rfl) (Nat.le_trans (Nat.add_le_add hp.n (Nat.mul_le_mul hp.r hp.z)) (by decide)) fun ra hra => ?_
      obtain ⟨M,hM⟩ := Nat.exists_eq_add_of_le' hpos
      have hl := loop15 (lo := lo) (hi := hi) P hp ho hd hk hw hra M 0 [] none none none (by rw [hM,Nat.zero_add]) fun x hx => nomatch hx
      rw [← hM,← List.range_eq_range',← rws_eq,row0,List.map_replicate] at hl
      exact ⟨_,hl⟩
  · have hn : p.n ≠ 0 := fun q => h (.inl q)
    have hlt : ¬ lo < hi := fun q => h (.inr q)
    refine st_yes (tv_and (tv_gti (to_var rfl) to_lit) (fun e => tv_lei (to_var rfl) (to_var rfl) (decide_eq_true (Int.not_lt.mp hlt))) fun e => absurd (Int.ofNat_lt.mpr (Nat.pos_of_ne_zero hn)) (of_decide_eq_false e)) (st_ret to_lit ⟨[],rfl,?_⟩)
    obtain ⟨m,hm⟩ := Nat.exists_eq_succ_of_ne_zero hn
    rw [Int.toNat_of_nonpos (Int.sub_nonpos_of_le (Int.not_lt.mp hlt)),hm,rws_eq,Nat.pow_succ,Nat.mul_zero]
    rfl
end
section
variable {B:B0} {k:Nat} {σ:Store} {L:Lc} {a b e:CE} {x:V} {p:Bool}
theorem pairs_items (ps:List (List Nat × V)) : pairsOf (itemsV ps) = some ps := by
  induction ps with
  | nil => rfl
  | cons p r ih =>
    show (match some (p.1,p.2),pairsOf (itemsV r) with | some p,some ps => some (p :: ps) | _,_ => none) = _
    rw [ih]
theorem to_dict {ps:List (List Nat × V)} (h:EvTo B k σ L e (.lst (itemsV ps))) (hn:(keysOf ps).Nodup) (hz:ps.length ≤ 1000) : EvTo B k σ L (.prim .dict (.cons e .nil)) (.sd ps) := to_prim (to_cons h to_nil) fun Q q => by
  show (match pairsOf (itemsV ps) with | some ps' => (itemsV ps).length ≤ 1000 ∧ Q (.sd (putAll [] ps')) | none => False)
  rw [pairs_items]
  refine ⟨by rw [itemsV,List.length_map]; exact hz,?_⟩
  rw [putAll_new ps [] (by rw [List.nil_append]; exact hn),List.nil_append]
  exact q
theorem tv_same (h1:EvTo B k σ L a x) (h2:EvTo B k σ L b x) (hp:x.plain = true) (hd:x.depth ≤ 4000) : TvTo B k σ L (.cmp .ne a b) false := fun Q hq => by
  refine h1 _ (h2 _ ?_)
  have hv := veq_refl x
  show eqW true x x fun d => ∃ p,d = .bool p ∧ Q p
  cases x with
  | int i => exact ⟨_,rfl,by rw [bne_self_eq_false]; exact hq⟩
  | str s => exact ⟨_,rfl,by rw [bne_self_eq_false]; exact hq⟩
  | bool s => exact ⟨_,rfl,by rw [bne_self_eq_false]; exact hq⟩
  | _ => exact ⟨hp,hp,.inl hd,_,rfl,by rw [hv]; exact hq⟩
theorem tv_isbool (h:EvTo B k σ L e (.bool p)) : TvTo B k σ L (.not (.cmp .is_ (.prim .type (.cons e .nil)) (.lit (.atom (.type "bool"))))) false := by
  have h2 : EvTo B k σ L (.prim .type (.cons e .nil)) (.atom (.type "bool")) := to_prim (to_cons h to_nil) fun Q q => q
  exact tv_not (p := true) fun Q hq => h2 _ (to_lit _ ⟨true,rfl,hq⟩)
end
noncomputable def mkL (f:Nat → Option V) : Lc := (List.range 42).map f
noncomputable def up (f:Nat → Option V) (i:Nat) (d:V) : Nat → Option V := fun j => if j = i then some d else f j
noncomputable def ups (f:Nat → Option V) : List Nat → List V → (Nat → Option V)
  | i :: is,d :: ds => ups (up f i d) is ds
  | _,_ => f
theorem mk_len (f:Nat → Option V) : (mkL f).length = 42 := by rw [mkL,List.length_map,List.length_range]
theorem mk_get (f:Nat → Option V) {i:Nat} (h:i < 42) : (mkL f)[i]? = some (f i) := by
  rw [mkL,List.getElem?_map,List.getElem?_range h]; rfl
theorem mk_set (f:Nat → Option V) {i:Nat} (h:i < 42) (d:V) : (mkL f).set i (some d) = mkL (up f i d) := by
  refine List.ext_getElem? fun j => ?_
  by_cases hj : j < 42
  · rw [mk_get _ hj,List.getElem?_set,mk_get _ hj]
    by_cases e : i = j
    · rw [if_pos e,if_pos (by rw [mk_len]; exact h)]
      exact congrArg some (if_pos e.symm).symm
    · rw [if_neg e]
      exact congrArg some (if_neg (Ne.symm e)).symm
  · rw [List.getElem?_eq_none (by rw [List.length_set,mk_len]; exact Nat.not_lt.mp hj),List.getElem?_eq_none (by rw [mk_len]; exact Nat.not_lt.mp hj)]
theorem mk_setAll (is:List Nat) : ∀ (ds:List V) (f:Nat → Option V),(∀ i ∈ is,i < 42) → setAll (mkL f) is ds = mkL (ups f is ds) := by
  induction is with
  | nil => exact fun ds f _ => rfl
  | cons i is ih =>
    intro ds f h
    cases ds with
    | nil => rfl
    | cons d ds =>
      show setAll ((mkL f).set i (some d)) is ds = _
      rw [mk_set f (h i (.head _)),ih ds _ fun j hj => h j (.tail _ hj)]
      rfl
section
variable {B:B0} {k:Nat} {σ:Store} {f:Nat → Option V} {e:CE} {d:V} {n:Nat}
theorem v_ (h:f n = some d) (hn:n < 42 := by decide) : EvTo B k σ (mkL f) (.var n) d := to_var (by rw [mk_get f hn,h])
theorem s_asg {m:Nat} {r:CS} {Q:Out → Store → Prop} (h:EvTo B k σ (mkL f) e d) (t:stW B k r (mkL (up f m d)) σ Q) (hm:m < 42 := by decide) : stW B k (.asg m e r) (mkL f) σ Q := st_asg h (by rw [mk_set f hm]; exact t)
theorem s_unp {is:List Nat} {r:CS} {ds:List V} {Q:Out → Store → Prop} (h:EvTo B k σ (mkL f) e (.tup ds)) (hl:ds.length = is.length) (t:stW B k r (mkL (ups f is ds)) σ Q) (hm:∀ i ∈ is,i < 42 := by decide) : stW B k (.unp is e r) (mkL f) σ Q := st_unp h hl (by rw [mk_setAll is ds f hm]; exact t)
end
noncomputable def tlS : CS → CS
  | .asg _ _ r => r
  | .unp _ _ r => r
  | .newL _ _ r => r
  | .iff _ _ _ r => r
  | .for_ _ _ _ _ r => r
  | _ => .nil
noncomputable def lw : Nat → CS
  | 0 => core23
  | n + 1 => tlS (lw n)
noncomputable abbrev gS_ (S:List Int) (i:Nat) : Int := S.getD i 0
noncomputable def sw (S:List Int) : Lw := ⟨S.getD 1 0,S.getD 2 0 % 4,fun i => S.getD (3 + i) 0⟩
noncomputable def sSh (S:List Int) : Nat := (S.getD 0 0 % 5).toNat
noncomputable def sL (S:List Int) : Nat := (S.getD 20 0 % 4).toNat
noncomputable def ns0 (S:List Int) : List (List Nat × Int) := ([(kx,S.getD 14 0 % 5 - 2),(ky,S.getD 15 0)] : List (List Nat × Int)).drop (S.getD 16 0 % 3).toNat
noncomputable def ar0 (S:List Int) : List (List Nat × List Int) :=
  match (S.getD 17 0 % 4).toNat with
  | 0 => []
  | 1 => [(ka,[S.getD 18 0 % 5 - 2,S.getD 19 0 % 5 - 2])]
  | 2 => [(ka,[S.getD 19 0 % 5 - 2])]
  | _ => [(ka,[])]
noncomputable def s0 (S:List Int) : St := ⟨ns0 S,ar0 S⟩
theorem one_ar {v:List Int} (hv:v.length ≤ 2) : (([(ka,v)] : List (List Nat × List Int)).map (·.1)).Nodup ∧ (∀ p ∈ ([(ka,v)] : List (List Nat × List Int)),p.1 = ka ∨ p.1 = [98]) ∧ ∀ p ∈ ([(ka,v)] : List (List Nat × List Int)),p.2.length ≤ 2 :=
  ⟨List.nodup_cons.mpr ⟨List.not_mem_nil,List.nodup_nil⟩,fun p hp => by rw [List.mem_singleton.mp hp]; exact .inl rfl,fun p hp => by rw [List.mem_singleton.mp hp]; exact hv⟩
theorem inv0 (S:List Int) : Inv (s0 S) := by
  have ha : ((ar0 S).map (·.1)).Nodup ∧ (∀ p ∈ ar0 S,p.1 = ka ∨ p.1 = [98]) ∧ ∀ p ∈ ar0 S,p.2.length ≤ 2 := by
    unfold ar0
    generalize (S.getD 17 0 % 4).toNat = n
    match n with
    | 0 => exact ⟨List.nodup_nil,fun p hp => (nomatch hp),fun p hp => (nomatch hp)⟩
    | 1 => exact one_ar (Nat.le_refl _)
    | 2 => exact one_ar (Nat.le_succ _)
    | n + 3 => exact one_ar (Nat.zero_le _)
  refine ⟨?_,ha.1,fun p hp => ?_,ha.2.1,ha.2.2⟩
  · show ((ns0 S).map (·.1)).Nodup
    rw [ns0,List.map_drop]
    exact List.Nodup.sublist (List.drop_sublist _ _) (by decide:([kx,ky] : List (List Nat)).Nodup)
  · exact (List.mem_cons.mp (List.mem_of_mem_drop hp)).imp (fun e => by rw [e]) fun h => by rw [List.mem_singleton.mp h]
theorem wok (S:List Int) : WOK (sw S) := ⟨Int.emod_nonneg _ (by decide),Int.lt_add_one_iff.mp (show S.getD 2 0 % 4 < 3 + 1 from Int.emod_lt_of_pos _ (by decide))⟩
theorem sh_lt (S:List Int) : sSh S < 5 := mod_lt (S.getD 0 0) (n := 5) (by decide)
theorem toN (u:Int) {n:Int} (h:n ≠ 0) : u % n = (((u % n).toNat : Nat) : Int) := (Int.toNat_of_nonneg (Int.emod_nonneg u h)).symm
theorem vals_eq (S:List Int) : pick [.tup [.str kx,.int (S.getD 14 0 % 5 - 2)],.tup [.str ky,.int (S.getD 15 0)]] (some (S.getD 16 0 % 3)) none none = itemsV (nsV (s0 S)) := by
  rw [toN (S.getD 16 0) (n := 3) (by decide),pick_from _ _ (Nat.le_of_lt_succ (mod_lt (S.getD 16 0) (n := 3) (by decide)))]
  show _ = ((ns0 S).map fun p => (p.1,V.int p.2)).map fun p => V.tup [.str p.1,p.2]
  rw [ns0,List.map_drop,List.map_drop]
  rfl
theorem arrs_eq (S:List Int) : pick [.tup [.str ka,.lst (pick [.int (S.getD 18 0 % 5 - 2),.int (S.getD 19 0 % 5 - 2)] (some (S.getD 17 0 % 4 - 1)) none none)]] none (some (S.getD 17 0 % 4)) none = itemsV (arV (s0 S)) := by
  have h := mod_lt (S.getD 17 0) (n := 4) (by decide)
  show _ = itemsV ((ar0 S).map fun p => (p.1,arV1 p.2))
  unfold ar0
  rw [toN (S.getD 17 0) (n := 4) (by decide),Int.toNat_natCast]
  revert h
  generalize (S.getD 17 0 % 4).toNat = n
  generalize S.getD 18 0 % 5 - 2 = x
  generalize S.getD 19 0 % 5 - 2 = y
  intro h
  match n with
  | 0 => kernel_rfl
  | 1 => kernel_rfl
  | 2 => kernel_rfl
  | 3 => kernel_rfl
  | n + 4 => exact absurd h (Nat.not_lt.mpr (Nat.le_add_left _ _))
noncomputable def spaces : List Spc := [⟨[kx],[ka],1⟩,⟨[kx,ky],[],1⟩,⟨[],[ka],2⟩,⟨[kx,ky],[ka],0⟩,⟨[],[ka],0⟩,⟨[ky],[],0⟩,⟨[kx],[ka,[98]],1⟩,⟨[kx,ky],[ka],1⟩]
noncomputable def spcV (p:Spc) : V := .tup [.tup (p.N.map V.str),.tup (p.R.map V.str),.int p.z]
structure Prog2 (B:B0) : Prop where
  P : Prog1 B
  gv : B.gv = [.tup ((List.range 5).map flowV),.tup (spaces.map spcV)]
structure Sl1 (S:List Int) (f:Nat → Option V) : Prop where
  h0 : f 0 = some (.lst (S.map V.int))
  h1 : f 1 = some (.int (sSh S))
  h2 : f 2 = some (flowV (sSh S))
  h3 : f 3 = some (mixV (sw S))
  h4 : f 4 = some (.lst (piecesL (sw S)))
  h8 : f 8 = some (stV (s0 S))
  h9 : f 9 = some (stV (s0 S))
  h10 : f 10 = some (sV (s0 S))
theorem up_ne {f:Nat → Option V} {i j:Nat} {d:V} {x:Option V} (h:f j = x) (hn:j ≠ i) : up f i d j = x := by unfold up; rw [if_neg hn]; exact h
theorem up_eq (f:Nat → Option V) (i:Nat) (d:V) : up f i d i = some d := by unfold up; rw [if_pos rfl]
theorem lt_ne {i j:Nat} (a:Nat) (h:a < i) (h2:j ≤ a := by decide) : j ≠ i := Nat.ne_of_lt (Nat.lt_of_le_of_lt h2 h)
theorem Sl1.up {S:List Int} {f:Nat → Option V} (h:Sl1 S f) {i:Nat} (d:V) (hi:10 < i) : Sl1 S (Mine.up f i d) :=
  ⟨up_ne h.h0 (lt_ne 10 hi),up_ne h.h1 (lt_ne 10 hi),up_ne h.h2 (lt_ne 10 hi),up_ne h.h3 (lt_ne 10 hi),up_ne h.h4 (lt_ne 10 hi),up_ne h.h8 (lt_ne 10 hi),up_ne h.h9 (lt_ne 10 hi),up_ne h.h10 (lt_ne 10 hi)⟩
section
variable {B:B0} {k:Nat} {σ:Store} {S:List Int} {f:Nat → Option V} {Q:Out → Store → Prop}
theorem sc (h0:f 0 = some (.lst (S.map V.int))) (hS:24 ≤ S.length) (i:Nat) (hi:i < 24 := by decide) : EvTo B k σ (mkL f) (.idx (.var 0) (.lit (.int (i:Int)))) (.int (S.getD i 0)) :=
  to_idx (v_ h0) to_lit rfl (Int.natCast_nonneg i) (cell_at S i (Nat.lt_of_lt_of_le hi hS))
theorem new_len (f:Nat → Option V) (n:Nat) : (newL0 42 n (mkL f)).length = 42 + n := by
  rw [newL0,List.length_append,List.length_take,List.length_replicate,mk_len]; rfl
theorem new_get (f:Nat → Option V) (n:Nat) {i:Nat} (h:i < 42) : (newL0 42 n (mkL f))[i]? = some (f i) := by
  unfold newL0
  rw [List.getElem?_append_left (by rw [List.length_take,mk_len]; exact h),List.getElem?_take_of_lt h,mk_get f h]
theorem comp_kept (ps:List (List Nat × List Int)) : ∀ (acc:List V) (Q:V → Prop),Q (.lst (acc ++ itemsV (ps.map fun p => (p.1,arV1 p.2)))) →
    compW (evW B k σ (.tup (.cons (.var 42) (.cons (.sl (.var 43) (.lit .none) (.lit .none)) .nil)))) [42,43] (newL0 42 2 (mkL f)) (itemsV (ps.map fun p => (p.1,arV1 p.2))) acc Q := by
  induction ps with
  | nil => intro acc Q q; rw [show itemsV (([] : List (List Nat × List Int)).map fun p => (p.1,arV1 p.2)) = [] from rfl,List.append_nil] at q; exact q
  | cons p ps ih =>
    intro acc Q q
    have hl := new_len f 2
    have e1 : (((newL0 42 2 (mkL f)).set 42 (some (.str p.1))).set 43 (some (arV1 p.2)))[42]? = some (some (.str p.1)) := by
      rw [List.getElem?_set_ne (by decide),List.getElem?_set_self (by rw [hl]; decide)]
    have e2 : (((newL0 42 2 (mkL f)).set 42 (some (.str p.1))).set 43 (some (arV1 p.2)))[43]? = some (some (arV1 p.2)) := by
      rw [List.getElem?_set_self (by rw [List.length_set,hl]; decide)]
    exact Exists.intro _ (And.intro rfl (to_tup (to_cons (to_var e1) (to_cons (to_cp (to_var e2)) to_nil)) (Nat.le_of_ble_eq_true rfl) _ (ih _ Q (by rw [List.append_assoc]; exact q))))
theorem seg1 (P:Prog2 B) (hS:24 ≤ S.length) (h0:f 0 = some (.lst (S.map V.int))) (T:∀ f',Sl1 S f' → stW B k (lw 11) (mkL f') σ Q) : stW B k (lw 1) (mkL f) σ Q := by
  have hi := inv0 S
  refine s_asg (m := 1) (r := lw 2) (to_mod (sc (by exact h0) hS 0) to_lit (by decide)) ?_
  have e1 : S.getD 0 0 % 5 = ((sSh S:Nat) : Int) := toN (S.getD 0 0) (n := 5) (by decide)
  rw [e1]
  refine s_asg (m := 2) (r := lw 3) (d := flowV (sSh S)) (to_idx (to_gl (d := .tup ((List.range 5).map flowV)) (by rw [P.gv]; rfl)) (v_ rfl) rfl (Int.natCast_nonneg _) ?_) ?_
  · rw [Int.toNat_natCast,List.getElem?_map,List.getElem?_range (sh_lt S)]; rfl
  refine s_asg (m := 3) (r := lw 4) (d := mixV (sw S)) (to_tup (to_cons (sc (by exact h0) hS 1) (to_cons (to_mod (sc (by exact h0) hS 2) to_lit (by decide)) to_nil)) (Nat.le_of_ble_eq_true rfl)) ?_
  refine s_asg (m := 4) (r := lw 5) (d := .lst (piecesL (sw S))) (to_lst (to_cons (sc (by exact h0) hS 3) (to_cons (sc (by exact h0) hS 4) (to_cons (sc (by exact h0) hS 5) (to_cons (sc (by exact h0) hS 6) (to_cons (sc (by exact h0) hS 7) (to_cons (sc (by exact h0) hS 8) (to_cons (sc (by exact h0) hS 9) (to_cons (sc (by exact h0) hS 10) (to_cons (sc (by exact h0) hS 11) (to_cons (sc (by exact h0) hS 12) (to_cons (sc (by exact h0) hS 13) to_nil))))))))))) (Nat.le_of_ble_eq_true rfl)) ?_
  refine s_asg (m := 5) (r := lw 6) (to_mod (sc (by exact h0) hS 17) to_lit (by decide)) ?_
  refine s_asg (m := 6) (r := lw 7) (d := .lst (itemsV (nsV (s0 S)))) ?_ ?_
  · rw [← vals_eq]
    exact to_sl (to_lst (to_cons (to_tup (to_cons to_lit (to_cons (to_sub (to_mod (sc (by exact h0) hS 14) to_lit (by decide)) to_lit) to_nil)) (Nat.le_of_ble_eq_true rfl)) (to_cons (to_tup (to_cons to_lit (to_cons (sc (by exact h0) hS 15) to_nil)) (Nat.le_of_ble_eq_true rfl)) to_nil)) (Nat.le_of_ble_eq_true rfl)) (to_mod (sc (by exact h0) hS 16) to_lit (by decide)) to_lit rfl rfl
  refine s_asg (m := 7) (r := lw 8) (d := .lst (itemsV (arV (s0 S)))) ?_ ?_
  · rw [← arrs_eq]
    exact to_sl (to_lst (to_cons (to_tup (to_cons to_lit (to_cons (to_sl (to_lst (to_cons (to_sub (to_mod (sc (by exact h0) hS 18) to_lit (by decide)) to_lit) (to_cons (to_sub (to_mod (sc (by exact h0) hS 19) to_lit (by decide)) to_lit) to_nil)) (Nat.le_of_ble_eq_true rfl)) (to_sub (v_ rfl) to_lit) to_lit rfl rfl) to_nil)) (Nat.le_of_ble_eq_true rfl)) to_nil) (Nat.le_of_ble_eq_true rfl)) to_lit (v_ rfl) rfl rfl
  refine s_asg (m := 8) (r := lw 9) (d := stV (s0 S)) (to_tup (to_cons (v_ rfl) (to_cons (v_ rfl) to_nil)) (Nat.le_of_ble_eq_true rfl)) ?_
  refine s_asg (m := 9) (r := lw 10) (d := stV (s0 S)) (to_tup (to_cons (d := .lst (itemsV (nsV (s0 S)))) ?_ (to_cons (d := .lst (itemsV (arV (s0 S)))) (fun Q q => ?_) to_nil)) (Nat.le_of_ble_eq_true rfl)) ?_
  · exact to_cp (v_ rfl)
  · exact to_comp (v_ rfl) rfl (by rw [itemsV,List.length_map,arV,List.length_map]; exact Nat.le_trans hi.la (by decide)) (comp_kept (ar0 S) [] _ q)
  refine s_asg (m := 10) (r := lw 11) (d := sV (s0 S)) (to_tup (to_cons (to_dict (to_idx (v_ rfl) to_lit rfl (by decide) rfl) (by rw [keys_nsV]; exact hi.kn) (by rw [nsV,List.length_map]; exact Nat.le_trans hi.ln (by decide))) (to_cons (to_dict (to_idx (v_ rfl) to_lit rfl (by decide) rfl) (by rw [keys_arV]; exact hi.kna) (by rw [arV,List.length_map]; exact Nat.le_trans hi.la (by decide))) to_nil)) (Nat.le_of_ble_eq_true rfl)) ?_
  exact T _ ⟨h0,rfl,rfl,rfl,rfl,rfl,rfl,rfl⟩
end
theorem pl_lawT (w:Lw) (u:Int) : (repI (lawT w u)).plain = true := lawT_ind w u (P := fun t => (repI t).plain = true) rfl rfl rfl rfl rfl rfl rfl
theorem pl_lawC {w:Lw} (hw:WOK w) (u:Int) : gB (lawC w u) = true := by
  have h := pl_lawT w u
  have hn : decide (0 ≤ w.n ∧ w.n ≤ 1000) = true := decide_eq_true ⟨hw.lo,Int.le_trans hw.hi (by decide)⟩
  have hL : (repB (lawL w u)).plain = true := plain2 rfl h rfl
  have hE : (repB (lawE w u)).plain = true := plain2 rfl rfl h
  have hK : (repB (lawK w u)).plain = true := plain2 rfl rfl h
  have gL : gB (lawL w u) = true := gB_mk hL rfl
  have gE : gB (lawE w u) = true := gB_mk hE rfl
  refine lawC_ind w u (P := fun c => gB c = true) rfl gL gE (gB_not gL) (gB_and gL gE) (gB_mk (plain2 rfl hL hE) rfl) (gB_implies gE gL) (gB_mk ?_ (an2 hn rfl))
  show ((V.str [97,108,108]).plain && ((V.str kK).plain && ((repI (.var kx)).plain && ((repI (.add (.var kx) (.num w.n))).plain && ((repB (lawK w u)).plain && true))))) = true
  rw [hK]; rfl
theorem gS_lawS {w:Lw} (hw:WOK w) (u:Int) : gS (lawS w u) = true :=
  have h := pl_lawT w u
  lawS_ind w u (P := fun a => gS a = true) rfl h h h (pl_lawC hw _)
theorem ok_lawC {w:Lw} (hw:WOK w) (u:Int) : okB (lawC w u) = true := (gB_of (pl_lawC hw u)).2
theorem dC_lawC (w:Lw) (u:Int) : decide (dB (lawC w u) ≤ 8) = true := decide_eq_true (Nat.le_trans (d_lawC w u) (by decide))
theorem dOK_lawS {w:Lw} (hw:WOK w) (u:Int) : dOK (lawS w u) = true :=
  have h8 : decide (dI (lawT w u) ≤ 8) = true := decide_eq_true (Nat.le_trans (d_lawT w u) (by decide))
  lawS_ind w u (P := fun a => dOK a = true) rfl h8 h8 h8 (an2 (ok_lawC hw _) (dC_lawC w _))
theorem nS_lawS (w:Lw) (u:Int) : nS (lawS w u) = 0 := lawS_ind w u (P := fun a => nS a = 0) rfl rfl rfl rfl rfl
theorem blk_g {w:Lw} (hw:WOK w) (sh:Nat) : gSs (blockB w sh) = true := by
  have g := fun {u} => gS_lawS hw u
  have c := fun {u} => pl_lawC hw u
  have inn : gS (innerB w) = true := an2 (an2 c c) (an2 (an2 g rfl) rfl)
  have b1 : ∀ {x:Sm},gS x = true → (gSs [x] && decide (1 ≤ 1000)) = true := fun h => an2 (an2 h rfl) rfl
  have b2 : (gSs [lawS w (w.p 2),innerB w] && decide (2 ≤ 1000)) = true := an2 (an2 g (an2 inn rfl)) rfl
  have fin : ∀ {x:Sm},gS x = true → gSs [lawS w (w.p 0),x,lawS w (w.p 5)] = true := fun h => an2 g (an2 h (an2 g rfl))
  match sh with
  | 0 => exact fin (an2 (an2 c c) (an2 (an2 g (an2 inn (an2 g rfl))) rfl))
  | 1 => exact an2 g (an2 (an2 (an2 c c) (b1 g)) (an2 inn (an2 g rfl)))
  | 2 => exact fin (an2 (an2 c b2) (b1 g))
  | 3 => exact fin (an2 (an2 c (b1 g)) b2)
  | n + 4 => exact fin (an2 (an2 c (b1 g)) (b1 g))
theorem blk_d {w:Lw} (hw:WOK w) (sh:Nat) : dOKs (blockB w sh) = true := by
  have g := fun {u} => dOK_lawS hw u
  have c : ∀ {u},(okB (lawC w u) && decide (dB (lawC w u) ≤ 8)) = true := fun {u} => an2 (ok_lawC hw u) (dC_lawC w u)
  have inn : dOK (innerB w) = true := an2 c (an2 (an2 g rfl) rfl)
  have b1 : ∀ {x:Sm},dOK x = true → (dOKs [x] && decide (1 ≤ 1000)) = true := fun h => an2 (an2 h rfl) rfl
  have b2 : (dOKs [lawS w (w.p 2),innerB w] && decide (2 ≤ 1000)) = true := an2 (an2 g (an2 inn rfl)) rfl
  have fin : ∀ {x:Sm},dOK x = true → dOKs [lawS w (w.p 0),x,lawS w (w.p 5)] = true := fun h => an2 g (an2 h (an2 g rfl))
  match sh with
  | 0 => exact fin (an2 c (an2 (an2 g (an2 inn (an2 g rfl))) rfl))
  | 1 => exact an2 g (an2 (an2 c (b1 g)) (an2 inn (an2 g rfl)))
  | 2 => exact fin (an2 (an2 c b2) (b1 g))
  | 3 => exact fin (an2 (an2 c (b1 g)) b2)
  | n + 4 => exact fin (an2 (an2 c (b1 g)) (b1 g))
theorem blk_n (w:Lw) (sh:Nat) : nSs (blockB w sh) ≤ 2 ∧ (blockB w sh).length ≤ 4 := by
  have z : ∀ {n:Nat} {u:Int},n ≤ 2 → max (nS (lawS w u)) n ≤ 2 := fun h => by rw [nS_lawS]; exact mm (Nat.zero_le _) h
  have z1 : ∀ {n:Nat} {u:Int},n ≤ 1 → max (nS (lawS w u)) n ≤ 1 := fun h => by rw [nS_lawS]; exact mm (Nat.zero_le _) h
  have z0 : ∀ {u:Int},max (nS (lawS w u)) 0 ≤ 0 := fun {u} => by rw [nS_lawS]; exact Nat.le_refl _
  have inn : nS (innerB w) ≤ 1 := Nat.succ_le_succ z0
  have e : ∀ {u:Int},nSs [lawS w u] ≤ 1 := z1 (Nat.zero_le _)
  have e2 : ∀ {u:Int},nSs [lawS w u] ≤ 2 := z (Nat.zero_le _)
  match sh with
  | 0 => exact ⟨z (mm (Nat.succ_le_succ (z1 (mm inn e))) e2),Nat.le_of_ble_eq_true rfl⟩
  | 1 => exact ⟨z (mm (Nat.succ_le_succ e) (mm (Nat.le_succ_of_le inn) e2)),Nat.le_of_ble_eq_true rfl⟩
  | 2 => exact ⟨z (mm (Nat.succ_le_succ (mm (z1 (mm inn (Nat.zero_le _))) e)) e2),Nat.le_of_ble_eq_true rfl⟩
  | 3 => exact ⟨z (mm (Nat.succ_le_succ (mm e (z1 (mm inn (Nat.zero_le _))))) e2),Nat.le_of_ble_eq_true rfl⟩
  | n + 4 => exact ⟨z (mm (Nat.succ_le_succ (mm e e)) e2),Nat.le_of_ble_eq_true rfl⟩
theorem depthAll_le {d:Nat} (xs:List V) (h:∀ x ∈ xs,x.depth ≤ d) : PyData.depthAll (dataL xs) ≤ d := by
  induction xs with
  | nil => exact Nat.zero_le _
  | cons x xs ih => exact mm (h x (.head _)) (ih fun y hy => h y (.tail _ hy))
theorem depth_lst {d:Nat} {xs:List V} (h:∀ x ∈ xs,x.depth ≤ d) : (V.lst xs).depth ≤ d + 1 := Nat.succ_le_succ (depthAll_le xs h)
theorem depth_tup {d:Nat} {xs:List V} (h:∀ x ∈ xs,x.depth ≤ d) : (V.tup xs).depth ≤ d + 1 := Nat.succ_le_succ (depthAll_le xs h)
theorem plainL_of {xs:List V} (h:∀ x ∈ xs,x.plain = true) : plainL xs = true := by
  induction xs with
  | nil => rfl
  | cons x xs ih => exact an2 (h x (.head _)) (ih fun y hy => h y (.tail _ hy))
noncomputable def Sm_ (d:Nat) (x:V) : Prop := x.plain = true ∧ x.depth ≤ d
theorem sm_str {a:List Nat} (h:(V.str a).plain = true) (d:Nat) : Sm_ d (.str a) := ⟨h,Nat.zero_le _⟩
theorem sm_int (i:Int) (d:Nat) : Sm_ d (.int i) := ⟨rfl,Nat.zero_le _⟩
theorem sm_none (d:Nat) : Sm_ d .none := ⟨rfl,Nat.zero_le _⟩
theorem sm_tup {d:Nat} {xs:List V} (h:∀ x ∈ xs,Sm_ d x) : Sm_ (d + 1) (.tup xs) := ⟨plainL_of fun x hx => (h x hx).1,depth_tup fun x hx => (h x hx).2⟩
theorem sm_lst {d:Nat} {xs:List V} (h:∀ x ∈ xs,Sm_ d x) : Sm_ (d + 1) (.lst xs) := ⟨plainL_of fun x hx => (h x hx).1,depth_lst fun x hx => (h x hx).2⟩
theorem mem2 {P:V → Prop} {a b:V} (ha:P a) (hb:P b) : ∀ x ∈ [a,b],P x := fun x hx => (List.mem_cons.mp hx).elim (fun e => by rw [e]; exact ha) fun hx => by rw [List.mem_singleton.mp hx]; exact hb
theorem sm_items {d:Nat} {ps:List (List Nat × V)} (h:∀ p ∈ ps,(V.str p.1).plain = true ∧ Sm_ d p.2) : ∀ x ∈ itemsV ps,Sm_ (d + 1) x := by
  intro x hx
  obtain ⟨p,hp,rfl⟩ := List.mem_map.mp hx
  exact sm_tup (mem2 (sm_str (h p hp).1 d) (h p hp).2)
theorem sm_ns {s:St} (hi:Inv s) : ∀ p ∈ nsV s,(V.str p.1).plain = true ∧ Sm_ 1 p.2 := by
  intro p hp
  obtain ⟨q,hq,rfl⟩ := List.mem_map.mp hp
  exact ⟨(hi.inn q hq).elim (fun e => by rw [e]; rfl) fun e => by rw [e]; rfl,sm_int _ _⟩
theorem sm_ar {s:St} (hi:Inv s) : ∀ p ∈ arV s,(V.str p.1).plain = true ∧ Sm_ 1 p.2 := by
  intro p hp
  obtain ⟨q,hq,rfl⟩ := List.mem_map.mp hp
  refine ⟨(hi.ina q hq).elim (fun e => by rw [e]; rfl) fun e => by rw [e]; rfl,sm_lst fun x hx => ?_⟩
  obtain ⟨i,_,rfl⟩ := List.mem_map.mp hx
  exact sm_int i 0
theorem mem_sortKV {kvs:List (List Nat × V)} {p:List Nat × V} (h:p ∈ sortKV kvs) : p ∈ kvs := by
  cases kvs with
  | nil => exact h
  | cons a r => cases r with
    | nil => exact h
    | cons b r => cases r with
      | nil =>
        have h : p ∈ (if b.1 < a.1 then [b,a] else [a,b]) := h
        by_cases e : b.1 < a.1
        · rw [if_pos e] at h
          exact (List.mem_cons.mp h).elim (fun e => by rw [e]; exact .tail _ (.head _)) fun h => by rw [List.mem_singleton.mp h]; exact .head _
        · rw [if_neg e] at h; exact h
      | cons _ _ => exact h
theorem sm_st {s:St} (hi:Inv s) : Sm_ 4 (stV s) := sm_tup (mem2 (sm_lst (sm_items (sm_ns hi))) (sm_lst (sm_items (sm_ar hi))))
theorem sm_end {s:St} (hi:Inv s) : Sm_ 4 (endV s) := sm_tup (mem2 (sm_lst (sm_items fun p hp => sm_ns hi p (mem_sortKV hp))) (sm_lst (sm_items fun p hp => sm_ar hi p (mem_sortKV hp))))
theorem sm_run {s:St} (hi:Inv s) (h:How) : Sm_ 5 (runV h s) := by
  cases h with
  | more => exact sm_tup (mem2 (sm_str rfl _) (sm_none _))
  | done => exact sm_tup (mem2 (sm_str rfl _) (sm_end hi))
  | failed => exact sm_tup (mem2 (sm_str rfl _) (sm_end hi))
theorem allI_items {s:St} (kvs:List (List Nat × V)) (h:∀ p ∈ kvs,∃ i,p.2 = .int i) : allI (itemsV kvs) = true := List.all_eq_true.mpr fun x hx => by
  obtain ⟨p,hp,rfl⟩ := List.mem_map.mp hx
  obtain ⟨i,e⟩ := h p hp
  rw [e]; rfl
noncomputable def stp (w:Lw) (i:Nat) : List V := (List.range i).map fun j => repS (lawS w (w.p j))
noncomputable def ask_ (w:Lw) (i:Nat) : List V := (List.range i).map fun j => repB (lawC w (w.p j))
noncomputable def SA (st ak:Nat) (σ:Store) (w:Lw) (i:Nat) : Store := (ak,.l (ask_ w i)) :: (st,.l (stp w i)) :: σ
structure FrA (st ak:Nat) (σ:Store) : Prop where
  ne : st ≠ ak
  s : ∀ m,(st,m) ∉ σ
  a : ∀ m,(ak,m) ∉ σ
section
variable {B:B0} {k:Nat} {σ:Store} {S:List Int} {f:Nat → Option V} {Q:Out → Store → Prop} {st ak:Nat} {w:Lw}
theorem SA_no (h:FrA st ak σ) (i:Nat) : ∀ m,(st,m) ∉ [(ak,MO.l (ask_ w i))] := fun m hm => h.ne (congrArg Prod.fst (List.mem_singleton.mp hm))
theorem SA_s (h:FrA st ak σ) (i:Nat) : (SA st ak σ w i).lookup st = some (.l (stp w i)) := look_mid (τ := [(ak,.l (ask_ w i))]) (SA_no h i)
theorem SA_a (i:Nat) : (SA st ak σ w i).lookup ak = some (.l (ask_ w i)) := lookup_head
theorem s_newL {m:Nat} {r:CS} (T:∀ a,(∀ x,(a,x) ∉ σ) → stW B k r (mkL (up f m (.ref a))) ((a,.l []) :: σ) Q) (hm:m < 42 := by decide) : stW B k (.newL m (.lst .nil) r) (mkL f) σ Q :=
  And.intro (le_line (Nat.zero_le _)) fun a ha => by rw [mk_set f hm]; exact T a ha
noncomputable abbrev body13 : CS := .app (.var 11) (.idx (.call 18 (.cons (.var 13) (.cons (.var 3) (.cons (.var 10) .nil)))) (.lit (.int 0))) (.app (.var 12) (.idx (.call 17 (.cons (.var 13) (.cons (.var 3) (.cons (.var 10) .nil)))) (.lit (.int 0))) .nil)
theorem stp_succ (w:Lw) (i:Nat) : stp w (i + 1) = stp w i ++ [repS (lawS w (w.p i))] := by unfold stp; rw [List.range_succ,List.map_append]; rfl
theorem ask_succ (w:Lw) (i:Nat) : ask_ w (i + 1) = ask_ w i ++ [repB (lawC w (w.p i))] := by unfold ask_; rw [List.range_succ,List.map_append]; rfl
theorem loop13 (P:Prog2 B) (h:FrA st ak σ) {R:StF} (T:∀ f',Sl1 S f' → f' 11 = some (.ref st) → f' 12 = some (.ref ak) → R (mkL f') (SA st ak σ (sw S) 11) Q) (m:Nat) : ∀ (i:Nat) (f:Nat → Option V),i + m = 11 → Sl1 S f → f 11 = some (.ref st) → f 12 = some (.ref ak) →
    forW [13] (stW B (k + 3) body13) R Q ((List.range' i m).map fun j => .int ((sw S).p j)) (mkL f) (SA st ak σ (sw S) i) := by
  induction m with
  | zero => intro i f e hs h11 h12; rw [show i = 11 from e]; exact T f hs h11 h12
  | succ m ih =>
    intro i f e hs h11 h12
    refine Exists.intro ((mkL f).set 13 (some (.int ((sw S).p i)))) (And.intro rfl ?_)
    rw [mk_set f (by decide)]
    have hs' := hs.up (i := 13) (.int ((sw S).p i)) (by decide)
    have h11' : up f 13 (.int ((sw S).p i)) 11 = some (.ref st) := h11
    have h12' : up f 13 (.int ((sw S).p i)) 12 = some (.ref ak) := h12
    have hargs : ∀ σ',EvsTo B (k + 3) σ' (mkL (up f 13 (.int ((sw S).p i)))) (.cons (.var 13) (.cons (.var 3) (.cons (.var 10) .nil))) [.int ((sw S).p i),mixV (sw S),sV (s0 S)] := fun σ' => to_cons (v_ (up_eq _ _ _)) (to_cons (v_ hs'.h3) (to_cons (v_ hs'.h10) to_nil))
    have hlen : i ≤ 1000 := Nat.le_trans (Nat.le_of_lt (lt_of_add e)) (by decide)
    refine st_app (v_ h11') (SA_s h i) (to_idx (to_call (hargs _) (c_lawS P.P (wok S) (inv0 S) _)) to_lit rfl (by decide) rfl) (by rw [stp,List.length_map,List.length_range]; exact hlen) ?_
    rw [show (SA st ak σ (sw S) i).put st _ = _ from put_mid (τ := [(ak,.l (ask_ (sw S) i))]) (SA_no h i) h.s,List.singleton_append]
    refine st_app (v_ h12') lookup_head (to_idx (to_call (hargs _) (c_lawC P.P (wok S) (inv0 S) _)) to_lit rfl (by decide) rfl) (by rw [ask_,List.length_map,List.length_range]; exact hlen) ?_
    rw [show Store.put _ ak _ = _ from put_head fun m hm => (List.mem_cons.mp hm).elim (fun q => h.ne (congrArg Prod.fst q).symm) (h.a m),← stp_succ,← ask_succ]
    exact ih (i + 1) _ (next_add e) hs' h11' h12'
theorem seg2 (P:Prog2 B) (hk:3 ≤ k) (hs:Sl1 S f) (T:∀ f' st ak,FrA st ak σ → Sl1 S f' → f' 11 = some (.ref st) → f' 12 = some (.ref ak) → stW B k (lw 14) (mkL f') (SA st ak σ (sw S) 11) Q) : stW B k (lw 11) (mkL f) σ Q := by
  obtain ⟨k,rfl⟩ := Nat.exists_eq_add_of_le' hk
  refine s_newL (m := 11) (r := lw 12) fun st hst => s_newL (m := 12) (r := lw 13) fun ak hak => ?_
  have hf : FrA st ak σ := ⟨fun e => hak (.l []) (by rw [← e]; exact .head _),hst,fun m hm => hak m (.tail _ hm)⟩
  exact st_seq (b := body13) (r := lw 14) (v_ hs.h4) rfl (Nat.le_of_ble_eq_true rfl) (loop13 (R := stW B (k + 3) (lw 14)) P hf (fun f' a b c => T f' st ak hf a b c) 11 0 _ rfl ((hs.up _ (by decide)).up _ (by decide)) rfl rfl)
end
structure Sl2 (S:List Int) (st ak:Nat) (f:Nat → Option V) : Prop where
  a : Sl1 S f
  h11 : f 11 = some (.ref st)
  h12 : f 12 = some (.ref ak)
  h14 : f 14 = some (.lst (repSs (blockB (sw S) (sSh S))))
theorem Sl2.up {S:List Int} {st ak:Nat} {f:Nat → Option V} (h:Sl2 S st ak f) {i:Nat} (d:V) (hi:14 < i) : Sl2 S st ak (Mine.up f i d) :=
  ⟨h.a.up d (Nat.lt_trans (by decide) hi),up_ne h.h11 (lt_ne 14 hi),up_ne h.h12 (lt_ne 14 hi),up_ne h.h14 (lt_ne 14 hi)⟩
section
variable {B:B0} {k:Nat} {σ:Store} {S:List Int} {f:Nat → Option V} {Q:Out → Store → Prop} {st ak:Nat}
theorem l20 (S:List Int) : S.getD 20 0 % 4 = ((sL S:Nat) : Int) := toN (S.getD 20 0) (n := 4) (by decide)
theorem e20 (h0:f 0 = some (.lst (S.map V.int))) (hS:24 ≤ S.length) : EvTo B k σ (mkL f) (.bin .mod (.idx (.var 0) (.lit (.int 20))) (.lit (.int 4))) (.int (sL S)) := by
  rw [← l20]
  exact to_mod (sc h0 hS 20) to_lit (by decide)
theorem seg3 (P:Prog2 B) (hS:24 ≤ S.length) (hk:60 ≤ k) (hp:∃ p,(p,MO.tab B.tc p) ∈ σ) (hf:FrA st ak σ) (hs:Sl1 S f) (h11:f 11 = some (.ref st)) (h12:f 12 = some (.ref ak)) (T:∀ f',Sl2 S st ak f' → stW B k (lw 21) (mkL f') (SA st ak σ (sw S) 11) Q) : stW B k (lw 14) (mkL f) (SA st ak σ (sw S) 11) Q := by
  obtain ⟨k,rfl⟩ := Nat.exists_eq_add_of_le' hk
  obtain ⟨h,e,l1,hx,hie,hw⟩ := run_walk (sw S) (sSh S) (s0 S) (sL S) (inv0 S)
  have hp' : ∃ p,(p,MO.tab B.tc p) ∈ SA st ak σ (sw S) 11 := by
    obtain ⟨p,hp⟩ := hp
    exact ⟨p,.tail _ (.tail _ hp)⟩
  refine s_asg (m := 14) (r := lw 15) (to_call (to_cons (v_ hs.h1) (to_cons (v_ h11) (to_cons (v_ h12) to_nil))) (c_block P.P (sh_lt S) (SA_s hf 11) (SA_a 11))) ?_
  have s2 : Sl2 S st ak (up f 14 (.lst (repSs (blockB (sw S) (sSh S))))) := ⟨hs.up _ (by decide),up_ne h11 (by decide),up_ne h12 (by decide),up_eq _ _ _⟩
  generalize up f 14 (.lst (repSs (blockB (sw S) (sSh S)))) = f1 at s2
  refine s_unp (is := [15,16]) (r := lw 16) (ds := [.str (howV h),sV e]) (to_call (to_cons (v_ s2.a.h2) (to_cons (v_ s2.a.h4) (to_cons (v_ s2.a.h3) (to_cons (v_ s2.a.h10) (to_cons (e20 s2.a.h0 hS) to_nil))))) (c_walk P.P (wok S) hw (inv0 S))) rfl ?_
  show stW B (k + 60) (lw 16) (mkL (up (up f1 15 (.str (howV h))) 16 (sV e))) _ _
  have s3 := (s2.up (i := 15) (.str (howV h)) (by decide)).up (i := 16) (sV e) (by decide)
  have h15 : up (up f1 15 (.str (howV h))) 16 (sV e) 15 = some (.str (howV h)) := up_ne (up_eq _ _ _) (by decide)
  have h16 : up (up f1 15 (.str (howV h))) 16 (sV e) 16 = some (sV e) := up_eq _ _ _
  generalize up (up f1 15 (.str (howV h))) 16 (sV e) = f2 at s3 h15 h16
  refine s_asg (m := 17) (r := lw 17) (d := .tup [.str (howV h),endV e]) (to_tup (to_cons (v_ h15) (to_cons (to_tup (to_cons (to_sorted (to_idx (v_ h16) to_lit rfl (by decide) rfl) (by rw [nsV,List.length_map]; exact hie.ln)) (to_cons (to_sorted (to_idx (v_ h16) to_lit rfl (by decide) rfl) (by rw [arV,List.length_map]; exact hie.la)) to_nil)) (Nat.le_of_ble_eq_true rfl)) to_nil)) (Nat.le_of_ble_eq_true rfl)) ?_
  have rest : ∀ f',Sl2 S st ak f' → f' 15 = some (.str (howV h)) → f' 17 = some (runV h e) → stW B (k + 60) (lw 18) (mkL f') (SA st ak σ (sw S) 11) Q := by
    intro f' s4 h15 h17
    have sm := sm_run hie h
    refine s_asg (m := 18) (r := lw 19) (d := runV h e) (to_call (to_cons (v_ s4.h14) (to_cons (v_ s4.a.h8) (to_cons (e20 s4.a.h0 hS) to_nil))) (c_run P.P hx (inv0 S) (blk_d (wok S) _) (Nat.le_trans (blk_n (sw S) (sSh S)).2 (by decide)) (Nat.le_trans (Nat.add_le_add_right (blk_n (sw S) (sSh S)).1 9) (Nat.le_trans (by decide:2 + 9 ≤ 58) (Nat.le_add_left _ _))))) ?_
    have s5 := s4.up (i := 18) (runV h e) (by decide)
    have h15' : up f' 18 (runV h e) 15 = some (.str (howV h)) := up_ne h15 (by decide)
    have h17' : up f' 18 (runV h e) 17 = some (runV h e) := up_ne h17 (by decide)
    have h18' : up f' 18 (runV h e) 18 = some (runV h e) := up_eq _ _ _
    generalize up f' 18 (runV h e) = f3 at s5 h15' h17' h18'
    refine st_no (r := lw 20) (tv_same (v_ h18') (v_ h17') sm.1 (Nat.le_trans sm.2 (by decide))) ?_
    refine st_no (r := lw 21) (tv_and (tv_nes (v_ h15') to_lit) (fun ne => ?_) (fun _ => rfl)) (T f3 s5)
    have hm : h ≠ .more := fun q => by rw [q] at ne; exact noB ne
    have er : runV h e = .tup [.str (howV h),endV e] := if_neg hm
    rw [er] at h18'
    refine tv_not (p := true) (tv_prim (vs := [.lst (itemsV (sortKV (nsV e)))]) (to_cons (to_idx (to_idx (v_ h18') to_lit rfl (by decide) rfl) to_lit rfl (by decide) rfl) to_nil) fun Q q => ?_)
    refine ⟨hp',?_,q⟩
    exact allI_items (s := e) _ fun p hp => by
      obtain ⟨x,_,rfl⟩ := List.mem_map.mp (mem_sortKV hp)
      exact ⟨_,rfl⟩
  refine st_if (r := lw 18) (tv_eqs (v_ (up_ne h15 (by decide))) to_lit) (fun ee => ?_) (fun ee => ?_)
  · have hm : h = .more := by
      cases h with
      | more => rfl
      | done => exact noB ee
      | failed => exact noB ee
    refine s_asg (m := 17) (r := .nil) (d := runV h e) (by rw [hm]; exact to_tup (to_cons to_lit (to_cons to_lit to_nil)) (Nat.le_of_ble_eq_true rfl)) ?_
    refine st_nil ?_
    exact rest _ ((s3.up _ (by decide)).up _ (by decide)) (up_ne (up_ne h15 (by decide)) (by decide)) (up_eq _ _ _)
  · have hm : h ≠ .more := fun q => by rw [q] at ee; exact noB ee.symm
    refine st_nil ?_
    refine rest _ (s3.up _ (by decide)) (up_ne h15 (by decide)) ?_
    rw [show runV h e = .tup [.str (howV h),endV e] from if_neg hm]
    exact up_eq _ _ _
end
theorem dep1 {tag:List Nat} {a:V} {d:Nat} (h:a.depth ≤ d) : (V.tup [.str tag,a]).depth ≤ d + 1 := depth_tup (mem2 (P := fun x => x.depth ≤ d) (Nat.zero_le _) h)
theorem mem3 {P:V → Prop} {a:V} {r:List V} (ha:P a) (hr:∀ x ∈ r,P x) : ∀ x ∈ a :: r,P x := fun x hx => (List.mem_cons.mp hx).elim (fun e => by rw [e]; exact ha) (hr x)
theorem dep_two {tag:List Nat} {a b:V} {d:Nat} (h1:a.depth ≤ d) (h2:b.depth ≤ d) : (V.tup [.str tag,a,b]).depth ≤ d + 1 := depth_tup (mem3 (P := fun x => x.depth ≤ d) (Nat.zero_le _) (mem2 h1 h2))
theorem mxl {x a b n:Nat} (h:x ≤ a + n) : x ≤ max a b + n := Nat.le_trans h (Nat.add_le_add_right (Nat.le_max_left _ _) _)
theorem mxr {x a b n:Nat} (h:x ≤ b + n) : x ≤ max a b + n := Nat.le_trans h (Nat.add_le_add_right (Nat.le_max_right _ _) _)
theorem dep_IA : (∀ t : IT,(repI t).depth ≤ dI t + 3) ∧ ∀ t : AT,(repA t).depth ≤ dA t + 3 :=
  IT.both (fun i => dep1 (d := 2) (Nat.zero_le _)) (fun z => dep1 (d := 2) (Nat.zero_le _)) (fun a b h1 h2 => dep_two (mxl h1) (mxr h2)) (fun a b h1 h2 => dep_two (mxl h1) (mxr h2)) (fun a b h1 h2 => dep_two (mxl h1) (mxr h2)) (fun a h => dep1 h) (fun z => dep1 (d := 2) (Nat.zero_le _))
    fun a b c h1 h2 h3 => depth_tup (mem3 (P := fun x => x.depth ≤ max (dA a) (max (dI b) (dI c)) + 3) (Nat.zero_le _) (mem3 (mxl h1) (mem2 (mxr (mxl h2)) (mxr (mxr h3)))))
theorem dep_I (t:IT) : (repI t).depth ≤ dI t + 3 := dep_IA.1 t
theorem dep_B (t:BT) : (repB t).depth ≤ dB t + 5 := by
  have two : ∀ {tag:List Nat} {a b:IT},(V.tup [.str tag,repI a,repI b]).depth ≤ max (dI a) (dI b) + 1 + 5 := fun {_} {a} {b} => Nat.le_trans (dep_two (mxl (dep_I a)) (mxr (dep_I b))) (Nat.add_le_add_left (by decide:4 ≤ 6) _)
  induction t with
  | tru => exact Nat.le_of_ble_eq_true rfl
  | less a b => exact two
  | equal a b => exact two
  | not a ih => exact dep1 ih
  | and a b ih1 ih2 => exact dep_two (mxl ih1) (mxr ih2)
  | or a b ih1 ih2 => exact dep_two (mxl ih1) (mxr ih2)
  | implies a b ih1 ih2 => exact dep_two (mxl ih1) (mxr ih2)
  | all lo n body ih =>
    have h1 : (repI lo).depth ≤ max (dI lo + 1) (dB body) + 5 := mxl (Nat.le_trans (dep_I lo) (Nat.add_le_add_left (by decide:3 ≤ 6) _))
    have h2 : (repI (.add lo (.num n))).depth ≤ max (dI lo + 1) (dB body) + 5 := mxl (Nat.le_trans (dep_I (.add lo (.num n))) (Nat.add_le_add (Nat.succ_le_succ (mm (Nat.le_refl _) (Nat.zero_le _))) (by decide:3 ≤ 5)))
    exact Nat.le_succ_of_le (depth_tup (mem3 (P := fun x => x.depth ≤ max (dI lo + 1) (dB body) + 5) (Nat.zero_le _) (mem3 (Nat.zero_le _) (mem3 h1 (mem2 h2 (mxr ih))))))
section
variable {B:B0} {k:Nat} {σ:Store} {S:List Int} {f:Nat → Option V} {Q:Out → Store → Prop} {st ak:Nat}
theorem asks_at (h12:f 12 = some (.ref ak)) (i:Nat) (hi:i < 11 := by decide) : EvTo B k (SA st ak σ (sw S) 11) (mkL f) (.idx (.var 12) (.lit (.int (i:Int)))) (repB (lawC (sw S) ((sw S).p i))) := by
  refine to_idx (xs := ask_ (sw S) 11) (v_ h12) to_lit (ref_l (SA_a 11)) (Int.natCast_nonneg i) (range_at hi)
theorem asked {e:CE} {p:Bool} {n:Nat} {r:CS} (h:EvTo B k σ (mkL f) (.var n) (.bool p)) (h2:EvTo B k σ (mkL f) e (.bool p)) (t:stW B k r (mkL f) σ Q) :
    stW B k (.iff (.or (.not (.cmp .is_ (.prim .type (.cons (.var n) .nil)) (.lit (.atom (.type "bool"))))) (.cmp .ne (.var n) e)) (.ret (.lit (.bool false))) .nil r) (mkL f) σ Q :=
  st_no (tv_or_no (tv_isbool h) (tv_same h h2 rfl (Nat.zero_le _))) t
noncomputable abbrev body25 : CS := .unp [22,23,24,25] (.idx (.var 2) (.var 21)) (.iff (.cmp .eq (.var 22) (.lit (.str [108,111,111,112]))) (.asg 20 (.bin .add (.var 20) (.lst (.cons (.tup (.cons (.var 25) (.cons (.var 21) (.cons (.var 23) (.cons (.lit (.bool false)) .nil))))) (.cons (.tup (.cons (.var 25) (.cons (.var 21) (.cons (.var 24) (.cons (.lit (.bool true)) .nil))))) .nil)))) .nil) .nil .nil)
noncomputable def pathsAt (sh pc:Nat) : List Path := if (nd sh pc).kd = .loop then [⟨(nd sh pc).goal,pc,(nd sh pc).here,false⟩,⟨(nd sh pc).goal,pc,(nd sh pc).there,true⟩] else []
theorem turn25 (hs:Sl2 S st ak f) {need:BT} (h19:f 19 = some (repB need)) {ps:List Path} (h20:f 20 = some (.lst (ps.map pathV))) (hz:ps.length ≤ 10) {pc:Nat} (hp:pc < 8) (T:∀ f',Sl2 S st ak f' → f' 19 = some (repB need) → f' 20 = some (.lst ((ps ++ pathsAt (sSh S) pc).map pathV)) → Q (.next (mkL f')) σ) :
    stW B k body25 (mkL (up f 21 (.int pc))) σ Q := by
  have hs' := hs.up (i := 21) (.int pc) (by decide)
  refine s_unp (ds := [.str (kdV (nd (sSh S) pc).kd),.int (nd (sSh S) pc).here,.int (nd (sSh S) pc).there,.int (nd (sSh S) pc).goal]) (to_idx (v_ hs'.a.h2) (v_ (up_eq _ _ _)) rfl (Int.natCast_nonneg _) (flow_at _ pc hp)) rfl ?_
  show stW B k _ (mkL (up (up (up (up (up f 21 (.int pc)) 22 (.str (kdV (nd (sSh S) pc).kd))) 23 (.int (nd (sSh S) pc).here)) 24 (.int (nd (sSh S) pc).there)) 25 (.int (nd (sSh S) pc).goal))) σ Q
  have s3 := (((hs'.up (i := 22) (.str (kdV (nd (sSh S) pc).kd)) (by decide)).up (i := 23) (.int (nd (sSh S) pc).here) (by decide)).up (i := 24) (.int (nd (sSh S) pc).there) (by decide)).up (i := 25) (.int (nd (sSh S) pc).goal) (by decide)
  have g19 : up (up (up (up (up f 21 (.int pc)) 22 (.str (kdV (nd (sSh S) pc).kd))) 23 (.int (nd (sSh S) pc).here)) 24 (.int (nd (sSh S) pc).there)) 25 (.int (nd (sSh S) pc).goal) 19 = some (repB need) := h19
  have g20 : up (up (up (up (up f 21 (.int pc)) 22 (.str (kdV (nd (sSh S) pc).kd))) 23 (.int (nd (sSh S) pc).here)) 24 (.int (nd (sSh S) pc).there)) 25 (.int (nd (sSh S) pc).goal) 20 = some (.lst (ps.map pathV)) := h20
  refine st_if (tv_eqs (v_ rfl) to_lit) (fun e => ?_) (fun e => ?_)
  · rw [show ([108,111,111,112] : List Nat) = kdV .loop from rfl,kd_beq] at e
    have e := of_decide_eq_true e
    refine s_asg (to_cat (v_ g20) (to_lst (to_cons (to_tup (to_cons (v_ rfl) (to_cons (v_ rfl) (to_cons (v_ rfl) (to_cons to_lit to_nil)))) (Nat.le_of_ble_eq_true rfl)) (to_cons (to_tup (to_cons (v_ rfl) (to_cons (v_ rfl) (to_cons (v_ rfl) (to_cons to_lit to_nil)))) (Nat.le_of_ble_eq_true rfl)) to_nil)) (Nat.le_of_ble_eq_true rfl)) (by rw [List.length_map]; exact Nat.le_trans (Nat.add_le_add_right hz 2) (by decide))) ?_
    refine T _ ⟨s3.a.up _ (by decide),up_ne s3.h11 (by decide),up_ne s3.h12 (by decide),up_ne s3.h14 (by decide)⟩ (up_ne g19 (by decide)) ?_
    rw [up_eq,pathsAt,if_pos e,List.map_append]
    rfl
  · rw [show ([108,111,111,112] : List Nat) = kdV .loop from rfl,kd_beq] at e
    have e := of_decide_eq_false e
    refine T _ s3 g19 ?_
    rw [g20,pathsAt,if_neg e,List.append_nil]
end
noncomputable def allPaths (sh:Nat) : List Path := ⟨10,10,0,false⟩ :: pathsL sh
theorem LsOK.length {sh:Nat} {w:Lw} {cs:List BT} {qs:List Path} (h:LsOK sh w cs qs) : cs.length = qs.length := by
  induction h with
  | nil => rfl
  | cons _ _ ih => exact congrArg (· + 1) ih
theorem LsOK.at {sh:Nat} {w:Lw} {cs:List BT} {qs:List Path} (h:LsOK sh w cs qs) : ∀ {i:Nat} {c:BT} {q:Path},cs[i]? = some c → qs[i]? = some q → LsOK1 sh w c q := by
  induction h with
  | nil => exact fun h => noS h
  | cons a _ ih =>
    intro i c q h1 h2
    cases i with
    | zero => cases h1; cases h2; exact a
    | succ i => exact ih h1 h2
theorem pathsAt_ok (sh:Nat) {pc:Nat} (h:pc < 11) : (pathsAt sh pc).length ≤ 2 ∧ ∀ q ∈ pathsAt sh pc,q.goal < 11 ∧ q.test < 11 ∧ q.pc < 8 := by
  have hb := nd_bound sh pc
  unfold pathsAt
  by_cases e : (nd sh pc).kd = .loop
  · rw [if_pos e]
    exact ⟨Nat.le_refl _,fun q hq => (List.mem_cons.mp hq).elim (fun e => by rw [e]; exact ⟨hb.2.2,h,hb.1⟩) fun hq => by rw [List.mem_singleton.mp hq]; exact ⟨hb.2.2,h,hb.2.1⟩⟩
  · rw [if_neg e]; exact ⟨Nat.zero_le _,fun q hq => nomatch hq⟩
theorem paths_eq (sh:Nat) : allPaths sh = ⟨10,10,0,false⟩ :: (pathsAt sh 1 ++ pathsAt sh 3) := by
  show _ :: (pathsAt sh 1 ++ (pathsAt sh 3 ++ [])) = _
  rw [List.append_nil]
theorem paths_ok (sh:Nat) : (allPaths sh).length ≤ 5 ∧ ∀ q ∈ allPaths sh,q.goal < 11 ∧ q.test < 11 ∧ q.pc < 8 := by
  have h1 := pathsAt_ok sh (pc := 1) (by decide)
  have h3 := pathsAt_ok sh (pc := 3) (by decide)
  rw [paths_eq]
  refine ⟨Nat.succ_le_succ (by rw [List.length_append]; exact Nat.add_le_add h1.1 h3.1),fun q hq => (List.mem_cons.mp hq).elim (fun e => by rw [e]; exact ⟨by decide,by decide,by decide⟩) fun hq => (List.mem_append.mp hq).elim (h1.2 q) (h3.2 q)⟩
structure Sl3 (S:List Int) (st ak:Nat) (cs:List BT) (f:Nat → Option V) : Prop where
  a : Sl2 S st ak f
  h20 : f 20 = some (.lst ((allPaths (sSh S)).map pathV))
  h26 : f 26 = some (.lst (cs.map repB))
  ok : LsOK (sSh S) (sw S) cs (allPaths (sSh S))
  g : ∀ c ∈ cs,gB c = true
theorem Sl3.up {S:List Int} {st ak:Nat} {cs:List BT} {f:Nat → Option V} (h:Sl3 S st ak cs f) {i:Nat} (d:V) (hi:14 < i) (h1:i ≠ 20) (h2:i ≠ 26) : Sl3 S st ak cs (Mine.up f i d) :=
  ⟨h.a.up d hi,up_ne h.h20 (Ne.symm h1),up_ne h.h26 (Ne.symm h2),h.ok,h.g⟩
section
variable {B:B0} {k:Nat} {σ:Store} {S:List Int} {f:Nat → Option V} {Q:Out → Store → Prop} {st ak:Nat}
theorem comp_tags {f:Nat → Option V} (cs:List BT) : ∀ (acc:List V) (Q:V → Prop),(∀ c ∈ cs,∃ a b,c = BT.implies a b) → Q (.lst (acc ++ List.replicate cs.length (.str [105,109,112,108,105,101,115]))) →
    compW (evW B k σ (.idx (.var 42) (.lit (.int 0)))) [42] (newL0 42 1 (mkL f)) (cs.map repB) acc Q := by
  induction cs with
  | nil => intro acc Q _ q; rw [List.length_nil,List.replicate_zero,List.append_nil] at q; exact q
  | cons c cs ih =>
    intro acc Q h q
    obtain ⟨a,b,rfl⟩ := h c (.head _)
    have e1 : ((newL0 42 1 (mkL f)).set 42 (some (repB (.implies a b))))[42]? = some (some (repB (.implies a b))) := by rw [List.getElem?_set_self (by rw [new_len]; decide)]
    exact Exists.intro _ (And.intro rfl (to_idx (to_var e1) to_lit rfl (by decide) rfl _ (ih _ Q (fun c hc => h c (.tail _ hc)) (by rw [List.append_assoc]; exact q))))
theorem st_zip {L:Lc} {a b:CE} {x:V} {xs ys:List V} {tg:List Nat} {s r:CS} (h1:EvTo B k σ L a x) (h2:EvTo B k σ L b (.lst ys)) (hs:seqV x = some xs) (hz:xs.length ≤ ys.length) (t:forW tg (stW B k s) (stW B k r) Q (zipV xs ys) L σ) : stW B k (.for_ .zip (.cons a (.cons b .nil)) tg s r) L σ Q := by
  refine h1 _ (h2 _ ?_)
  show optW (seqV x) fun xs => xs.length ≤ ys.length ∧ _
  rw [hs]
  exact ⟨hz,t⟩
theorem k60 {d k:Nat} (h:d ≤ 40) : d + 1 ≤ k + 58 := Nat.le_trans (Nat.succ_le_succ h) (Nat.le_trans (by decide) (Nat.le_add_left 58 k))
theorem k62 {d k:Nat} (h:d ≤ 2) : d + 38 ≤ k + 58 := Nat.le_trans (Nat.add_le_add_right h 38) (Nat.le_trans (by decide) (Nat.le_add_left 58 k))
theorem loop28 (P:Prog2 B) (hS:24 ≤ S.length) {cs:List BT} {R:StF} (T:∀ f',Sl3 S st ak cs f' → R (mkL f') σ Q) : ∀ (ds:List BT) (qs:List Path) (f:Nat → Option V),LsOK (sSh S) (sw S) ds qs → (∀ c ∈ ds,gB c = true) → (∀ q ∈ qs,q.goal < 11 ∧ q.test < 11 ∧ q.pc < 8) → Sl3 S st ak cs f →
    forW [27,28] (stW B (k + 60) (.asg 18 (.call 6 (.cons (.var 27) (.cons (.var 8) .nil))) (.iff (.or (.not (.cmp .is_ (.prim .type (.cons (.var 18) .nil)) (.lit (.atom (.type "bool"))))) (.cmp .ne (.var 18) (.call 22 (.cons (.var 2) (.cons (.var 4) (.cons (.var 3) (.cons (.var 28) (.cons (.var 10) .nil)))))))) (.ret (.lit (.bool false))) .nil .nil))) R Q (zipV (ds.map repB) (qs.map pathV)) (mkL f) σ := by
  intro ds qs f hok
  induction hok generalizing f with
  | nil => intro _ _ hs; exact T f hs
  | cons a _ ih =>
    rename_i c q ds qs hrest
    intro hg hq hs
    refine Exists.intro (((mkL f).set 27 (some (repB c))).set 28 (some (pathV q))) (And.intro rfl ?_)
    rw [mk_set f (by decide),mk_set _ (by decide)]
    have hi := inv0 S
    have hg1 := hg c (.head _)
    have hq1 := hq q (.head _)
    have ho := (gB_of hg1).2
    have s1 := (hs.up (i := 27) (repB c) (by decide) (by decide) (by decide)).up (i := 28) (pathV q) (by decide) (by decide) (by decide)
    have h27 : up (up f 27 (repB c)) 28 (pathV q) 27 = some (repB c) := up_ne (up_eq _ _ _) (by decide)
    have h28 : up (up f 27 (repB c)) 28 (pathV q) 28 = some (pathV q) := up_eq _ _ _
    generalize up (up f 27 (repB c)) 28 (pathV q) = f1 at s1 h27 h28
    refine s_asg (m := 18) (d := .bool (evB (s0 S) c)) (to_call (to_cons (v_ h27) (to_cons (v_ s1.a.a.h8) to_nil)) (c_holds P.P ho (k60 a.d) (hi.ok.weak (Nat.le_trans a.d (by decide))) (Nat.le_trans hi.ln (by decide)) (Nat.le_trans hi.la (by decide)))) ?_
    have s2 := s1.up (i := 18) (.bool (evB (s0 S) c)) (by decide) (by decide) (by decide)
    refine asked (v_ (up_eq _ _ _)) (r := .nil) (to_call (to_cons (v_ s2.a.a.h2) (to_cons (v_ s2.a.a.h4) (to_cons (v_ s2.a.a.h3) (to_cons (v_ (up_ne h28 (by decide))) (to_cons (v_ s2.a.a.h10) to_nil))))) ?_) ?_
    · rw [a.tr (s0 S)]
      exact c_truth P.P (wok S) hq1.1 hq1.2.1 hq1.2.2 hi
    · refine st_nilT ?_
      exact ih _ (fun c hc => hg c (.tail _ hc)) (fun q hq' => hq q (.tail _ hq')) s2
theorem seg4 (P:Prog2 B) (hS:24 ≤ S.length) (hk:60 ≤ k) (hs:Sl2 S st ak f) (T:∀ f' cs,Sl3 S st ak cs f' → stW B k (lw 29) (mkL f') (SA st ak σ (sw S) 11) Q) : stW B k (lw 21) (mkL f) (SA st ak σ (sw S) 11) Q := by
  obtain ⟨k,rfl⟩ := Nat.exists_eq_add_of_le' hk
  obtain ⟨need,ls,hbf,hdn,hev,hok⟩ := before_due (sw S) (sSh S)
  have hw := wok S
  have hg7 := pl_lawC hw ((sw S).p 7)
  have hgb := blk_g hw (sSh S)
  obtain ⟨_,gn,gl⟩ := bf_ok P.P hbf hg7 hgb
  have hbn := blk_n (sw S) (sSh S)
  have hlen := hok.length
  have hpo := paths_ok (sSh S)
  have hls : ls.length ≤ 4 := Nat.le_of_succ_le_succ (Nat.le_trans (Nat.le_of_eq hlen) hpo.1)
  have hls' : ls.length ≤ 1000 := Nat.le_trans hls (by decide)
  have hb4 : (blockB (sw S) (sSh S)).length ≤ 1000 := Nat.le_trans hbn.2 (by decide)
  have hi := inv0 S
  have hon := (gB_of gn).2
  refine s_asg (m := 19) (r := lw 22) (d := repB need) (to_call (to_cons (v_ hs.h14) (to_cons (asks_at hs.h12 7) to_nil)) (c_before P.P hbf hg7 hgb (k62 hbn.1) hls' hb4)) ?_
  have s1 := hs.up (i := 19) (repB need) (by decide)
  have h19 : up f 19 (repB need) 19 = some (repB need) := up_eq _ _ _
  generalize up f 19 (repB need) = f1 at s1 h19
  refine s_asg (m := 18) (r := lw 23) (d := .bool (evB (s0 S) need)) (to_call (to_cons (v_ h19) (to_cons (v_ s1.a.h8) to_nil)) (c_holds P.P hon (k60 (Nat.le_trans hdn (by decide))) (hi.ok.weak (Nat.le_trans hdn (by decide))) (Nat.le_trans hi.ln (by decide)) (Nat.le_trans hi.la (by decide)))) ?_
  have s2 := s1.up (i := 18) (.bool (evB (s0 S) need)) (by decide)
  have g19 : up f1 18 (.bool (evB (s0 S) need)) 19 = some (repB need) := up_ne h19 (by decide)
  refine asked (r := lw 24) (v_ (up_eq _ _ _)) (to_call (to_cons (v_ s2.a.h2) (to_cons (v_ s2.a.h4) (to_cons (v_ s2.a.h3) (to_cons to_lit (to_cons (v_ s2.a.h10) to_nil))))) (by rw [hev]; exact c_due (pc := 0) P.P hw (by decide) hi)) ?_
  generalize up f1 18 (.bool (evB (s0 S) need)) = f2 at s2 g19
  refine s_asg (m := 20) (r := lw 25) (d := .lst (([⟨10,10,0,false⟩] : List Path).map pathV)) (to_lst (to_cons (to_tup (to_cons to_lit (to_cons to_lit (to_cons to_lit (to_cons to_lit to_nil)))) (Nat.le_of_ble_eq_true rfl)) to_nil) (Nat.le_of_ble_eq_true rfl)) ?_
  have s3 : Sl2 S st ak (up f2 20 (.lst (([⟨10,10,0,false⟩] : List Path).map pathV))) := s2.up _ (by decide)
  have g19' : up f2 20 (.lst (([⟨10,10,0,false⟩] : List Path).map pathV)) 19 = some (repB need) := up_ne g19 (by decide)
  have g20' : up f2 20 (.lst (([⟨10,10,0,false⟩] : List Path).map pathV)) 20 = some (.lst (([⟨10,10,0,false⟩] : List Path).map pathV)) := up_eq _ _ _
  generalize up f2 20 (.lst (([⟨10,10,0,false⟩] : List Path).map pathV)) = f3 at s3 g19' g20'
  refine st_seq (b := body25) (r := lw 26) (x := .tup [.int 1,.int 3]) (to_pure rfl) rfl (Nat.le_of_ble_eq_true rfl) (Exists.intro ((mkL f3).set 21 (some (.int 1))) (And.intro rfl ?_))
  rw [mk_set f3 (by decide)]
  refine turn25 (pc := 1) s3 g19' g20' (Nat.le_of_ble_eq_true rfl) (by decide) fun f4 s4 a19 a20 => ?_
  refine Exists.intro ((mkL f4).set 21 (some (.int 3))) (And.intro rfl ?_)
  rw [mk_set f4 (by decide)]
  refine turn25 (pc := 3) s4 a19 a20 (Nat.le_trans (Nat.succ_le_succ (pathsAt_ok (sSh S) (pc := 1) (by decide)).1) (by decide)) (by decide) fun f5 s5 b19 b20 => ?_
  have b20' : f5 20 = some (.lst ((allPaths (sSh S)).map pathV)) := by
    rw [b20,paths_eq]; rfl
  have hcs : ∀ c ∈ (BT.implies (lawC (sw S) ((sw S).p 10)) need :: ls),gB c = true := fun c hc => (List.mem_cons.mp hc).elim (fun e => by rw [e]; exact gB_implies (pl_lawC hw _) gn) (gl c)
  refine s_asg (m := 26) (r := lw 27) (d := .lst ((BT.implies (lawC (sw S) ((sw S).p 10)) need :: ls).map repB)) (to_call (to_cons (asks_at s5.h12 10) (to_cons (v_ s5.h14) (to_cons (asks_at s5.h12 7) to_nil))) (c_conditions P.P hbf hg7 hgb (k62 hbn.1) hls' hb4)) ?_
  have s6 : Sl3 S st ak (BT.implies (lawC (sw S) ((sw S).p 10)) need :: ls) (up f5 26 (.lst ((BT.implies (lawC (sw S) ((sw S).p 10)) need :: ls).map repB))) := ⟨s5.up _ (by decide),up_ne b20' (by decide),up_eq _ _ _,hok,hcs⟩
  have c19 : up f5 26 (.lst ((BT.implies (lawC (sw S) ((sw S).p 10)) need :: ls).map repB)) 19 = some (repB need) := up_ne b19 (by decide)
  generalize up f5 26 (.lst ((BT.implies (lawC (sw S) ((sw S).p 10)) need :: ls).map repB)) = f6 at s6 c19
  have him : ∀ c ∈ (BT.implies (lawC (sw S) ((sw S).p 10)) need :: ls),∃ a b,c = BT.implies a b := by
    intro c hc
    obtain ⟨i,hi1,e⟩ := List.getElem_of_mem hc
    exact (hok.at (List.getElem?_eq_some_iff.mpr ⟨hi1,e⟩) (List.getElem?_eq_getElem (by rw [← hlen]; exact hi1))).im
  refine st_no (r := lw 28) (tv_or_no (tv_same (x := .lst (List.replicate (BT.implies (lawC (sw S) ((sw S).p 10)) need :: ls).length (.str [105,109,112,108,105,101,115]))) (fun Q q => ?_) ?_ ?_ ?_) (tv_same (x := repB (.implies (lawC (sw S) ((sw S).p 10)) need)) (to_idx (v_ s6.h26) to_lit rfl (by decide) rfl) (to_tup (to_cons to_lit (to_cons (asks_at s6.a.h12 10) (to_cons (v_ c19) to_nil))) (Nat.le_of_ble_eq_true rfl)) (gB_plain (hcs _ (.head _))) ?_)) ?_
  · exact to_comp (v_ s6.h26) rfl (by rw [List.length_map]; exact Nat.le_trans (Nat.succ_le_succ hls) (by decide)) (comp_tags _ [] _ him q)
  · have e := to_rep (B := B) (k := k + 60) (σ := SA st ak σ (sw S) 11) (L := mkL f6) (x := .str [105,109,112,108,105,101,115]) (n := ((allPaths (sSh S)).map pathV).length) (to_lst (to_cons to_lit to_nil) (Nat.le_of_ble_eq_true rfl)) (to_len (v_ s6.h20) rfl) (by rw [List.length_map]; exact Nat.le_trans hpo.1 (by decide))
    rw [hlen]
    rw [List.length_map] at e
    exact e
  · exact plainL_of fun x hx => by rw [List.eq_of_mem_replicate hx]; rfl
  · exact Nat.le_trans (depth_lst (d := 1) fun x hx => by rw [List.eq_of_mem_replicate hx]; exact Nat.zero_le _) (by decide)
  · exact Nat.le_trans (dep_B _) (Nat.le_trans (Nat.add_le_add_right (Nat.succ_le_succ (mm (Nat.le_trans (d_lawC (sw S) _) (by decide)) hdn)) 5) (by decide))
  refine st_zip (r := lw 29) (v_ s6.h26) (v_ s6.h20) rfl (by rw [List.length_map,List.length_map,hlen]; exact Nat.le_refl _) ?_
  exact loop28 P hS (fun f' s' => T f' _ s') _ _ f6 hok hcs hpo.2 s6
end
theorem pick_to (xs:List V) (z:Nat) : pick xs none (some (z:Int)) none = xs.take z := by
  rcases Nat.le_total z xs.length with h | h
  · rw [pick_of 0 z ?_ (by rw [Nat.zero_add]; exact h),List.drop_zero]
    show ((0:Int),(if (1:Int) > 0 then _ else _),(1:Int)) = _
    rw [clampI (Int.natCast_nonneg z) (Int.ofNat_le.mpr h),Nat.zero_add]; rfl
  · rw [pick_of 0 xs.length ?_ (by rw [Nat.zero_add]; exact Nat.le_refl _),List.drop_zero,List.take_of_length_le (Nat.le_refl _),List.take_of_length_le h]
    show ((0:Int),(if (1:Int) > 0 then max 0 (min (if (z:Int) < 0 then _ else _) _) else _),(1:Int)) = _
    rw [if_pos (by decide),if_neg (Int.not_lt.mpr (Int.natCast_nonneg z)),Int.min_eq_right (Int.ofNat_le.mpr h),Int.max_eq_right (Int.natCast_nonneg _),Nat.zero_add]; rfl
theorem rangeV_eq (n:Nat) : ∀ a : Int,rangeV a n = (List.range n).map fun i => .int (a + (i:Nat)) := by
  induction n with
  | zero => exact fun _ => rfl
  | succ n ih =>
    intro a
    show V.int a :: rangeV (a + 1) n = _
    rw [ih,List.range_succ_eq_map,List.map_cons,List.map_map]
    refine c2 List.cons (congrArg V.int (Int.add_zero a).symm) (congrArg (fun f => (List.range n).map f) (funext fun i => congrArg V.int ?_))
    show a + 1 + (i:Int) = a + ((i + 1 : Nat) : Int)
    rw [Int.natCast_add,Int.add_assoc,Int.add_comm 1]; rfl
noncomputable def rowV (r:List Int) : V := .lst (r.map V.int)
theorem inv_spot {N R:List (List Nat)} {z:Nat} (h1:N.Nodup) (h2:R.Nodup) (h3:∀ x ∈ N,x = kx ∨ x = ky) (h4:∀ x ∈ R,x = ka ∨ x = [98]) (hz:z ≤ 2) {r:List Int} (hr:N.length ≤ r.length) : Inv (spot N R z r) := by
  have e1 : (N.zip r).map (·.1) = N := List.map_fst_zip hr
  have e2 : ((List.range R.length).map fun i => (R.getD i [],(r.drop (N.length + i * z)).take z)).map (·.1) = R := by
    rw [List.map_map]
    refine List.ext_getElem? fun i => ?_
    by_cases hi : i < R.length
    · rw [List.getElem?_map,List.getElem?_range hi]
      show some (R.getD i []) = _
      rw [List.getD_eq_getElem?_getD,List.getElem?_eq_getElem hi]; rfl
    · rw [List.getElem?_eq_none (by rw [List.length_map,List.length_range]; exact Nat.not_lt.mp hi),List.getElem?_eq_none (Nat.not_lt.mp hi)]
  refine ⟨?_,?_,fun p hp => ?_,fun p hp => ?_,fun p hp => ?_⟩
  · show ((N.zip r).map (·.1)).Nodup
    rw [e1]; exact h1
  · show (((List.range R.length).map fun i => (R.getD i [],(r.drop (N.length + i * z)).take z)).map (·.1)).Nodup
    rw [e2]; exact h2
  · have : p.1 ∈ (N.zip r).map (·.1) := List.mem_map_of_mem hp
    rw [e1] at this
    exact h3 _ this
  · have : p.1 ∈ ((List.range R.length).map fun i => (R.getD i [],(r.drop (N.length + i * z)).take z)).map (·.1) := List.mem_map_of_mem hp
    rw [e2] at this
    exact h4 _ this
  · obtain ⟨i,_,rfl⟩ := List.mem_map.mp hp
    exact Nat.le_trans (by rw [List.length_take]; exact Nat.min_le_left _ _) hz
structure SpOK (p:Spc) : Prop where
  n1 : p.N.Nodup
  n2 : p.R.Nodup
  n3 : ∀ x ∈ p.N,x = kx ∨ x = ky
  n4 : ∀ x ∈ p.R,x = ka ∨ x = [98]
  z : p.z ≤ 2
  l1 : p.N.length ≤ 2
  l2 : p.R.length ≤ 2
  n : p.n ≤ 3
theorem SpOK.inv {p:Spc} (h:SpOK p) {r:List Int} (hr:r.length = p.n) : Inv (p.at r) := inv_spot h.n1 h.n2 h.n3 h.n4 h.z (by rw [hr]; exact Nat.le_add_right _ _)
theorem SpOK.ok {p:Spc} (h:SpOK p) : p.OK := ⟨Nat.le_trans h.l1 (by decide),Nat.le_trans h.l2 (by decide),Nat.le_trans h.z (by decide),fun r hr => h.inv hr⟩
noncomputable def spB (p:Spc) : Bool := decide (p.N.Nodup ∧ p.R.Nodup ∧ (∀ x ∈ p.N,x = kx ∨ x = ky) ∧ (∀ x ∈ p.R,x = ka ∨ x = [98]) ∧ p.z ≤ 2 ∧ p.N.length ≤ 2 ∧ p.R.length ≤ 2 ∧ p.n ≤ 3)
theorem spaces_ok : ∀ p ∈ spaces,SpOK p := fun p hp => by
  obtain ⟨h1,h2,h3,h4,h5,h6,h7,h8⟩ := of_decide_eq_true (List.all_eq_true.mp (by decide +kernel : spaces.all spB = true) p hp)
  exact ⟨h1,h2,h3,h4,h5,h6,h7,h8⟩
theorem rws_len (lo:Int) (w:Nat) (hw:w ≤ 2) : ∀ n,(rws lo w n).length ≤ 2 ^ n := fun n => by
  rw [rws_eq,List.length_map,List.length_range]
  exact Nat.pow_le_pow_left hw n
theorem rws_mem {lo:Int} {w n:Nat} {r:List Int} (h:r ∈ rws lo w n) : r.length = n := by
  rw [rws_eq] at h
  obtain ⟨j,_,rfl⟩ := List.mem_map.mp h
  exact rowAt_length lo w n j
section
variable {B:B0} {k:Nat} {σ:Store} {S:List Int} {f:Nat → Option V}
theorem comp_in {L:Lc} {r:List Int} (hL:L.length = 44) (h42:L[42]? = some (some (rowV r))) (hr:r.length ≤ 100) (vs:List Int) : ∀ (acc:List V) (N:List V → Prop),acc.length + vs.length ≤ 1000 → N (acc ++ vs.map fun v => rowV (r ++ [v])) →
    compI (evW B k σ (.bin .add (.var 42) (.lst (.cons (.var 43) .nil)))) [43] L (vs.map V.int) acc N := by
  induction vs with
  | nil => intro acc N _ q; rw [List.map_nil,List.append_nil] at q; exact q
  | cons v vs ih =>
    intro acc N hz q
    have e1 : (L.set 43 (some (.int v)))[42]? = some (some (rowV r)) := by rw [List.getElem?_set_ne (by decide)]; exact h42
    have e2 : (L.set 43 (some (.int v)))[43]? = some (some (.int v)) := List.getElem?_set_self (by rw [hL]; decide)
    refine Exists.intro (L.set 43 (some (.int v))) (And.intro rfl (And.intro (Nat.le_trans (Nat.le_trans (Nat.le_add_right _ _) hz) (by decide)) (to_cat (to_var e1) (to_lst (to_cons (to_var e2) to_nil) (Nat.le_of_ble_eq_true rfl)) (by rw [List.length_map]; exact Nat.le_trans (Nat.succ_le_succ hr) (by decide)) _ (ih _ N ?_ ?_))))
    · rw [List.length_append,Nat.add_assoc,Nat.add_comm _ vs.length]; exact hz
    · rw [show V.lst (r.map V.int ++ [.int v]) = rowV (r ++ [v]) by unfold rowV; rw [List.map_append]; rfl,List.append_assoc]
      exact q
theorem comp_rows {lo hi:Int} (h32:f 32 = some (.int lo)) (h33:f 33 = some (.int hi)) (hw:(hi - lo).toNat ≤ 2) (rs:List (List Int)) : ∀ (acc:List V) (Q:V → Prop),(∀ r ∈ rs,r.length ≤ 100) → acc.length + 2 * rs.length ≤ 1000 → Q (.lst (acc ++ (rs.flatMap fun r => (List.range (hi - lo).toNat).map fun v => r ++ [lo + (v:Nat)]).map rowV)) →
    comp2W (fun L' P => evWs B k σ (.cons (.var 32) (.cons (.var 33) .nil)) L' fun ws => srcW .range2 ws P) (evW B k σ (.bin .add (.var 42) (.lst (.cons (.var 43) .nil)))) [42] [43] (newL0 42 2 (mkL f)) (rs.map rowV) acc Q := by
  induction rs with
  | nil => intro acc Q _ hz q; rw [List.flatMap_nil,List.map_nil,List.append_nil] at q; exact ⟨Nat.le_trans hz (by decide),q⟩
  | cons r rs ih =>
    intro acc Q hr hz q
    have hl := new_len f 2
    have g : ∀ i,i < 42 → ((newL0 42 2 (mkL f)).set 42 (some (rowV r)))[i]? = some (f i) := fun i hi => by rw [List.getElem?_set_ne (Nat.ne_of_gt hi),new_get f 2 hi]
    have h24 : hi - lo ≤ 2 ^ 24 := Int.le_trans (Int.self_le_toNat _) (Int.le_trans (Int.ofNat_le.mpr hw) (by decide))
    have hn : acc.length + (hi - lo).toNat + 2 * rs.length ≤ 1000 := Nat.le_trans (by rw [Nat.add_assoc,List.length_cons,Nat.mul_succ,Nat.add_comm (2 * rs.length)]; exact Nat.add_le_add_left (Nat.add_le_add_right hw _) _) hz
    refine Exists.intro ((newL0 42 2 (mkL f)).set 42 (some (rowV r))) (And.intro rfl (to_cons (d := .int lo) (to_var (by rw [g 32 (by decide),h32])) (to_cons (d := .int hi) (to_var (by rw [g 33 (by decide),h33])) to_nil) _ (And.intro h24 ?_)))
    rw [rangeV_eq,show ((List.range (hi - lo).toNat).map fun i => V.int (lo + (i:Nat))) = ((List.range (hi - lo).toNat).map fun i => lo + (i:Nat)).map V.int by rw [List.map_map]; rfl]
    refine comp_in (r := r) (by rw [List.length_set,hl]) (List.getElem?_set_self (by rw [hl]; decide)) (hr r (.head _)) _ acc _ (by rw [List.length_map,List.length_range]; exact Nat.le_trans (Nat.le_add_right _ _) hn) (ih _ Q (fun r' h => hr r' (.tail _ h)) (by rw [List.length_append,List.length_map,List.length_map,List.length_range]; exact hn) ?_)
    rw [List.flatMap_cons,List.map_append,← List.append_assoc,List.map_map] at q
    rw [List.map_map]
    exact q
end
structure Sl4 (S:List Int) (st ak:Nat) (cs:List BT) (p:Spc) (lo hi:Int) (wh:Nat) (f:Nat → Option V) : Prop where
  a : Sl3 S st ak cs f
  h29 : f 29 = some (.tup (p.N.map V.str))
  h30 : f 30 = some (.tup (p.R.map V.str))
  h31 : f 31 = some (.int p.z)
  h32 : f 32 = some (.int lo)
  h33 : f 33 = some (.int hi)
  h34 : f 34 = some (.int wh)
theorem Sl4.up {S:List Int} {st ak:Nat} {cs:List BT} {p:Spc} {lo hi:Int} {wh:Nat} {f:Nat → Option V} (h:Sl4 S st ak cs p lo hi wh f) {i:Nat} (d:V) (hj:34 < i ∨ i = 17 ∨ i = 18) : Sl4 S st ak cs p lo hi wh (Mine.up f i d) :=
  have n : ∀ j,19 ≤ j → j ≤ 34 → j ≠ i := fun j h1 h2 e => by
    rw [← e] at hj
    exact hj.elim (fun h => absurd h2 (Nat.not_le.mpr h)) fun h => h.elim (fun h => absurd h1 (by rw [h]; decide)) fun h => absurd h1 (by rw [h]; decide)
  ⟨h.a.up d (hj.elim (fun h => Nat.lt_trans (by decide) h) fun h => h.elim (fun h => by rw [h]; decide) fun h => by rw [h]; decide) (Ne.symm (n 20 (by decide) (by decide))) (Ne.symm (n 26 (by decide) (by decide))),up_ne h.h29 (n 29 (by decide) (by decide)),up_ne h.h30 (n 30 (by decide) (by decide)),up_ne h.h31 (n 31 (by decide) (by decide)),up_ne h.h32 (n 32 (by decide) (by decide)),up_ne h.h33 (n 33 (by decide) (by decide)),up_ne h.h34 (n 34 (by decide) (by decide))⟩
section
variable {B:B0} {k:Nat} {σ:Store} {S:List Int} {f:Nat → Option V} {Q:Out → Store → Prop} {st ak:Nat} {cs:List BT} {p:Spc} {lo hi:Int} {wh:Nat}
theorem to_comp2 {L:Lc} {e it2 a:CE} {x:V} {xs:List V} {n0 cnt:Nat} {tg tg2:List Nat} {s2:Src} {Q:V → Prop} (h:EvTo B k σ L e x) (hs:srcOf x = some xs) (hz:xs.length ≤ 1000) (t:comp2W (fun L' P => evWs B k σ it2 L' fun ws => srcW s2 ws P) (evW B k σ a) tg tg2 (newL0 n0 cnt L) xs [] Q) : evW B k σ (.comp2 n0 cnt .seq (.cons e .nil) tg s2 it2 tg2 a) L Q := by
  refine h _ ?_
  show optW (srcOf x) fun xs => xs.length ≤ sizeLine ∧ _
  rw [hs]
  exact ⟨le_line hz,t⟩
theorem rws8 {lo:Int} {w i:Nat} (hw:w ≤ 2) (hi:i ≤ 3) : (rws lo w i).length ≤ 8 := Nat.le_trans (rws_len lo _ hw i) (Nat.le_trans (Nat.pow_le_pow_right (by decide) hi) (by decide))
theorem loop34 (hsp:SpOK p) (hw:(hi - lo).toNat ≤ 2) {R:StF} (T:∀ f',Sl4 S st ak cs p lo hi wh f' → f' 35 = some (.lst ((rws lo (hi - lo).toNat p.n).map rowV)) → R (mkL f') σ Q) (m:Nat) : ∀ (i:Nat) (f:Nat → Option V),i + m = p.n → Sl4 S st ak cs p lo hi wh f → f 35 = some (.lst ((rws lo (hi - lo).toNat i).map rowV)) →
    forW [36] (stW B k (.asg 35 (.comp2 42 2 .seq (.cons (.var 35) .nil) [42] .range2 (.cons (.var 32) (.cons (.var 33) .nil)) [43] (.bin .add (.var 42) (.lst (.cons (.var 43) .nil)))) .nil)) R Q (rangeV i m) (mkL f) σ := by
  induction m with
  | zero => intro i f e hs h35; rw [show i = p.n from e] at h35; exact T f hs h35
  | succ m ih =>
    intro i f e hs h35
    refine Exists.intro ((mkL f).set 36 (some (.int i))) (And.intro rfl ?_)
    rw [mk_set f (by decide)]
    have s1 := hs.up (i := 36) (.int i) (.inl (by decide))
    have g35 : up f 36 (.int i) 35 = some (.lst ((rws lo (hi - lo).toNat i).map rowV)) := h35
    have hi3 : i ≤ 3 := Nat.le_trans (Nat.le_of_lt (lt_of_add e)) hsp.n
    have hlen := rws8 (lo := lo) hw hi3
    refine s_asg (m := 35) (r := .nil) (d := .lst ((rws lo (hi - lo).toNat (i + 1)).map rowV)) (fun Q q => to_comp2 (v_ g35) rfl (by rw [List.length_map]; exact Nat.le_trans hlen (by decide)) (comp_rows s1.h32 s1.h33 hw _ [] _ (fun r hr => by rw [rws_mem hr]; exact Nat.le_trans hi3 (by decide)) ?_ q)) ?_
    · rw [List.length_nil,Nat.zero_add]; exact Nat.le_trans (Nat.mul_le_mul_left 2 hlen) (by decide)
    · exact ih (i + 1) _ (next_add e) (s1.up (i := 35) (.lst ((rws lo (hi - lo).toNat (i + 1)).map rowV)) (.inl (by decide))) (up_eq _ _ _)
theorem comp_spot {r:List Int} {g:Nat → Option V} (h31:g 31 = some (.int p.z)) (h38:g 38 = some (.lst ((r.map V.int).drop p.N.length))) (hr:r.length = p.n) (hz:p.z ≤ 2) (hR:p.R.length ≤ 2) (m:Nat) : ∀ (i:Nat) (acc:List V) (Q:V → Prop),i + m = p.R.length → Q (.lst (acc ++ (List.range' i m).map fun j => .tup [.str (p.R.getD j []),arV1 ((r.drop (p.N.length + j * p.z)).take p.z)])) →
    compW (evW B k σ (.tup (.cons (.var 43) (.cons (.sl (.sl (.var 38) (.bin .mul (.var 42) (.var 31)) (.lit .none)) (.lit .none) (.var 31)) .nil)))) [42,43] (newL0 42 2 (mkL g)) (enumV i (((p.R.map V.str).drop i))) acc Q := by
  induction m with
  | zero =>
    intro i acc Q e q
    rw [show i = p.R.length from e,List.drop_of_length_le (by rw [List.length_map]; exact Nat.le_refl _)]
    rw [List.range'_zero,List.map_nil,List.append_nil] at q
    exact q
  | succ m ih =>
    intro i acc Q e q
    have hi := lt_of_add e
    have ed : (p.R.map V.str).drop i = .str (p.R.getD i []) :: (p.R.map V.str).drop (i + 1) := by
      rw [List.drop_eq_getElem_cons (by rw [List.length_map]; exact hi),List.getElem_map,List.getD_eq_getElem?_getD,List.getElem?_eq_getElem hi]; rfl
    rw [ed]
    have hl := new_len g 2
    have gg : ∀ j,j < 42 → (((newL0 42 2 (mkL g)).set 42 (some (.int i))).set 43 (some (.str (p.R.getD i []))))[j]? = some (g j) := fun j hj => by rw [List.getElem?_set_ne (Nat.ne_of_gt (Nat.lt_succ_of_lt hj)),List.getElem?_set_ne (Nat.ne_of_gt hj),new_get g 2 hj]
    have e42 : (((newL0 42 2 (mkL g)).set 42 (some (.int i))).set 43 (some (.str (p.R.getD i []))))[42]? = some (some (.int i)) := by rw [List.getElem?_set_ne (by decide),List.getElem?_set_self (by rw [hl]; decide)]
    have e43 : (((newL0 42 2 (mkL g)).set 42 (some (.int i))).set 43 (some (.str (p.R.getD i []))))[43]? = some (some (.str (p.R.getD i []))) := List.getElem?_set_self (by rw [List.length_set,hl]; decide)
    have e31 : (((newL0 42 2 (mkL g)).set 42 (some (.int i))).set 43 (some (.str (p.R.getD i []))))[31]? = some (some (.int p.z)) := by rw [gg 31 (by decide),h31]
    have hle : i * p.z ≤ ((r.map V.int).drop p.N.length).length := by
      rw [List.length_drop,List.length_map,hr]
      exact Nat.le_trans (Nat.mul_le_mul_right _ (Nat.le_of_lt hi)) (Nat.le_sub_of_add_le (Nat.le_of_eq (Nat.add_comm _ _)))
    have hsl := to_sl (B := B) (k := k) (σ := σ) (to_sl (to_var (L := ((newL0 42 2 (mkL g)).set 42 (some (.int i))).set 43 (some (.str (p.R.getD i [])))) (by rw [gg 38 (by decide),h38])) (to_mul (to_var e42) (to_var e31) (abs_le (Nat.le_trans (Nat.le_of_lt hi) (Nat.le_trans hR (by decide)))) (abs_le (Nat.le_trans hz (by decide)))) to_lit (rfl:partOf (.int _) = some (some _)) (rfl:partOf .none = some none)) to_lit (to_var e31) (rfl:partOf .none = some none) (rfl:partOf (.int _) = some (some _))
    rw [← Int.natCast_mul,pick_from _ _ hle,pick_to,List.drop_drop,← List.map_drop,← List.map_take] at hsl
    exact Exists.intro _ (And.intro rfl (to_tup (to_cons (to_var e43) (to_cons hsl to_nil)) (Nat.le_of_ble_eq_true rfl) _ (ih (i + 1) _ Q (next_add e) (by rw [List.append_assoc]; exact q))))
theorem zip_items (N:List (List Nat)) : ∀ r : List Int,zipV (N.map V.str) (r.map V.int) = itemsV ((N.zip r).map fun q => (q.1,V.int q.2)) := by
  induction N with
  | nil => intro r; cases r <;> rfl
  | cons a N ih =>
    intro r
    cases r with
    | nil => rfl
    | cons b r => exact congrArg (V.tup [.str a,.int b] :: ·) (ih r)
noncomputable abbrev body36 : CS := .asg 38 (.sl (.var 37) (.prim .len (.cons (.var 29) .nil)) (.lit .none)) (.asg 39 (.tup (.cons (.prim .listZip (.cons (.var 29) (.cons (.var 37) .nil))) (.cons (.comp 42 2 .enum (.cons (.var 30) .nil) [42,43] (.tup (.cons (.var 43) (.cons (.sl (.sl (.var 38) (.bin .mul (.var 42) (.var 31)) (.lit .none)) (.lit .none) (.var 31)) .nil)))) .nil))) (.iff (.not (.call 22 (.cons (.var 2) (.cons (.var 4) (.cons (.var 3) (.cons (.idx (.var 20) (.var 34)) (.cons (.tup (.cons (.prim .dict (.cons (.idx (.var 39) (.lit (.int 0))) .nil)) (.cons (.prim .dict (.cons (.idx (.var 39) (.lit (.int 1))) .nil)) .nil))) .nil))))))) (.asg 17 (.var 39) .brk) .nil .nil))
theorem loop36 (P:Prog2 B) (hsp:SpOK p) {q:Path} (hq:(allPaths (sSh S))[wh]? = some q) {R:StF} {rs0:List (List Int)} (T2:∀ f',Sl4 S st ak cs p lo hi wh f' → f' 17 = some (resV p (truthF (sSh S) (sw S) q) rs0) → R (mkL f') σ Q) (rs:List (List Int)) :
    ∀ (f:Nat → Option V),(∀ r ∈ rs,r.length = p.n) → resV p (truthF (sSh S) (sw S) q) rs = resV p (truthF (sSh S) (sw S) q) rs0 → Sl4 S st ak cs p lo hi wh f → f 17 = some .none → forW [37] (stW B (k + 5) body36) R Q (rs.map rowV) (mkL f) σ := by
  induction rs with
  | nil => exact fun f _ e hs h17 => T2 f hs (by rw [h17,← e]; rfl)
  | cons r rs ih =>
    intro f hr e hs h17
    have hrl := hr r (.head _)
    have hN : p.N.length ≤ r.length := by rw [hrl]; exact Nat.le_add_right _ _
    have hi' := hsp.inv hrl
    have hqo := (paths_ok (sSh S)).2 q (List.mem_of_getElem? hq)
    refine Exists.intro ((mkL f).set 37 (some (rowV r))) (And.intro rfl ?_)
    rw [mk_set f (by decide)]
    have s1 := hs.up (i := 37) (rowV r) (.inl (by decide))
    have g17 : up f 37 (rowV r) 17 = some .none := up_ne h17 (by decide)
    have g37 : up f 37 (rowV r) 37 = some (rowV r) := up_eq _ _ _
    generalize up f 37 (rowV r) = f1 at s1 g17 g37
    refine s_asg (m := 38) (d := .lst ((r.map V.int).drop p.N.length)) ?_ ?_
    · have := to_sl (B := B) (k := k + 5) (σ := σ) (v_ g37) (to_len (v_ s1.h29) rfl) to_lit (rfl:partOf (.int _) = some (some _)) (rfl:partOf .none = some none)
      rw [List.length_map,pick_from _ _ (by rw [List.length_map]; exact hN)] at this
      exact this
    have s2 := s1.up (i := 38) (.lst ((r.map V.int).drop p.N.length)) (.inl (by decide))
    have k17 : up f1 38 (.lst ((r.map V.int).drop p.N.length)) 17 = some .none := up_ne g17 (by decide)
    have k37 : up f1 38 (.lst ((r.map V.int).drop p.N.length)) 37 = some (rowV r) := up_ne g37 (by decide)
    have k38 : up f1 38 (.lst ((r.map V.int).drop p.N.length)) 38 = some (.lst ((r.map V.int).drop p.N.length)) := up_eq _ _ _
    generalize up f1 38 (.lst ((r.map V.int).drop p.N.length)) = f2 at s2 k17 k37 k38
    refine s_asg (m := 39) (d := stV (p.at r)) (to_tup (ds := [.lst (itemsV (nsV (p.at r))),.lst (itemsV (arV (p.at r)))]) (to_cons (to_prim (to_cons (v_ s2.h29) (to_cons (v_ k37) to_nil)) fun Q q => ?_) (to_cons (fun Q q => ?_) to_nil)) (Nat.le_of_ble_eq_true rfl)) ?_
    · refine And.intro (by rw [List.length_map,List.length_map]; exact hN) ?_
      rw [zip_items]
      exact q
    · exact to_compE (v_ s2.h30) rfl (comp_spot (B := B) (k := k + 5) (σ := σ) s2.h31 k38 hrl hsp.z hsp.l2 p.R.length 0 [] Q (Nat.zero_add _) (by
        have e2 : itemsV (arV (p.at r)) = (List.range' 0 p.R.length).map fun j => .tup [.str (p.R.getD j []),arV1 ((r.drop (p.N.length + j * p.z)).take p.z)] := by
          unfold Spc.at spot arV itemsV
          rw [List.map_map,List.map_map,List.range_eq_range']
          rfl
        rw [List.nil_append,← e2]
        exact q))
    have s3 := s2.up (i := 39) (stV (p.at r)) (.inl (by decide))
    have m17 : up f2 39 (stV (p.at r)) 17 = some .none := up_ne k17 (by decide)
    have m39 : up f2 39 (stV (p.at r)) 39 = some (stV (p.at r)) := up_eq _ _ _
    generalize up f2 39 (stV (p.at r)) = f3 at s3 m17 m39
    have hwq : ((allPaths (sSh S)).map pathV)[((wh:Nat) : Int).toNat]? = some (pathV q) := by rw [Int.toNat_natCast,List.getElem?_map,hq]; rfl
    refine st_if (p := !truthF (sSh S) (sw S) q (p.at r)) (tv_not (tv_call (to_cons (v_ s3.a.a.a.h2) (to_cons (v_ s3.a.a.a.h4) (to_cons (v_ s3.a.a.a.h3) (to_cons (to_idx (v_ s3.a.h20) (v_ s3.h34) rfl (Int.natCast_nonneg _) hwq) (to_cons (to_tup (to_cons (to_dict (to_idx (v_ m39) to_lit rfl (by decide) rfl) (by rw [keys_nsV]; exact hi'.kn) (by rw [nsV,List.length_map]; exact Nat.le_trans hi'.ln (by decide))) (to_cons (to_dict (to_idx (v_ m39) to_lit rfl (by decide) rfl) (by rw [keys_arV]; exact hi'.kna) (by rw [arV,List.length_map]; exact Nat.le_trans hi'.la (by decide))) to_nil)) (Nat.le_of_ble_eq_true rfl)) to_nil))))) (c_truth P.P (wok S) hqo.1 hqo.2.1 hqo.2.2 hi'))) (fun et => ?_) (fun et => ?_)
    · have ht : truthF (sSh S) (sw S) q (p.at r) = false := by rw [← Bool.not_not (truthF _ _ _ _),et]; rfl
      refine s_asg (m := 17) (d := stV (p.at r)) (v_ m39) ?_
      refine T2 _ (s3.up _ (.inr (.inl rfl))) ?_
      rw [up_eq,← e]
      show _ = some (if truthF (sSh S) (sw S) q (p.at r) then _ else _)
      rw [ht]; rfl
    · have ht : truthF (sSh S) (sw S) q (p.at r) = true := by rw [← Bool.not_not (truthF _ _ _ _),et]; rfl
      refine ih f3 (fun r' h => hr r' (.tail _ h)) ?_ s3 m17
      rw [← e]
      show _ = if truthF (sSh S) (sw S) q (p.at r) then _ else _
      rw [ht]; rfl
end
theorem Sm_.mono {d d':Nat} {x:V} (h:Sm_ d x) (l:d ≤ d') : Sm_ d' x := ⟨h.1,Nat.le_trans h.2 l⟩
theorem sm_C {w:Lw} (hw:WOK w) (u:Int) : Sm_ 12 (repB (lawC w u)) := ⟨gB_plain (pl_lawC hw u),Nat.le_trans (dep_B _) (Nat.le_trans (Nat.add_le_add_right (d_lawC w u) 5) (by decide))⟩
theorem sm_T (w:Lw) (u:Int) : Sm_ 12 (repI (lawT w u)) := ⟨pl_lawT w u,Nat.le_trans (dep_I _) (Nat.le_trans (Nat.add_le_add_right (d_lawT w u) 3) (by decide))⟩
theorem sm_cons {d:Nat} {a:V} {xs:List V} (h1:Sm_ d a) (h2:∀ x ∈ xs,Sm_ d x) : ∀ x ∈ a :: xs,Sm_ d x := mem3 h1 h2
theorem sm_nil {d:Nat} : ∀ x ∈ ([] : List V),Sm_ d x := fun x hx => nomatch hx
theorem sm_S {w:Lw} (hw:WOK w) (u:Int) : Sm_ 13 (repS (lawS w u)) := by
  have set : ∀ {x:List Nat},(V.str x).plain = true → Sm_ 13 (.tup [.str [115,101,116],.str x,repI (lawT w u)]) := fun h => sm_tup (sm_cons (sm_str rfl _) (sm_cons (sm_str h _) (sm_cons (sm_T w u) sm_nil)))
  exact lawS_ind w u (P := fun a => Sm_ 13 (repS a)) (sm_tup (sm_cons (sm_str rfl _) sm_nil)) (set rfl) (set rfl) (sm_tup (sm_cons (sm_str rfl _) (sm_cons (sm_str rfl _) (sm_cons ⟨rfl,Nat.le_trans (dep_I (.var kx)) (by decide)⟩ (sm_cons (sm_T w u) sm_nil))))) (sm_tup (sm_cons (sm_str rfl _) (sm_cons (sm_C hw _) sm_nil)))
theorem sm_W {w:Lw} (hw:WOK w) {d:Nat} {i j:Nat} {b:List Sm} (hd:12 ≤ d) (h:∀ x ∈ repSs b,Sm_ d x) : Sm_ (d + 2) (repS (.whl (lawC w (w.p i)) (lawC w (w.p j)) b)) :=
  sm_tup (sm_cons (sm_str rfl _) (sm_cons ((sm_C hw _).mono (Nat.le_succ_of_le hd)) (sm_cons ((sm_C hw _).mono (Nat.le_succ_of_le hd)) (sm_cons (sm_lst h) sm_nil))))
theorem sm_F {w:Lw} (hw:WOK w) {d:Nat} {i:Nat} {b b2:List Sm} (hd:12 ≤ d) (h:∀ x ∈ repSs b,Sm_ d x) (h2:∀ x ∈ repSs b2,Sm_ d x) : Sm_ (d + 2) (repS (.ite (lawC w (w.p i)) b b2)) :=
  sm_tup (sm_cons (sm_str rfl _) (sm_cons ((sm_C hw _).mono (Nat.le_succ_of_le hd)) (sm_cons (sm_lst h) (sm_cons (sm_lst h2) sm_nil))))
theorem sm_blk {w:Lw} (hw:WOK w) (sh:Nat) : Sm_ 18 (.lst (repSs (blockB w sh))) := by
  have s := fun (i d:Nat) (h:13 ≤ d) => (sm_S hw (w.p i)).mono h
  have inn : Sm_ 15 (repS (innerB w)) := sm_W hw (d := 13) (by decide) (sm_cons (s 4 13 (by decide)) sm_nil)
  have key : ∀ mid,(∀ x ∈ repSs mid,Sm_ 17 x) → Sm_ 18 (.lst (repSs ([lawS w (w.p 0)] ++ mid ++ [lawS w (w.p 5)]))) := fun mid h => by
    rw [repSs_app,repSs_app]
    exact sm_lst fun x hx => (List.mem_append.mp hx).elim (fun hx => (List.mem_append.mp hx).elim (sm_cons (s 0 17 (by decide)) sm_nil x) (h x)) (sm_cons (s 5 17 (by decide)) sm_nil x)
  have inn15 := inn.mono (d' := 15) (by decide)
  match sh with
  | 0 => exact key _ (sm_cons (sm_W hw (d := 15) (by decide) (sm_cons (s 2 15 (by decide)) (sm_cons inn15 (sm_cons (s 6 15 (by decide)) sm_nil)))) sm_nil)
  | 1 => exact key _ (sm_cons (sm_W hw (d := 15) (by decide) (sm_cons (s 2 15 (by decide)) sm_nil)) (sm_cons (inn.mono (by decide)) sm_nil))
  | 2 => exact key _ (sm_cons (sm_F hw (d := 15) (by decide) (sm_cons (s 2 15 (by decide)) (sm_cons inn15 sm_nil)) (sm_cons (s 6 15 (by decide)) sm_nil)) sm_nil)
  | 3 => exact key _ (sm_cons (sm_F hw (d := 15) (by decide) (sm_cons (s 6 15 (by decide)) sm_nil) (sm_cons (s 2 15 (by decide)) (sm_cons inn15 sm_nil))) sm_nil)
  | n + 4 => exact key _ (sm_cons (sm_F hw (d := 15) (by decide) (sm_cons (s 2 15 (by decide)) sm_nil) (sm_cons (s 6 15 (by decide)) sm_nil)) sm_nil)
theorem sm_res {p:Spc} {g:St → Bool} (rs:List (List Int)) (h:∀ r ∈ rs,Inv (p.at r)) : Sm_ 4 (resV p g rs) := by
  induction rs with
  | nil => exact sm_none _
  | cons r rs ih =>
    show Sm_ 4 (if g (p.at r) then _ else _)
    cases g (p.at r) with
    | true => exact ih fun r' hr => h r' (.tail _ hr)
    | false => exact sm_st (h r (.head _))
theorem sm_names {N:List (List Nat)} (h:∀ x ∈ N,(V.str x).plain = true) : Sm_ 2 (.lst (N.map V.str)) := sm_lst fun x hx => by
  obtain ⟨n,hn,rfl⟩ := List.mem_map.mp hx
  exact sm_str (h n hn) _
section
variable {B:B0} {k:Nat} {σ:Store} {S:List Int} {f:Nat → Option V} {Q:Out → Store → Prop} {st ak:Nat} {cs:List BT}
theorem seg5 (P:Prog2 B) (hS:24 ≤ S.length) (hk:60 ≤ k) (hf:FrA st ak σ) (hs:Sl3 S st ak cs f) (T:Q (.ret (.bool true)) (SA st ak σ (sw S) 11)) : stW B k (lw 29) (mkL f) (SA st ak σ (sw S) 11) Q := by
  obtain ⟨k,rfl⟩ := Nat.exists_eq_add_of_le' hk
  have hw := wok S
  have e8 : (S.getD 23 0 % 8).toNat < 8 := mod_lt (S.getD 23 0) (n := 8) (by decide)
  obtain ⟨p,hp⟩ : ∃ p,spaces[(S.getD 23 0 % 8).toNat]? = some p := ⟨_,List.getElem?_eq_getElem (by exact e8)⟩
  have hsp := spaces_ok p (List.mem_of_getElem? hp)
  refine s_unp (is := [29,30,31]) (r := lw 30) (ds := [.tup (p.N.map V.str),.tup (p.R.map V.str),.int p.z]) (to_idx (to_gl (d := .tup (spaces.map spcV)) (by rw [P.gv]; rfl)) (to_mod (sc hs.a.a.h0 hS 23) to_lit (by decide)) rfl (Int.emod_nonneg _ (by decide)) (by rw [List.getElem?_map,hp]; rfl)) rfl ?_
  show stW B (k + 60) (lw 30) (mkL (up (up (up f 29 (.tup (p.N.map V.str))) 30 (.tup (p.R.map V.str))) 31 (.int p.z))) _ _
  have s1 := ((hs.up (i := 29) (.tup (p.N.map V.str)) (by decide) (by decide) (by decide)).up (i := 30) (.tup (p.R.map V.str)) (by decide) (by decide) (by decide)).up (i := 31) (.int p.z) (by decide) (by decide) (by decide)
  have a29 : (up (up (up f 29 (.tup (p.N.map V.str))) 30 (.tup (p.R.map V.str))) 31 (.int p.z)) 29 = some (.tup (p.N.map V.str)) := rfl
  have a30 : (up (up (up f 29 (.tup (p.N.map V.str))) 30 (.tup (p.R.map V.str))) 31 (.int p.z)) 30 = some (.tup (p.R.map V.str)) := rfl
  have a31 : (up (up (up f 29 (.tup (p.N.map V.str))) 30 (.tup (p.R.map V.str))) 31 (.int p.z)) 31 = some (.int p.z) := rfl
  generalize up (up (up f 29 (.tup (p.N.map V.str))) 30 (.tup (p.R.map V.str))) 31 (.int p.z) = f1 at s1 a29 a30 a31
  refine s_asg (m := 32) (r := lw 31) (to_sub (to_mod (sc s1.a.a.h0 hS 21) to_lit (by decide)) to_lit) ?_
  generalize hlo : S.getD 21 0 % 4 - 2 = lo
  refine s_asg (m := 33) (r := lw 32) (to_sub (to_add (v_ (up_eq _ _ _)) (to_mod (sc (up_ne s1.a.a.h0 (by decide)) hS 22) to_lit (by decide))) to_lit) ?_
  generalize hhi : lo + S.getD 22 0 % 4 - 1 = hi
  have hwd : (hi - lo).toNat ≤ 2 := by have := Int.emod_lt_of_pos (S.getD 22 0) (by decide:(0:Int) < 4); omega
  have s2 := (s1.up (i := 32) (.int lo) (by decide) (by decide) (by decide)).up (i := 33) (.int hi) (by decide) (by decide) (by decide)
  have hpo := paths_ok (sSh S)
  have hlp : 0 < (allPaths (sSh S)).length := Nat.zero_lt_succ _
  have hlz : (((allPaths (sSh S)).length : Nat) : Int) ≠ 0 := fun e => absurd (Int.ofNat.inj e) (Nat.succ_ne_zero _)
  refine s_asg (m := 34) (r := lw 33) (to_mod (sc s2.a.a.h0 hS 20) (to_len (v_ s2.h20) rfl) (by rw [List.length_map]; exact Int.ofNat_lt.mpr hlp)) ?_
  rw [List.length_map]
  obtain ⟨wh,hwh⟩ : ∃ wh : Nat,S.getD 20 0 % (((allPaths (sSh S)).length : Nat) : Int) = wh := ⟨_,toN _ hlz⟩
  have hwl : wh < (allPaths (sSh S)).length := Int.ofNat_lt.mp (by rw [← hwh]; exact Int.emod_lt_of_pos _ (Int.ofNat_lt.mpr hlp))
  rw [hwh]
  have s4 : Sl4 S st ak cs p lo hi wh (up (up (up f1 32 (.int lo)) 33 (.int hi)) 34 (.int wh)) := ⟨s2.up _ (by decide) (by decide) (by decide),a29,a30,a31,rfl,rfl,rfl⟩
  generalize up (up (up f1 32 (.int lo)) 33 (.int hi)) 34 (.int wh) = f2 at s4
  refine s_asg (m := 35) (r := lw 34) (d := .lst ((rws lo (hi - lo).toNat 0).map rowV)) (to_lst (to_cons (to_lst to_nil (Nat.zero_le _)) to_nil) (Nat.le_of_ble_eq_true rfl)) ?_
  have s5 := s4.up (i := 35) (.lst ((rws lo (hi - lo).toNat 0).map rowV)) (.inl (by decide))
  have b35 : up f2 35 (.lst ((rws lo (hi - lo).toNat 0).map rowV)) 35 = some (.lst ((rws lo (hi - lo).toNat 0).map rowV)) := up_eq _ _ _
  generalize up f2 35 (.lst ((rws lo (hi - lo).toNat 0).map rowV)) = f3 at s5 b35
  obtain ⟨c,hc⟩ : ∃ c,cs[wh]? = some c := ⟨_,List.getElem?_eq_getElem (by rw [hs.ok.length]; exact hwl)⟩
  obtain ⟨q,hq⟩ : ∃ q,(allPaths (sSh S))[wh]? = some q := ⟨_,List.getElem?_eq_getElem hwl⟩
  have h1 := hs.ok.at hc hq
  have hgc := hs.g c (List.mem_of_getElem? hc)
  have hoc := (gB_of hgc).2
  have hfun : (fun s => evB s c) = truthF (sSh S) (sw S) q := funext h1.tr
  have hN : ∀ x ∈ p.N,(V.str x).plain = true := fun x hx => (hsp.n3 x hx).elim (fun e => by rw [e]; rfl) fun e => by rw [e]; rfl
  have hR : ∀ x ∈ p.R,(V.str x).plain = true := fun x hx => (hsp.n4 x hx).elim (fun e => by rw [e]; rfl) fun e => by rw [e]; rfl
  have hst := sm_st (inv0 S)
  have hbl := sm_blk hw (sSh S)
  have rest : ∀ f',Sl4 S st ak cs p lo hi wh f' → f' 17 = some (resV p (truthF (sSh S) (sw S) q) (rws lo (hi - lo).toNat p.n)) → stW B (k + 60) (lw 37) (mkL f') (SA st ak σ (sw S) 11) Q := by
    intro f' s6 h17
    refine s_asg (m := 40) (r := lw 38) (to_list (v_ s6.h29) rfl) ?_
    have s7 := s6.up (i := 40) (.lst (p.N.map V.str)) (.inl (by decide))
    refine s_asg (m := 41) (r := lw 39) (to_list (v_ s7.h30) rfl) ?_
    have s8 := s7.up (i := 41) (.lst (p.R.map V.str)) (.inl (by decide))
    have d40 : up (up f' 40 (.lst (p.N.map V.str))) 41 (.lst (p.R.map V.str)) 40 = some (.lst (p.N.map V.str)) := rfl
    have d41 : up (up f' 40 (.lst (p.N.map V.str))) 41 (.lst (p.R.map V.str)) 41 = some (.lst (p.R.map V.str)) := rfl
    have d17 : up (up f' 40 (.lst (p.N.map V.str))) 41 (.lst (p.R.map V.str)) 17 = some (resV p (truthF (sSh S) (sw S) q) (rws lo (hi - lo).toNat p.n)) := h17
    generalize up (up f' 40 (.lst (p.N.map V.str))) 41 (.lst (p.R.map V.str)) = f4 at s8 d40 d41 d17
    have hcr := c_refute (B := B) (k := k + 59) (σ := SA st ak σ (sw S) 11) (lo := lo) (hi := hi) P.P hsp.ok hoc h1.d (Nat.le_trans (by decide) (Nat.le_add_left 59 k))
    rw [hfun] at hcr
    refine s_asg (m := 18) (r := lw 40) (to_call (to_cons (to_idx (v_ s8.a.h26) (v_ s8.h34) rfl (Int.natCast_nonneg _) (by rw [Int.toNat_natCast,List.getElem?_map,hc]; rfl)) (to_cons (v_ d40) (to_cons (v_ d41) (to_cons (v_ s8.h32) (to_cons (v_ s8.h33) (to_cons (v_ s8.h31) to_nil)))))) hcr) ?_
    have s9 := s8.up (i := 18) (resV p (truthF (sSh S) (sw S) q) (rws lo (hi - lo).toNat p.n)) (.inr (.inr rfl))
    have g18 : up f4 18 (resV p (truthF (sSh S) (sw S) q) (rws lo (hi - lo).toNat p.n)) 18 = some (resV p (truthF (sSh S) (sw S) q) (rws lo (hi - lo).toNat p.n)) := up_eq _ _ _
    have g17 := up_ne (d := resV p (truthF (sSh S) (sw S) q) (rws lo (hi - lo).toNat p.n)) d17 (show 17 ≠ 18 by decide)
    have g40 := up_ne (d := resV p (truthF (sSh S) (sw S) q) (rws lo (hi - lo).toNat p.n)) d40 (show 40 ≠ 18 by decide)
    have g41 := up_ne (d := resV p (truthF (sSh S) (sw S) q) (rws lo (hi - lo).toNat p.n)) d41 (show 41 ≠ 18 by decide)
    generalize up f4 18 (resV p (truthF (sSh S) (sw S) q) (rws lo (hi - lo).toNat p.n)) = f5 at s9 g18 g17 g40 g41
    have hres := sm_res (p := p) (g := truthF (sSh S) (sw S) q) (rws lo (hi - lo).toNat p.n) fun r hr => hsp.inv (rws_mem hr)
    refine st_no (r := lw 41) (tv_same (v_ g18) (v_ g17) hres.1 (Nat.le_trans hres.2 (by decide))) ?_
    refine st_no (r := lw 42) (tv_or_no (tv_same (v_ s9.a.a.a.h8) (v_ s9.a.a.a.h9) hst.1 (Nat.le_trans hst.2 (by decide))) (tv_same (v_ s9.a.a.h14) (to_call (to_cons (v_ s9.a.a.a.h1) (to_cons (v_ s9.a.a.h11) (to_cons (v_ s9.a.a.h12) to_nil))) (c_block P.P (sh_lt S) (SA_s hf 11) (SA_a 11))) hbl.1 (Nat.le_trans hbl.2 (by decide)))) ?_
    refine st_no (r := lw 43) (tv_or_no (tv_same (v_ g40) (to_list (v_ s9.h29) rfl) (sm_names hN).1 (Nat.le_trans (sm_names hN).2 (by decide))) (tv_same (v_ g41) (to_list (v_ s9.h30) rfl) (sm_names hR).1 (Nat.le_trans (sm_names hR).2 (by decide)))) ?_
    exact st_ret (e := .lit (.bool true)) to_lit T
  refine st_range1 (r := lw 35) (j := ((p.n : Nat) : Int)) (fun Q q => to_add (to_len (v_ s5.h29) rfl) (to_mul (to_len (v_ s5.h30) rfl) (v_ s5.h31) (by rw [List.length_map]; exact abs_le (Nat.le_trans hsp.l2 (by decide))) (abs_le (Nat.le_trans hsp.z (by decide)))) Q (by rw [List.length_map,List.length_map]; exact q)) (Int.le_trans (Int.ofNat_le.mpr hsp.n) (by decide)) ?_
  rw [Int.toNat_natCast]
  refine loop34 hsp hwd (fun f' s6 h35 => ?_) p.n 0 f3 (Nat.zero_add _) s5 b35
  refine s_asg (m := 17) (r := lw 36) (d := .none) to_lit ?_
  have s7 := s6.up (i := 17) .none (.inr (.inl rfl))
  exact st_seq (b := body36) (r := lw 37) (v_ (up_ne h35 (by decide))) rfl (by rw [List.length_map]; exact Nat.le_trans (rws8 hwd hsp.n) (by decide)) (loop36 (k := k + 55) P hsp hq rest _ _ (fun r hr => rws_mem hr) rfl s7 (up_eq _ _ _))
end
section
variable {B:B0} {k:Nat} {σ:Store} {S:List Int}
theorem law_ok (P:Prog2 B) (hp:∃ p,(p,MO.tab B.tc p) ∈ σ) (hk:60 ≤ k) (hz:S.length ≤ 1000) : CallM B (k + 1) 23 [.lst (S.map V.int)] σ fun d σ' => d = .bool true ∧ ∀ x ∈ σ,x ∈ σ' := by
  refine callB P.P (by decide) (by kernel_rfl) ok23 tr23 ⟨rfl,rfl⟩ rfl ?_
  rw [nx23]
  have e : setAll (List.replicate 42 none) [0] [.lst (S.map V.int)] = mkL (up (fun _ => none) 0 (.lst (S.map V.int))) := rfl
  rw [e]
  show stW B k (.iff (.cmp .lt (.prim .len (.cons (.var 0) .nil)) (.lit (.int 24))) (.ret (.lit (.bool true))) .nil (lw 1)) _ _ _
  refine st_if (tv_lt (to_len (v_ (up_eq _ _ _)) rfl) to_lit) (fun hl => ?_) (fun hl => ?_)
  · exact st_ret to_lit ⟨rfl,fun x h => h⟩
  · have hS : 24 ≤ S.length := by
      have hl := Int.not_lt.mp (of_decide_eq_false hl)
      rw [List.length_map] at hl
      exact Int.ofNat_le.mp hl
    refine st_nil ?_
    refine seg1 P hS (up_eq _ _ _) fun f1 s1 => ?_
    refine seg2 P (Nat.le_trans (by decide) hk) s1 fun f2 st ak hf s2 h11 h12 => ?_
    refine seg3 P hS hk hp hf s2 h11 h12 fun f3 s3 => ?_
    refine seg4 P hS hk s3 fun f4 cs s4 => ?_
    exact seg5 P hS hk hf s4 ⟨rfl,fun x h => .tail _ (.tail _ h)⟩
end
end Mine
end
section
namespace Mine
open PySem PySem.W PyProof.Rows
set_option Elab.async false
set_option maxHeartbeats 8000000
noncomputable def keep1 : List Nat := [1,2,3,4,5,6,7,8,9,10,11,12,13,14,15,16,18,19,20,21,22,23,24,25,26,27]
noncomputable def q1 : Program := view PySem.Challenge.pw_sx_r082_1 keep1
mutual
noncomputable def exV (h:Heap) : V → Value → Bool
  | .int i,v => (match v with | .int j _ => i == j | _ => false)
  | .str s,v => (match v with | .str x _ => x.cps.toList == s | _ => false)
  | .tup ds,v => (match v with
    | .ref a => (match h.get? a with
      | some o => o.cls == .type "tuple" && o.dict.isNone && o.slots.size == 0 && (match o.data with | .seq vs _ => decide (vs.size ≤ 1000) && exL h ds vs.toList | _ => false)
      | none => false)
    | _ => false)
  | _,_ => false
noncomputable def exL (h:Heap) : List V → List Value → Bool
  | [],vs => vs.isEmpty
  | d :: ds,vs => (match vs with | v :: vs => exV h d v && exL h ds vs | [] => false)
end
noncomputable def XP1 (mg:Str → Option Value) (h:Heap) : Prop := ∀ p ∈ [(nm "_law_FLOWS",V.tup ((List.range 5).map flowV)),(nm "_law_SPACES",V.tup (spaces.map spcV))],∃ v,mg p.1 = some v ∧ exV h p.2 v = true
noncomputable def Xt1 (s:Shared) : Bool := ([(nm "_law_FLOWS",V.tup ((List.range 5).map flowV)),(nm "_law_SPACES",V.tup (spaces.map spcV))].all fun p => (s.heap.nsMap mainGlobals p.1).any (exV s.heap p.2)) && recOk (RowW.records PySem.Challenge.rw_sx_r082_1.row.toRowW) s
theorem left1 : LeftO PySem.Challenge.pw_sx_r082_1 q1 [] Xt1 (Hook.obs Hook.none) (Hook.val Hook.none) 2454 := fun w => by kernel_rfl
end Mine
end
section
namespace Mine
open PySem PySem.W PyProof.Rows PySem.Calls
mutual
theorem exV_ok {prog:Program} {w:World} {h:Heap} {G:View} (hG:∀ a o,h.get? a = some o → o.cls = .type "tuple" → G a = some o) : ∀ (d:V) (v:Value),exV h d v = true → RepV prog w G v d
  | .int i,v,e => by
    cases v <;> simp only [exV,Bool.false_eq_true,beq_iff_eq] at e
    subst e; exact .int _ _
  | .str s,v,e => by
    cases v <;> simp only [exV,Bool.false_eq_true,beq_iff_eq] at e
    exact .str e
  | .tup ds,v,e => by
    cases v <;> simp only [exV,Bool.false_eq_true] at e
    rename_i a
    cases ho : h.get? a with
    | none => rw [ho] at e; cases e
    | some o =>
      rw [ho] at e
      simp only [Bool.and_eq_true,beq_iff_eq] at e
      obtain ⟨⟨⟨e1,e2⟩,e3⟩,e4⟩ := e
      obtain ⟨c,dd,da,sl⟩ := o
      simp only at e1 e2 e3 e4
      cases da with
      | seq vs n =>
        simp only [Bool.and_eq_true,decide_eq_true_eq] at e4
        have e2' : dd = none := Option.isNone_iff_eq_none.mp e2
        have e3' : sl = #[] := Array.eq_empty_of_size_eq_zero e3
        subst e1 e2' e3'
        exact .tup (hG a _ ho rfl) (le_line e4.1) (exL_ok hG ds _ e4.2)
      | _ => cases e4
  | .none,v,e => by simp [exV] at e
  | .bool _,v,e => by simp [exV] at e
  | .lst _,v,e => by simp [exV] at e
  | .sd _,v,e => by simp [exV] at e
  | .ed _,v,e => by simp [exV] at e
  | .ref _,v,e => by simp [exV] at e
  | .atom _,v,e => by simp [exV] at e
theorem exL_ok {prog:Program} {w:World} {h:Heap} {G:View} (hG:∀ a o,h.get? a = some o → o.cls = .type "tuple" → G a = some o) : ∀ (ds:List V) (vs:List Value),exL h ds vs = true → RepL prog w G vs ds
  | [],vs,e => by
    cases vs with
    | nil => exact .nil
    | cons _ _ => simp [exL] at e
  | d :: ds,vs,e => by
    cases vs with
    | nil => simp [exL] at e
    | cons v vs =>
      simp only [exL,Bool.and_eq_true] at e
      exact .cons (exV_ok hG d v e.1) (exL_ok hG ds vs e.2)
end
mutual
theorem exV_keep {h h':Heap} (hk:∀ b o,h.get? b = some o → h'.get? b = some o) : ∀ (d:V) (v:Value),exV h d v = true → exV h' d v = true
  | .int i,v,e => by cases v <;> simp only [exV,Bool.false_eq_true] at e ⊢; exact e
  | .str i,v,e => by cases v <;> simp only [exV,Bool.false_eq_true] at e ⊢; exact e
  | .tup ds,v,e => by
    cases v <;> simp only [exV,Bool.false_eq_true] at e ⊢
    rename_i a
    cases ho : h.get? a with
    | none => rw [ho] at e; cases e
    | some o =>
      rw [ho] at e
      rw [hk a o ho]
      simp only [Bool.and_eq_true] at e ⊢
      refine ⟨e.1,?_⟩
      have e4 := e.2
      cases hd : o.data with
      | seq vs n =>
        rw [hd] at e4
        simp only [Bool.and_eq_true] at e4 ⊢
        exact ⟨e4.1,exL_keep hk ds _ e4.2⟩
      | _ => rw [hd] at e4; cases e4
  | .none,v,e => by simp [exV] at e
  | .bool _,v,e => by simp [exV] at e
  | .lst _,v,e => by simp [exV] at e
  | .sd _,v,e => by simp [exV] at e
  | .ed _,v,e => by simp [exV] at e
  | .ref _,v,e => by simp [exV] at e
  | .atom _,v,e => by simp [exV] at e
theorem exL_keep {h h':Heap} (hk:∀ b o,h.get? b = some o → h'.get? b = some o) : ∀ (ds:List V) (vs:List Value),exL h ds vs = true → exL h' ds vs = true
  | [],vs,e => by simpa [exL] using e
  | d :: ds,vs,e => by
    cases vs with
    | nil => simp [exL] at e
    | cons v vs =>
      simp only [exL,Bool.and_eq_true] at e ⊢
      exact ⟨exV_keep hk d v e.1,exL_keep hk ds vs e.2⟩
end
theorem XP1_of (s:Shared) (e:Xt1 s = true) : XP1 (s.heap.nsMap mainGlobals) s.heap := by
  intro p hp
  have e1 := List.all_eq_true.mp (Bool.and_eq_true_iff.mp e).1 p hp
  cases q : s.heap.nsMap mainGlobals p.1 with
  | none => rw [q] at e1; cases e1
  | some v => rw [q] at e1; exact ⟨v,rfl,e1⟩
theorem XP1_keep (mg:Str → Option Value) (h h':Heap) (x:XP1 mg h) (hk:∀ b o,h.get? b = some o → h'.get? b = some o) : XP1 mg h' := by
  intro p hp
  obtain ⟨v,e1,e2⟩ := x p hp
  exact ⟨v,e1,exV_keep hk _ _ e2⟩
theorem recs_q : recsOf q1 = recsOf pr1 := by kernel_rfl
theorem R1_mem (i:Nat) (hi:i < 24) : R1 i ∈ recsOf q1 := by
  rw [recs_q]
  have hl : (recsOf pr1).length = 24 := by kernel_rfl
  unfold R1
  rw [List.getElem?_eq_getElem (by rw [hl]; exact hi)]
  exact List.getElem_mem _
theorem hide_ne {h:Heap} {P:Addr} {ps:Array Value} {tc:Addr} (t:h.TableAt tc P ps) {a:Addr} {o:Obj} (e:h.get? a = some o) (hne:∀ ps,o.data ≠ .fields ps) : (PySem.W.hideAll h [P]).get? a = some o := by
  refine PySem.W.hideAll_get _ e fun hm => ?_
  simp only [List.mem_singleton] at hm
  subst hm
  rw [t.2] at e
  cases e
  exact hne ps rfl
theorem hide_ns {h:Heap} {P:Addr} {ps:Array Value} {tc:Addr} (t:h.TableAt tc P ps) {a:Addr} {m:Str → Option Value} (n:h.Ns a m) : (PySem.W.hideAll h [P]).Ns a m := by
  obtain ⟨o,es,ep,e,d,r⟩ := n
  exact ⟨o,es,ep,hide_ne t e (fun ps q => by rw [q] at d; cases d),d,r⟩
noncomputable def mkB (w:World) (mg mb:Str → Option Value) (h:Heap) (tc P:Addr) : B0 :=
  { prog := PySem.Challenge.pw_sx_r082_1,w := w,base := PySem.W.hideAll h [P],mg := mg,mb := mb,fns := fns1,gls := gls1,gv := [.tup ((List.range 5).map flowV),.tup (spaces.map spcV)],tc := tc }
theorem blts_free : ∀ p ∈ blts,p.1 ∉ startupNames ∧ p.1 ∉ looseW q1 [] ∧ p.1 ∉ (recsOf q1).map (·.name) ∧ p.1 ∉ (litsOf q1).map (·.1) ∧ p.1 ∉ (clssOf q1 (looseW q1 [])).map (·.name) := by decide +kernel
theorem blts_boot : ∀ p ∈ blts,p.1 ≠ "__name__" ∧ bootBuiltins p.1 = some p.2 := by decide +kernel
theorem fns_names : ∀ i,i < 24 → fns1[i]? = some (R1 i).name := by decide +kernel
section
variable {mean:ExcName → Option Value} {w:World} {mg mb:Str → Option Value} {h:Heap}
theorem prog_of (T:Top q1 (looseW q1 []) mean mg mb h) (X:XP1 mg h) : ∃ tc P,(∃ a o fd,mg (R1 23).name = some (.ref a) ∧ h.get? a = some o ∧ o.data = .func fd ∧ fd.code = .ref tc) ∧ h.IsCode tc P #[] ∧ h.TableAt tc P #[] ∧ Prog2 (mkB w mg mb h tc P) := by
  obtain ⟨a,o,fd,tc,P,h1,h2,h3,h4,h5,h6⟩ := T.tab (R1 23) (R1_mem 23 (by decide))
  refine ⟨tc,P,⟨a,o,fd,h1,h2,h3,h4⟩,h5,h6,?_⟩
  have hfn : ∀ {a:Addr} {o:Obj} {fd:FuncData},h.get? a = some o → o.data = .func fd → (PySem.W.hideAll h [P]).get? a = some o := fun e d => hide_ne h6 e fun ps q => by rw [q] at d; cases d
  have hOK : (mkB w mg mb h tc P).OK := by
    refine ⟨hide_ns h6 T.g,hide_ns h6 T.b,?_,fun i x hx => ?_,fun i x d hx hd => ?_,fun x v hx => ?_,?_⟩
    · obtain ⟨mc,n,e⟩ := T.nolimit
      exact ⟨mc,hide_ns h6 n,e⟩
    · have hi : i < 24 := by
        have hl : fns1.length = 24 := by decide
        have := (List.getElem?_eq_some_iff.mp (show fns1[i]? = some x from hx)).1
        rw [hl] at this
        exact this
      have hn : x = (R1 i).name := by
        have := fns_names i hi
        rw [show fns1[i]? = some x from hx] at this
        exact Option.some.inj this
      obtain ⟨a,o,pm,code,doc,e1,e2,e3,e4⟩ := T.fn (R1 i) (R1_mem i hi)
      exact ⟨a,o,_,by rw [hn]; exact e1,hfn e2 e3,e3⟩
    · have hG : ∀ a o,h.get? a = some o → o.cls = .type "tuple" → (PySem.W.hideAll h [P]).get? a = some o := fun a o e c => by
        refine PySem.W.hideAll_get _ e fun hm => ?_
        simp only [List.mem_singleton] at hm
        subst hm
        rw [h6.2] at e
        cases e
        cases c
      have key : ∀ p ∈ [(nm "_law_FLOWS",V.tup ((List.range 5).map flowV)),(nm "_law_SPACES",V.tup (spaces.map spcV))],∃ v,mg p.1 = some v ∧ RepV PySem.Challenge.pw_sx_r082_1 w (PySem.W.hideAll h [P]).get? v p.2 := fun p hp => by
        obtain ⟨v,e1,e2⟩ := X p hp
        exact ⟨v,e1,exV_ok hG _ _ e2⟩
      match i,hx,hd with
      | 0,hx,hd => cases hx; cases hd; exact key _ (.head _)
      | 1,hx,hd => cases hx; cases hd; exact key _ (.tail _ (.head _))
    · obtain ⟨f1,f2,f3,f4,f5⟩ := blts_free _ hx
      obtain ⟨g1,g2⟩ := blts_boot _ hx
      exact ⟨T.free x f1 f2 f3 f4 f5,(T.builtins x g1).trans g2⟩
    · obtain ⟨bm,ob,e1,e2,e3,e4,e5,e6⟩ := T.bmain
      exact ⟨bm,ob,hide_ns h6 T.g,e1,e2,hide_ne h6 e3 (fun ps q => by rw [q] at e6; cases e6),e4,e5,e6⟩
  refine ⟨⟨hOK,rfl,rfl,fun i hi => ?_⟩,rfl⟩
  obtain ⟨b,ob,pm,code,doc,e1,e2,e3,e4⟩ := T.fn (R1 i) (R1_mem i hi)
  refine ⟨b,ob,pm,code,doc,e1,hfn e2 e3,e3,?_,fun hg => ?_⟩
  · obtain ⟨c,oc,vs,t,c1,c2,c3,c4⟩ := e4
    refine ⟨c,oc,vs,t,c1,PySem.W.hideAll_get _ c2 fun hm => ?_,c3,c4⟩
    simp only [List.mem_singleton] at hm
    subst hm
    rw [h6.2] at c2
    cases c2
    cases c3
    simp at c4
  · have hi23 : i = 23 := by simpa using hg
    subst hi23
    rw [h1] at e1
    cases e1
    rw [h2] at e2
    cases e2
    rw [h3] at e3
    cases e3
    exact h4
end
theorem items_int {R:WRecords} {xs:List WData} (h:WShape.hasItems R xs .int = true) : ∃ S : List Int,xs = S.map WData.int := by
  induction xs with
  | nil => exact ⟨[],rfl⟩
  | cons x xs ih =>
    obtain ⟨S,rfl⟩ := ih (an h).2
    obtain ⟨i,rfl⟩ := hasW_int (an h).1
    exact ⟨i :: S,rfl⟩
theorem len_of {S:List Int} (h:PySem.Challenge.rw_sx_r082_1.row.toRowW.pre.holds [] { args := [WData.list (S.map WData.int)] } = true) : S.length ≤ 63 := by
  have e : PySem.Challenge.rw_sx_r082_1.row.toRowW.pre = .and (.not (.lt (.lit (.int 63)) (.len (.arg 0)))) (.lit (.bool true)) := rfl
  rw [e] at h
  by_cases q : S.length ≤ 63
  · exact q
  · exfalso
    have hlt : (63:Int) < (S.length : Int) := by omega
    simp [WTm.holds,WTm.value,less?,Num.less?,hlt] at h
theorem well_ints {P:Params} {h:Heap} : ∀ {vs:List Value} {S:List Int},WellAll P h vs (S.map WData.int) → ∀ (prog:Program) (w:World) (G:View),RepL prog w G vs (S.map V.int)
  | _,[],x,_,_,_ => by cases x; exact .nil
  | _,i :: S,x,prog,w,G => by
    cases x with | cons a b =>
    cases a
    exact .cons (.int _ _) (well_ints b prog w G)
theorem walk1 : WalkO q1 [] XP1 (Hook.says Hook.none) PySem.Challenge.rw_sx_r082_1.row.toRowW (R1 23) [] fun f vs => PySem.call f vs := by
  intro w s₀ s₁ mg mb G Y fa o pm cd doc dV kV ho hd hcd hD hmg hg args vals as hpre hlay hrd hwl hlo
  obtain ⟨tc,P,_,hc,ht,hP⟩ := prog_of (w := w) G.T G.X
  obtain ⟨hp1,hp2⟩ := pre_splitW hpre
  obtain ⟨d,r,rfl,e1,e2⟩ := hasAllW_cons hp1
  obtain rfl := hasAllW_nil e2
  obtain ⟨xs,rfl,e3⟩ := hasW_list e1
  obtain ⟨S,rfl⟩ := items_int e3
  have hlen := len_of hp2
  cases hwl with | cons hw1 hw2 =>
  cases hw2
  cases hw1 with | @list l vs _ hl hws =>
  have hlP : (PySem.W.hideAll s₁.heap [P]).get? l = some (sq "list" vs.toArray 0) := hide_ne ht hl fun ps q => nomatch q
  have hvl : vs.length = S.length := by
    have := (well_ints hws PySem.Challenge.pw_sx_r082_1 w fun _ => none).length
    simpa using this
  have hrl : (mkB w mg mb s₁.heap tc P).RL (PySem.W.hideAll s₁.heap [P]).get? [.ref l] [.lst (S.map V.int)] := .cons (.lst hlP (by simp; rw [show sizeLine = 2 ^ 24 from rfl]; omega) (by simpa using well_ints hws _ _ _)) .nil
  have hPn : (PySem.W.hideAll s₁.heap [P]).get? P = none := PySem.W.hideAll_none _ (.head _)
  have hrel : Rel (mkB w mg mb s₁.heap tc P) (PySem.W.hideAll s₁.heap [P]) [(P,.tab tc P)] (PySem.W.hideAll s₁.heap [P]).get? s₁ := by
    refine ⟨VLe.refl _,fun a o e => PySem.W.of_hideAll _ e,fun a o e => PySem.W.of_hideAll _ e,⟨fun a m hm => ?_,by simp⟩,fun a m hm => ?_⟩
    · simp only [List.mem_singleton,Prod.mk.injEq] at hm
      obtain ⟨rfl,rfl⟩ := hm
      obtain ⟨⟨oc,vs',c1,c2,c3,c4⟩,c5⟩ := id ht
      have htc : (PySem.W.hideAll s₁.heap [a]).get? tc = some oc := PySem.W.hideAll_get _ c1 fun hm => by
        simp only [List.mem_singleton] at hm
        subst hm
        rw [c5] at c1
        cases c1
        cases c2
      exact ⟨hPn,.inr ⟨_,_,rfl⟩,_,c5,oc,#[],htc,fun hh a1 a2 => tab_any c1 c5 a1 a2 hc ht⟩
    · simp only [List.mem_singleton,Prod.mk.injEq] at hm
      obtain ⟨rfl,rfl⟩ := hm
      exact hPn
  have hbud : Bud 61 callerA := ⟨by decide,by decide,rfl⟩
  have hcall := law_ok (B := mkB w mg mb s₁.heap tc P) (k := 60) (σ := [(P,.tab tc P)]) (S := S) hP ⟨P,.head _⟩ (by decide) (by omega)
  refine wpAny_mono (hcall callerA _ s₁ _ _ [.ref l] (R1 23).name fa hbud hrel hrl (fns_names 23 (by decide)) hmg) (fun v s' hh => ?_) fun _ _ e => e
  obtain ⟨G',σ',d,st,r',rv,rfl,hσ⟩ := hh
  cases rv
  refine ⟨.inl ⟨_,.bool true,[],rfl,fun cls => rfl,.bool true,?_,fun _ => ⟨.nil,fun a ha => by cases ha⟩⟩,⟨fun b ob e => ?_,fun b ob e => st.alive b ob e⟩,st.os,?_⟩
  · show (WShape.has [] (.bool true) .bool && WTm.holds [] (.eq .res (.lit (.bool true))) { args := [.list (S.map WData.int)],res := some (.bool true),after := [.list (S.map WData.int)] }) = true
    kernel_rfl
  · by_cases hb : b = P
    · subst hb
      obtain ⟨_,_,oP,f1,oc,ps,f2,f3⟩ := r'.sto.at_ _ _ (hσ _ (.head _))
      obtain ⟨_,tb⟩ := f3 s'.heap (r'.gin _ _ f2) f1
      rw [ht.2] at e
      cases e
      exact .inr (.inl ⟨ht.isCodeTable,rfl,#[],ps,rfl,by rw [tb.2]; simp⟩)
    · exact .inl (r'.kin b ob (PySem.W.hideAll_get _ e (by simpa using hb)))
  · have hleft := st.gens (by rw [hg]; simp [leftWithCleanup])
    intro y hy
    unfold leftWithCleanup at hleft
    have := Array.any_eq_false.mp hleft
    obtain ⟨i,hi,e⟩ := Array.getElem_of_mem hy
    have := this i hi
    rw [e] at this
    cases y <;> first | rfl | simpa [GenState.bare] using this
end Mine
end
section
open PySem PySem.W PyProof.Rows PySem.Calls
set_option maxHeartbeats 8000000
theorem Mine.said1 : PySem.Challenge.rw_sx_r082_1.wellSaid = true := by
  refine Mine.an2 (Mine.an2 (Mine.an2 (Mine.an2 (Mine.an2 (Mine.an2 (Mine.an2 (Mine.an2 (Mine.an2 (Mine.an2 (Mine.an2 (Mine.an2 (Mine.an2 (Mine.an2 (Mine.an2 (Mine.an2 (Mine.an2 (Mine.an2 (Mine.an2 (Mine.an2 ?_ ?_) ?_) ?_) ?_) ?_) ?_) ?_) ?_) ?_) ?_) ?_) ?_) ?_) ?_) ?_) ?_) ?_) ?_) ?_) ?_
  all_goals decide +kernel
theorem PySem.Challenge.cw_sx_r082_1_holds : PySem.Challenge.rw_sx_r082_1.Holds := by
  refine holds_law Mine.said1 fun said => ?_
  refine holds_open (q := Mine.q1) (loose := []) (Xt := Mine.Xt1) (XP := Mine.XP1) (Yf := Hook.obs Hook.none) (Ya := Hook.val Hook.none) (YP := Hook.says Hook.none) (N := 2454) (d := Mine.R1 23) (kwd := []) Mine.left1 (Hook.of Hook.none) (Hook.keeps Hook.none) Mine.XP1_of Mine.XP1_keep (by kernel_rfl) (by kernel_rfl) (by kernel_rfl) (fun s e => recFacts_of (Bool.and_eq_true_iff.mp e).2) (by rfl) said (by decide +kernel) ⟨rfl,rfl,rfl,rfl,rfl,by decide +kernel⟩ ⟨[.list []],by decide +kernel,by decide +kernel⟩ Mine.walk1
end
