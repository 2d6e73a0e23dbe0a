import PyProof.Rows.All
import Wide.All
import OpenK.AllK
import Wide.FinOn
import PyProof.DictStraight
import PyProof.DictItemsLoops
import PyProof.Rows.Many
import PyProof.Rows.Top
import PyProof.Rows.RowHeap
import PyProof.Rows.Tup
import PyProof.Rows.CellsNews
import PyProof.SliceList
import Wide.Head
import PyProof.Rows.Exc
import PyProof.Rows.TupSub
import PyProof.Rows.StrTemp
import PyProof.Rows.IntRules
import PyProof.Rows.RuleB_mod
import PyProof.Rows.DictMade
import PyProof.Rows.PlainStore
import PyProof.DictTruth
import PyProof.DelItemList
import PyProof.RulesDelMore
import PyProof.RulesDel
import KE.KDictList
import PyProof.CompFree
import PyProof.EqLayable
import PyProof.ForAny
import PyProof.IsRules
import PyProof.MakeMany
import PyProof.P3In
import PyProof.Rows.CellsFrame
import PyProof.Rows.SeqMore
import PyProof.Rows.SeqSlice
import PyProof.Rows.TupAssign
import PyProof.SeqI
import PyProof.StrOps
import PyProof.TypeOfCall
import PyProof.WalksPairs
import PyProof.Rows.Catch
import OpenK.KCall
import PyProof.ExcFactsAll.ValueError
import PyProof.IsInstance
import PyProof.IsiPairs
import PyProof.Rows.Chain
import PyProof.Rows.FStr
import PyProof.Rows.RuleU_int
import PyProof.Rows.RuleC_int
import PyProof.IsiNone
import PyProof.FString4
import PyProof.StrLawsRepr
import PyProof.StrCalls
import PyProof.Rows.StrLen
import KE.KIntText
import PyProof.CallStr
import PyProof.Rows.StrSub
import PyProof.NsDelKeeps
import PyProof.EnumMake
import PyProof.EnumFor
import PyProof.Draws
import PyProof.ExcStrCall
import PyProof.ExcStrAll.ValueError
import PyProof.StrHeap
import PyProof.Rows.StrNews
import PyProof.Rows.StrSplitAre
import PyProof.ListTruth
import PyProof.StrOps2
import KE.KEqDict
import PyProof.StrCalls2
import KE.KDictOf
import PyProof.AttrMissHeap
import PyProof.ListCopy
import KE.KItemsList
import PyProof.DictValues
import PyProof.StrLawsWords
import PyProof.StrLawsTight
import PyProof.CodeObjX
import PyProof.Cells
import KE.KPairComp
import KE.LcTurns
import PyProof.CompUse
import PyProof.ZipIter
import PyProof.OldK
import PySem.Challenge.RW_wm_yst127_1
set_option Elab.async false
section
open PySem PyProof.Rows PySem.Calls
namespace Mine

abbrev Lg := List (Addr × Obj)
abbrev tupO (vs : List Value) (n : Nat) : Obj := { cls := .type "tuple", data := .seq vs.toArray n }
abbrev lstO (vs : List Value) (n : Nat) : Obj := { cls := .type "list", data := .seq vs.toArray n }
abbrev celO (v : Option Value) : Obj := { cls := .type "cell", data := .cell v }

/-! data over a ledger of standing objects -/
inductive Dt where
  | none | bad
  | bool (b : Bool)
  | int (i : Int)
  | str (x : Str)
  | flt
  | list (xs : List Dt)
  | tuple (xs : List Dt)
mutual
def ofP : PyData → Dt
  | .none => .none
  | .bool b => .bool b
  | .int i => .int i
  | .str x => .str x
  | .list xs => .list (ofPs xs)
  | .tuple xs => .tuple (ofPs xs)
  | .dict _ => .bad
def ofPs : List PyData → List Dt
  | [] => []
  | x :: r => ofP x :: ofPs r
end
mutual
inductive DL (g : Lg) : Value → Dt → Prop
  | none : DL g .none .none
  | bool (b : Bool) : DL g (.bool b) (.bool b)
  | int (i : Int) (t : Tok) : DL g (.int i t) (.int i)
  | str (x : Str) (t : Tok) : DL g (.str x t) (.str x)
  | flt (x : UInt64) (t : Tok) : DL g (.float x t) .flt
  | list {a : Addr} {n : Nat} {vs : List Value} {ds : List Dt} : (a, lstO vs n) ∈ g → DLs g vs ds → DL g (.ref a) (.list ds)
  | tuple {a : Addr} {o : Obj} {n : Nat} {vs : List Value} {ds : List Dt} : (a, o) ∈ g → o.cls = .type "tuple" → o.data = .seq vs.toArray n → DLs g vs ds → DL g (.ref a) (.tuple ds)
inductive DLs (g : Lg) : List Value → List Dt → Prop
  | nil : DLs g [] []
  | cons {v : Value} {vs : List Value} {d : Dt} {ds : List Dt} : DL g v d → DLs g vs ds → DLs g (v :: vs) (d :: ds)
end
mutual
theorem DL.mono {g g' : Lg} (hs : ∀ p ∈ g, p ∈ g') : ∀ {v : Value} {d : Dt}, DL g v d → DL g' v d
  | _, _, .none => .none
  | _, _, .bool b => .bool b
  | _, _, .int i t => .int i t
  | _, _, .str x t => .str x t
  | _, _, .flt x t => .flt x t
  | _, _, .list h r => .list (hs _ h) (DLs.mono hs r)
  | _, _, .tuple h c d r => .tuple (hs _ h) c d (DLs.mono hs r)
theorem DLs.mono {g g' : Lg} (hs : ∀ p ∈ g, p ∈ g') : ∀ {vs : List Value} {ds : List Dt}, DLs g vs ds → DLs g' vs ds
  | _, _, .nil => .nil
  | _, _, .cons h r => .cons (DL.mono hs h) (DLs.mono hs r)
end
mutual
theorem DL.readsP {g : Lg} {h : Heap} (hl : ∀ p ∈ g, h.get? p.1 = some p.2) : ∀ {v : Value} {d : Dt}, DL g v d → ∀ {p : PyData}, ofP p = d → ∃ as, Reads h v p as
  | _, _, .none, p, e => by cases p <;> simp [ofP] at e; exact ⟨_, .none⟩
  | _, _, .bool b, p, e => by cases p <;> simp [ofP] at e; subst e; exact ⟨_, .bool _⟩
  | _, _, .int i t, p, e => by cases p <;> simp [ofP] at e; subst e; exact ⟨_, .int _ _⟩
  | _, _, .str x t, p, e => by cases p <;> simp [ofP] at e; subst e; exact ⟨_, .str _ _⟩
  | _, _, .flt x t, p, e => by cases p <;> simp [ofP] at e
  | _, _, .list m r, p, e => by
    cases p <;> simp [ofP] at e
    obtain ⟨as, q⟩ := DLs.readsP hl r e
    exact ⟨_, reads_list_at (hl _ m) rfl rfl (by simpa using q)⟩
  | _, _, .tuple m c d r, p, e => by
    cases p <;> simp [ofP] at e
    obtain ⟨as, q⟩ := DLs.readsP hl r e
    exact ⟨_, reads_tuple_at (hl _ m) c d (by simpa using q)⟩
theorem DLs.readsP {g : Lg} {h : Heap} (hl : ∀ p ∈ g, h.get? p.1 = some p.2) : ∀ {vs : List Value} {ds : List Dt}, DLs g vs ds → ∀ {ps : List PyData}, ofPs ps = ds → ∃ as, ReadsAll h vs ps as
  | _, _, .nil, ps, e => by cases ps <;> simp [ofPs] at e; exact ⟨_, .nil⟩
  | _, _, .cons a r, ps, e => by
    cases ps <;> simp [ofPs] at e
    obtain ⟨as, q⟩ := DL.readsP hl a e.1
    obtain ⟨bs, q'⟩ := DLs.readsP hl r e.2
    exact ⟨as ++ bs, .cons q q'⟩
end
theorem DL.reads {g : Lg} {h : Heap} (hl : ∀ p ∈ g, h.get? p.1 = some p.2) {v : Value} {p : PyData} (D : DL g v (ofP p)) : ∃ as, Reads h v p as := D.readsP hl rfl
theorem DLs.length {g : Lg} : ∀ {vs : List Value} {ds : List Dt}, DLs g vs ds → vs.length = ds.length
  | _, _, .nil => rfl
  | _, _, .cons _ r => by simp [r.length]
theorem DLs.append {g : Lg} : ∀ {vs : List Value} {ds : List Dt}, DLs g vs ds → ∀ {ws : List Value} {es : List Dt}, DLs g ws es → DLs g (vs ++ ws) (ds ++ es)
  | _, _, .nil, _, _, k => k
  | _, _, .cons a r, _, _, k => .cons a (r.append k)
theorem DLs.get {g : Lg} : ∀ {vs : List Value} {ds : List Dt}, DLs g vs ds → ∀ {i : Nat} {d : Dt}, ds[i]? = some d → ∃ v, vs[i]? = some v ∧ DL g v d
  | _, _, .nil, i, d, h => by simp at h
  | _, _, .cons a r, 0, d, h => by simp at h; subst h; exact ⟨_, rfl, a⟩
  | _, _, .cons a r, i + 1, d, h => by simpa using r.get (by simpa using h)
theorem DLs.getV {g : Lg} : ∀ {vs : List Value} {ds : List Dt}, DLs g vs ds → ∀ {i : Nat} {v : Value}, vs[i]? = some v → ∃ d, ds[i]? = some d ∧ DL g v d
  | _, _, .nil, i, d, h => by simp at h
  | _, _, .cons a r, 0, d, h => by simp at h; subst h; exact ⟨_, rfl, a⟩
  | _, _, .cons a r, i + 1, d, h => by simpa using r.getV (by simpa using h)

/-! the state inside a def's body: the frame, what the call may still turn (u), what stands (g) -/
structure St (h₀ : Heap) (L : Addr) (gi : Lg) (m : Str → Option Value) (u g : Lg) (h : Heap) : Prop where
  fr : Fr h₀ L h m
  un : ∀ p ∈ u, h.get? p.1 = some p.2 ∧ p.1 ≠ L ∧ h₀.get? p.1 = none
  led : ∀ p ∈ g, h.get? p.1 = some p.2 ∧ p.1 ≠ L
  sep : ∀ p ∈ g, ∀ q ∈ u, p.1 ≠ q.1
  nd : (u.map (·.1)).Nodup
  prov : ∀ p ∈ g, p ∈ gi ∨ h₀.get? p.1 = none

def Ext (h h' : Heap) : Prop := ∀ b o, h.get? b = some o → h'.get? b = some o
theorem Ext.refl (h : Heap) : Ext h h := fun _ _ e => e
theorem Ext.trans {h h' h'' : Heap} (x : Ext h h') (y : Ext h' h'') : Ext h h'' := fun b o e => y b o (x b o e)

section
variable {h₀ h h' : Heap} {L : Addr} {gi : Lg} {m m' : Str → Option Value} {u g : Lg} {o : Obj} {a : Addr}
theorem St.at (S : St h₀ L gi m u g h) : ∀ p ∈ g, h.get? p.1 = some p.2 := fun p hp => (S.led p hp).1
theorem St.ext (S : St h₀ L gi m u g h) (hk : Ext h h') : St h₀ L gi m u g h' :=
  ⟨S.fr.after hk, fun p hp => ⟨hk _ _ (S.un p hp).1, (S.un p hp).2⟩, fun p hp => ⟨hk _ _ (S.led p hp).1, (S.led p hp).2⟩, S.sep, S.nd, S.prov⟩
theorem St.store (S : St h₀ L gi m u g h) (hn : h'.Ns L m') (hs : Heap.SameBut L h h') : St h₀ L gi m' u g h' :=
  ⟨S.fr.set hn hs, fun p hp => ⟨(hs.2 _ (S.un p hp).2.1).trans (S.un p hp).1, (S.un p hp).2⟩, fun p hp => ⟨(hs.2 _ (S.led p hp).2).trans (S.led p hp).1, (S.led p hp).2⟩, S.sep, S.nd, S.prov⟩
theorem St.fresh (S : St h₀ L gi m u g h) (ha : h.get? a = none) : h₀.get? a = none := by
  cases q : h₀.get? a with
  | none => rfl
  | some o => rw [S.fr.keep _ _ q] at ha; cases ha
theorem St.neL (S : St h₀ L gi m u g h) (ha : h.get? a = none) : a ≠ L := by
  rintro rfl
  obtain ⟨o, _, _, ho, _⟩ := S.fr.ns
  rw [ho] at ha; cases ha
theorem size_none (h : Heap) : h.get? h.objs.size = none := Heap.get?_none_of_le (Nat.le_refl _)
theorem St.pushG (S : St h₀ L gi m u g h) (o : Obj) (hf : o.isFreed = false := by rfl) : St h₀ L gi m u ((h.objs.size, o) :: g) (h.push o) := by
  have S' := S.ext (h' := h.push o) fun b o' e => Heap.get?_push_of_some _ e
  refine ⟨S'.fr, S'.un, fun p hp => ?_, fun p hp q hq => ?_, S.nd, fun p hp => ?_⟩
  · rcases List.mem_cons.mp hp with rfl | hp
    · exact ⟨Heap.get?_push_size _ hf, S.neL (size_none h)⟩
    · exact S'.led p hp
  · rcases List.mem_cons.mp hp with rfl | hp
    · exact Nat.ne_of_gt (Heap.lt_size (S.un q hq).1)
    · exact S.sep p hp q hq
  · rcases List.mem_cons.mp hp with rfl | hp
    · exact .inr (S.fresh (size_none h))
    · exact S.prov p hp
theorem St.pushU (S : St h₀ L gi m u g h) (o : Obj) (hf : o.isFreed = false := by rfl) : St h₀ L gi m ((h.objs.size, o) :: u) g (h.push o) := by
  have S' := S.ext (h' := h.push o) fun b o' e => Heap.get?_push_of_some _ e
  refine ⟨S'.fr, fun p hp => ?_, S'.led, fun p hp q hq => ?_, ?_, S.prov⟩
  · rcases List.mem_cons.mp hp with rfl | hp
    · exact ⟨Heap.get?_push_size _ hf, S.neL (size_none h), S.fresh (size_none h)⟩
    · exact S'.un p hp
  · rcases List.mem_cons.mp hq with rfl | hq
    · exact Nat.ne_of_lt (Heap.lt_size (S.led p hp).1)
    · exact S.sep p hp q hq
  · rw [List.map_cons, List.nodup_cons]
    refine ⟨fun hm => ?_, S.nd⟩
    obtain ⟨q, hq, e⟩ := List.mem_map.mp hm
    exact absurd (Heap.lt_size (S.un q hq).1) (e ▸ Nat.lt_irrefl _)
inductive Rep (a : Addr) (o o' : Obj) : Lg → Lg → Prop
  | head {r : Lg} : Rep a o o' ((a, o) :: r) ((a, o') :: r)
  | tail {p : Addr × Obj} {r r' : Lg} : Rep a o o' r r' → Rep a o o' (p :: r) (p :: r')
theorem Rep.mem {o' : Obj} {u u' : Lg} (R : Rep a o o' u u') : (a, o) ∈ u := by
  induction R with
  | head => exact .head _
  | tail _ ih => exact .tail _ ih
theorem Rep.keys {o' : Obj} {u u' : Lg} (R : Rep a o o' u u') : u'.map (·.1) = u.map (·.1) := by
  induction R with
  | head => rfl
  | tail _ ih => simp [ih]
theorem Rep.of {o' : Obj} {u u' : Lg} (R : Rep a o o' u u') : ∀ p ∈ u', p = (a, o') ∨ p ∈ u := by
  induction R with
  | head => intro p hp; rcases List.mem_cons.mp hp with h | h; exact .inl h; exact .inr (.tail _ h)
  | tail _ ih =>
    intro p hp
    rcases List.mem_cons.mp hp with h | h
    · exact .inr (h ▸ .head _)
    · exact (ih p h).imp id fun h => .tail _ h
theorem Rep.nodup {o' : Obj} {u u' : Lg} (R : Rep a o o' u u') (nd : (u.map (·.1)).Nodup) : ∀ p ∈ u', p = (a, o') ∨ (p ∈ u ∧ p.1 ≠ a) := by
  induction R with
  | head =>
    intro p hp
    rw [List.map_cons, List.nodup_cons] at nd
    rcases List.mem_cons.mp hp with h | h
    · exact .inl h
    · exact .inr ⟨.tail _ h, fun e => nd.1 (List.mem_map.mpr ⟨p, h, e⟩)⟩
  | @tail q r r' R ih =>
    intro p hp
    rw [List.map_cons, List.nodup_cons] at nd
    rcases List.mem_cons.mp hp with h | h
    · subst h
      exact .inr ⟨.head _, fun e => nd.1 (List.mem_map.mpr ⟨(a, o), R.mem, e.symm⟩)⟩
    · exact (ih nd.2 p h).imp id fun h => ⟨.tail _ h.1, h.2⟩
theorem St.set {o' : Obj} {u' : Lg} (S : St h₀ L gi m u g h) (R : Rep a o o' u u') (hs : Heap.SameBut a h h') (ho : h'.get? a = some o') : St h₀ L gi m u' g h' := by
  have ha := S.un _ R.mem
  have hL : L ≠ a := Ne.symm ha.2.1
  refine ⟨⟨S.fr.ns.sameBut hs hL, fun b x e => (hs.2 b fun q => ?_).trans (S.fr.keep b x e), S.fr.above⟩, fun p hp => ?_, fun p hp => ⟨(hs.2 _ (S.sep p hp _ R.mem)).trans (S.led p hp).1, (S.led p hp).2⟩, fun p hp q hq => ?_, R.keys ▸ S.nd, S.prov⟩
  · have := ha.2.2; rw [← q] at this; rw [this] at e; cases e
  · rcases R.nodup S.nd p hp with rfl | ⟨h1, h2⟩
    · exact ⟨ho, ha.2⟩
    · exact ⟨(hs.2 _ h2).trans (S.un p h1).1, (S.un p h1).2⟩
  · rcases R.of q hq with rfl | h1
    · exact S.sep p hp (a, o) R.mem
    · exact S.sep p hp q h1
theorem St.subG {g' : Lg} (S : St h₀ L gi m u g h) (hg : ∀ p ∈ g', p ∈ g) : St h₀ L gi m u g' h :=
  ⟨S.fr, S.un, fun p hp => S.led p (hg p hp), fun p hp => S.sep p (hg p hp), S.nd, fun p hp => S.prov p (hg p hp)⟩
theorem St.drop {p : Addr × Obj} (S : St h₀ L gi m (p :: u) g h) : St h₀ L gi m u g h :=
  ⟨S.fr, fun q hq => S.un q (.tail _ hq), S.led, fun q hq r hr => S.sep q hq r (.tail _ hr), (List.nodup_cons.mp S.nd).2, S.prov⟩
theorem St.freeze {p : Addr × Obj} (S : St h₀ L gi m (p :: u) g h) : St h₀ L gi m u (p :: g) h := by
  have hp := S.un p (.head _)
  refine ⟨S.fr, S.drop.un, fun q hq => ?_, fun q hq r hr => ?_, S.drop.nd, fun q hq => ?_⟩
  · rcases List.mem_cons.mp hq with rfl | hq
    · exact ⟨hp.1, hp.2.1⟩
    · exact S.led q hq
  · rcases List.mem_cons.mp hq with rfl | hq
    · intro e
      exact (List.nodup_cons.mp S.nd).1 (List.mem_map.mpr ⟨r, hr, e.symm⟩)
    · exact S.sep q hq r (.tail _ hr)
  · rcases List.mem_cons.mp hq with rfl | hq
    · exact .inr hp.2.2
    · exact S.prov q hq
/-- behind a call that turned nothing: what it made, or was given, stands -/
theorem St.back {g' : Lg} (S : St h₀ L gi m u g h) (hk : Ext h h') (hg : ∀ p ∈ g', h'.get? p.1 = some p.2) (hn : ∀ p ∈ g', p ∈ g ∨ h.get? p.1 = none) : St h₀ L gi m u (g' ++ g) h' := by
  have S' := S.ext hk
  refine ⟨S'.fr, S'.un, fun p hp => ?_, fun p hp q hq => ?_, S.nd, fun p hp => ?_⟩
  · rcases List.mem_append.mp hp with hp | hp
    · rcases hn p hp with h1 | h1
      · exact S'.led p h1
      · exact ⟨hg p hp, S.neL h1⟩
    · exact S'.led p hp
  · rcases List.mem_append.mp hp with hp | hp
    · rcases hn p hp with h1 | h1
      · exact S.sep p h1 q hq
      · intro e; rw [e, (S.un q hq).1] at h1; cases h1
    · exact S.sep p hp q hq
  · rcases List.mem_append.mp hp with hp | hp
    · rcases hn p hp with h1 | h1
      · exact S.prov p h1
      · exact .inr (S.fresh h1)
    · exact S.prov p hp
end
end Mine
end
section
open PySem PyProof.Rows PySem.Calls
namespace Mine

abbrev eX (name : Str) (scope : Scope) (L a : Addr) (cd : Value) (cells : List (Str × Addr)) : Env :=
  { scope := scope, locals := L, globals := mainGlobals, cells := cells, qual := name ++ ".<locals>.", func := some a, code := cd, frame := some L, builtins := builtinsNs }

def upd (m : Str → Option Value) (x : Str) (v : Value) : Str → Option Value := fun y => if y = x then some v else m y
theorem upd_ne {m : Str → Option Value} {x y : Str} {v : Value} {r : Option Value} (h : y ≠ x) (hm : m y = r) : upd m x v y = r := by simp [upd, h, hm]
theorem upd_eq {m : Str → Option Value} {x : Str} {v : Value} : upd m x v x = some v := by simp [upd]

abbrev PP : Program := Challenge.pw_wm_yst127_1
def fdAt (i : Nat) : DefRec := match PP.main.body[i]? with
  | some (.FunctionDef n a b _ _ _ sc _ _ pos) => ⟨n, a, b, sc, pos⟩
  | _ => ⟨Str.empty, default, [], default, default⟩
def defIdx : List Nat := [3, 4, 5, 6, 7, 8, 9, 10, 11, 12, 16, 17, 18, 19, 20, 21, 22, 23]
abbrev docF (i : Nat) (pm code doc : Value) : FuncData := docDef (fdAt i).name (fdAt i).params (fdAt i).body (fdAt i).scope pm code doc

structure FnAt (i : Nat) (h : Heap) (a : Addr) (o : Obj) (pm code doc : Value) : Prop where
  at_ : h.get? a = some o
  d : o.data = .func (docF i pm code doc)
  c : h.CodeRec code (fdAt i).name

def freeL : List Str := ["len", "list", "dict", "type", "int", "str", "bool", "isinstance", "enumerate", "ValueError", "tuple", "zip"]
def constL : List (Str × Int) := [("MAX_NAME", 200), ("MAX_NUMBER", 1000000000000000000), ("_law_most", 1000000000000000000)]
mutual
def ofW : PySem.W.WData → Dt
  | .none => .none
  | .bool b => .bool b
  | .int i => .int i
  | .str x => .str x
  | .float _ => .flt
  | .tuple xs => .tuple (ofWs xs)
  | _ => .bad
def ofWs : List PySem.W.WData → List Dt
  | [] => []
  | x :: r => ofW x :: ofWs r
end
def tabL : List (Str × Dt) := (PySem.W.wlitsOf PP).map fun p => (p.1, ofW p.2)
structure Wd (mg mb : Str → Option Value) (h : Heap) : Prop where
  g : h.Ns mainGlobals mg
  b : h.Ns builtinsNs mb
  nolimit : h.NoLimit
  builtins : ∀ x : Str, x ≠ "__name__" → mb x = bootBuiltins x
  fn : ∀ i ∈ defIdx, ∃ a o pm code doc, mg (fdAt i).name = some (.ref a) ∧ FnAt i h a o pm code doc
  free : ∀ x ∈ freeL, mg x = none
  const : ∀ p ∈ constL, ∃ t, mg p.1 = some (.int p.2 t)
  tabs : ∃ gT : Lg, (∀ p ∈ gT, h.get? p.1 = some p.2) ∧ ∀ p ∈ tabL, ∃ v, mg p.1 = some v ∧ DL gT v p.2

theorem Wd.keeps {mg mb : Str → Option Value} {h h' : Heap} (W : Wd mg mb h) (hk : Ext h h') : Wd mg mb h' where
  g := W.g.keeps hk
  b := W.b.keeps hk
  nolimit := W.nolimit.keeps hk
  builtins := W.builtins
  fn := fun i hi => let ⟨a, o, pm, cd, dc, h1, h2⟩ := W.fn i hi; ⟨a, o, pm, cd, dc, h1, hk _ _ h2.at_, h2.d, h2.c.keeps hk⟩
  free := W.free
  const := W.const
  tabs := let ⟨gT, h1, h2⟩ := W.tabs; ⟨gT, fun p hp => hk _ _ (h1 p hp), h2⟩

structure OkA (A : Around) (n : Nat) : Prop where
  hd : A.handled = none
  dp : A.depth + n < recursionLimit
  un : A.units + 4 * n + 80 < cLine
theorem OkA.deeper {A : Around} {n : Nat} {env : Env} (x : OkA A (n + 1)) : OkA (A.deeper env) n := by
  obtain ⟨h1, h2, h3⟩ := x
  refine ⟨h1, ?_, ?_⟩
  · show A.depth + 1 + n < _; omega
  · show A.units + 3 + 4 * n + 80 < _; omega
theorem OkA.less {A : Around} {n k : Nat} (x : OkA A n) (h : k ≤ n) : OkA A k := ⟨x.hd, by have := x.dp; omega, by have := x.un; omega⟩

section
variable {prog : Program} {w : World} {A : Around} {E : Value → Shared → Prop} {s : Shared} {h₀ : Heap} {L a : Addr} {gi : Lg} {m mg mb : Str → Option Value} {u g : Lg} {cn : Str} {cs : Scope} {cd : Value} {cl : List (Str × Addr)}
variable {x : Str} {pos : Pos} {v : Value}

theorem nmL {Q : Value → Shared → Prop} (S : St h₀ L gi m u g s.heap) (hv : m x = some v) (h : Q v s)
    (hk : cs.kind = .function := by rfl) (hx : (eX cn cs L a cd cl).kindOf x = some .local := by rfl) (hd : (x == ("__debug__" : Str)) = false := by decide) :
    wpAny (model prog w) A (eval (.Name x pos) (eX cn cs L a cd cl)) Q E s := wpAny_Name (wpAny_loadName_local hk hx S.fr.ns hv h) hd
theorem nmG {Q : Value → Shared → Prop} (S : St h₀ L gi m u g s.heap) (W : Wd mg mb h₀) (hv : mg x = some v) (h : Q v s)
    (hk : cs.kind = .function := by rfl) (hx : (eX cn cs L a cd cl).kindOf x = some .globalImplicit := by rfl) (hd : (x == ("__debug__" : Str)) = false := by decide) :
    wpAny (model prog w) A (eval (.Name x pos) (eX cn cs L a cd cl)) Q E s :=
  Name_function_global hk hx (loadGlobal_global (env := eX cn cs L a cd cl) (W.g.keeps S.fr.keep) hv h) hd
theorem nmB {Q : Value → Shared → Prop} (S : St h₀ L gi m u g s.heap) (W : Wd mg mb h₀) (hf : mg x = none) (hv : bootBuiltins x = some v) (h : Q v s)
    (hn : x ≠ "__name__" := by decide) (hk : cs.kind = .function := by rfl) (hx : (eX cn cs L a cd cl).kindOf x = some .globalImplicit := by rfl) (hd : (x == ("__debug__" : Str)) = false := by decide) :
    wpAny (model prog w) A (eval (.Name x pos) (eX cn cs L a cd cl)) Q E s :=
  Name_function_global hk hx (loadGlobal_builtin (env := eX cn cs L a cd cl) (W.g.keeps S.fr.keep) hf (W.b.keeps S.fr.keep) ((W.builtins x hn).trans hv) h) hd
theorem stL {Q : Unit → Shared → Prop} (S : St h₀ L gi m u g s.heap) (h : ∀ h', St h₀ L gi (upd m x v) u g h' → Q () { s with heap := h', toks := s.toks + 1 })
    (hk : cs.kind = .function := by rfl) (hx : (eX cn cs L a cd cl).kindOf x = some .local := by rfl) : wpAny (model prog w) A (storeName (eX cn cs L a cd cl) x v) Q E s :=
  wpAny_storeName_local hx S.fr.ns (fun h' hn hs => h h' (S.store hn hs)) (by show (cs.kind == .class || (cs.kind == .module && L != mainGlobals)) = false; rw [hk]; rfl)
end

/-- entering a def without cells -/
theorem enterP {prog : Program} {w : World} {A : Around} {E : Value → Shared → Prop} {s : Shared} {hb : Heap} {i : Nat} {a : Addr} {o : Obj} {pm code doc : Value} {args : List Value} {binds : List (Str × Value)} {u g : Lg} {n : Nat} {Q : Value → Shared → Prop}
    (hA : OkA A (n + 1)) (fn : FnAt i s.heap a o pm code doc) (hlim : s.heap.NoLimit) (hk : Ext hb s.heap) (hsz : hb.objs.size ≤ s.heap.objs.size)
    (hu : ∀ p ∈ u, s.heap.get? p.1 = some p.2 ∧ hb.get? p.1 = none) (hg : ∀ p ∈ g, s.heap.get? p.1 = some p.2) (hs : ∀ p ∈ g, ∀ q ∈ u, p.1 ≠ q.1) (nd : (u.map (·.1)).Nodup)
    (hbind : bindArgs (docF i pm code doc) ⟨args, []⟩ = pure binds)
    (h : ∀ L h₁ tk, St hb L g (fun x => binds.reverse.lookup x) u g h₁ → OkA (A.deeper (eX (fdAt i).name (fdAt i).scope L a code [])) n →
      wpAny (model prog w) (A.deeper (eX (fdAt i).name (fdAt i).scope L a code [])) (execs (fdAt i).body (eX (fdAt i).name (fdAt i).scope L a code []))
        (fun fl s' => Q (match fl with | .ret v => v | _ => .none) s') (fun _ _ => False) { s with heap := h₁, toks := tk })
    (hloc : ∀ x ∈ binds, (fdAt i).scope.names.lookup x.1 = some .local := by exact locs rfl)
    (hco : (fdAt i).scope.isCoroutine = false := by rfl) (hgen : (fdAt i).scope.isGenerator = false := by rfl) (hkd : (fdAt i).scope.kind = .function := by rfl)
    (hcell : ∀ x ∈ (fdAt i).scope.names, x.2 ≠ .cell := by decide) :
    wpAny (model prog w) A (call (.ref a) args) Q E s := by
  refine wpAny_call (call_plain_ret (by have := hA.dp; omega) fn.at_ fn.d hlim fn.c hbind hloc (fun h₁ F₁ => ?_) hco hgen hkd hcell)
  refine h s.heap.objs.size h₁ _ ⟨⟨F₁.ns, fun b ob e => F₁.keep _ _ (hk _ _ e), hsz⟩, fun p hp => ⟨F₁.keep _ _ (hu p hp).1, Nat.ne_of_lt (Heap.lt_size (hu p hp).1), (hu p hp).2⟩, fun p hp => ⟨F₁.keep _ _ (hg p hp), Nat.ne_of_lt (Heap.lt_size (hg p hp))⟩, hs, nd, fun p hp => .inl hp⟩ hA.deeper

section
variable {prog : Program} {w : World} {A : Around} {E : Value → Shared → Prop} {s : Shared} {h₀ : Heap} {L d : Addr} {gi : Lg} {m : Str → Option Value} {u g : Lg} {o : Obj} {k : Str} {t : Tok} {kvs : List (Str × Value)}

theorem St.dict (S : St h₀ L gi m u g s.heap) (hm : (d, o) ∈ u) (Ho : o.IsDictOf (strKind prog w) kvs) : s.heap.DictOf (strKind prog w) d kvs := Heap.dictOf_iff.mpr ⟨o, (S.un _ hm).1, Ho⟩

theorem dIn {Q : Value → Shared → Prop} (S : St h₀ L gi m u g s.heap) (hm : (d, o) ∈ u) (Ho : o.IsDictOf (strKind prog w) kvs) (lo : (d == sysModules) = false)
    (h : Q (.bool (valueAt kvs k).isSome) { s with toks := s.toks + 1 }) : wpAny (model prog w) A (compareOp .In (.str k t) (.ref d)) Q E s :=
  wpAny_in_of (strKind_is prog w k t) lo (S.dict hm Ho).mapOf h
theorem dSet {Q : Unit → Shared → Prop} {v : Value} {U : Obj → Lg} (S : St h₀ L gi m u g s.heap) (R : ∀ o', Rep d o o' u (U o')) (Ho : o.IsDictOf (strKind prog w) kvs) (hsz : kvs.length ≤ sizeLine)
    (h : ∀ h' o', St h₀ L gi m (U o') g h' → o'.IsDictOf (strKind prog w) (stored kvs k v) → Q () { s with heap := h', toks := s.toks + 1 }) :
    wpAny (model prog w) A (setItem (.ref d) (.str k t) v) Q E s :=
  wpAny_setItem_pairs (hsz := hsz) (strKind_is prog w k t) (S.dict (R o).mem Ho) fun h' hd hs => by
    obtain ⟨o', ho', Ho'⟩ := Heap.dictOf_iff.mp hd
    exact h h' o' (S.set (R o') hs ho') Ho'
/-- a method of a built-in type, called -/
theorem callM {env : Env} {ob : Expr} {name : Str} {apos pos : Pos} {args : List Expr} {Q : Value → Shared → Prop} (T id : String)
    (pa : PlainAttrs T) (slot : Slot T name id) (ty : typeOf (.builtin id) = pure (.type "method_descriptor"))
    (h : wpAny (model prog w) A (eval ob env) (fun ov s₁ => s₁.TypeIs ov T ∧ (∀ a, ov = .ref a → ∃ ob, s₁.heap.get? a = some ob ∧ ob.dict = none) ∧
      wpAny (model prog w) A (spliced (backTo pos (starEach args env))) (fun vs s₂ => wpAny (model prog w) A (call (.builtin id) (ov :: vs)) Q E s₂) E s₁) E s)
    (hne : args ≠ [] := by intro h; cases h)
    (hbase : attributeBase ob name env (eval ob env) = eval ob env := by rfl)
    (hfew : ((backTo pos (starEach args env)).all (fun x => !x.1) && (backToKw pos (keywordEach [] env)).all (fun x => x.1.isSome)
      && decide (args.length + ([] : List Keyword).length + (if ([] : List Keyword).isEmpty then 0 else 1) < 30)) = true := by rfl)
    (hline : (apos.endLine == pos.line) = true := by rfl) (hst : starEach args env = (match args with | e :: r => (false, eval e env) :: starEach r env | [] => []) := by rfl)
    (hplain : (backTo pos (starEach args env)).any (·.1) = false := by rfl) :
    wpAny (model prog w) A (eval (.Call (.Attribute ob name apos) args [] pos) env) Q E s := by
  refine wpAny_Call_method_late hbase hfew hline rfl (wpAny_mono h (fun ov s₁ h₁ => ?_) fun _ _ x => x)
  obtain ⟨hT, hd, hc⟩ := h₁
  refine ⟨T, id, pa, slot, ty, hT, hd, callWith_builtin hplain ?_⟩
  cases args with
  | nil => exact absurd rfl hne
  | cons e r =>
    simp only at hst
    rw [hst] at hc ⊢
    exact evalArgs_plain hc
end


section
variable {prog : Program} {w : World} {M : Model} {A : Around} {E : Value → Shared → Prop} {s : Shared} {env : Env} {x : Str} {p pos : Pos} {e : Expr} {r : List Expr} {Q : Value → Shared → Prop}

/-- a built-in function, a built-in type, a def of the text called by its name with one argument or more -/
theorem callB (id : String) (h : wpAny M A (eval (.Name x p) env) (fun f s₁ => f = .builtin id ∧ wpAny M A (spliced (backTo pos (starEach (e :: r) env))) (fun vs s₂ => wpAny M A (call (.builtin id) vs) Q E s₂) E s₁) E s)
    (he : starEach (e :: r) env = (false, eval e env) :: starEach r env := by rfl) (hp : (backTo pos (starEach r env)).any (·.1) = false := by rfl) :
    wpAny M A (eval (.Call (.Name x p) (e :: r) [] pos) env) Q E s := by
  refine Call_Name rfl (wpAny_mono h (fun f s₁ h₁ => ?_) fun _ _ q => q)
  obtain ⟨rfl, h₁⟩ := h₁
  rw [he] at h₁ ⊢
  refine callWith_builtin (by show (false || (backTo pos (starEach r env)).any (·.1)) = false; rw [hp]; rfl) (evalArgs_plain ?_)
  exact wpAny_mono h₁ (fun vs s₂ h₂ => h₂) fun _ _ q => q
theorem callT (T : String) (h : wpAny M A (eval (.Name x p) env) (fun f s₁ => f = .type T ∧ wpAny M A (spliced (backTo pos (starEach (e :: r) env))) (fun vs s₂ => wpAny M A (call (.type T) vs) Q E s₂) E s₁) E s)
    (he : starEach (e :: r) env = (false, eval e env) :: starEach r env := by rfl) (hp : (backTo pos (starEach r env)).any (·.1) = false := by rfl) :
    wpAny M A (eval (.Call (.Name x p) (e :: r) [] pos) env) Q E s := by
  refine Call_Name rfl (wpAny_mono h (fun f s₁ h₁ => ?_) fun _ _ q => q)
  obtain ⟨rfl, h₁⟩ := h₁
  exact callWith_type1 h₁ he hp
theorem callU {a : Addr} {o : Obj} {fd : FuncData} (h : wpAny M A (eval (.Name x p) env) (fun f s₁ => f = .ref a ∧ wpAny M A (spliced (backTo pos (starEach (e :: r) env))) (fun vs s₂ => (s₂.heap.get? a = some o ∧ o.data = .func fd) ∧ wpAny M A (call (.ref a) vs) Q E s₂) E s₁) E s)
    (he : starEach (e :: r) env = (false, eval e env) :: starEach r env := by rfl) :
    wpAny M A (eval (.Call (.Name x p) (e :: r) [] pos) env) Q E s := by
  refine Call_Name rfl (wpAny_mono h (fun f s₁ h₁ => ?_) fun _ _ q => q)
  obtain ⟨rfl, h₁⟩ := h₁
  rw [he] at h₁ ⊢
  exact callWith_function (o := o) (fd := fd) (evalArgs_plain (wpAny_mono h₁ (fun vs s₂ h₂ => h₂) fun _ _ q => q))
end

section
variable {prog : Program} {w : World} {A : Around} {E : Value → Shared → Prop} {s : Shared} {h₀ : Heap} {L d : Addr} {gi : Lg} {m : Str → Option Value} {u g : Lg} {o : Obj} {k : Str} {t : Tok} {kvs : List (Str × Value)}
end
section
variable {prog : Program} {w : World} {A : Around} {E : Value → Shared → Prop} {s : Shared} {mg mb : Str → Option Value} {a d : Addr} {o : Obj} {k : Str} {t : Tok} {kvs : List (Str × Value)} {Q : Value → Shared → Prop}

theorem fn_of {h : Heap} {i : Nat} (W : Wd mg mb h) (hi : i ∈ defIdx) (ha : mg (fdAt i).name = some (.ref a)) : ∃ o pm code doc, FnAt i h a o pm code doc := by
  obtain ⟨a', o, pm, cd, dc, e, f⟩ := W.fn i hi
  rw [ha] at e
  cases e
  exact ⟨o, pm, cd, dc, f⟩
theorem ext_hide (h : Heap) (d : Addr) : Ext (h.hide d) h := fun _ _ e => Heap.of_hide e
theorem FnAt.up {h h' : Heap} {i : Nat} {o : Obj} {pm cd dc : Value} (f : FnAt i h a o pm cd dc) (hk : Ext h h') : FnAt i h' a o pm cd dc := ⟨hk _ _ f.at_, f.d, f.c.keeps hk⟩

/-- what a caller learns of a call that may turn the one object d -/
structure Turned (h h' : Heap) (d : Addr) (o' : Obj) : Prop where
  keep : ∀ b x, b ≠ d → h.get? b = some x → h'.get? b = some x
  at_ : h'.get? d = some o'
theorem turned_of {h h' : Heap} {L : Addr} {gi g : Lg} {m : Str → Option Value} {o' : Obj} (S : St (h.hide d) L gi m [(d, o')] g h') : Turned h h' d o' :=
  ⟨fun b x hb e => S.fr.keep b x ((Heap.hide_ne h hb).trans e), (S.un _ (.head _)).1⟩

end
end Mine
end
section
open PySem PyProof.Rows PySem.Calls
namespace Mine

def Lets (tg : Expr) : Prop := ∀ {prog : Program} {w : World} {A : Around} {E : Value → Shared → Prop} {s : Shared} {I l : Addr} {i : Nat} {v : Value} {Q : Unit → Shared → Prop}, s.heap.IsListIter I l i → Q () s → wpAny (model prog w) A (letOwnedTupleGo tg (.ref I) v) Q E s
theorem lets_name (x : Str) (p : Pos) : Lets (.Name x p) := fun _ h => wpAny_pure h
theorem lets_tuple (es : List Expr) (k : Nat) (p : Pos) : Lets (.Tuple es k p) := fun {_ _ _ _ _ _ _ _ v _} hit h => by
  cases v with
  | ref T => exact wpAny_letOwnedTupleGo_listiter hit h
  | _ => exact wpAny_pure h

section
variable {h₀ h h' : Heap} {L I : Addr} {gi : Lg} {m : Str → Option Value} {u g : Lg} {io : Obj}
theorem St.extBut (S : St h₀ L gi m ((I, io) :: u) g h) (hx : Heap.ExtBut I h h') : St h₀ L gi m u g h' := by
  have hI := S.un _ (.head _)
  have hne : ∀ p ∈ u, p.1 ≠ I := fun p hp e => (List.nodup_cons.mp S.nd).1 (List.mem_map.mpr ⟨p, hp, e⟩)
  refine ⟨⟨S.fr.ns.extBut hx (Ne.symm hI.2.1), fun b o e => hx b o (fun q => ?_) (S.fr.keep b o e), S.fr.above⟩, fun p hp => ⟨hx _ _ (hne p hp) (S.un p (.tail _ hp)).1, (S.un p (.tail _ hp)).2⟩,
    fun p hp => ⟨hx _ _ (S.sep p hp _ (.head _)) (S.led p hp).1, (S.led p hp).2⟩, fun p hp q hq => S.sep p hp q (.tail _ hq), S.drop.nd, S.prov⟩
  have := hI.2.2; rw [← q, e] at this; cases this
end

section
variable {prog : Program} {w : World} {A : Around} {E : Value → Shared → Prop} {s : Shared} {h₀ : Heap} {L : Addr} {gi : Lg} {m : Str → Option Value} {u g : Lg} {env : Env} {tg : Expr} {body : List Stmt} {lv : Value} {ds : List Dt}

/-- what a turn's end must show -/
def TurnEnd (h₀ : Heap) (L : Addr) (gi : Lg) (J : (Str → Option Value) → Lg → Lg → Prop) (I : Addr) (io : Obj) (s : Shared) (Q : Flow → Shared → Prop) (f : Flow) (s₃ : Shared) : Prop := match f with
  | .next | .cont => ∃ m' u' g' h' tk', s₃ = { s with heap := h', toks := tk' } ∧ J m' u' g' ∧ St h₀ L gi m' ((I, io) :: u') g' h'
  | .brk => Q .next s₃
  | .ret v => Q (.ret v) s₃
theorem TurnEnd.next {J : (Str → Option Value) → Lg → Lg → Prop} {I : Addr} {io : Obj} {Q : Flow → Shared → Prop} {m' : Str → Option Value} {u' g' : Lg} {h' : Heap} {tk' : Nat} (j : J m' u' g') (S : St h₀ L gi m' ((I, io) :: u') g' h') :
    TurnEnd h₀ L gi J I io s Q .next { s with heap := h', toks := tk' } := ⟨m', u', g', h', tk', rfl, j, S⟩

theorem forX {Q : Flow → Shared → Prop} (EL : Value → Shared → Prop) (hEL : ∀ e s', EL e s' → notedBy (model prog w) A env (fun x s'' => cameBackBy (model prog w) A env E x s'') e s') (J : Nat → (Str → Option Value) → Lg → Lg → Prop) (hh : A.handled = none) (S : St h₀ L gi m u g s.heap) (D : DL g lv (.list ds)) (h0 : J 0 m u g) (lets : Lets tg)
    (turn : ∀ i d v m' u' g' h tk I io, ds[i]? = some d → DL g v d → (∀ p ∈ g, p ∈ g') → J i m' u' g' → St h₀ L gi m' ((I, io) :: u') g' h →
      wpAny (model prog w) A (assign tg env v) (fun _ s₂ => wpAny (model prog w) A (execs body env) (TurnEnd h₀ L gi (fun m u g'' => (∀ p ∈ g, p ∈ g'') ∧ J (i + 1) m u g'') I io s Q) EL s₂) EL { s with heap := h, toks := tk })
    (done : ∀ m' u' g' h tk, (∀ p ∈ g, p ∈ g') → J ds.length m' u' g' → St h₀ L gi m' u' g' h → Q .next { s with heap := h, toks := tk }) :
    wpAny (model prog w) A (pyIter lv) (fun it s₂ => codeAny (model prog w) A (.forLoop tg it body [] env) (fun r s' => match r with | .ok f => Q f s' | .error e => cameBackBy (model prog w) A env E e s') s₂) E s := by
  cases D with
  | @list l n vs _ hl hD =>
    have hlen := hD.length
    have isl : ∀ {h' : Heap}, h'.get? l = some (lstO vs n) → h'.IsList l vs.toArray := fun e => ⟨_, e, rfl, _, rfl⟩
    refine wpAny_pyIter_list (isl (S.led _ hl).1) ?_
    refine codeAny_forLoop_any (fun k s' => ∃ i m' u' g' h tk io, s' = { s with heap := h, toks := tk } ∧ i ≤ ds.length ∧ k = ds.length + 1 - i ∧ (∀ p ∈ g, p ∈ g') ∧ J i m' u' g' ∧ St h₀ L gi m' ((s.heap.objs.size, io) :: u') g' h ∧ h.IsListIter s.heap.objs.size l i)
      ?_ (ds.length + 1) ⟨0, m, u, g, _, s.toks, _, rfl, Nat.zero_le _, rfl, fun _ hp => hp, h0, S.pushU _, ⟨_, Heap.get?_push_size _ rfl, rfl, rfl⟩⟩
    rintro k s' ⟨i, m', u', g', h, tk, io, rfl, hi, rfl, hsub, hJ, S', hit⟩
    cases hx : vs[i]? with
    | none =>
      have hie : i = ds.length := by have := List.getElem?_eq_none_iff.mp hx; omega
      refine wpAny_pyNext_list_end hh hit (isl (S'.led _ (hsub _ hl)).1) (by simpa using hx) fun h₁ he => wpAny_execs_nil ?_
      exact done m' u' g' h₁ tk hsub (hie ▸ hJ) (S'.extBut he)
    | some v =>
      obtain ⟨d, hd, hDv⟩ := hD.getV hx
      have hlt : i < ds.length := (List.getElem?_eq_some_iff.mp hd).1
      refine wpAny_pyNext_list_item hit (isl (S'.led _ (hsub _ hl)).1) (by simpa using hx) fun h₁ hit₁ hs₁ => ?_
      obtain ⟨io₁, hio₁, hio₂⟩ := id hit₁
      have S₁ := S'.set .head hs₁ hio₁
      refine lets (l := l) (i := i + 1) hit₁ (wpAny_mono (turn i d v m' u' g' h₁ tk _ io₁ hd hDv hsub hJ S₁) (fun _ s₂ h₂ => wpAny_mono h₂ (fun f s₃ h₃ => ?_) fun _ _ e => hEL _ _ e) fun _ _ e => hEL _ _ e)
      cases f with
      | brk => exact h₃
      | ret v => exact h₃
      | next =>
        obtain ⟨m₂, u₂, g₂, h₂, tk₂, rfl, ⟨hs₂, hJ₂⟩, S₂⟩ := h₃
        exact ⟨ds.length + 1 - (i + 1), by omega, i + 1, m₂, u₂, g₂, h₂, tk₂, io₁, rfl, hlt, rfl, hs₂, hJ₂, S₂, ⟨io₁, (S₂.un _ (.head _)).1, hio₂⟩⟩
      | cont =>
        obtain ⟨m₂, u₂, g₂, h₂, tk₂, rfl, ⟨hs₂, hJ₂⟩, S₂⟩ := h₃
        exact ⟨ds.length + 1 - (i + 1), by omega, i + 1, m₂, u₂, g₂, h₂, tk₂, io₁, rfl, hlt, rfl, hs₂, hJ₂, S₂, ⟨io₁, (S₂.un _ (.head _)).1, hio₂⟩⟩

theorem forL {Q : Flow → Shared → Prop} (J : Nat → (Str → Option Value) → Lg → Lg → Prop) (hh : A.handled = none) (S : St h₀ L gi m u g s.heap) (D : DL g lv (.list ds)) (h0 : J 0 m u g) (lets : Lets tg)
    (turn : ∀ i d v m' u' g' h tk I io, ds[i]? = some d → DL g v d → (∀ p ∈ g, p ∈ g') → J i m' u' g' → St h₀ L gi m' ((I, io) :: u') g' h →
      wpAny (model prog w) A (assign tg env v) (fun _ s₂ => wpAny (model prog w) A (execs body env) (TurnEnd h₀ L gi (fun m u g'' => (∀ p ∈ g, p ∈ g'') ∧ J (i + 1) m u g'') I io s Q) (fun _ _ => False) s₂) (fun _ _ => False) { s with heap := h, toks := tk })
    (done : ∀ m' u' g' h tk, (∀ p ∈ g, p ∈ g') → J ds.length m' u' g' → St h₀ L gi m' u' g' h → Q .next { s with heap := h, toks := tk }) :
    wpAny (model prog w) A (pyIter lv) (fun it s₂ => codeAny (model prog w) A (.forLoop tg it body [] env) (fun r s' => match r with | .ok f => Q f s' | .error e => cameBackBy (model prog w) A env E e s') s₂) E s :=
  forX (fun _ _ => False) (fun _ _ h => h.elim) J hh S D h0 lets turn done

/-- an item of a tuple, of a list, at a place in it -/
theorem sbT {Q : Value → Shared → Prop} {value slice : Expr} {ov : Value} {i : Nat} {t : Tok} {d : Dt} (S : St h₀ L gi m u g s.heap) (D : DL g ov (.tuple ds)) (hi : ds[i]? = some d) (hz : ds.length ≤ 1000) (h : ∀ x, DL g x d → Q x s)
    (hs : ∀ l, subscripted slice false (.ref l) (.int i t) = operate [.ref l, .int i t] (getItem (.ref l) (.int i t)) := by intro l; with_unfolding_all rfl) :
    wpAny (model prog w) A (subscriptTail value slice ov (.int i t)) Q E s := by
  cases D with
  | @tuple a o n vs _ hl hc hd hD =>
    obtain ⟨x, hx, hD'⟩ := hD.get hi
    have hlt : i < vs.length := (List.getElem?_eq_some_iff.mp hx).1
    have hlen := hD.length
    exact item_tupleT ⟨_, (S.led _ hl).1, hc, _, hd⟩ (by omega) (by omega) (by simp [seqIndex?]; omega) hx (h x hD') (hs a)
theorem sbL {Q : Value → Shared → Prop} {value slice : Expr} {ov : Value} {i : Nat} {t : Tok} {d : Dt} (S : St h₀ L gi m u g s.heap) (D : DL g ov (.list ds)) (hi : ds[i]? = some d) (hz : ds.length ≤ 1000) (h : ∀ x, DL g x d → Q x s)
    (hs : ∀ l, subscripted slice false (.ref l) (.int i t) = operate [.ref l, .int i t] (getItem (.ref l) (.int i t)) := by intro l; with_unfolding_all rfl) :
    wpAny (model prog w) A (subscriptTail value slice ov (.int i t)) Q E s := by
  cases D with
  | @list a n vs _ hl hD =>
    obtain ⟨x, hx, hD'⟩ := hD.get hi
    have hlt : i < vs.length := (List.getElem?_eq_some_iff.mp hx).1
    have hlen := hD.length
    have hL : s.heap.IsList a vs.toArray := ⟨_, (S.led _ hl).1, rfl, _, rfl⟩
    exact tail_any hL.typeIs slot_list_getitem.lookup (wpAny_getItem_list hL (by omega) (by omega) (by simpa using hx) (h x hD')) (hs a)
/-- append to a list of the call's own -/
theorem lApp {Q : Value → Shared → Prop} {l : Addr} {vs : List Value} {n : Nat} {x : Value} {U : Nat → Lg} (S : St h₀ L gi m u g s.heap) (R : ∀ n', Rep l (lstO vs n) (lstO (vs ++ [x]) n') u (U n')) (hz : vs.length ≤ 1000)
    (h : ∀ h' n', St h₀ L gi m (U n') g h' → Q .none { s with heap := h' }) : wpAny (model prog w) A (call (.builtin "list.append") [.ref l, x]) Q E s := by
  refine wpAny_list_append_plain ⟨n, (S.un _ (R 0).mem).1⟩ (fun h' hp hs => ?_) (by simp; exact Nat.le_trans hz (by decide))
  obtain ⟨n', e⟩ := hp
  refine h h' n' (S.set (R n') hs ?_)
  rw [e]; simp
theorem mkTup {Q : Value → Shared → Prop} {vs : List Value} (S : St h₀ L gi m u g s.heap) (hz : vs.length ≤ 1000) (h : ∀ h' a, St h₀ L gi m u ((a, tupO vs 0) :: g) h' → Q (.ref a) { s with heap := h' }) : wpAny (model prog w) A (newTuple vs) Q E s :=
  wpAny_newTuple (h _ _ (S.pushG _)) (Nat.le_trans hz (by decide))
theorem mkLst {Q : Value → Shared → Prop} {vs : List Value} (S : St h₀ L gi m u g s.heap) (hz : vs.length ≤ 1000) (h : ∀ h' a, St h₀ L gi m u ((a, lstO vs 0) :: g) h' → Q (.ref a) { s with heap := h' }) : wpAny (model prog w) A (newList vs) Q E s :=
  wpAny_newList (h _ _ (S.pushG _)) (Nat.le_trans hz (by decide))
theorem mkLstU {Q : Value → Shared → Prop} {vs : List Value} (S : St h₀ L gi m u g s.heap) (hz : vs.length ≤ 1000) (h : ∀ h' a, St h₀ L gi m ((a, lstO vs 0) :: u) g h' → Q (.ref a) { s with heap := h' }) : wpAny (model prog w) A (newList vs) Q E s :=
  wpAny_newList (h _ _ (S.pushU _)) (Nat.le_trans hz (by decide))
/-- two lists added -/
theorem addL {Q : Value → Shared → Prop} {a b : Value} {es : List Dt} (S : St h₀ L gi m u g s.heap) (Da : DL g a (.list ds)) (Db : DL g b (.list es)) (hz : ds.length + es.length ≤ 1000)
    (h : ∀ h' x o, St h₀ L gi m u ((x, o) :: g) h' → DL ((x, o) :: g) (.ref x) (.list (ds ++ es)) → Q (.ref x) { s with heap := h' }) : wpAny (model prog w) A (binaryOp .Add a b) Q E s := by
  cases Da with
  | @list la na vs _ hla hDa =>
    cases Db with
    | @list lb nb ws _ hlb hDb =>
      have e1 := hDa.length
      have e2 := hDb.length
      obtain ⟨ho, ho2⟩ := And.intro (S.led _ hla).1 (S.led _ hlb).1
      have e : vs.toArray ++ ws.toArray = (vs ++ ws).toArray := by simp
      have hzz : vs.length + ws.length ≤ sizeLine := Nat.le_trans (by omega : _ ≤ 1000) (by decide)
      refine concat_meets ⟨_, ho, rfl⟩ ⟨_, ho2, rfl⟩ noFill_list_add seq_list_add PySem.F.slot_list_add PySem.F.entry_list_add (PySem.F.args_list_add_2 _ _) (list_addW la lb vs.toArray ws.toArray na nb none none #[] #[] (by simpa using hzz)) ⟨ho, ho2, ?_⟩
      rw [e]
      exact h _ _ _ (S.pushG (lstO (vs ++ ws) 0)) (.list (n := 0) (.head _) (((hDa.append hDb)).mono fun _ hp => .tail _ hp))
/-- unpacking a tuple into names -/
theorem unT {Q : Unit → Shared → Prop} {elts : List Expr} {k : Nat} {pos : Pos} {v : Value} (hh : A.handled = none) (S : St h₀ L gi m u g s.heap) (D : DL g v (.tuple ds)) (hn : (assignEach elts env).length = ds.length)
    (h : ∀ vs h', DLs g vs ds → St h₀ L gi m u g h' → wpAny (model prog w) A (assignInOrder ((assignEach elts env).map (·.2)) vs) Q E { s with heap := h' })
    (hstar : (assignEach elts env).findIdx? (·.1) = none := by rfl) : wpAny (model prog w) A (assign (.Tuple elts k pos) env v) Q E s := by
  cases D with
  | @tuple a o n vs _ hl hc hd hD =>
    have hlen := hD.length
    refine assign_Tuple_tuple hh ⟨_, (S.led _ hl).1, hc, _, hd⟩ (by rw [hn, List.size_toArray, hlen]) hstar fun h' he => ?_
    refine h vs h' hD (S.ext fun b o e => he b o (Nat.ne_of_lt (Heap.lt_size e)) e)
end
section
variable {h₀ h h' : Heap} {L : Addr} {gi : Lg} {m m' : Str → Option Value} {u g : Lg}
theorem St.move (S : St h₀ L gi m u g h) (hn : h'.Ns L m') (hk : ∀ b o, b ≠ L → h.get? b = some o → h'.get? b = some o) : St h₀ L gi m' u g h' :=
  ⟨⟨hn, fun b o e => hk b o (Nat.ne_of_lt (Nat.lt_of_lt_of_le (Heap.lt_size e) S.fr.above)) (S.fr.keep b o e), S.fr.above⟩, fun p hp => ⟨hk _ _ (S.un p hp).2.1 (S.un p hp).1, (S.un p hp).2⟩,
    fun p hp => ⟨hk _ _ (S.led p hp).2 (S.led p hp).1, (S.led p hp).2⟩, S.sep, S.nd, S.prov⟩
end

section
variable {h₀ h h' : Heap} {L d : Addr} {gi : Lg} {m : Str → Option Value} {u u' g : Lg} {o o' : Obj} {mg mb : Str → Option Value}
theorem St.turn (S : St h₀ L gi m u g h) (R : Rep d o o' u u') (T : Turned h h' d o') : St h₀ L gi m u' g h' := by
  have ha := S.un _ R.mem
  refine ⟨⟨S.fr.ns.extBut (b := d) (fun b x hb e => T.keep b x hb e) (Ne.symm ha.2.1), fun b x e => T.keep b x (fun q => ?_) (S.fr.keep b x e), S.fr.above⟩, fun p hp => ?_, fun p hp => ⟨T.keep _ _ (S.sep p hp _ R.mem) (S.led p hp).1, (S.led p hp).2⟩, fun p hp q hq => ?_, R.keys ▸ S.nd, S.prov⟩
  · have := ha.2.2; rw [← q] at this; rw [this] at e; cases e
  · rcases R.nodup S.nd p hp with rfl | ⟨h1, h2⟩
    · exact ⟨T.at_, ha.2⟩
    · exact ⟨T.keep _ _ h2 (S.un p h1).1, (S.un p h1).2⟩
  · rcases R.of q hq with rfl | h1
    · exact S.sep p hp (d, o) R.mem
    · exact S.sep p hp q h1
theorem St.hideW (S : St h₀ L gi m u g h) (W : Wd mg mb h₀) (hm : (d, o) ∈ u) : Wd mg mb (h.hide d) := W.keeps fun b x e => by
  refine (Heap.hide_ne h fun q => ?_).trans (S.fr.keep b x e)
  have := (S.un _ hm).2.2; rw [← q, e] at this; cases this
end

theorem eqs {x y : Str} : (x.cps.toList == y.cps.toList) = decide (x = y) := by
  by_cases h : x = y
  · subst h; simp
  · have : x.cps ≠ y.cps := fun e => h (by cases x; cases y; simp only at e; rw [e])
    simp [h, this]

section
variable {prog : Program} {w : World} {A : Around} {E : Value → Shared → Prop} {s : Shared} {h₀ : Heap} {L : Addr} {gi : Lg} {m : Str → Option Value} {u g : Lg} {ds : List Dt} {ov : Value}
theorem lLen {Q : Value → Shared → Prop} (S : St h₀ L gi m u g s.heap) (D : DL g ov (.list ds)) (hz : ds.length ≤ 1000) (h : Q (.int ds.length (s.toks + 1)) { s with toks := s.toks + 1 + 1 }) : wpAny (model prog w) A (call (.builtin "len") [ov]) Q E s := by
  cases D with
  | @list l n vs _ hl hD =>
    have hlen := hD.length
    refine call_len_list ⟨_, (S.led _ hl).1, rfl, _, rfl⟩ (by rw [List.size_toArray]; omega) ?_
    rw [List.size_toArray, hlen]; exact h
end

section
variable {prog : Program} {w : World} {A : Around} {E : Value → Shared → Prop} {s : Shared} {h₀ : Heap} {L d : Addr} {gi : Lg} {m : Str → Option Value} {u g : Lg} {o : Obj} {ds : List Dt}
/-- a method of a built-in type, called with nothing -/
theorem callM0 {env : Env} {ob : Expr} {name : Str} {apos pos : Pos} {Q : Value → Shared → Prop} (T id : String)
    (pa : PlainAttrs T) (slot : Slot T name id) (ty : typeOf (.builtin id) = pure (.type "method_descriptor"))
    (h : wpAny (model prog w) A (eval ob env) (fun ov s₁ => s₁.TypeIs ov T ∧ (∀ a, ov = .ref a → ∃ ob, s₁.heap.get? a = some ob ∧ ob.dict = none) ∧
      wpAny (model prog w) A (call (.builtin id) [ov]) Q E s₁) E s)
    (hbase : attributeBase ob name env (eval ob env) = eval ob env := by rfl)
    (hline : (apos.endLine == pos.line) = true := by rfl) :
    wpAny (model prog w) A (eval (.Call (.Attribute ob name apos) [] [] pos) env) Q E s := by
  refine wpAny_Call_method_late hbase (by rfl) hline rfl (wpAny_mono h (fun ov s₁ h₁ => ?_) fun _ _ x => x)
  obtain ⟨hT, hd, hc⟩ := h₁
  exact ⟨T, id, pa, slot, ty, hT, hd, callWith_builtin (by rfl) (evalArgs_nil3 hc)⟩

def SlEnd (Q : Value → Shared → Prop) (ov vl vu : Value) (s : Shared) : Prop :=
  ∃ l items lo hi, ov = .ref l ∧ s.heap.IsList l items ∧ items.size ≤ sizeLine ∧ IsPart vl lo ∧ IsPart vu hi ∧
        Q (.ref (s.heap.objs.size + 1)) { s with heap := (s.heap.push { cls := .type "slice", data := .fields #[vl, vu, .none] }).push { cls := .type "list", data := .seq (slicePick items lo hi none) } }
theorem slE {Q : Value → Shared → Prop} {env : Env} {value : Expr} {lower upper : Option Expr} {p pos : Pos}
    (h : wpAny (model prog w) A (eval value env) (fun o s₁ => wpAny (model prog w) A (evalPart lower env) (fun vl s₂ => wpAny (model prog w) A (evalPart upper env) (fun vu s₃ => SlEnd Q o vl vu s₃) E s₂) E s₁) E s)
    (ht : ∀ o r, letTemporaryGo value o r = pure () := by intro _ _; rfl) :
    wpAny (model prog w) A (eval (.Subscript value (.Slice lower upper none p) pos) env) Q E s := wpAny_Subscript_list_slice h ht
/-- the end of a list's slice -/
theorem slK {Q : Value → Shared → Prop} {ov vl vu : Value} {lo hi : Option Int} {es : List Dt} (S : St h₀ L gi m u g s.heap) (D : DL g ov (.list ds)) (hz : ds.length ≤ 1000) (pl : IsPart vl lo) (pu : IsPart vu hi)
    (he : ∀ vs : List Value, DLs g vs ds → ∃ ws : List Value, slicePick vs.toArray lo hi none = ws.toArray ∧ DLs g ws es)
    (h : ∀ h' x, ∀ gg, St h₀ L gi m u (gg ++ g) h' → DL (gg ++ g) (.ref x) (.list es) → Q (.ref x) { s with heap := h' }) :
    SlEnd Q ov vl vu s := by
  cases D with
  | @list l n vs _ hl hD =>
    have hlen := hD.length
    obtain ⟨ws, e1, e2⟩ := he vs hD
    refine ⟨l, vs.toArray, lo, hi, rfl, ⟨_, (S.led _ hl).1, rfl, _, rfl⟩, by rw [List.size_toArray]; exact Nat.le_trans (by omega : vs.length ≤ 1000) (by decide), pl, pu, ?_⟩
    have S' := (S.pushG { cls := .type "slice", data := .fields #[vl, vu, .none] }).pushG (lstO ws 0)
    rw [Heap.size_push] at S'
    rw [e1]
    exact h _ _ [(s.heap.objs.size + 1, lstO ws 0), _] S' (.list (.head _) (e2.mono fun _ hp => .tail _ (.tail _ hp)))
theorem DLs.drop {g : Lg} : ∀ {vs : List Value} {ds : List Dt}, DLs g vs ds → ∀ k, DLs g (vs.drop k) (ds.drop k)
  | _, _, h, 0 => h
  | _, _, .nil, _ + 1 => .nil
  | _, _, .cons _ h, k + 1 => h.drop k
theorem DLs.take {g : Lg} : ∀ {vs : List Value} {ds : List Dt}, DLs g vs ds → ∀ k, DLs g (vs.take k) (ds.take k)
  | _, _, _, 0 => .nil
  | _, _, .nil, _ + 1 => .nil
  | _, _, .cons a h, k + 1 => .cons a (h.take k)
theorem pick_upto {ds : List Dt} (a : Nat) (ha : a ≤ ds.length) (vs : List Value) (hD : DLs g vs ds) : ∃ ws : List Value, slicePick vs.toArray none (some (a : Int)) none = ws.toArray ∧ DLs g ws (ds.take a) :=
  ⟨vs.take a, by rw [slicePick_upto _ _ (by rw [List.size_toArray, hD.length]; exact ha)], hD.take a⟩
end
end Mine
end
section
open PySem PyProof.Rows PySem.Calls PySem.W
namespace Mine

abbrev frs (l : List Env) : List Addr := l.filterMap (·.frame)
theorem frames_base {h base base' : Heap} : ∀ {l : List Env}, h.FunFrames base l → (∀ b ∈ frs l, base'.get? b = none) → h.FunFrames base' l
  | [], _, _ => trivial
  | env :: r, ⟨hk, ⟨L, o, hf, hn, ho, hd⟩, hr⟩, hb => ⟨hk, ⟨L, o, hf, hb L (by simp [frs, hf]), ho, hd⟩, frames_base hr fun b hm => hb b (by simp only [frs, List.filterMap_cons, hf]; exact .tail _ hm)⟩
def FrP (l : List Env) (h : Heap) : Prop := ∃ base, h.FunFrames base l
theorem FrP.up {l : List Env} {h h' : Heap} (x : FrP l h) (k : h.UpToSlots h') : FrP l h' :=
  let ⟨b, y⟩ := x; ⟨b, y.of_keeps fun c o e hn => let ⟨_, q⟩ := k c o e hn; ⟨_, q, rfl⟩⟩
theorem FrP.ext {l : List Env} {h h' : Heap} (x : FrP l h) (k : Ext h h') : FrP l h' := x.up (Heap.UpToSlots.of_keeps k)
theorem FrP.mem {l : List Env} {h : Heap} (x : FrP l h) {b : Addr} (hb : b ∈ frs l) : ∃ o, h.get? b = some o ∧ ∀ vs, o.data ≠ .fields vs := let ⟨_, y⟩ := x; (y.mem hb).2
theorem FrP.tail {l : List Env} {env : Env} {h : Heap} (x : FrP (env :: l) h) : FrP l h := let ⟨b, _, _, y⟩ := x; ⟨b, y⟩

/-- an exception's own fields, whole -/
def ExObj (c : Value) (h : Heap) (e : Addr) (msg : Str) (vs : Array Value) (t : Addr) : Prop := ∃ oe tok, h.get? e = some oe ∧ oe.cls = .type "ValueError" ∧ oe.data = .fields vs ∧ vs.size = 6 ∧ vs[0]? = some (.ref t) ∧ vs[2]? = some c ∧ h.TupAt t [.str msg tok]
/-- a ValueError under way, its first entry marked fl: what stood in G, but for the frames of l, stands -/
structure Trk (c : Value) (G : Heap) (l : List Env) (h : Heap) (e : Addr) (msg : Str) (fl : Value) : Prop where
  keep : ∀ b o, G.get? b = some o → b ∉ frs l → h.get? b = some o
  up : G.UpToSlots h
  frames : FrP l h
  ex : ∃ vs t T oT ts, ExObj c h e msg vs t ∧ vs[1]? = some (.ref T) ∧ T ≠ e ∧ h.get? T = some oT ∧ oT.data = .fields ts ∧ ts[3]? = some fl ∧ G.get? e = none ∧ G.get? T = none ∧ G.get? t = none
abbrev FlyC (c : Value) (l : List Env) (h h' : Heap) (e : Addr) (msg : Str) : Prop := Trk c h l h' e msg .none
abbrev HeldC (c : Value) (l : List Env) (L : Addr) (h h' : Heap) (e : Addr) (msg : Str) : Prop := Trk c h l h' e msg (rawInt L)
abbrev Fly (l : List Env) (h h' : Heap) (e : Addr) (msg : Str) : Prop := FlyC .none l h h' e msg
abbrev Held (l : List Env) (L : Addr) (h h' : Heap) (e : Addr) (msg : Str) : Prop := HeldC .none l L h h' e msg

section
variable {M : Model} {A : Around} {E : Value → Shared → Prop} {s : Shared} {env : Env} {outer : List Env} {L e : Addr} {G h : Heap} {msg : Str} {c : Value} {Q : Unit → Shared → Prop}

/-- a new entry on the exception's way -/
theorem entryE {t : Addr} {vs : Array Value} {head : Value} {hadNext : Bool} (hfr : A.frames = some (env :: outer)) (P : FrP (env :: outer) s.heap) (hf : env.frame = some L) (hx : ExObj c s.heap e msg vs t)
    (hG : ∀ b o, G.get? b = some o → b ∉ frs (env :: outer) → s.heap.get? b = some o) (hU : G.UpToSlots s.heap) (he : G.get? e = none) (ht : G.get? t = none)
    (k : ∀ h', Trk c G (env :: outer) h' e msg (rawInt L) → Q () { s with heap := h' }) :
    wpAny M A (do let a ← frameOf env; let pl ← entryPlaceOf L hadNext; let b ← EntryCells.newEntry head a .none (rawInt L) .none pl; setField (.ref e) 1 b) Q E s := by
  obtain ⟨base, P⟩ := P
  obtain ⟨oe, tok, ho, hc, hd, hsz, h0, h2, hT⟩ := hx
  have hene : e ∉ frs (env :: outer) := fun hm => by
    obtain ⟨_, o, ho', hnf⟩ := P.mem hm
    rw [ho] at ho'; cases ho'; exact hnf vs hd
  refine wpAny_bind (wpAny_frameOf_fun hfr P hf fun h₁ hs₁ => ?_)
  refine wpAny_bind (wpAny_entryPlaceOf fun pl hpl => ?_)
  unfold EntryCells.newEntry newFields
  refine wpAny_bind (wpAny_newObj_type ?_ (hpl.sizeOk5 _ _ _ _ _))
  have ho₁ : h₁.get? e = some oe := (hs₁.2.1 e hene).trans ho
  generalize hto : ({ cls := .type "traceback", dict := none, data := .fields ([head, .ref L, .none, rawInt L, .none] ++ (if pl.isEmpty then List.replicate 6 Value.none else pl)).toArray } : Obj) = tO
  have htd : ∃ ts, tO.data = .fields ts ∧ ts[3]? = some (rawInt L) := by
    rw [← hto]; exact ⟨_, rfl, by first | (simp; done) | (rcases hpl with rfl | ⟨_, _, _, _, _, _, _, rfl⟩ <;> simp)⟩
  have htf : tO.isFreed = false := by rw [← hto]; rfl
  have ho₂ := Heap.get?_push_of_some (h := h₁) tO ho₁
  refine wpAny_setField ho₂ hd (by rw [hsz]; decide) (k _ ?_)
  have hTe : h₁.objs.size ≠ e := Nat.ne_of_gt (Heap.lt_size ho₁)
  have hd₃ := Obj.data_mapFields hd (·.setIfInBounds 1 (Value.ref h₁.objs.size))
  have ho₃ := Heap.get?_update_self (Obj.mapFields (·.setIfInBounds 1 (Value.ref h₁.objs.size))) ho₂ (Obj.isFreed_of_fields hd₃)
  have keep : ∀ b o, b ≠ e → h₁.get? b = some o → ((h₁.push tO).update e (Obj.mapFields (·.setIfInBounds 1 (Value.ref h₁.objs.size)))).get? b = some o := fun b o hbe hb => by
    rw [Heap.get?_update_other _ _ (Ne.symm hbe)]
    exact Heap.get?_push_of_some _ hb
  have noRec : ∀ b o, s.heap.get? b = some o → (∀ vs, o.data ≠ .fields vs) → b ≠ e := fun b o hb hnf q => by
    rw [q, ho] at hb; cases hb; exact hnf vs hd
  have up₁ : s.heap.UpToSlots ((h₁.push tO).update e (Obj.mapFields (·.setIfInBounds 1 (Value.ref h₁.objs.size)))) := fun b o hb hnf => by
    obtain ⟨sl, hs⟩ := hs₁.2.2 b o hb
    exact ⟨sl, keep b _ (noRec b o hb hnf) hs⟩
  obtain ⟨ts, htd1, htd2⟩ := htd
  refine ⟨fun b o hb hnf => keep b o (fun q => by rw [q, he] at hb; cases hb) ((hs₁.2.1 b hnf).trans (hG b o hb hnf)), hU.trans up₁, FrP.up ⟨base, P⟩ up₁, ?_⟩
  refine ⟨vs.setIfInBounds 1 (.ref h₁.objs.size), t, h₁.objs.size, tO, ts, ⟨_, tok, ho₃, (Obj.cls_mapFields _ _).trans hc, hd₃, by simp [hsz], ?_, ?_, hT.of_slots up₁⟩, by simp [hsz], hTe, ?_, htd1, htd2, he, ?_, ht⟩
  · rw [Array.getElem?_setIfInBounds_ne (by decide)]; exact h0
  · rw [Array.getElem?_setIfInBounds_ne (by decide)]; exact h2
  · rw [Heap.get?_update_other _ _ (Ne.symm hTe)]
    exact Heap.get?_push_size _ htf
  · have hsz1 : h₁.objs.size = s.heap.objs.size := hs₁.1
    cases q : G.get? h₁.objs.size with
    | none => rfl
    | some o =>
      exfalso
      by_cases hm : h₁.objs.size ∈ frs (env :: outer)
      · obtain ⟨_, o', ho', _⟩ := P.mem hm
        have := Heap.lt_size ho'
        rw [hsz1] at this
        exact Nat.lt_irrefl _ this
      · have := Heap.lt_size (hG _ o q hm)
        rw [hsz1] at this
        exact Nat.lt_irrefl _ this
/-- the first entry's mark set -/
theorem markE {fl : Value} {l : List Env} (f : Option Addr) (hx : Trk c G l s.heap e msg fl) (k : ∀ h', Trk c G l h' e msg (f.elim .none fun f => rawInt f) → Q () { s with heap := h' }) : wpAny M A (setFlight (.ref e) f) Q E s := by
  obtain ⟨kp, up, fr, vs, t, T, oT, ts, ⟨oe, tok, ho, hc, hd, hsz, h0, h2, ht⟩, h1, hTe, hT, hdT, h3, g1, g2, g3⟩ := hx
  have hsz3 : 3 < ts.size := (Array.getElem?_eq_some_iff.mp h3).1
  unfold setFlight
  refine wpAny_bind (wpAny_field ho hd h1 ?_)
  rw [if_pos (show (Value.ref T != Value.none) = true from by simp)]
  have other : ∀ b, b ≠ T → (s.heap.update T (Obj.mapFields (·.setIfInBounds 3 (f.elim Value.none fun f => rawInt f)))).get? b = s.heap.get? b := fun b hb => Heap.get?_update_other _ _ (Ne.symm hb)
  have noRec : ∀ b o, s.heap.get? b = some o → (∀ vs, o.data ≠ .fields vs) → b ≠ T := fun b o hb hnf q => by
    rw [q, hT] at hb; cases hb; exact hnf ts hdT
  have up₁ : s.heap.UpToSlots (s.heap.update T (Obj.mapFields (·.setIfInBounds 3 (f.elim Value.none fun f => rawInt f)))) := fun b o hb hn => ⟨o.slots, (other b (noRec b o hb hn)).trans hb⟩
  refine wpAny_setField hT hdT hsz3 (k _ ⟨fun b o hb hnf => (other b fun q => by rw [q, g2] at hb; cases hb).trans (kp b o hb hnf), up.trans up₁, fr.up up₁, ?_⟩)
  exact ⟨vs, t, T, _, _, ⟨oe, tok, (other e (Ne.symm hTe)).trans ho, hc, hd, hsz, h0, h2, ht.of_slots up₁⟩, h1, hTe, Heap.get?_update_self _ hT (Obj.isFreed_of_fields (Obj.data_mapFields hdT _)), Obj.data_mapFields hdT _, by simp [hsz3], g1, g2, g3⟩
/-- noted by the frame: a fresh one, one that flies, one that is held -/
theorem noteNew (hfr : A.frames = some (env :: outer)) (P : FrP (env :: outer) s.heap) (hf : env.frame = some L) {t : Addr} {vs : Array Value} (hx : ExObj c s.heap e msg vs t) (h1 : vs[1]? = some .none)
    (hG : ∀ b o, G.get? b = some o → b ∉ frs (env :: outer) → s.heap.get? b = some o) (hU : G.UpToSlots s.heap) (he : G.get? e = none) (ht : G.get? t = none)
    (k : ∀ h', HeldC c (env :: outer) L G h' e msg → Q () { s with heap := h' }) : wpAny M A (noteFrame (.ref e) env) Q E s := by
  obtain ⟨oe, tok', ho, hc, hd, r⟩ := id hx
  unfold noteFrame
  simp only [hf]
  refine wpAny_bind (wpAny_field ho hd h1 ?_)
  rw [if_neg (by decide)]
  exact entryE hfr P hf hx hG hU he ht k
theorem noteFly (hfr : A.frames = some (env :: outer)) (hf : env.frame = some L) (hx : FlyC c (env :: outer) G s.heap e msg) (k : ∀ h', HeldC c (env :: outer) L G h' e msg → Q () { s with heap := h' }) : wpAny M A (noteFrame (.ref e) env) Q E s := by
  obtain ⟨kp, up, fr, vs, t, T, oT, ts, ⟨oe, tok, ho, hc, hd, hsz, h0, h2, ht⟩, h1, hTe, hT, hdT, h3, g1, g2, g3⟩ := hx
  have hsz3 : 3 < ts.size := (Array.getElem?_eq_some_iff.mp h3).1
  unfold noteFrame
  simp only [hf]
  refine wpAny_bind (wpAny_field ho hd h1 ?_)
  rw [if_pos (show (Value.ref T != Value.none) = true from by simp)]
  refine wpAny_bind (wpAny_field hT hdT h3 ?_)
  rw [if_neg (show ¬ ((Value.none == rawInt L) = true) from by simp [rawInt])]
  have other : ∀ b, b ≠ T → (s.heap.update T (Obj.mapFields (·.setIfInBounds 3 Value.none))).get? b = s.heap.get? b := fun b hb => Heap.get?_update_other _ _ (Ne.symm hb)
  have noRec : ∀ b o, s.heap.get? b = some o → (∀ vs, o.data ≠ .fields vs) → b ≠ T := fun b o hb hnf q => by
    rw [q, hT] at hb; cases hb; exact hnf ts hdT
  have up₁ : s.heap.UpToSlots (s.heap.update T (Obj.mapFields (·.setIfInBounds 3 Value.none))) := fun b o hb hn => ⟨o.slots, (other b (noRec b o hb hn)).trans hb⟩
  refine wpAny_bind (wpAny_setField hT hdT hsz3 ?_)
  exact entryE (s := { s with heap := _ }) hfr (fr.up up₁) hf ⟨oe, tok, (other e (Ne.symm hTe)).trans ho, hc, hd, hsz, h0, h2, ht.of_slots up₁⟩ (fun b o hb hnf => (other b fun q => by rw [q, g2] at hb; cases hb).trans (kp b o hb hnf)) (up.trans up₁) g1 g3 k
theorem noteHeld (hf : env.frame = some L) {l : List Env} (hx : HeldC c l L G s.heap e msg) (k : Q () s) : wpAny M A (noteFrame (.ref e) env) Q E s := by
  obtain ⟨kp, up, fr, vs, t, T, oT, ts, ⟨oe, tok, ho, hc, hd, hsz, h0, h2, ht⟩, h1, hTe, hT, hdT, h3, g1, g2, g3⟩ := hx
  unfold noteFrame
  simp only [hf]
  refine wpAny_bind (wpAny_field ho hd h1 ?_)
  rw [if_pos (show (Value.ref T != Value.none) = true from by simp)]
  refine wpAny_bind (wpAny_field hT hdT h3 ?_)
  rw [if_pos (show (rawInt L == rawInt L) = true from by simp)]
  exact wpAny_pure k
/-- the frame left behind -/
theorem Trk.out {l : List Env} {fl : Value} {h' : Heap} (hf : env.frame = some L) (x : Trk c h (env :: l) h' e msg fl) (hk : Ext G h) (hL : G.get? L = none) : Trk c G l h' e msg fl := by
  obtain ⟨kp, up, fr, vs, t, T, oT, ts, hx, h1, hTe, hT, hdT, h3, g1, g2, g3⟩ := x
  have hmem : ∀ b, b ∈ frs (env :: l) ↔ b = L ∨ b ∈ frs l := fun b => by simp [frs, hf]
  have none_ : ∀ {b}, h.get? b = none → G.get? b = none := fun {b} hb => by
    cases q : G.get? b with
    | none => rfl
    | some o => rw [hk b o q] at hb; cases hb
  refine ⟨fun b o hb hnf => kp b o (hk b o hb) fun hm => ?_, (Heap.UpToSlots.of_keeps hk).trans up, fr.tail, vs, t, T, oT, ts, hx, h1, hTe, hT, hdT, h3, none_ g1, none_ g2, none_ g3⟩
  rcases (hmem b).mp hm with q | q
  · rw [q, hL] at hb; cases hb
  · exact hnf q
theorem leave_held (hf : env.frame = some L) (hx : HeldC c (env :: outer) L h s.heap e msg) (hk : Ext G h) (hL : G.get? L = none)
    (k : ∀ h', FlyC c outer G h' e msg → Q () { s with heap := h' }) : wpAny M A (leaving env (.ref e)) Q E s := by
  unfold leaving
  exact wpAny_bind (noteHeld hf hx (markE none hx fun h' x => k h' (x.out hf hk hL)))
theorem leave_fly (hfr : A.frames = some (env :: outer)) (hf : env.frame = some L) (hx : FlyC c (env :: outer) h s.heap e msg) (hk : Ext G h) (hL : G.get? L = none)
    (k : ∀ h', FlyC c outer G h' e msg → Q () { s with heap := h' }) : wpAny M A (leaving env (.ref e)) Q E s := by
  unfold leaving
  exact wpAny_bind (noteFly hfr hf hx fun h₁ x₁ => markE (s := { s with heap := h₁ }) none x₁ fun h' x => k h' (x.out hf hk hL))
theorem madeEx {h' : Heap} {tok : Tok} (hx : Heap.MadeExc h h' e "ValueError" [.str msg tok]) : ∃ t, ExObj .none h' e msg #[.ref t, .none, .none, .none, .bool false, .none] t ∧ h.get? t = none := by
  obtain ⟨t, he, htn, ht⟩ := hx.there
  exact ⟨t, ⟨_, tok, he, rfl, rfl, rfl, rfl, rfl, ⟨_, _, ht, rfl, rfl⟩⟩, htn⟩
theorem noteMade {tok : Tok} (hfr : A.frames = some (env :: outer)) (hf : env.frame = some L) (P : FrP (env :: outer) h) (hx : Heap.MadeExc h s.heap e "ValueError" [.str msg tok])
    (k : ∀ h', HeldC .none (env :: outer) L h h' e msg → Q () { s with heap := h' }) : wpAny M A (noteFrame (.ref e) env) Q E s := by
  obtain ⟨t, hE, htn⟩ := madeEx hx
  exact noteNew hfr (P.ext hx.keeps) hf hE rfl (fun b o hb _ => hx.keeps b o hb) (Heap.UpToSlots.of_keeps hx.keeps) hx.new htn k
theorem frp_cons {m : Str → Option Value} (hf : env.frame = some L) (hk : env.scope.kind ≠ .module) (P : FrP outer h) (hn : h.Ns L m) : FrP (env :: outer) h := by
  obtain ⟨base, P⟩ := P
  obtain ⟨o, es, ep, ho, hd, _⟩ := hn
  exact ⟨hideAll h (frs (env :: outer)), hk, ⟨L, o, hf, hideAll_none _ (by simp [frs, hf]), ho, fun vs q => by rw [hd] at q; cases q⟩, frames_base P fun b hb => hideAll_none _ (by simp only [frs, List.filterMap_cons, hf]; exact .tail _ hb)⟩
theorem leave_made {tok : Tok} (hfr : A.frames = some (env :: outer)) (hf : env.frame = some L) (hkd : env.scope.kind ≠ .module) (P : FrP outer h) {m : Str → Option Value} (hn : h.Ns L m)
    (hx : Heap.MadeExc h s.heap e "ValueError" [.str msg tok]) (hk : Ext G h) (hL : G.get? L = none)
    (k : ∀ h', FlyC .none outer G h' e msg → Q () { s with heap := h' }) : wpAny M A (leaving env (.ref e)) Q E s := by
  unfold leaving
  exact wpAny_bind (noteMade hfr hf (frp_cons hf hkd P hn) hx fun h₁ x₁ => markE (s := { s with heap := h₁ }) none x₁ fun h' x => k h' (x.out hf hk hL))
/-- out of a loop of the frame -/
theorem back_held (hf : env.frame = some L) {l : List Env} (hx : HeldC c l L h s.heap e msg) (k : ∀ h', HeldC c l L h h' e msg → E (.ref e) { s with heap := h' }) : cameBackBy M A env E (.ref e) s := by
  obtain ⟨kp, up, fr, vs, t, T, oT, ts, ⟨oe, tok, ho, hc, hd, hsz, h0, h2, ht⟩, h1, r⟩ := id hx
  unfold cameBackBy
  refine wpAny_bind (wpAny_field ho hd h1 ?_)
  rw [if_neg (show ¬ ((Value.ref T == Value.none) = true) from by simp)]
  rw [hf]
  first | exact markE (some L) hx k | exact wpAny_bind (wpAny_pure (markE (some L) hx k))
theorem noted_fly (hfr : A.frames = some (env :: outer)) (hf : env.frame = some L) (hx : FlyC c (env :: outer) h s.heap e msg) (k : ∀ h', HeldC c (env :: outer) L h h' e msg → E (.ref e) { s with heap := h' }) : notedBy M A env E (.ref e) s :=
  noteFly hfr hf hx k
theorem noted_held (hf : env.frame = some L) {l : List Env} (hx : HeldC c l L h s.heap e msg) (k : E (.ref e) s) : notedBy M A env E (.ref e) s := noteHeld hf hx k
/-- handed on: the handler's own road out -/
theorem pass_held (hf : env.frame = some L) {l : List Env} {α : Type} {Qa : α → Shared → Prop} {what : String} (hx : HeldC c l L h s.heap e msg) (k : ∀ h', HeldC c l L h h' e msg → E (.ref e) { s with heap := h' }) : wpAny M A (PySem.passOn what (.ref e) env : Sem α) Qa E s := by
  obtain ⟨kp, up, fr, vs, t, T, oT, ts, ⟨oe, tok, ho, hc, hd, hsz, h0, h2, ht⟩, h1, r⟩ := id hx
  unfold PySem.passOn
  refine wpAny_bind (wpAny_field ho hd h1 ?_)
  rw [if_neg (show ¬ ((Value.ref T == Value.none) = true) from by simp)]
  rw [hf]
  first
    | exact wpAny_bind (markE (some L) hx fun h' x => wpAny_throw (k h' x))
    | exact wpAny_bind (wpAny_pure (wpAny_bind (markE (some L) hx fun h' x => wpAny_throw (k h' x))))
end
end Mine
end
section
open PySem PyProof.Rows PySem.Calls PySem.W
namespace Mine
abbrev LE (M : Model) (A : Around) (env : Env) (E : Value → Shared → Prop) : Value → Shared → Prop := fun e s' => wpAny M A (leaving env e) (fun _ s'' => E e s'') (fun e' s'' => E e' s'') s'

/-- entering a def without cells that may raise -/
theorem enterX {prog : Program} {w : World} {A : Around} {E : Value → Shared → Prop} {s : Shared} {hb : Heap} {i : Nat} {a : Addr} {o : Obj} {pm code doc : Value} {args : List Value} {binds : List (Str × Value)} {u g : Lg} {n : Nat} {Q : Value → Shared → Prop}
    (hA : OkA A (n + 1)) (fn : FnAt i s.heap a o pm code doc) (hlim : s.heap.NoLimit) (hk : Ext hb s.heap) (hsz : hb.objs.size ≤ s.heap.objs.size)
    (hu : ∀ p ∈ u, s.heap.get? p.1 = some p.2 ∧ hb.get? p.1 = none) (hg : ∀ p ∈ g, s.heap.get? p.1 = some p.2) (hs : ∀ p ∈ g, ∀ q ∈ u, p.1 ≠ q.1) (nd : (u.map (·.1)).Nodup)
    (hbind : bindArgs (docF i pm code doc) ⟨args, []⟩ = pure binds)
    (h : ∀ L h₁ tk, s.heap.get? L = none → Ext s.heap h₁ → St hb L g (fun x => binds.reverse.lookup x) u g h₁ → OkA (A.deeper (eX (fdAt i).name (fdAt i).scope L a code [])) n →
      wpAny (model prog w) (A.deeper (eX (fdAt i).name (fdAt i).scope L a code [])) (execs (fdAt i).body (eX (fdAt i).name (fdAt i).scope L a code []))
        (fun fl s' => Q (match fl with | .ret v => v | _ => .none) s') (LE (model prog w) (A.deeper (eX (fdAt i).name (fdAt i).scope L a code [])) (eX (fdAt i).name (fdAt i).scope L a code []) E) { s with heap := h₁, toks := tk })
    (hloc : ∀ x ∈ binds, (fdAt i).scope.names.lookup x.1 = some .local := by exact locs rfl)
    (hco : (fdAt i).scope.isCoroutine = false := by rfl) (hgen : (fdAt i).scope.isGenerator = false := by rfl) (hkd : (fdAt i).scope.kind = .function := by rfl)
    (hcell : ∀ x ∈ (fdAt i).scope.names, x.2 ≠ .cell := by decide) :
    wpAny (model prog w) A (call (.ref a) args) Q E s := by
  refine wpAny_call (call_plain (by have := hA.dp; omega) fn.at_ fn.d hlim fn.c hbind hloc (fun h₁ F₁ => ?_) hco hgen hkd hcell)
  refine h s.heap.objs.size h₁ _ (size_none _) F₁.keep ⟨⟨F₁.ns, fun b ob e => F₁.keep _ _ (hk _ _ e), hsz⟩, fun p hp => ⟨F₁.keep _ _ (hu p hp).1, Nat.ne_of_lt (Heap.lt_size (hu p hp).1), (hu p hp).2⟩, fun p hp => ⟨F₁.keep _ _ (hg p hp), Nat.ne_of_lt (Heap.lt_size (hg p hp))⟩, hs, nd, fun p hp => .inl hp⟩ hA.deeper

section
variable {prog : Program} {w : World} {A : Around} {E : Value → Shared → Prop} {s : Shared} {h₀ : Heap} {L a : Addr} {gi : Lg} {m mg mb : Str → Option Value} {u g : Lg} {cn : Str} {cs : Scope} {cd : Value} {cl : List (Str × Addr)} {outer : List Env}
/-- raise ValueError(message) in a def's body, out of it -/
theorem raiseV {Q : Flow → Shared → Prop} {np cpos pos : Pos} {e₀ : Expr} {G : Heap} (hh : A.handled = none) (hfr : A.frames = some outer) (S : St h₀ L gi m u g s.heap) (W : Wd mg mb h₀)
    (hm : wpAny (model prog w) (A.deeper (eX cn cs L a cd cl)) (eval e₀ (eX cn cs L a cd cl)) (fun v s₁ => ∃ msg tok tk h₁, v = .str msg tok ∧ s₁ = { s with heap := h₁, toks := tk } ∧ St h₀ L gi m u g h₁ ∧ FrP outer h₁ ∧ Ext G h₁ ∧ G.get? L = none ∧
      ∀ e h' tk, Fly outer G h' e msg → E (.ref e) { s with heap := h', toks := tk }) (LE (model prog w) (A.deeper (eX cn cs L a cd cl)) (eX cn cs L a cd cl) E) s)
    (he : starEach [e₀] (eX cn cs L a cd cl) = (false, eval e₀ (eX cn cs L a cd cl)) :: starEach [] (eX cn cs L a cd cl) := by rfl)
    (hk : cs.kind = .function := by rfl) (hx : (eX cn cs L a cd cl).kindOf "ValueError" = some .globalImplicit := by rfl) :
    wpAny (model prog w) (A.deeper (eX cn cs L a cd cl)) (exec (.Raise (some (.Call (.Name "ValueError" np) [e₀] [] cpos)) none pos) (eX cn cs L a cd cl)) Q (LE (model prog w) (A.deeper (eX cn cs L a cd cl)) (eX cn cs L a cd cl) E) s := by
  refine Raise_madeB PySem.F.excCall_ValueError PySem.F.excRaise_ValueError (A := A.deeper (eX cn cs L a cd cl)) hh (nmB S W (W.free _ (by decide)) rfl ⟨rfl, ?_⟩ (by decide) hk hx) he
  refine wpAny_items_cons (wpAny_mono hm (fun v s₁ h₁ => ?_) fun _ _ x => x) he
  obtain ⟨msg, tok, tk, h₁, rfl, rfl, S₁, P₁, hG, hU, k⟩ := h₁
  refine wpAny_items_nil ⟨by show 1 ≤ sizeLine; decide, fun h' e hx => ?_⟩
  exact leave_made (Around.frames_deeper hfr) rfl (by show cs.kind ≠ .module; rw [hk]; decide) P₁ S₁.fr.ns hx hG hU fun h'' fl => k e h'' _ fl
end
end Mine
end
section
open PySem PyProof.Rows PySem.Calls PySem.W
namespace Mine
structure Cx (A : Around) (outer : List Env) (h : Heap) : Prop where
  fr : A.frames = some outer
  ok : FrP outer h
def Err (E : Value → Shared → Prop) (s : Shared) (outer : List Env) (msg : Str) : Prop := ∀ e h' tk, Fly outer s.heap h' e msg → E (.ref e) { s with heap := h', toks := tk }
def Say (E : Value → Shared → Prop) (s₀ : Shared) (outer : List Env) (h : Heap) (v : Value) (s₁ : Shared) : Prop := ∃ msg tok tk h₁, v = .str msg tok ∧ s₁ = { s₀ with heap := h₁, toks := tk } ∧ Ext h h₁ ∧ Err E s₀ outer msg

section
variable {prog : Program} {w : World} {A : Around} {E : Value → Shared → Prop} {s₀ : Shared} {h : Heap} {tk : Nat} {L a : Addr} {gi : Lg} {m mg mb : Str → Option Value} {u g : Lg} {cn : Str} {cs : Scope} {cd : Value} {cl : List (Str × Addr)} {outer : List Env}
/-- the raise of a def that is entered at s₀ -/
theorem raiseP {Q : Flow → Shared → Prop} {np cpos pos : Pos} {e₀ : Expr} (hh : A.handled = none) (X : Cx A outer s₀.heap) (hL : s₀.heap.get? L = none) (S : St s₀.heap L gi m u g h) (W : Wd mg mb s₀.heap)
    (hm : wpAny (model prog w) (A.deeper (eX cn cs L a cd cl)) (eval e₀ (eX cn cs L a cd cl)) (Say E s₀ outer h) (LE (model prog w) (A.deeper (eX cn cs L a cd cl)) (eX cn cs L a cd cl) E) { s₀ with heap := h, toks := tk })
    (he : starEach [e₀] (eX cn cs L a cd cl) = (false, eval e₀ (eX cn cs L a cd cl)) :: starEach [] (eX cn cs L a cd cl) := by rfl)
    (hk : cs.kind = .function := by rfl) (hx : (eX cn cs L a cd cl).kindOf "ValueError" = some .globalImplicit := by rfl) :
    wpAny (model prog w) (A.deeper (eX cn cs L a cd cl)) (exec (.Raise (some (.Call (.Name "ValueError" np) [e₀] [] cpos)) none pos) (eX cn cs L a cd cl)) Q (LE (model prog w) (A.deeper (eX cn cs L a cd cl)) (eX cn cs L a cd cl) E) { s₀ with heap := h, toks := tk } := by
  refine raiseV (G := s₀.heap) (outer := outer) hh X.fr S W (wpAny_mono hm (fun v s₁ h₁ => ?_) fun _ _ x => x) he hk hx
  obtain ⟨msg, tok, tk₁, h₂, rfl, rfl, hx₂, k⟩ := h₁
  have S₂ := S.ext hx₂
  exact ⟨msg, tok, tk₁, h₂, rfl, rfl, S₂, X.ok.ext S₂.fr.keep, S₂.fr.keep, hL, fun e h' tk' fl => k e h' tk' fl⟩
end

def itoa (n : Int) : Str := Str.ofString (toString n)
section
variable {prog : Program} {w : World} {A : Around} {E : Value → Shared → Prop} {s : Shared} {env : Env} {out : Str} {rest : List (Sem Value)} {Q : Value → Shared → Prop}
theorem jpC {x : Str} {k : Nat} {p : Pos} (hz : (out ++ x).length ≤ sizeLine) (h : ∀ tk, wpAny (model prog w) A (joinParts (out ++ x) rest) Q E { s with toks := tk }) : wpAny (model prog w) A (joinParts out (eval (.Constant (.str x) k p) env :: rest)) Q E s :=
  joinParts_cons (wpAny_Constant_str ⟨hz, h _⟩)
theorem jpI {value : Expr} {p : Pos} {n : Int} {t : Tok} (hev : ∀ Q' : Value → Shared → Prop, Q' (.int n t) s → wpAny (model prog w) A (eval value env) Q' E s) (hd : n.natAbs.log2 < 1920) (hz : (out ++ itoa n).length ≤ sizeLine)
    (h : ∀ tk, wpAny (model prog w) A (joinParts (out ++ itoa n) rest) Q E { s with toks := tk }) : wpAny (model prog w) A (joinParts out (eval (.FormattedValue value (-1) none p) env :: rest)) Q E s :=
  joinParts_cons (FormattedValue_plain (hev _ (formatField_int_small hd ⟨hz, h _⟩)))
theorem jpN (hz : out.length ≤ sizeLine) (h : ∀ t tk, Q (.str out t) { s with toks := tk }) : wpAny (model prog w) A (joinParts out []) Q E s := joinParts_nil (h _ _) hz
end
theorem log_max : (1000000000000000000 : Int).natAbs.log2 < 1920 := by decide +kernel
theorem len_app (a b : Str) : (a ++ b).length = a.length + b.length := by exact strLen_append a b

def MAXN : Int := 1000000000000000000
def wholeMsg : Str := "a number must be whole"
def rangeMsg (lo : Int) : Str := (((Str.empty ++ ("a number must lie between " : Str)) ++ itoa lo) ++ (" and " : Str)) ++ itoa 1000000000000000000
def chk (d : Dt) (lo : Int) : Except Str Int := match d with
  | .int n => if lo ≤ n ∧ n ≤ MAXN then .ok n else .error (rangeMsg lo)
  | _ => .error wholeMsg
def Scalar : Dt → Prop
  | .none | .int _ | .bool _ | .str _ | .flt => True
  | _ => False

end Mine
end
section
open PySem PyProof.Rows PySem.Calls PySem.W
namespace Mine
section
variable {prog : Program} {w : World} {A : Around} {E : Value → Shared → Prop} {s : Shared} {mg mb : Str → Option Value} {a : Addr} {g : Lg} {v : Value} {t : Tok} {Q : Value → Shared → Prop} {lo : Int} {d : Dt} {outer : List Env}
set_option maxHeartbeats 1000000 in
theorem check_number_spec (hA : OkA A 1) (X : Cx A outer s.heap) (W : Wd mg mb s.heap) (ha : mg (fdAt 4).name = some (.ref a)) (D : DL [] v d) (hd : Scalar d) (hlo : lo.natAbs.log2 < 1920) (hrz : (rangeMsg lo).length ≤ sizeLine)
    (hk : ∀ n, chk d lo = .ok n → ∀ h' tk, Ext s.heap h' → Q v { s with heap := h', toks := tk }) (he : ∀ msg, chk d lo = .error msg → Err E s outer msg) :
    wpAny (model prog w) A (call (.ref a) [v, .int lo t]) Q E s := by
  obtain ⟨of, pm, cd, dc, fn⟩ := fn_of W (i := 4) (by decide) ha
  obtain ⟨tm, em⟩ := W.const ("MAX_NUMBER", 1000000000000000000) (by decide)
  dsimp only at em
  refine enterX (i := 4) (n := 0) (hb := s.heap) (u := []) (g := []) (binds := [("value", v), ("lowest", .int lo t)]) hA fn W.nolimit (Ext.refl _) (Nat.le_refl _)
    (fun _ h => nomatch h) (fun _ h => nomatch h) (fun _ h => nomatch h) (by simp) rfl ?_
  intro L h₁ tk hL hx₁ S hA'
  conv in (fdAt 4).body => whnf
  cases D with
  | int n tn =>
    refine wpAny_execs_cons (wpAny_If (isTrue_or (isTrue_not (isTrue_plain (callB "isinstance" (nmB S W (W.free _ (by decide)) rfl ⟨rfl, wpAny_items_cons (nmL S rfl (wpAny_items_cons (nmB S W (W.free _ (by decide)) rfl (wpAny_items_nil (IsiPair.int_int (wpAny_truthy_bool ?_))))))⟩))))))
    refine isTrue_or (isTrue_plain (callB "isinstance" (nmB S W (W.free _ (by decide)) rfl ⟨rfl, wpAny_items_cons (nmL S rfl (wpAny_items_cons (nmB S W (W.free _ (by decide)) rfl (wpAny_items_nil (IsiPair.int_bool (wpAny_truthy_bool ?_))))))⟩)))
    refine isTrue_or_nil (wpAny_execs_nil ?_)
    dsimp only
    refine wpAny_execs_cons (wpAny_If (isTrue_not (isTrue_chain (nmL S rfl (test_link (nmL S rfl (PyProof.Rows.le_int (wpAny_truthy_bool ?_))))))))
    have bad : ∀ tk₂, ¬ (lo ≤ n ∧ n ≤ MAXN) → wpAny (model prog w) (A.deeper (eX (fdAt 4).name (fdAt 4).scope L a cd [])) (execs (match (fdAt 4).body with | _ :: .If _ b _ _ :: _ => b | _ => []) (eX (fdAt 4).name (fdAt 4).scope L a cd []))
        (fun (f : Flow) (s₂ : Shared) => False) (LE (model prog w) (A.deeper (eX (fdAt 4).name (fdAt 4).scope L a cd [])) (eX (fdAt 4).name (fdAt 4).scope L a cd []) E) { s with heap := h₁, toks := tk₂ } := by
      intro tk₂ hb
      show wpAny _ _ (execs [_] _) _ _ _
      refine wpAny_execs_cons (raiseP hA.hd X hL S W ?_)
      have hc : chk (.int n) lo = .error (rangeMsg lo) := by simp only [chk, if_neg hb]
      have z4 := hrz
      unfold rangeMsg at z4
      have z3 : (((Str.empty ++ ("a number must lie between " : Str)) ++ itoa lo) ++ (" and " : Str)).length ≤ sizeLine := by rw [len_app] at z4; omega
      have z2 : ((Str.empty ++ ("a number must lie between " : Str)) ++ itoa lo).length ≤ sizeLine := by rw [len_app] at z3; omega
      have z1 : (Str.empty ++ ("a number must lie between " : Str)).length ≤ sizeLine := by rw [len_app] at z2; omega
      refine JoinedStr_many (jpC z1 fun tk₃ => jpI (fun Q' hq => nmL S rfl hq) hlo z2 fun tk₄ => joinParts_consE (jpC z3 fun tk₅ => joinParts_consE (jpI (n := 1000000000000000000) (t := tm) (fun Q' hq => nmG S W em hq) log_max z4 fun tk₆ => ?_)))
      refine joinParts_nilE ?_
      dsimp only
      generalize hX : (Str.empty ++ Str.ofString "a number must lie between " ++ itoa lo ++ Str.ofString " and " ++ itoa 1000000000000000000) = X at z4 ⊢
      refine jpN z4 ?_
      intro t₇ tk₇
      exact ⟨_, _, _, _, rfl, rfl, Ext.refl _, hX ▸ he _ hc⟩
    by_cases h1 : lo ≤ n
    · rw [decide_eq_true h1]
      refine test_last (nmG S W em (PyProof.Rows.le_int (wpAny_truthy_bool ?_)))
      by_cases h2 : n ≤ MAXN
      · rw [decide_eq_true (show n ≤ 1000000000000000000 from h2)]
        refine wpAny_execs_nil ?_
        dsimp only
        exact wpAny_execs_cons (wpAny_Return_some (nmL S rfl (hk n (by simp [chk, h1, h2]) _ _ hx₁)))
      · rw [decide_eq_false (show ¬ n ≤ 1000000000000000000 from h2)]
        exact wpAny_mono (bad _ fun h => h2 h.2) (fun _ _ h => h.elim) fun _ _ h => h
    · rw [decide_eq_false h1]
      exact wpAny_mono (bad _ fun h => h1 h.1) (fun _ _ h => h.elim) fun _ _ h => h
  | bool b =>
    refine wpAny_execs_cons (wpAny_If (isTrue_or (isTrue_not (isTrue_plain (callB "isinstance" (nmB S W (W.free _ (by decide)) rfl ⟨rfl, wpAny_items_cons (nmL S rfl (wpAny_items_cons (nmB S W (W.free _ (by decide)) rfl (wpAny_items_nil (IsiPair.bool_int (wpAny_truthy_bool ?_))))))⟩))))))
    refine isTrue_or (isTrue_plain (callB "isinstance" (nmB S W (W.free _ (by decide)) rfl ⟨rfl, wpAny_items_cons (nmL S rfl (wpAny_items_cons (nmB S W (W.free _ (by decide)) rfl (wpAny_items_nil (IsiPair.bool_bool (wpAny_truthy_bool ?_))))))⟩)))
    try dsimp only
    exact wpAny_execs_cons (raiseP (s₀ := s) hA.hd X hL S W (wpAny_Constant_str ⟨_, _, _, _, rfl, rfl, Ext.refl _, he _ rfl⟩))
  | str x tx =>
    refine wpAny_execs_cons (wpAny_If (isTrue_or (isTrue_not (isTrue_plain (callB "isinstance" (nmB S W (W.free _ (by decide)) rfl ⟨rfl, wpAny_items_cons (nmL S rfl (wpAny_items_cons (nmB S W (W.free _ (by decide)) rfl (wpAny_items_nil (IsiPair.str_int (wpAny_truthy_bool ?_))))))⟩))))))
    try dsimp only
    exact wpAny_execs_cons (raiseP (s₀ := s) hA.hd X hL S W (wpAny_Constant_str ⟨_, _, _, _, rfl, rfl, Ext.refl _, he _ rfl⟩))
  | flt x tx =>
    refine wpAny_execs_cons (wpAny_If (isTrue_or (isTrue_not (isTrue_plain (callB "isinstance" (nmB S W (W.free _ (by decide)) rfl ⟨rfl, wpAny_items_cons (nmL S rfl (wpAny_items_cons (nmB S W (W.free _ (by decide)) rfl (wpAny_items_nil (IsiPair.float_int (wpAny_truthy_bool ?_))))))⟩))))))
    try dsimp only
    exact wpAny_execs_cons (raiseP (s₀ := s) hA.hd X hL S W (wpAny_Constant_str ⟨_, _, _, _, rfl, rfl, Ext.refl _, he _ rfl⟩))
  | none =>
    refine wpAny_execs_cons (wpAny_If (isTrue_or (isTrue_not (isTrue_plain (callB "isinstance" (nmB S W (W.free _ (by decide)) rfl ⟨rfl, wpAny_items_cons (nmL S rfl (wpAny_items_cons (nmB S W (W.free _ (by decide)) rfl (wpAny_items_nil (IsiPair.NoneType_int (wpAny_truthy_bool ?_))))))⟩))))))
    try dsimp only
    exact wpAny_execs_cons (raiseP (s₀ := s) hA.hd X hL S W (wpAny_Constant_str ⟨_, _, _, _, rfl, rfl, Ext.refl _, he _ rfl⟩))
  | list _ _ => exact hd.elim
  | tuple _ _ _ _ => exact hd.elim
end
end Mine
end
section
open PySem PyProof.Rows PySem.Calls PySem.W
set_option maxRecDepth 100000
namespace Mine
theorem entry_ascii : entryFor table "ascii" = some Builtin.«ascii» := entryFor_of_tree (by kernel_rfl)
theorem kind_ascii : builtinKind "ascii" = none := by decide +kernel
theorem plain_ascii : plainId "ascii" = true := by decide +kernel
theorem args_ascii (a : Value) : argsOk "ascii" ⟨[a], []⟩ := by unfold argsOk; kernel_rfl

def Sane (x : Str) : Prop := x.length ≤ 5000 ∧ (∀ c ∈ x.cps.toList, c < 16 ^ 8) ∧ ∀ c ∈ (reprText x).cps.toList, c < 16 ^ 8
theorem flat_len (f : Nat → List Nat) : ∀ (l : List Nat), (∀ c ∈ l, (f c).length ≤ 10) → (l.flatMap f).length ≤ 10 * l.length
  | [], _ => by simp
  | c :: r, h => by
    have ih := flat_len f r fun d hd => h d (.tail _ hd)
    have hc := h c (.head _)
    simp only [List.flatMap_cons, List.length_append, List.length_cons]
    omega
theorem esc_len (c : Nat) (hc : c < 16 ^ 8) (f : Nat → Nat → List Nat) (hf : ∀ w, 1 ≤ w → c < 16 ^ w → (f c w).length ≤ w) : (if c < 128 then [c] else if c < 256 then [92, 120] ++ f c 2 else if c < 65536 then [92, 117] ++ f c 4 else [92, 85] ++ f c 8).length ≤ 10 := by
  have h8 := hf 8 (by decide) hc
  split
  · simp
  · split
    · rename_i h; have := hf 2 (by decide) (by simpa using h); simp only [List.length_append, List.length_cons, List.length_nil]; omega
    · split
      · rename_i h; have := hf 4 (by decide) (by simpa using h); simp only [List.length_append, List.length_cons, List.length_nil]; omega
      · simp only [List.length_append, List.length_cons, List.length_nil]; omega
theorem repr_len {x : Str} (h : Sane x) : (reprText x).length ≤ 50002 := by
  have := StrLaws.reprText_len x h.2.1
  have := h.1
  omega
theorem repr_fits {x : Str} (h : Sane x) : (reprText x).length ≤ sizeLine := by have := repr_len h; have e : sizeLine = 16777216 := by decide
                                                                                omega
theorem ascii_ex (x : Str) (hx : Sane x) : ∃ y : Str, y.length ≤ 500020 ∧ ∀ {prog : Program} {w : World} {A : Around} {E : Value → Shared → Prop} {s : Shared} {t : Tok} {Q : Value → Shared → Prop},
    (∀ t' tk, Q (.str y t') { s with toks := tk }) → wpAny (model prog w) A (call (.builtin "ascii") [.str x t]) Q E s := by
  have hz := repr_fits hx
  by_cases ha : (reprText x).cps.all (· < 128) = true
  · refine ⟨reprText x, by have := repr_len hx; omega, fun {prog w A E s t Q} h => ?_⟩
    refine call_function_entry kind_ascii plain_ascii entry_ascii (args_ascii _) ?_
    unfold Builtin.«ascii»
    refine wpAny_bind (wpAny_of_eq (a := Value.str x t) rfl ?_)
    simp only [cRoomFor, List.any_cons, List.any_nil, Value.onHeap, Bool.or_false, Bool.false_eq_true, if_false, pure_bind]
    refine wpAny_bind (wpAny_callSpecialIfBound?_slot (name := Str.ofString "__repr__") (typeIs_str _ _ _) F.slot_str_repr (call_gives F.slot_str_repr (typeIs_str _ _ _) F.entry_str_repr (F.args_str_repr_1 _) (gives_str_repr x t) ⟨hz, ?_⟩))
    show wpAny _ _ (asStr? (.str (reprText x) s.toks) >>= _) _ _ _
    refine wpAny_bind (wpAny_of_eq (a := some (reprText x)) rfl ?_)
    show wpAny _ _ (if ((reprText x).cps.all (· < 128)) = true then _ else _) _ _ _
    rw [if_pos ha]
    exact wpAny_bind (wpAny_rule (wpAny_pure ⟨_, rfl, h _ _⟩))
  · have key : ∀ (f : Nat → List Nat), (∀ c, c < 16 ^ 8 → (f c).length ≤ 10) → (⟨(reprText x).cps.flatMap fun c => (f c).toArray⟩ : Str).length ≤ 500020 := fun f hf => by
      have h1 := flat_len f (reprText x).cps.toList fun c hc => hf c (hx.2.2 c hc)
      have h2 := repr_len hx
      have e : sizeLine = 16777216 := by decide
      have e2 : (reprText x).cps.toList.length = (reprText x).length := by simp [Str.length]
      show ((reprText x).cps.flatMap fun c => (f c).toArray).size ≤ _
      have e3 : ((reprText x).cps.flatMap fun c => (f c).toArray).size = ((reprText x).cps.toList.flatMap f).length := by
        rw [← Array.length_toList, Array.toList_flatMap]
      omega
    apply Exists.intro
    apply And.intro
    rotate_left
    · intro prog w A E s t Q h
      refine call_function_entry kind_ascii plain_ascii entry_ascii (args_ascii _) ?_
      unfold Builtin.«ascii»
      refine wpAny_bind (wpAny_of_eq (a := Value.str x t) rfl ?_)
      simp only [cRoomFor, List.any_cons, List.any_nil, Value.onHeap, Bool.or_false, Bool.false_eq_true, if_false, pure_bind]
      refine wpAny_bind (wpAny_callSpecialIfBound?_slot (name := Str.ofString "__repr__") (typeIs_str _ _ _) F.slot_str_repr (call_gives F.slot_str_repr (typeIs_str _ _ _) F.entry_str_repr (F.args_str_repr_1 _) (gives_str_repr x t) ⟨hz, ?_⟩))
      show wpAny _ _ (asStr? (.str (reprText x) s.toks) >>= _) _ _ _
      refine wpAny_bind (wpAny_of_eq (a := some (reprText x)) rfl ?_)
      show wpAny _ _ (if ((reprText x).cps.all (· < 128)) = true then _ else _) _ _ _
      rw [if_neg ha]
      refine wpAny_bind (wpAny_letGo ?_)
      rw [if_neg (by
        have h1 := repr_len hx
        have e : sizeLine = 16777216 := by decide
        intro q
        rw [Bool.and_eq_true] at q
        have := of_decide_eq_true q.1
        omega)]
      unfold retStr
      refine wpAny_bind (wpAny_mkStr (wpAny_pure ⟨_, rfl, h _ _⟩) ?_)
      refine Nat.le_trans ?_ (show 500020 ≤ sizeLine by decide)
      exact key _ fun c hc => esc_len c hc (fun c w => List.replicate (w - ((Nat.toDigits 16 c).map Char.toNat).length) 48 ++ (Nat.toDigits 16 c).map Char.toNat) fun w hw hc' => StrLaws.hex_len hw hc'
    · exact key _ fun c hc => esc_len c hc (fun c w => List.replicate (w - ((Nat.toDigits 16 c).map Char.toNat).length) 48 ++ (Nat.toDigits 16 c).map Char.toNat) fun w hw hc' => StrLaws.hex_len hw hc'
noncomputable def ascT (x : Str) : Str := @dite _ (Sane x) (Classical.propDecidable _) (fun h => Classical.choose (ascii_ex x h)) fun _ => Str.empty
theorem ascT_len {x : Str} (h : Sane x) : (ascT x).length ≤ 500020 := by
  unfold ascT; rw [dif_pos h]; exact (Classical.choose_spec (ascii_ex x h)).1
section
variable {prog : Program} {w : World} {A : Around} {E : Value → Shared → Prop} {s : Shared} {env : Env} {out : Str} {rest : List (Sem Value)} {Q : Value → Shared → Prop}
theorem asciiC {x : Str} {t : Tok} (hx : Sane x) (h : ∀ t' tk, Q (.str (ascT x) t') { s with toks := tk }) : wpAny (model prog w) A (call (.builtin "ascii") [.str x t]) Q E s := by
  have e : ascT x = Classical.choose (ascii_ex x hx) := by unfold ascT; rw [dif_pos hx]
  rw [e] at h
  exact (Classical.choose_spec (ascii_ex x hx)).2 h
theorem jpA {value : Expr} {p : Pos} {x : Str} (hx : Sane x) (hev : ∀ Q' : Value → Shared → Prop, (∀ t tk, Q' (.str x t) { s with toks := tk }) → wpAny (model prog w) A (eval value env) Q' E s) (hz : out.length ≤ 1000000)
    (h : ∀ tk, wpAny (model prog w) A (joinParts (out ++ ascT x) rest) Q E { s with toks := tk }) : wpAny (model prog w) A (joinParts out (eval (.FormattedValue value 97 none p) env :: rest)) Q E s := by
  have hz2 : (out ++ ascT x).length ≤ sizeLine := by
    have := ascT_len hx
    have e : sizeLine = 16777216 := by decide
    rw [len_app]; omega
  refine joinParts_cons ?_
  show wpAny _ _ (do let v ← eval value env; standAt p; formatted p (← holding [v] (converted 97 v)) none) _ _ s
  refine wpAny_bind (hev _ fun t tk => wpAny_bind (wpAny_standAt ?_))
  show wpAny _ _ (do let v' ← holding [.str x t] (call (.builtin "ascii") [.str x t]); formatField v' Str.empty) _ _ _
  refine wpAny_bind (wpAny_holding (asciiC hx fun t' tk' => formatField_str (fun t'' tk'' => ⟨hz2, h _⟩) ?_))
  have := ascT_len hx
  have e : sizeLine = 16777216 := by decide
  omega
end
end Mine
end
section
open PySem PyProof.Rows PySem.Calls PySem.W
namespace Mine
section
variable {prog : Program} {w : World} {A : Around} {E : Value → Shared → Prop} {s : Shared}
theorem eqS {Q : Value → Shared → Prop} {x y : Str} {t u : Tok} (b : Bool) (hb : decide (x = y) = b) (h : Q (.bool b) s) : wpAny (model prog w) A (compareOp .Eq (.str x t) (.str y u)) Q E s :=
  PySem.P.eq_str (by rw [eqs, hb]; exact h)
theorem neS {Q : Value → Shared → Prop} {x y : Str} {t u : Tok} (b : Bool) (hb : (!decide (x = y)) = b) (h : Q (.bool b) s) : wpAny (model prog w) A (compareOp .NotEq (.str x t) (.str y u)) Q E s :=
  PySem.P.ne_str (by rw [bne, eqs, hb]; exact h)
end
def nameOk : Dt → Bool
  | .str x => !decide (x = "") && decide (x = Txt.strip x) && decide (x.length ≤ 200) && Txt.isprintable x
  | _ => false
def NameD : Dt → Prop
  | .str x => Sane x
  | .int _ => True
  | _ => False

section
variable {prog : Program} {w : World} {A : Around} {E : Value → Shared → Prop} {s : Shared} {mg mb : Str → Option Value} {a : Addr} {v : Value} {Q : Value → Shared → Prop} {d : Dt} {outer : List Env}
set_option maxHeartbeats 1000000 in
theorem check_name_spec (hA : OkA A 1) (X : Cx A outer s.heap) (W : Wd mg mb s.heap) (ha : mg (fdAt 3).name = some (.ref a)) (D : DL [] v d) (hd : NameD d)
    (hk : nameOk d = true → ∀ h' tk, Ext s.heap h' → Q v { s with heap := h', toks := tk }) (he : nameOk d = false → ∀ msg : Str, msg.length ≤ 2000000 → Err E s outer msg) :
    wpAny (model prog w) A (call (.ref a) [v]) Q E s := by
  obtain ⟨of, pm, cd, dc, fn⟩ := fn_of W (i := 3) (by decide) ha
  obtain ⟨tm, em⟩ := W.const ("MAX_NAME", 200) (by decide)
  dsimp only at em
  refine enterX (i := 3) (n := 0) (hb := s.heap) (u := []) (g := []) (binds := [("text", v)]) hA fn W.nolimit (Ext.refl _) (Nat.le_refl _)
    (fun _ h => nomatch h) (fun _ h => nomatch h) (fun _ h => nomatch h) (by simp) rfl ?_
  intro L h₁ tk hL hx₁ S hA'
  conv in (fdAt 3).body => whnf
  cases D with
  | int n tn =>
    refine wpAny_execs_cons (wpAny_If (isTrue_not (isTrue_plain (callB "isinstance" (nmB S W (W.free _ (by decide)) rfl ⟨rfl, wpAny_items_cons (nmL S rfl (wpAny_items_cons (nmB S W (W.free _ (by decide)) rfl (wpAny_items_nil (IsiPair.int_str (wpAny_truthy_bool ?_))))))⟩)))))
    dsimp only
    exact wpAny_execs_cons (raiseP (s₀ := s) hA.hd X hL S W (wpAny_Constant_str ⟨_, _, _, _, rfl, rfl, Ext.refl _, he rfl _ (by decide)⟩))
  | str x tx =>
    have hz : x.length ≤ 5000 := hd.1
    have hz' : x.length ≤ sizeLine := Nat.le_trans hz (by decide)
    refine wpAny_execs_cons (wpAny_If (isTrue_not (isTrue_plain (callB "isinstance" (nmB S W (W.free _ (by decide)) rfl ⟨rfl, wpAny_items_cons (nmL S rfl (wpAny_items_cons (nmB S W (W.free _ (by decide)) rfl (wpAny_items_nil (IsiPair.str_str (wpAny_truthy_bool ?_))))))⟩)))))
    refine wpAny_execs_nil ?_
    dsimp only
    have sayA : ∀ tk₂ (c : Str) (k1 k2 : Nat) (p1 p2 p3 p4 : Pos), c.length ≤ 1000 → nameOk (.str x) = false →
        wpAny (model prog w) (A.deeper (eX (fdAt 3).name (fdAt 3).scope L a cd [])) (eval (.JoinedStr [.Constant (.str c) k1 p1, .FormattedValue (.Name "text" p2) 97 none p3] p4) (eX (fdAt 3).name (fdAt 3).scope L a cd []))
          (Say E s outer h₁) (LE (model prog w) (A.deeper (eX (fdAt 3).name (fdAt 3).scope L a cd [])) (eX (fdAt 3).name (fdAt 3).scope L a cd []) E) { s with heap := h₁, toks := tk₂ } := by
      intro tk₂ c k1 k2 p1 p2 p3 p4 hc hn
      have z0 : (Str.empty ++ c).length ≤ 1000 := by rw [len_app]; show 0 + c.length ≤ _; omega
      have z1 := ascT_len hd
      refine JoinedStr_many (jpC (Nat.le_trans z0 (by decide)) fun tk₃ => jpA hd (fun Q' hq => nmL S rfl (hq _ _)) (Nat.le_trans z0 (by decide)) fun tk₄ => ?_)
      refine joinParts_nilE ?_
      dsimp only
      generalize hX : Str.empty ++ c ++ ascT x = X'
      have z2 : X'.length ≤ 2000000 := by rw [← hX, len_app]; omega
      refine jpN (Nat.le_trans z2 (by decide)) ?_
      intro t₇ tk₇
      exact ⟨_, _, _, _, rfl, rfl, Ext.refl _, he hn _ z2⟩
    refine wpAny_execs_cons (wpAny_If (isTrue_or (wpAny_isTrue_Compare1 (nmL S rfl (wpAny_Constant_str (eqS _ rfl (wpAny_truthy_bool ?_)))))))
    by_cases h1 : x = ""
    · rw [decide_eq_true h1]
      dsimp only
      exact wpAny_execs_cons (raiseP (s₀ := s) hA.hd X hL S W (sayA _ _ _ 0 _ _ _ _ (by decide) (by simp [nameOk, h1])))
    rw [decide_eq_false h1]
    refine isTrue_or (wpAny_isTrue_Compare1 (nmL S rfl (callM0 "str" "str.strip" PySem.F.plainAttrs_str PySem.F.slot_str_strip PySem.F.type_str_strip (nmL S rfl ⟨typeIs_str _ _ _, (fun a e => nomatch e), SC.strip (fun t' k => neS _ rfl (wpAny_truthy_bool ?_)) hz'⟩))))
    by_cases h2 : x = Txt.strip x
    · rw [decide_eq_true h2]
      refine isTrue_or_nil (wpAny_execs_nil ?_)
      dsimp only
      refine wpAny_execs_cons (wpAny_If (wpAny_isTrue_Compare1 (callB "len" (nmB S W (W.free _ (by decide)) rfl ⟨rfl, wpAny_items_cons (nmL S rfl (wpAny_items_nil (PySem.P.len_str (by omega) (nmG S W em (PyProof.Rows.gt_int (wpAny_truthy_bool ?_))))))⟩))))
      dsimp only
      by_cases h3 : (200 : Int) < x.length
      · rw [decide_eq_true h3]
        refine wpAny_execs_cons (raiseP (s₀ := s) hA.hd X hL S W ?_)
        have hn : nameOk (.str x) = false := by simp [nameOk]; omega
        refine JoinedStr_many (jpC (by decide) fun tk₃ => jpI (n := 200) (t := tm) (fun Q' hq => nmG S W em hq) (by decide +kernel) (by decide +kernel) fun tk₄ => joinParts_consE (jpC (by decide +kernel) fun tk₅ => ?_))
        refine joinParts_nilE ?_
        dsimp only
        generalize hX : Str.empty ++ Str.ofString "a name may have at most " ++ itoa 200 ++ Str.ofString " characters" = X'
        have z2 : X'.length ≤ 2000000 := by rw [← hX]; decide +kernel
        refine jpN (Nat.le_trans z2 (by decide)) ?_
        intro t₇ tk₇
        exact ⟨_, _, _, _, rfl, rfl, Ext.refl _, he hn _ z2⟩
      · rw [decide_eq_false h3]
        refine wpAny_execs_nil ?_
        dsimp only
        refine wpAny_execs_cons (wpAny_If (isTrue_not (isTrue_plain (callM0 "str" "str.isprintable" PySem.F.plainAttrs_str PySem.F.slot_str_isprintable PySem.F.type_str_isprintable (nmL S rfl ⟨typeIs_str _ _ _, (fun a e => nomatch e), SC.isprintable (wpAny_truthy_bool ?_)⟩)))))
        cases h4 : Txt.isprintable x with
        | true =>
          refine wpAny_execs_nil ?_
          dsimp only
          exact wpAny_execs_cons (wpAny_Return_some (nmL S rfl (hk (by simp [nameOk, h1, ← h2, h4]; omega) _ _ hx₁)))
        | false =>
          try dsimp only
          exact wpAny_execs_cons (raiseP (s₀ := s) hA.hd X hL S W (sayA _ _ _ 0 _ _ _ _ (by decide) (by simp [nameOk, h4])))
    · rw [decide_eq_false h2]
      dsimp only
      exact wpAny_execs_cons (raiseP (s₀ := s) hA.hd X hL S W (sayA _ _ _ 0 _ _ _ _ (by decide) (by simp [nameOk, h2])))
  | none => exact hd.elim
  | bool _ => exact hd.elim
  | flt _ _ => exact hd.elim
  | list _ _ => exact hd.elim
  | tuple _ _ _ _ => exact hd.elim
end
end Mine
end
section
open PySem PyProof.Rows PySem.Calls PySem.W
namespace Mine
section
variable {prog : Program} {w : World} {A : Around} {E : Value → Shared → Prop} {s : Shared} {env : Env} {out : Str} {rest : List (Sem Value)} {Q : Value → Shared → Prop}
theorem jpA' {value : Expr} {p : Pos} {x : Str} (hx : Sane x) (hev : ∀ Q' : Value → Shared → Prop, (∀ t tk h', Ext s.heap h' → Q' (.str x t) { s with heap := h', toks := tk }) → wpAny (model prog w) A (eval value env) Q' E s) (hz : out.length ≤ 1000000)
    (h : ∀ tk h', Ext s.heap h' → wpAny (model prog w) A (joinParts (out ++ ascT x) rest) Q E { s with heap := h', toks := tk }) : wpAny (model prog w) A (joinParts out (eval (.FormattedValue value 97 none p) env :: rest)) Q E s := by
  have hz2 : (out ++ ascT x).length ≤ sizeLine := by
    have := ascT_len hx
    have e : sizeLine = 16777216 := by decide
    rw [len_app]; omega
  refine joinParts_cons ?_
  show wpAny _ _ (do let v ← eval value env; standAt p; formatted p (← holding [v] (converted 97 v)) none) _ _ s
  refine wpAny_bind (hev _ fun t tk h' hx' => wpAny_bind (wpAny_standAt ?_))
  show wpAny _ _ (do let v' ← holding [.str x t] (call (.builtin "ascii") [.str x t]); formatField v' Str.empty) _ _ _
  refine wpAny_bind (wpAny_holding (asciiC hx fun t' tk' => formatField_str (fun t'' tk'' => ⟨hz2, h _ _ hx'⟩) ?_))
  have := ascT_len hx
  have e : sizeLine = 16777216 := by decide
  omega
variable {h₀ : Heap} {L a : Addr} {gi : Lg} {m : Str → Option Value} {u g : Lg} {cn : Str} {cs : Scope} {cd : Value} {cl : List (Str × Addr)}
/-- x[:n] of a text in a local name -/
theorem cutS {x y : Str} {t : Tok} {k : Nat} {n : Int} {p1 p2 p3 p4 : Pos} (S : St h₀ L gi m u g s.heap) (hm : m y = some (.str x t)) (hz : x.length ≤ sizeLine)
    (h : ∀ t tk h', Ext s.heap h' → Q (.str (Txt.slice x none (some n)) t) { s with heap := h', toks := tk })
    (hk : cs.kind = .function := by rfl) (hx : (eX cn cs L a cd cl).kindOf y = some .local := by rfl) (hd : (y == ("__debug__" : Str)) = false := by decide) :
    wpAny (model prog w) A (eval (.Subscript (.Name y p1) (.Slice none (some (.Constant (.int n) k p2)) none p3) p4) (eX cn cs L a cd cl)) Q E s := by
  refine Subscript_ (nmL S hm (wpAny_Slice (wpAny_evalPart_none (wpAny_evalPart_some (wpAny_Constant_int (wpAny_evalPart_none ?_))))) hk hx hd)
  refine tail_of_ItemOn (SBH.sliceItem_ns (s := { s with toks := s.toks + 1 }) (P := fun h' => Ext s.heap h') (fun h' ob e b o q => Heap.get?_push_of_some _ (e b o q)) (Ext.refl _) (fun h' t' k hx' => h t' k h' hx') hz) (by with_unfolding_all rfl) (by intro _; with_unfolding_all rfl)
end

section
variable {prog : Program} {w : World} {A : Around} {E : Value → Shared → Prop} {s₀ : Shared} {h : Heap} {tk : Nat} {L a : Addr} {gi : Lg} {m mg mb : Str → Option Value} {u g : Lg} {cn : Str} {cs : Scope} {cd : Value} {cl : List (Str × Addr)} {outer : List Env} {msg : Str} {EE : Value → Shared → Prop}
theorem Cx.push {h₀ : Heap} (X : Cx A outer h) (S : St h₀ L gi m u g h) (hk : cs.kind = .function := by rfl) : Cx (A.deeper (eX cn cs L a cd cl)) (eX cn cs L a cd cl :: outer) h :=
  ⟨Around.frames_deeper X.fr, frp_cons rfl (by show cs.kind ≠ .module; rw [hk]; decide) X.ok S.fr.ns⟩
theorem Cx.ext {h' : Heap} (X : Cx A outer h) (k : Ext h h') : Cx A outer h' := ⟨X.fr, X.ok.ext k⟩
theorem passP (X : Cx A outer s₀.heap) (hL : s₀.heap.get? L = none) (S : St s₀.heap L gi m u g h) (k : Err E s₀ outer msg) :
    Err (LE (model prog w) (A.deeper (eX cn cs L a cd cl)) (eX cn cs L a cd cl) E) { s₀ with heap := h, toks := tk } (eX cn cs L a cd cl :: outer) msg :=
  fun e h' tk' fl => leave_fly (s := { s₀ with heap := h', toks := tk' }) (Around.frames_deeper X.fr) rfl fl S.fr.keep hL fun h'' fl' => k e h'' _ fl'
theorem sayR {lo : Int} {tl tm : Tok} {k1 k2 : Nat} {p1 p2 p3 p4 p5 p6 p7 : Pos} (S : St s₀.heap L gi m u g h) (W : Wd mg mb s₀.heap) (em : mg "MAX_NUMBER" = some (.int 1000000000000000000 tm)) (hm : m "lowest" = some (.int lo tl)) (hlo : lo.natAbs.log2 < 1920) (hrz : (rangeMsg lo).length ≤ sizeLine) (k : Err E s₀ outer (rangeMsg lo))
    (hk : cs.kind = .function := by rfl) (hx : (eX cn cs L a cd cl).kindOf "lowest" = some .local := by rfl) (hx2 : (eX cn cs L a cd cl).kindOf "MAX_NUMBER" = some .globalImplicit := by rfl) :
    wpAny (model prog w) A (eval (.JoinedStr [.Constant (.str "a number must lie between ") k1 p1, .FormattedValue (.Name "lowest" p2) (-1) none p3, .Constant (.str " and ") k2 p4, .FormattedValue (.Name "MAX_NUMBER" p5) (-1) none p6] p7) (eX cn cs L a cd cl)) (Say E s₀ outer h) EE { s₀ with heap := h, toks := tk } := by
  have z4 := hrz
  unfold rangeMsg at z4 k
  have z3 : (((Str.empty ++ ("a number must lie between " : Str)) ++ itoa lo) ++ (" and " : Str)).length ≤ sizeLine := by rw [len_app] at z4; omega
  have z2 : ((Str.empty ++ ("a number must lie between " : Str)) ++ itoa lo).length ≤ sizeLine := by rw [len_app] at z3; omega
  have z1 : (Str.empty ++ ("a number must lie between " : Str)).length ≤ sizeLine := by rw [len_app] at z2; omega
  refine JoinedStr_many (jpC z1 fun tk₃ => jpI (fun Q' hq => nmL S hm hq hk hx) hlo z2 fun tk₄ => joinParts_consE (jpC z3 fun tk₅ => joinParts_consE (jpI (n := 1000000000000000000) (t := tm) (fun Q' hq => nmG S W em hq hk hx2) log_max z4 fun tk₆ => ?_)))
  refine joinParts_nilE ?_
  dsimp only
  generalize hX : (Str.empty ++ Str.ofString "a number must lie between " ++ itoa lo ++ Str.ofString " and " ++ itoa 1000000000000000000) = X at z4 k
  refine jpN z4 ?_
  intro t₇ tk₇
  exact ⟨_, _, _, _, rfl, rfl, Ext.refl _, k⟩
end

noncomputable def junkMsg (x : Str) : Str := Str.empty ++ ("not a whole number: " : Str) ++ ascT (Txt.slice x none (some 40))
def zless (x : Str) : Str := Txt.lstripChars (Txt.removeprefix x "-") "0"
def numT (x : Str) : Str := if (zless x).length = 0 then "0" else zless x
noncomputable def parseN (x : Str) (lo : Int) : Except Str Int :=
  if (Txt.isascii (Txt.removeprefix x "-") && Txt.isdigit (Txt.removeprefix x "-")) = false then .error (junkMsg x)
  else if 19 < (zless x).length then .error (rangeMsg lo)
  else chk (.int (if Txt.startswith x "-" then -(PySem.intText? (numT x)).getD 0 else (PySem.intText? (numT x)).getD 0)) lo
/-- what must be known of a number's text -/
structure NumT (x : Str) : Prop where
  len : x.length ≤ 5000
  sane : Sane (Txt.slice x none (some 40))
  num : (Txt.isascii (Txt.removeprefix x "-") && Txt.isdigit (Txt.removeprefix x "-")) = true → (zless x).length ≤ 19 → (PySem.intText? (numT x)).isSome = true

section
variable {prog : Program} {w : World} {A : Around} {E : Value → Shared → Prop} {s : Shared} {mg mb : Str → Option Value} {a : Addr} {x : Str} {t tl : Tok} {Q : Value → Shared → Prop} {lo : Int} {outer : List Env}
set_option maxHeartbeats 1000000 in
theorem parse_number_spec (hA : OkA A 2) (X : Cx A outer s.heap) (W : Wd mg mb s.heap) (ha : mg (fdAt 5).name = some (.ref a)) (hx : NumT x) (hlo : lo.natAbs.log2 < 1920) (hrz : (rangeMsg lo).length ≤ sizeLine)
    (hk : ∀ n, parseN x lo = .ok n → ∀ t' h' tk, Ext s.heap h' → Q (.int n t') { s with heap := h', toks := tk }) (he : ∀ msg, parseN x lo = .error msg → Err E s outer msg) :
    wpAny (model prog w) A (call (.ref a) [.str x t, .int lo tl]) Q E s := by
  obtain ⟨of, pm, cd, dc, fn⟩ := fn_of W (i := 5) (by decide) ha
  obtain ⟨tm, em⟩ := W.const ("MAX_NUMBER", 1000000000000000000) (by decide)
  obtain ⟨a4, o4, pm4, cd4, dc4, e4, f4⟩ := W.fn 4 (by decide)
  dsimp only at em
  have hz : x.length ≤ sizeLine := Nat.le_trans hx.len (by decide)
  refine enterX (i := 5) (n := 1) (hb := s.heap) (u := []) (g := []) (binds := [("text", .str x t), ("lowest", .int lo tl)]) hA fn W.nolimit (Ext.refl _) (Nat.le_refl _)
    (fun _ h => nomatch h) (fun _ h => nomatch h) (fun _ h => nomatch h) (by simp) rfl ?_
  intro L h₁ tk hL hx₁ S hA'
  conv in (fdAt 5).body => whnf
  refine wpAny_execs_cons (wpAny_Assign_Name (callM "str" "str.removeprefix" PySem.F.plainAttrs_str PySem.F.slot_str_removeprefix PySem.F.type_str_removeprefix (nmL S rfl ⟨typeIs_str _ _ _, (fun a e => nomatch e), wpAny_items_cons (wpAny_Constant_str (wpAny_items_nil (SC.removeprefix (fun t' k => stL S fun h₂ S₂ => ?_) hz)))⟩)))
  dsimp only
  have hdz : (Txt.removeprefix x "-").length ≤ sizeLine := Nat.le_trans (len_removeprefix x _) hz
  refine wpAny_execs_cons (wpAny_If (isTrue_not (isTrue_and (isTrue_plain (callM0 "str" "str.isascii" PySem.F.plainAttrs_str PySem.F.slot_str_isascii PySem.F.type_str_isascii (nmL S₂ rfl ⟨typeIs_str _ _ _, (fun a e => nomatch e), SC.isascii (wpAny_truthy_bool ?_)⟩))))))
  have junk : ∀ tk₂, (Txt.isascii (Txt.removeprefix x "-") && Txt.isdigit (Txt.removeprefix x "-")) = false → wpAny (model prog w) (A.deeper (eX (fdAt 5).name (fdAt 5).scope L a cd [])) (execs (match (fdAt 5).body with | _ :: .If _ b _ _ :: _ => b | _ => []) (eX (fdAt 5).name (fdAt 5).scope L a cd []))
      (fun (f : Flow) (s₂ : Shared) => False) (LE (model prog w) (A.deeper (eX (fdAt 5).name (fdAt 5).scope L a cd [])) (eX (fdAt 5).name (fdAt 5).scope L a cd []) E) { s with heap := h₂, toks := tk₂ } := by
    intro tk₂ hb
    have hc : parseN x lo = .error (junkMsg x) := by unfold parseN; rw [if_pos hb]
    have he' := he _ hc
    unfold junkMsg at he'
    have z0 := ascT_len hx.sane
    show wpAny _ _ (execs [_] _) _ _ _
    refine wpAny_execs_cons (raiseP (s₀ := s) hA.hd X hL S₂ W ?_)
    refine JoinedStr_many (jpC (by decide) fun tk₃ => jpA' hx.sane (fun Q' hq => cutS (t := t) S₂ rfl hz fun t tk h' hx' => hq t tk h' hx') (by decide) fun tk₄ h' hx' => ?_)
    refine joinParts_nilE ?_
    dsimp only
    generalize hX : Str.empty ++ Str.ofString "not a whole number: " ++ ascT (Txt.slice x none (some 40)) = X' at he'
    have z2 : X'.length ≤ sizeLine := by
      have e1 : (Str.empty ++ Str.ofString "not a whole number: ").length = 20 := by decide
      have e2 : sizeLine = 16777216 := by decide
      rw [← hX, len_app, e1]; omega
    refine jpN z2 ?_
    intro t₇ tk₇
    exact ⟨_, _, _, _, rfl, rfl, hx', he'⟩
  cases h1 : Txt.isascii (Txt.removeprefix x "-") with
  | false => exact wpAny_mono (junk _ (by rw [h1]; rfl)) (fun _ _ h => h.elim) fun _ _ h => h
  | true =>
  refine isTrue_and (isTrue_plain (callM0 "str" "str.isdigit" PySem.F.plainAttrs_str PySem.F.slot_str_isdigit PySem.F.type_str_isdigit (nmL S₂ rfl ⟨typeIs_str _ _ _, (fun a e => nomatch e), SC.isdigit (wpAny_truthy_bool ?_)⟩)))
  cases h2 : Txt.isdigit (Txt.removeprefix x "-") with
  | false => exact wpAny_mono (junk _ (by rw [h1, h2]; rfl)) (fun _ _ h => h.elim) fun _ _ h => h
  | true =>
  refine isTrue_and_nil (wpAny_execs_nil ?_)
  dsimp only
  have hb : (Txt.isascii (Txt.removeprefix x "-") && Txt.isdigit (Txt.removeprefix x "-")) = true := by rw [h1, h2]; rfl
  have hzl : (zless x).length ≤ 5000 := Nat.le_trans (len_lstripChars _ _) (Nat.le_trans (len_removeprefix x _) hx.len)
  have e19 : (Str.ofString (toString (1000000000000000000 : Int))).length = 19 := by decide +kernel
  refine wpAny_execs_cons (wpAny_If (wpAny_isTrue_Compare1 (callB "len" (nmB S₂ W (W.free _ (by decide)) rfl ⟨rfl, wpAny_items_cons (callM "str" "str.lstrip" PySem.F.plainAttrs_str PySem.F.slot_str_lstrip PySem.F.type_str_lstrip (nmL S₂ rfl ⟨typeIs_str _ _ _, (fun a e => nomatch e), wpAny_items_cons (wpAny_Constant_str (wpAny_items_nil (SC.lstripChars (fun t' k => wpAny_items_nil (PySem.P.len_str (show ¬ ((zless x).length : Int) ≥ 2 ^ 63 by omega) ?_)) hdz)))⟩))⟩))))
  dsimp only
  refine callB "len" (nmB S₂ W (W.free _ (by decide)) rfl ⟨rfl, wpAny_items_cons (callT "str" (nmB S₂ W (W.free _ (by decide)) rfl ⟨rfl, wpAny_items_cons (nmG S₂ W em (wpAny_items_nil (PySem.P.str_of_int log_max ?_)))⟩))⟩)
  refine wpAny_items_nil (PySem.P.len_str (by rw [e19]; decide) ?_)
  dsimp only
  rw [e19]
  refine PyProof.Rows.gt_int (wpAny_truthy_bool ?_)
  have ezl : Txt.lstripChars (Txt.removeprefix x (Str.ofString "-")) (Str.ofString "0") = zless x := rfl
  rw [ezl]
  by_cases h3 : 19 < (zless x).length
  · rw [decide_eq_true (show ((19 : Nat) : Int) < ((zless x).length : Int) by omega)]
    have hc : parseN x lo = .error (rangeMsg lo) := by unfold parseN; rw [if_neg (by rw [hb]; decide), if_pos h3]
    exact wpAny_execs_cons (raiseP (s₀ := s) hA.hd X hL S₂ W (sayR S₂ W em rfl hlo hrz (he _ hc)))
  rw [decide_eq_false (show ¬ ((19 : Nat) : Int) < ((zless x).length : Int) by omega)]
  refine wpAny_execs_nil ?_
  dsimp only
  obtain ⟨n, hn⟩ := Option.isSome_iff_exists.mp (hx.num hb (by omega))
  have hp : parseN x lo = chk (.int (if Txt.startswith x "-" then -n else n)) lo := by unfold parseN; rw [if_neg (by rw [hb]; decide), if_neg h3, hn]; rfl
  have hnl : (numT x).length ≤ 640 := by
    unfold numT; split
    · decide
    · omega
  have fin : ∀ (m₄ : Str → Option Value) (h₄ : Heap) (tk₄ : Nat) (tn : Tok), St s.heap L [] m₄ [] [] h₄ → m₄ "text" = some (.str x t) → m₄ "lowest" = some (.int lo tl) → m₄ "value" = some (.int n tn) →
      wpAny (model prog w) (A.deeper (eX (fdAt 5).name (fdAt 5).scope L a cd [])) (execs ((fdAt 5).body.drop 4) (eX (fdAt 5).name (fdAt 5).scope L a cd []))
        (fun fl s' => Q (match fl with | .ret v => v | _ => .none) s') (LE (model prog w) (A.deeper (eX (fdAt 5).name (fdAt 5).scope L a cd [])) (eX (fdAt 5).name (fdAt 5).scope L a cd []) E) { s with heap := h₄, toks := tk₄ } := by
    intro m₄ h₄ tk₄ tn S₄ q1 q2 q3
    conv in (List.drop 4 (fdAt 5).body) => whnf
    have last : ∀ (v : Int) (tv : Tok) (tk₅ : Nat), parseN x lo = chk (.int v) lo → wpAny (model prog w) (A.deeper (eX (fdAt 5).name (fdAt 5).scope L a cd [])) (call (.ref a4) [.int v tv, .int lo tl])
        (fun v s' => Q v s') (LE (model prog w) (A.deeper (eX (fdAt 5).name (fdAt 5).scope L a cd [])) (eX (fdAt 5).name (fdAt 5).scope L a cd []) E) { s with heap := h₄, toks := tk₅ } := by
      intro v tv tk₅ hv
      refine check_number_spec (s := { s with heap := h₄, toks := tk₅ }) hA' ((X.ext S₄.fr.keep).push S₄) (W.keeps S₄.fr.keep) e4 (.int _ _) trivial hlo hrz (fun k hk' h' tk' hx' => ?_) fun msg hm => passP X hL S₄ (he _ (hv.trans hm))
      have e : k = v := by
        simp only [chk] at hk'
        split at hk'
        · exact (Except.ok.inj hk').symm
        · cases hk'
      subst e
      exact hk _ (hv.trans hk') _ _ _ (Ext.trans S₄.fr.keep hx')
    refine wpAny_execs_cons (wpAny_Return_some (callU (o := o4) (fd := docF 4 pm4 cd4 dc4) (nmG S₄ W e4 ⟨rfl, wpAny_items_cons (wpAny_IfExp (isTrue_plain (callM "str" "str.startswith" PySem.F.plainAttrs_str PySem.F.slot_str_startswith PySem.F.type_str_startswith (nmL S₄ q1 ⟨typeIs_str _ _ _, (fun a e => nomatch e), wpAny_items_cons (wpAny_Constant_str (wpAny_items_nil (SC.startswith (wpAny_truthy_bool ?_))))⟩))))⟩)))
    cases hs : Txt.startswith x "-" with
    | true =>
      rw [hs] at hp
      refine wpAny_UnaryOp (nmL S₄ q3 (neg_int (wpAny_items_cons (nmL S₄ q2 (wpAny_items_nil ⟨⟨S₄.fr.keep _ _ f4.at_, f4.d⟩, ?_⟩)))))
      exact last _ _ _ hp
    | false =>
      rw [hs] at hp
      refine nmL S₄ q3 (wpAny_items_cons (nmL S₄ q2 (wpAny_items_nil ⟨⟨S₄.fr.keep _ _ f4.at_, f4.d⟩, ?_⟩)))
      exact last _ _ _ hp
  refine wpAny_execs_cons (wpAny_Assign_Name (callT "int" (nmB S₂ W (W.free _ (by decide)) rfl ⟨rfl, wpAny_items_cons (BoolOp_or (callM "str" "str.lstrip" PySem.F.plainAttrs_str PySem.F.slot_str_lstrip PySem.F.type_str_lstrip (nmL S₂ rfl ⟨typeIs_str _ _ _, (fun a e => nomatch e), wpAny_items_cons (wpAny_Constant_str (wpAny_items_nil (SC.lstripChars (fun t' k => PySem.P.truthy_str (show ¬ ((zless x).length : Int) ≥ 2 ^ 63 by omega) ?_) hdz)))⟩)))⟩)))
  dsimp only
  by_cases h4 : (zless x).length = 0
  · rw [ezl, show (((zless x).length : Int) != 0) = false by rw [h4]; rfl]
    have hn0 : PySem.intText? (("0" : Str)) = some n := by rw [← hn]; unfold numT; rw [if_pos h4]
    refine BoolOp_one (wpAny_Constant_str (wpAny_items_nil (KIN.call_text hn0 (by decide) (stL S₂ fun h₅ S₅ => ?_))))
    dsimp only
    exact fin _ _ _ _ S₅ rfl rfl rfl
  · rw [ezl, show (((zless x).length : Int) != 0) = true by simp; omega]
    have hn1 : PySem.intText? (zless x) = some n := by rw [← hn]; unfold numT; rw [if_neg h4]
    refine wpAny_items_nil (KIN.call_text hn1 (by omega) (stL S₂ fun h₅ S₅ => ?_))
    dsimp only
    exact fin _ _ _ _ S₅ rfl rfl rfl
end
end Mine
end
section
open PySem PyProof.Rows PySem.Calls PySem.W
namespace Mine
section
variable {prog : Program} {w : World} {A : Around} {E : Value → Shared → Prop} {s₀ : Shared} {h h₀ : Heap} {tk : Nat} {L a : Addr} {gi : Lg} {m mg mb : Str → Option Value} {u g : Lg} {cn : Str} {cs : Scope} {cd : Value} {cl : List (Str × Addr)} {outer : List Env} {msg : Str}
/-- what stood at the def's entry stands, and its frame is new -/
structure Gr (G : Heap) (L : Addr) (h : Heap) : Prop where
  keep : Ext G h
  new : G.get? L = none
theorem Gr.ext {G h h' : Heap} {L : Addr} (x : Gr G L h) (k : Ext h h') : Gr G L h' := ⟨x.keep.trans k, x.new⟩
theorem raiseG {Q : Flow → Shared → Prop} {np cpos pos : Pos} {e₀ : Expr} (hh : A.handled = none) (X : Cx A outer s₀.heap) (R : Gr s₀.heap L h) (S : St h₀ L gi m u g h) (W : Wd mg mb h₀)
    (hm : wpAny (model prog w) (A.deeper (eX cn cs L a cd cl)) (eval e₀ (eX cn cs L a cd cl)) (Say E s₀ outer h) (LE (model prog w) (A.deeper (eX cn cs L a cd cl)) (eX cn cs L a cd cl) E) { s₀ with heap := h, toks := tk })
    (he : starEach [e₀] (eX cn cs L a cd cl) = (false, eval e₀ (eX cn cs L a cd cl)) :: starEach [] (eX cn cs L a cd cl) := by rfl)
    (hk : cs.kind = .function := by rfl) (hx : (eX cn cs L a cd cl).kindOf "ValueError" = some .globalImplicit := by rfl) :
    wpAny (model prog w) (A.deeper (eX cn cs L a cd cl)) (exec (.Raise (some (.Call (.Name "ValueError" np) [e₀] [] cpos)) none pos) (eX cn cs L a cd cl)) Q (LE (model prog w) (A.deeper (eX cn cs L a cd cl)) (eX cn cs L a cd cl) E) { s₀ with heap := h, toks := tk } := by
  refine raiseV (G := s₀.heap) (outer := outer) hh X.fr S W (wpAny_mono hm (fun v s₁ h₁ => ?_) fun _ _ x => x) he hk hx
  obtain ⟨msg, tok, tk₁, h₂, rfl, rfl, hx₂, k⟩ := h₁
  have R₂ := R.ext hx₂
  exact ⟨msg, tok, tk₁, h₂, rfl, rfl, S.ext hx₂, X.ok.ext R₂.keep, R₂.keep, R₂.new, fun e h' tk' fl => k e h' tk' fl⟩
theorem passG (X : Cx A outer s₀.heap) (R : Gr s₀.heap L h) (k : Err E s₀ outer msg) :
    Err (LE (model prog w) (A.deeper (eX cn cs L a cd cl)) (eX cn cs L a cd cl) E) { s₀ with heap := h, toks := tk } (eX cn cs L a cd cl :: outer) msg :=
  fun e h' tk' fl => leave_fly (s := { s₀ with heap := h', toks := tk' }) (Around.frames_deeper X.fr) rfl fl R.keep R.new fun h'' fl' => k e h'' _ fl'
/-- an exception that comes out of a loop's turn -/
def EL (E : Value → Shared → Prop) (s₀ : Shared) (env : Env) (outer : List Env) (L : Addr) (x : Value) (s' : Shared) : Prop :=
  ∃ e msg h h' tk, x = .ref e ∧ s' = { s₀ with heap := h', toks := tk } ∧ Fly (env :: outer) h h' e msg ∧ Gr s₀.heap L h ∧ Err E s₀ outer msg
theorem loopE (X : Cx A outer s₀.heap) : ∀ x s', EL E s₀ (eX cn cs L a cd cl) outer L x s' →
    notedBy (model prog w) (A.deeper (eX cn cs L a cd cl)) (eX cn cs L a cd cl) (fun x s'' => cameBackBy (model prog w) (A.deeper (eX cn cs L a cd cl)) (eX cn cs L a cd cl) (LE (model prog w) (A.deeper (eX cn cs L a cd cl)) (eX cn cs L a cd cl) E) x s'') x s' := by
  rintro x s' ⟨e, msg, h, h', tk, rfl, rfl, fl, R, k⟩
  refine noted_fly (s := { s₀ with heap := h', toks := tk }) (Around.frames_deeper X.fr) rfl fl fun h₁ hd => ?_
  refine back_held (s := { s₀ with heap := h₁, toks := tk }) rfl hd fun h₂ hd₂ => ?_
  exact leave_held (s := { s₀ with heap := h₂, toks := tk }) rfl hd₂ R.keep R.new fun h₃ fl₃ => k e h₃ tk fl₃
theorem toEL {env : Env} (R : Gr s₀.heap L h) (k : Err E s₀ outer msg) : Err (EL E s₀ env outer L) { s₀ with heap := h, toks := tk } (env :: outer) msg :=
  fun e h' tk' fl => ⟨e, msg, h, h', tk', rfl, rfl, fl, R, k⟩
end

section
variable {prog : Program} {w : World} {A : Around} {E : Value → Shared → Prop} {s : Shared} {mg mb : Str → Option Value} {a : Addr} {x : Str} {t : Tok} {Q : Value → Shared → Prop} {outer : List Env}
theorem parse_signed_spec (hA : OkA A 3) (X : Cx A outer s.heap) (W : Wd mg mb s.heap) (ha : mg (fdAt 7).name = some (.ref a)) (hx : NumT x)
    (hk : ∀ n, parseN x (-1000000000000000000) = .ok n → ∀ t' h' tk, Ext s.heap h' → Q (.int n t') { s with heap := h', toks := tk }) (he : ∀ msg, parseN x (-1000000000000000000) = .error msg → Err E s outer msg) :
    wpAny (model prog w) A (call (.ref a) [.str x t]) Q E s := by
  obtain ⟨of, pm, cd, dc, fn⟩ := fn_of W (i := 7) (by decide) ha
  obtain ⟨tm, em⟩ := W.const ("MAX_NUMBER", 1000000000000000000) (by decide)
  obtain ⟨a5, o5, pm5, cd5, dc5, e5, f5⟩ := W.fn 5 (by decide)
  dsimp only at em
  refine enterX (i := 7) (n := 2) (hb := s.heap) (u := []) (g := []) (binds := [("text", .str x t)]) hA fn W.nolimit (Ext.refl _) (Nat.le_refl _)
    (fun _ h => nomatch h) (fun _ h => nomatch h) (fun _ h => nomatch h) (by simp) rfl ?_
  intro L h₁ tk hL hx₁ S hA'
  conv in (fdAt 7).body => whnf
  refine wpAny_execs_cons (wpAny_Return_some (callU (o := o5) (fd := docF 5 pm5 cd5 dc5) (nmG S W e5 ⟨rfl, wpAny_items_cons (nmL S rfl (wpAny_items_cons (wpAny_UnaryOp (nmG S W em (neg_int (wpAny_items_nil ⟨⟨S.fr.keep _ _ f5.at_, f5.d⟩, ?_⟩))))))⟩)))
  dsimp only
  refine parse_number_spec (s := { s with heap := h₁, toks := _ }) hA' ((X.ext S.fr.keep).push S) (W.keeps S.fr.keep) e5 hx (by decide +kernel) (by decide +kernel) (fun n hn t' h' tk' hx' => hk n hn t' h' tk' (Ext.trans S.fr.keep hx')) fun msg hm => passP X hL S (he _ hm)
end
end Mine
end
section
open PySem PyProof.Rows PySem.Calls PySem.W
namespace Mine
section
variable {prog : Program} {w : World} {A : Around} {E : Value → Shared → Prop} {s : Shared} {mg mb : Str → Option Value} {a d : Addr} {o : Obj} {nv cv : Value} {nd : Dt} {Q : Value → Shared → Prop} {outer : List Env} {kvs : List (Str × Value)}
set_option maxHeartbeats 1000000 in
theorem lay_in_spec (hA : OkA A 2) (X : Cx A outer s.heap) (W : Wd mg mb (s.heap.hide d)) (ha : mg (fdAt 9).name = some (.ref a)) (hd : s.heap.get? d = some o) (Ho : o.IsDictOf (strKind prog w) kvs) (lo : (d == sysModules) = false) (hsz : kvs.length ≤ 1000)
    (D : DL [] nv nd) (hn : NameD nd)
    (hk : ∀ x, nd = .str x → nameOk nd = true → valueAt kvs x = none → ∀ o' h' tk, Turned s.heap h' d o' → o'.IsDictOf (strKind prog w) (stored kvs x cv) → Q .none { s with heap := h', toks := tk })
    (he : (nameOk nd = false ∨ ∃ x, nd = .str x ∧ (valueAt kvs x).isSome = true) → ∀ msg : Str, msg.length ≤ 2000000 → Err E s outer msg) :
    wpAny (model prog w) A (call (.ref a) [.ref d, nv, cv]) Q E s := by
  obtain ⟨of, pm, cd, dc, fn⟩ := fn_of W (i := 9) (by decide) ha
  obtain ⟨a3, o3, pm3, cd3, dc3, e3, f3⟩ := W.fn 3 (by decide)
  refine enterX (i := 9) (n := 1) (hb := s.heap.hide d) (u := [(d, o)]) (g := []) (binds := [("stock", .ref d), ("name", nv), ("count", cv)]) hA (fn.up (ext_hide _ _)) (W.nolimit.keeps (ext_hide _ _)) (ext_hide _ _) (Nat.le_of_eq (Heap.hide_size _ _))
    (fun p hp => by rw [List.mem_singleton.mp hp]; exact ⟨hd, Heap.hide_self _ _⟩) (fun _ h => nomatch h) (fun _ h => nomatch h) (by simp) rfl ?_
  intro L h₁ tk hL hx₁ S hA'
  have R : Gr s.heap L h₁ := ⟨hx₁, hL⟩
  conv in (fdAt 9).body => whnf
  refine wpAny_execs_cons (wpAny_If (wpAny_isTrue_Compare1 (callU (o := o3) (fd := docF 3 pm3 cd3 dc3) (nmG S W e3 ⟨rfl, wpAny_items_cons (nmL S rfl (wpAny_items_nil ⟨⟨S.fr.keep _ _ f3.at_, f3.d⟩, ?_⟩))⟩))))
  refine check_name_spec (s := { s with heap := h₁, toks := _ }) hA' ((X.ext hx₁).push S) (W.keeps S.fr.keep) e3 D hn (fun hok h₂ tk₂ hx₂ => ?_) fun hno msg hm => passG X R (he (.inl hno) msg hm)
  have S₂ := S.ext hx₂
  have R₂ := R.ext hx₂
  dsimp only
  cases D with
  | str x tx =>
    refine nmL S₂ rfl (dIn S₂ (.head _) Ho lo (wpAny_truthy_bool ?_))
    dsimp only
    cases hv : valueAt kvs x with
    | none =>
      refine wpAny_execs_nil ?_
      dsimp only
      refine wpAny_execs_cons (wpAny_Assign_Subscript (nmL S₂ rfl (nmL S₂ rfl (nmL S₂ rfl (dSet (U := fun o' => [(d, o')]) S₂ (fun o' => .head) Ho (Nat.le_trans hsz (by decide)) fun h₄ o₄ S₄ Ho₄ => ?_)))))
      exact wpAny_execs_nil (hk x rfl hok hv _ _ _ (turned_of S₄) Ho₄)
    | some y =>
      have hx : Sane x := hn
      have z1 := ascT_len hx
      refine wpAny_execs_cons (raiseG (s₀ := s) hA.hd X R₂ S₂ W ?_)
      have e0 : (Str.empty ++ Str.ofString "the name ").length = 9 := by decide
      have z2 : (Str.empty ++ Str.ofString "the name " ++ ascT x ++ Str.ofString " comes twice").length ≤ 2000000 := by
        have e1 : (Str.ofString " comes twice").length = 12 := by decide
        rw [len_app, len_app, e0, e1]; omega
      refine JoinedStr_many (jpC (by decide) fun tk₃ => jpA hx (fun Q' hq => nmL S₂ rfl (hq _ _)) (by rw [e0]; decide) fun tk₄ => joinParts_consE (jpC (Nat.le_trans z2 (by decide)) fun tk₅ => ?_))
      refine joinParts_nilE ?_
      dsimp only
      generalize hX : Str.empty ++ Str.ofString "the name " ++ ascT x ++ Str.ofString " comes twice" = X' at z2
      refine jpN (Nat.le_trans z2 (by decide)) ?_
      intro t₇ tk₇
      exact ⟨_, _, _, _, rfl, rfl, Ext.refl _, he (.inr ⟨x, rfl, by rw [hv]; rfl⟩) _ z2⟩
  | _ => exact absurd hok (by simp [nameOk])

/-- a stock's pairs -/
def pairQ (p : Dt × Dt) : Dt := .tuple [p.1, p.2]
def okPair (p : Dt × Dt) : Bool := nameOk p.1 && (match chk p.2 1 with | .ok _ => true | .error _ => false)
def keyD : Dt → Str
  | .str x => x
  | _ => ""
def numD : Dt → Int
  | .int n => n
  | _ => 0
inductive KQ : List (Str × Value) → List (Dt × Dt) → Prop
  | nil : KQ [] []
  | cons {x : Str} {n : Int} {t : Tok} {kvs : List (Str × Value)} {ps : List (Dt × Dt)} : KQ kvs ps → KQ ((x, .int n t) :: kvs) ((.str x, .int n) :: ps)
theorem KQ.snoc {kvs : List (Str × Value)} {ps : List (Dt × Dt)} {x : Str} {n : Int} {t : Tok} (h : KQ kvs ps) : KQ (kvs ++ [(x, .int n t)]) (ps ++ [(.str x, .int n)]) := by
  induction h with
  | nil => exact .cons .nil
  | cons _ ih => exact .cons ih
theorem KQ.length {kvs : List (Str × Value)} {ps : List (Dt × Dt)} (h : KQ kvs ps) : kvs.length = ps.length := by induction h <;> simp_all
theorem KQ.has {kvs : List (Str × Value)} {ps : List (Dt × Dt)} (h : KQ kvs ps) (x : Str) : (valueAt kvs x).isSome = true ↔ x ∈ ps.map fun p => keyD p.1 := by
  induction h with
  | nil => simp [valueAt]
  | @cons y n t kvs ps _ ih =>
    by_cases e : y = x
    · subst e; simp [valueAt, keyD]
    · have e' : x ≠ y := fun q => e q.symm
      simp only [valueAt, List.find?_cons, e, decide_false, List.map_cons, List.mem_cons, keyD] at ih ⊢
      rw [ih]
      simp [e']
def okStock (ps : List (Dt × Dt)) : Prop := (∀ p ∈ ps, okPair p = true) ∧ (ps.map fun p => keyD p.1).Nodup
end
end Mine
end
section
open PySem PyProof.Rows PySem.Calls PySem.W
namespace Mine
theorem stored_new {kvs : List (Str × Value)} {k : Str} {v : Value} (h : valueAt kvs k = none) : stored kvs k v = kvs ++ [(k, v)] := by
  have : (kvs.any fun kv => decide (kv.1 = k)) = false := by
    rw [List.any_eq_false]
    intro kv hkv e
    have : (kvs.find? fun kv => decide (kv.1 = k)) = none := by simpa [valueAt] using h
    exact List.find?_eq_none.mp this kv hkv e
  simp [stored, this]
theorem DL.bare {g : Lg} {v : Value} {d : Dt} (D : DL g v d) (h : Scalar d) : DL [] v d := by
  cases D with
  | none => exact .none
  | bool b => exact .bool b
  | int i t => exact .int i t
  | str x t => exact .str x t
  | flt x t => exact .flt x t
  | list _ _ => exact h.elim
  | tuple _ _ _ _ => exact h.elim
theorem NameD.scalar {d : Dt} (h : NameD d) : Scalar d := by cases d <;> first | trivial | exact h.elim
theorem St.gr {h₀ h : Heap} {L : Addr} {gi : Lg} {m : Str → Option Value} {u g : Lg} (S : St h₀ L gi m u g h) (hL : h₀.get? L = none) : Gr h₀ L h := ⟨S.fr.keep, hL⟩
theorem ok_snoc {ps : List (Dt × Dt)} {p : Dt × Dt} (h : okStock ps) : okStock (ps ++ [p]) ↔ okPair p = true ∧ keyD p.1 ∉ ps.map (fun p => keyD p.1) := by
  unfold okStock at *
  constructor
  · rintro ⟨h1, h2⟩
    refine ⟨h1 p (by simp), fun hm => ?_⟩
    rw [List.map_append] at h2
    exact (List.nodup_append.mp h2).2.2 _ hm _ (.head _) rfl
  · rintro ⟨h1, h2⟩
    refine ⟨fun q hq => ?_, ?_⟩
    · rcases List.mem_append.mp hq with hq | hq
      · exact h.1 q hq
      · rw [List.mem_singleton.mp hq]; exact h1
    · rw [List.map_append]
      refine List.nodup_append.mpr ⟨h.2, by simp, fun a ha b hb e => ?_⟩
      rw [List.mem_singleton.mp hb] at e
      have e' : a = keyD p.1 := e
      exact h2 (e' ▸ ha)
theorem ok_take {ps : List (Dt × Dt)} (h : okStock ps) (i : Nat) : okStock (ps.take i) :=
  ⟨fun p hp => h.1 p (List.mem_of_mem_take hp), by rw [List.map_take]; exact h.2.sublist (List.take_sublist _ _)⟩

section
variable {prog : Program} {w : World} {A : Around} {E : Value → Shared → Prop} {s : Shared} {mg mb : Str → Option Value} {a : Addr} {g : Lg} {pv : Value} {Q : Value → Shared → Prop} {outer : List Env} {ps : List (Dt × Dt)}
set_option maxHeartbeats 1000000 in
theorem check_stock_spec (hA : OkA A 3) (X : Cx A outer s.heap) (W : Wd mg mb s.heap) (ha : mg (fdAt 8).name = some (.ref a)) (hg : ∀ p ∈ g, s.heap.get? p.1 = some p.2) (D : DL g pv (.list (ps.map pairQ))) (hlen : ps.length ≤ 100) (hsc : ∀ p ∈ ps, NameD p.1 ∧ Scalar p.2)
    (hk : okStock ps → ∀ d o kvs h' tk, Ext s.heap h' → s.heap.get? d = none → (d == sysModules) = false → h'.get? d = some o → o.IsDictOf (strKind prog w) kvs → KQ kvs ps → Q (.ref d) { s with heap := h', toks := tk })
    (he : ¬ okStock ps → ∀ msg : Str, msg.length ≤ 2000000 → Err E s outer msg) :
    wpAny (model prog w) A (call (.ref a) [pv]) Q E s := by
  obtain ⟨of, pm, cd, dc, fn⟩ := fn_of W (i := 8) (by decide) ha
  obtain ⟨a4, o4, pm4, cd4, dc4, e4, f4⟩ := W.fn 4 (by decide)
  obtain ⟨a8, o8, pm8, cd8, dc8, e8, f8⟩ := W.fn 9 (by decide)
  refine enterX (i := 8) (n := 2) (hb := s.heap) (u := []) (g := g) (binds := [("pairs", pv)]) hA fn W.nolimit (Ext.refl _) (Nat.le_refl _)
    (fun _ h => nomatch h) hg (fun _ _ _ h => nomatch h) (by simp) rfl ?_
  intro L h₁ tk hL hx₁ S hA'
  have hA1 := hA'.less (k := 1) (by omega)
  conv in (fdAt 8).body => whnf
  refine wpAny_execs_cons (wpAny_Assign_Name (wpAny_Dict_empty ?_))
  have S₁ := S.pushU { cls := .type "dict", data := .dict #[] }
  generalize hd : h₁.objs.size = d at S₁
  have hdn : s.heap.get? d = none := S.fresh (hd ▸ size_none h₁)
  have Hd : Obj.IsDictOf (strKind prog w) { cls := .type "dict", data := .dict #[] } [] := by
    obtain ⟨o', ho', r⟩ := Heap.dictOf_iff.mp (Heap.DictOf.new (knd := strKind prog w) h₁)
    rw [Heap.get?_push_size _ rfl] at ho'
    cases ho'; exact r
  have lo : (d == sysModules) = false := hd ▸ S.fr.notModules (modules_low W.nolimit)
  refine stL S₁ fun h₂ S₂ => ?_
  dsimp only
  refine wpAny_execs_cons (wpAny_For (nmL S₂ rfl (forX (EL E s _ outer L) (loopE X)
    (fun i m u g' => ∃ o kvs, u = [(d, o)] ∧ m "stock" = some (.ref d) ∧ o.IsDictOf (strKind prog w) kvs ∧ KQ kvs (ps.take i) ∧ okStock (ps.take i))
    hA'.hd S₂ D ⟨_, [], rfl, rfl, Hd, .nil, ⟨(fun _ h => nomatch h), .nil⟩⟩ (lets_tuple _ _ _) ?_ ?_)))
  · rintro i d' v m u g' h tk₁ I io hd' hv hsub ⟨o, kvs, rfl, m1, Ho, K, hok⟩ S₅
    have hi : i < ps.length := by have := (List.getElem?_eq_some_iff.mp hd').1; simpa using this
    have hop : d' = pairQ (ps[i]) := by rw [List.getElem?_map, List.getElem?_eq_getElem hi] at hd'; exact (Option.some.inj hd').symm
    have htk : ps.take (i + 1) = ps.take i ++ [ps[i]] := by rw [List.take_add_one, List.getElem?_eq_getElem hi]; rfl
    obtain ⟨hN, hS⟩ := hsc _ (List.getElem_mem hi)
    subst hop
    have hkz : kvs.length ≤ 1000 := by rw [K.length, List.length_take]; omega
    have bad : ¬ okStock (ps.take (i + 1)) → ∀ msg : Str, msg.length ≤ 2000000 → Err E s outer msg := fun hn => he fun h => hn (ok_take h _)
    obtain ⟨p, hp⟩ : ∃ p, ps[i] = p := ⟨_, rfl⟩
    rw [hp] at hN hS htk
    have hv' : DL g' v (.tuple [p.1, p.2]) := by have := hv.mono hsub; rw [hp] at this; exact this
    refine unT hA'.hd S₅ hv' rfl fun vs₆ h₆ D₆ S₆ => ?_
    cases D₆ with | cons d1 D₆ => cases D₆ with | cons d2 D₆ => cases D₆ with | nil =>
    refine assignInOrder_cons (wpAny_assign_Name (stL S₆ fun h₇ S₇ => assignInOrder_cons (wpAny_assign_Name (stL S₇ fun h₉ S₉ => assignInOrder_nil ?_))))
    dsimp only
    refine wpAny_execs_cons (wpAny_Expr (callU (o := o8) (fd := docF 9 pm8 cd8 dc8) (nmG S₉ W e8 ⟨rfl, wpAny_items_cons (nmL S₉ (upd_ne (by decide) (upd_ne (by decide) m1)) (wpAny_items_cons (nmL S₉ rfl (wpAny_items_cons (callU (o := o4) (fd := docF 4 pm4 cd4 dc4) (nmG S₉ W e4 ⟨rfl, wpAny_items_cons (nmL S₉ rfl (wpAny_items_cons (wpAny_Constant_int (wpAny_items_nil ⟨⟨S₉.fr.keep _ _ f4.at_, f4.d⟩, ?_⟩))))⟩))))))⟩)))
    dsimp only
    have R₉ := S₉.gr hL
    refine check_number_spec (s := { s with heap := h₉, toks := _ }) hA1 ((X.ext R₉.keep).push S₉) (W.keeps S₉.fr.keep) e4 (d2.bare hS) hS (by decide +kernel) (by decide +kernel) (fun n hn h₁₀ tk₁₀ hx₁₀ => ?_) fun msg hm => toEL R₉ (bad (fun hb => ?_) msg ?_)
    · have S₁₀ := S₉.ext hx₁₀
      have R₁₀ := S₁₀.gr hL
      dsimp only
      refine wpAny_items_nil ⟨⟨S₁₀.fr.keep _ _ f8.at_, f8.d⟩, ?_⟩
      refine lay_in_spec (s := { s with heap := h₁₀, toks := tk₁₀ }) hA' ((X.ext R₁₀.keep).push S₁₀) (S₁₀.hideW W (.tail _ (.head _))) e8 (S₁₀.un _ (.tail _ (.head _))).1 Ho lo hkz (d1.bare hN.scalar) hN (fun x hx hok' hv0 o' h₁₁ tk₁₁ T Ho' => ?_) fun hb msg hm => toEL R₁₀ (bad (fun hs => ?_) msg hm)
      · have S₁₁ := S₁₀.turn (.tail .head) T
        have hpn : p.2 = .int n := by
          cases hq : p.2 <;> rw [hq] at hn <;> simp only [chk] at hn <;> first | cases hn | skip
          split at hn
          · rw [Except.ok.inj hn]
          · cases hn
        have hp1 : p = (.str x, .int n) := Prod.ext hx hpn
        rw [hpn] at d2
        cases d2
        rw [stored_new hv0] at Ho'
        refine wpAny_execs_nil (TurnEnd.next ⟨hsub, o', _, rfl, upd_ne (by decide) (upd_ne (by decide) m1), Ho', ?_, ?_⟩ S₁₁)
        · rw [htk, hp1]; exact K.snoc
        · rw [htk, ok_snoc hok, hp1]
          refine ⟨?_, fun hm => ?_⟩
          · simp only [okPair, Bool.and_eq_true]
            refine ⟨hx ▸ hok', ?_⟩
            rw [hpn] at hn
            rw [hn]
          · have := (K.has x).mpr hm
            rw [hv0] at this; cases this
      · rw [htk, ok_snoc hok] at hs
        rcases hb with hb | ⟨x, hx, hsm⟩
        · have := hs.1
          simp only [okPair, hb, Bool.false_and] at this
          cases this
        · refine hs.2 ?_
          rw [hx]
          exact (K.has x).mp hsm
    · rw [htk, ok_snoc hok] at hb
      have := hb.1
      simp only [okPair, hm, Bool.and_false] at this
      cases this
    · cases hq : p.2 <;> rw [hq] at hm <;> simp only [chk] at hm <;> first | (rw [← Except.error.inj hm]; decide) | skip
      split at hm
      · cases hm
      · rw [← Except.error.inj hm]; decide +kernel
  · rintro m u g' h tk₁ hsub ⟨o, kvs, rfl, m1, Ho, K, hok⟩ S₅
    rw [List.length_map, List.take_length] at K hok
    exact wpAny_execs_cons (wpAny_Return_some (nmL S₅ m1 (hk hok d o kvs _ _ S₅.fr.keep hdn lo (S₅.un _ (.head _)).1 Ho K)))
end
end Mine
end
section
open PySem PyProof.Rows PySem.Calls PySem.W
set_option maxRecDepth 100000
namespace Mine
theorem entry_unchain : entryFor table "proto.unchain" = some Builtin.«proto.unchain» := entryFor_of_tree (by kernel_rfl)
theorem plain_unchain : plainId "proto.unchain" = true := by decide +kernel
section
variable {prog : Program} {w : World} {A : Around} {E : Value → Shared → Prop} {s : Shared} {env : Env}
theorem unchain_none {e e₀ : Addr} {oe : Obj} {vs : Array Value} {Q : Value → Shared → Prop} (ho : s.heap.get? e₀ = some oe) (hd : oe.data = .fields vs) (h2 : vs[2]? = some .none) (h : Q .none s) :
    wpAny (model prog w) A (runValue (.builtin "proto.unchain" ⟨[.ref e, .ref e₀, .ref e₀, .bool false], []⟩)) Q E s := by
  refine wpAny_runValue (codeAny_builtin entry_unchain ?_)
  rw [Around.under_plainId plain_unchain _]
  show wpAny _ _ (do let context ← field (.ref e₀) 2; _) _ _ s
  refine wpAny_bind (wpAny_field ho hd h2 ?_)
  exact wpAny_pure h

set_option maxHeartbeats 4000000 in
/-- a fresh exception raised `from None` while another is handled -/
theorem raise_from {x c : Sem Value} {e₀ : Addr} {o₀ : Obj} {vs₀ : Array Value} {Q : Flow → Shared → Prop} (hh : A.handled = some (.ref e₀))
    (h : wpAny (model prog w) A x (fun v s₁ => ∃ e t, v = .ref e ∧ e ≠ e₀ ∧ s₁.heap.get? e = some { cls := .type "ValueError", data := .fields #[.ref t, .none, .none, .none, .bool false, .none] } ∧ s₁.heap.get? e₀ = some o₀ ∧ o₀.data = .fields vs₀ ∧ vs₀[2]? = some .none ∧
      ∀ h', Heap.SameBut e s₁.heap h' → h'.get? e = some { cls := .type "ValueError", data := .fields #[.ref t, .none, .ref e₀, .none, .bool true, .none] } → E (.ref e) { s₁ with heap := h' }) E s)
    (hc : ∀ (Q' : Value → Shared → Prop) (E' : Value → Shared → Prop) (s' : Shared), Q' .none s' → wpAny (model prog w) A c Q' E' s') : wpAny (model prog w) A (raiseStmt env (some x) (some c)) Q E s := by
  unfold raiseStmt
  refine wpAny_bind (wpAny_mono h (fun v s₁ h₁ => ?_) fun _ _ x => x)
  obtain ⟨e, t, rfl, hne, he, h0, h0d, h02, hE⟩ := h₁
  obtain ⟨hp, g, d, tk, os⟩ := s₁
  have hsub := PySem.F.excRaise_ValueError.isExc
  have hmeta := PySem.F.excRaise_ValueError.plainMeta
  have isT : ∀ (h : Heap) (o : Obj) (Qb : Bool → Shared → Prop) (E' : Value → Shared → Prop), h.get? e = some o → (∀ k, o.data ≠ .cls k) → Qb false ⟨h, g, d, tk, os⟩ → wpAny (model prog w) A (isType (.ref e)) Qb E' ⟨h, g, d, tk, os⟩ := by
    intro h o Qb E' ho hn hq
    unfold isType
    refine wpAny_bind (wpAny_loadPart_at ho ?_)
    obtain ⟨cc, dd, dat, sl⟩ := o
    cases dat <;> first | exact wpAny_pure hq | exact absurd rfl (hn _)
  refine wpAny_bind (wpAny_holding (hc _ _ _ (wpAny_bind (wpAny_pure ?_))))
  show wpAny _ _ (holding (some Value.none).toList (excFromValue (.ref e) "exceptions must derive from BaseException") >>= _) _ _ _
  refine wpAny_bind (wpAny_holding ?_)
  unfold excFromValue isExcClass
  refine wpAny_bind (wpAny_bind (isT _ _ _ _ he (fun k q => nomatch q) (wpAny_pure ?_)))
  show wpAny _ _ (isInstance (.ref e) (.type "BaseException") >>= _) _ _ _
  refine wpAny_bind (wpAny_isInstance (T := "ValueError") ⟨_, he, rfl⟩ hsub (wpAny_pure ?_))
  show wpAny _ _ (setField (.ref e) 3 .none >>= _) _ _ _
  refine wpAny_bind (wpAny_setField_rec he (by simp) fun h₁ he₁ hs₁ => ?_)
  show wpAny _ _ (setField (.ref e) 4 (.bool true) >>= _) _ _ ⟨h₁, g, d, tk, os⟩
  refine wpAny_bind (wpAny_setField_rec he₁ (by simp) fun h₂ he₂ hs₂ => ?_)
  show wpAny _ _ (isType (.ref e) >>= _) _ _ ⟨h₂, g, d, tk, os⟩
  refine wpAny_bind (isT _ _ _ _ he₂ (fun k q => nomatch q) ?_)
  show wpAny _ _ (raisedInstance (.ref e) >>= _) _ _ ⟨h₂, g, d, tk, os⟩
  refine wpAny_bind ?_
  unfold raisedInstance
  refine wpAny_bind (wpAny_typeOf (T := "ValueError") ⟨_, he₂, rfl⟩ ?_)
  refine wpAny_bind (wpAny_of_eq (a := Value.type ((Manifest.find? "ValueError").elim "type" fun x => x.metatype)) rfl ?_)
  rw [if_pos hmeta]
  refine wpAny_pure ?_
  show wpAny _ _ (setFlight (.ref e) none >>= _) _ _ ⟨h₂, g, d, tk, os⟩
  refine wpAny_bind ?_
  unfold setFlight
  refine wpAny_bind (wpAny_field he₂ rfl (x := .none) rfl ?_)
  rw [if_neg (by decide)]
  refine wpAny_pure ?_
  unfold raiseNew
  refine wpAny_bind (wpAny_handled ?_)
  rw [hh]
  have h0₂ : h₂.get? e₀ = some o₀ := (hs₂.2 e₀ (Ne.symm hne)).trans ((hs₁.2 e₀ (Ne.symm hne)).trans h0)
  show wpAny _ _ (if (Value.ref e₀ != Value.ref e) = true then _ else _) _ _ ⟨h₂, g, d, tk, os⟩
  rw [if_pos (by simp; exact Ne.symm hne)]
  refine wpAny_bind (wpAny_holding (unchain_none h0₂ h0d h02 ?_))
  refine wpAny_bind ?_
  unfold updateField
  refine wpAny_bind (wpAny_load he₂ ?_)
  show wpAny _ _ (if 2 < _ then _ else _) _ _ _
  rw [if_pos (by simp)]
  refine wpAny_update he₂ (wpAny_throw (hE _ ?_ ?_))
  · exact (hs₁.trans hs₂).trans (Heap.SameBut.update ..)
  · exact Heap.get?_update_self _ he₂ rfl
end
end Mine
end
section
open PySem PyProof.Rows PySem.Calls PySem.W
namespace Mine
section
variable {h₀ h' G : Heap} {L e : Addr} {gi : Lg} {m : Str → Option Value} {u g : Lg} {env : Env} {outer : List Env} {msg : Str} {c fl : Value}
theorem St.ne_base {h : Heap} {b : Addr} {o : Obj} (S : St h₀ L gi m u g h) (hb : h₀.get? b = some o) : b ≠ L := fun q => by
  have h1 := Heap.lt_size hb
  have h2 := S.fr.above
  rw [q] at h1
  exact absurd h1 (Nat.not_lt.mpr h2)
theorem hidden_none {h : Heap} {l : List Addr} {b : Addr} (hb : h.get? b = none) : (hideAll h l).get? b = none := by
  cases q : (hideAll h l).get? b with
  | none => rfl
  | some o => rw [of_hideAll _ q] at hb; cases hb
/-- the state behind an exception that came in -/
theorem St.caught (S : St h₀ L gi m u g G) (hf : env.frame = some L) (x : Trk c G (env :: outer) h' e msg fl) (hfo : ∀ b ∈ frs outer, h₀.get? b ≠ none) (hgi : ∀ p ∈ gi, p.1 ∉ frs outer) : St (hideAll h₀ (frs outer)) L gi m u g h' := by
  have hmem : ∀ b, b ∈ frs (env :: outer) ↔ b = L ∨ b ∈ frs outer := fun b => by simp [frs, hf]
  have hno : ∀ b, h₀.get? b = none → b ∉ frs outer := fun b hb hm => hfo b hm hb
  have keep : ∀ b o, G.get? b = some o → b ≠ L → b ∉ frs outer → h'.get? b = some o := fun b o hb h1 h2 => x.keep b o hb fun hm => ((hmem b).mp hm).elim h1 h2
  refine ⟨⟨x.up.ns S.fr.ns, fun b o hb => ?_, ?_⟩, fun p hp => ?_, fun p hp => ?_, S.sep, S.nd, fun p hp => ?_⟩
  · have hb0 := of_hideAll _ hb
    refine keep b o (S.fr.keep b o hb0) (S.ne_base hb0) fun hm => ?_
    rw [hideAll_none _ hm] at hb; cases hb
  · rw [hideAll_size]; exact S.fr.above
  · obtain ⟨h1, h2, h3⟩ := S.un p hp
    exact ⟨keep _ _ h1 h2 (hno _ h3), h2, hidden_none h3⟩
  · obtain ⟨h1, h2⟩ := S.led p hp
    refine ⟨keep _ _ h1 h2 ?_, h2⟩
    rcases S.prov p hp with q | q
    · exact hgi p q
    · exact hno _ q
  · exact (S.prov p hp).imp id hidden_none
end

section
variable {prog : Program} {w : World} {A : Around} {E : Value → Shared → Prop} {s : Shared} {h₀ G : Heap} {L a e : Addr} {gi : Lg} {m mg mb : Str → Option Value} {u g : Lg} {cn : Str} {cs : Scope} {cd : Value} {cl : List (Str × Addr)} {outer : List Env} {msg : Str} {c : Value}
theorem sub_VE : isSubtype (.type "ValueError") (.type "BaseException") = pure true := PySem.F.excRaise_ValueError.isExc
theorem sub_VV : isSubtype (.type "ValueError") (.type "ValueError") = pure true := by rw [isSubtype_type]; kernel_rfl
theorem meta_VE : isSubtype (.type ((Manifest.find? "ValueError").elim "type" fun x => x.metatype)) (.type "tuple") = pure false := by rw [isSubtype_type]; kernel_rfl
/-- the handler of a ValueError that this frame has noted -/
theorem catchV {Q : Flow → Shared → Prop} {n : Str} {b₀ : Stmt} {suite : List Stmt} {np hpos : Pos} {rest : List ExceptHandler} (S : St h₀ L gi m u g G) (W : Wd mg mb (hideAll h₀ (frs outer))) (hfo : ∀ b ∈ frs outer, h₀.get? b ≠ none) (hgi : ∀ p ∈ gi, p.1 ∉ frs outer)
    (x : HeldC c (eX cn cs L a cd cl :: outer) L G s.heap e msg)
    (k : ∀ h' tk vs t, St (hideAll h₀ (frs outer)) L gi (upd m n (.ref e)) u g h' → ExObj c h' e msg vs t → FrP outer h' → (∀ b ∈ frs outer, ∀ o, G.get? b = some o → (∀ vs, o.data ≠ .fields vs) → ∃ sl, h'.get? b = some { o with slots := sl }) → h'.Ns L (upd m n (.ref e)) → (∀ b o, G.get? b = some o → b ≠ L → b ∉ frs outer → h'.get? b = some o) → G.get? e = none → G.get? t = none →
      wpAny (model prog w) (A.mark (some (.ref e))) (execs (b₀ :: suite) (eX cn cs L a cd cl))
        (fun f s₄ => wpAny (model prog w) A (do bindName (eX cn cs L a cd cl) n .none; unbindBehindTheSuite (eX cn cs L a cd cl) n hpos) (fun _ s₅ => Q f s₅) E s₄)
        (AsSuiteRaised (model prog w) (A.mark (some (.ref e))) (eX cn cs L a cd cl) n hpos (notedBy (model prog w) (A.mark (some (.ref e))) (eX cn cs L a cd cl) (cameBackBy (model prog w) A (eX cn cs L a cd cl) E)))
        { s with heap := h', toks := tk })
    (hk : cs.kind = .function := by rfl) (hx : (eX cn cs L a cd cl).kindOf "ValueError" = some .globalImplicit := by rfl) (hn : (eX cn cs L a cd cl).kindOf n = some .local := by rfl) :
    wpAny (model prog w) A (setFlight (.ref e) none) (fun _ s₃ => wpAny (model prog w) A (handleBy (.ref e) (eX cn cs L a cd cl) (.ExceptHandler (some (.Name "ValueError" np)) (some n) (b₀ :: suite) hpos :: rest)) Q E s₃) E s := by
  refine markE none x fun h₁ x₁ => ?_
  have S₁ := S.caught rfl x₁ hfo hgi
  obtain ⟨vs, t, T, oT, ts, hE, h1, hTe, hT, hdT, h3, g1, g2, g3⟩ := x₁.ex
  obtain ⟨oe, tok, ho, hc, hd, hsz, h0, h2, htt⟩ := id hE
  refine wpAny_handleBy_builtin_as (X := "ValueError") (T := "ValueError") (b := true) sub_VE meta_VE sub_VV (nmB S₁ W (W.free _ (by decide)) rfl ⟨rfl, ⟨oe, ho, hc⟩, ?_⟩ (by decide) hk hx)
  refine markE (s := { s with heap := h₁ }) none x₁ fun h₂ x₂ => ?_
  have S₂ := S.caught rfl x₂ hfo hgi
  have hmem : ∀ b, b ∈ frs (eX cn cs L a cd cl :: outer) ↔ b = L ∨ b ∈ frs outer := fun b => by simp [frs]
  have hfL : ∀ b ∈ frs outer, b ≠ L := fun b hb => by
    cases q : h₀.get? b with
    | none => exact absurd q (hfo b hb)
    | some o => exact S.ne_base q
  refine wpAny_storeName_local hn S₂.fr.ns (fun h₃ hn₃ hs₃ => ?_) (by show (cs.kind == .class || (cs.kind == .module && L != mainGlobals)) = false; rw [hk]; rfl)
  have S₃ := S₂.store hn₃ hs₃
  obtain ⟨kp, up, fr, vs, t, T, oT, ts, hE, h1, hTe, hT, hdT, h3, g1, g2, g3⟩ := id x₂
  obtain ⟨oe, tok, ho, hc, hd, hsz, h0, h2, ot, nt, hot, hotc, hotd⟩ := hE
  obtain ⟨oL, es, ep, hoL, hdL, _⟩ := S₂.fr.ns
  have heL : e ≠ L := fun q => by rw [q, hoL] at ho; cases ho; rw [hdL] at hd; cases hd
  have htL : t ≠ L := fun q => by rw [q, hoL] at hot; cases hot; rw [hdL] at hotd; cases hotd
  refine k h₃ _ vs t S₃ ⟨oe, tok, (hs₃.2 e heL).trans ho, hc, hd, hsz, h0, h2, ot, nt, (hs₃.2 t htL).trans hot, hotc, hotd⟩ ?_ ?_ hn₃ (fun b o hb h1 h2 => (hs₃.2 b h1).trans (kp b o hb fun hm => ((hmem b).mp hm).elim h1 h2)) g1 g3
  · obtain ⟨base, P⟩ := fr.tail
    refine ⟨hideAll h₃ (frs outer), ?_⟩
    have key : ∀ (l : List Env), (∀ b ∈ frs l, b ≠ L) → h₂.FunFrames base l → ∀ B : Heap, (∀ b ∈ frs l, B.get? b = none) → h₃.FunFrames B l := by
      intro l
      induction l with
      | nil => intro _ _ _ _; trivial
      | cons env r ih =>
        intro hl P B hB
        obtain ⟨hk, ⟨L', o, hf, hn', ho', hd'⟩, hr⟩ := P
        have hm : L' ∈ frs (env :: r) := by simp [frs, hf]
        refine ⟨hk, ⟨L', o, hf, hB L' hm, (hs₃.2 L' (hl L' hm)).trans ho', hd'⟩, ih (fun b hb => hl b ?_) hr B fun b hb => hB b ?_⟩
        · simp only [frs, List.filterMap_cons, hf]; exact .tail _ hb
        · simp only [frs, List.filterMap_cons, hf]; exact .tail _ hb
    exact key outer hfL P _ fun b hb => hideAll_none _ hb
  · intro b hb o hbo hfd
    obtain ⟨sl, q⟩ := up b o hbo hfd
    exact ⟨sl, (hs₃.2 b (hfL b hb)).trans q⟩
end
end Mine
end
section
open PySem PyProof.Rows PySem.Calls PySem.W
open PySem.AutoSeq1 (wpAny_loadPart')
set_option maxRecDepth 100000
namespace Mine

set_option maxHeartbeats 1000000 in
theorem meets_enum_from (l : Addr) (items : Array Value) (n : Nat) (dct : Option Addr) (sl : Array (Option Value)) (t : Tok) :
    Meets (Builtin.«enumerate.__new__» ⟨[.type "enumerate", .ref l, .int 1 t], []⟩) (fun _ R s => s.heap.get? l = some { cls := .type "list", dict := dct, data := .seq items n, slots := sl } ∧
      R (.ok (.ret (.ref (s.heap.push { cls := .type "list_iterator", data := .fields #[.ref l, .int 0 0] }).objs.size)))
        { s with heap := (s.heap.push { cls := .type "list_iterator", data := .fields #[.ref l, .int 0 0] }).push { cls := .type "enumerate", data := .fields #[.none, .bool false, .ref s.heap.objs.size, rawInt 1, .none, .none] } }) :=
  .of_wp fun prog w A R s h => by
    obtain ⟨hp, g, d, tk, os⟩ := s; obtain ⟨hl, h⟩ := h
    have hsub := sub_enumerate
    have hL : Heap.IsList (Shared.heap ⟨hp, g, d, tk, os⟩) l items := ⟨_, hl, rfl, n, rfl⟩
    wp_walk using wpAny_loadPart' hl
    refine wpAny_stack_any fun st => wpAny_pure ?_
    split
    · rename_i c _ _ _ _ _
      cases (c == Value.type "enumerate")
      · wp_walk using wpAny_loadPart' hl, wpAny_pyIter_list hL
        exact ⟨_, rfl, h⟩
      · wp_walk using wpAny_loadPart' hl, wpAny_pyIter_list hL
        exact ⟨_, rfl, h⟩
    · wp_walk using wpAny_loadPart' hl, wpAny_pyIter_list hL
      exact ⟨_, rfl, h⟩


theorem typeCall_enum2 (a b : Value) : checkTypeCall "enumerate" ⟨[a, b], []⟩ = pure () := by kernel_rfl
theorem newCall_enum2 (a b : Value) : checkBuiltinCall "enumerate.__new__" ⟨[.type "enumerate", a, b], []⟩ = pure () := by kernel_rfl

section
variable {h₀ h h' : Heap} {L e it : Addr} {gi : Lg} {m : Str → Option Value} {u g : Lg} {eo io eo' io' : Obj}
theorem St.two (S : St h₀ L gi m ((e, eo) :: (it, io) :: u) g h) (hk : ∀ b o, b ≠ e → b ≠ it → h.get? b = some o → h'.get? b = some o) (he : h'.get? e = some eo') (hi : h'.get? it = some io') : St h₀ L gi m ((e, eo') :: (it, io') :: u) g h' := by
  have ue := S.un _ (.head _)
  have ui := S.un _ (.tail _ (.head _))
  have nd := S.nd
  rw [List.map_cons, List.map_cons, List.nodup_cons, List.nodup_cons] at nd
  have hne : ∀ p ∈ u, p.1 ≠ e ∧ p.1 ≠ it := fun p hp => ⟨fun q => nd.1 (.tail _ (List.mem_map.mpr ⟨p, hp, q⟩)), fun q => nd.2.1 (List.mem_map.mpr ⟨p, hp, q⟩)⟩
  refine ⟨⟨?_, fun b o q => hk b o (fun c => ?_) (fun c => ?_) (S.fr.keep b o q), S.fr.above⟩, fun p hp => ?_, fun p hp => ⟨hk _ _ (S.sep p hp _ (.head _)) (S.sep p hp _ (.tail _ (.head _))) (S.led p hp).1, (S.led p hp).2⟩, fun p hp q hq => ?_, S.nd, S.prov⟩
  · obtain ⟨o, es, ep, ho, r⟩ := S.fr.ns
    exact ⟨o, es, ep, hk _ _ (Ne.symm ue.2.1) (Ne.symm ui.2.1) ho, r⟩
  · have := ue.2.2; subst c; rw [this] at q; cases q
  · have := ui.2.2; subst c; rw [this] at q; cases q
  · rcases List.mem_cons.mp hp with rfl | hp
    · exact ⟨he, ue.2⟩
    rcases List.mem_cons.mp hp with rfl | hp
    · exact ⟨hi, ui.2⟩
    · have q := S.un p (.tail _ (.tail _ hp))
      exact ⟨hk _ _ (hne p hp).1 (hne p hp).2 q.1, q.2⟩
  · rcases List.mem_cons.mp hq with rfl | hq
    · exact S.sep p hp (e, eo) (.head _)
    rcases List.mem_cons.mp hq with rfl | hq
    · exact S.sep p hp (it, io) (.tail _ (.head _))
    · exact S.sep p hp q (.tail _ (.tail _ hq))
theorem St.addG {T : Addr} {o : Obj} (S : St h₀ L gi m u g h) (ho : h.get? T = some o) (hn : ∀ b o, (b = L ∨ b ∈ u.map (·.1)) → h.get? b = some o → b ≠ T) (h0 : h₀.get? T = none) : St h₀ L gi m u ((T, o) :: g) h := by
  obtain ⟨ol, _, _, hol, _⟩ := S.fr.ns
  refine ⟨S.fr, S.un, fun p hp => ?_, fun p hp q hq => ?_, S.nd, fun p hp => ?_⟩
  · rcases List.mem_cons.mp hp with rfl | hp
    · exact ⟨ho, Ne.symm (hn _ _ (.inl rfl) hol)⟩
    · exact S.led p hp
  · rcases List.mem_cons.mp hp with rfl | hp
    · exact Ne.symm (hn q.1 q.2 (.inr (List.mem_map.mpr ⟨q, hq, rfl⟩)) (S.un q hq).1)
    · exact S.sep p hp q hq
  · rcases List.mem_cons.mp hp with rfl | hp
    · exact .inr h0
    · exact S.prov p hp
end

section
variable {prog : Program} {w : World} {A : Around} {E : Value → Shared → Prop} {s : Shared} {h₀ : Heap} {L : Addr} {gi : Lg} {m : Str → Option Value} {u g : Lg} {env : Env} {body : List Stmt} {lv : Value} {ds : List Dt}

theorem draws1 {it l : Addr} {items : Array Value} (hh : A.handled = none) (hli : l ≠ it) :
    Draws prog w A it [it, l] (items.size + 1) (fun i x => items[i - 1]? = some x) (fun i h => 1 ≤ i ∧ h.IsListIter it l (i - 1) ∧ h.IsList l items) where
  live := fun i h hs => by obtain ⟨o, ho, _⟩ := hs.2.1; exact ⟨o, ho⟩
  frame := fun i h h' hs hk => by
    obtain ⟨h1, ⟨o, ho, r⟩, ⟨o', ho', r'⟩⟩ := hs
    exact ⟨h1, ⟨o, hk _ (by simp) _ ho, r⟩, ⟨o', hk _ (by simp) _ ho', r'⟩⟩
  item := fun i s Q E hi hs hQ => by
    obtain ⟨h1, h2, h3⟩ := hs
    have hlt : i - 1 < items.size := by omega
    refine wpAny_nextOf_list_item h2 h3 (Array.getElem?_eq_getElem hlt) fun h' hit hsb => hQ _ h' s.toks (Array.getElem?_eq_getElem hlt) ⟨by omega, ?_, ?_⟩ hsb
    · rw [show i + 1 - 1 = i - 1 + 1 by omega]; exact hit
    · obtain ⟨o', ho', r'⟩ := h3
      exact ⟨o', (hsb.2 _ hli).trans ho', r'⟩
  done := fun s Q E hs hE => by
    obtain ⟨h1, h2, h3⟩ := hs
    exact wpAny_nextOf_list_end hh h2 h3 (by simp) hE

/-- what a turn's end must show, in a loop over enumerate -/
def TurnEnd2 (h₀ : Heap) (L : Addr) (gi : Lg) (J : (Str → Option Value) → Lg → Lg → Prop) (e it : Addr) (eo io : Obj) (s : Shared) (Q : Flow → Shared → Prop) (f : Flow) (s₃ : Shared) : Prop := match f with
  | .next | .cont => ∃ m' u' g' h' tk', s₃ = { s with heap := h', toks := tk' } ∧ J m' u' g' ∧ St h₀ L gi m' ((e, eo) :: (it, io) :: u') g' h'
  | .brk => Q .next s₃
  | .ret v => Q (.ret v) s₃

theorem forE {Q : Flow → Shared → Prop} {e it : Addr} {eo io : Obj} {elts : List Expr} {x1 : Nat} {pt : Pos} (EL : Value → Shared → Prop) (hEL : ∀ e s', EL e s' → notedBy (model prog w) A env (fun x s'' => cameBackBy (model prog w) A env E x s'') e s') (J : Nat → (Str → Option Value) → Lg → Lg → Prop) (hh : A.handled = none)
    (S : St h₀ L gi m ((e, eo) :: (it, io) :: u) g s.heap) (D : DL g lv (.list ds)) (he : IsEnum s.heap e it 1 .none) (hit : ∀ l, lv = .ref l → s.heap.IsListIter it l 0) (h0 : J 0 m u g)
    (turn : ∀ (i : Nat) d v m' u' g' h tk eo io, ds[i]? = some d → DL g' v (.tuple [.int ((i : Int) + 1), d]) → (∀ p ∈ g, p ∈ g') → (∃ T o g₁, g' = (T, o) :: g₁ ∧ J i m' u' g₁) → St h₀ L gi m' ((e, eo) :: (it, io) :: u') g' h →
      wpAny (model prog w) A (assign (.Tuple elts x1 pt) env v) (fun _ s₂ => wpAny (model prog w) A (execs body env) (TurnEnd2 h₀ L gi (fun m u g'' => (∀ p ∈ g, p ∈ g'') ∧ J (i + 1) m u g'') e it eo io s Q) EL s₂) EL { s with heap := h, toks := tk })
    (done : ∀ m' u' g' h tk, (∀ p ∈ g, p ∈ g') → J ds.length m' u' g' → St h₀ L gi m' u' g' h → Q .next { s with heap := h, toks := tk }) :
    wpAny (model prog w) A (pyIter (.ref e)) (fun it s₂ => codeAny (model prog w) A (.forLoop (.Tuple elts x1 pt) it body [] env) (fun r s' => match r with | .ok f => Q f s' | .error e => cameBackBy (model prog w) A env E e s') s₂) E s := by
  refine wpAny_pyIter_enum he ?_
  cases D with
  | @list l n vs _ hl hD =>
    have hlen := hD.length
    have isl : ∀ {h' : Heap}, h'.get? l = some (lstO vs n) → h'.IsList l vs.toArray := fun e => ⟨_, e, rfl, _, rfl⟩
    have hle : l ≠ e := S.sep _ hl _ (.head _)
    have hli : l ≠ it := S.sep _ hl _ (.tail _ (.head _))
    have nd := S.nd
    rw [List.map_cons, List.map_cons, List.nodup_cons, List.nodup_cons] at nd
    have hei : e ≠ it := fun q => nd.1 (q ▸ .head _)
    refine codeAny_forLoop_any (fun k s' => ∃ i m' u' g' h tk eo io old, s' = { s with heap := h, toks := tk } ∧ i ≤ ds.length ∧ k = ds.length + 1 - i ∧ (∀ p ∈ g, p ∈ g') ∧ J i m' u' g' ∧ St h₀ L gi m' ((e, eo) :: (it, io) :: u') g' h ∧ h.IsListIter it l i ∧ IsEnum h e it ((i + 1 : Nat) : Int) old)
      ?_ (ds.length + 1) ⟨0, m, u, g, _, s.toks, eo, io, .none, rfl, Nat.zero_le _, rfl, fun _ hp => hp, h0, S, hit l rfl, he⟩
    rintro k s' ⟨i, m', u', g', h, tk, eo₁, io₁, old, rfl, hi, rfl, hsub, hJ, S', hit', he'⟩
    have DR := draws1 (prog := prog) (w := w) (A := A.in1) (it := it) (l := l) (items := vs.toArray) hh hli
    cases hx : vs[i]? with
    | none =>
      have hie : i = ds.length := by have := List.getElem?_eq_none_iff.mp hx; omega
      have hsz : vs.toArray.size = i := by simp; omega
      rw [hsz] at DR
      refine wpAny_pyNext_enum_endD DR he' ⟨by omega, by simpa using hit', isl (S'.led _ (hsub _ hl)).1⟩ fun h₁ hx₁ => wpAny_execs_nil ?_
      have S₁ := S'.drop
      refine done m' u' g' h₁ tk hsub (hie ▸ hJ) (S₁.extBut hx₁)
    | some v =>
      obtain ⟨d, hd, hDv⟩ := hD.getV hx
      have hlt : i < ds.length := (List.getElem?_eq_some_iff.mp hd).1
      refine wpAny_pyNext_enum_itemD DR he' ⟨by omega, by simpa using hit', isl (S'.led _ (hsub _ hl)).1⟩ (by simp; omega) hei (by simp [hei, Ne.symm hle]) fun x h₁ tk₁ hP ho₁ hst₁ ht₁ hz₁ hk₁ => ?_
      have hxv : x = v := by
        have := hP
        simp only [Nat.add_sub_cancel] at this
        rw [List.getElem?_toArray, hx] at this
        exact (Option.some.inj this).symm
      subst hxv
      refine wpAny_letOwnedTupleGo_enum ho₁ fun h₂ he₂ hs₂ => ?_
      replace hs₂ : Heap.SameBut e h₁ h₂ := hs₂
      have hltE : e < h.objs.size := Heap.lt_size he'
      have hk₂ : ∀ b o, b ≠ e → b ≠ it → h.get? b = some o → h₂.get? b = some o := fun b o hb hb' q => (hs₂.2 b hb).trans (hk₁ b o hb hb' q)
      have hT : h₂.get? h.objs.size = some (tupO [.int ((i + 1 : Nat) : Int) tk₁, x] 0) := (hs₂.2 _ (Nat.ne_of_gt hltE)).trans ht₁
      have hit₂ : h₂.IsListIter it l (i + 1) := by
        obtain ⟨o, ho, r⟩ := hst₁.2.1
        exact ⟨o, (hs₂.2 _ (Ne.symm hei)).trans ho, by simpa using r⟩
      obtain ⟨io₂, hio₂, hio₃⟩ := id hit₂
      have S₂ := S'.two hk₂ he₂ hio₂
      have S₃ := S₂.addG hT (fun b o hb hbo q => by
        rcases hb with rfl | hb
        · exact absurd q (Nat.ne_of_lt S'.fr.ns.lt)
        · obtain ⟨p, hp, rfl⟩ := List.mem_map.mp hb
          rcases List.mem_cons.mp hp with rfl | hp
          · exact absurd q (Nat.ne_of_lt hltE)
          rcases List.mem_cons.mp hp with rfl | hp
          · exact absurd q (Nat.ne_of_lt (Heap.lt_size (S'.un _ (.tail _ (.head _))).1))
          · exact absurd q (Nat.ne_of_lt (Heap.lt_size (S'.un _ (.tail _ (.tail _ hp))).1))) (S'.fresh (size_none h))
      have DT : DL ((h.objs.size, tupO [.int ((i + 1 : Nat) : Int) tk₁, x] 0) :: g') (.ref h.objs.size) (.tuple [.int ((i : Int) + 1), d]) :=
        .tuple (.head _) rfl rfl (.cons (.int _ _) (.cons (hDv.mono fun p hp => .tail _ (hsub p hp)) .nil))
      refine wpAny_mono (turn i d _ m' u' _ h₂ (tk₁ + 1) _ io₂ hd DT (fun p hp => .tail _ (hsub p hp)) ⟨_, _, _, rfl, hJ⟩ S₃) (fun _ s₂ q₂ => wpAny_mono q₂ (fun f s₃ h₃ => ?_) fun _ _ e => hEL _ _ e) fun _ _ e => hEL _ _ e
      cases f with
      | brk => exact h₃
      | ret v => exact h₃
      | next =>
        obtain ⟨m₂, u₂, g₂, h₂, tk₂, rfl, ⟨hs₂, hJ₂⟩, S₂⟩ := h₃
        exact ⟨ds.length + 1 - (i + 1), by omega, i + 1, m₂, u₂, g₂, h₂, tk₂, _, _, x, rfl, hlt, rfl, hs₂, hJ₂, S₂, ⟨io₂, (S₂.un _ (.tail _ (.head _))).1, hio₃⟩, (S₂.un _ (.head _)).1⟩
      | cont =>
        obtain ⟨m₂, u₂, g₂, h₂, tk₂, rfl, ⟨hs₂, hJ₂⟩, S₂⟩ := h₃
        exact ⟨ds.length + 1 - (i + 1), by omega, i + 1, m₂, u₂, g₂, h₂, tk₂, _, _, x, rfl, hlt, rfl, hs₂, hJ₂, S₂, ⟨io₂, (S₂.un _ (.tail _ (.head _))).1, hio₃⟩, (S₂.un _ (.head _)).1⟩

/-- enumerate(l, 1) -/
theorem enumL {Q : Value → Shared → Prop} {t : Tok} (S : St h₀ L gi m u g s.heap) (D : DL g lv (.list ds))
    (h : ∀ h' e it eo io, St h₀ L gi m ((e, eo) :: (it, io) :: u) g h' → IsEnum h' e it 1 .none → (∀ l, lv = .ref l → h'.IsListIter it l 0) → Q (.ref e) { s with heap := h' }) :
    wpAny (model prog w) A (call (.type "enumerate") [lv, .int 1 t]) Q E s := by
  cases D with
  | @list l n vs _ hl hD =>
    refine callType_new PySem.F.called_enumerate (by decide) (typeCall_enum2 _ _) (newCall_enum2 _ _) (fun obj => PySem.F.args_object_init_3 obj _ _) PySem.F.entry_enumerate_new
      (meets_enum_from l vs.toArray n none #[] t) ⟨(S.led _ hl).1, ?_⟩
    have S₁ := (S.pushU { cls := .type "list_iterator", data := .fields #[.ref l, .int 0 0] }).pushU { cls := .type "enumerate", data := .fields #[.none, .bool false, .ref s.heap.objs.size, rawInt 1, .none, .none] }
    exact ⟨⟨_, (S₁.un _ (.head _)).1, rfl⟩, h _ _ _ _ _ S₁ (S₁.un _ (.head _)).1 fun l' q => by cases q; exact ⟨_, (S₁.un _ (.tail _ (.head _))).1, rfl, rfl⟩⟩
end
end Mine
end
section
open PySem PyProof.Rows PySem.Calls PySem.W
set_option maxRecDepth 100000
namespace Mine
theorem slot_VE_format : Slot "ValueError" "__format__" "object.__format__" :=
  .of (owner := "object") (n := "__format__") (by rw [typeLookup_type, builtinLookup_eq_fast]; kernel_rfl) (by decide +kernel) (by decide +kernel) (by decide +kernel)
    (by first | exact .inl (by decide +kernel) | exact .inr (by decide +kernel)) (by rw [isSubtype_type]; kernel_rfl)

section
variable {prog : Program} {w : World} {A : Around} {E : Value → Shared → Prop} {s : Shared} {e t : Addr} {msg : Str} {vs : Array Value} {c : Value}
/-- an exception in an f-string -/
theorem fmtE {Q : Value → Shared → Prop} (hu : A.units + 2 < cLine) (hx : ExObj c s.heap e msg vs t) (h : ∀ tok tk, Q (.str msg tok) { s with toks := tk }) : wpAny (model prog w) A (formatField (.ref e) Str.empty) Q E s := by
  obtain ⟨oe, tok, ho, hc, hd, hsz, h0, h2, hT⟩ := hx
  have X₁ : ∀ k, ({ s with toks := k } : Shared).heap.ExcAt e "ValueError" (.ref t) := fun k => ⟨oe, vs, ho, hc, hd, h0⟩
  have hT' : ∀ k, ({ s with toks := k } : Shared).TypeIs (.ref e) "ValueError" := fun k => (X₁ k).typeIs
  show wpAny _ _ (holding [.ref e] (pyFormat (.ref e) Str.empty)) _ _ _
  refine wpAny_holding ?_
  unfold pyFormat
  refine wpAny_bind (wpAny_mkStr ?_)
  refine wpAny_bind (m := callSpecial? (.ref e) (Str.ofString "__format__") [.str Str.empty s.toks]) (wpAny_callSpecial?_slot (name := Str.ofString "__format__") (hT' _) slot_VE_format ?_)
  refine wpAny_call_entry slot_VE_format (hT' _) PySem.F.entry_object_format ?_ (PySem.F.args_object_format_2 _ _)
  show wpAny _ _ (do let _shown ← typeNameOf (.str Str.empty s.toks); (do ret (← pyStrObj (.ref e)))) _ _ _
  refine wpAny_bind (wpAny_typeNameOf (T := "str") (typeIs_str _ _ _) (by decide) fun _ => ?_)
  refine wpAny_bind (pyStrObj_exc_one PySem.F.excStr_ValueError (by show A.units + 1 < cLine; omega) (X₁ _) hT (wpAny_pure ⟨_, rfl, ?_⟩))
  exact wpAny_bind (wpAny_isInstance (T := "str") (b := true) rfl isSubtype_str_str (wpAny_pure (h _ _)))
end

theorem FrP.same {outer : List Env} {h₂ h₃ : Heap} {L : Addr} (x : FrP outer h₂) (hs : Heap.SameBut L h₂ h₃) (hl : ∀ b ∈ frs outer, b ≠ L) : FrP outer h₃ := by
  obtain ⟨base, P⟩ := x
  refine ⟨hideAll h₃ (frs outer), ?_⟩
  have key : ∀ (l : List Env), (∀ b ∈ frs l, b ≠ L) → h₂.FunFrames base l → ∀ B : Heap, (∀ b ∈ frs l, B.get? b = none) → h₃.FunFrames B l := by
    intro l
    induction l with
    | nil => intro _ _ _ _; trivial
    | cons env r ih =>
      intro hl P B hB
      obtain ⟨hk, ⟨L', o, hf, hn', ho', hd'⟩, hr⟩ := P
      have hm : L' ∈ frs (env :: r) := by simp [frs, hf]
      refine ⟨hk, ⟨L', o, hf, hB L' hm, (hs.2 L' (hl L' hm)).trans ho', hd'⟩, ih (fun b hb => hl b ?_) hr B fun b hb => hB b ?_⟩
      · simp only [frs, List.filterMap_cons, hf]; exact .tail _ hb
      · simp only [frs, List.filterMap_cons, hf]; exact .tail _ hb
  exact key outer hl P _ fun b hb => hideAll_none _ hb
/-- an exception that a handler raised, seen from the def's entry, behind a change of the frame -/
theorem Trk.rebase {c fl : Value} {env : Env} {outer : List Env} {L e : Addr} {B h₁ h₄ h₅ : Heap} {msg : Str} {m m' : Str → Option Value} (hf : env.frame = some L) (hkd : env.scope.kind ≠ .module) (x : Trk c h₁ (env :: outer) h₄ e msg fl) (hN : h₁.Ns L m) (hN' : h₅.Ns L m') (hs : Heap.SameBut L h₄ h₅)
    (hBL : B.get? L = none) (hB : ∀ b o, B.get? b = some o → b ∉ frs outer → h₁.get? b = some o) (hU : ∀ b ∈ frs outer, ∀ o, B.get? b = some o → (∀ vs, o.data ≠ .fields vs) → ∃ sl, h₁.get? b = some { o with slots := sl })
    (hF : ∀ b ∈ frs outer, h₁.get? b ≠ none) (hl : ∀ b ∈ frs outer, b ≠ L) : Trk c B (env :: outer) h₅ e msg fl := by
  have hmem : ∀ b, b ∈ frs (env :: outer) ↔ b = L ∨ b ∈ frs outer := fun b => by simp [frs, hf]
  have neL : ∀ b o, B.get? b = some o → b ≠ L := fun b o hb q => by rw [q, hBL] at hb; cases hb
  have none_ : ∀ b, h₁.get? b = none → B.get? b = none := fun b hb => by
    cases q : B.get? b with
    | none => rfl
    | some o =>
      by_cases hm : b ∈ frs outer
      · exact absurd hb (hF b hm)
      · rw [hB b o q hm] at hb; cases hb
  obtain ⟨kp, up, fr, vs, t, T, oT, ts, ⟨oe, tok, ho, hc, hd, hsz, h0, h2, ot, nt, hot, hotc, hotd⟩, h1, hTe, hT, hdT, h3, g1, g2, g3⟩ := x
  obtain ⟨oL, es, ep, hoL, hdL, _⟩ := up.ns hN
  have heL : e ≠ L := fun q => by rw [q, hoL] at ho; cases ho; rw [hdL] at hd; cases hd
  have hTL : T ≠ L := fun q => by rw [q, hoL] at hT; cases hT; rw [hdL] at hdT; cases hdT
  have htL : t ≠ L := fun q => by rw [q, hoL] at hot; cases hot; rw [hdL] at hotd; cases hotd
  refine ⟨fun b o hb hm => ?_, fun b o hb hn => ?_, frp_cons hf hkd (fr.tail.same hs hl) hN', vs, t, T, oT, ts, ⟨oe, tok, (hs.2 e heL).trans ho, hc, hd, hsz, h0, h2, ot, nt, (hs.2 t htL).trans hot, hotc, hotd⟩, h1, hTe, (hs.2 T hTL).trans hT, hdT, h3, none_ _ g1, none_ _ g2, none_ _ g3⟩
  · exact (hs.2 b (neL b o hb)).trans (kp b o (hB b o hb fun q => hm ((hmem b).mpr (.inr q))) hm)
  · by_cases hm : b ∈ frs outer
    · obtain ⟨sl, q⟩ := hU b hm o hb hn
      obtain ⟨sl', q'⟩ := up b _ q hn
      exact ⟨sl', (hs.2 b (neL b o hb)).trans q'⟩
    · obtain ⟨sl', q'⟩ := up b _ (hB b o hb hm) hn
      exact ⟨sl', (hs.2 b (neL b o hb)).trans q'⟩

def lineMsg (k : Int) (msg : Str) : Str := Str.empty ++ Str.ofString "line " ++ itoa k ++ Str.ofString ": " ++ msg

section
variable {prog : Program} {w : World} {A : Around} {E : Value → Shared → Prop} {s : Shared} {h₀ G B : Heap} {L a e : Addr} {gi : Lg} {m mg mb : Str → Option Value} {u g : Lg} {cn : Str} {cs : Scope} {cd : Value} {cl : List (Str × Addr)} {outer : List Env} {msg : Str}
set_option maxHeartbeats 1000000 in
/-- except ValueError as error: raise ValueError(f'line {number}: {error}') from None -/
theorem wrapV {Q : Flow → Shared → Prop} {np hpos q1 q2 q3 q4 q5 q6 q7 q8 q9 q10 q11 : Pos} {k1 k2 k3 : Nat} {num : Str} {k : Int} {t : Tok} {rest : List ExceptHandler} (hA : OkA A 0) (hfr : A.frames = some (eX cn cs L a cd cl :: outer)) (hB : Ext B G) (hBL : B.get? L = none)
    (S : St h₀ L gi m u g G) (W : Wd mg mb (hideAll h₀ (frs outer))) (hfo : ∀ b ∈ frs outer, h₀.get? b ≠ none) (hgi : ∀ p ∈ gi, p.1 ∉ frs outer)
    (x : HeldC .none (eX cn cs L a cd cl :: outer) L G s.heap e msg) (hm : m num = some (.int k t)) (hne : num ≠ "error") (hd : k.natAbs.log2 < 1920) (hz : (lineMsg k msg).length ≤ 3000000)
    (kk : ∀ e' c h' tk, HeldC c (eX cn cs L a cd cl :: outer) L B h' e' (lineMsg k msg) → E (.ref e') { s with heap := h', toks := tk })
    (hk : cs.kind = .function := by rfl) (hx : (eX cn cs L a cd cl).kindOf "ValueError" = some .globalImplicit := by rfl) (hn : (eX cn cs L a cd cl).kindOf "error" = some .local := by rfl) (hnum : (eX cn cs L a cd cl).kindOf num = some .local := by rfl) (hdb : (num == ("__debug__" : Str)) = false := by decide) :
    wpAny (model prog w) A (setFlight (.ref e) none) (fun _ s₃ => wpAny (model prog w) A (handleBy (.ref e) (eX cn cs L a cd cl) (.ExceptHandler (some (.Name "ValueError" np)) (some "error")
      [.Raise (some (.Call (.Name "ValueError" q1) [.JoinedStr [.Constant (.str "line ") k1 q2, .FormattedValue (.Name num q3) (-1) none q4, .Constant (.str ": ") k2 q5, .FormattedValue (.Name "error" q6) (-1) none q7] q8] [] q9)) (some (.Constant .none k3 q10)) q11] hpos :: rest)) Q E s₃) E s := by
  refine catchV S W hfo hgi x (fun h₁ tk₁ vs₁ t₁ S₁ hE₁ hF₁ hU₁ hN₁ hK₁ g1 g3 => ?_) hk hx hn
  refine wpAny_execs_cons ?_
  rw [arm_exec_Raise]
  refine wpAny_bind (wpAny_standAt ?_)
  obtain ⟨oe, tok, ho, hc, hdd, hsz, h0, h2, hT⟩ := id hE₁
  show wpAny _ _ (raiseStmt _ (some (do let v ← eval (.Call (.Name "ValueError" q1) [.JoinedStr [.Constant (.str "line ") k1 q2, .FormattedValue (.Name num q3) (-1) none q4, .Constant (.str ": ") k2 q5, .FormattedValue (.Name "error" q6) (-1) none q7] q8] [] q9) (eX cn cs L a cd cl); standAt q11; pure v)) (some (do let v ← eval (.Constant .none k3 q10) (eX cn cs L a cd cl); standAt q11; pure v))) _ _ _
  have hz1 : (lineMsg k msg).length = 5 + (itoa k).length + 2 + msg.length := by simp only [lineMsg, len_app]; show 0 + 5 + (itoa k).length + 2 + msg.length = _; omega
  have hsl : (3000000 : Nat) ≤ sizeLine := by decide
  refine raise_from (e₀ := e) (o₀ := oe) (vs₀ := vs₁) (by show (some (Value.ref e)).or A.handled = _; rfl) ?_ ?_
  · refine wpAny_bind (callT "ValueError" (nmB S₁ W (W.free _ (by decide)) rfl ⟨rfl, wpAny_items_cons ?_⟩ (by decide) hk hx))
    have z1 : (Str.empty ++ Str.ofString "line ").length ≤ sizeLine := by decide
    have z2 : (Str.empty ++ Str.ofString "line " ++ itoa k).length ≤ sizeLine := by simp only [len_app]; show 0 + 5 + (itoa k).length ≤ _; omega
    have z3 : (Str.empty ++ Str.ofString "line " ++ itoa k ++ Str.ofString ": ").length ≤ sizeLine := by simp only [len_app]; show 0 + 5 + (itoa k).length + 2 ≤ _; omega
    have z4 : (Str.empty ++ Str.ofString "line " ++ itoa k ++ Str.ofString ": " ++ msg).length ≤ sizeLine := by simp only [len_app]; show 0 + 5 + (itoa k).length + 2 + msg.length ≤ _; omega
    refine JoinedStr_many (jpC z1 fun tk₃ => jpI (fun Q' hq => nmL S₁ (upd_ne hne hm) hq hk hnum hdb) hd z2 fun tk₄ => joinParts_consE (jpC z3 fun tk₅ => joinParts_consE (joinParts_cons (FormattedValue_plain (nmL S₁ upd_eq (fmtE (by show A.units + 2 < cLine; have := hA.un; omega) hE₁ fun tok₆ tk₆ => ⟨z4, jpN z4 fun tok₇ tk₇ => ?_⟩) hk hn (by decide)))))) 
    refine wpAny_items_nil ?_
    refine wpAny_call_exc PySem.F.excCall_ValueError (fun h₂ e' hx₂ => ?_)
    refine wpAny_bind (wpAny_standAt (wpAny_pure ?_))
    obtain ⟨t', he', htn, ht'⟩ := hx₂.there
    have hee : e' ≠ e := fun q => by have := hx₂.new; rw [q, ho] at this; cases this
    refine ⟨e', t', rfl, hee, he', hx₂.keeps _ _ ho, hdd, h2, fun h₃ hs₃ he₃ => ?_⟩
    have ne3 : ∀ b o, h₁.get? b = some o → b ≠ e' := fun b o hb q => by have := hx₂.new; rw [q] at hb; rw [show h₁.get? e' = none from this] at hb; cases hb
    have kp3 : ∀ b o, h₁.get? b = some o → h₃.get? b = some o := fun b o hb => (hs₃.2 b (ne3 b o hb)).trans (hx₂.keeps b o hb)
    have hte : t' ≠ e' := fun q => by rw [q, he'] at ht'; have := congrArg (fun o : Option Obj => o.map (·.data)) ht'; simp at this
    have hfL : ∀ b ∈ frs outer, b ≠ L := fun b hb => by
      cases q : h₀.get? b with
      | none => exact absurd q (hfo b hb)
      | some o => exact S.ne_base q
    have hkd : (eX cn cs L a cd cl).scope.kind ≠ .module := by show cs.kind ≠ _; rw [hk]; decide
    refine noteNew (G := h₁) (L := L) (outer := outer) (c := .ref e) (msg := lineMsg k msg) (t := t') (A := A.mark (some (.ref e))) (s := { s with heap := h₃, toks := _ }) hfr (frp_cons rfl hkd (hF₁.ext kp3) (hN₁.keeps kp3)) rfl
      ⟨_, _, he₃, rfl, rfl, rfl, rfl, rfl, ⟨_, _, (hs₃.2 t' hte).trans ht', rfl, rfl⟩⟩ rfl (fun b o hb _ => kp3 b o hb) (Heap.UpToSlots.of_keeps kp3) hx₂.new htn fun h₄ x₄ => ?_
    refine wpAny_nameGoes_keeps (s := { s with heap := h₄, toks := _ }) hn (x₄.up.ns hN₁) (by show (cs.kind == .class || (cs.kind == .module && L != mainGlobals)) = false; rw [hk]; rfl) fun h₅ v₅ hN₅ hs₅ => ?_
    have x₅ : HeldC (.ref e) (eX cn cs L a cd cl :: outer) L B h₅ e' (lineMsg k msg) := x₄.rebase rfl hkd hN₁ hN₅ hs₅ hBL (fun b o hb hm => hK₁ b o (hB b o hb) (fun q => by rw [q, hBL] at hb; cases hb) hm)
      (fun b hm o hb hn => hU₁ b hm o (hB b o hb) hn) (fun b hm q => by obtain ⟨o, ho, _⟩ := hF₁.mem hm; rw [ho] at q; cases q) hfL
    exact pass_held (s := { s with heap := h₅, toks := _ }) rfl x₅ fun h₆ x₆ => noted_held (s := { s with heap := h₆, toks := _ }) rfl x₆ (back_held (s := { s with heap := h₆, toks := _ }) rfl x₆ fun h₇ x₇ => kk e' _ h₇ _ x₇)
  · intro Q' E' s' h'
    exact wpAny_bind (wpAny_pure (wpAny_bind (wpAny_standAt (wpAny_pure h'))))
end
end Mine
end
section
open PySem PyProof.Rows PySem.Calls PySem.W PySem.Builtin.Str
set_option maxRecDepth 100000
namespace Mine
theorem DLs.strs {g : Lg} : ∀ l : List (Str × Tok), DLs g (strValues l) ((l.map (·.1)).map Dt.str)
  | [] => .nil
  | _ :: r => .cons (.str _ _) (DLs.strs r)

section
variable {prog : Program} {w : World} {A : Around} {E : Value → Shared → Prop} {s : Shared} {h₀ : Heap} {L : Addr} {gi : Lg} {m : Str → Option Value} {ul g : Lg} {x y : Str} {t u : Tok} {Q : Value → Shared → Prop}
theorem spl0 (S : St h₀ L gi m ul g s.heap) (hsz : x.length + 2 ≤ sizeLine)
    (h : ∀ h' D o tk, St h₀ L gi m ul ((D, o) :: g) h' → DL ((D, o) :: g) (.ref D) (.list ((Txt.words x).map .str)) → Q (.ref D) { s with heap := h', toks := tk }) :
    wpAny (model prog w) A (call (.builtin "str.split") [.str x t]) Q E s := by
  have h : ∀ (l : List (Str × Tok)) k, l.map (·.1) = Txt.words x → Q (.ref s.heap.objs.size) { s with heap := s.heap.push { cls := .type "list", data := .seq (strValues l).toArray }, toks := k } := fun l k e =>
    h _ _ _ k (S.pushG (lstO (strValues l) 0)) (.list (.head _) (by rw [← e]; exact DLs.strs l))
  have hn : (spaceWords x (x.length + 1)).length ≤ sizeLine := by
    have e1 := (StrLaws.sw_weight x).1
    have e2 := StrLaws.len_le_wsum (spaceWords x (x.length + 1))
    omega
  refine call_meets PySem.F.slot_str_split (typeIs_str _ _ _) PySem.F.entry_str_split (PySem.F.args_str_split_1 _) (meets_str_split_space x t (by omega) hn) ?_
  cases hw : spaceWords x (x.length + 1) == [(0, x.length)]
  · simp only [Bool.false_eq_true, if_false]
    rw [strsFrom_eq]
    exact h (numbered s.toks (PySem.wordsOf x)) _ ((numbered_texts _ _).trans (if_neg (ne_true_of_eq_false hw)).symm)
  · simp only [if_true]
    exact h [(x, t)] s.toks (if_pos hw).symm
theorem spl1 (S : St h₀ L gi m ul g s.heap) (hsz : x.length + 2 ≤ sizeLine) (hy : (y.length == 0) = false)
    (h : ∀ h' D o tk, St h₀ L gi m ul ((D, o) :: g) h' → DL ((D, o) :: g) (.ref D) (.list ((Txt.split x y).map .str)) → Q (.ref D) { s with heap := h', toks := tk }) :
    wpAny (model prog w) A (call (.builtin "str.split") [.str x t, .str y u]) Q E s := by
  have h : ∀ (l : List (Str × Tok)) k, l.map (·.1) = Txt.split x y → Q (.ref s.heap.objs.size) { s with heap := s.heap.push { cls := .type "list", data := .seq (strValues l).toArray }, toks := k } := fun l k e =>
    h _ _ _ k (S.pushG (lstO (strValues l) 0)) (.list (.head _) (by rw [← e]; exact DLs.strs l))
  have hn : (partsBetween x (occurrences x y 0 x.length (x.length + 1)) y.length).length ≤ sizeLine := by
    have e1 := StrLaws.occ_length_le x y 0 x.length (x.length + 1)
    rw [length_partsBetween]; omega
  cases h1 : (decide (x.length < y.length) || decide (strKind x < strKind y))
  · cases hf : (occurrences x y 0 x.length (x.length + 1)).isEmpty
    · refine call_meets PySem.F.slot_str_split (typeIs_str _ _ _) PySem.F.entry_str_split (PySem.F.args_str_split_2 _ _) (meets_str_split_sep x y t u h1 hy hf (by omega) hn) ?_
      show wants Q E _ { s with toks := _, heap := s.heap.push { cls := .type "list", data := .seq (strsFrom s.toks (partsBetween x (occurrences x y 0 x.length (x.length + 1)) y.length)).toArray } }
      rw [strsFrom_eq]
      exact h (numbered s.toks _) _ ((numbered_texts _ _).trans ((if_neg (ne_true_of_eq_false h1)).trans (if_neg (ne_true_of_eq_false hf))).symm)
    · exact call_meets PySem.F.slot_str_split (typeIs_str _ _ _) PySem.F.entry_str_split (PySem.F.args_str_split_2 _ _) (meets_str_split_not_found x y t u h1 hy hf)
        (h [(x, t)] s.toks ((if_neg (ne_true_of_eq_false h1)).trans (if_pos hf)).symm)
  · exact call_meets PySem.F.slot_str_split (typeIs_str _ _ _) PySem.F.entry_str_split (PySem.F.args_str_split_2 _ _) (meets_str_split_cannot_occur x y t u h1)
      (h [(x, t)] s.toks (if_pos h1).symm)
end
end Mine
end
section
open PySem PyProof.Rows PySem.Calls PySem.W
set_option maxRecDepth 100000
namespace Mine
/-- what a caller sees of an exception with any context -/
def ErrC (E : Value → Shared → Prop) (s₀ : Shared) (outer : List Env) (msg : Str) : Prop := ∀ e c h' tk, FlyC c outer s₀.heap h' e msg → E (.ref e) { s₀ with heap := h', toks := tk }
/-- an exception that a handler in a loop's turn raised -/
def ELC (E : Value → Shared → Prop) (s₀ : Shared) (env : Env) (outer : List Env) (L : Addr) (x : Value) (s' : Shared) : Prop :=
  ∃ e c msg h' tk, x = .ref e ∧ s' = { s₀ with heap := h', toks := tk } ∧ HeldC c (env :: outer) L s₀.heap h' e msg ∧ ErrC E s₀ outer msg

section
variable {prog : Program} {w : World} {A : Around} {E : Value → Shared → Prop} {s₀ : Shared} {h : Heap} {tk : Nat} {L a : Addr} {gi : Lg} {m mg mb : Str → Option Value} {u g : Lg} {cn : Str} {cs : Scope} {cd : Value} {cl : List (Str × Addr)} {outer : List Env} {msg : Str}
theorem loopC (hL : s₀.heap.get? L = none) : ∀ x s', ELC E s₀ (eX cn cs L a cd cl) outer L x s' →
    notedBy (model prog w) (A.deeper (eX cn cs L a cd cl)) (eX cn cs L a cd cl) (fun x s'' => cameBackBy (model prog w) (A.deeper (eX cn cs L a cd cl)) (eX cn cs L a cd cl) (LE (model prog w) (A.deeper (eX cn cs L a cd cl)) (eX cn cs L a cd cl) E) x s'') x s' := by
  rintro x s' ⟨e, c, msg, h', tk, rfl, rfl, hd, k⟩
  refine noted_held (s := { s₀ with heap := h', toks := tk }) rfl hd ?_
  refine back_held (s := { s₀ with heap := h', toks := tk }) rfl hd fun h₂ hd₂ => ?_
  exact leave_held (s := { s₀ with heap := h₂, toks := tk }) rfl hd₂ (Ext.refl _) hL fun h₃ fl₃ => k e c h₃ tk fl₃

/-- the road of an exception out of read_trace's try -/
abbrev TryE (M : Model) (A : Around) (env : Env) (hs : List ExceptHandler) (Q : Flow → Shared → Prop) (E : Value → Shared → Prop) : Value → Shared → Prop := fun e s₁ =>
  wpAny M A (noteFrame e env) (fun _ s₂ => wpAny M A (setFlight e none) (fun _ s₃ => wpAny M A (handleBy e env hs) Q E s₃) E s₂) E s₁

/-- what the handler needs -/
structure Hx (A : Around) (outer : List Env) (s₀ : Shared) (mg mb : Str → Option Value) : Prop where
  cx : Cx A outer s₀.heap
  wd : Wd mg mb (hideAll s₀.heap (frs outer))

theorem Hx.fo (x : Hx A outer s₀ mg mb) : ∀ b ∈ frs outer, s₀.heap.get? b ≠ none := fun b hb q => by
  obtain ⟨o, ho, _⟩ := x.cx.ok.mem hb
  rw [ho] at q; cases q

variable {np hpos q1 q2 q3 q4 q5 q6 q7 q8 q9 q10 q11 : Pos} {k1 k2 k3 : Nat} {Q : Flow → Shared → Prop} {k : Int} {t : Tok} {rest : List ExceptHandler}
theorem wrapH {e : Addr} {h' : Heap} (hA : OkA A 1) (X : Hx A outer s₀ mg mb) (hL : s₀.heap.get? L = none) (S : St s₀.heap L [] m u g h) (hm : m "number" = some (.int k t)) (hd : k.natAbs.log2 < 1920) (hz : (lineMsg k msg).length ≤ 3000000) (kk : ErrC E s₀ outer (lineMsg k msg))
    (x : HeldC .none (eX cn cs L a cd cl :: outer) L h h' e msg)
    (hk : cs.kind = .function := by rfl) (hx : (eX cn cs L a cd cl).kindOf "ValueError" = some .globalImplicit := by rfl) (hn : (eX cn cs L a cd cl).kindOf "error" = some .local := by rfl) (hnum : (eX cn cs L a cd cl).kindOf "number" = some .local := by rfl) :
    wpAny (model prog w) (A.deeper (eX cn cs L a cd cl)) (setFlight (.ref e) none) (fun _ s₃ => wpAny (model prog w) (A.deeper (eX cn cs L a cd cl)) (handleBy (.ref e) (eX cn cs L a cd cl) (.ExceptHandler (some (.Name "ValueError" np)) (some "error")
      [.Raise (some (.Call (.Name "ValueError" q1) [.JoinedStr [.Constant (.str "line ") k1 q2, .FormattedValue (.Name "number" q3) (-1) none q4, .Constant (.str ": ") k2 q5, .FormattedValue (.Name "error" q6) (-1) none q7] q8] [] q9)) (some (.Constant .none k3 q10)) q11] hpos :: rest)) Q (ELC E s₀ (eX cn cs L a cd cl) outer L) s₃) (ELC E s₀ (eX cn cs L a cd cl) outer L) { s₀ with heap := h', toks := tk } :=
  wrapV (s := { s₀ with heap := h', toks := tk }) (B := s₀.heap) hA.deeper (Around.frames_deeper X.cx.fr) S.fr.keep hL S X.wd X.fo (fun _ hp => nomatch hp) x hm (by decide) hd hz (fun e' c h'' tk' x' => ⟨e', c, _, h'', tk', rfl, rfl, x', kk⟩) hk hx hn hnum
/-- an exception that a call in the try raised -/
theorem tryFly (hA : OkA A 1) (X : Hx A outer s₀ mg mb) (hL : s₀.heap.get? L = none) (S : St s₀.heap L [] m u g h) (hm : m "number" = some (.int k t)) (hd : k.natAbs.log2 < 1920) (hz : (lineMsg k msg).length ≤ 3000000) (kk : ErrC E s₀ outer (lineMsg k msg))
    (hk : cs.kind = .function := by rfl) (hx : (eX cn cs L a cd cl).kindOf "ValueError" = some .globalImplicit := by rfl) (hn : (eX cn cs L a cd cl).kindOf "error" = some .local := by rfl) (hnum : (eX cn cs L a cd cl).kindOf "number" = some .local := by rfl) :
    Err (TryE (model prog w) (A.deeper (eX cn cs L a cd cl)) (eX cn cs L a cd cl) (.ExceptHandler (some (.Name "ValueError" np)) (some "error")
      [.Raise (some (.Call (.Name "ValueError" q1) [.JoinedStr [.Constant (.str "line ") k1 q2, .FormattedValue (.Name "number" q3) (-1) none q4, .Constant (.str ": ") k2 q5, .FormattedValue (.Name "error" q6) (-1) none q7] q8] [] q9)) (some (.Constant .none k3 q10)) q11] hpos :: rest) Q (ELC E s₀ (eX cn cs L a cd cl) outer L))
      { s₀ with heap := h, toks := tk } (eX cn cs L a cd cl :: outer) msg := fun _ h' tk' fl =>
  noteFly (s := { s₀ with heap := h', toks := tk' }) (Around.frames_deeper X.cx.fr) rfl fl fun _ x => wrapH hA X hL S hm hd hz kk x hk hx hn hnum
/-- raise ValueError(text) in the try itself -/
theorem tryRaise {y : Str} {ck : Nat} {np' cp cp' pos : Pos} {Qf : Flow → Shared → Prop} (hA : OkA A 1) (X : Hx A outer s₀ mg mb) (W : Wd mg mb s₀.heap) (hL : s₀.heap.get? L = none) (S : St s₀.heap L [] m u g h) (hm : m "number" = some (.int k t)) (hd : k.natAbs.log2 < 1920) (hz : (lineMsg k y).length ≤ 3000000) (kk : ErrC E s₀ outer (lineMsg k y))
    (hk : cs.kind = .function := by rfl) (hx : (eX cn cs L a cd cl).kindOf "ValueError" = some .globalImplicit := by rfl) (hn : (eX cn cs L a cd cl).kindOf "error" = some .local := by rfl) (hnum : (eX cn cs L a cd cl).kindOf "number" = some .local := by rfl) :
    wpAny (model prog w) (A.deeper (eX cn cs L a cd cl)) (exec (.Raise (some (.Call (.Name "ValueError" np') [.Constant (.str y) ck cp'] [] cp)) none pos) (eX cn cs L a cd cl)) Qf (TryE (model prog w) (A.deeper (eX cn cs L a cd cl)) (eX cn cs L a cd cl) (.ExceptHandler (some (.Name "ValueError" np)) (some "error")
      [.Raise (some (.Call (.Name "ValueError" q1) [.JoinedStr [.Constant (.str "line ") k1 q2, .FormattedValue (.Name "number" q3) (-1) none q4, .Constant (.str ": ") k2 q5, .FormattedValue (.Name "error" q6) (-1) none q7] q8] [] q9)) (some (.Constant .none k3 q10)) q11] hpos :: rest) Q (ELC E s₀ (eX cn cs L a cd cl) outer L))
      { s₀ with heap := h, toks := tk } := by
  refine Raise_madeB PySem.F.excCall_ValueError PySem.F.excRaise_ValueError (A := A.deeper (eX cn cs L a cd cl)) hA.hd (nmB S W (W.free _ (by decide)) rfl ⟨rfl, ?_⟩ (by decide) hk hx) rfl
  refine wpAny_items_cons (wpAny_Constant_str (wpAny_items_nil ⟨by show 1 ≤ sizeLine; decide, fun h' e hx' => ?_⟩)) rfl
  have P : FrP outer h := X.cx.ok.ext S.fr.keep
  exact noteMade (s := { s₀ with heap := h', toks := _ }) (Around.frames_deeper X.cx.fr) rfl (frp_cons rfl (by show cs.kind ≠ .module; rw [hk]; decide) P S.fr.ns) hx' fun _ x => wrapH hA X hL S hm hd hz kk x hk hx hn hnum
end
end Mine
end
section
open PySem PyProof.Rows PySem.Calls PySem.W
set_option maxRecDepth 100000
namespace Mine
/-- what one line of a trace gives: none is a bad line -/
noncomputable def lineRes : List Str → Option (List Dt)
  | [] => some []
  | w :: r => if Txt.startswith w "#" then some [] else match r with
    | [k] => if decide (w = "get") && nameOk (.str k) then some [.tuple [.str "get", .str k, .int 0]] else none
    | [k, v] => if decide (w = "put") && nameOk (.str k) then (match parseN v (-1000000000000000000) with | .ok n => some [.tuple [.str "put", .str k, .int n]] | .error _ => none) else none
    | _ => none
noncomputable def allRes : List Str → Option (List Dt)
  | [] => some []
  | l :: r => (lineRes (Txt.words l)).bind fun a => (allRes r).map (a ++ ·)
theorem allRes_snoc (ls : List Str) (l : Str) : allRes (ls ++ [l]) = (allRes ls).bind fun a => (lineRes (Txt.words l)).map (a ++ ·) := by
  induction ls with
  | nil => simp only [List.nil_append, allRes]; cases lineRes (Txt.words l) <;> simp
  | cons x r ih =>
    simp only [List.cons_append, allRes, ih]
    cases lineRes (Txt.words x) <;> simp
    cases allRes r <;> simp
    cases lineRes (Txt.words l) <;> simp
section
variable {prog : Program} {w : World} {A : Around} {E : Value → Shared → Prop} {s : Shared} {h₀ : Heap} {L : Addr} {gi : Lg} {m : Str → Option Value} {u g : Lg} {ov : Value} {ds : List Dt}
theorem lTrue {Q : Bool → Shared → Prop} (S : St h₀ L gi m u g s.heap) (D : DL g ov (.list ds)) (hz : ds.length ≤ 1000) (h : ∀ tk, Q (!ds.isEmpty) { s with toks := tk }) : wpAny (model prog w) A (truthy ov) Q E s := by
  cases D with
  | @list l n vs _ hl hD =>
    have hlen := hD.length
    refine wpAny_truthy_list ⟨_, (S.led _ hl).1, rfl, _, rfl⟩ (by rw [List.size_toArray]; omega) ?_
    have : (!vs.toArray.isEmpty) = !ds.isEmpty := by cases vs <;> cases ds <;> simp_all
    rw [this]; exact h _
end
end Mine
end
section
open PySem PyProof.Rows PySem.Calls PySem.W
set_option maxRecDepth 100000
namespace Mine
section
variable {prog : Program} {w : World} {A : Around} {E : Value → Shared → Prop} {s : Shared} {mg mb : Str → Option Value} {a : Addr} {x : Str} {t : Tok} {Q : Value → Shared → Prop} {outer : List Env}
theorem testW {h₀ : Heap} {L : Addr} {gi : Lg} {m : Str → Option Value} {u g : Lg} {cn : Str} {cs : Scope} {cd : Value} {cl : List (Str × Addr)} {wv : Value} {w0 y : Str} {r ws : List Str} {k : Int} {kn k1 k2 k3 : Nat} {p1 p2 p3 p4 p5 p6 p7 p8 p9 p10 p11 : Pos} {whole : Sem Value} {Q : Bool → Shared → Prop}
    (S : St h₀ L gi m u g s.heap) (W : Wd mg mb h₀) (D : DL g wv (.list (ws.map .str))) (hm : m "words" = some wv) (hz : (ws.map Dt.str).length ≤ 1000) (hws : ws = w0 :: r) (hkn : k = (kn : Int))
    (h : ∀ tk, Q (decide (w0 = y) && decide (ws.length = kn)) { s with toks := tk })
    (hk : cs.kind = .function := by rfl) (hx : (eX cn cs L a cd cl).kindOf "words" = some .local := by rfl) (hx2 : (eX cn cs L a cd cl).kindOf "len" = some .globalImplicit := by rfl) :
    wpAny (model prog w) A (isTrue (.BoolOp .And [.Compare (.Subscript (.Name "words" p1) (.Constant (.int 0) k1 p2) p3) [.Eq] [.Constant (.str y) k2 p4] p5, .Compare (.Call (.Name "len" p6) [.Name "words" p7] [] p8) [.Eq] [.Constant (.int k) k3 p9] p10] p11) (eX cn cs L a cd cl) whole) Q E s := by
  subst hws hkn
  refine isTrue_and (wpAny_isTrue_Compare1 (Subscript_ (nmL S hm (wpAny_Constant_int (sbL (i := 0) S D rfl hz fun z hz' => ?_)) hk hx)))
  cases hz'
  refine wpAny_Constant_str (eqS _ rfl (wpAny_truthy_bool ?_))
  cases hc : decide (w0 = y) with
  | false => rw [hc] at h; exact h _
  | true =>
    rw [hc] at h
    refine isTrue_and (wpAny_isTrue_Compare1 (callB "len" (nmB S W (W.free _ (by decide)) rfl ⟨rfl, wpAny_items_cons (nmL S hm (wpAny_items_nil (lLen S D hz (wpAny_Constant_int (PyProof.Rows.eq_int (wpAny_truthy_bool ?_))))) hk hx)⟩ (by decide) hk hx2)))
    dsimp only
    have e : ((((w0 :: r).map Dt.str).length : Int) == (kn : Int)) = decide ((w0 :: r).length = kn) := by rw [List.length_map, Bool.eq_iff_iff]; simp; omega
    rw [e]
    cases hc2 : decide ((w0 :: r).length = kn) with
    | false => rw [hc2] at h; exact h _
    | true => rw [hc2] at h; exact isTrue_and_nil (h _)

noncomputable def wordRes (w : Str) (r : List Str) : Option (List Dt) := match r with
    | [k] => if decide (w = "get") && nameOk (.str k) then some [.tuple [.str "get", .str k, .int 0]] else none
    | [k, v] => if decide (w = "put") && nameOk (.str k) then (match parseN v (-1000000000000000000) with | .ok n => some [.tuple [.str "put", .str k, .int n]] | .error _ => none) else none
    | _ => none
theorem lineRes_cons {w : Str} {r : List Str} (h : Txt.startswith w (Str.ofString "#") = false) : lineRes (w :: r) = wordRes w r := by
  simp only [lineRes]; rw [if_neg (by rw [h]; decide)]; rfl
def expMsg : Str := Str.ofString "expected 'get KEY' or 'put KEY VALUE'"
/-- what a bad line's fault may say -/
def badTail (ws : List Str) (tail : Str) : Prop := match ws with
  | [] => True
  | [w, _] => w ≠ "get" → tail = expMsg
  | [w, k, v] => if w = "put" then nameOk (.str k) = true → parseN v (-1000000000000000000) = .error tail else tail = expMsg
  | _ => tail = expMsg
theorem badPut {k v tail : Str} (h : nameOk (.str k) = true → parseN v (-1000000000000000000) = .error tail) : badTail [Str.ofString "put", k, v] tail := by
  unfold badTail
  simp only
  rw [if_pos trivial]
  exact h
theorem itoa_small {k : Nat} (h : k < 501) : (itoa ((k : Int) + 1)).length ≤ 10 := by
  have key : ∀ i : Fin 501, (itoa ((i.val : Int) + 1)).length ≤ 10 := by decide +kernel
  exact key ⟨k, h⟩
theorem line_len {k : Nat} (h : k < 501) {msg : Str} (hz : msg.length ≤ 2000000) : (lineMsg ((k : Int) + 1) msg).length ≤ 3000000 := by
  have := itoa_small h
  simp only [lineMsg, len_app]
  show 0 + 5 + (itoa ((k : Int) + 1)).length + 2 + msg.length ≤ _
  omega
theorem ok_err {α β : Type} {a : β} {b : α} (h : (Except.ok a : Except α β) = .error b) : False := by cases h
theorem err_inj {α β : Type} {a b : α} (h : (Except.error a : Except α β) = .error b) : a = b := by cases h; rfl
theorem chk_err {n lo : Int} {msg : Str} {b : Nat} (hr : (rangeMsg lo).length ≤ b) (h : chk (.int n) lo = .error msg) : msg.length ≤ b := by
  have e : chk (.int n) lo = if lo ≤ n ∧ n ≤ MAXN then .ok n else .error (rangeMsg lo) := rfl
  rw [e] at h
  by_cases hc : lo ≤ n ∧ n ≤ MAXN
  · rw [if_pos hc] at h; exact (ok_err h).elim
  · rw [if_neg hc] at h; exact (err_inj h) ▸ hr
theorem parse_err_len' {y : Str} (hy : NumT y) {msg : Str} {lo : Int} (hr : (rangeMsg lo).length ≤ 2000000) (h : parseN y lo = .error msg) : msg.length ≤ 2000000 := by
  unfold parseN at h
  split at h
  · rw [← Except.error.inj h]
    have := ascT_len hy.sane
    unfold junkMsg
    simp only [len_app]
    show 0 + 20 + _ ≤ _
    omega
  · split at h
    · rw [← Except.error.inj h]; exact hr
    · generalize (if Txt.startswith y "-" = true then -(PySem.intText? (numT y)).getD 0 else (PySem.intText? (numT y)).getD 0) = n at h
      exact chk_err hr h
theorem parse_err_len {y : Str} (hy : NumT y) {msg : Str} (h : parseN y (-1000000000000000000) = .error msg) : msg.length ≤ 2000000 := parse_err_len' hy (by decide +kernel) h
set_option maxHeartbeats 2000000 in
theorem read_trace_spec (hA : OkA A 5) (X : Hx A outer s mg mb) (W : Wd mg mb s.heap) (ha : mg (fdAt 12).name = some (.ref a)) (hxl : x.length + 2 ≤ sizeLine) (hll : (Txt.split x "\n").length ≤ 500)
    (hw : ∀ l ∈ Txt.split x "\n", l.length + 2 ≤ sizeLine ∧ (Txt.words l).length ≤ 100 ∧ ∀ y ∈ Txt.words l, Sane y ∧ NumT y)
    (hk : ∀ ops, allRes (Txt.split x "\n") = some ops → ∀ v g' h' tk, Ext s.heap h' → (∀ p ∈ g', h'.get? p.1 = some p.2 ∧ s.heap.get? p.1 = none) → DL g' v (.list ops) → Q v { s with heap := h', toks := tk })
    (he : ∀ (i : Nat) l ops, (Txt.split x "\n")[i]? = some l → allRes ((Txt.split x "\n").take i) = some ops → lineRes (Txt.words l) = none → ∀ tail : Str, tail.length ≤ 2000000 → badTail (Txt.words l) tail → ErrC E s outer (lineMsg ((i : Int) + 1) tail)) :
    wpAny (model prog w) A (call (.ref a) [.str x t]) Q E s := by
  obtain ⟨of, pm, cd, dc, fn⟩ := fn_of W (i := 12) (by decide) ha
  obtain ⟨a3, o3, pm3, cd3, dc3, e3, f3⟩ := W.fn 3 (by decide)
  obtain ⟨a6, o6, pm6, cd6, dc6, e6, f6⟩ := W.fn 7 (by decide)
  refine enterX (i := 12) (n := 4) (hb := s.heap) (u := []) (g := []) (binds := [("text", .str x t)]) hA fn W.nolimit (Ext.refl _) (Nat.le_refl _)
    (fun _ h => nomatch h) (fun _ h => nomatch h) (fun _ h => nomatch h) (by simp) rfl ?_
  intro L h₁ tk hL hx₁ S hA'
  have hA1 := hA'.less (k := 1) (by omega)
  generalize hlines : Txt.split x "\n" = lines at hll hw hk he
  conv in (fdAt 12).body => whnf
  refine wpAny_execs_cons (wpAny_Assign_Name (List_ (wpAny_items_nil (mkLstU S (by simp) fun h₂ ol S₂ => stL S₂ fun h₃ S₃ => ?_))))
  dsimp only
  refine wpAny_execs_cons (wpAny_For (callT "enumerate" (nmB S₃ W (W.free _ (by decide)) rfl ⟨rfl, wpAny_items_cons (callM "str" "str.split" PySem.F.plainAttrs_str PySem.F.slot_str_split PySem.F.type_str_split (nmL S₃ rfl ⟨typeIs_str _ _ _, (fun a e => nomatch e), wpAny_items_cons (wpAny_Constant_str (wpAny_items_nil (spl1 S₃ hxl (by decide) fun h₄ D o tk₄ S₄ D₄ => ?_)))⟩))⟩)))
  dsimp only
  refine wpAny_items_cons (wpAny_Constant_int (wpAny_items_nil (enumL S₄ D₄ fun h₅ e it eo io S₅ hen hit => ?_)))
  dsimp only
  replace hlines : Txt.split x (Str.ofString "\n") = lines := hlines
  rw [hlines] at D₄
  refine forE (ELC E s _ outer L) (loopC hL)
    (fun i m u g' => ∃ vs n ops, u = [(ol, lstO vs n)] ∧ m "ops" = some (.ref ol) ∧ allRes (lines.take i) = some ops ∧ ops.length ≤ i ∧ DLs g' vs ops)
    hA'.hd S₅ D₄ hen hit ⟨[], 0, [], rfl, rfl, rfl, Nat.le_refl _, .nil⟩ ?_ ?_
  · rintro i d v m u g' h tk₁ eo io hd' hv hsub ⟨T, o', g₁, rfl, vs, n, ops, rfl, m1, hops, hopl, Dv⟩ S₆
    have hi : i < lines.length := by have := (List.getElem?_eq_some_iff.mp hd').1; simpa using this
    obtain ⟨l, hl⟩ : ∃ l, lines[i]? = some l := ⟨_, List.getElem?_eq_getElem hi⟩
    have hop : d = .str l := by rw [List.getElem?_map, hl] at hd'; exact (Option.some.inj hd').symm
    subst hop
    have htk : lines.take (i + 1) = lines.take i ++ [l] := by rw [List.take_add_one, hl]; rfl
    obtain ⟨hwl, hwn, hws⟩ := hw l (List.mem_of_getElem? hl)
    have bad : lineRes (Txt.words l) = none → ∀ tail : Str, tail.length ≤ 2000000 → badTail (Txt.words l) tail → ErrC E s outer (lineMsg ((i : Int) + 1) tail) := fun hb => he i l ops hl hops hb
    have hlog : ((i : Int) + 1).natAbs.log2 < 1920 := by
      have e1 : ((i : Int) + 1).natAbs = i + 1 := by omega
      rw [e1]
      exact (Nat.log2_lt (by omega)).mpr (Nat.lt_of_lt_of_le (by omega : i + 1 < 2 ^ 9) (Nat.pow_le_pow_right (by decide) (by decide)))
    refine unT hA'.hd S₆ hv rfl fun vs₇ h₇ D₇ S₇ => ?_
    cases D₇ with | cons d1 D₇ => cases D₇ with | cons d2 D₇ => cases D₇ with | nil =>
    cases d1
    cases d2
    rename_i tn tl
    refine assignInOrder_cons (wpAny_assign_Name (stL S₇ fun h₈ S₈ => assignInOrder_cons (wpAny_assign_Name (stL S₈ fun h₉ S₉ => assignInOrder_nil ?_))))
    dsimp only
    refine wpAny_execs_cons (wpAny_Assign_Name (callM0 "str" "str.split" PySem.F.plainAttrs_str PySem.F.slot_str_split PySem.F.type_str_split (nmL S₉ rfl ⟨typeIs_str _ _ _, (fun a e => nomatch e), spl0 S₉ hwl fun h₁₀ D₁ o₁ tk₁₀ S₁₀ D₁₀ => stL S₁₀ fun h₁₁ S₁₁ => ?_⟩)))
    dsimp only
    generalize hWs : Txt.words l = ws at *
    have key : wpAny (model prog w) (A.deeper (eX (fdAt 12).name (fdAt 12).scope L a cd [])) (execs [] (eX (fdAt 12).name (fdAt 12).scope L a cd [])) (fun _ _ => True) E s := wpAny_execs_nil trivial
    cases ws with
    | nil =>
      refine wpAny_execs_cons (wpAny_If (isTrue_or (isTrue_not (isTrue_plain (nmL S₁₁ rfl (lTrue S₁₁ D₁₀ (by simp) fun tk₁₂ => ?_))))))
      dsimp only [List.map_nil, List.isEmpty_nil, Bool.not_true, Bool.not_false]
      refine wpAny_execs_cons (wpAny_Continue ?_)
      exact ⟨_, _, _, _, _, rfl, ⟨fun p hp => .tail _ (hsub p hp), vs, n, ops, rfl, upd_ne (by decide) (upd_ne (by decide) (upd_ne (by decide) m1)), by rw [htk, allRes_snoc, hops, hWs]; simp [lineRes], by omega, Dv.mono fun p hp => .tail _ (.tail _ hp)⟩, S₁₁⟩
    | cons w0 r => 
      refine wpAny_execs_cons (wpAny_If (isTrue_or (isTrue_not (isTrue_plain (nmL S₁₁ rfl (lTrue S₁₁ D₁₀ (by rw [List.length_map]; exact Nat.le_trans hwn (by decide)) fun tk₁₂ => ?_))))))
      dsimp only [List.map_cons, List.isEmpty_cons, Bool.not_true, Bool.not_false]
      refine isTrue_or (isTrue_plain (callM "str" "str.startswith" PySem.F.plainAttrs_str PySem.F.slot_str_startswith PySem.F.type_str_startswith (Subscript_ (nmL S₁₁ rfl (wpAny_Constant_int (sbL (i := 0) S₁₁ D₁₀ rfl (by rw [List.length_map]; exact Nat.le_trans hwn (by decide)) fun y hy => ?_))))))
      cases hy
      refine ⟨typeIs_str _ _ _, (fun a e => nomatch e), wpAny_items_cons (wpAny_Constant_str (wpAny_items_nil (SC.startswith (wpAny_truthy_bool ?_))))⟩
      dsimp only
      cases hst : Txt.startswith w0 (Str.ofString "#") with
      | true =>
        refine wpAny_execs_cons (wpAny_Continue ?_)
        exact ⟨_, _, _, _, _, rfl, ⟨fun p hp => .tail _ (hsub p hp), vs, n, ops, rfl, upd_ne (by decide) (upd_ne (by decide) (upd_ne (by decide) m1)), by rw [htk, allRes_snoc, hops, hWs]; simp only [lineRes]; rw [if_pos (show Txt.startswith w0 "#" = true from hst)]; simp, by omega, Dv.mono fun p hp => .tail _ (.tail _ hp)⟩, S₁₁⟩
      | false =>
      try dsimp only [if_false, Bool.false_eq_true]
      refine isTrue_or_nil (wpAny_execs_nil ?_)
      refine wpAny_execs_cons (wpAny_Try_except ?_)
      refine wpAny_execs_cons (wpAny_If (testW (ws := w0 :: r) (kn := 2) S₁₁ W D₁₀ rfl (by rw [List.length_map]; exact Nat.le_trans hwn (by decide)) rfl rfl fun tk₁₃ => ?_))
      have hi5 : i < 501 := by omega
      have hA0 := hA.less (k := 1) (by omega)
      have hnum : (upd (upd (upd m "number" (.int ((i : Int) + 1) tn)) "line" (.str l tl)) "words" (.ref D₁)) "number" = some (.int ((i : Int) + 1) tn) := upd_ne (by decide) (upd_ne (by decide) upd_eq)
      have hmo : (upd (upd (upd m "number" (.int ((i : Int) + 1) tn)) "line" (.str l tl)) "words" (.ref D₁)) "ops" = some (.ref ol) := upd_ne (by decide) (upd_ne (by decide) (upd_ne (by decide) m1))
      have hmw : (upd (upd (upd m "number" (.int ((i : Int) + 1) tn)) "line" (.str l tl)) "words" (.ref D₁)) "words" = some (.ref D₁) := upd_eq
      have hz0 : ((w0 :: r).map Dt.str).length ≤ 1000 := by rw [List.length_map]; exact Nat.le_trans hwn (by decide)
      have hvz : vs.length ≤ 1000 := by rw [Dv.length]; omega
      have hls : lineRes (w0 :: r) = wordRes w0 r := lineRes_cons hst
      generalize hM : (upd (upd (upd m "number" (.int ((i : Int) + 1) tn)) "line" (.str l tl)) "words" (.ref D₁)) = M at S₁₁ hnum hmo hmw
      cases hc1 : (decide (w0 = Str.ofString "get") && decide ((w0 :: r).length = 2)) with
      | true =>
        simp only [Bool.and_eq_true, decide_eq_true_eq, List.length_cons] at hc1
        obtain ⟨rfl, hr1⟩ := hc1
        obtain ⟨k, rfl⟩ : ∃ k, r = [k] := by
          cases r with
          | nil => simp at hr1
          | cons k r => cases r with
            | nil => exact ⟨k, rfl⟩
            | cons _ _ => simp at hr1
        refine wpAny_execs_cons (wpAny_Expr (callM "list" "list.append" PySem.F.plainAttrs_list PySem.F.slot_list_append PySem.F.type_list_append (nmL S₁₁ hmo ⟨⟨_, (S₁₁.un _ (.tail _ (.tail _ (.head _)))).1, rfl⟩, fun b e => by cases e; exact ⟨_, (S₁₁.un _ (.tail _ (.tail _ (.head _)))).1, rfl⟩,
          wpAny_items_cons (Tuple_ (wpAny_items_cons (wpAny_Constant_str (wpAny_items_cons (callU (o := o3) (fd := docF 3 pm3 cd3 dc3) (nmG S₁₁ W e3 ⟨rfl, wpAny_items_cons (Subscript_ (nmL S₁₁ hmw (wpAny_Constant_int (sbL (i := 1) S₁₁ D₁₀ rfl hz0 fun y hy => ?_))))⟩))))))⟩)))
        cases hy
        refine wpAny_items_nil ⟨⟨S₁₁.fr.keep _ _ f3.at_, f3.d⟩, ?_⟩
        dsimp only
        refine check_name_spec (s := { s with heap := h₁₁, toks := _ }) hA1 ((X.cx.ext S₁₁.fr.keep).push S₁₁) (W.keeps S₁₁.fr.keep) e3 (.str _ _) (hws k (by simp)).1 (fun hok h₁₂ tk₁₄ hx₁₂ => ?_) fun hbad msg hmsg => tryFly hA0 X hL S₁₁ hnum hlog (line_len hi5 hmsg) (bad (by rw [hls]; simp [wordRes, hbad]) msg hmsg (fun q => absurd rfl q))
        have S₁₂ := S₁₁.ext hx₁₂
        dsimp only
        refine wpAny_items_cons (wpAny_Constant_int (wpAny_items_nil (mkTup S₁₂ (by simp) fun h₁₃ ta S₁₃ => wpAny_items_nil (lApp (U := fun n' => [(e, eo), (it, io), (ol, lstO (vs ++ [.ref ta]) n')]) S₁₃ (fun n' => .tail (.tail .head)) hvz fun h₁₄ n₁₄ S₁₄ => ?_))))
        refine wpAny_execs_nil (wpAny_execs_nil (wpAny_execs_nil (wpAny_execs_nil ?_)))
        dsimp only
        exact ⟨_, _, _, _, _, rfl, ⟨fun p hp => .tail _ (.tail _ (hsub p hp)), vs ++ [.ref ta], n₁₄, ops ++ [.tuple [.str (Str.ofString "get"), .str k, .int 0]], rfl, hmo,
          by rw [htk, allRes_snoc, hops, hWs, hls]; simp [wordRes, hok], by simp; omega, (Dv.mono fun p hp => .tail _ (.tail _ (.tail _ hp))).append (.cons (.tuple (.head _) rfl rfl (.cons (.str _ _) (.cons (.str _ _) (.cons (.int _ _) .nil)))) .nil)⟩, S₁₄⟩
      | false =>
        refine wpAny_execs_cons (wpAny_If (testW (ws := w0 :: r) (kn := 3) S₁₁ W D₁₀ hmw hz0 rfl rfl fun tk₁₄ => ?_))
        cases hc2 : (decide (w0 = Str.ofString "put") && decide ((w0 :: r).length = 3)) with
        | false =>
          refine wpAny_execs_cons (tryRaise hA0 X W hL S₁₁ hnum hlog (line_len hi5 (by decide)) (bad (by
            rw [hls]
            unfold wordRes
            split
            · rw [if_neg]; simp at hc1 ⊢; intro h; exact absurd h hc1
            · rw [if_neg]; simp at hc2 ⊢; intro h; exact absurd h hc2
            · rfl) _ (by decide) (by
              unfold badTail
              split
              · rename_i q; cases q
              · exact fun _ => rfl
              · rename_i q; cases q; rw [if_neg (by simpa using hc2)]; rfl
              · rfl)))
        | true =>
          simp only [Bool.and_eq_true, decide_eq_true_eq, List.length_cons] at hc2
          obtain ⟨rfl, hr1⟩ := hc2
          obtain ⟨k, kv, rfl⟩ : ∃ k kv, r = [k, kv] := by
            cases r with
            | nil => simp at hr1
            | cons k r => cases r with
              | nil => simp at hr1
              | cons kv r => cases r with
                | nil => exact ⟨k, kv, rfl⟩
                | cons _ _ => simp at hr1
          refine wpAny_execs_cons (wpAny_Expr (callM "list" "list.append" PySem.F.plainAttrs_list PySem.F.slot_list_append PySem.F.type_list_append (nmL S₁₁ hmo ⟨⟨_, (S₁₁.un _ (.tail _ (.tail _ (.head _)))).1, rfl⟩, fun b e => by cases e; exact ⟨_, (S₁₁.un _ (.tail _ (.tail _ (.head _)))).1, rfl⟩,
            wpAny_items_cons (Tuple_ (wpAny_items_cons (wpAny_Constant_str (wpAny_items_cons (callU (o := o3) (fd := docF 3 pm3 cd3 dc3) (nmG S₁₁ W e3 ⟨rfl, wpAny_items_cons (Subscript_ (nmL S₁₁ hmw (wpAny_Constant_int (sbL (i := 1) S₁₁ D₁₀ rfl hz0 fun y hy => ?_))))⟩))))))⟩)))
          cases hy
          refine wpAny_items_nil ⟨⟨S₁₁.fr.keep _ _ f3.at_, f3.d⟩, ?_⟩
          dsimp only
          refine check_name_spec (s := { s with heap := h₁₁, toks := _ }) hA1 ((X.cx.ext S₁₁.fr.keep).push S₁₁) (W.keeps S₁₁.fr.keep) e3 (.str _ _) (hws k (by simp)).1 (fun hok h₁₂ tk₁₄ hx₁₂ => ?_) fun hbad msg hmsg => tryFly hA0 X hL S₁₁ hnum hlog (line_len hi5 hmsg) (bad (by rw [hls]; simp [wordRes, hbad]) msg hmsg (badPut fun q => by rw [hbad] at q; cases q))
          have S₁₂ := S₁₁.ext hx₁₂
          dsimp only
          refine wpAny_items_cons (callU (o := o6) (fd := docF 7 pm6 cd6 dc6) (nmG S₁₂ W e6 ⟨rfl, wpAny_items_cons (Subscript_ (nmL S₁₂ hmw (wpAny_Constant_int (sbL (i := 2) S₁₂ D₁₀ rfl hz0 fun y hy => ?_))))⟩))
          cases hy
          refine wpAny_items_nil ⟨⟨S₁₂.fr.keep _ _ f6.at_, f6.d⟩, ?_⟩
          dsimp only
          have hNT := (hws kv (by simp)).2
          refine parse_signed_spec (s := { s with heap := h₁₂, toks := _ }) (hA'.less (by omega)) ((X.cx.ext S₁₂.fr.keep).push S₁₂) (W.keeps S₁₂.fr.keep) e6 hNT (fun nn hn tt h₁₅ tk₁₅ hx₁₅ => ?_) fun msg hmsg => tryFly hA0 X hL S₁₂ hnum hlog (line_len hi5 (parse_err_len hNT hmsg)) (bad (by rw [hls]; simp [wordRes, hok, hmsg]) msg (parse_err_len hNT hmsg) (badPut fun _ => hmsg))
          have S₁₅ := S₁₂.ext hx₁₅
          dsimp only
          refine wpAny_items_nil (mkTup S₁₅ (by simp) fun h₁₃ ta S₁₃ => wpAny_items_nil (lApp (U := fun n' => [(e, eo), (it, io), (ol, lstO (vs ++ [.ref ta]) n')]) S₁₃ (fun n' => .tail (.tail .head)) hvz fun h₁₄ n₁₄ S₁₄ => ?_))
          refine wpAny_execs_nil (wpAny_execs_nil (wpAny_execs_nil (wpAny_execs_nil (wpAny_execs_nil ?_))))
          dsimp only
          exact ⟨_, _, _, _, _, rfl, ⟨fun p hp => .tail _ (.tail _ (hsub p hp)), vs ++ [.ref ta], n₁₄, ops ++ [.tuple [.str (Str.ofString "put"), .str k, .int nn]], rfl, hmo,
            by rw [htk, allRes_snoc, hops, hWs, hls]; simp [wordRes, hok, hn], by simp; omega, (Dv.mono fun p hp => .tail _ (.tail _ (.tail _ hp))).append (.cons (.tuple (.head _) rfl rfl (.cons (.str _ _) (.cons (.str _ _) (.cons (.int _ _) .nil)))) .nil)⟩, S₁₄⟩
  · rintro m u g' h tk₁ hsub ⟨vs, n, ops, rfl, m1, hops, hopl, Dv⟩ S₆
    rw [List.length_map, List.take_length] at hops
    refine wpAny_execs_cons (wpAny_Return_some (nmL S₆ m1 ?_))
    exact hk ops hops _ ((ol, lstO vs n) :: g') _ _ S₆.fr.keep (fun p hp => by
      rcases List.mem_cons.mp hp with rfl | hp
      · exact ⟨(S₆.un _ (.head _)).1, (S₆.un _ (.head _)).2.2⟩
      · exact ⟨(S₆.led p hp).1, (S₆.prov p hp).elim (fun q => nomatch q) id⟩) (.list (.head _) (Dv.mono fun p hp => .tail _ hp))
end
end Mine
end
section
open PySem PyProof.Rows PySem.Calls PySem.W
set_option maxRecDepth 100000
namespace Mine
section
variable {prog : Program} {w : World} {A : Around} {E : Value → Shared → Prop} {s : Shared} {mg mb : Str → Option Value} {a : Addr} {x : Str} {t : Tok} {Q : Value → Shared → Prop} {outer : List Env}
theorem parse_count_spec (hA : OkA A 3) (X : Cx A outer s.heap) (W : Wd mg mb s.heap) (ha : mg (fdAt 6).name = some (.ref a)) (hx : NumT x)
    (hk : ∀ n, parseN x 1 = .ok n → ∀ t' h' tk, Ext s.heap h' → Q (.int n t') { s with heap := h', toks := tk }) (he : ∀ msg, parseN x 1 = .error msg → Err E s outer msg) :
    wpAny (model prog w) A (call (.ref a) [.str x t]) Q E s := by
  obtain ⟨of, pm, cd, dc, fn⟩ := fn_of W (i := 6) (by decide) ha
  obtain ⟨a5, o5, pm5, cd5, dc5, e5, f5⟩ := W.fn 5 (by decide)
  refine enterX (i := 6) (n := 2) (hb := s.heap) (u := []) (g := []) (binds := [("text", .str x t)]) hA fn W.nolimit (Ext.refl _) (Nat.le_refl _)
    (fun _ h => nomatch h) (fun _ h => nomatch h) (fun _ h => nomatch h) (by simp) rfl ?_
  intro L h₁ tk hL hx₁ S hA'
  conv in (fdAt 6).body => whnf
  refine wpAny_execs_cons (wpAny_Return_some (callU (o := o5) (fd := docF 5 pm5 cd5 dc5) (nmG S W e5 ⟨rfl, wpAny_items_cons (nmL S rfl (wpAny_items_cons (wpAny_Constant_int (wpAny_items_nil ⟨⟨S.fr.keep _ _ f5.at_, f5.d⟩, ?_⟩))))⟩)))
  dsimp only
  refine parse_number_spec (s := { s with heap := h₁, toks := _ }) hA' ((X.ext S.fr.keep).push S) (W.keeps S.fr.keep) e5 hx (by decide +kernel) (by decide +kernel) (fun n hn t' h' tk' hx' => hk n hn t' h' tk' (Ext.trans S.fr.keep hx')) fun msg hm => passP X hL S (he _ hm)
end
def withinD (d : Dt) (lo : Int) : Bool := match d with
  | .int n => decide (lo ≤ n) && decide (n ≤ 1000000000000000000)
  | _ => false
def plD (b : Bool) : Dt := if b then .none else .str (Str.ofString "")
section
variable {prog : Program} {w : World} {A : Around} {E : Value → Shared → Prop} {s : Shared} {mg mb : Str → Option Value} {a : Addr} {t : Tok} {Q : Value → Shared → Prop} {v : Value} {d : Dt} {lo : Int}
set_option maxHeartbeats 1000000 in
theorem law_place_spec (hA : OkA A 1) (W : Wd mg mb s.heap) (ha : mg (fdAt 19).name = some (.ref a)) (D : DL [] v d) (hd : d = .none ∨ Scalar d)
    (hk : ∀ v' h' tk, Ext s.heap h' → DL [] v' (plD (withinD d lo)) → Q v' { s with heap := h', toks := tk }) : wpAny (model prog w) A (call (.ref a) [v, .int lo t]) Q E s := by
  obtain ⟨of, pm, cd, dc, fn⟩ := fn_of W (i := 19) (by decide) ha
  obtain ⟨tm, em⟩ := W.const ("_law_most", 1000000000000000000) (by decide)
  dsimp only at em
  refine enterP (i := 19) (n := 0) (hb := s.heap) (u := []) (g := []) (binds := [("value", v), ("lowest", .int lo t)]) hA fn W.nolimit (Ext.refl _) (Nat.le_refl _)
    (fun _ h => nomatch h) (fun _ h => nomatch h) (fun _ h => nomatch h) (by simp) rfl ?_
  intro L h₁ tk S hA'
  conv in (fdAt 19).body => whnf
  cases D with
  | int n tn =>
    refine wpAny_execs_cons (wpAny_If (wpAny_isTrue_Compare1 (callT "type" (nmB S W (W.free _ (by decide)) rfl ⟨rfl, wpAny_items_cons (nmL S rfl (wpAny_items_nil (call_type_of (Tx := "int") rfl rfl (nmB S W (W.free _ (by decide)) rfl (wpAny_is_self rfl (wpAny_truthy_bool ?_))))))⟩))))
    refine wpAny_execs_cons (wpAny_If (isTrue_chain (nmL S rfl (test_link (nmL S rfl (PyProof.Rows.le_int (wpAny_truthy_bool ?_)))))))
    by_cases h1 : lo ≤ n
    · rw [decide_eq_true h1]
      refine test_last (nmG S W em (PyProof.Rows.le_int (wpAny_truthy_bool ?_)))
      by_cases h2 : n ≤ 1000000000000000000
      · rw [decide_eq_true h2]
        have e : withinD (.int n) lo = true := by simp [withinD, h1, h2]
        rw [e] at hk
        exact wpAny_execs_cons (wpAny_Return_some (wpAny_Constant_none (hk _ _ _ S.fr.keep .none)))
      · rw [decide_eq_false h2]
        have e : withinD (.int n) lo = false := by simp [withinD, h2]
        rw [e] at hk
        exact wpAny_execs_nil (wpAny_execs_nil (wpAny_execs_cons (wpAny_Return_some (wpAny_Constant_str (hk _ _ _ S.fr.keep (.str _ _))))))
    · rw [decide_eq_false h1]
      have e : withinD (.int n) lo = false := by simp [withinD, h1]
      rw [e] at hk
      exact wpAny_execs_nil (wpAny_execs_nil (wpAny_execs_cons (wpAny_Return_some (wpAny_Constant_str (hk _ _ _ S.fr.keep (.str _ _))))))
  | bool b =>
    refine wpAny_execs_cons (wpAny_If (wpAny_isTrue_Compare1 (callT "type" (nmB S W (W.free _ (by decide)) rfl ⟨rfl, wpAny_items_cons (nmL S rfl (wpAny_items_nil (call_type_of (Tx := "bool") rfl rfl (nmB S W (W.free _ (by decide)) rfl (wpAny_is_other rfl (fun h => absurd (Value.type.inj h) (by decide)) (wpAny_truthy_bool ?_))))))⟩))))
    exact wpAny_execs_nil (wpAny_execs_cons (wpAny_Return_some (wpAny_Constant_str (hk _ h₁ _ S.fr.keep (.str _ _)))))
  | str x tx =>
    refine wpAny_execs_cons (wpAny_If (wpAny_isTrue_Compare1 (callT "type" (nmB S W (W.free _ (by decide)) rfl ⟨rfl, wpAny_items_cons (nmL S rfl (wpAny_items_nil (call_type_of (Tx := "str") rfl rfl (nmB S W (W.free _ (by decide)) rfl (wpAny_is_other rfl (fun h => absurd (Value.type.inj h) (by decide)) (wpAny_truthy_bool ?_))))))⟩))))
    exact wpAny_execs_nil (wpAny_execs_cons (wpAny_Return_some (wpAny_Constant_str (hk _ h₁ _ S.fr.keep (.str _ _)))))
  | flt x tx =>
    refine wpAny_execs_cons (wpAny_If (wpAny_isTrue_Compare1 (callT "type" (nmB S W (W.free _ (by decide)) rfl ⟨rfl, wpAny_items_cons (nmL S rfl (wpAny_items_nil (call_type_of (Tx := "float") rfl rfl (nmB S W (W.free _ (by decide)) rfl (wpAny_is_other rfl (fun h => absurd (Value.type.inj h) (by decide)) (wpAny_truthy_bool ?_))))))⟩))))
    exact wpAny_execs_nil (wpAny_execs_cons (wpAny_Return_some (wpAny_Constant_str (hk _ h₁ _ S.fr.keep (.str _ _)))))
  | none =>
    refine wpAny_execs_cons (wpAny_If (wpAny_isTrue_Compare1 (callT "type" (nmB S W (W.free _ (by decide)) rfl ⟨rfl, wpAny_items_cons (nmL S rfl (wpAny_items_nil (call_type_of (Tx := "NoneType") rfl rfl (nmB S W (W.free _ (by decide)) rfl (wpAny_is_other rfl (fun h => absurd (Value.type.inj h) (by decide)) (wpAny_truthy_bool ?_))))))⟩))))
    exact wpAny_execs_nil (wpAny_execs_cons (wpAny_Return_some (wpAny_Constant_str (hk _ h₁ _ S.fr.keep (.str _ _)))))
  | list _ _ => rcases hd with h | h; cases h; exact h.elim
  | tuple _ _ _ _ => rcases hd with h | h; cases h; exact h.elim
end
end Mine
end
section
open PySem PyProof.Rows PySem.Calls PySem.W
set_option maxRecDepth 100000
namespace Mine
def timesS (x : Str) (n : Nat) : Str := ⟨(List.replicate n x.cps).foldl (· ++ ·) #[]⟩
/-- an expression whose value is a scalar and which makes nothing -/
def Ev (prog : Program) (w : World) (A : Around) (E : Value → Shared → Prop) (env : Env) (s : Shared) (e : Expr) (d : Dt) : Prop :=
  ∀ (tk : Nat) (Q' : Value → Shared → Prop), (∀ v tk', DL [] v d → Q' v { s with toks := tk' }) → wpAny (model prog w) A (eval e env) Q' E { s with toks := tk }
section
variable {prog : Program} {w : World} {A : Around} {E : Value → Shared → Prop} {s : Shared} {h₀ : Heap} {L a : Addr} {gi : Lg} {m mg mb : Str → Option Value} {u g : Lg} {cn : Str} {cs : Scope} {cd : Value} {cl : List (Str × Addr)}
variable {e e1 e2 : Expr} {i j : Int} {x y : Str} {d : Dt} {v : Value} {k : Nat} {p : Pos}
theorem Ev.ki {env : Env} : Ev prog w A E env s (.Constant (.int i) k p) (.int i) := fun _ _ h => wpAny_Constant_int (h _ _ (.int _ _))
theorem Ev.ks {env : Env} : Ev prog w A E env s (.Constant (.str x) k p) (.str x) := fun _ _ h => wpAny_Constant_str (h _ _ (.str _ _))
theorem Ev.kb {env : Env} {b : Bool} : Ev prog w A E env s (.Constant (.bool b) k p) (.bool b) := fun tk _ h => wpAny_Constant_bool (h _ tk (.bool _))
theorem Ev.kn {env : Env} : Ev prog w A E env s (.Constant .none k p) .none := fun tk _ h => wpAny_Constant_none (h _ tk .none)
theorem Ev.nm (S : St h₀ L gi m u g s.heap) (hv : m x = some v) (D : DL [] v d)
    (hk : cs.kind = .function := by rfl) (hx : (eX cn cs L a cd cl).kindOf x = some .local := by rfl) (hd : (x == ("__debug__" : Str)) = false := by decide) :
    Ev prog w A E (eX cn cs L a cd cl) s (.Name x p) d := fun tk _ h => nmL (s := { s with toks := tk }) S hv (h _ tk D) hk hx hd
theorem Ev.mod {env : Env} (h1 : Ev prog w A E env s e1 (.int i)) (h2 : Ev prog w A E env s e2 (.int j)) (hj : j ≠ 0) : Ev prog w A E env s (.BinOp e1 .Mod e2 p) (.int (i.fmod j)) := fun tk Q' h => by
  refine wpAny_BinOp (h1 tk _ fun v1 tk1 D1 => h2 tk1 _ fun v2 tk2 D2 => ?_)
  cases D1; cases D2
  exact PyProof.Rows.mod_int' hj (h _ _ (.int _ _))
theorem Ev.add {env : Env} (h1 : Ev prog w A E env s e1 (.int i)) (h2 : Ev prog w A E env s e2 (.int j)) : Ev prog w A E env s (.BinOp e1 .Add e2 p) (.int (i + j)) := fun tk Q' h => by
  refine wpAny_BinOp (h1 tk _ fun v1 tk1 D1 => h2 tk1 _ fun v2 tk2 D2 => ?_)
  cases D1; cases D2
  exact PyProof.Rows.add_int (h _ _ (.int _ _))
theorem Ev.sub {env : Env} (h1 : Ev prog w A E env s e1 (.int i)) (h2 : Ev prog w A E env s e2 (.int j)) : Ev prog w A E env s (.BinOp e1 .Sub e2 p) (.int (i - j)) := fun tk Q' h => by
  refine wpAny_BinOp (h1 tk _ fun v1 tk1 D1 => h2 tk1 _ fun v2 tk2 D2 => ?_)
  cases D1; cases D2
  exact PyProof.Rows.sub_int (h _ _ (.int _ _))
theorem Ev.neg {env : Env} (h1 : Ev prog w A E env s e1 (.int i)) : Ev prog w A E env s (.UnaryOp .USub e1 p) (.int (-i)) := fun tk Q' h => by
  refine wpAny_UnaryOp (h1 tk _ fun v1 tk1 D1 => ?_)
  cases D1
  exact neg_int (h _ _ (.int _ _))
theorem Ev.cat {env : Env} (h1 : Ev prog w A E env s e1 (.str x)) (h2 : Ev prog w A E env s e2 (.str y)) (hz : x.length + y.length ≤ sizeLine) : Ev prog w A E env s (.BinOp e1 .Add e2 p) (.str (x ++ y)) := fun tk Q' h => by
  refine wpAny_BinOp (h1 tk _ fun v1 tk1 D1 => h2 tk1 _ fun v2 tk2 D2 => ?_)
  cases D1; cases D2
  exact PyProof.Rows.add_str (fun t tk => h _ _ (.str _ _)) hz
theorem Ev.times {env : Env} {n : Nat} (h1 : Ev prog w A E env s e1 (.str x)) (h2 : Ev prog w A E env s e2 (.int n)) (hn : 1 < n) (hn2 : n ≤ 5000) (hx : x.length = 1) (hl : (timesS x n).length ≤ sizeLine) : Ev prog w A E env s (.BinOp e1 .Mult e2 p) (.str (timesS x n)) := fun tk Q' h => by
  refine wpAny_BinOp (h1 tk _ fun v1 tk1 D1 => h2 tk1 _ fun v2 tk2 D2 => ?_)
  cases D1; cases D2
  refine PySem.P.mul_str (by simp; omega) (fun _ _ => ?_) (fun _ _ => ?_) ?_
  · have : (100 : Int) ≤ (2 ^ 63 - 1) / n := Int.le_ediv_of_mul_le (by omega) (by omega)
    omega
  · have h2 : (5000 : Nat) ≤ sizeLine := by decide
    unfold PySem.Builtin.Str.tooLong
    rw [hx]; simp
    omega
  · rw [if_neg (by omega), if_neg (by simp; omega)]
    exact ⟨by simpa [timesS] using hl, h _ _ (.str _ _)⟩
theorem Ev.text (S : St h₀ L gi m u g s.heap) (W : Wd mg mb h₀) (h1 : Ev prog w A E (eX cn cs L a cd cl) s e (.int i)) (hl : i.natAbs.log2 < 1920)
    {np : Pos} (hk : cs.kind = .function := by rfl) (hx : (eX cn cs L a cd cl).kindOf "str" = some .globalImplicit := by rfl)
    (he : starEach [e] (eX cn cs L a cd cl) = (false, eval e (eX cn cs L a cd cl)) :: starEach [] (eX cn cs L a cd cl) := by rfl) :
    Ev prog w A E (eX cn cs L a cd cl) s (.Call (.Name "str" np) [e] [] p) (.str (itoa i)) := fun tk Q' h => by
  refine callT "str" (nmB (s := { s with toks := tk }) S W (W.free _ (by decide)) rfl ⟨rfl, ?_⟩ (by decide) hk hx) he rfl
  refine wpAny_items_cons (h1 tk _ fun v1 tk1 D1 => ?_) he
  cases D1
  exact wpAny_items_nil (PySem.P.str_of_int hl (h _ _ (.str _ _)))
/-- a pair of such -/
theorem pairE {Q : Value → Shared → Prop} {d1 d2 : Dt} {pt : Pos} (S : St h₀ L gi m u g s.heap) (h1 : Ev prog w A E (eX cn cs L a cd cl) s e1 d1) (h2 : Ev prog w A E (eX cn cs L a cd cl) s e2 d2)
    (h : ∀ h' b o tk, St h₀ L gi m u ((b, o) :: g) h' → DL ((b, o) :: g) (.ref b) (.tuple [d1, d2]) → Q (.ref b) { s with heap := h', toks := tk })
    (hs1 : starEach [e1, e2] (eX cn cs L a cd cl) = (false, eval e1 (eX cn cs L a cd cl)) :: starEach [e2] (eX cn cs L a cd cl) := by rfl)
    (hs2 : starEach [e2] (eX cn cs L a cd cl) = (false, eval e2 (eX cn cs L a cd cl)) :: starEach [] (eX cn cs L a cd cl) := by rfl) (tk : Nat) :
    wpAny (model prog w) A (eval (.Tuple [e1, e2] k pt) (eX cn cs L a cd cl)) Q E { s with toks := tk } := by
  refine Tuple_ (wpAny_items_cons (h1 tk _ fun v1 tk1 D1 => wpAny_items_cons (h2 tk1 _ fun v2 tk2 D2 => wpAny_items_nil (mkTup (s := { s with toks := tk2 }) S (by simp) fun h' b S' => ?_)) hs2) hs1)
  exact h _ _ _ _ S' (.tuple (.head _) rfl rfl (.cons (D1.mono fun _ h => by cases h) (.cons (D2.mono fun _ h => by cases h) .nil)))
end
end Mine
end
section
open PySem PyProof.Rows PySem.Calls PySem.W
set_option maxRecDepth 100000
namespace Mine
def fm (x b : Int) : Nat := (x.fmod b).toNat
theorem fm_eq {x b : Int} (hb : 0 < b) : x.fmod b = (fm x b : Int) := by
  unfold fm
  have := Int.fmod_nonneg_of_pos x hb
  omega
theorem fm_lt {x : Int} {b : Nat} (hb : 0 < b) : fm x b < b := by
  have h1 := Int.fmod_lt_of_pos x (b := (b : Int)) (by omega)
  unfold fm; omega
def numQ (p : Str × Dt) : Dt := .tuple [.str p.1, p.2]
def junkT : List (Str × Dt) := [("--1", .none), ("+1", .str "1"), ("1_0", .none), ("٣", .bool true), ("-", .bool false), ("", .flt)]
theorem tab_junk : (("_law_junk" : Str), Dt.tuple (junkT.map numQ)) ∈ tabL := by
  have : tabL[0]? = some (("_law_junk" : Str), Dt.tuple (junkT.map numQ)) := by with_unfolding_all rfl
  exact List.mem_of_getElem? this
def numL (n : Int) : List (Str × Dt) := [
  (itoa (n.fmod 9 + 1), .int (n.fmod 9 + 1)), (itoa (n.fmod 5 - 2), .int (n.fmod 5 - 2)), (itoa (999999999999999999 + n.fmod 3), .int (999999999999999999 + n.fmod 3)),
  (itoa (-(999999999999999999 + n.fmod 3)), .int (-(999999999999999999 + n.fmod 3))), (timesS (Str.ofString "0") 20 ++ itoa (999999999999999999 + n.fmod 3), .int (999999999999999999 + n.fmod 3)),
  (Str.ofString "-00" ++ itoa (n.fmod 2), .int (-(n.fmod 2))), junkT.getD (fm n 6) ("", .none), (Str.ofString "0" ++ itoa (n.fmod 9 + 1), .int (n.fmod 9 + 1))]
def numAt (kind n : Int) : Str × Dt := (numL n).getD (fm kind 8) ("", .none)
section
variable {prog : Program} {w : World} {A : Around} {E : Value → Shared → Prop} {s : Shared} {h₀ : Heap} {L a : Addr} {gi : Lg} {m mg mb : Str → Option Value} {u g : Lg} {cn : Str} {cs : Scope} {cd : Value} {cl : List (Str × Addr)}
/-- x = e -/
theorem asgE {Q : Flow → Shared → Prop} {x : Str} {e : Expr} {d : Dt} {p1 p2 : Pos} {rest : List Stmt} {tk : Nat} (S : St h₀ L gi m u g s.heap) (h1 : Ev prog w A E (eX cn cs L a cd cl) s e d)
    (h : ∀ v h' tk', DL [] v d → St h₀ L gi (upd m x v) u g h' → wpAny (model prog w) A (execs rest (eX cn cs L a cd cl)) Q E { s with heap := h', toks := tk' })
    (hs : swapsWith e (some (.Name x p1)) p2.line (eX cn cs L a cd cl) = pure false := by rfl) (hk : cs.kind = .function := by rfl) (hx : (eX cn cs L a cd cl).kindOf x = some .local := by rfl) :
    wpAny (model prog w) A (execs (.Assign [.Name x p1] e p2 :: rest) (eX cn cs L a cd cl)) Q E { s with toks := tk } := by
  refine wpAny_execs_cons (wpAny_Assign_Name (h1 tk _ fun v tk' D => stL (s := { s with toks := tk' }) S (fun h' S' => ?_) hk hx) hs)
  exact h v h' _ D S'
end
theorem logs : ∀ i : Int, -2000000000000000000 ≤ i → i ≤ 2000000000000000000 → i.natAbs.log2 < 1920 := fun i h1 h2 => by
  by_cases h : i.natAbs = 0
  · rw [h]; decide
  · exact (Nat.log2_lt h).mpr (Nat.lt_of_lt_of_le (by omega : i.natAbs < 2 ^ 64) (Nat.pow_le_pow_right (by decide) (by decide)))
theorem len9 {n : Int} : (itoa (n.fmod 9 + 1)).length ≤ 30 := by
  have key : ∀ r : Fin 9, (itoa ((r.val : Int) + 1)).length ≤ 30 := by decide +kernel
  rw [fm_eq (x := n) (b := 9) (by decide)]
  exact key ⟨fm n 9, fm_lt (b := 9) (by decide)⟩
theorem len3 {n : Int} : (itoa (999999999999999999 + n.fmod 3)).length ≤ 30 := by
  have key : ∀ r : Fin 3, (itoa (999999999999999999 + (r.val : Int))).length ≤ 30 := by decide +kernel
  rw [fm_eq (x := n) (b := 3) (by decide)]
  exact key ⟨fm n 3, fm_lt (b := 3) (by decide)⟩
theorem len2 {n : Int} : (itoa (n.fmod 2)).length ≤ 30 := by
  have key : ∀ r : Fin 2, (itoa (r.val : Int)).length ≤ 30 := by decide +kernel
  rw [fm_eq (x := n) (b := 2) (by decide)]
  exact key ⟨fm n 2, fm_lt (b := 2) (by decide)⟩
section
variable {prog : Program} {w : World} {A : Around} {E : Value → Shared → Prop} {s : Shared} {mg mb : Str → Option Value} {a : Addr} {Q : Value → Shared → Prop} {g : Lg} {kind n : Int} {t1 t2 : Tok}
set_option maxHeartbeats 4000000 in
theorem law_number_spec (hA : OkA A 1) (W : Wd mg mb s.heap) (ha : mg (fdAt 16).name = some (.ref a)) (hg : ∀ p ∈ g, s.heap.get? p.1 = some p.2) (hT : ∀ p ∈ tabL, ∃ v, mg p.1 = some v ∧ DL g v p.2)
    (hk : ∀ v g' h' tk, Ext s.heap h' → (∀ p ∈ g', h'.get? p.1 = some p.2) → (∀ p ∈ g', p ∈ g ∨ s.heap.get? p.1 = none) → DL g' v (numQ (numAt kind n)) → Q v { s with heap := h', toks := tk }) :
    wpAny (model prog w) A (call (.ref a) [.int kind t1, .int n t2]) Q E s := by
  obtain ⟨of, pm, cd, dc, fn⟩ := fn_of W (i := 16) (by decide) ha
  obtain ⟨vJ, eJ, DJ⟩ := hT _ tab_junk
  dsimp only at eJ DJ
  have b9 : 0 ≤ n.fmod 9 ∧ n.fmod 9 < 9 := ⟨Int.fmod_nonneg_of_pos n (by omega), Int.fmod_lt_of_pos n (by omega)⟩
  have b5 : 0 ≤ n.fmod 5 ∧ n.fmod 5 < 5 := ⟨Int.fmod_nonneg_of_pos n (by omega), Int.fmod_lt_of_pos n (by omega)⟩
  have b3 : 0 ≤ n.fmod 3 ∧ n.fmod 3 < 3 := ⟨Int.fmod_nonneg_of_pos n (by omega), Int.fmod_lt_of_pos n (by omega)⟩
  have b2 : 0 ≤ n.fmod 2 ∧ n.fmod 2 < 2 := ⟨Int.fmod_nonneg_of_pos n (by omega), Int.fmod_lt_of_pos n (by omega)⟩
  have hj6 : fm n 6 < 6 := fm_lt (b := 6) (by decide)
  have hj : junkT[fm n 6]? = some (junkT.getD (fm n 6) ("", .none)) := by
    have h' : fm n 6 < junkT.length := hj6
    simp [List.getD, List.getElem?_eq_getElem h']
  have hk8 : fm kind 8 < 8 := fm_lt (b := 8) (by decide)
  have hn8 : (numL n)[fm kind 8]? = some (numAt kind n) := by
    have h' : fm kind 8 < (numL n).length := hk8
    simp [numAt, List.getD, List.getElem?_eq_getElem h']
  have big : (1000 : Nat) ≤ sizeLine := by decide
  refine enterP (i := 16) (n := 0) (hb := s.heap) (u := []) (g := g) (binds := [("kind", .int kind t1), ("n", .int n t2)]) hA fn W.nolimit (Ext.refl _) (Nat.le_refl _)
    (fun _ h => nomatch h) hg (fun _ _ _ h => nomatch h) (by simp) rfl ?_
  intro L h₁ tk S hA'
  conv in (fdAt 16).body => whnf
  refine asgE (s := { s with heap := h₁, toks := tk }) S (.sub (.mod (.nm S rfl (.int n t2)) .ki (by decide)) .ki) fun v1 h₂ tk₂ D1 S₂ => ?_
  refine asgE (s := { s with heap := h₂, toks := tk₂ }) S₂ (.add .ki (.mod (.nm S₂ rfl (.int n t2)) .ki (by decide))) fun v2 h₃ tk₃ D2 S₃ => ?_
  dsimp only
  cases D1
  cases D2
  have l20 : (timesS (Str.ofString "0") 20).length = 20 := by decide +kernel
  have l3 : (Str.ofString "-00").length = 3 := by decide
  have l1 : (Str.ofString "0").length = 1 := by decide
  have q9 := len9 (n := n)
  have q3 := len3 (n := n)
  have q2 := len2 (n := n)
  refine wpAny_execs_cons (wpAny_Assign_Name (List_ (wpAny_items_cons (pairE (s := { s with heap := h₃, toks := tk₃ }) S₃ (.text S₃ W (.add (.mod (.nm S₃ rfl (.int n t2)) .ki (by decide)) .ki) (logs _ (by omega) (by omega))) (.add (.mod (.nm S₃ rfl (.int n t2)) .ki (by decide)) .ki) (fun h₄ b4 o4 tk₄ S₄ D₄ => ?_) (tk := tk₃)))))
  dsimp only
  refine wpAny_items_cons (pairE (s := { s with heap := h₄, toks := tk₄ }) S₄ (.text S₄ W (.nm S₄ rfl (.int _ _)) (logs _ (by omega) (by omega))) (.nm S₄ rfl (.int _ _)) (fun h₅ b5 o5 tk₅ S₅ D₅ => ?_) (tk := tk₄))
  dsimp only
  refine wpAny_items_cons (pairE (s := { s with heap := h₅, toks := tk₅ }) S₅ (.text S₅ W (.nm S₅ rfl (.int _ _)) (logs _ (by omega) (by omega))) (.nm S₅ rfl (.int _ _)) (fun h₆ b6 o6 tk₆ S₆ D₆ => ?_) (tk := tk₅))
  dsimp only
  refine wpAny_items_cons (pairE (s := { s with heap := h₆, toks := tk₆ }) S₆ (.text S₆ W (.neg (.nm S₆ rfl (.int _ _))) (logs _ (by omega) (by omega))) (.neg (.nm S₆ rfl (.int _ _))) (fun h₇ b7 o7 tk₇ S₇ D₇ => ?_) (tk := tk₆))
  dsimp only
  refine wpAny_items_cons (pairE (s := { s with heap := h₇, toks := tk₇ }) S₇ (.cat (.times (n := 20) .ks .ki (by decide) (by decide) (by decide) (by rw [l20]; omega)) (.text S₇ W (.nm S₇ rfl (.int _ _)) (logs _ (by omega) (by omega))) (by rw [l20]; omega)) (.nm S₇ rfl (.int _ _)) (fun h₈ b8 o8 tk₈ S₈ D₈ => ?_) (tk := tk₇))
  dsimp only
  refine wpAny_items_cons (pairE (s := { s with heap := h₈, toks := tk₈ }) S₈ (.cat .ks (.text S₈ W (.mod (.nm S₈ rfl (.int n t2)) .ki (by decide)) (logs _ (by omega) (by omega))) (by rw [l3]; omega)) (.neg (.mod (.nm S₈ rfl (.int n t2)) .ki (by decide))) (fun h₉ b9 o9 tk₉ S₉ D₉ => ?_) (tk := tk₈))
  dsimp only
  refine wpAny_items_cons (Subscript_ (nmG S₉ W eJ (Ev.mod (s := { s with heap := h₉, toks := tk₉ }) (.nm S₉ rfl (.int n t2)) .ki (by decide) tk₉ _ fun vj tkj Dj => ?_)))
  cases Dj
  rw [fm_eq (x := n) (b := 6) (by decide)]
  refine sbT (i := fm n 6) (d := numQ (junkT.getD (fm n 6) ("", .none))) S₉ (DJ.mono fun p hp => .tail _ (.tail _ (.tail _ (.tail _ (.tail _ (.tail _ hp)))))) (by rw [List.getElem?_map, hj]; rfl) (by decide) fun jv Djv => ?_
  dsimp only
  refine wpAny_items_cons (pairE (s := { s with heap := h₉, toks := tkj }) S₉ (.cat .ks (.text S₉ W (.add (.mod (.nm S₉ rfl (.int n t2)) .ki (by decide)) .ki) (logs _ (by omega) (by omega))) (by rw [l1]; omega)) (.add (.mod (.nm S₉ rfl (.int n t2)) .ki (by decide)) .ki) (fun h₁₀ b10 o10 tk₁₀ S₁₀ D₁₀ => ?_) (tk := tkj))
  dsimp only
  refine wpAny_items_nil (mkLst (s := { s with heap := h₁₀, toks := tk₁₀ }) S₁₀ (by simp) fun h₁₁ lf S₁₁ => stL (s := { s with heap := h₁₁, toks := tk₁₀ }) S₁₁ fun h₁₂ S₁₂ => ?_)
  dsimp only
  have DF : DL ((lf, lstO [.ref b4, .ref b5, .ref b6, .ref b7, .ref b8, .ref b9, jv, .ref b10] 0) :: (b10, o10) :: (b9, o9) :: (b8, o8) :: (b7, o7) :: (b6, o6) :: (b5, o5) :: (b4, o4) :: g) (.ref lf) (.list ((numL n).map numQ)) := by
    refine .list (.head _) ?_
    exact .cons (D₄.mono fun p hp => .tail _ (.tail _ (.tail _ (.tail _ (.tail _ (.tail _ (.tail _ hp))))))) (.cons (D₅.mono fun p hp => .tail _ (.tail _ (.tail _ (.tail _ (.tail _ (.tail _ hp)))))) (.cons (D₆.mono fun p hp => .tail _ (.tail _ (.tail _ (.tail _ (.tail _ hp))))) (.cons (D₇.mono fun p hp => .tail _ (.tail _ (.tail _ (.tail _ hp)))) (.cons (D₈.mono fun p hp => .tail _ (.tail _ (.tail _ hp))) (.cons (D₉.mono fun p hp => .tail _ (.tail _ hp)) (.cons (Djv.mono fun p hp => .tail _ (.tail _ hp)) (.cons (D₁₀.mono fun p hp => .tail _ hp) .nil)))))))
  refine wpAny_execs_cons (wpAny_Return_some (Subscript_ (nmL S₁₂ rfl (Ev.mod (s := { s with heap := h₁₂, toks := 0 }) (.nm S₁₂ rfl (.int kind t1)) .ki (by decide) _ _ fun vk tkk Dk => ?_))))
  cases Dk
  rw [fm_eq (x := kind) (b := 8) (by decide)]
  refine sbL (i := fm kind 8) (d := numQ (numAt kind n)) S₁₂ DF (by rw [List.getElem?_map, hn8]; rfl) (by simp [numL]) fun rv Drv => ?_
  exact hk rv _ _ _ S₁₂.fr.keep (fun p hp => (S₁₂.led p hp).1) S₁₂.prov Drv
end
end Mine
end
section
open PySem PyProof.Rows PySem.Calls PySem.W
set_option maxRecDepth 100000
namespace Mine
def wideS : Str := timesS (Str.ofString "x") 200
def opsD : Option (List Str) → Dt
  | none => .none
  | some l => .list (l.map .str)
def nameLW (wideS : Str) : List (Str × Bool × Option (List Str)) := [("a", true, some ["a"]), ("b", true, some ["b"]), ("a b", true, some ["a b"]), ("é", true, some ["é"]), (wideS, true, some [wideS]), (wideS ++ Str.ofString "x", false, none), ("", false, some []), (" a", false, some ["a"]), ("b\t", false, some ["b"]), ("a\x07b", false, none), ("b", true, some ["b"]), ("a", true, some ["a"])]
def nameQ (p : Str × Bool × Option (List Str)) : Dt := .tuple [.str p.1, .bool p.2.1, opsD p.2.2]
def nameAt (kind : Int) : Str × Bool × Option (List Str) := (nameLW wideS).getD (fm kind 12) ("", false, none)
def wordLW (wideS : Str) : List (Str × Bool) := [("a", true), ("b", true), ("#k", true), ("get", true), (wideS, true), (wideS ++ Str.ofString "x", false), ("a\x07b", false), ("é", true)]
def wordQ (p : Str × Bool) : Dt := .tuple [.str p.1, .bool p.2]
def wordAt (kind : Int) : Str × Bool := (wordLW wideS).getD (fm kind 8) ("", false)
section
variable {prog : Program} {w : World} {A : Around} {E : Value → Shared → Prop} {s : Shared} {h₀ : Heap} {L a : Addr} {gi : Lg} {m : Str → Option Value} {u g : Lg} {cn : Str} {cs : Scope} {cd : Value} {cl : List (Str × Addr)} {e1 e2 e3 : Expr} {d1 d2 d3 : Dt} {k : Nat} {pt pl : Pos} {Q : Value → Shared → Prop}
theorem triE (S : St h₀ L gi m u g s.heap) (h1 : Ev prog w A E (eX cn cs L a cd cl) s e1 d1) (h2 : Ev prog w A E (eX cn cs L a cd cl) s e2 d2) (h3 : Ev prog w A E (eX cn cs L a cd cl) s e3 d3)
    (h : ∀ h' b o tk, St h₀ L gi m u ((b, o) :: g) h' → DL ((b, o) :: g) (.ref b) (.tuple [d1, d2, d3]) → Q (.ref b) { s with heap := h', toks := tk })
    (hs1 : starEach [e1, e2, e3] (eX cn cs L a cd cl) = (false, eval e1 (eX cn cs L a cd cl)) :: starEach [e2, e3] (eX cn cs L a cd cl) := by rfl)
    (hs2 : starEach [e2, e3] (eX cn cs L a cd cl) = (false, eval e2 (eX cn cs L a cd cl)) :: starEach [e3] (eX cn cs L a cd cl) := by rfl)
    (hs3 : starEach [e3] (eX cn cs L a cd cl) = (false, eval e3 (eX cn cs L a cd cl)) :: starEach [] (eX cn cs L a cd cl) := by rfl) (tk : Nat) :
    wpAny (model prog w) A (eval (.Tuple [e1, e2, e3] k pt) (eX cn cs L a cd cl)) Q E { s with toks := tk } := by
  refine Tuple_ (wpAny_items_cons (h1 tk _ fun v1 tk1 D1 => wpAny_items_cons (h2 tk1 _ fun v2 tk2 D2 => wpAny_items_cons (h3 tk2 _ fun v3 tk3 D3 => wpAny_items_nil (mkTup (s := { s with toks := tk3 }) S (by simp) fun h' b S' => ?_)) hs3) hs2) hs1)
  exact h _ _ _ _ S' (.tuple (.head _) rfl rfl (.cons (D1.mono fun _ h => by cases h) (.cons (D2.mono fun _ h => by cases h) (.cons (D3.mono fun _ h => by cases h) .nil))))
theorem triL1 (S : St h₀ L gi m u g s.heap) (h1 : Ev prog w A E (eX cn cs L a cd cl) s e1 d1) (h2 : Ev prog w A E (eX cn cs L a cd cl) s e2 d2) (h3 : Ev prog w A E (eX cn cs L a cd cl) s e3 d3)
    (h : ∀ h' b o b' o' tk, St h₀ L gi m u ((b, o) :: (b', o') :: g) h' → DL ((b, o) :: (b', o') :: g) (.ref b) (.tuple [d1, d2, .list [d3]]) → Q (.ref b) { s with heap := h', toks := tk })
    (hs1 : starEach [e1, e2, .List [e3] pl] (eX cn cs L a cd cl) = (false, eval e1 (eX cn cs L a cd cl)) :: starEach [e2, .List [e3] pl] (eX cn cs L a cd cl) := by rfl)
    (hs2 : starEach [e2, .List [e3] pl] (eX cn cs L a cd cl) = (false, eval e2 (eX cn cs L a cd cl)) :: starEach [.List [e3] pl] (eX cn cs L a cd cl) := by rfl)
    (hs3 : starEach [.List [e3] pl] (eX cn cs L a cd cl) = (false, eval (.List [e3] pl) (eX cn cs L a cd cl)) :: starEach [] (eX cn cs L a cd cl) := by rfl)
    (hs4 : starEach [e3] (eX cn cs L a cd cl) = (false, eval e3 (eX cn cs L a cd cl)) :: starEach [] (eX cn cs L a cd cl) := by rfl) (tk : Nat) :
    wpAny (model prog w) A (eval (.Tuple [e1, e2, .List [e3] pl] k pt) (eX cn cs L a cd cl)) Q E { s with toks := tk } := by
  refine Tuple_ (wpAny_items_cons (h1 tk _ fun v1 tk1 D1 => wpAny_items_cons (h2 tk1 _ fun v2 tk2 D2 => wpAny_items_cons (List_ (wpAny_items_cons (h3 tk2 _ fun v3 tk3 D3 => wpAny_items_nil (mkLst (s := { s with toks := tk3 }) S (by simp) fun h₂ b' S₂ => wpAny_items_nil (mkTup (s := { s with heap := h₂, toks := tk3 }) S₂ (by simp) fun h' b S' => ?_))) hs4)) hs3) hs2) hs1)
  exact h _ _ _ _ _ _ S' (.tuple (.head _) rfl rfl (.cons (D1.mono fun _ h => by cases h) (.cons (D2.mono fun _ h => by cases h) (.cons (.list (.tail _ (.head _)) (.cons (D3.mono fun _ h => by cases h) .nil)) .nil))))
theorem triL0 (S : St h₀ L gi m u g s.heap) (h1 : Ev prog w A E (eX cn cs L a cd cl) s e1 d1) (h2 : Ev prog w A E (eX cn cs L a cd cl) s e2 d2)
    (h : ∀ h' b o b' o' tk, St h₀ L gi m u ((b, o) :: (b', o') :: g) h' → DL ((b, o) :: (b', o') :: g) (.ref b) (.tuple [d1, d2, .list []]) → Q (.ref b) { s with heap := h', toks := tk })
    (hs1 : starEach [e1, e2, .List [] pl] (eX cn cs L a cd cl) = (false, eval e1 (eX cn cs L a cd cl)) :: starEach [e2, .List [] pl] (eX cn cs L a cd cl) := by rfl)
    (hs2 : starEach [e2, .List [] pl] (eX cn cs L a cd cl) = (false, eval e2 (eX cn cs L a cd cl)) :: starEach [.List [] pl] (eX cn cs L a cd cl) := by rfl)
    (hs3 : starEach [.List [] pl] (eX cn cs L a cd cl) = (false, eval (.List [] pl) (eX cn cs L a cd cl)) :: starEach [] (eX cn cs L a cd cl) := by rfl) (tk : Nat) :
    wpAny (model prog w) A (eval (.Tuple [e1, e2, .List [] pl] k pt) (eX cn cs L a cd cl)) Q E { s with toks := tk } := by
  refine Tuple_ (wpAny_items_cons (h1 tk _ fun v1 tk1 D1 => wpAny_items_cons (h2 tk1 _ fun v2 tk2 D2 => wpAny_items_cons (List_ (wpAny_items_nil (mkLst (s := { s with toks := tk2 }) S (by simp) fun h₂ b' S₂ => wpAny_items_nil (mkTup (s := { s with heap := h₂, toks := tk2 }) S₂ (by simp) fun h' b S' => ?_)))) hs3) hs2) hs1)
  exact h _ _ _ _ _ _ S' (.tuple (.head _) rfl rfl (.cons (D1.mono fun _ h => by cases h) (.cons (D2.mono fun _ h => by cases h) (.cons (.list (.tail _ (.head _)) .nil) .nil))))
end
theorem wide_len : wideS.length = 200 := by decide +kernel
section
variable {prog : Program} {w : World} {A : Around} {E : Value → Shared → Prop} {s : Shared} {mg mb : Str → Option Value} {a : Addr} {Q : Value → Shared → Prop} {kind : Int} {t1 : Tok}

set_option maxHeartbeats 400000 in
theorem law_name_spec (hA : OkA A 1) (W : Wd mg mb s.heap) (ha : mg (fdAt 17).name = some (.ref a))
    (hk : ∀ v g' h' tk, Ext s.heap h' → (∀ p ∈ g', h'.get? p.1 = some p.2 ∧ s.heap.get? p.1 = none) → DL g' v (nameQ (nameAt kind)) → Q v { s with heap := h', toks := tk }) :
    wpAny (model prog w) A (call (.ref a) [.int kind t1]) Q E s := by
  obtain ⟨of, pm, cd, dc, fn⟩ := fn_of W (i := 17) (by decide) ha
  have hk8 : fm kind 12 < 12 := fm_lt (b := 12) (by decide)
  have lw := wide_len
  obtain ⟨wS, hwS⟩ : ∃ wS, wideS = wS := ⟨_, rfl⟩
  have hL : nameAt kind = (nameLW wS).getD (fm kind 12) ("", false, none) := by rw [← hwS]; rfl
  rw [hL] at hk
  rw [hwS] at lw
  have hn8 : (nameLW wS)[fm kind 12]? = some ((nameLW wS).getD (fm kind 12) ("", false, none)) := by
    have h' : fm kind 12 < (nameLW wS).length := hk8
    simp [List.getD, List.getElem?_eq_getElem h']
  have lwx : wS.length + (Str.ofString "x").length ≤ sizeLine := by rw [lw]; decide
  refine enterP (i := 17) (n := 0) (hb := s.heap) (u := []) (g := []) (binds := [("kind", .int kind t1)]) hA fn W.nolimit (Ext.refl _) (Nat.le_refl _)
    (fun _ h => nomatch h) (fun _ h => nomatch h) (fun _ h => nomatch h) (by simp) rfl ?_
  intro L h₁ tk S hA'
  conv in (fdAt 17).body => whnf
  refine asgE (s := { s with heap := h₁, toks := tk }) S (.times (n := 200) .ks .ki (by decide) (by decide) (by decide) (by show wideS.length ≤ sizeLine; rw [wide_len]; decide)) fun v1 h₂ tk₂ D1 S₂ => ?_
  dsimp only
  replace D1 : DL [] v1 (.str wS) := by rw [← hwS]; exact D1
  clear hwS hL
  cases D1
  refine wpAny_execs_cons ?_
  refine wpAny_Assign_Name ?_ ?_
  rotate_left
  · rfl
  refine List_ ?_
  refine wpAny_items_cons ?_
  refine triL1 (s := { s with heap := h₂, toks := tk₂ }) S₂ .ks .kb .ks (fun h₃ b3 o3 c3 p3 tk₃ S₃ D₃ => ?_) (tk := tk₂)
  dsimp only
  refine wpAny_items_cons ?_
  refine triL1 (s := { s with heap := h₃, toks := tk₃ }) S₃ .ks .kb .ks (fun h₄ b4 o4 c4 p4 tk₄ S₄ D₄ => ?_) (tk := tk₃)
  dsimp only
  refine wpAny_items_cons ?_
  refine triL1 (s := { s with heap := h₄, toks := tk₄ }) S₄ .ks .kb .ks (fun h₅ b5 o5 c5 p5 tk₅ S₅ D₅ => ?_) (tk := tk₄)
  dsimp only
  refine wpAny_items_cons ?_
  refine triL1 (s := { s with heap := h₅, toks := tk₅ }) S₅ .ks .kb .ks (fun h₆ b6 o6 c6 p6 tk₆ S₆ D₆ => ?_) (tk := tk₅)
  dsimp only
  refine wpAny_items_cons ?_
  refine triL1 (s := { s with heap := h₆, toks := tk₆ }) S₆ (.nm S₆ rfl (.str _ _)) .kb (.nm S₆ rfl (.str _ _)) (fun h₇ b7 o7 c7 p7 tk₇ S₇ D₇ => ?_) (tk := tk₆)
  dsimp only
  refine wpAny_items_cons ?_
  refine triE (s := { s with heap := h₇, toks := tk₇ }) S₇ (.cat (.nm S₇ rfl (.str _ _)) .ks lwx) .kb .kn (fun h₈ b8 o8 tk₈ S₈ D₈ => ?_) (tk := tk₇)
  dsimp only
  refine wpAny_items_cons ?_
  refine triL0 (s := { s with heap := h₈, toks := tk₈ }) S₈ .ks .kb (fun h₉ b9 o9 c9 p9 tk₉ S₉ D₉ => ?_) (tk := tk₈)
  dsimp only
  refine wpAny_items_cons ?_
  refine triL1 (s := { s with heap := h₉, toks := tk₉ }) S₉ .ks .kb .ks (fun h₁₀ b10 o10 c10 p10 tk₁₀ S₁₀ D₁₀ => ?_) (tk := tk₉)
  dsimp only
  refine wpAny_items_cons ?_
  refine triL1 (s := { s with heap := h₁₀, toks := tk₁₀ }) S₁₀ .ks .kb .ks (fun h₁₁ b11 o11 c11 p11 tk₁₁ S₁₁ D₁₁ => ?_) (tk := tk₁₀)
  dsimp only
  refine wpAny_items_cons ?_
  refine triE (s := { s with heap := h₁₁, toks := tk₁₁ }) S₁₁ .ks .kb .kn (fun h₁₂ b12 o12 tk₁₂ S₁₂ D₁₂ => ?_) (tk := tk₁₁)
  dsimp only
  refine wpAny_items_cons ?_
  refine triL1 (s := { s with heap := h₁₂, toks := tk₁₂ }) S₁₂ .ks .kb .ks (fun h₁₃ b13 o13 c13 p13 tk₁₃ S₁₃ D₁₃ => ?_) (tk := tk₁₂)
  dsimp only
  refine wpAny_items_cons ?_
  refine triL1 (s := { s with heap := h₁₃, toks := tk₁₃ }) S₁₃ .ks .kb .ks (fun h₁₄ b14 o14 c14 p14 tk₁₄ S₁₄ D₁₄ => ?_) (tk := tk₁₃)
  dsimp only
  refine wpAny_items_nil (mkLst (s := { s with heap := h₁₄, toks := tk₁₄ }) S₁₄ (by simp) fun hf lf Sf => stL (s := { s with heap := hf, toks := tk₁₄ }) Sf fun hg Sg => ?_)
  dsimp only
  have DF := DL.list (g := (lf, lstO [.ref b3, .ref b4, .ref b5, .ref b6, .ref b7, .ref b8, .ref b9, .ref b10, .ref b11, .ref b12, .ref b13, .ref b14] 0) :: (b14, o14) :: (c14, p14) :: (b13, o13) :: (c13, p13) :: (b12, o12) :: (b11, o11) :: (c11, p11) :: (b10, o10) :: (c10, p10) :: (b9, o9) :: (c9, p9) :: (b8, o8) :: (b7, o7) :: (c7, p7) :: (b6, o6) :: (c6, p6) :: (b5, o5) :: (c5, p5) :: (b4, o4) :: (c4, p4) :: (b3, o3) :: (c3, p3) :: []) (n := 0) (.head _) (show DLs _ _ ((nameLW wS).map nameQ) from .cons (D₃.mono fun p hp => .tail _ (.tail _ (.tail _ (.tail _ (.tail _ (.tail _ (.tail _ (.tail _ (.tail _ (.tail _ (.tail _ (.tail _ (.tail _ (.tail _ (.tail _ (.tail _ (.tail _ (.tail _ (.tail _ (.tail _ (.tail _ (hp)))))))))))))))))))))) (.cons (D₄.mono fun p hp => .tail _ (.tail _ (.tail _ (.tail _ (.tail _ (.tail _ (.tail _ (.tail _ (.tail _ (.tail _ (.tail _ (.tail _ (.tail _ (.tail _ (.tail _ (.tail _ (.tail _ (.tail _ (.tail _ (hp)))))))))))))))))))) (.cons (D₅.mono fun p hp => .tail _ (.tail _ (.tail _ (.tail _ (.tail _ (.tail _ (.tail _ (.tail _ (.tail _ (.tail _ (.tail _ (.tail _ (.tail _ (.tail _ (.tail _ (.tail _ (.tail _ (hp)))))))))))))))))) (.cons (D₆.mono fun p hp => .tail _ (.tail _ (.tail _ (.tail _ (.tail _ (.tail _ (.tail _ (.tail _ (.tail _ (.tail _ (.tail _ (.tail _ (.tail _ (.tail _ (.tail _ (hp)))))))))))))))) (.cons (D₇.mono fun p hp => .tail _ (.tail _ (.tail _ (.tail _ (.tail _ (.tail _ (.tail _ (.tail _ (.tail _ (.tail _ (.tail _ (.tail _ (.tail _ (hp)))))))))))))) (.cons (D₈.mono fun p hp => .tail _ (.tail _ (.tail _ (.tail _ (.tail _ (.tail _ (.tail _ (.tail _ (.tail _ (.tail _ (.tail _ (.tail _ (hp))))))))))))) (.cons (D₉.mono fun p hp => .tail _ (.tail _ (.tail _ (.tail _ (.tail _ (.tail _ (.tail _ (.tail _ (.tail _ (.tail _ (hp))))))))))) (.cons (D₁₀.mono fun p hp => .tail _ (.tail _ (.tail _ (.tail _ (.tail _ (.tail _ (.tail _ (.tail _ (hp))))))))) (.cons (D₁₁.mono fun p hp => .tail _ (.tail _ (.tail _ (.tail _ (.tail _ (.tail _ (hp))))))) (.cons (D₁₂.mono fun p hp => .tail _ (.tail _ (.tail _ (.tail _ (.tail _ (hp)))))) (.cons (D₁₃.mono fun p hp => .tail _ (.tail _ (.tail _ (hp)))) (.cons (D₁₄.mono fun p hp => .tail _ (hp)) (.nil)))))))))))))
  refine wpAny_execs_cons (wpAny_Return_some (Subscript_ (nmL Sg rfl (Ev.mod (s := { s with heap := hg, toks := 0 }) (.nm Sg rfl (.int kind t1)) .ki (by decide) _ _ fun vk tkk Dk => ?_))))
  cases Dk
  rw [fm_eq (x := kind) (b := 12) (by decide)]
  refine sbL (i := fm kind 12) (d := nameQ ((nameLW wS).getD (fm kind 12) ("", false, none))) Sg DF (by rw [List.getElem?_map, hn8]; rfl) (by simp [nameLW]) fun rv Drv => ?_
  exact hk rv _ _ _ Sg.fr.keep (fun p hp => ⟨(Sg.led p hp).1, (Sg.prov p hp).elim (fun q => nomatch q) id⟩) Drv
set_option maxHeartbeats 400000 in
theorem law_word_spec (hA : OkA A 1) (W : Wd mg mb s.heap) (ha : mg (fdAt 18).name = some (.ref a))
    (hk : ∀ v g' h' tk, Ext s.heap h' → (∀ p ∈ g', h'.get? p.1 = some p.2 ∧ s.heap.get? p.1 = none) → DL g' v (wordQ (wordAt kind)) → Q v { s with heap := h', toks := tk }) :
    wpAny (model prog w) A (call (.ref a) [.int kind t1]) Q E s := by
  obtain ⟨of, pm, cd, dc, fn⟩ := fn_of W (i := 18) (by decide) ha
  have hk8 : fm kind 8 < 8 := fm_lt (b := 8) (by decide)
  have lw := wide_len
  obtain ⟨wS, hwS⟩ : ∃ wS, wideS = wS := ⟨_, rfl⟩
  have hL : wordAt kind = (wordLW wS).getD (fm kind 8) ("", false) := by rw [← hwS]; rfl
  rw [hL] at hk
  rw [hwS] at lw
  have hn8 : (wordLW wS)[fm kind 8]? = some ((wordLW wS).getD (fm kind 8) ("", false)) := by
    have h' : fm kind 8 < (wordLW wS).length := hk8
    simp [List.getD, List.getElem?_eq_getElem h']
  have lwx : wS.length + (Str.ofString "x").length ≤ sizeLine := by rw [lw]; decide
  refine enterP (i := 18) (n := 0) (hb := s.heap) (u := []) (g := []) (binds := [("kind", .int kind t1)]) hA fn W.nolimit (Ext.refl _) (Nat.le_refl _)
    (fun _ h => nomatch h) (fun _ h => nomatch h) (fun _ h => nomatch h) (by simp) rfl ?_
  intro L h₁ tk S hA'
  conv in (fdAt 18).body => whnf
  refine asgE (s := { s with heap := h₁, toks := tk }) S (.times (n := 200) .ks .ki (by decide) (by decide) (by decide) (by show wideS.length ≤ sizeLine; rw [wide_len]; decide)) fun v1 h₂ tk₂ D1 S₂ => ?_
  dsimp only
  replace D1 : DL [] v1 (.str wS) := by rw [← hwS]; exact D1
  clear hwS hL
  cases D1
  refine wpAny_execs_cons ?_
  refine wpAny_Assign_Name ?_ ?_
  rotate_left
  · rfl
  refine List_ ?_
  refine wpAny_items_cons ?_
  refine pairE (s := { s with heap := h₂, toks := tk₂ }) S₂ .ks .kb (fun h₃ b3 o3 tk₃ S₃ D₃ => ?_) (tk := tk₂)
  dsimp only
  refine wpAny_items_cons ?_
  refine pairE (s := { s with heap := h₃, toks := tk₃ }) S₃ .ks .kb (fun h₄ b4 o4 tk₄ S₄ D₄ => ?_) (tk := tk₃)
  dsimp only
  refine wpAny_items_cons ?_
  refine pairE (s := { s with heap := h₄, toks := tk₄ }) S₄ .ks .kb (fun h₅ b5 o5 tk₅ S₅ D₅ => ?_) (tk := tk₄)
  dsimp only
  refine wpAny_items_cons ?_
  refine pairE (s := { s with heap := h₅, toks := tk₅ }) S₅ .ks .kb (fun h₆ b6 o6 tk₆ S₆ D₆ => ?_) (tk := tk₅)
  dsimp only
  refine wpAny_items_cons ?_
  refine pairE (s := { s with heap := h₆, toks := tk₆ }) S₆ (.nm S₆ rfl (.str _ _)) .kb (fun h₇ b7 o7 tk₇ S₇ D₇ => ?_) (tk := tk₆)
  dsimp only
  refine wpAny_items_cons ?_
  refine pairE (s := { s with heap := h₇, toks := tk₇ }) S₇ (.cat (.nm S₇ rfl (.str _ _)) .ks lwx) .kb (fun h₈ b8 o8 tk₈ S₈ D₈ => ?_) (tk := tk₇)
  dsimp only
  refine wpAny_items_cons ?_
  refine pairE (s := { s with heap := h₈, toks := tk₈ }) S₈ .ks .kb (fun h₉ b9 o9 tk₉ S₉ D₉ => ?_) (tk := tk₈)
  dsimp only
  refine wpAny_items_cons ?_
  refine pairE (s := { s with heap := h₉, toks := tk₉ }) S₉ .ks .kb (fun h₁₀ b10 o10 tk₁₀ S₁₀ D₁₀ => ?_) (tk := tk₉)
  dsimp only
  refine wpAny_items_nil (mkLst (s := { s with heap := h₁₀, toks := tk₁₀ }) S₁₀ (by simp) fun hf lf Sf => stL (s := { s with heap := hf, toks := tk₁₀ }) Sf fun hg Sg => ?_)
  dsimp only
  have DF := DL.list (g := (lf, lstO [.ref b3, .ref b4, .ref b5, .ref b6, .ref b7, .ref b8, .ref b9, .ref b10] 0) :: (b10, o10) :: (b9, o9) :: (b8, o8) :: (b7, o7) :: (b6, o6) :: (b5, o5) :: (b4, o4) :: (b3, o3) :: []) (n := 0) (.head _) (show DLs _ _ ((wordLW wS).map wordQ) from .cons (D₃.mono fun p hp => .tail _ (.tail _ (.tail _ (.tail _ (.tail _ (.tail _ (.tail _ (.tail _ (hp))))))))) (.cons (D₄.mono fun p hp => .tail _ (.tail _ (.tail _ (.tail _ (.tail _ (.tail _ (.tail _ (hp)))))))) (.cons (D₅.mono fun p hp => .tail _ (.tail _ (.tail _ (.tail _ (.tail _ (.tail _ (hp))))))) (.cons (D₆.mono fun p hp => .tail _ (.tail _ (.tail _ (.tail _ (.tail _ (hp)))))) (.cons (D₇.mono fun p hp => .tail _ (.tail _ (.tail _ (.tail _ (hp))))) (.cons (D₈.mono fun p hp => .tail _ (.tail _ (.tail _ (hp)))) (.cons (D₉.mono fun p hp => .tail _ (.tail _ (hp))) (.cons (D₁₀.mono fun p hp => .tail _ (hp)) (.nil)))))))))
  refine wpAny_execs_cons (wpAny_Return_some (Subscript_ (nmL Sg rfl (Ev.mod (s := { s with heap := hg, toks := 0 }) (.nm Sg rfl (.int kind t1)) .ki (by decide) _ _ fun vk tkk Dk => ?_))))
  cases Dk
  rw [fm_eq (x := kind) (b := 8) (by decide)]
  refine sbL (i := fm kind 8) (d := wordQ ((wordLW wS).getD (fm kind 8) ("", false))) Sg DF (by rw [List.getElem?_map, hn8]; rfl) (by simp [wordLW]) fun rv Drv => ?_
  exact hk rv _ _ _ Sg.fr.keep (fun p hp => ⟨(Sg.led p hp).1, (Sg.prov p hp).elim (fun q => nomatch q) id⟩) Drv
end
end Mine
end
section
open PySem PyProof.Rows PySem.Calls PySem.W
set_option maxRecDepth 100000
namespace Mine
def optL : Option (List Dt) → Dt
  | none => .none
  | some l => .list l
abbrev Ln1 := Str × Option (List Dt)
def lnQ (q : Ln1) : Dt := .tuple [.str q.1, optL q.2]
def LOW : Int := -1000000000000000000
def gotO (wd : Str × Bool) : Option (List Dt) := if wd.2 = true then some [.tuple [.str (Str.ofString "get"), .str wd.1, .int 0]] else none
def putO (wd : Str × Bool) (v : Dt) : Option (List Dt) := if wd.2 = true ∧ withinD v LOW = true then some [.tuple [.str (Str.ofString "put"), .str wd.1, v]] else none
def lineL (x : Str) (t : Str) (got put : Option (List Dt)) : List Ln1 := [(Str.ofString "get " ++ x, got), (Str.ofString "put " ++ x ++ Str.ofString " " ++ t, put), (Str.ofString "\tget  " ++ x ++ Str.ofString " ", got), (Str.ofString " put " ++ x ++ Str.ofString "\t" ++ t ++ Str.ofString "\r", put),
  (Str.ofString " ", some []), (Str.ofString " # " ++ x, some []), (Str.ofString "#put " ++ x ++ Str.ofString " " ++ t, some []), (Str.ofString "get " ++ x ++ Str.ofString " 1", none), (Str.ofString "put " ++ x, none), (Str.ofString "get", none), (Str.ofString "put " ++ x ++ Str.ofString " 1 1", none), (Str.ofString "GET " ++ x, none)]
def lineAt (kind : Int) (wd : Str × Bool) (p : Str × Dt) : Ln1 := (lineL wd.1 p.1 (gotO wd) (putO wd p.2)).getD (fm kind 12) ("", none)
section
variable {prog : Program} {w : World} {A : Around} {E : Value → Shared → Prop} {s : Shared} {h₀ : Heap} {L a : Addr} {gi : Lg} {m : Str → Option Value} {u g : Lg} {cn : Str} {cs : Scope} {cd : Value} {cl : List (Str × Addr)} {e1 e2 e3 : Expr} {d1 d2 d3 : Dt} {k : Nat} {pt pl px : Pos} {Q : Value → Shared → Prop} {x : Str} {v : Value}
/-- a text, with a bound on its length -/
def EvS (prog : Program) (w : World) (A : Around) (E : Value → Shared → Prop) (env : Env) (s : Shared) (e : Expr) (x : Str) (n : Nat) : Prop := Ev prog w A E env s e (.str x) ∧ x.length ≤ n
theorem EvS.ks {env : Env} {y : Str} {kk : Nat} {pp : Pos} : EvS prog w A E env s (.Constant (.str y) kk pp) y y.length := ⟨.ks, Nat.le_refl _⟩
theorem EvS.cat {env : Env} {y z : Str} {n1 n2 : Nat} {pp : Pos} (h1 : EvS prog w A E env s e1 y n1) (h2 : EvS prog w A E env s e2 z n2) (hz : n1 + n2 ≤ 16777216 := by decide) : EvS prog w A E env s (.BinOp e1 .Add e2 pp) (y ++ z) (n1 + n2) :=
  ⟨.cat h1.1 h2.1 (by have := h1.2; have := h2.2; have e : sizeLine = 16777216 := by decide
                      omega), by rw [len_app]; have := h1.2; have := h2.2; omega⟩
/-- a pair whose second part is a name -/
theorem pairN (S : St h₀ L gi m u g s.heap) (h1 : Ev prog w A E (eX cn cs L a cd cl) s e1 d1) (hv : m x = some v) (D2 : DL g v d2)
    (h : ∀ h' b o tk, St h₀ L gi m u ((b, o) :: g) h' → DL ((b, o) :: g) (.ref b) (.tuple [d1, d2]) → Q (.ref b) { s with heap := h', toks := tk })
    (hk : cs.kind = .function := by rfl) (hx : (eX cn cs L a cd cl).kindOf x = some .local := by rfl) (hd : (x == ("__debug__" : Str)) = false := by decide)
    (hs1 : starEach [e1, .Name x px] (eX cn cs L a cd cl) = (false, eval e1 (eX cn cs L a cd cl)) :: starEach [.Name x px] (eX cn cs L a cd cl) := by rfl) (tk : Nat) :
    wpAny (model prog w) A (eval (.Tuple [e1, .Name x px] k pt) (eX cn cs L a cd cl)) Q E { s with toks := tk } := by
  refine Tuple_ (wpAny_items_cons (h1 tk _ fun v1 tk1 D1 => wpAny_items_cons (nmL (s := { s with toks := tk1 }) S hv (wpAny_items_nil (mkTup (s := { s with toks := tk1 }) S (by simp) fun h' b S' => ?_)) hk hx hd) rfl) hs1)
  exact h _ _ _ _ S' (.tuple (.head _) rfl rfl (.cons (D1.mono fun _ h => by cases h) (.cons (D2.mono fun p hp => .tail _ hp) .nil)))
theorem pairL0 (S : St h₀ L gi m u g s.heap) (h1 : Ev prog w A E (eX cn cs L a cd cl) s e1 d1)
    (h : ∀ h' b o b' o' tk, St h₀ L gi m u ((b, o) :: (b', o') :: g) h' → DL ((b, o) :: (b', o') :: g) (.ref b) (.tuple [d1, .list []]) → Q (.ref b) { s with heap := h', toks := tk })
    (hs1 : starEach [e1, .List [] pl] (eX cn cs L a cd cl) = (false, eval e1 (eX cn cs L a cd cl)) :: starEach [.List [] pl] (eX cn cs L a cd cl) := by rfl) (tk : Nat) :
    wpAny (model prog w) A (eval (.Tuple [e1, .List [] pl] k pt) (eX cn cs L a cd cl)) Q E { s with toks := tk } := by
  refine Tuple_ (wpAny_items_cons (h1 tk _ fun v1 tk1 D1 => wpAny_items_cons (List_ (wpAny_items_nil (mkLst (s := { s with toks := tk1 }) S (by simp) fun h₂ b' S₂ => wpAny_items_nil (mkTup (s := { s with heap := h₂, toks := tk1 }) S₂ (by simp) fun h' b S' => ?_)))) rfl) hs1)
  exact h _ _ _ _ _ _ S' (.tuple (.head _) rfl rfl (.cons (D1.mono fun _ h => by cases h) (.cons (.list (.tail _ (.head _)) .nil) .nil)))
end
section
variable {prog : Program} {w : World} {A : Around} {E : Value → Shared → Prop} {s : Shared} {mg mb : Str → Option Value} {a : Addr} {Q : Value → Shared → Prop} {kind wk : Int} {t1 t2 : Tok} {g : Lg} {nv : Value} {p : Str × Dt}
set_option maxHeartbeats 1000000 in
theorem law_line_spec (hA : OkA A 2) (W : Wd mg mb s.heap) (ha : mg (fdAt 20).name = some (.ref a)) (hg : ∀ p ∈ g, s.heap.get? p.1 = some p.2) (DN : DL g nv (numQ p)) (hp : p.2 = .none ∨ Scalar p.2) (hpl : p.1.length ≤ 1000) (hwl : (wordAt wk).1.length ≤ 1000)
    (hk : ∀ v g' h' tk, Ext s.heap h' → (∀ p ∈ g', h'.get? p.1 = some p.2) → (∀ p ∈ g', p ∈ g ∨ s.heap.get? p.1 = none) → DL g' v (lnQ (lineAt kind (wordAt wk) p)) → Q v { s with heap := h', toks := tk }) :
    wpAny (model prog w) A (call (.ref a) [.int kind t1, .int wk t2, nv]) Q E s := by
  obtain ⟨of, pm, cd, dc, fn⟩ := fn_of W (i := 20) (by decide) ha
  obtain ⟨a18, o18, pm18, cd18, dc18, e18, f18⟩ := W.fn 18 (by decide)
  obtain ⟨a19, o19, pm19, cd19, dc19, e19, f19⟩ := W.fn 19 (by decide)
  obtain ⟨tm, em⟩ := W.const ("_law_most", 1000000000000000000) (by decide)
  dsimp only at em
  refine enterP (i := 20) (n := 1) (hb := s.heap) (u := []) (g := g) (binds := [("kind", .int kind t1), ("word_kind", .int wk t2), ("number", nv)]) hA fn W.nolimit (Ext.refl _) (Nat.le_refl _)
    (fun _ h => nomatch h) hg (fun _ _ _ h => nomatch h) (by simp) rfl ?_
  intro L h₁ tk S hA'
  conv in (fdAt 20).body => whnf
  refine wpAny_execs_cons (Assign_Tuple (callU (o := o18) (fd := docF 18 pm18 cd18 dc18) (nmG S W e18 ⟨rfl, wpAny_items_cons (nmL S rfl (wpAny_items_nil ⟨⟨S.fr.keep _ _ f18.at_, f18.d⟩, ?_⟩))⟩)))
  refine law_word_spec (s := { s with heap := h₁, toks := _ }) (hA'.less (by omega)) (W.keeps S.fr.keep) e18 fun v₂ g₂ h₂ tk₂ hx₂ hst₂ D₂ => ?_
  have S₂ := S.back (g' := g₂) hx₂ (fun q hq => (hst₂ q hq).1) (fun q hq => .inr (hst₂ q hq).2)
  dsimp only
  generalize wordAt wk = wd at *
  obtain ⟨x, sd⟩ := wd
  obtain ⟨t, dv⟩ := p
  dsimp only at *
  refine unT hA'.hd S₂ (D₂.mono (fun p hp => List.mem_append.mpr (.inl hp))) rfl fun vs₃ h₃ D₃ S₃ => ?_
  cases D₃ with | cons d1 D₃ => cases D₃ with | cons d2 D₃ => cases D₃ with | nil =>
  cases d1
  cases d2
  rename_i tx
  refine assignInOrder_cons (wpAny_assign_Name (stL S₃ fun h₄ S₄ => assignInOrder_cons (wpAny_assign_Name (stL S₄ fun h₅ S₅ => assignInOrder_nil ?_))))
  dsimp only
  refine wpAny_execs_cons (Assign_Tuple (nmL S₅ rfl (unT hA'.hd S₅ (DN.mono (fun p hp => List.mem_append.mpr (.inr hp))) rfl fun vs₆ h₆ D₆ S₆ => ?_)))
  cases D₆ with | cons d1 D₆ => cases D₆ with | cons d2 D₆ => cases D₆ with | nil =>
  cases d1
  rename_i vv tt
  have d2b : DL [] vv dv := by
    rcases hp with h | h
    · subst h; cases d2; exact .none
    · exact d2.bare h
  refine assignInOrder_cons (wpAny_assign_Name (stL S₆ fun h₇ S₇ => assignInOrder_cons (wpAny_assign_Name (stL S₇ fun h₈ S₈ => assignInOrder_nil ?_))))
  dsimp only
  refine asgE (s := { s with heap := h₈, toks := 0 }) S₈ .kn fun v9 h₉ tk₉ D9 S₉ => ?_
  cases D9
  refine asgE (s := { s with heap := h₉, toks := tk₉ }) S₉ .kn fun v10 h₁₀ tk₁₀ D10 S₁₀ => ?_
  cases D10
  dsimp only
  have fin : ∀ (m₄ : Str → Option Value) (r₀ : Heap) (j₀ : Nat) (gg : Lg) (gv pv : Value) (got put : Option (List Dt)), St s.heap L g m₄ [] gg r₀ → m₄ "word" = some (.str x tx) → m₄ "text" = some (.str t tt) → m₄ "got_op" = some gv → m₄ "put_op" = some pv → m₄ "kind" = some (.int kind t1) →
      DL gg gv (optL got) → DL gg pv (optL put) → gotO (x, sd) = got → putO (x, sd) dv = put →
      wpAny (model prog w) (A.deeper (eX (fdAt 20).name (fdAt 20).scope L a cd [])) (execs ((fdAt 20).body.drop 5) (eX (fdAt 20).name (fdAt 20).scope L a cd []))
        (fun fl s' => Q (match fl with | .ret v => v | _ => .none) s') (fun _ _ => False) { s with heap := r₀, toks := j₀ } := by
    intro m₄ r₀ j₀ gg gv pv got put R₀ qw qt qg qp qk Dg Dp hgo hpu
    conv in (List.drop 5 (fdAt 20).body) => whnf
    have hk8 : fm kind 12 < 12 := fm_lt (b := 12) (by decide)
    have hL : lineAt kind (x, sd) (t, dv) = (lineL x t got put).getD (fm kind 12) ("", none) := by unfold lineAt; rw [hgo, hpu]
    rw [hL] at hk
    have hn8 : (lineL x t got put)[fm kind 12]? = some ((lineL x t got put).getD (fm kind 12) ("", none)) := by
      have h' : fm kind 12 < (lineL x t got put).length := hk8
      simp [List.getD, List.getElem?_eq_getElem h']
    refine wpAny_execs_cons ?_
    refine wpAny_Assign_Name ?_ ?_
    rotate_left
    · rfl
    refine List_ ?_
    refine wpAny_items_cons ?_
    refine pairN (s := { s with heap := r₀, toks := j₀ }) R₀ (show EvS _ _ _ _ _ _ _ _ _ from (.cat .ks ⟨.nm R₀ qw (.str x tx), hwl⟩)).1 qg (Dg.mono fun p hp => hp) (fun r₁ b1 o1 j₁ R₁ X₁ => ?_) (tk := j₀)
    dsimp only
    refine wpAny_items_cons ?_
    refine pairN (s := { s with heap := r₁, toks := j₁ }) R₁ (show EvS _ _ _ _ _ _ _ _ _ from (.cat (.cat (.cat .ks ⟨.nm R₁ qw (.str x tx), hwl⟩) .ks) ⟨.nm R₁ qt (.str t tt), hpl⟩)).1 qp (Dp.mono fun p hp => .tail _ (hp)) (fun r₂ b2 o2 j₂ R₂ X₂ => ?_) (tk := j₁)
    dsimp only
    refine wpAny_items_cons ?_
    refine pairN (s := { s with heap := r₂, toks := j₂ }) R₂ (show EvS _ _ _ _ _ _ _ _ _ from (.cat (.cat .ks ⟨.nm R₂ qw (.str x tx), hwl⟩) .ks)).1 qg (Dg.mono fun p hp => .tail _ (.tail _ (hp))) (fun r₃ b3 o3 j₃ R₃ X₃ => ?_) (tk := j₂)
    dsimp only
    refine wpAny_items_cons ?_
    refine pairN (s := { s with heap := r₃, toks := j₃ }) R₃ (show EvS _ _ _ _ _ _ _ _ _ from (.cat (.cat (.cat (.cat .ks ⟨.nm R₃ qw (.str x tx), hwl⟩) .ks) ⟨.nm R₃ qt (.str t tt), hpl⟩) .ks)).1 qp (Dp.mono fun p hp => .tail _ (.tail _ (.tail _ (hp)))) (fun r₄ b4 o4 j₄ R₄ X₄ => ?_) (tk := j₃)
    dsimp only
    refine wpAny_items_cons ?_
    refine pairL0 (s := { s with heap := r₄, toks := j₄ }) R₄ (show EvS _ _ _ _ _ _ _ _ _ from .ks).1 (fun r₅ b5 o5 c5 p5 j₅ R₅ X₅ => ?_) (tk := j₄)
    dsimp only
    refine wpAny_items_cons ?_
    refine pairL0 (s := { s with heap := r₅, toks := j₅ }) R₅ (show EvS _ _ _ _ _ _ _ _ _ from (.cat .ks ⟨.nm R₅ qw (.str x tx), hwl⟩)).1 (fun r₆ b6 o6 c6 p6 j₆ R₆ X₆ => ?_) (tk := j₅)
    dsimp only
    refine wpAny_items_cons ?_
    refine pairL0 (s := { s with heap := r₆, toks := j₆ }) R₆ (show EvS _ _ _ _ _ _ _ _ _ from (.cat (.cat (.cat .ks ⟨.nm R₆ qw (.str x tx), hwl⟩) .ks) ⟨.nm R₆ qt (.str t tt), hpl⟩)).1 (fun r₇ b7 o7 c7 p7 j₇ R₇ X₇ => ?_) (tk := j₆)
    dsimp only
    refine wpAny_items_cons ?_
    refine pairE (s := { s with heap := r₇, toks := j₇ }) R₇ (show EvS _ _ _ _ _ _ _ _ _ from (.cat (.cat .ks ⟨.nm R₇ qw (.str x tx), hwl⟩) .ks)).1 .kn (fun r₈ b8 o8 j₈ R₈ X₈ => ?_) (tk := j₇)
    dsimp only
    refine wpAny_items_cons ?_
    refine pairE (s := { s with heap := r₈, toks := j₈ }) R₈ (show EvS _ _ _ _ _ _ _ _ _ from (.cat .ks ⟨.nm R₈ qw (.str x tx), hwl⟩)).1 .kn (fun r₉ b9 o9 j₉ R₉ X₉ => ?_) (tk := j₈)
    dsimp only
    refine wpAny_items_cons ?_
    refine pairE (s := { s with heap := r₉, toks := j₉ }) R₉ (show EvS _ _ _ _ _ _ _ _ _ from .ks).1 .kn (fun r₁₀ b10 o10 j₁₀ R₁₀ X₁₀ => ?_) (tk := j₉)
    dsimp only
    refine wpAny_items_cons ?_
    refine pairE (s := { s with heap := r₁₀, toks := j₁₀ }) R₁₀ (show EvS _ _ _ _ _ _ _ _ _ from (.cat (.cat .ks ⟨.nm R₁₀ qw (.str x tx), hwl⟩) .ks)).1 .kn (fun r₁₁ b11 o11 j₁₁ R₁₁ X₁₁ => ?_) (tk := j₁₀)
    dsimp only
    refine wpAny_items_cons ?_
    refine pairE (s := { s with heap := r₁₁, toks := j₁₁ }) R₁₁ (show EvS _ _ _ _ _ _ _ _ _ from (.cat .ks ⟨.nm R₁₁ qw (.str x tx), hwl⟩)).1 .kn (fun r₁₂ b12 o12 j₁₂ R₁₂ X₁₂ => ?_) (tk := j₁₁)
    dsimp only
    refine wpAny_items_nil (mkLst (s := { s with heap := r₁₂, toks := j₁₂ }) R₁₂ (by simp) fun hf lf Sf => stL (s := { s with heap := hf, toks := j₁₂ }) Sf fun hg' Sg => ?_)
    dsimp only
    have DF := DL.list (g := (lf, lstO [.ref b1, .ref b2, .ref b3, .ref b4, .ref b5, .ref b6, .ref b7, .ref b8, .ref b9, .ref b10, .ref b11, .ref b12] 0) :: (b12, o12) :: (b11, o11) :: (b10, o10) :: (b9, o9) :: (b8, o8) :: (b7, o7) :: (c7, p7) :: (b6, o6) :: (c6, p6) :: (b5, o5) :: (c5, p5) :: (b4, o4) :: (b3, o3) :: (b2, o2) :: (b1, o1) :: gg) (n := 0) (.head _) (show DLs _ _ ((lineL x t got put).map lnQ) from .cons (X₁.mono fun p hp => .tail _ (.tail _ (.tail _ (.tail _ (.tail _ (.tail _ (.tail _ (.tail _ (.tail _ (.tail _ (.tail _ (.tail _ (.tail _ (.tail _ (.tail _ (hp)))))))))))))))) (.cons (X₂.mono fun p hp => .tail _ (.tail _ (.tail _ (.tail _ (.tail _ (.tail _ (.tail _ (.tail _ (.tail _ (.tail _ (.tail _ (.tail _ (.tail _ (.tail _ (hp))))))))))))))) (.cons (X₃.mono fun p hp => .tail _ (.tail _ (.tail _ (.tail _ (.tail _ (.tail _ (.tail _ (.tail _ (.tail _ (.tail _ (.tail _ (.tail _ (.tail _ (hp)))))))))))))) (.cons (X₄.mono fun p hp => .tail _ (.tail _ (.tail _ (.tail _ (.tail _ (.tail _ (.tail _ (.tail _ (.tail _ (.tail _ (.tail _ (.tail _ (hp))))))))))))) (.cons (X₅.mono fun p hp => .tail _ (.tail _ (.tail _ (.tail _ (.tail _ (.tail _ (.tail _ (.tail _ (.tail _ (.tail _ (hp))))))))))) (.cons (X₆.mono fun p hp => .tail _ (.tail _ (.tail _ (.tail _ (.tail _ (.tail _ (.tail _ (.tail _ (hp))))))))) (.cons (X₇.mono fun p hp => .tail _ (.tail _ (.tail _ (.tail _ (.tail _ (.tail _ (hp))))))) (.cons (X₈.mono fun p hp => .tail _ (.tail _ (.tail _ (.tail _ (.tail _ (hp)))))) (.cons (X₉.mono fun p hp => .tail _ (.tail _ (.tail _ (.tail _ (hp))))) (.cons (X₁₀.mono fun p hp => .tail _ (.tail _ (.tail _ (hp)))) (.cons (X₁₁.mono fun p hp => .tail _ (.tail _ (hp))) (.cons (X₁₂.mono fun p hp => .tail _ (hp)) (.nil)))))))))))))
    refine wpAny_execs_cons (wpAny_Return_some (Subscript_ (nmL Sg rfl (Ev.mod (s := { s with heap := hg', toks := 0 }) (.nm Sg (upd_ne (by decide) qk) (.int kind t1)) .ki (by decide) _ _ fun vk tkk Dk => ?_))))
    cases Dk
    rw [fm_eq (x := kind) (b := 12) (by decide)]
    refine sbL (i := fm kind 12) (d := lnQ ((lineL x t got put).getD (fm kind 12) ("", none))) Sg DF (by rw [List.getElem?_map, hn8]; rfl) (by simp [lineL]) fun rv Drv => ?_
    exact hk rv _ _ _ Sg.fr.keep (fun p hp => (Sg.led p hp).1) Sg.prov Drv
  refine wpAny_execs_cons (wpAny_If (isTrue_plain (nmL S₁₀ rfl (wpAny_truthy_bool ?_))))
  cases sd with
  | false =>
    refine wpAny_execs_nil ?_
    exact fin _ _ _ _ .none .none none none S₁₀ rfl rfl rfl rfl rfl .none .none rfl (by simp [putO])
  | true =>
    have hgo : gotO (x, true) = some [.tuple [.str (Str.ofString "get"), .str x, .int 0]] := rfl
    refine wpAny_execs_cons ?_
    refine wpAny_Assign_Name ?_ ?_
    rotate_left
    · rfl
    refine List_ ?_
    refine wpAny_items_cons ?_
    refine triE (s := { s with heap := h₁₀, toks := 0 }) S₁₀ .ks (.nm S₁₀ rfl (.str x tx)) .ki (fun h₁₁ b11 o11 tk₁₁ S₁₁ D₁₁ => ?_) (tk := _)
    dsimp only
    refine wpAny_items_nil (mkLst (s := { s with heap := h₁₁, toks := tk₁₁ }) S₁₁ (by simp) fun h₁₂ lg S₁₂ => stL (s := { s with heap := h₁₂, toks := tk₁₁ }) S₁₂ fun h₁₃ S₁₃ => ?_)
    dsimp only
    have Dgot : DL ((lg, lstO [.ref b11] 0) :: (b11, o11) :: (g₂ ++ g)) (.ref lg) (optL (some [.tuple [.str (Str.ofString "get"), .str x, .int 0]])) := .list (.head _) (.cons (D₁₁.mono fun p hp => .tail _ hp) .nil)
    refine wpAny_execs_cons (wpAny_If (wpAny_isTrue_Compare1 (callU (o := o19) (fd := docF 19 pm19 cd19 dc19) (nmG S₁₃ W e19 ⟨rfl, wpAny_items_cons (nmL S₁₃ rfl (wpAny_items_cons (wpAny_UnaryOp (nmG S₁₃ W em (neg_int (wpAny_items_nil ⟨⟨S₁₃.fr.keep _ _ f19.at_, f19.d⟩, ?_⟩))))))⟩))))
    dsimp only
    refine law_place_spec (s := { s with heap := h₁₃, toks := _ }) (hA'.less (by omega)) (W.keeps S₁₃.fr.keep) e19 d2b hp fun v' h₁₄ tk₁₄ hx₁₄ Dv' => ?_
    have S₁₄ := S₁₃.ext hx₁₄
    dsimp only
    cases hw : withinD dv LOW with
    | false =>
      rw [show withinD dv (-1000000000000000000) = false from hw] at Dv'
      cases Dv'
      refine wpAny_Constant_none (wpAny_is_other rfl (by intro h; cases h) (wpAny_truthy_bool ?_))
      refine wpAny_execs_nil (wpAny_execs_nil ?_)
      exact fin _ _ _ _ (.ref lg) .none _ none S₁₄ rfl rfl rfl rfl rfl Dgot .none hgo (by simp [putO, hw])
    | true =>
      rw [show withinD dv (-1000000000000000000) = true from hw] at Dv'
      cases Dv'
      refine wpAny_Constant_none (wpAny_is_self rfl (wpAny_truthy_bool ?_))
      refine wpAny_execs_cons ?_
      refine wpAny_Assign_Name ?_ ?_
      rotate_left
      · rfl
      refine List_ ?_
      refine wpAny_items_cons ?_
      refine triE (s := { s with heap := h₁₄, toks := 0 }) S₁₄ .ks (.nm S₁₄ rfl (.str x tx)) (.nm S₁₄ rfl d2b) (fun h₁₅ b15 o15 tk₁₅ S₁₅ D₁₅ => ?_) (tk := _)
      dsimp only
      refine wpAny_items_nil (mkLst (s := { s with heap := h₁₅, toks := tk₁₅ }) S₁₅ (by simp) fun h₁₆ lp S₁₆ => stL (s := { s with heap := h₁₆, toks := tk₁₅ }) S₁₆ fun h₁₇ S₁₇ => ?_)
      dsimp only
      refine wpAny_execs_nil (wpAny_execs_nil ?_)
      exact fin _ _ _ _ (.ref lg) (.ref lp) _ (some [.tuple [.str (Str.ofString "put"), .str x, dv]]) S₁₇ rfl rfl rfl rfl rfl (Dgot.mono fun p hp => .tail _ (.tail _ hp)) (.list (.head _) (.cons (D₁₅.mono fun p hp => .tail _ hp) .nil)) hgo (by simp [putO, hw])
end
end Mine
end
section
open PySem PyProof.Rows PySem.Calls PySem.W
set_option maxRecDepth 100000
namespace Mine
def plMsg (k : Int) : Str := Str.ofString "line " ++ itoa k ++ Str.ofString ": "
def plc : Nat → List Ln1 → Option Str
  | _, [] => none
  | k, p :: r => match p.2 with | some _ => plc (k + 1) r | none => some (plMsg ((k : Int) + 1))
def dueL (ls : List Ln1) : List Dt := ls.flatMap fun p => p.2.getD []
def optS : Option Str → Dt
  | none => .none
  | some x => .str x
theorem plc_snoc (p : Ln1) : ∀ (k : Nat) (ps : List Ln1), plc k (ps ++ [p]) = (plc k ps).or (match p.2 with | some _ => none | none => some (plMsg ((k + ps.length : Nat) + 1 : Int)))
  | k, [] => by cases h : p.2 <;> simp [plc, h]
  | k, q :: r => by
    have ih := plc_snoc p (k + 1) r
    simp only [List.cons_append, plc]
    cases q.2 with
    | none => simp
    | some f =>
      simp only [ih, List.length_cons]
      rw [show k + 1 + r.length = k + (r.length + 1) by omega]
theorem dueL_snoc (ps : List Ln1) (p : Ln1) : dueL (ps ++ [p]) = dueL ps ++ p.2.getD [] := by simp [dueL]
theorem due_len : ∀ {ps : List Ln1}, (∀ p ∈ ps, ∀ l, p.2 = some l → l.length ≤ 1) → (dueL ps).length ≤ ps.length
  | [], _ => Nat.le_refl _
  | p :: r, h => by
    have ih := due_len (ps := r) fun q hq => h q (.tail _ hq)
    have : dueL (p :: r) = p.2.getD [] ++ dueL r := by simp [dueL]
    rw [this, List.length_append, List.length_cons]
    cases hp : p.2 with
    | none => simp; omega
    | some l => have := h p (.head _) l hp; simp; omega
section
variable {prog : Program} {w : World} {A : Around} {E : Value → Shared → Prop} {s : Shared} {mg mb : Str → Option Value} {a : Addr} {Q : Value → Shared → Prop} {g : Lg} {lv : Value} {ls : List Ln1}
set_option maxHeartbeats 1000000 in
theorem lines_due_spec (hA : OkA A 1) (W : Wd mg mb s.heap) (ha : mg (fdAt 21).name = some (.ref a)) (hg : ∀ p ∈ g, s.heap.get? p.1 = some p.2) (D : DL g lv (.list (ls.map lnQ))) (hz : ls.length ≤ 4) (h1 : ∀ p ∈ ls, ∀ l, p.2 = some l → l.length ≤ 1)
    (hk : ∀ v g' h' tk, Ext s.heap h' → (∀ p ∈ g', h'.get? p.1 = some p.2) → (∀ p ∈ g', p ∈ g ∨ s.heap.get? p.1 = none) → DL g' v (.tuple [optS (plc 0 ls), .list (dueL ls)]) → Q v { s with heap := h', toks := tk }) :
    wpAny (model prog w) A (call (.ref a) [lv]) Q E s := by
  obtain ⟨of, pm, cd, dc, fn⟩ := fn_of W (i := 21) (by decide) ha
  refine enterP (i := 21) (n := 0) (hb := s.heap) (u := []) (g := g) (binds := [("lines", lv)]) hA fn W.nolimit (Ext.refl _) (Nat.le_refl _)
    (fun _ h => nomatch h) hg (fun _ _ _ h => nomatch h) (by simp) rfl ?_
  intro L h₁ tk S hA'
  conv in (fdAt 21).body => whnf
  refine asgE (s := { s with heap := h₁, toks := tk }) S .ki fun v2 h₂ tk₂ D2 S₂ => ?_
  cases D2
  refine asgE (s := { s with heap := h₂, toks := tk₂ }) S₂ .kn fun v3 h₃ tk₃ D3 S₃ => ?_
  cases D3
  dsimp only
  refine wpAny_execs_cons (wpAny_Assign_Name (List_ (wpAny_items_nil (mkLst S₃ (by simp) fun h₄ dl S₄ => stL S₄ fun h₅ S₅ => ?_))))
  dsimp only
  refine wpAny_execs_cons (wpAny_For (nmL S₅ rfl (forL
    (fun i m u g' => ∃ dv pv t, u = [] ∧ m "number" = some (.int (i : Int) t) ∧ m "place" = some pv ∧ m "due" = some dv ∧ DL [] pv (optS (plc 0 (ls.take i))) ∧ DL g' dv (.list (dueL (ls.take i))))
    hA'.hd S₅ (D.mono fun p hp => .tail _ hp) ⟨.ref dl, .none, _, rfl, rfl, rfl, rfl, .none, .list (.head _) .nil⟩ (lets_tuple _ _ _) ?_ ?_)))
  · rintro i d v m u g' h tk₁ I io hd hv hsub ⟨dv, pv, t, rfl, m1, m2, m3, Dp, Dd⟩ S₇
    have hi : i < ls.length := by have := (List.getElem?_eq_some_iff.mp hd).1; simpa using this
    obtain ⟨r, hr'⟩ : ∃ r, ls[i]? = some r := ⟨_, List.getElem?_eq_getElem hi⟩
    have hop : d = lnQ r := by rw [List.getElem?_map, hr'] at hd; exact (Option.some.inj hd).symm
    subst hop
    have htk : ls.take (i + 1) = ls.take i ++ [r] := by rw [List.take_add_one, hr']; rfl
    have hpl : plc 0 (ls.take (i + 1)) = (plc 0 (ls.take i)).or (match r.2 with | some _ => none | none => some (plMsg ((i : Int) + 1))) := by
      rw [htk, plc_snoc]
      simp [Nat.min_eq_left (Nat.le_of_lt hi)]
    have hdl : dueL (ls.take (i + 1)) = dueL (ls.take i) ++ r.2.getD [] := by rw [htk, dueL_snoc]
    have hln : (dueL (ls.take i)).length ≤ 4 := by
      have := due_len (ps := ls.take i) fun p hp => h1 p (List.mem_of_mem_take hp)
      rw [List.length_take] at this; omega
    have hr1 := h1 r (List.mem_of_getElem? hr')
    obtain ⟨tx, ops⟩ := r
    dsimp only at *
    refine unT hA'.hd S₇ (hv.mono hsub) rfl fun vs₈ h₈ D₈ S₈ => ?_
    cases D₈ with | cons d1 D₈ => cases D₈ with | cons d2 D₈ => cases D₈ with | nil =>
    cases d1
    rename_i ov tt
    refine assignInOrder_cons (wpAny_assign_Name (stL S₈ fun h₉ S₉ => assignInOrder_cons (wpAny_assign_Name (stL S₉ fun h₁₀ S₁₀ => assignInOrder_nil ?_))))
    dsimp only
    have k0 : upd (upd m "text" (.str tx tt)) "ops" ov "number" = some (.int (i : Int) t) := upd_ne (by decide) (upd_ne (by decide) m1)
    refine wpAny_execs_cons (wpAny_AugAssign_Name (wpAny_loadName_local rfl rfl S₁₀.fr.ns k0 (wpAny_Constant_int (wpAny_iadd_int (stL S₁₀ fun h₁₁ S₁₁ => ?_)))))
    dsimp only
    generalize hM : upd (upd (upd m "text" _) "ops" _) "number" _ = M at S₁₁
    have k1 : ∃ t, M "number" = some (.int ((i + 1 : Nat) : Int) t) := ⟨_, by rw [← hM]; exact upd_eq⟩
    have k2 : M "place" = some pv := by rw [← hM]; exact upd_ne (by decide) (upd_ne (by decide) (upd_ne (by decide) m2))
    have k3 : M "due" = some dv := by rw [← hM]; exact upd_ne (by decide) (upd_ne (by decide) (upd_ne (by decide) m3))
    have k4 : M "ops" = some ov := by rw [← hM]; exact upd_ne (by decide) upd_eq
    clear hM
    obtain ⟨tn, k1⟩ := k1
    cases ops with
    | some l =>
      have hl1 := hr1 l rfl
      have d2' : DL g' ov (.list l) := d2
      have hne : ov ≠ .none := by rintro rfl; cases d2'
      have hpn : plainIs ov .none = true := by cases d2'; rfl
      refine wpAny_execs_cons (wpAny_If (wpAny_isTrue_Compare1 (nmL S₁₁ k4 (wpAny_Constant_none (wpAny_isNot_other hpn hne (wpAny_truthy_bool ?_))))))
      refine wpAny_execs_cons (wpAny_Assign_Name (wpAny_BinOp (nmL S₁₁ k3 (nmL S₁₁ k4 (addL S₁₁ Dd d2' (by omega) fun h₁₂ x o S₁₂ D₁₂ => stL S₁₂ fun h₁₃ S₁₃ => ?_)))))
      dsimp only
      refine wpAny_execs_nil (wpAny_execs_nil ?_)
      refine TurnEnd.next ⟨fun p hp => .tail _ (hsub p hp), .ref x, pv, tn, rfl, upd_ne (by decide) k1, upd_ne (by decide) k2, upd_eq, ?_, ?_⟩ S₁₃
      · rw [hpl]; simpa using Dp
      · rw [hdl]; exact D₁₂
    | none =>
      cases d2
      refine wpAny_execs_cons (wpAny_If (wpAny_isTrue_Compare1 (nmL S₁₁ k4 (wpAny_Constant_none (wpAny_isNot_self rfl (wpAny_truthy_bool ?_))))))
      have hdl' : dueL (ls.take (i + 1)) = dueL (ls.take i) := by rw [hdl]; simp
      cases hp : plc 0 (ls.take i) with
      | some pl =>
        rw [hp] at Dp hpl
        cases Dp
        refine wpAny_execs_cons (wpAny_If (wpAny_isTrue_Compare1 (nmL S₁₁ k2 (wpAny_Constant_none (wpAny_is_other rfl (by intro h; cases h) (wpAny_truthy_bool ?_))))))
        refine wpAny_execs_nil (wpAny_execs_nil (wpAny_execs_nil ?_))
        refine TurnEnd.next ⟨hsub, dv, _, tn, rfl, k1, k2, k3, ?_, ?_⟩ S₁₁
        · rw [hpl]; exact .str _ _
        · rw [hdl']; exact Dd
      | none =>
        rw [hp] at Dp hpl
        cases Dp
        refine wpAny_execs_cons (wpAny_If (wpAny_isTrue_Compare1 (nmL S₁₁ k2 (wpAny_Constant_none (wpAny_is_self rfl (wpAny_truthy_bool ?_))))))
        have ei : ((i + 1 : Nat) : Int) = (i : Int) + 1 := by omega
        have hit : (itoa ((i : Int) + 1)).length ≤ 10 := itoa_small (by omega)
        have l5 : (Str.ofString "line ").length = 5 := by decide
        have l2 : (Str.ofString ": ").length = 2 := by decide
        have big : (1000 : Nat) ≤ sizeLine := by decide
        rw [ei] at k1
        refine asgE (s := { s with heap := h₁₁, toks := 0 }) S₁₁ (.cat (.cat .ks (.text S₁₁ W (.nm S₁₁ k1 (.int _ _)) (logs _ (by omega) (by omega))) (by rw [l5]; omega)) .ks (by rw [len_app, l5, l2]; omega)) fun v12 h₁₂ tk₁₂ D12 S₁₂ => ?_
        refine wpAny_execs_nil (wpAny_execs_nil (wpAny_execs_nil ?_))
        refine TurnEnd.next ⟨hsub, dv, v12, tn, rfl, (upd_ne (by decide) (by rw [ei]; exact k1)), upd_eq, upd_ne (by decide) k3, ?_, ?_⟩ S₁₂
        · rw [hpl]; exact D12
        · rw [hdl']; exact Dd
  · rintro m u g' h tk₁ hsub ⟨dv, pv, t, rfl, m1, m2, m3, Dp, Dd⟩ S₇
    rw [List.length_map, List.take_length] at Dp Dd
    refine wpAny_execs_cons (wpAny_Return_some (Tuple_ (wpAny_items_cons (nmL S₇ m2 (wpAny_items_cons (nmL S₇ m3 (wpAny_items_nil (mkTup S₇ (by simp) fun h₈ tb S₈ => ?_))))))))
    refine hk _ _ _ _ S₈.fr.keep (fun p hp => (S₈.led p hp).1) (fun p hp => (S₈.prov p hp)) ?_
    exact .tuple (.head _) rfl rfl (.cons (Dp.mono fun _ h => by cases h) (.cons (Dd.mono fun p hp => .tail _ hp) .nil))
end
end Mine
end
section
open PySem PyProof.Rows PySem.Calls PySem.W
set_option maxRecDepth 100000
namespace Mine
/-- what one line of a sheet of names gives: none is a bad line -/
def nmRes (l : Str) : Option (List Str) := if (Txt.strip l).length = 0 then some [] else if nameOk (.str (Txt.strip l)) = true then some [Txt.strip l] else none
def nmAll : List Str → Option (List Str)
  | [] => some []
  | l :: r => (nmRes l).bind fun a => (nmAll r).map (a ++ ·)
theorem nmAll_snoc (ls : List Str) (l : Str) : nmAll (ls ++ [l]) = (nmAll ls).bind fun a => (nmRes l).map (a ++ ·) := by
  induction ls with
  | nil => simp only [List.nil_append, nmAll]; cases nmRes l <;> simp
  | cons x r ih =>
    simp only [List.cons_append, nmAll, ih]
    cases nmRes x <;> simp
    cases nmAll r <;> simp
    cases nmRes l <;> simp
section
variable {prog : Program} {w : World} {A : Around} {E : Value → Shared → Prop} {s : Shared} {mg mb : Str → Option Value} {a : Addr} {x : Str} {t : Tok} {Q : Value → Shared → Prop} {outer : List Env}
set_option maxHeartbeats 1000000 in
theorem read_names_spec (hA : OkA A 5) (X : Hx A outer s mg mb) (W : Wd mg mb s.heap) (ha : mg (fdAt 11).name = some (.ref a)) (hxl : x.length + 2 ≤ sizeLine) (hll : (Txt.split x "\n").length ≤ 500)
    (hw : ∀ l ∈ Txt.split x "\n", l.length ≤ 5000 ∧ Sane (Txt.strip l))
    (hk : ∀ ns, nmAll (Txt.split x "\n") = some ns → ∀ v g' h' tk, Ext s.heap h' → (∀ p ∈ g', h'.get? p.1 = some p.2 ∧ s.heap.get? p.1 = none) → DL g' v (.list (ns.map .str)) → Q v { s with heap := h', toks := tk })
    (he : ∀ (i : Nat) l ns, (Txt.split x "\n")[i]? = some l → nmAll ((Txt.split x "\n").take i) = some ns → nmRes l = none → ∀ tail : Str, tail.length ≤ 2000000 → ErrC E s outer (lineMsg ((i : Int) + 1) tail)) :
    wpAny (model prog w) A (call (.ref a) [.str x t]) Q E s := by
  obtain ⟨of, pm, cd, dc, fn⟩ := fn_of W (i := 11) (by decide) ha
  obtain ⟨a3, o3, pm3, cd3, dc3, e3, f3⟩ := W.fn 3 (by decide)
  refine enterX (i := 11) (n := 4) (hb := s.heap) (u := []) (g := []) (binds := [("text", .str x t)]) hA fn W.nolimit (Ext.refl _) (Nat.le_refl _)
    (fun _ h => nomatch h) (fun _ h => nomatch h) (fun _ h => nomatch h) (by simp) rfl ?_
  intro L h₁ tk hL hx₁ S hA'
  have hA1 := hA'.less (k := 1) (by omega)
  have hA0 := hA.less (k := 1) (by omega)
  generalize hlines : Txt.split x "\n" = lines at hll hw hk he
  conv in (fdAt 11).body => whnf
  refine wpAny_execs_cons (wpAny_Assign_Name (List_ (wpAny_items_nil (mkLstU S (by simp) fun h₂ ol S₂ => stL S₂ fun h₃ S₃ => ?_))))
  dsimp only
  refine wpAny_execs_cons (wpAny_For (callT "enumerate" (nmB S₃ W (W.free _ (by decide)) rfl ⟨rfl, wpAny_items_cons (callM "str" "str.split" PySem.F.plainAttrs_str PySem.F.slot_str_split PySem.F.type_str_split (nmL S₃ rfl ⟨typeIs_str _ _ _, (fun a e => nomatch e), wpAny_items_cons (wpAny_Constant_str (wpAny_items_nil (spl1 S₃ hxl (by decide) fun h₄ D o tk₄ S₄ D₄ => ?_)))⟩))⟩)))
  dsimp only
  refine wpAny_items_cons (wpAny_Constant_int (wpAny_items_nil (enumL S₄ D₄ fun h₅ e it eo io S₅ hen hit => ?_)))
  dsimp only
  replace hlines : Txt.split x (Str.ofString "\n") = lines := hlines
  rw [hlines] at D₄
  refine forE (ELC E s _ outer L) (loopC hL)
    (fun i m u g' => ∃ vs n ns, u = [(ol, lstO vs n)] ∧ m "names" = some (.ref ol) ∧ nmAll (lines.take i) = some ns ∧ ns.length ≤ i ∧ DLs g' vs (ns.map .str))
    hA'.hd S₅ D₄ hen hit ⟨[], 0, [], rfl, rfl, rfl, Nat.le_refl _, .nil⟩ ?_ ?_
  · rintro i d v m u g' h tk₁ eo io hd' hv hsub ⟨T, o', g₁, rfl, vs, n, ns, rfl, m1, hops, hopl, Dv⟩ S₆
    have hi : i < lines.length := by have := (List.getElem?_eq_some_iff.mp hd').1; simpa using this
    obtain ⟨l, hl⟩ : ∃ l, lines[i]? = some l := ⟨_, List.getElem?_eq_getElem hi⟩
    have hop : d = .str l := by rw [List.getElem?_map, hl] at hd'; exact (Option.some.inj hd').symm
    subst hop
    have htk : lines.take (i + 1) = lines.take i ++ [l] := by rw [List.take_add_one, hl]; rfl
    obtain ⟨hwl, hws⟩ := hw l (List.mem_of_getElem? hl)
    have bad : nmRes l = none → ∀ tail : Str, tail.length ≤ 2000000 → ErrC E s outer (lineMsg ((i : Int) + 1) tail) := fun hb => he i l ns hl hops hb
    have hlog : ((i : Int) + 1).natAbs.log2 < 1920 := logs _ (by omega) (by omega)
    refine unT hA'.hd S₆ hv rfl fun vs₇ h₇ D₇ S₇ => ?_
    cases D₇ with | cons d1 D₇ => cases D₇ with | cons d2 D₇ => cases D₇ with | nil =>
    cases d1
    cases d2
    rename_i tn tl
    refine assignInOrder_cons (wpAny_assign_Name (stL S₇ fun h₈ S₈ => assignInOrder_cons (wpAny_assign_Name (stL S₈ fun h₉ S₉ => assignInOrder_nil ?_))))
    dsimp only
    refine wpAny_execs_cons (wpAny_Assign_Name (callM0 "str" "str.strip" PySem.F.plainAttrs_str PySem.F.slot_str_strip PySem.F.type_str_strip (nmL S₉ rfl ⟨typeIs_str _ _ _, (fun a e => nomatch e), SC.strip (fun t' k => stL S₉ fun h₁₀ S₁₀ => ?_) (Nat.le_trans hwl (by decide))⟩)))
    dsimp only
    have hi5 : i < 501 := by omega
    generalize hM : (upd (upd (upd m "number" (.int ((i : Int) + 1) tn)) "line" (.str l tl)) "name" _) = M at S₁₀
    have hnum : M "number" = some (.int ((i : Int) + 1) tn) := by rw [← hM]; exact upd_ne (by decide) (upd_ne (by decide) upd_eq)
    have hmo : M "names" = some (.ref ol) := by rw [← hM]; exact upd_ne (by decide) (upd_ne (by decide) (upd_ne (by decide) m1))
    have hmn : ∃ t', M "name" = some (.str (Txt.strip l) t') := ⟨_, by rw [← hM]; exact upd_eq⟩
    obtain ⟨t', hmn⟩ := hmn
    clear hM
    have hnr : nmRes l = if (Txt.strip l).length = 0 then some [] else if nameOk (.str (Txt.strip l)) = true then some [Txt.strip l] else none := rfl
    have hsl := hws.1
    generalize Txt.strip l = nm at *
    refine wpAny_execs_cons (wpAny_If (isTrue_plain (nmL S₁₀ hmn (PySem.P.truthy_str (show ¬ ((nm.length : Nat) : Int) ≥ 2 ^ 63 by omega) ?_))))
    have hvz : vs.length ≤ 1000 := by rw [Dv.length, List.length_map]; omega
    by_cases h0 : nm.length = 0
    · rw [show ((nm.length : Int) != 0) = false by rw [h0]; rfl]
      rw [if_pos h0] at hnr
      refine wpAny_execs_nil (wpAny_execs_nil ?_)
      exact ⟨_, _, _, _, _, rfl, ⟨fun p hp => hsub p hp, vs, n, ns, rfl, hmo, by rw [htk, nmAll_snoc, hops, hnr]; simp, by omega, Dv.mono fun p hp => .tail _ hp⟩, S₁₀⟩
    · rw [show ((nm.length : Int) != 0) = true by simp; omega]
      rw [if_neg h0] at hnr
      refine wpAny_execs_cons (wpAny_Try_except ?_)
      refine wpAny_execs_cons (wpAny_Expr (callM "list" "list.append" PySem.F.plainAttrs_list PySem.F.slot_list_append PySem.F.type_list_append (nmL S₁₀ hmo ⟨⟨_, (S₁₀.un _ (.tail _ (.tail _ (.head _)))).1, rfl⟩, fun b e => by cases e; exact ⟨_, (S₁₀.un _ (.tail _ (.tail _ (.head _)))).1, rfl⟩,
        wpAny_items_cons (callU (o := o3) (fd := docF 3 pm3 cd3 dc3) (nmG S₁₀ W e3 ⟨rfl, wpAny_items_cons (nmL S₁₀ hmn (wpAny_items_nil ⟨⟨S₁₀.fr.keep _ _ f3.at_, f3.d⟩, ?_⟩))⟩))⟩)))
      dsimp only
      refine check_name_spec (s := { s with heap := h₁₀, toks := _ }) hA1 ((X.cx.ext S₁₀.fr.keep).push S₁₀) (W.keeps S₁₀.fr.keep) e3 (.str _ _) hws (fun hok h₁₂ tk₁₄ hx₁₂ => ?_) fun hbad msg hmsg => tryFly hA0 X hL S₁₀ hnum hlog (line_len hi5 hmsg) (bad (by rw [hnr, if_neg (by rw [hbad]; decide)]) msg hmsg)
      have S₁₂ := S₁₀.ext hx₁₂
      dsimp only
      rw [if_pos hok] at hnr
      refine wpAny_items_nil (lApp (U := fun n' => [(e, eo), (it, io), (ol, lstO (vs ++ [.str nm t']) n')]) S₁₂ (fun n' => .tail (.tail .head)) hvz fun h₁₄ n₁₄ S₁₄ => ?_)
      dsimp only
      refine wpAny_execs_nil (wpAny_execs_nil (wpAny_execs_nil (wpAny_execs_nil ?_)))
      exact ⟨_, _, _, _, _, rfl, ⟨fun p hp => hsub p hp, vs ++ [.str nm t'], n₁₄, ns ++ [nm], rfl, hmo, by rw [htk, nmAll_snoc, hops, hnr]; simp, by simp; omega, by rw [List.map_append]; exact (Dv.mono fun p hp => .tail _ hp).append (.cons (.str _ _) .nil)⟩, S₁₄⟩
  · rintro m u g' h tk₁ hsub ⟨vs, n, ns, rfl, m1, hops, hopl, Dv⟩ S₆
    rw [List.length_map, List.take_length] at hops
    refine wpAny_execs_cons (wpAny_Return_some (nmL S₆ m1 ?_))
    exact hk ns hops _ ((ol, lstO vs n) :: g') _ _ S₆.fr.keep (fun p hp => by
      rcases List.mem_cons.mp hp with rfl | hp
      · exact ⟨(S₆.un _ (.head _)).1, (S₆.un _ (.head _)).2.2⟩
      · exact ⟨(S₆.led p hp).1, (S₆.prov p hp).elim (fun q => nomatch q) id⟩) (.list (.head _) (Dv.mono fun p hp => .tail _ hp))
end
end Mine
end
section
open PySem PyProof.Rows PySem.Calls PySem.W
open PySem.AutoSeq1 (wpAny_loadPart')
set_option maxRecDepth 100000
namespace Mine
section
variable {prog : Program} {w : World} {A : Around} {E : Value → Shared → Prop} {s : Shared} {h₀ : Heap} {L : Addr} {gi : Lg} {m : Str → Option Value} {u g : Lg} {Q : Value → Shared → Prop}
theorem strs_of : ∀ {vs : List Value} {texts : List Str}, DLs g vs (texts.map .str) → ∃ l : List (Str × Tok), vs = strValues l ∧ l.map (·.1) = texts
  | _, [], .nil => ⟨[], rfl, rfl⟩
  | _, x :: r, .cons (.str _ t) h => by
    obtain ⟨l, h1, h2⟩ := strs_of h
    exact ⟨(x, t) :: l, by rw [h1]; rfl, by rw [← h2]; rfl⟩
theorem joinU {l : Addr} {vs : List Value} {n : Nat} {x : Str} {t : Tok} {texts : List Str} (S : St h₀ L gi m u g s.heap) (hm : (l, lstO vs n) ∈ u) (D : DLs g vs (texts.map .str)) (hok : JoinOk x texts = true)
    (h : ∀ t' k, Q (.str (Txt.join x texts) t') { s with toks := k }) : wpAny (model prog w) A (call (.builtin "str.join") [.str x t, .ref l]) Q E s := by
  obtain ⟨ls, rfl, h2⟩ := strs_of D
  exact SC.join ⟨_, (S.un _ hm).1, rfl, _, rfl⟩ h2 hok h
end
/-- behind a call in which an exception may have been caught -/
structure Aft (outer : List Env) (h h' : Heap) : Prop where
  keep : ∀ b o, h.get? b = some o → b ∉ frs outer → h'.get? b = some o
  up : ∀ b ∈ frs outer, ∀ o, h.get? b = some o → (∀ vs, o.data ≠ .fields vs) → ∃ sl, h'.get? b = some { o with slots := sl }
  fr : FrP outer h'
theorem Aft.ext {outer : List Env} {h h' h'' : Heap} (x : Aft outer h h') (k : Ext h' h'') : Aft outer h h'' :=
  ⟨fun b o e hb => k _ _ (x.keep b o e hb), fun b hb o e hn => let ⟨sl, q⟩ := x.up b hb o e hn; ⟨sl, k _ _ q⟩, x.fr.ext k⟩
theorem Aft.of {outer : List Env} {h h' : Heap} (x : FrP outer h) (k : Ext h h') : Aft outer h h' :=
  ⟨fun b o e _ => k _ _ e, fun b _ o e _ => ⟨o.slots, k _ _ e⟩, x.ext k⟩
theorem Hx.call {A : Around} {outer : List Env} {s : Shared} {mg mb : Str → Option Value} {L a : Addr} {gi : Lg} {m : Str → Option Value} {u g : Lg} {cn : Str} {cs : Scope} {cd : Value} {cl : List (Str × Addr)} {h : Heap} {tk : Nat} (X : Hx A outer s mg mb) (hL : s.heap.get? L = none) (S : St s.heap L gi m u g h) (hk : cs.kind = .function := by rfl) :
    Hx (A.deeper (eX cn cs L a cd cl)) (eX cn cs L a cd cl :: outer) { s with heap := h, toks := tk } mg mb := by
  refine ⟨(X.cx.ext S.fr.keep).push S hk, X.wd.keeps fun b o e => ?_⟩
  have e1 := of_hideAll _ e
  refine hideAll_get _ (S.fr.keep b o e1) fun hm => ?_
  have hmem : b = L ∨ b ∈ frs outer := by simpa [frs] using hm
  rcases hmem with q | q
  · rw [q, hL] at e1; cases e1
  · rw [hideAll_none _ q] at e; cases e
section
variable {prog : Program} {w : World} {A : Around} {E : Value → Shared → Prop} {s : Shared} {Q : Value → Shared → Prop} {g : Lg}
/-- data that compares: what PyData holds -/
theorem cmpNeP {a b : Value} {p : PyData} {n : Nat} (hA : OkA A n) (hl : ∀ q ∈ g, s.heap.get? q.1 = some q.2) (Da : DL g a (ofP p)) (Db : DL g b (ofP p)) (hp : PySem.SeqAt.shaped p = true) (he : PyData.eqv p p = true)
    (h : Q (.bool false) s) : wpAny (model prog w) A (compareOp .NotEq a b) Q E s := by
  obtain ⟨_, ra⟩ := Da.reads hl
  obtain ⟨_, rb⟩ := Db.reads hl
  exact PySem.SeqAt.compareNe_shaped ra rb hp hp (by have := hA.un; omega) (by rw [he]; exact h)
/-- two lists of the same objects -/
theorem cmpSame {a b : Addr} {vs : List Value} {n k1 k2 : Nat} (hA : OkA A n) (ha : s.heap.get? a = some (lstO vs k1)) (hb : s.heap.get? b = some (lstO vs k2))
    (h : Q (.bool false) s) : wpAny (model prog w) A (compareOp .NotEq (.ref a) (.ref b)) Q E s := by
  have := PySem.SeqAt.RcNeAt.lists (A := A) (s := s) (e := fun _ => true) (l := a) (b := b) (items := vs.toArray) (items2 := vs.toArray) ⟨_, ha, rfl, _, rfl⟩ ⟨_, hb, rfl, _, rfl⟩ rfl (by have := hA.un; omega) (fun j _ _ => PySem.SeqAt.EqAt.same _)
  refine this prog w E Q ?_
  have e : ∀ n : Nat, (List.range n).all (fun _ => true) = true := fun n => by rw [List.all_eq_true]; intros; rfl
  rw [e]; exact h
end
/-- the frames around, held in the ledger -/
def frL (outer : List Env) (h : Heap) : Lg := (frs outer).filterMap fun b => (h.get? b).map (b, ·)
theorem frL_mem {outer : List Env} {h : Heap} {b : Addr} {o : Obj} (hb : b ∈ frs outer) (ho : h.get? b = some o) : (b, o) ∈ frL outer h := List.mem_filterMap.mpr ⟨b, hb, by rw [ho]; rfl⟩

/-- the state behind a call in which an exception may have been caught -/
theorem St.after {h₀ h h' : Heap} {L : Addr} {gi : Lg} {m : Str → Option Value} {u g : Lg} {env : Env} (S : St h₀ L gi m u g h) (hf : env.frame = some L) (x : Aft [env] h h') : St h₀ L gi m u g h' := by
  have hfr : frs [env] = [L] := by simp [frs, hf]
  obtain ⟨o, es, ep, ho, hd, r⟩ := S.fr.ns
  obtain ⟨sl, q⟩ := x.up L (by rw [hfr]; exact .head _) o ho (fun vs e => by rw [hd] at e; cases e)
  exact S.move ⟨_, es, ep, q, hd, r⟩ fun b ob hb e => x.keep b ob e (by rw [hfr]; simpa using hb)
section
variable {prog : Program} {w : World} {A : Around} {E : Value → Shared → Prop} {s : Shared} {h₀ : Heap} {L : Addr} {gi : Lg} {m : Str → Option Value} {u g : Lg} {env : Env} {body : List Stmt} {lv : Value} {ds : List Dt}
theorem forT {Q : Flow → Shared → Prop} {x : Str} {xp : Pos} (J : Nat → (Str → Option Value) → Lg → Lg → Prop) (hh : A.handled = none) (S : St h₀ L gi m u g s.heap) (D : DL g lv (.tuple ds)) (h0 : J 0 m u g)
    (turn : ∀ (i : Nat) d v m' u' g' h tk I io, ds[i]? = some d → DL g v d → (∀ p ∈ g, p ∈ g') → J i m' u' g' → St h₀ L gi m' ((I, io) :: u') g' h →
      wpAny (model prog w) A (assign (.Name x xp) env v) (fun _ s₂ => wpAny (model prog w) A (execs body env) (TurnEnd h₀ L gi (fun m u g'' => (∀ p ∈ g, p ∈ g'') ∧ J (i + 1) m u g'') I io s Q) (fun _ _ => False) s₂) (fun _ _ => False) { s with heap := h, toks := tk })
    (done : ∀ m' u' g' h tk, (∀ p ∈ g, p ∈ g') → J ds.length m' u' g' → St h₀ L gi m' u' g' h → Q .next { s with heap := h, toks := tk }) :
    wpAny (model prog w) A (pyIter lv) (fun it s₂ => codeAny (model prog w) A (.forLoop (.Name x xp) it body [] env) (fun r s' => match r with | .ok f => Q f s' | .error e => cameBackBy (model prog w) A env E e s') s₂) E s := by
  cases D with
  | @tuple l o n vs _ hl hc hd hD =>
    have hlen := hD.length
    have isl : ∀ {h' : Heap}, h'.get? l = some o → h'.IsTuple l vs.toArray := fun e => ⟨_, e, hc, _, hd⟩
    refine wpAny_pyIter_tuple (isl (S.led _ hl).1) ?_
    refine codeAny_forLoop_any (fun k s' => ∃ i m' u' g' h tk io, s' = { s with heap := h, toks := tk } ∧ i ≤ ds.length ∧ k = ds.length + 1 - i ∧ (∀ p ∈ g, p ∈ g') ∧ J i m' u' g' ∧ St h₀ L gi m' ((s.heap.objs.size, io) :: u') g' h ∧ h.IsTupleIter s.heap.objs.size l i)
      ?_ (ds.length + 1) ⟨0, m, u, g, _, s.toks, _, rfl, Nat.zero_le _, rfl, fun _ hp => hp, h0, S.pushU _, ⟨_, Heap.get?_push_size _ rfl, rfl, rfl⟩⟩
    rintro k s' ⟨i, m', u', g', h, tk, io, rfl, hi, rfl, hsub, hJ, S', hit⟩
    cases hx : vs[i]? with
    | none =>
      have hie : i = ds.length := by have := List.getElem?_eq_none_iff.mp hx; omega
      refine wpAny_pyNext_tuple_end hh hit (isl (S'.led _ (hsub _ hl)).1) (by simpa using hx) fun h₁ he => wpAny_execs_nil ?_
      exact done m' u' g' h₁ tk hsub (hie ▸ hJ) (S'.extBut he)
    | some v =>
      obtain ⟨d, hd', hDv⟩ := hD.getV hx
      have hlt : i < ds.length := (List.getElem?_eq_some_iff.mp hd').1
      refine wpAny_pyNext_tuple_item hit (isl (S'.led _ (hsub _ hl)).1) (by simpa using hx) fun h₁ hit₁ hs₁ => ?_
      obtain ⟨io₁, hio₁, hio₂⟩ := id hit₁
      have S₁ := S'.set .head hs₁ hio₁
      refine wpAny_pure (wpAny_mono (turn i d v m' u' g' h₁ tk _ io₁ hd' hDv hsub hJ S₁) (fun _ s₂ h₂ => wpAny_mono h₂ (fun f s₃ h₃ => ?_) fun _ _ e => e.elim) fun _ _ e => e.elim)
      cases f with
      | brk => exact h₃
      | ret v => exact h₃
      | next =>
        obtain ⟨m₂, u₂, g₂, hp₂, tk₂, rfl, ⟨hs₂, hJ₂⟩, S₂⟩ := h₃
        exact ⟨ds.length + 1 - (i + 1), by omega, i + 1, m₂, u₂, g₂, hp₂, tk₂, io₁, rfl, hlt, rfl, hs₂, hJ₂, S₂, ⟨io₁, (S₂.un _ (.head _)).1, hio₂⟩⟩
      | cont =>
        obtain ⟨m₂, u₂, g₂, hp₂, tk₂, rfl, ⟨hs₂, hJ₂⟩, S₂⟩ := h₃
        exact ⟨ds.length + 1 - (i + 1), by omega, i + 1, m₂, u₂, g₂, hp₂, tk₂, io₁, rfl, hlt, rfl, hs₂, hJ₂, S₂, ⟨io₁, (S₂.un _ (.head _)).1, hio₂⟩⟩
end
end Mine
end
section
open PySem PyProof.Rows PySem.Calls PySem.W
set_option maxRecDepth 100000
namespace Mine
/-! a dict whose keys are texts and ints -/
def mixIs : Sum Str Int → Value → Bool
  | .inl x, v => Value.isStrOf x v
  | .inr i, v => Value.isInt i v
theorem list_keys_none : typeLookup (.type "list") "keys" = pure none := am_miss_of_fast (by kernel_rfl)
theorem entry_update_loop : entryFor table "dict.update.loop" = some Builtin.«dict.update.loop» := entryFor_of_tree (by kernel_rfl)
theorem plain_update_loop : plainId "dict.update.loop" = true := by decide +kernel
section
variable {prog : Program} {w : World} {A : Around} {E : Value → Shared → Prop}
theorem keys_none {s : Shared} {a : Addr} {xs : Array Value} {k : Nat} {Q : Option Value → Shared → Prop}
    (hx : s.heap.get? a = some { cls := .type "list", data := .seq xs k }) (hA : A.handled = none)
    (h : ∀ h' tk, Ext s.heap h' → Q none { s with heap := h', toks := tk }) :
    wpAny (model prog w) A (getAttr? (.ref a) "keys") Q E s := by
  obtain ⟨hp, g, d, tk, os⟩ := s
  have hT : ∀ tk', (⟨hp, g, d, tk', os⟩ : Shared).TypeIs (.ref a) "list" := fun _ => ⟨_, hx, rfl⟩
  have f1 := sub_AttributeError
  have f3 := F.slot_list_getattribute.lookup
  have f4 := F.slot_list_getattribute.bind (.ref a)
  have f5 := am_list_getattr_none
  unfold getAttr? getAttrBy? getAttrBy
  repeat (any_goals (first | assumption | exact hT _ | ((with_reducible show wpAny _ _ (call (Value.builtin "list.__getattribute__") _ _) _ _ _); refine call_meets F.slot_list_getattribute (hT _) am_entry_list_getattribute (F.args_list_getattribute_2 _ _) (meets_getattribute_miss_list a xs k #[] "keys" _ list_keys_none (by decide) (by decide)) ⟨hx, hA, fun h' tk' e hx' => ?_⟩) | wp_step))
  obtain ⟨t', u', he⟩ := hx'.there
  show wpAny _ _ (getattributeRaised _ _ _ _ _ _ _) _ _ _
  unfold getattributeRaised
  repeat (any_goals (first | assumption | wp_step))
  exact h _ _ hx'.keeps

variable {s : Shared} {h₀ : Heap} {L : Addr} {gi : Lg} {m : Str → Option Value} {u g : Lg} {ps : List (Dt × Dt)} {K : Type} [DecidableEq K] {knd : KeyKind prog w K} {kd : Dt → K}
/-- dict(pairs): the pairs laid in one behind the other -/
theorem update_loopG {d I l : Addr} {n : Nat} {vs : List Value} {R : Result → Shared → Prop} (P : Nat → List (K × Value) → Prop) (hh : A.handled = none) (hl : (l, lstO vs n) ∈ g) (hD : DLs g vs (ps.map pairQ)) (hkey : ∀ p ∈ ps, ∀ v, DL g v p.1 → knd.is (kd p.1) v = true)
    (hP : ∀ i p kvs v1 v2, ps[i]? = some p → DL g v1 p.1 → DL g v2 p.2 → P i kvs → P (i + 1) (stored kvs (kd p.1) v2)) (hPl : ∀ i kvs, P i kvs → kvs.length ≤ 1000)
    (hR : ∀ h' tk o kvs, St h₀ L gi m ((d, o) :: u) g h' → o.IsDictOf knd kvs → P ps.length kvs → R (.ok (.ret .none)) { s with heap := h', toks := tk }) :
    ∀ (j i : Nat) (h : Heap) (tk : Nat) (io o : Obj) (kvs : List (K × Value)), ps.length - i = j → i ≤ ps.length → St h₀ L gi m ((I, io) :: (d, o) :: u) g h → h.IsListIter I l i → o.IsDictOf knd kvs → P i kvs →
      codeAny (model prog w) A (.builtin "dict.update.loop" ⟨[.ref d, .ref I, rawInt i, .none], []⟩) R { s with heap := h, toks := tk } := by
  have hlen := hD.length
  rw [List.length_map] at hlen
  have isl : ∀ {h' : Heap}, h'.get? l = some (lstO vs n) → h'.IsList l vs.toArray := fun e => ⟨_, e, rfl, _, rfl⟩
  intro j
  induction j with
  | zero =>
    intro i h tk io o kvs hj hi S hit Ho hp
    have hie : i = ps.length := by omega
    refine codeAny_builtin entry_update_loop ?_
    rw [Around.under_plainId plain_update_loop _]
    show wpAny _ A.in1 (pyNext (.ref I) >>= _) _ _ _
    refine wpAny_bind (wpAny_pyNext_list_end hh hit (isl (S.led _ hl).1) (by simp; omega) fun h₁ he => ?_)
    show wpAny _ _ (Builtin.Dict.addKeywords d [] >>= _) _ _ _
    refine wpAny_bind (wpAny_pure (wpAny_pure ?_))
    exact hR _ _ o kvs (S.extBut he) Ho (hie ▸ hp)
  | succ j ih =>
    intro i h tk io o kvs hj hi S hit Ho hp
    have hlt : i < ps.length := by omega
    obtain ⟨v, hv, hDv⟩ := hD.get (i := i) (d := pairQ ps[i]) (by rw [List.getElem?_map, List.getElem?_eq_getElem hlt]; rfl)
    refine codeAny_builtin entry_update_loop ?_
    rw [Around.under_plainId plain_update_loop _]
    show wpAny _ A.in1 (pyNext (.ref I) >>= _) _ _ _
    refine wpAny_bind (wpAny_pyNext_list_item hit (isl (S.led _ hl).1) (by simpa using hv) fun h₁ hit₁ hs₁ => ?_)
    obtain ⟨io₁, hio₁, hio₂⟩ := id hit₁
    have S₁ := S.set .head hs₁ hio₁
    obtain ⟨p, hpe⟩ : ∃ p, ps[i] = p := ⟨_, rfl⟩
    have hpm : p ∈ ps := hpe ▸ List.getElem_mem hlt
    have hpi : ps[i]? = some p := by rw [List.getElem?_eq_getElem hlt, hpe]
    rw [hpe] at hDv
    have hDv' : DL g v (.tuple [p.1, p.2]) := hDv
    cases hDv' with
    | @tuple t ot nt ws _ ht htc htd hDt =>
      cases hDt with | @cons v1 _ _ _ d1 hDt => cases hDt with | @cons v2 _ _ _ d2 hDt => cases hDt with | nil =>
      refine wpAny_bind (wpAny_holding ?_)
      refine wpAny_bind (wpAny_tryCatch ?_)
      have hto := (S₁.led _ ht).1
      unfold Builtin.Dict.pairItems
      refine wpAny_bind (wpAny_typeOf (T := "tuple") ⟨_, hto, htc⟩ ?_)
      rw [if_pos (by decide)]
      refine wpAny_bind (wpAny_seqItems hto htd (wpAny_pure ?_))
      show wpAny _ _ (holding [v1, v2] (dictSet d v1 v2)) _ _ _
      refine wpAny_holding (wpAny_dictSet_pairs (knd := knd) (hkey p hpm v1 d1) (Heap.dictOf_iff.mpr ⟨o, (S₁.un _ (.tail _ (.head _))).1, Ho⟩) (fun h₂ hd₂ hs₂ => ?_) (Nat.le_trans (hPl _ _ hp) (by decide)))
      obtain ⟨o₂, ho₂, Ho₂⟩ := Heap.dictOf_iff.mp hd₂
      have S₂ := S₁.set (.tail .head) hs₂ ho₂
      refine wpAny_pure ⟨plainId_quiet plain_update_loop _, ?_⟩
      have e1 : rawInt ((i : Int) + 1) = rawInt ((i + 1 : Nat) : Int) := by rw [Int.natCast_add]; rfl
      rw [e1]
      exact ih (i + 1) h₂ _ io₁ o₂ _ (by omega) hlt S₂ ⟨io₁, (S₂.un _ (.head _)).1, hio₂⟩ Ho₂ (hP i p kvs v1 v2 hpi d1 d2 hp)

theorem dictOfG {Q : Value → Shared → Prop} {lv : Value} (P : Nat → List (K × Value) → Prop) (hh : A.handled = none) (S : St h₀ L gi m u g s.heap) (D : DL g lv (.list (ps.map pairQ))) (hkey : ∀ p ∈ ps, ∀ v, DL g v p.1 → knd.is (kd p.1) v = true)
    (hP : ∀ i p kvs v1 v2, ps[i]? = some p → DL g v1 p.1 → DL g v2 p.2 → P i kvs → P (i + 1) (stored kvs (kd p.1) v2)) (hPl : ∀ i kvs, P i kvs → kvs.length ≤ 1000) (hP0 : P 0 [])
    (h : ∀ h' tk d o kvs, s.heap.objs.size = d → St h₀ L gi m ((d, o) :: u) g h' → o.IsDictOf knd kvs → P ps.length kvs → Q (.ref d) { s with heap := h', toks := tk }) : wpAny (model prog w) A (call (.type "dict") [lv]) Q E s := by
  cases D with
  | @list l n vs _ hl hD =>
  refine callType_codes (Q₁ := fun obj s₁ => obj = .ref s.heap.objs.size ∧ s₁ = { s with heap := s.heap.push { cls := .type "dict", data := .dict #[] } }) F.kt_called_dict (F.kt_typeCall_dict_1 _) F.entry_dict_init (kt_code_dict_new _ ⟨rfl, rfl⟩) ?_
  rintro obj s₁ ⟨rfl, rfl⟩
  have hnew : (s.heap.push { cls := .type "dict", data := .dict #[] }).DictOf knd s.heap.objs.size [] := Heap.DictOf.new s.heap
  have S₁ := S.pushU { cls := .type "dict", data := .dict #[] }
  have Hd : Obj.IsDictOf knd { cls := .type "dict", data := .dict #[] } [] := by
    obtain ⟨o', ho', r⟩ := Heap.dictOf_iff.mp hnew
    rw [Heap.get?_push_size _ rfl] at ho'
    cases ho'; exact r
  refine ⟨hnew.typeIs, F.args_dict_init_2 _ _, ?_⟩
  unfold Builtin.«dict.__init__»
  refine wpAny_bind ?_
  unfold Builtin.Dict.selfAndRest
  refine wpAny_bind (wpAny_notOrdered_dict hnew.typeIs ?_)
  show wpAny _ _ (pure (s.heap.objs.size, [Value.ref l])) _ _ _
  refine wpAny_pure ?_
  show wpAny _ _ (Builtin.Dict.updateFrom "dict.__init__" s.heap.objs.size (.ref l) [] .none) _ _ _
  unfold Builtin.Dict.updateFrom
  refine wpAny_bind (wpAny_typeOf (T := "list") ⟨_, (S₁.led _ hl).1, rfl⟩ ?_)
  rw [if_pos (by decide)]
  refine wpAny_bind (keys_none (S₁.led _ hl).1 hh fun h₂ tk₂ hx₂ => ?_)
  have S₂ := S₁.ext hx₂
  refine wpAny_bind (wpAny_rule ?_)
  refine wpAny_bind (wpAny_pyIter_list ⟨_, (S₂.led _ hl).1, rfl, _, rfl⟩ ?_)
  dsimp only
  have S₃ := S₂.pushU { cls := .type "list_iterator", data := .fields #[.ref l, .int 0 0] }
  refine wpAny_pure ⟨plainId_quiet plain_update_loop _, ?_⟩
  exact update_loopG (s := s) (A := A.in1) (knd := knd) (kd := kd) P hh hl hD hkey hP hPl (fun h' tk o kvs S' Ho K => ⟨rfl, h h' tk _ o kvs rfl S' Ho K⟩) ps.length 0 _ _ _ _ [] (by omega) (Nat.zero_le _) S₃ ⟨_, (S₃.un _ (.head _)).1, rfl, rfl⟩ Hd hP0
end

section
variable {prog : Program} {w : World} {A : Around} {E : Value → Shared → Prop} {s : Shared} {h₀ : Heap} {L : Addr} {gi : Lg} {m : Str → Option Value} {u g : Lg}
end
end Mine
end
section
open PySem PyProof.Rows PySem.Calls PySem.W
set_option maxRecDepth 100000
namespace Mine
theorem KQ.get {kvs : List (Str × Value)} {ps : List (Dt × Dt)} (h : KQ kvs ps) : ∀ {i : Nat} {k : Str} {v : Value}, kvs[i]? = some (k, v) → ∃ n t, v = .int n t ∧ ps[i]? = some (.str k, .int n) := by
  induction h with
  | nil => intro i k v e; simp at e
  | @cons x n t kvs ps _ ih =>
    intro i k v e
    cases i with
    | zero => simp at e; obtain ⟨rfl, rfl⟩ := e; exact ⟨n, t, rfl, rfl⟩
    | succ i => simpa using ih (by simpa using e)
theorem KQ.at {kvs : List (Str × Value)} {ps : List (Dt × Dt)} (h : KQ kvs ps) (nd : (ps.map fun p => keyD p.1).Nodup) {x : Str} {n : Int} (hm : (Dt.str x, Dt.int n) ∈ ps) : ∃ t, valueAt kvs x = some (.int n t) := by
  induction h with
  | nil => cases hm
  | @cons y k t kvs ps hK ih =>
    rw [List.map_cons, List.nodup_cons] at nd
    by_cases e : y = x
    · subst e
      rcases List.mem_cons.mp hm with h | h
      · injection h with h1 h2
        injection h2 with h3
        subst h3
        exact ⟨t, by simp [valueAt]⟩
      · exact absurd (List.mem_map.mpr ⟨_, h, rfl⟩) nd.1
    · have hm' : (Dt.str x, Dt.int n) ∈ ps := by
        rcases List.mem_cons.mp hm with h | h
        · injection h with h1 h2; injection h1 with h3; exact absurd h3.symm e
        · exact h
      obtain ⟨t', q⟩ := ih nd.2 hm'
      refine ⟨t', ?_⟩
      simp only [valueAt, List.find?_cons, e, decide_false] at q ⊢
      exact q
theorem DLs.of_get {g : Lg} : ∀ {vs : List Value} {ds : List Dt}, vs.length = ds.length → (∀ (j : Nat) v d, vs[j]? = some v → ds[j]? = some d → DL g v d) → DLs g vs ds
  | [], [], _, _ => .nil
  | [], _ :: _, h, _ => by simp at h
  | _ :: _, [], h, _ => by simp at h
  | v :: vs, d :: ds, h, k => .cons (k 0 v d rfl rfl) (DLs.of_get (by simpa using h) fun j v' d' h1 h2 => k (j + 1) v' d' (by simpa using h1) (by simpa using h2))
section
variable {prog : Program} {w : World} {A : Around} {E : Value → Shared → Prop} {s : Shared} {h₀ : Heap} {L d : Addr} {gi : Lg} {m : Str → Option Value} {u g : Lg} {o : Obj} {kvs : List (Str × Value)} {ps : List (Dt × Dt)}
/-- list(d.items()) -/
theorem itemsL {Q : Value → Shared → Prop} {r : Addr} (hh : A.handled = none) (S : St h₀ L gi m u g s.heap) (hd : (d, o) ∈ g) (Ho : o.IsDictOf (strKind prog w) kvs) (K : KQ kvs ps) (hz : kvs.length ≤ 1000) (hr : (r, { cls := .type "dict_items", data := .fields #[.ref d] }) ∈ g)
    (h : ∀ h' x g' tk, St h₀ L gi m u (g' ++ g) h' → DL (g' ++ g) (.ref x) (.list (ps.map pairQ)) → Q (.ref x) { s with heap := h', toks := tk }) : wpAny (model prog w) A (call (.type "list") [.ref r]) Q E s := by
  obtain ⟨ep, hm⟩ := (Heap.dictOf_iff.mpr ⟨o, (S.led _ hd).1, Ho⟩ : s.heap.DictOf (strKind prog w) d kvs).dictAt
  refine kdx_call hh ⟨_, (S.led _ hr).1, rfl, rfl⟩ hm (Nat.le_trans hz (by decide)) fun h' tk acc c as hk hS hl hG hacc => ?_
  have eO : ({ cls := .type "list", dict := none, data := .seq acc c, slots := #[] } : Obj) = lstO (as.map Value.ref) c := by
    have : acc = (as.map Value.ref).toArray := by rw [← hacc]
    rw [this]
  rw [eO] at hS
  have hmem : ∀ p ∈ (s.heap.objs.size, lstO (as.map Value.ref) c) :: as.filterMap (fun a => (h'.get? a).map (a, ·)), h'.get? p.1 = some p.2 ∧ s.heap.get? p.1 = none := fun p hp => by
    rcases List.mem_cons.mp hp with rfl | hp
    · exact ⟨hS, size_none _⟩
    · obtain ⟨a, ha, e⟩ := List.mem_filterMap.mp hp
      obtain ⟨ob, hob, rfl⟩ := Option.map_eq_some_iff.mp e
      exact ⟨hob, Heap.get?_none_of_le (Nat.le_of_lt (hG.above a ha))⟩
  have S' := S.back hk (fun p hp => (hmem p hp).1) (fun p hp => .inr (hmem p hp).2)
  refine h h' _ _ tk S' (.list (List.mem_append.mpr (.inl (.head _))) (DLs.of_get (by rw [List.length_map, List.length_map, hl, K.length]) fun j v dd h1 h2 => ?_))
  rw [List.getElem?_map, Option.map_eq_some_iff] at h1
  obtain ⟨a, ha, rfl⟩ := h1
  obtain ⟨key, k, x, hkv, hkey, hob⟩ := hG.pairs j a ha
  obtain ⟨n, t, rfl, hp⟩ := K.get hkv
  rw [List.getElem?_map, hp] at h2
  obtain ⟨tk', rfl⟩ := Value.isStrOf_shape hkey
  have e2 : dd = .tuple [.str k, .int n] := (Option.some.inj h2).symm
  subst e2
  refine .tuple (o := { cls := .type "tuple", data := .seq #[.str k tk', .int n t] }) (n := 0) (vs := [.str k tk', .int n t]) ?_ rfl rfl (.cons (.str _ _) (.cons (.int _ _) .nil))
  exact List.mem_append.mpr (.inl (.tail _ (List.mem_filterMap.mpr ⟨a, List.mem_of_getElem? ha, by rw [hob]; rfl⟩)))
/-- the dict got and the dict due -/
theorem dictNe {Q : Value → Shared → Prop} {d2 : Addr} {kvs2 : List (Str × Value)} {n : Nat} (hA : OkA A n) (D1 : s.heap.DictOf (strKind prog w) d kvs) (D2 : s.heap.DictOf (strKind prog w) d2 kvs2) (l1 : (d == sysModules) = false) (l2 : (d2 == sysModules) = false) (K1 : KQ kvs ps) (K2 : KQ kvs2 ps) (nd : (ps.map fun p => keyD p.1).Nodup)
    (h : Q (.bool false) s) : wpAny (model prog w) A (compareOp .NotEq (.ref d) (.ref d2)) Q E s := by
  refine keq_ne (r := true) l1 l2 D1 D2 (by have := hA.un; omega) (fun _ => ?_) (by rw [K1.length, K2.length]; simpa using h)
  have key : ∀ (ka : List (Str × Value)) (qs : List (Dt × Dt)), KQ ka qs → (∀ q ∈ qs, q ∈ ps) → KeqHits A.in1 s kvs2 ka true := by
    intro ka qs hK
    induction hK with
    | nil => intro _; exact .nil
    | @cons x n t ka qs _ ih =>
      intro hsub
      obtain ⟨t', hv⟩ := K2.at nd (hsub _ (.head _))
      have := KeqHits.hit (A := A.in1) (s := s) (v := .int n t) (r := ka) hv (PySem.SeqAt.EqAt.int_int n t n t') (ih fun q hq => hsub q (.tail _ hq))
      simpa using this
  exact key kvs ps K1 fun _ h => h
end
end Mine
end
section
open PySem PySem.Builtin PySem.Builtin.Str PySem.StrLaws
namespace Mine
theorem str_inj {x y : Str} (h : x.cps.toList = y.cps.toList) : x = y := by
  cases x; cases y; simp only at h
  congr 1
  exact Array.toList_inj.mp h
theorem cat_list (x y : Str) : (x ++ y).cps.toList = x.cps.toList ++ y.cps.toList := by
  show (x.cps ++ y.cps).toList = _
  simp

/-! words, on lists of signs -/
def wgo : List Nat → Option (List Nat) → List (List Nat)
  | [], none => []
  | [], some w => [w]
  | c :: r, none => if Unicode.isSpace c then wgo r none else wgo r (some [c])
  | c :: r, some w => if Unicode.isSpace c then w :: wgo r none else wgo r (some (w ++ [c]))
def lst (x : Str) (i j : Nat) : List Nat := (x.cps.toList.drop i).take (j - i)
theorem sub_list (x : Str) (i j : Nat) : (strSub x i j).cps.toList = lst x i j := by
  simp [strSub, lst, Array.toList_extract, List.extract]
theorem lst_snoc (x : Str) {b cur : Nat} (hb : b ≤ cur) (hc : cur < x.length) : lst x b (cur + 1) = lst x b cur ++ [x.cps.getD cur 0] := by
  have hc' : cur < x.cps.toList.length := by simpa [Str.length] using hc
  unfold lst
  rw [show cur + 1 - b = (cur - b) + 1 by omega, List.take_add_one, List.getElem?_drop, show b + (cur - b) = cur by omega, List.getElem?_eq_getElem hc']
  simp [Array.getD, show cur < x.cps.size from hc]
theorem drop_cons (x : Str) {cur : Nat} (hc : cur < x.length) : x.cps.toList.drop cur = x.cps.getD cur 0 :: x.cps.toList.drop (cur + 1) := by
  have hc' : cur < x.cps.toList.length := by simpa [Str.length] using hc
  rw [List.drop_eq_getElem_cons hc']
  simp [Array.getD, show cur < x.cps.size from hc]
theorem sw_go (x : Str) : ∀ (m cur : Nat) (words : Array (Nat × Nat)) (start : Option Nat), cur + m = x.length → words.size ≤ cur → (∀ b, start = some b → b ≤ cur) →
    (swEnd x (forIn (List.range' cur m) ((none, words, start) : SwSt) (swBody x (x.length + 1))).run).map (fun p => lst x p.1 p.2) = words.toList.map (fun p => lst x p.1 p.2) ++ wgo (x.cps.toList.drop cur) (start.map fun b => lst x b cur)
  | 0, cur, words, start, hm, hw, hs => by
    have e : x.cps.toList.drop cur = [] := List.drop_eq_nil_of_le (by simp [Str.length] at hm ⊢; omega)
    rw [e]
    cases start with
    | none => simp [swEnd, wgo]
    | some b =>
      have : x.length = cur := by omega
      simp [swEnd, wgo, this]
  | m + 1, cur, words, start, hm, hw, hs => by
    have hc : cur < x.length := by omega
    rw [List.range'_succ, List.forIn_cons, drop_cons x hc]
    have hsz : ¬ ((words.size == x.length + 1) = true) := by rw [beq_iff_eq]; omega
    unfold swBody
    simp only [hsz, if_false]
    cases start with
    | none =>
      cases hsp : Unicode.isSpace (x.cps.getD cur 0)
      · have ih := sw_go x m (cur + 1) words (some cur) (by omega) (by omega) (fun b h => by cases h; omega)
        simp only [Option.map_some, Option.map_none, wgo, hsp] at ih ⊢
        rw [lst_snoc x (Nat.le_refl _) hc] at ih
        have e0 : lst x cur cur = [] := by simp [lst]
        rw [e0, List.nil_append] at ih
        exact ih
      · have ih := sw_go x m (cur + 1) words none (by omega) (by omega) (fun b h => by cases h)
        simp only [Option.map_none, wgo, hsp] at ih ⊢
        exact ih
    | some b =>
      have hb := hs b rfl
      cases hsp : Unicode.isSpace (x.cps.getD cur 0)
      · have ih := sw_go x m (cur + 1) words (some b) (by omega) (by omega) (fun b' h => by cases h; omega)
        simp only [Option.map_some, wgo, hsp] at ih ⊢
        rw [lst_snoc x hb hc] at ih
        exact ih
      · have ih := sw_go x m (cur + 1) (words.push (b, cur)) none (by omega) (by simp; omega) (fun b h => by cases h)
        simp only [Option.map_none, Option.map_some, wgo, hsp] at ih ⊢
        rw [Array.toList_push, List.map_append, List.append_assoc] at ih
        exact ih
theorem words_list (x : Str) : (Txt.words x).map (fun y => y.cps.toList) = wgo x.cps.toList none := by
  have key := sw_go x x.length 0 #[] none (by omega) (by simp) (fun b h => by cases h)
  rw [← sw_eq] at key
  simp only [List.drop_zero, Option.map_none, List.map_nil, List.nil_append] at key
  rw [← key]
  unfold Txt.words
  split
  · rename_i h
    rw [beq_iff_eq.mp h]
    simp only [List.map_cons, List.map_nil]
    congr 1
    simp only [lst, List.drop_zero, Nat.sub_zero]
    exact (List.take_of_length_le (by simp [Str.length])).symm
  · unfold wordsOf
    rw [List.map_map]
    exact List.map_congr_left fun p _ => sub_list x p.1 p.2
theorem map_inj {ls ls' : List Str} (h : ls.map (fun y => y.cps.toList) = ls'.map (fun y => y.cps.toList)) : ls = ls' := by
  induction ls generalizing ls' with
  | nil => cases ls' with | nil => rfl | cons _ _ => simp at h
  | cons a r ih => cases ls' with
    | nil => simp at h
    | cons b r' =>
      simp only [List.map_cons, List.cons.injEq] at h
      rw [str_inj h.1, ih h.2]
theorem words_eq {x : Str} {ls : List Str} (h : wgo x.cps.toList none = ls.map fun y => y.cps.toList) : Txt.words x = ls := map_inj ((words_list x).trans h)
def Solid (x : Str) : Prop := x.cps.toList ≠ [] ∧ ∀ c ∈ x.cps.toList, Unicode.isSpace c = false
theorem wgo_run : ∀ (a r w : List Nat), (∀ c ∈ a, Unicode.isSpace c = false) → wgo (a ++ r) (some w) = wgo r (some (w ++ a))
  | [], r, w, _ => by simp
  | c :: a, r, w, h => by
    simp only [List.cons_append, wgo, h c (.head _), Bool.false_eq_true, if_false]
    rw [wgo_run a r (w ++ [c]) fun d hd => h d (.tail _ hd)]
    simp
theorem wgo_word {x : Str} (hx : Solid x) (r : List Nat) : wgo (x.cps.toList ++ r) none = wgo r (some x.cps.toList) := by
  obtain ⟨h1, h2⟩ := hx
  cases e : x.cps.toList with
  | nil => exact absurd e h1
  | cons c a =>
    rw [e] at h2
    simp only [List.cons_append, wgo, h2 c (.head _), Bool.false_eq_true, if_false]
    rw [wgo_run a r [c] fun d hd => h2 d (.tail _ hd)]
    rfl
theorem wgo_end (w : List Nat) : wgo [] (some w) = [w] := rfl
theorem wgo_cut {c : Nat} (hc : Unicode.isSpace c = true) (r w : List Nat) : wgo (c :: r) (some w) = w :: wgo r none := by simp [wgo, hc]
theorem wgo_skip {c : Nat} (hc : Unicode.isSpace c = true) (r : List Nat) : wgo (c :: r) none = wgo r none := by simp [wgo, hc]

/-! lines -/
def jl (c : Nat) : List (List Nat) → List Nat
  | [] => []
  | [a] => a
  | a :: b :: r => a ++ c :: jl c (b :: r)
theorem join_list (c : Nat) : ∀ ls : List Str, (Str.join ⟨#[c]⟩ ls).cps.toList = jl c (ls.map fun y => y.cps.toList)
  | [] => rfl
  | [a] => rfl
  | a :: b :: r => by
    show (a ++ ⟨#[c]⟩ ++ Str.join ⟨#[c]⟩ (b :: r)).cps.toList = _
    rw [cat_list, cat_list, join_list c (b :: r)]
    simp [jl]
theorem cut_eq {c : Nat} : ∀ {a a' s s' : List Nat}, c ∉ a → c ∉ a' → a ++ c :: s = a' ++ c :: s' → a = a' ∧ s = s'
  | [], [], _, _, _, _, h => by simpa using h
  | [], x :: a', s, s', _, h2, h => by simp only [List.nil_append, List.cons_append, List.cons.injEq] at h; exact absurd (h.1 ▸ List.mem_cons_self ..) h2
  | x :: a, [], s, s', h1, _, h => by simp only [List.nil_append, List.cons_append, List.cons.injEq] at h; exact absurd (h.1 ▸ List.mem_cons_self ..) h1
  | x :: a, y :: a', s, s', h1, h2, h => by
    simp only [List.cons_append, List.cons.injEq] at h
    obtain ⟨e1, e2⟩ := cut_eq (fun m => h1 (.tail _ m)) (fun m => h2 (.tail _ m)) h.2
    exact ⟨by rw [h.1, e1], e2⟩
theorem jl_inj {c : Nat} : ∀ {ls ls' : List (List Nat)}, ls ≠ [] → ls' ≠ [] → (∀ a ∈ ls, c ∉ a) → (∀ a ∈ ls', c ∉ a) → jl c ls = jl c ls' → ls = ls'
  | [], _, h, _, _, _, _ => absurd rfl h
  | _, [], _, h, _, _, _ => absurd rfl h
  | [a], [b], _, _, _, _, h => by simpa [jl] using h
  | [a], b :: b' :: r, _, _, h1, _, h => by
    simp only [jl] at h
    exact absurd (by rw [h]; simp) (h1 a (.head _))
  | a :: a' :: r, [b], _, _, _, h1, h => by
    simp only [jl] at h
    exact absurd (by rw [← h]; simp) (h1 b (.head _))
  | a :: a' :: r, b :: b' :: r', _, _, h1, h2, h => by
    simp only [jl] at h
    obtain ⟨e1, e2⟩ := cut_eq (h1 a (.head _)) (h2 b (.head _)) h
    have := jl_inj (by simp) (by simp) (fun x hx => h1 x (.tail _ hx)) (fun x hx => h2 x (.tail _ hx)) e2
    rw [e1, this]
theorem split_ne (x y : Str) : Txt.split x y ≠ [] := by
  unfold Txt.split
  split
  · simp
  · split
    · simp
    · rw [partsBetween_eq]
      obtain ⟨p, q, e⟩ := partsFrom_ne x y.length 0 (occurrences x y 0 x.length (x.length + 1))
      rw [e]; simp
theorem split_join {c : Nat} {ls : List Str} (hne : ls ≠ []) (hf : ∀ l ∈ ls, c ∉ l.cps.toList) : Txt.split (Txt.join ⟨#[c]⟩ ls) ⟨#[c]⟩ = ls := by
  have e : Txt.join ⟨#[c]⟩ ls = Str.join ⟨#[c]⟩ ls := glued_eq_join _ _
  rw [e]
  generalize hx : Str.join ⟨#[c]⟩ ls = x
  apply map_inj
  refine jl_inj (c := c) (by simpa using split_ne x _) (by simpa using hne) ?_ ?_ ?_
  · intro a ha
    obtain ⟨p, hp, rfl⟩ := List.mem_map.mp ha
    exact split_free x c p hp
  · intro a ha
    obtain ⟨p, hp, rfl⟩ := List.mem_map.mp ha
    exact hf p hp
  · rw [← join_list, ← join_list, join_split, hx]
end Mine
end
section
open PySem PyProof.Rows PySem.Calls PySem.W PySem.Builtin PySem.Builtin.Str PySem.StrLaws
set_option maxRecDepth 100000
namespace Mine
theorem hex_lt (n : Nat) : ∀ d ∈ (Nat.toDigits 16 n).map Char.toNat, d < 16 ^ 8 := by
  intro d hd
  obtain ⟨c, _, rfl⟩ := List.mem_map.mp hd
  exact c.val.toNat_lt
theorem reprChar_lt {q c : Nat} (hq : q < 16 ^ 8) (hc : c < 16 ^ 8) : ∀ d ∈ reprChar q c, d < 16 ^ 8 := by
  have hx := hex_lt c
  intro d hd
  unfold reprChar at hd
  dsimp only at hd
  have k48 : (48 : Nat) < 16 ^ 8 := by decide
  have k92 : (92 : Nat) < 16 ^ 8 := by decide
  have small : ∀ l : List Nat, (∀ y ∈ l, y < 16 ^ 8) → d ∈ l → d < 16 ^ 8 := fun l h m => h d m
  repeat' split at hd
  all_goals first
    | (simp only [List.mem_cons, List.not_mem_nil, or_false] at hd; rcases hd with rfl | rfl <;> first | assumption | decide)
    | (simp only [List.mem_cons, List.not_mem_nil, or_false] at hd; rw [hd]; assumption)
    | (rcases List.mem_append.mp hd with h | h
       · simp only [List.mem_cons, List.not_mem_nil, or_false] at h; rcases h with rfl | rfl <;> decide
       · rcases List.mem_append.mp h with h | h
         · rw [(List.mem_replicate.mp h).2]; decide
         · exact hx d h)
theorem foldl_repr_lt {q : Nat} (hq : q < 16 ^ 8) : ∀ (l : List Nat) (acc : Array Nat), (∀ c ∈ l, c < 16 ^ 8) → (∀ c ∈ acc.toList, c < 16 ^ 8) → ∀ d ∈ (l.foldl (fun out c => out ++ (reprChar q c).toArray) acc).toList, d < 16 ^ 8
  | [], acc, _, h => h
  | c :: r, acc, hl, h => by
    refine foldl_repr_lt hq r _ (fun d hd => hl d (.tail _ hd)) fun d hd => ?_
    rw [Array.toList_append] at hd
    rcases List.mem_append.mp hd with hd | hd
    · exact h d hd
    · exact reprChar_lt hq (hl c (.head _)) d (by simpa using hd)
theorem sane_of {x : Str} (hl : x.length ≤ 5000) (hx : ∀ c ∈ x.cps.toList, c < 16 ^ 8) : Sane x := by
  refine ⟨hl, hx, ?_⟩
  have hq : reprQuote x < 16 ^ 8 := by unfold reprQuote; split <;> decide
  intro d hd
  unfold reprText at hd
  replace hd : d ∈ ((x.cps.foldl (fun out c => out ++ (reprChar (reprQuote x) c).toArray) #[reprQuote x]).push (reprQuote x)).toList := hd
  rw [Array.toList_push, ← Array.foldl_toList] at hd
  rcases List.mem_append.mp hd with hd | hd
  · exact foldl_repr_lt hq _ _ hx (by intro c hc; simp at hc; rw [hc]; exact hq) d hd
  · rw [List.mem_singleton.mp hd]; exact hq
theorem slice_sane {x : Str} (l u : Option Int) (hl : x.length ≤ 5000) (hx : ∀ c ∈ x.cps.toList, c < 16 ^ 8) : Sane (Txt.slice x l u) := by
  refine sane_of (Nat.le_trans (Txt.slice_le x l u) hl) ?_
  unfold Txt.slice
  split
  · exact hx
  · intro c hc
    simp only [List.mem_filterMap] at hc
    obtain ⟨i, _, hi⟩ := hc
    exact hx c (by rw [Array.mem_toList_iff]; exact Array.mem_of_getElem? hi)
theorem wordOk_of {x : Str} (hl : x.length ≤ 5000) (hx : ∀ c ∈ x.cps.toList, c < 16 ^ 8) (hn : (Txt.isascii (Txt.removeprefix x "-") && Txt.isdigit (Txt.removeprefix x "-")) = true → (zless x).length ≤ 19 → (PySem.intText? (numT x)).isSome = true) : Sane x ∧ NumT x :=
  ⟨sane_of hl hx, hl, slice_sane _ _ hl hx, hn⟩
end Mine
end
section
open PySem PyProof.Rows PySem.Calls PySem.W
set_option maxRecDepth 100000
namespace Mine
section
variable {M : Model} {A : Around} {E : Value → Shared → Prop} {s : Shared} {env : Env} {x : Str} {p pos : Pos} {Q : Value → Shared → Prop}
/-- a function of the text called by its name with nothing -/
theorem callU0 {a : Addr} {o : Obj} {fd : FuncData} (h : wpAny M A (eval (.Name x p) env) (fun f s₁ => f = .ref a ∧ (s₁.heap.get? a = some o ∧ o.data = .func fd) ∧ wpAny M A (call (.ref a) []) Q E s₁) E s) :
    wpAny M A (eval (.Call (.Name x p) [] [] pos) env) Q E s := by
  refine Call_Name rfl (wpAny_mono h (fun f s₁ h₁ => ?_) fun _ _ q => q)
  obtain ⟨rfl, h₁⟩ := h₁
  exact callWith_function (o := o) (fd := fd) (evalArgs_nil3 h₁)
end
/-- what is asked of a call that must end in a fault whose text opens with pl -/
def RunBad (prog : Program) (w : World) (mg mb : Str → Option Value) (s : Shared) (n : Nat) (rv : Value) (pl : Str) : Prop :=
  ∀ (A' : Around) (o' : List Env) (h : Heap) (tk : Nat) (E' Q' : Value → Shared → Prop), OkA A' n → Hx A' o' { s with heap := h, toks := tk } mg mb → Ext s.heap h →
    (∀ msg : Str, Txt.startswith msg pl = true → ErrC E' { s with heap := h, toks := tk } o' msg) → wpAny (model prog w) A' (call rv []) Q' E' { s with heap := h, toks := tk }
/-- what is asked of a call that must end well -/
def RunOk (prog : Program) (w : World) (mg mb : Str → Option Value) (s : Shared) (n : Nat) (rv : Value) (P : Value → Lg → Prop) : Prop :=
  ∀ (A' : Around) (o' : List Env) (h : Heap) (tk : Nat) (E' Q' : Value → Shared → Prop), OkA A' n → Hx A' o' { s with heap := h, toks := tk } mg mb → Ext s.heap h →
    (∀ v g' h' tk', Ext h h' → (∀ p ∈ g', h'.get? p.1 = some p.2 ∧ h.get? p.1 = none) → P v g' → Q' v { s with heap := h', toks := tk' }) → wpAny (model prog w) A' (call rv []) Q' E' { s with heap := h, toks := tk }
section
variable {prog : Program} {w : World} {A : Around} {E : Value → Shared → Prop} {s : Shared} {mg mb : Str → Option Value} {a ra : Addr} {Q : Value → Shared → Prop} {outer : List Env} {g : Lg} {dv : Value} {ro : Obj} {fd : FuncData} {n : Nat}
set_option maxHeartbeats 1000000 in
theorem meets_err {pl : Str} {tp : Tok} (hA : OkA A (n + 1)) (X : Hx A outer s mg mb) (W : Wd mg mb s.heap) (ha : mg (fdAt 22).name = some (.ref a)) (hro : s.heap.get? ra = some ro) (hfd : ro.data = .func fd)
    (hrun : RunBad prog w mg mb s n (.ref ra) pl) (hk : ∀ h' tk, Aft outer s.heap h' → Q (.bool true) { s with heap := h', toks := tk }) :
    wpAny (model prog w) A (call (.ref a) [.ref ra, .str pl tp, dv]) Q E s := by
  obtain ⟨of, pm, cd, dc, fn⟩ := fn_of W (i := 22) (by decide) ha
  refine enterX (i := 22) (n := n) (hb := s.heap) (u := []) (g := []) (binds := [("run", .ref ra), ("place", .str pl tp), ("due", dv)]) hA fn W.nolimit (Ext.refl _) (Nat.le_refl _)
    (fun _ h => nomatch h) (fun _ h => nomatch h) (fun _ h => nomatch h) (by simp) rfl ?_
  intro L h₁ tk hL hx₁ S hA'
  conv in (fdAt 22).body => whnf
  refine asgE (s := { s with heap := h₁, toks := tk }) S .kn fun v2 h₂ tk₂ D2 S₂ => ?_
  cases D2
  refine asgE (s := { s with heap := h₂, toks := tk₂ }) S₂ .kn fun v3 h₃ tk₃ D3 S₃ => ?_
  cases D3
  dsimp only
  refine wpAny_execs_cons (wpAny_Try_except ?_)
  refine wpAny_execs_cons (wpAny_Assign_Name (callU0 (o := ro) (fd := fd) (nmL S₃ rfl ⟨rfl, ⟨S₃.fr.keep _ _ hro, hfd⟩, ?_⟩)))
  refine hrun _ _ h₃ _ _ _ hA' (X.call hL S₃) S₃.fr.keep fun msg hms => ?_
  intro e c h' tk' fl
  have hfL : ∀ b ∈ frs outer, b ≠ L := fun b hb q => by
    have := X.fo b hb
    rw [q] at this
    exact this hL
  refine noteFly (s := { s with heap := h', toks := tk' }) (Around.frames_deeper X.cx.fr) rfl fl fun h₄ x => ?_
  refine catchV (s := { s with heap := h₄, toks := tk' }) S₃ X.wd X.fo (fun _ h => nomatch h) x fun h₅ tk₅ vs t S₅ hE hF hU hN hK g1 g3 => ?_
  obtain ⟨oe, tok, ho, hc, hd, hsz, hv0, hv2, hTt⟩ := hE
  have hun : ((A.deeper (eX (fdAt 22).name (fdAt 22).scope L a cd [])).mark (some (.ref e))).units + 2 < cLine := by
    have hu' := hA'.un
    exact (by omega : (A.deeper (eX (fdAt 22).name (fdAt 22).scope L a cd [])).units + 2 < cLine)
  refine wpAny_execs_cons (wpAny_Assign_Name (callT "str" (nmB S₅ X.wd (X.wd.free _ (by decide)) rfl ⟨rfl, wpAny_items_cons (nmL S₅ upd_eq (wpAny_items_nil (PySem.P.str_of_exc_one PySem.F.excStr_ValueError hun ⟨oe, vs, ho, hc, hd, hv0⟩ hTt ?_)))⟩)))
  refine wpAny_storeName_local rfl S₅.fr.ns (fun h₆ hn₆ hs₆ => ?_) (by rfl)
  refine wpAny_execs_nil ?_
  refine wpAny_nameGoes_keeps (s := { s with heap := h₆, toks := _ }) rfl hn₆ (by rfl) fun h₇ v₇ hn₇ hs₇ => ?_
  have S₇ := (S₅.store hn₆ hs₆).store hn₇ hs₇
  have af : Aft outer s.heap h₇ := by
    refine ⟨fun b o hb hbn => S₇.fr.keep b o (hideAll_get _ hb hbn), fun b hb o hbo hnf => ?_, (hF.same hs₆ hfL).same hs₇ hfL⟩
    obtain ⟨sl, q⟩ := hU b hb o (S₃.fr.keep b o hbo) hnf
    exact ⟨sl, (hs₇.2 b (hfL b hb)).trans ((hs₆.2 b (hfL b hb)).trans q)⟩
  obtain ⟨M, S₇, k1, tm, k2⟩ : ∃ M : Str → Option Value, St (hideAll s.heap (frs outer)) L [] M [] [] h₇ ∧ M "place" = some (.str pl tp) ∧ ∃ t, M "message" = some (.str msg t) := ⟨_, S₇, rfl, tok, rfl⟩
  dsimp only
  refine wpAny_execs_cons (wpAny_If (wpAny_isTrue_Compare1 (nmL S₇ k1 (wpAny_Constant_none (wpAny_isNot_other rfl (by intro h; cases h) (wpAny_truthy_bool ?_))))))
  refine wpAny_execs_cons (wpAny_If (wpAny_isTrue_Compare1 (nmL S₇ k2 (wpAny_Constant_none (wpAny_is_other rfl (by intro h; cases h) (wpAny_truthy_bool ?_))))))
  refine wpAny_execs_nil ?_
  refine wpAny_execs_cons (wpAny_Return_some (callM "str" "str.startswith" PySem.F.plainAttrs_str PySem.F.slot_str_startswith PySem.F.type_str_startswith (nmL S₇ k2 ⟨typeIs_str _ _ _, (fun a e => nomatch e), wpAny_items_cons (nmL S₇ k1 (wpAny_items_nil (SC.startswith ?_)))⟩)))
  rw [hms]
  exact hk _ _ af
end
end Mine
end
section
open PySem PyProof.Rows PySem.Calls PySem.W
set_option maxRecDepth 100000
namespace Mine
section
variable {prog : Program} {w : World} {A : Around} {E : Value → Shared → Prop} {s : Shared} {mg mb : Str → Option Value} {a ra : Addr} {Q : Value → Shared → Prop} {outer : List Env} {g : Lg} {dv : Value} {ro : Obj} {fd : FuncData} {n : Nat} {P : Value → Lg → Prop}
set_option maxHeartbeats 1000000 in
theorem meets_core (hA : OkA A (n + 1)) (X : Hx A outer s mg mb) (W : Wd mg mb s.heap) (ha : mg (fdAt 22).name = some (.ref a)) (hro : s.heap.get? ra = some ro) (hfd : ro.data = .func fd) (hg : ∀ p ∈ g, s.heap.get? p.1 = some p.2)
    (hrun : RunOk prog w mg mb s n (.ref ra) P)
    (hfin : ∀ (L : Addr) (cd : Value) (h : Heap) (tk : Nat) (m : Str → Option Value) (g' : Lg) (v : Value), St s.heap L g m [] (g' ++ g) h → P v g' → m "got" = some v → m "due" = some dv → OkA (A.deeper (eX (fdAt 22).name (fdAt 22).scope L a cd [])) n →
      wpAny (model prog w) (A.deeper (eX (fdAt 22).name (fdAt 22).scope L a cd [])) (execs ((fdAt 22).body.drop 5) (eX (fdAt 22).name (fdAt 22).scope L a cd []))
        (fun fl s' => Q (match fl with | .ret v => v | _ => .none) s') (LE (model prog w) (A.deeper (eX (fdAt 22).name (fdAt 22).scope L a cd [])) (eX (fdAt 22).name (fdAt 22).scope L a cd []) E) { s with heap := h, toks := tk }) :
    wpAny (model prog w) A (call (.ref a) [.ref ra, .none, dv]) Q E s := by
  obtain ⟨of, pm, cd, dc, fn⟩ := fn_of W (i := 22) (by decide) ha
  refine enterX (i := 22) (n := n) (hb := s.heap) (u := []) (g := g) (binds := [("run", .ref ra), ("place", .none), ("due", dv)]) hA fn W.nolimit (Ext.refl _) (Nat.le_refl _)
    (fun _ h => nomatch h) hg (fun _ _ _ h => nomatch h) (by simp) rfl ?_
  intro L h₁ tk hL hx₁ S hA'
  conv in (fdAt 22).body => whnf
  refine asgE (s := { s with heap := h₁, toks := tk }) S .kn fun v2 h₂ tk₂ D2 S₂ => ?_
  cases D2
  refine asgE (s := { s with heap := h₂, toks := tk₂ }) S₂ .kn fun v3 h₃ tk₃ D3 S₃ => ?_
  cases D3
  dsimp only
  refine wpAny_execs_cons (wpAny_Try_except ?_)
  refine wpAny_execs_cons (wpAny_Assign_Name (callU0 (o := ro) (fd := fd) (nmL S₃ rfl ⟨rfl, ⟨S₃.fr.keep _ _ hro, hfd⟩, ?_⟩)))
  refine hrun _ _ h₃ _ _ _ hA' (X.call hL S₃) S₃.fr.keep fun v g' h₄ tk₄ hx₄ hst₄ hP => ?_
  have S₄ := S₃.back (g' := g') hx₄ (fun p hp => (hst₄ p hp).1) (fun p hp => .inr (hst₄ p hp).2)
  dsimp only
  refine stL S₄ fun h₅ S₅ => wpAny_execs_nil (wpAny_execs_nil ?_)
  dsimp only
  refine wpAny_execs_cons (wpAny_If (wpAny_isTrue_Compare1 (nmL S₅ rfl (wpAny_Constant_none (wpAny_isNot_self rfl (wpAny_truthy_bool ?_))))))
  refine wpAny_execs_nil ?_
  refine wpAny_execs_cons (wpAny_If (wpAny_isTrue_Compare1 (nmL S₅ rfl (wpAny_Constant_none (wpAny_isNot_self rfl (wpAny_truthy_bool ?_))))))
  refine wpAny_execs_nil ?_
  exact hfin L cd _ _ _ _ v S₅ hP rfl rfl hA'
theorem typeN {Q : Bool → Shared → Prop} {h₀ : Heap} {L : Addr} {gi : Lg} {m : Str → Option Value} {u g : Lg} {cn : Str} {cs : Scope} {cd : Value} {cl : List (Str × Addr)} {x T : Str} {Tn : String} {v : Value} {Tx : String} {p1 p2 p3 p4 p5 : Pos} {whole : Sem Value} (S : St h₀ L gi m u g s.heap) (W : Wd mg mb h₀) (hv : m x = some v) (hT : s.TypeIs v Tx) (hnb : (Value.type Tx == Value.type "builtin_function_or_method") = false) (hTn : bootBuiltins T = some (.type Tn)) (hfree : mg T = none)
    (h : Q (decide (Tx = Tn)) s)
    (hk : cs.kind = .function := by rfl) (hx : (eX cn cs L a cd cl).kindOf x = some .local := by rfl) (hx2 : (eX cn cs L a cd cl).kindOf "type" = some .globalImplicit := by rfl) (hx3 : (eX cn cs L a cd cl).kindOf T = some .globalImplicit := by rfl) (hd : (x == ("__debug__" : Str)) = false := by decide) (hd2 : (T == ("__debug__" : Str)) = false := by decide) (hn : T ≠ "__name__" := by decide) (hm : behindInMarks .Is (.Name T p4) = false := by with_unfolding_all rfl) :
    wpAny (model prog w) A (isTrue (.Compare (.Call (.Name "type" p1) [.Name x p2] [] p3) [.Is] [.Name T p4] p5) (eX cn cs L a cd cl) whole) Q E s := by
  refine wpAny_isTrue_Compare1 (callT "type" (nmB S W (W.free _ (by decide)) rfl ⟨rfl, wpAny_items_cons (nmL S hv (wpAny_items_nil (call_type_of hT hnb (nmB S W hfree hTn ?_ hn hk hx3 hd2))) hk hx hd) rfl⟩ (by decide) hk hx2)) hm
  by_cases e : Tx = Tn
  · subst e
    rw [decide_eq_true rfl] at h
    exact wpAny_is_self rfl (wpAny_truthy_bool h)
  · rw [decide_eq_false e] at h
    exact wpAny_is_other rfl (fun q => e (Value.type.inj q)) (wpAny_truthy_bool h)
end
end Mine
end
section
open PySem PyProof.Rows PySem.Calls PySem.W
set_option maxRecDepth 100000
namespace Mine
theorem shInt (i : Int) : PySem.SeqAt.shaped (.int i) = true := by simp [PySem.SeqAt.shaped, PyData.canLay0, PyData.depth]
theorem eqInt (i : Int) : PyData.eqv (.int i) (.int i) = true := by simp [PyData.eqv]
/-- what an item of a due list may be -/
def ItemOk : Dt → Prop
  | .str _ => True
  | .tuple ps => (∀ p ∈ ps, (∃ n, p = .int n) ∨ ∃ x, p = .str x) ∧ ps.length ≤ 5
  | _ => False
section
variable {prog : Program} {w : World} {A : Around} {E : Value → Shared → Prop} {s : Shared} {mg mb : Str → Option Value} {a ra : Addr} {Q : Value → Shared → Prop} {outer : List Env} {g : Lg} {dv : Value} {ro : Obj} {fd : FuncData} {n : Nat}
set_option maxHeartbeats 1000000 in
theorem meets_int {i : Int} (hA : OkA A (n + 1)) (X : Hx A outer s mg mb) (W : Wd mg mb s.heap) (ha : mg (fdAt 22).name = some (.ref a)) (hro : s.heap.get? ra = some ro) (hfd : ro.data = .func fd) (D : DL [] dv (.int i))
    (hrun : RunOk prog w mg mb s n (.ref ra) fun v _ => DL [] v (.int i)) (hk : ∀ h' tk, Aft outer s.heap h' → Q (.bool true) { s with heap := h', toks := tk }) :
    wpAny (model prog w) A (call (.ref a) [.ref ra, .none, dv]) Q E s := by
  refine meets_core (g := []) hA X W ha hro hfd (fun _ h => nomatch h) hrun fun L cd h tk m g' v S Dv q1 q2 hA' => ?_
  conv in (List.drop 5 (fdAt 22).body) => whnf
  refine wpAny_execs_cons (wpAny_If (wpAny_isTrue_Compare1 (nmL S q1 (nmL S q2 (cmpNeP (g := []) (p := .int i) hA' (fun _ h => nomatch h) (by simpa [ofP] using Dv) (by simpa [ofP] using D) (shInt i) (eqInt i) (wpAny_truthy_bool ?_))))))
  refine wpAny_execs_nil ?_
  cases Dv
  cases D
  refine wpAny_execs_cons (wpAny_If (typeN (Tx := "int") (Tn := "int") S W q2 rfl rfl rfl (W.free _ (by decide)) ?_))
  rw [decide_eq_true rfl]
  refine wpAny_execs_cons (wpAny_Return_some (wpAny_Compare1 (callT "type" (nmB S W (W.free _ (by decide)) rfl ⟨rfl, wpAny_items_cons (nmL S q1 (wpAny_items_nil (call_type_of (Tx := "int") rfl rfl (nmB S W (W.free _ (by decide)) rfl (wpAny_is_self rfl ?_)))))⟩))))
  exact hk _ _ (Aft.of X.cx.ok S.fr.keep)
set_option maxHeartbeats 1000000 in
theorem meets_str {x : Str} (hA : OkA A (n + 1)) (X : Hx A outer s mg mb) (W : Wd mg mb s.heap) (ha : mg (fdAt 22).name = some (.ref a)) (hro : s.heap.get? ra = some ro) (hfd : ro.data = .func fd) (D : DL [] dv (.str x)) (hx : PyData.strOk x = true)
    (hrun : RunOk prog w mg mb s n (.ref ra) fun v _ => DL [] v (.str x)) (hk : ∀ h' tk, Aft outer s.heap h' → Q (.bool true) { s with heap := h', toks := tk }) :
    wpAny (model prog w) A (call (.ref a) [.ref ra, .none, dv]) Q E s := by
  refine meets_core (g := []) hA X W ha hro hfd (fun _ h => nomatch h) hrun fun L cd h tk m g' v S Dv q1 q2 hA' => ?_
  conv in (List.drop 5 (fdAt 22).body) => whnf
  refine wpAny_execs_cons (wpAny_If (wpAny_isTrue_Compare1 (nmL S q1 (nmL S q2 (cmpNeP (g := []) (p := .str x) hA' (fun _ h => nomatch h) (by simpa [ofP] using Dv) (by simpa [ofP] using D) (by simp [PySem.SeqAt.shaped, PyData.canLay0, PyData.depth, hx]) (by simp [PyData.eqv]) (wpAny_truthy_bool ?_))))))
  refine wpAny_execs_nil ?_
  cases D
  refine wpAny_execs_cons (wpAny_If (typeN (Tx := "str") (Tn := "int") S W q2 rfl rfl rfl (W.free _ (by decide)) ?_))
  rw [decide_eq_false (by decide)]
  refine wpAny_execs_nil ?_
  refine wpAny_execs_cons (wpAny_If (typeN (Tx := "str") (Tn := "dict") S W q2 rfl rfl rfl (W.free _ (by decide)) ?_))
  rw [decide_eq_false (by decide)]
  refine wpAny_execs_nil ?_
  refine wpAny_execs_cons (wpAny_If (typeN (Tx := "str") (Tn := "list") S W q2 rfl rfl rfl (W.free _ (by decide)) ?_))
  rw [decide_eq_false (by decide)]
  refine wpAny_execs_nil ?_
  exact wpAny_execs_cons (wpAny_Return_some (wpAny_Constant_bool (hk _ _ (Aft.of X.cx.ok S.fr.keep))))
set_option maxHeartbeats 1000000 in
theorem meets_list {p : PyData} {ds : List Dt} (hp : ofP p = .list ds) (hs : PySem.SeqAt.shaped p = true) (he : PyData.eqv p p = true) (hi : ∀ d ∈ ds, ItemOk d) (hA : OkA A (n + 1)) (X : Hx A outer s mg mb) (W : Wd mg mb s.heap) (ha : mg (fdAt 22).name = some (.ref a)) (hro : s.heap.get? ra = some ro) (hfd : ro.data = .func fd)
    (hg : ∀ p ∈ g, s.heap.get? p.1 = some p.2) (D : DL g dv (.list ds))
    (hrun : RunOk prog w mg mb s n (.ref ra) fun v g' => DL g' v (.list ds)) (hk : ∀ h' tk, Aft outer s.heap h' → Q (.bool true) { s with heap := h', toks := tk }) :
    wpAny (model prog w) A (call (.ref a) [.ref ra, .none, dv]) Q E s := by
  refine meets_core (g := g) hA X W ha hro hfd hg hrun fun L cd h tk m g' v S Dv q1 q2 hA' => ?_
  conv in (List.drop 5 (fdAt 22).body) => whnf
  have Dv' : DL (g' ++ g) v (.list ds) := Dv.mono fun p hp => List.mem_append.mpr (.inl hp)
  have D' : DL (g' ++ g) dv (.list ds) := D.mono fun p hp => List.mem_append.mpr (.inr hp)
  refine wpAny_execs_cons (wpAny_If (wpAny_isTrue_Compare1 (nmL S q1 (nmL S q2 (cmpNeP (s := { s with heap := h, toks := tk }) (g := g' ++ g) (p := p) hA' S.at (by rw [hp]; exact Dv') (by rw [hp]; exact D') hs he (wpAny_truthy_bool ?_))))))
  refine wpAny_execs_nil ?_
  have hT : ∀ tk', ({ s with heap := h, toks := tk' } : Shared).TypeIs dv "list" := fun tk' => by
    cases D' with
    | list hm _ => exact ⟨_, (S.led _ hm).1, rfl⟩
  refine wpAny_execs_cons (wpAny_If (typeN (Tx := "list") (Tn := "int") S W q2 (hT _) rfl rfl (W.free _ (by decide)) ?_))
  rw [decide_eq_false (by decide)]
  refine wpAny_execs_nil ?_
  refine wpAny_execs_cons (wpAny_If (typeN (Tx := "list") (Tn := "dict") S W q2 (hT _) rfl rfl (W.free _ (by decide)) ?_))
  rw [decide_eq_false (by decide)]
  refine wpAny_execs_nil ?_
  refine wpAny_execs_cons (wpAny_If (typeN (Tx := "list") (Tn := "list") S W q2 (hT _) rfl rfl (W.free _ (by decide)) ?_))
  rw [decide_eq_true rfl]
  refine wpAny_execs_cons (wpAny_For (nmL S q1 (forL (fun i m u g' => u = []) hA'.hd S Dv' rfl (lets_name _ _) ?_ ?_)))
  · rintro i d x m' u' g₂ h₃ tk₃ I io hd hv hsub rfl S₃
    have hok := hi d (List.mem_of_getElem? hd)
    refine wpAny_assign_Name (stL S₃ fun h₄ S₄ => ?_)
    dsimp only
    cases d with
    | str y =>
      cases hv
      refine wpAny_execs_cons (wpAny_If (typeN (Tx := "str") (Tn := "tuple") S₄ W upd_eq rfl rfl rfl (W.free _ (by decide)) ?_))
      rw [decide_eq_false (by decide)]
      refine wpAny_execs_nil (wpAny_execs_nil ?_)
      exact TurnEnd.next ⟨hsub, rfl⟩ S₄
    | tuple ps =>
      have hv' := hv.mono hsub
      have hT2 : ∀ tk', ({ s with heap := h₄, toks := tk' } : Shared).TypeIs x "tuple" := fun tk' => by
        cases hv' with
        | tuple hm hc _ _ => exact ⟨_, (S₄.led _ hm).1, hc⟩
      refine wpAny_execs_cons (wpAny_If (typeN (Tx := "tuple") (Tn := "tuple") S₄ W upd_eq (hT2 _) rfl rfl (W.free _ (by decide)) ?_))
      rw [decide_eq_true rfl]
      refine wpAny_execs_cons (wpAny_For (nmL S₄ upd_eq (forT (fun j m u g' => u = [(I, io)]) hA'.hd S₄ hv' rfl ?_ ?_)))
      · rintro j d v₅ m₅ u₅ g₅ h₅ tk₅ I₅ io₅ hd₅ hv₅ hsub₅ rfl S₅
        refine wpAny_assign_Name (stL S₅ fun h₆ S₆ => ?_)
        dsimp only
        rcases hok.1 d (List.mem_of_getElem? hd₅) with ⟨k, rfl⟩ | ⟨y, rfl⟩
        · cases hv₅
          refine wpAny_execs_cons (wpAny_If (isTrue_not (isTrue_or (typeN (Tx := "int") (Tn := "int") S₆ W upd_eq rfl rfl rfl (W.free _ (by decide)) ?_))))
          rw [decide_eq_true rfl]
          refine wpAny_execs_nil (wpAny_execs_nil ?_)
          exact TurnEnd.next ⟨hsub₅, rfl⟩ S₆
        · cases hv₅
          refine wpAny_execs_cons (wpAny_If (isTrue_not (isTrue_or (typeN (Tx := "str") (Tn := "int") S₆ W upd_eq rfl rfl rfl (W.free _ (by decide)) ?_))))
          rw [decide_eq_false (by decide)]
          refine isTrue_or (typeN (Tx := "str") (Tn := "str") S₆ W upd_eq rfl rfl rfl (W.free _ (by decide)) ?_)
          rw [decide_eq_true rfl]
          refine wpAny_execs_nil (wpAny_execs_nil ?_)
          exact TurnEnd.next ⟨hsub₅, rfl⟩ S₆
      · rintro m₅ u₅ g₅ h₅ tk₅ hsub₅ rfl S₅
        refine wpAny_execs_nil (wpAny_execs_nil ?_)
        exact TurnEnd.next ⟨fun p hp => hsub₅ p (hsub p hp), rfl⟩ S₅
    | _ => exact hok.elim
  · rintro m' u' g₂ h₃ tk₃ hsub rfl S₃
    refine wpAny_execs_nil ?_
    exact wpAny_execs_cons (wpAny_Return_some (wpAny_Constant_bool (hk _ _ (Aft.of X.cx.ok S₃.fr.keep))))
end
end Mine
end
section
open PySem PyProof.Rows PySem.Calls PySem.W
set_option maxRecDepth 100000
namespace Mine
section
variable {prog : Program} {w : World} {A : Around} {E : Value → Shared → Prop} {s : Shared} {mg mb : Str → Option Value} {a ra : Addr} {Q : Value → Shared → Prop} {outer : List Env} {g : Lg} {dv : Value} {ro : Obj} {fd : FuncData} {n : Nat}
theorem cmpEqP {a b : Value} {p : PyData} {n : Nat} (hA : OkA A n) (hl : ∀ q ∈ g, s.heap.get? q.1 = some q.2) (Da : DL g a (ofP p)) (Db : DL g b (ofP p)) (hp : PySem.SeqAt.shaped p = true) (he : PyData.eqv p p = true)
    (h : Q (.bool true) s) : wpAny (model prog w) A (compareOp .Eq a b) Q E s := by
  obtain ⟨_, ra⟩ := Da.reads hl
  obtain ⟨_, rb⟩ := Db.reads hl
  exact PySem.SeqAt.compareEq_shaped ra rb hp hp (by have := hA.un; omega) (by rw [he]; exact h)
set_option maxHeartbeats 1000000 in
theorem meets_dict {p : PyData} {ps : List (Dt × Dt)} {d2 : Addr} {o2 : Obj} {kvs2 : List (Str × Value)} (hp : ofP p = .list (ps.map pairQ)) (hs : PySem.SeqAt.shaped p = true) (he : PyData.eqv p p = true) (hz : ps.length ≤ 100) (nd : (ps.map fun p => keyD p.1).Nodup) (hA : OkA A (n + 1)) (X : Hx A outer s mg mb) (W : Wd mg mb s.heap) (ha : mg (fdAt 22).name = some (.ref a)) (hro : s.heap.get? ra = some ro) (hfd : ro.data = .func fd)
    (hd2 : s.heap.get? d2 = some o2) (lo2 : (d2 == sysModules) = false) (Ho2 : o2.IsDictOf (strKind prog w) kvs2) (K2 : KQ kvs2 ps)
    (hrun : RunOk prog w mg mb s n (.ref ra) fun v g' => ∃ d o kvs, v = .ref d ∧ (d, o) ∈ g' ∧ (d == sysModules) = false ∧ o.IsDictOf (strKind prog w) kvs ∧ KQ kvs ps) (hk : ∀ h' tk, Aft outer s.heap h' → Q (.bool true) { s with heap := h', toks := tk }) :
    wpAny (model prog w) A (call (.ref a) [.ref ra, .none, .ref d2]) Q E s := by
  refine meets_core (g := [(d2, o2)]) hA X W ha hro hfd (fun q hq => by rw [List.mem_singleton.mp hq]; exact hd2) hrun fun L cd h tk m g' v S Hv q1 q2 hA' => ?_
  obtain ⟨d, o, kvs, rfl, hd, lo, Ho, K⟩ := Hv
  conv in (List.drop 5 (fdAt 22).body) => whnf
  have hd' : (d, o) ∈ g' ++ [(d2, o2)] := List.mem_append.mpr (.inl hd)
  have hd2' : (d2, o2) ∈ g' ++ [(d2, o2)] := List.mem_append.mpr (.inr (.head _))
  have dOf : ∀ {h'' : Heap} {m'' : Str → Option Value} {u'' g'' : Lg}, St s.heap L [(d2, o2)] m'' u'' g'' h'' → (d, o) ∈ g'' → h''.DictOf (strKind prog w) d kvs := fun S'' hm => Heap.dictOf_iff.mpr ⟨o, (S''.led _ hm).1, Ho⟩
  have dOf2 : ∀ {h'' : Heap} {m'' : Str → Option Value} {u'' g'' : Lg}, St s.heap L [(d2, o2)] m'' u'' g'' h'' → (d2, o2) ∈ g'' → h''.DictOf (strKind prog w) d2 kvs2 := fun S'' hm => Heap.dictOf_iff.mpr ⟨o2, (S''.led _ hm).1, Ho2⟩
  refine wpAny_execs_cons (wpAny_If (wpAny_isTrue_Compare1 (nmL S q1 (nmL S q2 (dictNe (s := { s with heap := h, toks := tk }) (ps := ps) hA' (dOf S hd') (dOf2 S hd2') lo lo2 K K2 nd (wpAny_truthy_bool ?_))))))
  refine wpAny_execs_nil ?_
  refine wpAny_execs_cons (wpAny_If (typeN (Tx := "dict") (Tn := "int") S W q2 (dOf2 S hd2').typeIs rfl rfl (W.free _ (by decide)) ?_))
  rw [decide_eq_false (by decide)]
  refine wpAny_execs_nil ?_
  refine wpAny_execs_cons (wpAny_If (typeN (Tx := "dict") (Tn := "dict") S W q2 (dOf2 S hd2').typeIs rfl rfl (W.free _ (by decide)) ?_))
  rw [decide_eq_true rfl]
  refine wpAny_execs_cons (wpAny_Return_some (wpAny_Compare1 (callT "list" (nmB S W (W.free _ (by decide)) rfl ⟨rfl, wpAny_items_cons (wpAny_Call_items (knd := strKind prog w) (kvs := kvs) lo (dOf S hd') rfl rfl (fun Q' hq => nmL S q1 hq) ?_)⟩))))
  have S₅ := S.pushG { cls := .type "dict_items", data := .fields #[.ref d] }
  dsimp only
  refine wpAny_items_nil (itemsL (s := { s with heap := _, toks := _ }) hA'.hd S₅ (.tail _ hd') Ho K (by rw [K.length]; omega) (.head _) fun h₆ x g₆ tk₆ S₆ D₆ => ?_)
  dsimp only
  have hd6 : (d2, o2) ∈ g₆ ++ (h.objs.size, ({ cls := .type "dict_items", data := .fields #[.ref d] } : Obj)) :: (g' ++ [(d2, o2)]) := List.mem_append.mpr (.inr (.tail _ hd2'))
  refine callT "list" (nmB S₆ W (W.free _ (by decide)) rfl ⟨rfl, wpAny_items_cons (wpAny_Call_items (knd := strKind prog w) (kvs := kvs2) lo2 (dOf2 S₆ hd6) rfl rfl (fun Q' hq => nmL S₆ q2 hq) ?_)⟩)
  have S₇ := S₆.pushG { cls := .type "dict_items", data := .fields #[.ref d2] }
  dsimp only
  refine wpAny_items_nil (itemsL (s := { s with heap := _, toks := _ }) hA'.hd S₇ (.tail _ hd6) Ho2 K2 (by rw [K2.length]; omega) (.head _) fun h₈ x₈ g₈ tk₈ S₈ D₈ => ?_)
  dsimp only
  refine cmpEqP (s := { s with heap := h₈, toks := tk₈ }) hA' S₈.at (by rw [hp]; exact D₆.mono fun q hq => List.mem_append.mpr (.inr (.tail _ hq))) (by rw [hp]; exact D₈) hs he ?_
  exact hk _ _ (Aft.of X.cx.ok S₈.fr.keep)
end
end Mine
end
section
open PySem PyProof.Rows PySem.Calls PySem.W
set_option maxRecDepth 100000
namespace Mine
section
variable {prog : Program} {w : World} {A : Around} {R : Result → Shared → Prop} {s : Shared}
/-- the body of a lambda -/
theorem codeAny_lam {e : Expr} {env : Env}
    (h : wpAny (model prog w) (A.deeper env) (eval e env) (fun v s' => R (.ok (.ret v)) s')
      (fun x s' => wpAny (model prog w) (A.deeper env) (leaving env x) (fun _ s'' => R (.error x) s'') (fun e' s'' => R (.error e') s'') s') s) :
    codeAny (model prog w) A (.expr e env) R s := by
  refine codeAny_of_tree ?_
  show wpAny _ (A.deeper env) (do point; ret (← (eval e env).onRaise (leaving env))) _ _ s
  refine wpAny_bind (wpAny_point (wpAny_bind (wpAny_onRaise (wpAny_mono h (fun v s' h' => ?_) fun _ _ h' => h'))))
  exact wpAny_pure h'
theorem codeAny_call_lam {a : Addr} {args : Args} {o : Obj} {fd : FuncData} {body : Expr} (hroom : A.depth < recursionLimit)
    (ho : s.heap.get? a = some o)
    (hd' : o.data = .func fd) (hco : fd.scope.isCoroutine = false) (hgen : fd.scope.isGenerator = false) (hbody : fd.body = .expr body) (hcd : s.heap.CodeRec fd.code fd.qualname)
    (h : wpAny (model prog w) A.in1 (bindArgs fd args) (fun binds s₁ =>
      wpAny (model prog w) A.in1 (newFunctionEnv fd.scope fd.globals fd.closure binds (fd.qualname ++ ".<locals>.") (some a) fd.code none fd.builtins)
        (fun env s₂ => s₂.heap.NoLimit ∧ codeAny (model prog w) A (.expr body env) R s₂) (fun e s' => R (.error e) s') s₁) (fun e s' => R (.error e) s') s) :
    codeAny (model prog w) A (.call (.ref a) args) R s := by
  refine codeAny_of_tree ?_
  show wpAny _ A.in1 (callAny (.ref a) args) _ _ s
  simp only [callAny]
  refine wpAny_bind (wpAny_load ho ?_)
  obtain ⟨c, oc, vs, tq, hc, hoc, hdc, hq⟩ := hcd
  simp only [hd', callFunction, hco, hgen, hbody, hc]
  rw [hc] at h
  refine wpAny_bind (m := field (.ref c) 1) (wpAny_field hoc hdc hq (wpAny_bind (wpAny_pure ?_)))
  exact wpAny_bind (wpAny_mono h (fun binds s₁ h₁ => wpAny_bind (wpAny_mono h₁ (fun env s₂ h₂ => wpAny_bind (wpAny_enterFrame h₂.1 hroom
    (wpAny_pure (And.intro rfl h₂.2)))) fun _ _ h' => h')) fun _ _ h' => h')
end
/-- a lambda without arguments -/
structure LamAt (h : Heap) (f : Addr) (o : Obj) (fd : FuncData) (qn : Str) (body : Expr) (scope : Scope) (cl : List (Str × Addr)) (cd : Value) : Prop where
  at_ : h.get? f = some o
  d : o.data = .func fd
  body_ : fd.body = .expr body
  scope_ : fd.scope = scope
  clos : fd.closure = cl
  code_ : fd.code = cd
  qual : fd.qualname = qn
  glob : fd.globals = mainGlobals
  bi : fd.builtins = builtinsNs
  rec_ : h.CodeRec cd qn
  args : bindArgs fd ⟨[], []⟩ = pure []
section
variable {prog : Program} {w : World} {A : Around} {E : Value → Shared → Prop} {s : Shared} {f : Addr} {o : Obj} {fd : FuncData} {qn : Str} {body : Expr} {scope : Scope} {cl : List (Str × Addr)} {cd : Value} {Q : Value → Shared → Prop} {g : Lg} {n : Nat}
theorem enterLam (hA : OkA A (n + 1)) (F : LamAt s.heap f o fd qn body scope cl cd) (hlim : s.heap.NoLimit) (hg : ∀ p ∈ g, s.heap.get? p.1 = some p.2)
    (h : ∀ L h₁ tk, s.heap.get? L = none → Ext s.heap h₁ → St s.heap L g (fun _ => none) [] g h₁ → OkA (A.deeper (eX qn scope L f cd cl)) n →
      wpAny (model prog w) (A.deeper (eX qn scope L f cd cl)) (eval body (eX qn scope L f cd cl)) (fun v s' => Q v s') (LE (model prog w) (A.deeper (eX qn scope L f cd cl)) (eX qn scope L f cd cl) E) { s with heap := h₁, toks := tk })
    (hco : scope.isCoroutine = false := by rfl) (hgen : scope.isGenerator = false := by rfl) (hkd : scope.kind = .function := by rfl) (hcell : ∀ x ∈ scope.names, x.2 ≠ .cell := by decide) :
    wpAny (model prog w) A (call (.ref f) []) Q E s := by
  obtain ⟨h1, h2, h3, h4, h5, h6, h7, h8, h9, h10, h11⟩ := F
  refine wpAny_call (codeAny_call_lam (by have := hA.dp; omega) h1 h2 (by rw [h4]; exact hco) (by rw [h4]; exact hgen) h3 (by rw [h6, h7]; exact h10) ?_)
  rw [h11, h4, h5, h6, h7, h8, h9]
  refine wpAny_pure (wpAny_newFunctionEnv hcell (by simp) (fun h₁ hns hsb => ⟨hlim.fresh _ hsb, ?_⟩) hkd)
  refine codeAny_lam ?_
  have keep : Ext s.heap h₁ := fun b o e => hsb.extBut b o (Nat.ne_of_lt (Heap.lt_size e)) (Heap.get?_push_of_some _ e)
  exact h s.heap.objs.size h₁ _ (size_none _) keep ⟨⟨hns, keep, Nat.le_refl _⟩, (fun _ h => nomatch h), fun p hp => ⟨keep _ _ (hg p hp), Nat.ne_of_lt (Heap.lt_size (hg p hp))⟩, (fun _ _ _ h => nomatch h), .nil, fun p hp => .inl hp⟩ hA.deeper
variable {h₀ : Heap} {L a : Addr} {gi : Lg} {m : Str → Option Value} {u : Lg} {cn : Str} {cs : Scope}
end
end Mine
end
section
open PySem PyProof.Rows PySem.Calls PySem.W
set_option maxRecDepth 100000
namespace Mine
abbrev tabO (ps : Array Value) : Obj := { cls := .none, data := .fields ps }
/-- the module's __builtins__ -/
structure Bm (mg : Str → Option Value) (h : Heap) : Prop where
  ex : ∃ bm ob, mg "__builtins__" = some (.ref bm) ∧ bm ≠ builtinsNs ∧ h.get? bm = some ob ∧ ob.cls = .type "module" ∧ ob.dict = some builtinsNs ∧ ob.data = .plain
/-- the code object of the def that makes lambdas, its table P -/
structure Cd (c P : Addr) (ps : Array Value) (h : Heap) : Prop where
  code : h.IsCode c P ps
  tab : h.TableAt c P ps
theorem Cd.same {c P : Addr} {ps : Array Value} {h h' : Heap} (x : Cd c P ps h) (hc : ∀ o, h.get? c = some o → h'.get? c = some o) (hP : ∀ o, h.get? P = some o → h'.get? P = some o) : Cd c P ps h' := by
  obtain ⟨⟨o, vs, file, tf, flags, tg, inF, text, tt, op, a, r1, r2, r3, r4, r5, r6, b, r⟩, ⟨⟨o', vs', a', r'⟩, t⟩⟩ := x
  exact ⟨⟨o, vs, file, tf, flags, tg, inF, text, tt, op, hc _ a, r1, r2, r3, r4, r5, r6, hP _ b, r⟩, ⟨⟨o', vs', hc _ a', r'⟩, hP _ t⟩⟩
section
variable {prog : Program} {w : World} {A : Around} {E : Value → Shared → Prop} {s : Shared} {h₀ : Heap} {L a c P : Addr} {gi : Lg} {m mg mb : Str → Option Value} {u g : Lg} {cn : Str} {cs : Scope} {cl ccl : List (Str × Addr)} {ps : Array Value} {args : Arguments} {body : Expr} {scope : Scope} {pos : Pos} {Q : Value → Shared → Prop} {U : Array Value → Lg}
abbrev lamFd (cn : Str) (args : Arguments) (body : Expr) (scope : Scope) (ccl : List (Str × Addr)) (ct code pm : Value) : FuncData :=
  { name := "<lambda>", qualname := cn ++ ".<locals>." ++ "<lambda>", params := args, body := .expr body, scope := scope, globals := mainGlobals, closure := ccl, closureTuple := ct, code := code, builtins := builtinsNs, defaults := .none, kwdefaults := .none, annotations := none, pyModule := pm, doc := .none }
abbrev lamO (fd : FuncData) : Obj := { cls := .type "function", data := .func fd }
set_option maxHeartbeats 1000000 in
/-- lambda: body, made for the first time -/
theorem mkLam (S : St h₀ L gi m u g s.heap) (W : Wd mg mb h₀) (B : Bm mg h₀) (C : Cd c P ps s.heap) (R : ∀ ps', Rep P (tabO ps) (tabO ps') u (U ps')) (hcP : c ≠ P) (hclos : closureFor scope (eX cn cs L a (.ref c) cl) = pure ccl) (hne : ccl.isEmpty = false) (hnf : codeAmong pos ps.toList = none)
    (h : ∀ h' f c' oc ct pm tk, St h₀ L gi m (U (ps ++ #[rawInt pos.line, rawInt pos.col, .ref c'])) ((f, lamO (lamFd cn args body scope ccl ct (.ref c') pm)) :: (c', oc) :: g) h' → Cd c P (ps ++ #[rawInt pos.line, rawInt pos.col, .ref c']) h' →
      h'.CodeRec (.ref c') (cn ++ ".<locals>." ++ "<lambda>") → Q (.ref f) { s with heap := h', toks := tk })
    (hdf : defaultsOf args (eX cn cs L a (.ref c) cl) = ([], []) := by rfl) (hkw : args.kwonlyargs = [] := by rfl) :
    wpAny (model prog w) A (eval (.Lambda args body scope pos) (eX cn cs L a (.ref c) cl)) Q E s := by
  rw [arm_eval_Lambda, hdf]
  show wpAny _ _ (evalAll [] >>= _) _ _ _
  refine wpAny_bind (wpAny_pure ?_)
  refine wpAny_bind (wpAny_holding (wpAny_pure ?_))
  rw [makeFunction_eq, hkw]
  refine wpAny_bind (wpAny_pure (wpAny_bind (wpAny_pure (wpAny_bind (wpAny_pure ?_)))))
  unfold makeTail
  rw [hclos]
  refine wpAny_bind (wpAny_pure ?_)
  rw [hne]
  refine wpAny_bind (wpAny_newTextTuple ?_)
  have S₁ := S.pushG { cls := .type "tuple", data := .seq ((ccl.mergeSort fun a b => a.1.cps.toList ≤ b.1.cps.toList).map fun x => Value.ref x.2).toArray }
  have C₁ : Cd c P ps (s.heap.push { cls := .type "tuple", data := .seq ((ccl.mergeSort fun a b => a.1.cps.toList ≤ b.1.cps.toList).map fun x => Value.ref x.2).toArray }) := C.same (fun o e => Heap.get?_push_of_some _ e) fun o e => Heap.get?_push_of_some _ e
  refine wpAny_bind (wpAny_functionCodeX rfl C₁.code C₁.tab hnf fun c' h₂ tk₂ hx₂ hge hlt hok₂ hrec₂ htab₂ _ => ?_)
  have T₂ : Turned _ h₂ P (tabO (ps ++ #[rawInt pos.line, rawInt pos.col, .ref c'])) := ⟨fun b x hb e => hx₂ b x hb e, htab₂.2⟩
  have S₂ := S₁.turn (R _) T₂
  obtain ⟨bm, ob, hbm, hbn, hbo, hbc, hbd, hbp⟩ := B.ex
  have hmg := W.g.keeps S₂.fr.keep
  refine wpAny_bind (wpAny_builtinsFor hmg hbm hbn (S₂.fr.keep _ _ hbo) hbc hbd hbp ?_)
  refine wpAny_bind (wpAny_nsGet hmg ?_)
  refine wpAny_bind (wpAny_pure ?_)
  obtain ⟨cc, oc, vs, tq, hce, hco, hcd, hcq⟩ := id hrec₂
  cases hce
  have hcn : s.heap.get? c' = none := Heap.get?_none_of_le (by rw [Heap.size_push] at hge; omega)
  have S₃ : St h₀ L gi m (U (ps ++ #[rawInt pos.line, rawInt pos.col, .ref c'])) ((c', oc) :: g) h₂ := by
    refine (S₂.subG (g' := g) fun p hp => .tail _ hp).addG hco (fun b o hb hbo q => ?_) (S.fresh hcn)
    rcases hb with rfl | hb
    · have := S.fr.ns.lt
      have hc2 := Heap.get?_none_of_le (h := s.heap) (a := c') (by rw [Heap.size_push] at hge; omega)
      obtain ⟨ol, _, _, hol, _⟩ := S.fr.ns
      rw [q, hc2] at hol; cases hol
    · rw [(R _).keys] at hb
      obtain ⟨p, hp, rfl⟩ := List.mem_map.mp hb
      have := (S.un p hp).1
      rw [q, hcn] at this; cases this
  refine wpAny_newObj_type ?_ (by size_fits)
  have S₄ := S₃.pushG (lamO (lamFd cn args body scope ccl (.ref s.heap.objs.size) (.ref c') ((mg "__name__").getD .none)))
  have C₄ : Cd c P (ps ++ #[rawInt pos.line, rawInt pos.col, .ref c']) (h₂.push (lamO (lamFd cn args body scope ccl (.ref s.heap.objs.size) (.ref c') ((mg "__name__").getD .none)))) := ⟨hok₂.push _, htab₂.push _⟩
  exact h _ _ c' oc _ _ _ S₄ C₄ (hrec₂.push _)
end
end Mine
end
section
open PySem PyProof.Rows PySem.Calls PySem.W
set_option maxRecDepth 100000
namespace Mine
def CodeO (o : Obj) (qn : Str) : Prop := ∃ vs t, o.data = .fields vs ∧ vs[1]? = some (.str qn t)
theorem among_snoc (pos p : Pos) (c : Value) : ∀ (l : List Value), TriplesOk l → codeAmong p (l ++ [rawInt pos.line, rawInt pos.col, c]) = (codeAmong p l).or (if ((pos.line : Int) == p.line && (pos.col : Int) == p.col) = true then some c else none) := by
  intro l h
  fun_induction TriplesOk l with
  | case1 =>
    simp only [List.nil_append, rawInt, codeAmong]
    split <;> simp_all
  | case2 a' t b' u x rest ih =>
    simp only [List.cons_append, codeAmong]
    split
    · simp
    · exact ih h
  | case3 => exact h.elim
/-- every lambda in the table has its code in the ledger -/
def TabOk (qn : Str) (ps : Array Value) (g : Lg) : Prop := ∀ p : Pos, codeAmong p ps.toList = none ∨ ∃ c' oc, codeAmong p ps.toList = some (.ref c') ∧ (c', oc) ∈ g ∧ CodeO oc qn
theorem TabOk.mono {qn : Str} {ps : Array Value} {g g' : Lg} (x : TabOk qn ps g) (h : ∀ p ∈ g, p ∈ g') : TabOk qn ps g' := fun p => (x p).imp id fun ⟨c', oc, a, b, d⟩ => ⟨c', oc, a, h _ b, d⟩
theorem TabOk.nil (qn : Str) (g : Lg) : TabOk qn #[] g := fun _ => .inl rfl
theorem TabOk.snoc {qn : Str} {ps : Array Value} {g : Lg} {pos : Pos} {c' : Addr} {oc : Obj} (x : TabOk qn ps g) (ht : TriplesOk ps.toList) (hm : (c', oc) ∈ g) (hc : CodeO oc qn) : TabOk qn (ps ++ #[rawInt pos.line, rawInt pos.col, .ref c']) g := fun p => by
  have e : (ps ++ #[rawInt pos.line, rawInt pos.col, Value.ref c']).toList = ps.toList ++ [rawInt pos.line, rawInt pos.col, .ref c'] := by simp
  rw [e, among_snoc pos p _ _ ht]
  rcases x p with h | ⟨c₂, o₂, h, r⟩
  · rw [h]
    by_cases hb : ((pos.line : Int) == p.line && (pos.col : Int) == p.col) = true
    · rw [if_pos hb]; exact .inr ⟨c', oc, rfl, hm, hc⟩
    · rw [if_neg hb]; exact .inl rfl
  · rw [h]; exact .inr ⟨c₂, o₂, rfl, r⟩
theorem CodeO.of_rec {h : Heap} {c : Addr} {o : Obj} {qn : Str} (x : h.CodeRec (.ref c) qn) (ho : h.get? c = some o) : CodeO o qn := by
  obtain ⟨c₁, o₁, vs, t, e, h1, h2, h3⟩ := x
  cases e
  rw [ho] at h1; cases h1
  exact ⟨vs, t, h2, h3⟩
/-- a lambda that stands in the ledger -/
structure LamG (g : Lg) (f : Addr) (qn : Str) (body : Expr) (scope : Scope) (cl : List (Str × Addr)) (args : Arguments) : Prop where
  ex : ∃ o fd c oc, (f, o) ∈ g ∧ o.data = .func fd ∧ fd.body = .expr body ∧ fd.scope = scope ∧ fd.closure = cl ∧ fd.code = .ref c ∧ fd.qualname = qn ∧ fd.globals = mainGlobals ∧ fd.builtins = builtinsNs ∧ fd.params = args ∧ fd.defaults = .none ∧ fd.kwdefaults = .none ∧ (c, oc) ∈ g ∧ CodeO oc qn
theorem LamG.mono {g g' : Lg} {f : Addr} {qn : Str} {body : Expr} {scope : Scope} {cl : List (Str × Addr)} {args : Arguments} (x : LamG g f qn body scope cl args) (h : ∀ p ∈ g, p ∈ g') : LamG g' f qn body scope cl args := by
  obtain ⟨o, fd, c, oc, h1, h2, h3, h4, h5, h6, h7, h8, h9, h10, h11, h12, h13, h14⟩ := x.ex
  exact ⟨o, fd, c, oc, h _ h1, h2, h3, h4, h5, h6, h7, h8, h9, h10, h11, h12, h _ h13, h14⟩
theorem LamG.at {g : Lg} {h : Heap} {f : Addr} {qn : Str} {body : Expr} {scope : Scope} {cl : List (Str × Addr)} {args : Arguments} (x : LamG g f qn body scope cl args) (hl : ∀ p ∈ g, h.get? p.1 = some p.2)
    (hb : ∀ fd : FuncData, fd.params = args → fd.defaults = .none → fd.kwdefaults = .none → bindArgs fd ⟨[], []⟩ = pure []) : ∃ o fd cd, LamAt h f o fd qn body scope cl cd := by
  obtain ⟨o, fd, c, oc, h1, h2, h3, h4, h5, h6, h7, h8, h9, h10, h11, h12, h13, vs, t, h14, h15⟩ := x.ex
  exact ⟨o, fd, .ref c, ⟨hl _ h1, h2, h3, h4, h5, h6, h7, h8, h9, ⟨c, oc, vs, t, rfl, hl _ h13, h14, h15⟩, hb fd h10 h11 h12⟩⟩
section
variable {prog : Program} {w : World} {A : Around} {E : Value → Shared → Prop} {s : Shared} {h₀ : Heap} {L a c P : Addr} {gi : Lg} {m mg mb : Str → Option Value} {u g : Lg} {cn : Str} {cs : Scope} {cl ccl : List (Str × Addr)} {ps : Array Value} {args : Arguments} {body : Expr} {scope : Scope} {pos : Pos} {Q : Value → Shared → Prop} {U : Array Value → Lg}
set_option maxHeartbeats 1000000 in
/-- lambda: body -/
theorem lamE (S : St h₀ L gi m u g s.heap) (W : Wd mg mb h₀) (B : Bm mg h₀) (C : Cd c P ps s.heap) (T : TabOk (cn ++ ".<locals>." ++ "<lambda>") ps g) (R : ∀ ps', Rep P (tabO ps) (tabO ps') u (U ps')) (hu : U ps = u) (hcP : c ≠ P) (hclos : closureFor scope (eX cn cs L a (.ref c) cl) = pure ccl) (hne : ccl.isEmpty = false)
    (h : ∀ h' f ps' g' tk, (∀ p ∈ g, p ∈ g') → St h₀ L gi m (U ps') g' h' → Cd c P ps' h' → TabOk (cn ++ ".<locals>." ++ "<lambda>") ps' g' → LamG g' f (cn ++ ".<locals>." ++ "<lambda>") body scope ccl args → Q (.ref f) { s with heap := h', toks := tk })
    (hdf : defaultsOf args (eX cn cs L a (.ref c) cl) = ([], []) := by rfl) (hkw : args.kwonlyargs = [] := by rfl) :
    wpAny (model prog w) A (eval (.Lambda args body scope pos) (eX cn cs L a (.ref c) cl)) Q E s := by
  have htr : TriplesOk ps.toList := by
    obtain ⟨_, _, _, _, _, _, _, _, _, _, _, _, _, _, _, _, _, _, _, r, _⟩ := C.code
    exact r
  rcases T pos with hnf | ⟨c', oc, hf, hm, hc⟩
  · refine mkLam S W B C R hcP hclos hne hnf (fun h' f c' oc ct pm tk S' C' hr => ?_) hdf hkw
    have hco := CodeO.of_rec hr (S'.led _ (.tail _ (.head _))).1
    refine h h' f _ _ tk (fun p hp => .tail _ (.tail _ hp)) S' C' ((T.mono fun p hp => .tail _ (.tail _ hp)).snoc htr (.tail _ (.head _)) hco) ?_
    exact ⟨_, _, c', oc, .head _, rfl, rfl, rfl, rfl, rfl, rfl, rfl, rfl, rfl, rfl, rfl, .tail _ (.head _), hco⟩
  · rw [arm_eval_Lambda, hdf]
    show wpAny _ _ (evalAll [] >>= _) _ _ _
    refine wpAny_bind (wpAny_pure ?_)
    refine wpAny_bind (wpAny_holding (wpAny_pure ?_))
    rw [makeFunction_eq, hkw]
    refine wpAny_bind (wpAny_pure (wpAny_bind (wpAny_pure (wpAny_bind (wpAny_pure ?_)))))
    unfold makeTail
    rw [hclos]
    refine wpAny_bind (wpAny_pure ?_)
    rw [hne]
    refine wpAny_bind (wpAny_newTextTuple ?_)
    have S₁ := S.pushG { cls := .type "tuple", data := .seq ((ccl.mergeSort fun a b => a.1.cps.toList ≤ b.1.cps.toList).map fun x => Value.ref x.2).toArray }
    have C₁ : Cd c P ps (s.heap.push { cls := .type "tuple", data := .seq ((ccl.mergeSort fun a b => a.1.cps.toList ≤ b.1.cps.toList).map fun x => Value.ref x.2).toArray }) := C.same (fun o e => Heap.get?_push_of_some _ e) fun o e => Heap.get?_push_of_some _ e
    refine wpAny_bind (wpAny_functionCode_hit rfl C₁.code hf ?_)
    obtain ⟨bm, ob, hbm, hbn, hbo, hbc, hbd, hbp⟩ := B.ex
    have hmg := W.g.keeps S₁.fr.keep
    refine wpAny_bind (wpAny_builtinsFor hmg hbm hbn (S₁.fr.keep _ _ hbo) hbc hbd hbp ?_)
    refine wpAny_bind (wpAny_nsGet hmg ?_)
    refine wpAny_bind (wpAny_pure ?_)
    refine wpAny_newObj_type ?_ (by size_fits)
    have S₄ := S₁.pushG (lamO (lamFd cn args body scope ccl (.ref s.heap.objs.size) (.ref c') ((mg "__name__").getD .none)))
    rw [← hu] at S₄
    refine h _ _ ps _ _ (fun p hp => .tail _ (.tail _ hp)) S₄ (C₁.same (fun o e => Heap.get?_push_of_some _ e) fun o e => Heap.get?_push_of_some _ e) (T.mono fun p hp => .tail _ (.tail _ hp)) ?_
    exact ⟨_, _, c', oc, .head _, rfl, rfl, rfl, rfl, rfl, rfl, rfl, rfl, rfl, rfl, rfl, .tail _ (.tail _ hm), hc⟩
end
end Mine
end
section
open PySem PyProof.Rows PySem.Calls PySem.W
open PyProof.Rows.LCg (NsObj ns_obj)
set_option maxRecDepth 100000
namespace Mine
section
variable {h₀ h h' : Heap} {L : Addr} {gi : Lg} {m : Str → Option Value} {u us us' g : Lg}
/-- some of what may be turned is turned -/
theorem St.many (S : St h₀ L gi m (us ++ u) g h) (hk : ∀ b o, b ∉ us.map (·.1) → h.get? b = some o → h'.get? b = some o) (hu : ∀ p ∈ us', h'.get? p.1 = some p.2) (hs : List.Sublist (us'.map (·.1)) (us.map (·.1))) : St h₀ L gi m (us' ++ u) g h' := by
  have hold : ∀ p ∈ us, p.1 ≠ L ∧ h₀.get? p.1 = none := fun p hp => (S.un p (List.mem_append_left _ hp)).2
  have key : ∀ b, b ∈ us.map (·.1) → b ≠ L ∧ h₀.get? b = none := fun b hb => by
    obtain ⟨p, hp, rfl⟩ := List.mem_map.mp hb
    exact hold p hp
  have nd := S.nd
  rw [List.map_append] at nd
  obtain ⟨n1, n2, n3⟩ := List.nodup_append.mp nd
  have off : ∀ p ∈ u, p.1 ∉ us.map (·.1) := fun p hp hb => n3 _ hb _ (List.mem_map.mpr ⟨p, hp, rfl⟩) rfl
  have offg : ∀ p ∈ g, p.1 ∉ us.map (·.1) := fun p hp hb => by
    obtain ⟨q, hq, e⟩ := List.mem_map.mp hb
    exact S.sep p hp q (List.mem_append_left _ hq) e.symm
  refine ⟨⟨?_, fun b o e => hk b o (fun hb => ?_) (S.fr.keep b o e), S.fr.above⟩, fun p hp => ?_, fun p hp => ⟨hk _ _ (offg p hp) (S.led p hp).1, (S.led p hp).2⟩, fun p hp q hq => ?_, ?_, S.prov⟩
  · obtain ⟨o, es, ep, ho, r⟩ := S.fr.ns
    exact ⟨o, es, ep, hk _ _ (fun hb => (key _ hb).1 rfl) ho, r⟩
  · rw [(key _ hb).2] at e; cases e
  · rcases List.mem_append.mp hp with hp | hp
    · exact ⟨hu p hp, key _ (hs.subset (List.mem_map.mpr ⟨p, hp, rfl⟩))⟩
    · have z := S.un p (List.mem_append_right _ hp)
      exact ⟨hk _ _ (off p hp) z.1, z.2⟩
  · rcases List.mem_append.mp hq with hq | hq
    · intro e
      exact offg p hp (e ▸ hs.subset (List.mem_map.mpr ⟨q, hq, rfl⟩))
    · exact S.sep p hp q (List.mem_append_right _ hq)
  · rw [List.map_append]
    exact List.nodup_append.mpr ⟨n1.sublist hs, n2, fun a ha b hb => n3 a (hs.subset ha) b hb⟩
end
theorem St.perm {h₀ h : Heap} {L : Addr} {gi : Lg} {m : Str → Option Value} {u u' g : Lg} (S : St h₀ L gi m u g h) (hp : List.Perm u u') : St h₀ L gi m u' g h :=
  ⟨S.fr, fun p h => S.un p (hp.mem_iff.mpr h), S.led, fun p h q hq => S.sep p h q (hp.mem_iff.mpr hq), (hp.map _).nodup_iff.mp S.nd, S.prov⟩
/-- a walker: its objects us, its items ds -/
structure Src (prog : Program) (w : World) (A : Around) (tg : Expr) (I : Addr) (g : Lg) (ds : List Dt) (P : Nat → Lg → Prop) : Prop where
  item : ∀ {i d s h₀ L gi m u us g'} {K : Value → Shared → Prop} {E E' : Value → Shared → Prop}, ds[i]? = some d → P i us → (∀ p ∈ g, p ∈ g') → St h₀ L gi m (us ++ u) g' s.heap →
    (∀ v us' g'' h', P (i + 1) us' → (∀ p ∈ g', p ∈ g'') → DL g'' v d → St h₀ L gi m (us' ++ u) g'' h' → K v { s with heap := h' }) →
    wpAny (model prog w) A (pyNext (.ref I)) (fun r s₁ => ∃ v, r = some v ∧ wpAny (model prog w) A (letOwnedTupleGo tg (.ref I) v) (fun _ s₂ => K v s₂) E' s₁) E s
  done : ∀ {s h₀ L gi m u us g'} {K : Shared → Prop} {E : Value → Shared → Prop}, P ds.length us → (∀ p ∈ g, p ∈ g') → St h₀ L gi m (us ++ u) g' s.heap → (∀ h', St h₀ L gi m u g' h' → K { s with heap := h' }) →
    wpAny (model prog w) A (pyNext (.ref I)) (fun r s₁ => r = none ∧ K s₁) E s
  self : ∀ {i s h₀ L gi m u us g'} {Q : Value → Shared → Prop} {E : Value → Shared → Prop}, P i us → St h₀ L gi m (us ++ u) g' s.heap → Q (.ref I) s → wpAny (model prog w) A (pyIter (.ref I)) Q E s
section
variable {prog : Program} {w : World} {A : Around} {g : Lg} {tg : Expr} {ds : List Dt}
def liO (o : Obj) (l : Addr) (i : Nat) : Prop := o.cls = .type "list_iterator" ∧ o.data = .fields #[.ref l, .int i 0]
def liP (I l : Addr) (i : Nat) (us : Lg) : Prop := ∃ o, us = [(I, o)] ∧ liO o l i
theorem src_list {I l : Addr} {vs : List Value} {n : Nat} (hh : A.handled = none) (hl : (l, lstO vs n) ∈ g) (hD : DLs g vs ds) (lets : Lets tg) : Src prog w A tg I g ds (liP I l) where
  item := by
    rintro i d s h₀ L gi m u us g' K E E' hd ⟨o, rfl, ho⟩ hsub S k
    obtain ⟨v, hv, hDv⟩ := hD.get hd
    refine wpAny_pyNext_list_item ⟨o, (S.un _ (.head _)).1, ho⟩ ⟨_, (S.led _ (hsub _ hl)).1, rfl, _, rfl⟩ (by simpa using hv) fun h₁ hit₁ hs₁ => ⟨v, rfl, lets hit₁ ?_⟩
    obtain ⟨o₁, h1, h2⟩ := hit₁
    exact k v [(I, o₁)] g' h₁ ⟨o₁, rfl, h2⟩ (fun _ hp => hp) (hDv.mono hsub) (S.set .head hs₁ h1)
  done := by
    rintro s h₀ L gi m u us g' K E ⟨o, rfl, ho⟩ hsub S k
    refine wpAny_pyNext_list_end hh ⟨o, (S.un _ (.head _)).1, ho⟩ ⟨_, (S.led _ (hsub _ hl)).1, rfl, _, rfl⟩ (by have := hD.length; simpa using Nat.le_of_eq this) fun h₁ hx => ⟨rfl, k h₁ (S.extBut hx)⟩
  self := by
    rintro i s h₀ L gi m u us g' Q E ⟨o, rfl, ho⟩ S q
    exact wpAny_pyIter_listiter ⟨o, (S.un _ (.head _)).1, ho⟩ q
abbrev zpO (TI TO : Addr) (f : Value) : Obj := { cls := .type "zip", dict := none, data := .fields #[f, .bool false, .bool false, .ref TI, .ref TO], slots := #[] }
def ziP (z TI TO i1 i2 l1 l2 : Addr) (i : Nat) (us : Lg) : Prop := ∃ o1 o2 a b, us = [(z, zpO TI TO .none), (TI, { cls := .type "tuple", data := .seq #[.ref i1, .ref i2] }), (TO, { cls := .type "tuple", data := .seq #[a, b] }), (i1, o1), (i2, o2)] ∧ liO o1 l1 i ∧ liO o2 l2 i
def zipD (xs ys : List Dt) : List Dt := List.zipWith (fun a b => .tuple [a, b]) xs ys
theorem apart_of {h₀ h : Heap} {L : Addr} {gi : Lg} {m : Str → Option Value} {u : Lg} {z TI TO i1 i2 l1 l2 : Addr} {oz oI oO o1 o2 p1 p2 : Obj} (S : St h₀ L gi m ([(z, oz), (TI, oI), (TO, oO), (i1, o1), (i2, o2)] ++ u) g h) (h1 : (l1, p1) ∈ g) (h2 : (l2, p2) ∈ g) : ZipApart z TI TO i1 i2 l1 l2 := by
  have nd := S.nd
  simp only [List.cons_append, List.nil_append, List.map_cons, List.nodup_cons, List.mem_cons, not_or] at nd
  obtain ⟨⟨a1, a2, a3, a4, -⟩, ⟨b1, b2, b3, -⟩, ⟨c1, c2, -⟩, ⟨d1, -⟩, -⟩ := nd
  have s1 := S.sep _ h1
  have s2 := S.sep _ h2
  exact ⟨Ne.symm a1, Ne.symm a2, Ne.symm a3, Ne.symm a4, b1, b2, b3, c1, c2, d1, s1 _ (.head _), s1 _ (.tail _ (.tail _ (.head _))), s1 _ (.tail _ (.tail _ (.tail _ (.head _)))), s1 _ (.tail _ (.tail _ (.tail _ (.tail _ (.head _))))),
    s2 _ (.head _), s2 _ (.tail _ (.tail _ (.head _))), s2 _ (.tail _ (.tail _ (.tail _ (.head _)))), s2 _ (.tail _ (.tail _ (.tail _ (.tail _ (.head _)))))⟩
set_option maxHeartbeats 1000000 in
theorem src_zip {z TI TO i1 i2 l1 l2 : Addr} {vs1 vs2 : List Value} {n1 n2 : Nat} {ds1 ds2 : List Dt} {es : List Expr} {k : Nat} {tp : Pos} (hh : A.handled = none) (hl1 : (l1, lstO vs1 n1) ∈ g) (hl2 : (l2, lstO vs2 n2) ∈ g) (hD1 : DLs g vs1 ds1) (hD2 : DLs g vs2 ds2) :
    Src prog w A (.Tuple es k tp) z g (zipD ds1 ds2) (ziP z TI TO i1 i2 l1 l2) where
  item := by
    rintro i d s h₀ L gi m u us g' K E E' hd ⟨o1, o2, a, b, rfl, ho1, ho2⟩ hsub S k
    rw [zipD, List.getElem?_zipWith_eq_some] at hd
    obtain ⟨d1, d2, e1, e2, rfl⟩ := hd
    obtain ⟨v1, hv1, Dv1⟩ := hD1.get e1
    obtain ⟨v2, hv2, Dv2⟩ := hD2.get e2
    have D := apart_of S (hsub _ hl1) (hsub _ hl2)
    have u1 := (S.un _ (.head _)).1
    have u2 := (S.un _ (.tail _ (.head _))).1
    have u3 := (S.un _ (.tail _ (.tail _ (.head _)))).1
    have u4 := (S.un _ (.tail _ (.tail _ (.tail _ (.head _))))).1
    have u5 := (S.un _ (.tail _ (.tail _ (.tail _ (.tail _ (.head _)))))).1
    have hT := size_none s.heap
    refine wpAny_pyNext_zip_item D u1 u2 u3 ⟨o1, u4, ho1⟩ ⟨o2, u5, ho2⟩ ⟨_, (S.led _ (hsub _ hl1)).1, rfl, _, rfl⟩ ⟨_, (S.led _ (hsub _ hl2)).1, rfl, _, rfl⟩ (by simpa using hv1) (by simpa using hv2) fun h₁ a1 a2 a3 a4 a5 a6 hk => ⟨_, rfl, ?_⟩
    refine wpAny_letOwnedTupleGo_zip a1 fun h₂ hz₂ hs₂ => ?_
    obtain ⟨q1, r1, r1'⟩ := a3
    obtain ⟨q2, r2, r2'⟩ := a4
    have hTz : s.heap.objs.size ≠ z := Nat.ne_of_gt (Heap.lt_size u1)
    have S₁ : St h₀ L gi m ([(z, zpO TI TO .none), (TI, { cls := .type "tuple", data := .seq #[.ref i1, .ref i2] }), (TO, { cls := .type "tuple", data := .seq #[v1, v2] }), (i1, q1), (i2, q2)] ++ u) g' h₂ := by
      refine S.many (fun b o hb e => ?_) (fun p hp => ?_) (List.Sublist.refl _)
      · simp only [List.map_cons, List.mem_cons, not_or] at hb
        exact hs₂.extBut b o hb.1 (hk b o hb.1 hb.2.2.1 hb.2.2.2.1 hb.2.2.2.2.1 e)
      · simp only [List.mem_cons, List.not_mem_nil, or_false] at hp
        rcases hp with rfl | rfl | rfl | rfl | rfl
        · exact hz₂
        · exact hs₂.extBut _ _ D.TIz (hk _ _ D.TIz D.TITO D.TIi1 D.TIi2 u2)
        · exact hs₂.extBut _ _ D.TOz a2
        · exact hs₂.extBut _ _ D.i1z r1
        · exact hs₂.extBut _ _ D.i2z r2
    have S₂ := S₁.addG (T := s.heap.objs.size) (o := tupO [v1, v2] 0) (hs₂.extBut _ _ hTz a5) (fun b' o hb _ q => ?_) (S.fresh hT)
    · refine k _ _ _ h₂ ⟨q1, q2, v1, v2, rfl, r1', r2'⟩ (fun p hp => .tail _ hp) ?_ S₂
      exact .tuple (.head _) rfl rfl (.cons (Dv1.mono fun p hp => .tail _ (hsub _ hp)) (.cons (Dv2.mono fun p hp => .tail _ (hsub _ hp)) .nil))
    · subst q
      rcases hb with q | hb
      · exact S.neL hT q
      · have hb' : s.heap.objs.size ∈ ([(z, zpO TI TO .none), (TI, ({ cls := .type "tuple", data := .seq #[.ref i1, .ref i2] } : Obj)), (TO, { cls := .type "tuple", data := .seq #[a, b] }), (i1, o1), (i2, o2)] ++ u).map (·.1) := by simpa using hb
        obtain ⟨p, hp, e⟩ := List.mem_map.mp hb'
        have := (S.un p hp).1
        rw [e, hT] at this; cases this
  done := by
    rintro s h₀ L gi m u us g' K E ⟨o1, o2, a, b, rfl, ho1, ho2⟩ hsub S k
    have D := apart_of S (hsub _ hl1) (hsub _ hl2)
    have hend : vs1.toArray[(zipD ds1 ds2).length]? = none ∨ vs2.toArray[(zipD ds1 ds2).length]? = none := by
      have e1 := hD1.length
      have e2 := hD2.length
      simp [zipD]
      omega
    refine wpAny_pyNext_zip_end hh D (S.un _ (.head _)).1 (S.un _ (.tail _ (.head _))).1 (S.un _ (.tail _ (.tail _ (.head _)))).1 ⟨o1, (S.un _ (.tail _ (.tail _ (.tail _ (.head _))))).1, ho1⟩ ⟨o2, (S.un _ (.tail _ (.tail _ (.tail _ (.tail _ (.head _)))))).1, ho2⟩
      ⟨_, (S.led _ (hsub _ hl1)).1, rfl, _, rfl⟩ ⟨_, (S.led _ (hsub _ hl2)).1, rfl, _, rfl⟩ hend fun h₁ hk => ⟨rfl, k h₁ ?_⟩
    refine S.many (us' := []) (fun b o hb e => ?_) (fun _ h => nomatch h) (List.nil_sublist _)
    simp only [List.map_cons, List.mem_cons, not_or] at hb
    exact hk b o hb.1 hb.2.2.1 hb.2.2.2.1 hb.2.2.2.2.1 e
  self := by
    rintro i s h₀ L gi m u us g' Q E ⟨o1, o2, a, b, rfl, ho1, ho2⟩ S q
    exact wpAny_pyIter_zip (S.un _ (.head _)).1 q
end
end Mine
end
section
open PySem PyProof.Rows PySem.Calls PySem.W
open PyProof.Rows.LCg (NsObj ns_obj)
set_option maxRecDepth 100000
namespace Mine
theorem perm2 {α : Type} (a b : α) (us u : List α) : List.Perm (us ++ a :: b :: u) (a :: b :: (us ++ u)) := List.perm_middle.trans (.cons _ List.perm_middle)
/-- the ledger, or its part that is newer than a heap -/
def flt (f : Option Heap) (g : Lg) : Lg := match f with | none => g | some h => g.filter fun p => (h.get? p.1).isNone
theorem flt_sub {f : Option Heap} {g g' : Lg} (h : ∀ p ∈ g, p ∈ g') : ∀ p ∈ flt f g, p ∈ flt f g' := by
  cases f with
  | none => exact h
  | some b => intro p hp; rw [flt, List.mem_filter] at hp ⊢; exact ⟨h p hp.1, hp.2⟩
theorem note_same {x : Value} {env cenv : Env} (h : cenv.frame = env.frame) : noteFrame x cenv = noteFrame x env := by unfold noteFrame PySem.frameOf; rw [h]
theorem noted_same {M : Model} {A : Around} {env cenv : Env} {E : Value → Shared → Prop} {x : Value} {s : Shared} (h : cenv.frame = env.frame) (k : notedBy M A env E x s) : notedBy M A cenv E x s := by unfold notedBy at *; rw [note_same h]; exact k
section
variable {prog : Program} {w : World} {A : Around} {E : Value → Shared → Prop} {s : Shared} {h₀ : Heap} {L I : Addr} {gi : Lg} {m : Str → Option Value} {u us g g₀ : Lg} {env : Env} {tg elt iter : Expr} {ds : List Dt} {P : Nat → Lg → Prop} {scope : Scope} {pos : Pos}
/-- what an element's end must show -/
def EltEnd (s : Shared) (h₀ : Heap) (L : Addr) (gi : Lg) (m : Str → Option Value) (C : Addr) (r : Lg) (J : Prop) (f : Option Heap) (g : Lg) (e : Dt) (y : Value) (s₃ : Shared) : Prop :=
  ∃ oC' mC' g'' h'' tk'', s₃ = { s with heap := h'', toks := tk'' } ∧ NsObj oC' mC' ∧ (∀ p ∈ g, p ∈ g'') ∧ J ∧ DL (flt f g'') y e ∧ St h₀ L gi m ((C, oC') :: r) g'' h''
set_option maxHeartbeats 1000000 in
theorem compCore {RR : Value → Env → Result → Shared → Prop} (f : Option Heap) (J : Nat → Prop) (outs : List Dt) (EC : Addr → Value → Shared → Prop) (src : Src prog w A tg I g ds P) (S : St h₀ L gi m (us ++ u) g s.heap) (hP : P 0 us) (hJ : J 0) (hlen : outs.length = ds.length) (hz : ds.length ≤ 1000)
    (hcell : ∀ y ∈ scope.names, y.2 ≠ .cell) (hkind : scope.kind = .function)
    (hEC : ∀ D C x s', s.heap.get? C = none → EC C x s' → notedBy (model prog w) A (compEnv scope C env) (fun e s'' => RR D (compEnv scope C env) (.error e) s'') x s')
    (turn : ∀ i d e v C oC mC D n ys us' g' h tk, ds[i]? = some d → outs[i]? = some e → DL g' v d → (∀ p ∈ g, p ∈ g') → J i → s.heap.get? C = none → St h₀ L gi m ((C, oC) :: (D, lstO ys n) :: (us' ++ u)) g' h → NsObj oC mC →
      wpAny (model prog w) A (assign tg (compEnv scope C env) v) (fun _ s₂ => wpAny (model prog w) A (eval elt (compEnv scope C env)) (EltEnd s h₀ L gi m C ((D, lstO ys n) :: (us' ++ u)) (J (i + 1)) f g' e) (EC C) s₂) (EC C) { s with heap := h, toks := tk })
    (done : ∀ C oC mC D n ys g' h tk, J ds.length → DLs (flt f g') ys outs → (∀ p ∈ g, p ∈ g') → s.heap.get? C = none → s.heap.get? D = none → St h₀ L gi m ((C, oC) :: (D, lstO ys n) :: u) g' h → NsObj oC mC → RR (.ref D) (compEnv scope C env) (.ok .next) { s with heap := h, toks := tk }) :
    wpAny (model prog w) A (newList []) (fun acc s₃ => wpAny (model prog w) A (newFunctionEnv scope env.globals [] [] env.qual none .none (some env)) (fun cenv s₄ =>
      codeAny (model prog w) A (.compStart (.ListComp elt [⟨tg, iter, [], 0⟩] scope pos) 0 (.ref I) acc { cenv with scope := scope }) (RR acc { cenv with scope := scope }) s₄) E s₃) E s := by
  refine wpAny_newObj_type (wpAny_newFunctionEnv hcell (by intro y hy; simp at hy) (fun h₁ hns₁ hsb₁ => ?_) hkind)
  dsimp only at hns₁ hsb₁ ⊢
  have S₁ := S.pushU (lstO [] 0)
  generalize hD : s.heap.objs.size = D at *
  generalize hH : s.heap.push { cls := .type "list", dict := none, data := .seq ([] : List Value).toArray } = H2 at *
  have hDn : s.heap.get? D = none := hD ▸ size_none _
  have hCn : s.heap.get? H2.objs.size = none := Heap.get?_none_of_le (by rw [← hH, Heap.size_push]; omega)
  obtain ⟨oC, hoC, hNC⟩ := ns_obj hns₁
  have S₂ : St h₀ L gi m ((H2.objs.size, oC) :: (D, lstO [] 0) :: (us ++ u)) g h₁ := by
    have S' := S₁.pushU { cls := .type (if (some env).isSome then "dict" else "frame"), data := .dict #[] }
    exact S'.set .head hsb₁ hoC
  show codeAny (model prog w) A (.compStart (.ListComp elt [⟨tg, iter, [], 0⟩] scope pos) 0 (.ref I) (.ref D) (compEnv scope H2.objs.size env)) (RR (.ref D) (compEnv scope H2.objs.size env)) _
  generalize H2.objs.size = C at *
  have loop : codeAny (model prog w) A (.compLoop (.ListComp elt [⟨tg, iter, [], 0⟩] scope pos) 0 (.ref I) (.ref D) (compEnv scope C env)) (RR (.ref D) (compEnv scope C env)) { s with heap := h₁, toks := s.toks + ([] : List (Str × Value)).length } := by
    refine kcp_loop (fun k s' => ∃ i oC mC n ys us' g' h tk, s' = { s with heap := h, toks := tk } ∧ i ≤ ds.length ∧ k = ds.length + 1 - i ∧ P i us' ∧ (∀ p ∈ g, p ∈ g') ∧ J i ∧ DLs (flt f g') ys (outs.take i) ∧ NsObj oC mC ∧ St h₀ L gi m ((C, oC) :: (D, lstO ys n) :: (us' ++ u)) g' h)
      ?_ (ds.length + 1) ⟨0, oC, _, 0, [], us, g, h₁, _, rfl, Nat.zero_le _, rfl, hP, fun _ hp => hp, hJ, by simpa using DLs.nil, hNC, S₂⟩
    rintro k s' ⟨i, oC, mC, n, ys, us', g', h, tk, rfl, hi, rfl, hPi, hsub, hJi, hys, hN, S'⟩
    have S'' : St h₀ L gi m (us' ++ ((C, oC) :: (D, lstO ys n) :: u)) g' h := St.perm S' (perm2 _ _ _ _).symm
    by_cases hlt : i < ds.length
    · obtain ⟨d, hd⟩ : ∃ d, ds[i]? = some d := ⟨_, List.getElem?_eq_getElem hlt⟩
      obtain ⟨e, he⟩ : ∃ e, outs[i]? = some e := ⟨_, List.getElem?_eq_getElem (by omega)⟩
      refine wpAny_mono (src.item (E' := notedBy (model prog w) A (compEnv scope C env) fun e s' => RR (.ref D) (compEnv scope C env) (.error e) s') (K := fun v s₂ => wpAny (model prog w) A (assign tg (compEnv scope C env) v) (fun _ s₂ => wpAny (model prog w) A (eval elt (compEnv scope C env)) (fun x s₄ =>
            wpAny (model prog w) A (call (.builtin "list.append") [.ref D, x]) (fun _ s₅ => ∃ m', m' < ds.length + 1 - i ∧ ∃ i oC mC n ys us' g' h tk, s₅ = { s with heap := h, toks := tk } ∧ i ≤ ds.length ∧ m' = ds.length + 1 - i ∧ P i us' ∧ (∀ p ∈ g, p ∈ g') ∧ J i ∧ DLs (flt f g') ys (outs.take i) ∧ NsObj oC mC ∧ St h₀ L gi m ((C, oC) :: (D, lstO ys n) :: (us' ++ u)) g' h)
              (notedBy (model prog w) A (compEnv scope C env) fun e s' => RR (.ref D) (compEnv scope C env) (.error e) s') s₄) (notedBy (model prog w) A (compEnv scope C env) fun e s' => RR (.ref D) (compEnv scope C env) (.error e) s') s₂)
            (notedBy (model prog w) A (compEnv scope C env) fun e s' => RR (.ref D) (compEnv scope C env) (.error e) s') s₂) hd hPi hsub S'' ?_) (fun r s₁ hr => ?_) fun _ _ e => e
      · intro v us₂ g₂ h₂ hP₂ hsub₂ hDv S₂
        have S₃ : St h₀ L gi m ((C, oC) :: (D, lstO ys n) :: (us₂ ++ u)) g₂ h₂ := St.perm S₂ (perm2 _ _ _ _)
        refine wpAny_mono (turn i d e v C oC mC D n ys us₂ g₂ h₂ tk hd he hDv (fun p hp => hsub₂ _ (hsub _ hp)) hJi hCn S₃ hN) (fun _ s₂ h₂ => wpAny_mono h₂ (fun y s₃ h₃ => ?_) fun _ _ e => hEC _ _ _ _ hCn e) fun _ _ e => hEC _ _ _ _ hCn e
        obtain ⟨oC', mC', g₃, h₃, tk₃, rfl, hN₃, hsub₃, hJ₃, hDy, S₄⟩ := h₃
        have hyl := hys.length
        rw [List.length_take] at hyl
        refine lApp (U := fun n' => (C, oC') :: (D, lstO (ys ++ [y]) n') :: (us₂ ++ u)) S₄ (fun n' => .tail .head) (by omega) fun h₅ n₅ S₅ => ?_
        refine ⟨ds.length + 1 - (i + 1), by omega, i + 1, oC', mC', n₅, ys ++ [y], us₂, g₃, h₅, tk₃, rfl, hlt, rfl, hP₂, fun p hp => hsub₃ _ (hsub₂ _ (hsub _ hp)), hJ₃, ?_, hN₃, S₅⟩
        rw [List.take_add_one, he]
        exact (hys.mono (flt_sub fun p hp => hsub₃ _ (hsub₂ _ hp))).append (.cons hDy .nil)
      · obtain ⟨v, rfl, hv⟩ := hr
        exact hv
    · have hie : i = ds.length := by omega
      subst hie
      refine wpAny_mono (src.done (K := fun s₁ => RR (.ref D) (compEnv scope C env) (.ok .next) s₁) hPi hsub S'' fun h' Sd => ?_) (fun r s₁ hr => ?_) fun _ _ e => e
      · exact done C oC mC D n ys g' h' tk hJi (by rw [← hlen, List.take_length] at hys; exact hys) hsub hCn hDn Sd hN
      · obtain ⟨rfl, hr⟩ := hr
        exact hr
  refine codeAny_compStart_list loop ?_
  have S₃ : St h₀ L gi m (us ++ ((C, oC) :: (D, lstO [] 0) :: u)) g h₁ := St.perm S₂ (perm2 _ _ _ _).symm
  exact src.self hP S₃ loop
/-- [elt for tg in iter], its value taken; elements may raise -/
theorem compE {Q : Value → Shared → Prop} {s₀ : Shared} (f : Option Heap) (J : Nat → Prop) (outs : List Dt) (EC : Addr → Value → Shared → Prop)
    (hfree : ∀ x ∈ scope.names, x.2 ≠ .free) (hcell : ∀ y ∈ scope.names, y.2 ≠ .cell) (hkind : scope.kind = .function) (hnames : ∀ x ∈ scope.names, x.2 = .local → scope.names.lookup x.1 = some .local)
    (hit : wpAny (model prog w) A (eval iter env) (fun x s₁ => wpAny (model prog w) A (pyIter x) (fun it s => ∃ I us u g ds P, it = .ref I ∧ Src prog w A tg I g ds P ∧ St h₀ L gi m (us ++ u) g s.heap ∧ P 0 us ∧ J 0 ∧ outs.length = ds.length ∧ ds.length ≤ 1000 ∧
      (∀ C x s', s.heap.get? C = none → EC C x s' → notedBy (model prog w) A (compEnv scope C env) (fun e s'' => ∃ m, s''.heap.Ns C m ∧ ∀ h', Heap.SameBut C s''.heap h' → wpAny (model prog w) A (passOn "comprehension.variables-let-go" e (compEnv scope C env) : Sem Value) Q E { s'' with heap := h' }) x s') ∧
      (∀ i d e v C oC mC D n ys us' g' h tk, ds[i]? = some d → outs[i]? = some e → DL g' v d → (∀ p ∈ g, p ∈ g') → J i → s.heap.get? C = none → St h₀ L gi m ((C, oC) :: (D, lstO ys n) :: (us' ++ u)) g' h → NsObj oC mC →
        wpAny (model prog w) A (assign tg (compEnv scope C env) v) (fun _ s₂ => wpAny (model prog w) A (eval elt (compEnv scope C env)) (EltEnd s h₀ L gi m C ((D, lstO ys n) :: (us' ++ u)) (J (i + 1)) f g' e) (EC C) s₂) (EC C) { s with heap := h, toks := tk }) ∧
      (∀ D n ys g' h tk, J ds.length → DLs (flt f g') ys outs → (∀ p ∈ g, p ∈ g') → s.heap.get? D = none → St h₀ L gi m ((D, lstO ys n) :: u) g' h → Q (.ref D) { s with heap := h, toks := tk })) E s₁) E s₀)
    (hs : ∀ x, foldedSetIterable iter env x = pure x := by intro _; rfl) :
    wpAny (model prog w) A (eval (.ListComp elt [⟨tg, iter, [], 0⟩] scope pos) env) Q E s₀ := by
  refine wpAny_ListComp hfree hkind hnames (wpAny_mono hit (fun x s₁ h₁ => wpAny_mono h₁ (fun it s₂ h₂ => ?_) fun _ _ e => e) fun _ _ e => e) hs
  obtain ⟨I, us, u, g, ds, P, rfl, src, S, hP, hJ, hlen, hz, hEC, turn, done⟩ := h₂
  refine compCore (RR := fun acc cenv r s' => ∃ m, s'.heap.Ns cenv.locals m ∧ ∀ h', Heap.SameBut cenv.locals s'.heap h' →
          match r with | .ok _ => Q acc { s' with heap := h' } | .error x => wpAny (model prog w) A (passOn "comprehension.variables-let-go" x cenv) Q E { s' with heap := h' }) f J outs EC src S hP hJ hlen hz hcell hkind (fun D C x s' hC hx => hEC C x s' hC hx) turn ?_
  intro C oC mC D n ys g' h tk hJ' hys hsub hC hD S' hN
  refine ⟨mC, hN.ns (S'.un _ (.head _)).1, fun h' hs' => ?_⟩
  exact done D n ys g' h' tk hJ' hys hsub hD (S'.extBut hs'.extBut)
/-- [elt for tg in iter], put into a local name at once -/
theorem compU {Q : Flow → Shared → Prop} {s₀ : Shared} {y : Str} {py spos : Pos} {cn : Str} {cs : Scope} {a : Addr} {cd : Value} {cl : List (Str × Addr)} (outs : List Dt)
    (hsw : swapsWith (.ListComp elt [⟨tg, iter, [], 0⟩] scope pos) (some (.Name y py)) spos.line (eX cn cs L a cd cl) = pure true)
    (hfree : ∀ x ∈ scope.names, x.2 ≠ .free) (hcell : ∀ y ∈ scope.names, y.2 ≠ .cell) (hkind : scope.kind = .function) (hnames : ∀ x ∈ scope.names, x.2 = .local → scope.names.lookup x.1 = some .local)
    (hy : (eX cn cs L a cd cl).kindOf y = some .local) (hp : cs.kind = .function)
    (hit : wpAny (model prog w) A (eval iter (eX cn cs L a cd cl)) (fun x s₁ => wpAny (model prog w) A (pyIter x) (fun it s => ∃ I us u g ds P, it = .ref I ∧ Src prog w A tg I g ds P ∧ St h₀ L gi m (us ++ u) g s.heap ∧ P 0 us ∧ outs.length = ds.length ∧ ds.length ≤ 1000 ∧
      (∀ (i : Nat) d e v C oC mC D n ys us' g' h tk, ds[i]? = some d → outs[i]? = some e → DL g' v d → (∀ p ∈ g, p ∈ g') → St h₀ L gi m ((C, oC) :: (D, lstO ys n) :: (us' ++ u)) g' h → NsObj oC mC →
        wpAny (model prog w) A (assign tg (compEnv scope C (eX cn cs L a cd cl)) v) (fun _ s₂ => wpAny (model prog w) A (eval elt (compEnv scope C (eX cn cs L a cd cl))) (EltEnd s h₀ L gi m C ((D, lstO ys n) :: (us' ++ u)) True none g' e) (fun _ _ => False) s₂) (fun _ _ => False) { s with heap := h, toks := tk }) ∧
      (∀ D n ys g' h tk, DLs g' ys outs → (∀ p ∈ g, p ∈ g') → St h₀ L gi (upd m y (.ref D)) ((D, lstO ys n) :: u) g' h → Q .next { s with heap := h, toks := tk })) E s₁) E s₀)
    (hs : ∀ x, foldedSetIterable iter (eX cn cs L a cd cl) x = pure x := by intro _; rfl) :
    wpAny (model prog w) A (exec (.Assign [.Name y py] (.ListComp elt [⟨tg, iter, [], 0⟩] scope pos) spos) (eX cn cs L a cd cl)) Q E s₀ := by
  rw [exec_Assign_Name_used _ _ _ _ hsw]
  refine wpAny_bind (wpAny_standAt (wpAny_bind ?_))
  show wpAny _ A (do let _ ← comprehension (.ListComp elt [⟨tg, iter, [], 0⟩] scope pos) scope (eX cn cs L a cd cl) _ (newList []) false (eval iter (eX cn cs L a cd cl)) (some (assign (.Name y py) (eX cn cs L a cd cl)))) _ _ s₀
  refine wpAny_bind (wpAny_mono (wpAny_comprehension_use (Q := fun _ s' => Q .next s') rfl hs hfree hkind hnames (wpAny_mono hit (fun x s₁ h₁ => wpAny_mono h₁ (fun it s₂ h₂ => ?_) fun _ _ e => e) fun _ _ e => e))
    (fun _ s' hq => wpAny_pure (wpAny_pure hq)) fun _ _ e => e)
  obtain ⟨I, us, u, g, ds, P, rfl, src, S, hP, hlen, hz, turn, done⟩ := h₂
  refine compCore (RR := fun acc cenv r s' => match r with
      | .ok _ => wpAny (model prog w) A (assign (.Name y py) (eX cn cs L a cd cl) acc) (fun _ s'' => ∃ m, s''.heap.Ns cenv.locals m ∧ ∀ h', Heap.SameBut cenv.locals s''.heap h' → Q .next { s'' with heap := h' }) E s'
      | .error x => ∃ m, s'.heap.Ns cenv.locals m ∧ ∀ h', Heap.SameBut cenv.locals s'.heap h' → wpAny (model prog w) A (passOn "comprehension.variables-let-go" x cenv) (fun _ s' => Q .next s') E { s' with heap := h' })
      none (fun _ => True) outs (fun _ _ _ => False) src S hP trivial hlen hz hcell hkind (fun D C x s' hC hx => hx.elim) (fun i d e v C oC mC D n ys us' g' h tk a1 a2 a3 a4 _ _ a6 a7 => turn i d e v C oC mC D n ys us' g' h tk a1 a2 a3 a4 a6 a7) ?_
  intro C oC mC D n ys g' h tk _ hys hsub hC hD S' hN
  dsimp only
  refine wpAny_assign_Name (stL S' (fun h₂ S₂ => ?_) hp hy)
  refine ⟨mC, hN.ns (S₂.un _ (.head _)).1, fun h' hs' => ?_⟩
  exact done D n ys g' h' _ hys hsub (S₂.extBut hs'.extBut)
section
variable {C : Addr} {oC : Obj} {mC : Str → Option Value} {r : Lg} {x : Str} {v : Value}
/-- names inside a comprehension -/
theorem stK {Q : Unit → Shared → Prop} (S : St h₀ L gi m ((C, oC) :: r) g s.heap) (hN : NsObj oC mC) (h : ∀ h' oC', St h₀ L gi m ((C, oC') :: r) g h' → NsObj oC' (upd mC x v) → Q () { s with heap := h', toks := s.toks + 1 })
    (hx : scope.names.lookup x = some .local := by rfl) (hk : scope.kind = .function := by rfl) : wpAny (model prog w) A (storeName (compEnv scope C env) x v) Q E s :=
  wpAny_storeName_local (env := compEnv scope C env) hx (hN.ns (S.un _ (.head _)).1) (fun h' hn hs => by
    obtain ⟨o', ho', hN'⟩ := ns_obj hn
    exact h h' o' (S.set .head hs ho') hN') (by show (scope.kind == .class || (scope.kind == .module && C != env.globals)) = false; rw [hk]; rfl)
theorem nmK {Q : Value → Shared → Prop} {pos : Pos} (S : St h₀ L gi m ((C, oC) :: r) g s.heap) (hN : NsObj oC mC) (hm : mC x = some v) (h : Q v s)
    (hx : scope.names.lookup x = some .local := by rfl) (hk : scope.kind = .function := by rfl) (hd : (x == ("__debug__" : Str)) = false := by decide) : wpAny (model prog w) A (eval (.Name x pos) (compEnv scope C env)) Q E s :=
  wpAny_Name (wpAny_loadName_local (env := compEnv scope C env) hk hx (hN.ns (S.un _ (.head _)).1) hm h) hd
theorem nmKG {Q : Value → Shared → Prop} {mg mb : Str → Option Value} {pos : Pos} {cn : Str} {cs : Scope} {a : Addr} {cd : Value} {cl : List (Str × Addr)} (S : St h₀ L gi m u g s.heap) (W : Wd mg mb h₀) (hm : mg x = some v) (h : Q v s)
    (hx : scope.names.lookup x = some .globalImplicit := by rfl) (hk : scope.kind = .function := by rfl) (hd : (x == ("__debug__" : Str)) = false := by decide) : wpAny (model prog w) A (eval (.Name x pos) (compEnv scope C (eX cn cs L a cd cl))) Q E s :=
  Name_function_global (env := compEnv scope C (eX cn cs L a cd cl)) hk hx (loadGlobal_global (env := compEnv scope C (eX cn cs L a cd cl)) (W.g.keeps S.fr.keep) hm h) hd
end
/-- what a turn's end must show -/
def TurnS (s : Shared) (h₀ : Heap) (L : Addr) (gi : Lg) (J : (Str → Option Value) → Lg → Lg → Prop) (g' us' : Lg) (Q : Flow → Shared → Prop) (f : Flow) (s₃ : Shared) : Prop := match f with
  | .next | .cont => ∃ m₂ u₂ g₂ h₂ tk₂, s₃ = { s with heap := h₂, toks := tk₂ } ∧ (∀ p ∈ g', p ∈ g₂) ∧ J m₂ u₂ g₂ ∧ St h₀ L gi m₂ (us' ++ u₂) g₂ h₂
  | .brk => Q .next s₃
  | .ret v => Q (.ret v) s₃
/-- for tg in iter: over a walker -/
theorem forS {Q : Flow → Shared → Prop} {body : List Stmt} {s : Shared} (EL : Value → Shared → Prop) (hEL : ∀ e s', EL e s' → notedBy (model prog w) A env (fun x s'' => cameBackBy (model prog w) A env E x s'') e s') (J : Nat → (Str → Option Value) → Lg → Lg → Prop) (src : Src prog w A tg I g ds P) (S : St h₀ L gi m (us ++ u) g s.heap) (hP : P 0 us) (h0 : J 0 m u g)
    (turn : ∀ i d v m' u' us' g' h tk, ds[i]? = some d → DL g' v d → (∀ p ∈ g, p ∈ g') → (∃ g₁, (∀ p ∈ g, p ∈ g₁) ∧ (∀ p ∈ g₁, p ∈ g') ∧ J i m' u' g₁) → P (i + 1) us' → St h₀ L gi m' (us' ++ u') g' h →
      wpAny (model prog w) A (assign tg env v) (fun _ s₂ => wpAny (model prog w) A (execs body env) (TurnS s h₀ L gi (J (i + 1)) g' us' Q) EL s₂) EL { s with heap := h, toks := tk })
    (done : ∀ m' u' g' h tk, (∀ p ∈ g, p ∈ g') → J ds.length m' u' g' → St h₀ L gi m' u' g' h → Q .next { s with heap := h, toks := tk }) :
    codeAny (model prog w) A (.forLoop tg (.ref I) body [] env) (fun r s' => match r with | .ok f => Q f s' | .error e => cameBackBy (model prog w) A env E e s') s := by
  refine codeAny_forLoop_any (fun k s' => ∃ i m' u' us' g' h tk, s' = { s with heap := h, toks := tk } ∧ i ≤ ds.length ∧ k = ds.length + 1 - i ∧ P i us' ∧ (∀ p ∈ g, p ∈ g') ∧ J i m' u' g' ∧ St h₀ L gi m' (us' ++ u') g' h)
      ?_ (ds.length + 1) ⟨0, m, u, us, g, _, s.toks, rfl, Nat.zero_le _, rfl, hP, fun _ hp => hp, h0, S⟩
  rintro k s' ⟨i, m', u', us', g', h, tk, rfl, hi, rfl, hPi, hsub, hJ, S'⟩
  by_cases hlt : i < ds.length
  · obtain ⟨d, hd⟩ : ∃ d, ds[i]? = some d := ⟨_, List.getElem?_eq_getElem hlt⟩
    refine wpAny_mono (src.item (E' := notedBy (model prog w) A env fun e s' => cameBackBy (model prog w) A env E e s') (K := fun v s₂ => wpAny (model prog w) A (assign tg env v) (fun _ s₂ => wpAny (model prog w) A (execs body env) (fun f s₃ => match f with
            | .next | .cont => ∃ m', m' < ds.length + 1 - i ∧ ∃ i m'' u' us' g' h tk, s₃ = { s with heap := h, toks := tk } ∧ i ≤ ds.length ∧ m' = ds.length + 1 - i ∧ P i us' ∧ (∀ p ∈ g, p ∈ g') ∧ J i m'' u' g' ∧ St h₀ L gi m'' (us' ++ u') g' h
            | .brk => Q .next s₃
            | .ret v => Q (.ret v) s₃) (notedBy (model prog w) A env fun e s' => cameBackBy (model prog w) A env E e s') s₂) (notedBy (model prog w) A env fun e s' => cameBackBy (model prog w) A env E e s') s₂) hd hPi hsub S' ?_) (fun r s₁ hr => ?_) fun _ _ e => e
    · intro v us₂ g₂ h₂ hP₂ hsub₂ hDv S₂
      refine wpAny_mono (turn i d v m' u' us₂ g₂ h₂ tk hd hDv (fun p hp => hsub₂ _ (hsub _ hp)) ⟨g', hsub, hsub₂, hJ⟩ hP₂ S₂) (fun _ s₂ h₂ => wpAny_mono h₂ (fun f s₃ h₃ => ?_) fun _ _ e => hEL _ _ e) fun _ _ e => hEL _ _ e
      cases f with
      | brk => exact h₃
      | ret v => exact h₃
      | next =>
        obtain ⟨m₃, u₃, g₃, h₃, tk₃, rfl, hs₃, hJ₃, S₃⟩ := h₃
        exact ⟨ds.length + 1 - (i + 1), by omega, i + 1, m₃, u₃, us₂, g₃, h₃, tk₃, rfl, hlt, rfl, hP₂, fun p hp => hs₃ _ (hsub₂ _ (hsub _ hp)), hJ₃, S₃⟩
      | cont =>
        obtain ⟨m₃, u₃, g₃, h₃, tk₃, rfl, hs₃, hJ₃, S₃⟩ := h₃
        exact ⟨ds.length + 1 - (i + 1), by omega, i + 1, m₃, u₃, us₂, g₃, h₃, tk₃, rfl, hlt, rfl, hP₂, fun p hp => hs₃ _ (hsub₂ _ (hsub _ hp)), hJ₃, S₃⟩
    · obtain ⟨v, rfl, hv⟩ := hr
      exact hv
  · have hie : i = ds.length := by omega
    subst hie
    refine wpAny_mono (src.done (K := fun s₁ => Q .next s₁) hPi hsub S' fun h' Sd => ?_) (fun r s₁ hr => ?_) fun _ _ e => e
    · exact done m' u' g' h' tk hsub hJ Sd
    · obtain ⟨rfl, hr⟩ := hr
      exact wpAny_execs_nil hr
end
end Mine
end
section
open PySem PyProof.Rows PySem.Calls PySem.W
open PyProof.Rows.LCg (NsObj ns_obj)
set_option maxRecDepth 100000
namespace Mine
/-- an object that is none of the exception's own, turned -/
theorem Trk.same {c : Value} {G h h₁ h₂ : Heap} {l : List Env} {e : Addr} {msg : Str} {fl : Value} {C : Addr} {oC : Obj} (x : Trk c h l h₁ e msg fl) (hC : h.get? C = some oC) (hf : C ∉ frs l) (hk : Ext G h) (hG : G.get? C = none) (hs : Heap.SameBut C h₁ h₂) : Trk c G l h₂ e msg fl := by
  obtain ⟨kp, up, fr, vs, t, T, oT, ts, ⟨oe, tok, ho, hc, hd, hsz, h0, h2, ht⟩, h1, hTe, hT, hdT, h3, g1, g2, g3⟩ := x
  have none_ : ∀ {b}, h.get? b = none → G.get? b = none := fun {b} hb => by
    cases q : G.get? b with
    | none => rfl
    | some o => rw [hk b o q] at hb; cases hb
  have ne : ∀ {b}, h.get? b = none → b ≠ C := fun {b} hb q => by rw [q, hC] at hb; cases hb
  have neG : ∀ {b o}, G.get? b = some o → b ≠ C := fun {b o} hb q => by rw [q, hG] at hb; cases hb
  have frC : ∀ b ∈ frs l, b ≠ C := fun b hb q => hf (q ▸ hb)
  refine ⟨fun b o hb hnf => (hs.2 b (neG hb)).trans (kp b o (hk b o hb) hnf), fun b o hb hn => ?_, fr.same hs frC, vs, t, T, oT, ts, ⟨oe, tok, (hs.2 e (ne g1)).trans ho, hc, hd, hsz, h0, h2, ?_⟩, h1, hTe, (hs.2 T (ne g2)).trans hT, hdT, h3, none_ g1, none_ g2, none_ g3⟩
  · obtain ⟨sl, q⟩ := up b o (hk b o hb) hn
    exact ⟨sl, (hs.2 b (neG hb)).trans q⟩
  · obtain ⟨ot, n, q, r⟩ := ht
    exact ⟨ot, n, (hs.2 t (ne g3)).trans q, r⟩
section
variable {prog : Program} {w : World} {A : Around} {E : Value → Shared → Prop} {s₀ : Shared} {h : Heap} {tk : Nat} {L a : Addr} {gi : Lg} {m mg mb : Str → Option Value} {u g : Lg} {cn : Str} {cs : Scope} {cd : Value} {cl : List (Str × Addr)} {outer : List Env} {msg : Str}
/-- an exception that comes out of a comprehension's element -/
def EK (E : Value → Shared → Prop) (s₀ : Shared) (env : Env) (outer : List Env) (L : Addr) (C : Addr) (x : Value) (s' : Shared) : Prop :=
  ∃ e msg h h' tk oC mC, x = .ref e ∧ s' = { s₀ with heap := h', toks := tk } ∧ Fly (env :: outer) h h' e msg ∧ Gr s₀.heap L h ∧ Err E s₀ outer msg ∧ h.get? C = some oC ∧ NsObj oC mC ∧ C ≠ L
theorem toEK {env : Env} {C : Addr} {oC : Obj} {mC : Str → Option Value} (R : Gr s₀.heap L h) (k : Err E s₀ outer msg) (hC : h.get? C = some oC) (hN : NsObj oC mC) (hCL : C ≠ L) : Err (EK E s₀ env outer L C) { s₀ with heap := h, toks := tk } (env :: outer) msg :=
  fun e h' tk' fl => ⟨e, msg, h, h', tk', oC, mC, rfl, rfl, fl, R, k, hC, hN, hCL⟩
theorem compR {Q : Value → Shared → Prop} {scope : Scope} (X : Cx A outer s₀.heap) : ∀ (C : Addr) x s', s₀.heap.get? C = none → EK E s₀ (eX cn cs L a cd cl) outer L C x s' →
    notedBy (model prog w) (A.deeper (eX cn cs L a cd cl)) (compEnv scope C (eX cn cs L a cd cl)) (fun e s'' => ∃ m, s''.heap.Ns C m ∧ ∀ h', Heap.SameBut C s''.heap h' →
      wpAny (model prog w) (A.deeper (eX cn cs L a cd cl)) (passOn "comprehension.variables-let-go" e (compEnv scope C (eX cn cs L a cd cl)) : Sem Value) Q (LE (model prog w) (A.deeper (eX cn cs L a cd cl)) (eX cn cs L a cd cl) E) { s'' with heap := h' }) x s' := by
  rintro C x s' hCn ⟨e, msg, h, h', tk, oC, mC, rfl, rfl, fl, R, k, hC, hN, hCL⟩
  have hCf : C ∉ frs (eX cn cs L a cd cl :: outer) := fun hm => by
    have hmem : C = L ∨ C ∈ frs outer := by simpa [frs] using hm
    rcases hmem with q | q
    · exact hCL q
    · obtain ⟨o, ho, _⟩ := X.ok.mem q
      rw [hCn] at ho; cases ho
  refine noted_same (env := eX cn cs L a cd cl) rfl ?_
  refine noted_fly (s := { s₀ with heap := h', toks := tk }) (Around.frames_deeper X.fr) rfl fl fun h₁ hd => ?_
  refine ⟨mC, hN.ns (hd.keep _ _ hC hCf), fun h₂ hs₂ => ?_⟩
  have hd₂ : Held (eX cn cs L a cd cl :: outer) L s₀.heap h₂ e msg := Trk.same hd hC hCf R.keep hCn hs₂
  refine pass_held (s := { s₀ with heap := h₂, toks := tk }) (env := compEnv scope C (eX cn cs L a cd cl)) rfl hd₂ fun h₃ hd₃ => ?_
  exact leave_held (s := { s₀ with heap := h₃, toks := tk }) rfl hd₃ (Ext.refl _) R.new fun h₄ fl₄ => k e h₄ tk fl₄
end
theorem mkTupN {prog : Program} {w : World} {A : Around} {E : Value → Shared → Prop} {s : Shared} {h₀ : Heap} {L : Addr} {gi : Lg} {m : Str → Option Value} {u g : Lg} {Q : Value → Shared → Prop} {vs : List Value} (S : St h₀ L gi m u g s.heap) (hz : vs.length ≤ 1000) (h : ∀ h' a, h₀.get? a = none → St h₀ L gi m u ((a, tupO vs 0) :: g) h' → Q (.ref a) { s with heap := h' }) : wpAny (model prog w) A (newTuple vs) Q E s :=
  wpAny_newTuple (h _ _ (S.fresh (size_none _)) (S.pushG _)) (Nat.le_trans hz (by decide))
def okOrd (p : Dt × Dt) : Bool := (match chk p.1 (-1000000000000000000) with | .ok _ => true | .error _ => false) && nameOk p.2
section
variable {prog : Program} {w : World} {A : Around} {E : Value → Shared → Prop} {s : Shared} {mg mb : Str → Option Value} {a : Addr} {g : Lg} {pv : Value} {Q : Value → Shared → Prop} {outer : List Env} {ps : List (Dt × Dt)}
set_option maxHeartbeats 1000000 in
theorem check_orders_spec (hA : OkA A 2) (X : Cx A outer s.heap) (W : Wd mg mb s.heap) (ha : mg (fdAt 10).name = some (.ref a)) (hg : ∀ p ∈ g, s.heap.get? p.1 = some p.2) (D : DL g pv (.list (ps.map pairQ))) (hlen : ps.length ≤ 100) (hsc : ∀ p ∈ ps, Scalar p.1 ∧ NameD p.2)
    (hk : (∀ p ∈ ps, okOrd p = true) → ∀ v g' h' tk, Ext s.heap h' → (∀ p ∈ g', h'.get? p.1 = some p.2 ∧ s.heap.get? p.1 = none) → DL g' v (.list (ps.map pairQ)) → Q v { s with heap := h', toks := tk })
    (he : ¬ (∀ p ∈ ps, okOrd p = true) → ∀ msg : Str, msg.length ≤ 2000000 → Err E s outer msg) :
    wpAny (model prog w) A (call (.ref a) [pv]) Q E s := by
  obtain ⟨of, pm, cd, dc, fn⟩ := fn_of W (i := 10) (by decide) ha
  obtain ⟨a4, o4, pm4, cd4, dc4, e4, f4⟩ := W.fn 4 (by decide)
  obtain ⟨a3, o3, pm3, cd3, dc3, e3, f3⟩ := W.fn 3 (by decide)
  obtain ⟨tm, em⟩ := W.const ("MAX_NUMBER", 1000000000000000000) (by decide)
  dsimp only at em
  refine enterX (i := 10) (n := 1) (hb := s.heap) (u := []) (g := g) (binds := [("pairs", pv)]) hA fn W.nolimit (Ext.refl _) (Nat.le_refl _)
    (fun _ h => nomatch h) hg (fun _ _ _ h => nomatch h) (by simp) rfl ?_
  intro L h₁ tk hL hx₁ S hA'
  obtain ⟨M, S', hM⟩ : ∃ M, St s.heap L g M [] g h₁ ∧ M "pairs" = some pv := ⟨_, S, rfl⟩
  replace S := S'
  clear S'
  conv in (fdAt 10).body => whnf
  refine wpAny_execs_cons (wpAny_Return_some (compE (h₀ := s.heap) (L := L) (gi := g) (m := M) (some s.heap) (fun i => ∀ p ∈ ps.take i, okOrd p = true) (ps.map pairQ) (EK E s (eX (fdAt 10).name (fdAt 10).scope L a cd []) outer L)
    (by decide) (by decide) rfl (by decide) (nmL S hM ?_)))
  cases D with
  | @list l n vs _ hl hD =>
    refine wpAny_pyIter_list ⟨_, (S.led _ hl).1, rfl, _, rfl⟩ ?_
    have S₁ := S.pushU { cls := .type "list_iterator", data := .fields #[.ref l, .int 0 0] }
    refine ⟨_, [(h₁.objs.size, { cls := .type "list_iterator", data := .fields #[.ref l, .int 0 0] })], [], g, ps.map pairQ, liP _ l, rfl, src_list hA'.hd hl hD (lets_tuple _ _ _), S₁, ⟨_, rfl, rfl, rfl⟩, by simp, rfl, by simp; omega, ?_, ?_, ?_⟩
    · intro C x s' hC hx
      refine compR X C x s' ?_ hx
      cases q : s.heap.get? C with
      | none => rfl
      | some o => have := S₁.fr.keep _ _ q; rw [show (h₁.push _).get? C = none from hC] at this; cases this
    · intro i d e v C oC mC D n' ys us' g' h tk₁ hd he' hv hsub hok hCn S₂ hN
      have hi : i < ps.length := by have := (List.getElem?_eq_some_iff.mp hd).1; simpa using this
      obtain ⟨p, hp⟩ : ∃ p, ps[i]? = some p := ⟨_, List.getElem?_eq_getElem hi⟩
      have hpd : d = pairQ p := by rw [List.getElem?_map, hp] at hd; exact (Option.some.inj hd).symm
      have hpe : e = pairQ p := by rw [List.getElem?_map, hp] at he'; exact (Option.some.inj he').symm
      subst hpd hpe
      have hpm : p ∈ ps := List.mem_of_getElem? hp
      obtain ⟨hS, hNm⟩ := hsc p hpm
      have hCL : C ≠ L := (S₂.un _ (.head _)).2.1
      have bad : okOrd p = false → ∀ msg : Str, msg.length ≤ 2000000 → Err E s outer msg := fun hb => he fun h => by rw [h p hpm] at hb; cases hb
      have hv' : DL g' v (.tuple [p.1, p.2]) := hv
      refine unT hA'.hd S₂ hv' rfl fun vs₆ h₆ D₆ S₆ => ?_
      cases D₆ with | cons d1 D₆ => cases D₆ with | cons d2 D₆ => cases D₆ with | nil =>
      refine assignInOrder_cons (wpAny_assign_Name (stK S₆ hN fun h₇ oC₇ S₇ N₇ => assignInOrder_cons (wpAny_assign_Name (stK S₇ N₇ fun h₈ oC₈ S₈ N₈ => assignInOrder_nil ?_))))
      dsimp only
      refine Tuple_ (wpAny_items_cons (callU (o := o4) (fd := docF 4 pm4 cd4 dc4) (nmKG S₈ W e4 ⟨rfl, wpAny_items_cons (nmK S₈ N₈ rfl (wpAny_items_cons (wpAny_UnaryOp (nmKG S₈ W em (neg_int (wpAny_items_nil ⟨⟨S₈.fr.keep _ _ f4.at_, f4.d⟩, ?_⟩))))))⟩)))
      dsimp only
      have R₈ := S₈.gr hL
      refine check_number_spec (s := { s with heap := h₈, toks := _ }) hA' ((X.ext R₈.keep).push S₈) (W.keeps S₈.fr.keep) e4 (d1.bare hS) hS (by decide +kernel) (by decide +kernel) (fun z hz h₉ tk₉ hx₉ => ?_) fun msg hm => toEK R₈ (bad ?_ msg ?_) (S₈.un _ (.head _)).1 N₈ hCL
      · have S₉ := S₈.ext hx₉
        have R₉ := S₉.gr hL
        dsimp only
        refine wpAny_items_cons (callU (o := o3) (fd := docF 3 pm3 cd3 dc3) (nmKG S₉ W e3 ⟨rfl, wpAny_items_cons (nmK S₉ N₈ rfl (wpAny_items_nil ⟨⟨S₉.fr.keep _ _ f3.at_, f3.d⟩, ?_⟩))⟩))
        refine check_name_spec (s := { s with heap := h₉, toks := tk₉ }) hA' ((X.ext R₉.keep).push S₉) (W.keeps S₉.fr.keep) e3 (d2.bare hNm.scalar) hNm (fun hn h₁₀ tk₁₀ hx₁₀ => ?_) fun hn msg hm => toEK R₉ (bad (by simp only [okOrd, hn, Bool.and_false]) msg hm) (S₉.un _ (.head _)).1 N₈ hCL
        have S₁₀ := S₉.ext hx₁₀
        dsimp only
        refine wpAny_items_nil (mkTupN S₁₀ (by simp) fun h₁₁ b hb S₁₁ => ?_)
        refine ⟨oC₈, _, _, h₁₁, _, rfl, N₈, fun q hq => .tail _ hq, ?_, ?_, S₁₁⟩
        · intro q hq
          rw [List.take_add_one, hp] at hq
          rcases List.mem_append.mp hq with hq | hq
          · exact hok q hq
          · have : q = p := by simpa using hq
            rw [this]
            simp only [okOrd, hz, hn, Bool.and_self]
        · refine .tuple (a := b) (o := tupO _ 0) ?_ rfl rfl (.cons ((d1.bare hS).mono fun _ h => by cases h) (.cons ((d2.bare hNm.scalar).mono fun _ h => by cases h) .nil))
          simp only [flt, List.mem_filter]
          exact ⟨.head _, by simp [hb]⟩
      · cases hq : p.1 <;> rw [hq] at hm <;> simp only [chk] at hm <;> simp only [okOrd, hq, chk, Bool.false_and]
        split at hm
        · cases hm
        · rename_i hb; simp [hb]
      · cases hq : p.1 <;> rw [hq] at hm <;> simp only [chk] at hm <;> first | (rw [← Except.error.inj hm]; decide) | skip
        split at hm
        · cases hm
        · rw [← Except.error.inj hm]; decide +kernel
    · intro D n' ys g' h tk₁ hok hys hsub hDn S₂
      have hok' : ∀ p ∈ ps, okOrd p = true := by simpa using hok
      have S₃ := S₂.freeze
      have hDs : s.heap.get? D = none := (S₂.un _ (.head _)).2.2
      refine hk hok' (.ref D) ((D, lstO ys n') :: flt (some s.heap) g') h tk₁ S₃.fr.keep (fun p hp => ?_) (.list (.head _) (hys.mono fun _ hp => .tail _ hp))
      rcases List.mem_cons.mp hp with rfl | hp
      · exact ⟨(S₂.un _ (.head _)).1, hDs⟩
      · simp only [flt, List.mem_filter] at hp
        exact ⟨(S₂.led _ hp.1).1, by simpa using hp.2⟩
end
end Mine
end
section
open PySem PyProof.Rows PySem.Calls PySem.W
open PyProof.Rows.LCg (NsObj ns_obj)
set_option maxRecDepth 100000
namespace Mine
theorem Rep.pre {a : Addr} {o o' : Obj} {r r' : Lg} (R : Rep a o o' r r') : ∀ us : Lg, Rep a o o' (us ++ r) (us ++ r')
  | [] => R
  | _ :: us => .tail (R.pre us)
theorem Rep.symm {a : Addr} {o o' : Obj} {r r' : Lg} (R : Rep a o o' r r') : Rep a o' o r' r := by
  induction R with
  | head => exact .head
  | tail _ ih => exact .tail ih
theorem Rep.app {a : Addr} {o o' : Obj} {r r' : Lg} (R : Rep a o o' r r') (t : Lg) : Rep a o o' (r ++ t) (r' ++ t) := by
  induction R with
  | head => exact .head
  | tail _ ih => exact .tail ih
theorem cells_read {cm : Str → Option Value} {cl : List (Str × Addr)} {cells : Lg} (Y : CellsAre cm cl cells) {x : Str} {c : Addr} (hc : cl.lookup x = some c) : ∃ o, (c, o) ∈ cells ∧ o.data = .cell (cm x) := by
  induction Y with
  | nil => cases hc
  | @cons n c' o cs cells hd r ih =>
    rw [List.lookup_cons] at hc
    by_cases e : (x == n) = true
    · rw [e] at hc
      cases hc
      have : x = n := by simpa using e
      subst this
      exact ⟨o, .head _, hd⟩
    · rw [Bool.eq_false_iff.mpr e] at hc
      obtain ⟨o', h1, h2⟩ := ih hc
      exact ⟨o', .tail _ h1, h2⟩
theorem cells_other {cm : Str → Option Value} {cl : List (Str × Addr)} {cells : Lg} {x : Str} {v : Value} (Y : CellsAre cm cl cells) (hn : x ∉ cl.map (·.1)) : CellsAre (upd cm x v) cl cells := by
  induction Y with
  | nil => exact .nil
  | @cons n c' o cs cells hd r ih =>
    simp only [List.map_cons, List.mem_cons, not_or] at hn
    exact .cons (by rw [hd, upd, if_neg (Ne.symm hn.1)]) (ih hn.2)
theorem cells_write {cm : Str → Option Value} {cl : List (Str × Addr)} {cells : Lg} (Y : CellsAre cm cl cells) {x : Str} {c : Addr} (v : Value) (hc : cl.lookup x = some c) (nd : (cl.map (·.1)).Nodup) :
    ∃ o, o.data = .cell (cm x) ∧ ∃ U : Obj → Lg, (∀ o', Rep c o o' cells (U o')) ∧ ∀ o', o'.data = .cell (some v) → CellsAre (upd cm x v) cl (U o') := by
  induction Y with
  | nil => cases hc
  | @cons n c' o cs cells hd r ih =>
    rw [List.map_cons, List.nodup_cons] at nd
    rw [List.lookup_cons] at hc
    by_cases e : (x == n) = true
    · rw [e] at hc
      cases hc
      have : x = n := by simpa using e
      subst this
      exact ⟨o, hd, fun o' => (c, o') :: cells, fun _ => .head, fun o' ho' => .cons (by rw [ho', upd, if_pos rfl]) (cells_other r nd.1)⟩
    · rw [Bool.eq_false_iff.mpr e] at hc
      have hne : n ≠ x := fun q => e (by rw [q]; simp)
      obtain ⟨o₁, h1, U, h2, h3⟩ := ih hc nd.2
      exact ⟨o₁, h1, fun o' => (c', o) :: U o', fun o' => .tail (h2 o'), fun o' ho' => .cons (by rw [hd, upd, if_neg hne]) (h3 o' ho')⟩
section
variable {prog : Program} {w : World} {A : Around} {E : Value → Shared → Prop} {s : Shared} {h₀ : Heap} {L a : Addr} {gi : Lg} {m cm : Str → Option Value} {us u cells g : Lg} {cn : Str} {cs : Scope} {cd : Value} {cl : List (Str × Addr)}
theorem nmY {Q : Value → Shared → Prop} {x : Str} {pos : Pos} {v : Value} {c : Addr} (S : St h₀ L gi m (us ++ (cells ++ u)) g s.heap) (Y : CellsAre cm cl cells) (hv : cm x = some v) (h : Q v s) (hc : cl.lookup x = some c := by rfl)
    (hk : cs.kind = .function := by rfl) (hx : (eX cn cs L a cd cl).kindOf x = some .cell := by rfl) (hdb : (x == ("__debug__" : Str)) = false := by decide) :
    wpAny (model prog w) A (eval (.Name x pos) (eX cn cs L a cd cl)) Q E s := by
  obtain ⟨o, ho, hd⟩ := cells_read Y hc
  rw [hv] at hd
  exact wpAny_Name (wpAny_loadName_cell hk hx hc ⟨_, (S.un _ (List.mem_append_right _ (List.mem_append_left _ ho))).1, hd⟩ h) hdb
theorem stY {Q : Unit → Shared → Prop} {x : Str} {v : Value} {c : Addr} (S : St h₀ L gi m (us ++ (cells ++ u)) g s.heap) (Y : CellsAre cm cl cells)
    (h : ∀ h' cells', St h₀ L gi m (us ++ (cells' ++ u)) g h' → CellsAre (upd cm x v) cl cells' → Q () { s with heap := h' }) (hc : cl.lookup x = some c := by rfl) (nd : (cl.map (·.1)).Nodup := by decide)
    (hk : cs.kind = .function := by rfl) (hx : (eX cn cs L a cd cl).kindOf x = some .cell := by rfl) : wpAny (model prog w) A (storeName (eX cn cs L a cd cl) x v) Q E s := by
  obtain ⟨o, hd, U, R, K⟩ := cells_write Y v hc nd
  have R' : ∀ o', Rep c o o' (us ++ (cells ++ u)) (us ++ (U o' ++ u)) := fun o' => ((R o').app u).pre us
  refine wpAny_storeName_cell hk hx hc ⟨_, (S.un _ (R' o).mem).1, hd⟩ fun h' hv hs => ?_
  obtain ⟨o', ho', hd'⟩ := hv
  exact h h' (U o') (S.set (R' o') hs ho') (K o' hd')
/-- a free name of a lambda -/
theorem nmF' {Q : Value → Shared → Prop} {x : Str} {pos : Pos} {v : Value} {c : Addr} {o : Obj} (S : St h₀ L gi m u g s.heap) (hc : cl.lookup x = some c) (hm : (c, o) ∈ g) (hd : o.data = .cell (some v)) (h : Q v s)
    (hk : cs.kind = .function := by rfl) (hx : (eX cn cs L a cd cl).kindOf x = some .free := by rfl) (hdb : (x == ("__debug__" : Str)) = false := by decide) (hn : (x == ("__classdict__" : Str)) = false := by decide) :
    wpAny (model prog w) A (eval (.Name x pos) (eX cn cs L a cd cl)) Q E s := wpAny_Name (wpAny_loadName_free hk hx hc ⟨_, (S.led _ hm).1, hd⟩ h hn) hdb
/-- the way out of a lambda -/
theorem passC {s₀ : Shared} {h : Heap} {tk : Nat} {outer : List Env} {msg : Str} (X : Cx A outer s₀.heap) (hL : s₀.heap.get? L = none) (S : St s₀.heap L gi m u g h) (k : ErrC E s₀ outer msg) :
    ErrC (LE (model prog w) (A.deeper (eX cn cs L a cd cl)) (eX cn cs L a cd cl) E) { s₀ with heap := h, toks := tk } (eX cn cs L a cd cl :: outer) msg :=
  fun e c h' tk' fl => leave_fly (s := { s₀ with heap := h', toks := tk' }) (Around.frames_deeper X.fr) rfl fl S.fr.keep hL fun h'' fl' => k e c h'' _ fl'
theorem ErrC.err {s₀ : Shared} {outer : List Env} {msg : Str} (k : ErrC E s₀ outer msg) : Err E s₀ outer msg := fun e h' tk fl => k e _ h' tk fl
theorem hx_law {mg mb : Str → Option Value} {h : Heap} {tk : Nat} (hfr : A.frames = some []) (W : Wd mg mb h₀) (hL : h₀.get? L = none) (S : St h₀ L gi m u g h) (hk : cs.kind = .function := by rfl) :
    Hx (A.deeper (eX cn cs L a cd cl)) [eX cn cs L a cd cl] { s with heap := h, toks := tk } mg mb := by
  refine ⟨⟨Around.frames_deeper hfr, frp_cons (env := eX cn cs L a cd cl) (L := L) rfl (by show cs.kind ≠ .module; rw [hk]; decide) ⟨h, trivial⟩ S.fr.ns⟩, W.keeps fun b o e => ?_⟩
  refine hideAll_get _ (S.fr.keep b o e) fun hm => ?_
  have hmem : b = L := by simpa [frs] using hm
  rw [hmem, hL] at e; cases e
end
/-- what a lambda's run may give: a value, or a fault -/
def RunX (prog : Program) (w : World) (mg mb : Str → Option Value) (s : Shared) (n : Nat) (rv : Value) (P : Value → Lg → Prop) (B : Str → Prop) : Prop :=
  ∀ (A' : Around) (o' : List Env) (h : Heap) (tk : Nat) (E' Q' : Value → Shared → Prop), OkA A' n → Hx A' o' { s with heap := h, toks := tk } mg mb → Ext s.heap h →
    (∀ v g' h' tk', Ext h h' → (∀ p ∈ g', h'.get? p.1 = some p.2 ∧ h.get? p.1 = none) → P v g' → Q' v { s with heap := h', toks := tk' }) →
    (∀ msg : Str, B msg → ErrC E' { s with heap := h, toks := tk } o' msg) → wpAny (model prog w) A' (call rv []) Q' E' { s with heap := h, toks := tk }
section
variable {prog : Program} {w : World} {mg mb : Str → Option Value} {s : Shared} {n : Nat} {rv : Value} {P P' : Value → Lg → Prop} {B : Str → Prop}
theorem RunX.ok (x : RunX prog w mg mb s n rv P B) (hP : ∀ v g, P v g → P' v g) (hB : ∀ msg, ¬ B msg) : RunOk prog w mg mb s n rv P' :=
  fun A' o' h tk E' Q' a b c k => x A' o' h tk E' Q' a b c (fun v g' h' tk' p q r => k v g' h' tk' p q (hP v g' r)) fun msg hm => absurd hm (hB msg)
theorem RunX.bad {pl : Str} (x : RunX prog w mg mb s n rv P B) (hP : ∀ v g, ¬ P v g) (hB : ∀ msg, B msg → Txt.startswith msg pl = true) : RunBad prog w mg mb s n rv pl :=
  fun A' o' h tk E' Q' a b c k => x A' o' h tk E' Q' a b c (fun v g' h' tk' p q r => absurd r (hP v g')) fun msg hm => k msg (hB msg hm)
end
section
variable {prog : Program} {w : World} {A : Around} {E : Value → Shared → Prop} {s : Shared} {h₀ : Heap} {L : Addr} {gi : Lg} {m mg mb : Str → Option Value} {u g : Lg} {f : Addr} {qn : Str} {body : Expr} {scope : Scope} {ccl : List (Str × Addr)} {args : Arguments} {n : Nat} {P : Value → Lg → Prop} {B : Str → Prop}
/-- a lambda that stands in the ledger, run -/
theorem runL (x : LamG g f qn body scope ccl args) (S : St h₀ L gi m u g s.heap)
    (K : ∀ (A' : Around) (o' : List Env) (h : Heap) (tk : Nat) (E' Q' : Value → Shared → Prop) (L' : Addr) (h₁ : Heap) (tk₁ : Nat) (cd : Value), Hx A' o' { s with heap := h, toks := tk } mg mb → Wd mg mb h →
      (∀ v g' h' tk', Ext h h' → (∀ p ∈ g', h'.get? p.1 = some p.2 ∧ h.get? p.1 = none) → P v g' → Q' v { s with heap := h', toks := tk' }) →
      (∀ msg : Str, B msg → ErrC E' { s with heap := h, toks := tk } o' msg) → h.get? L' = none → St h L' (g ++ u) (fun _ => none) [] (g ++ u) h₁ → OkA (A'.deeper (eX qn scope L' f cd ccl)) n →
      wpAny (model prog w) (A'.deeper (eX qn scope L' f cd ccl)) (eval body (eX qn scope L' f cd ccl)) Q' (LE (model prog w) (A'.deeper (eX qn scope L' f cd ccl)) (eX qn scope L' f cd ccl) E') { s with heap := h₁, toks := tk₁ })
    (hb : ∀ fd : FuncData, fd.params = args → fd.defaults = .none → fd.kwdefaults = .none → bindArgs fd ⟨[], []⟩ = pure [])
    (hco : scope.isCoroutine = false := by rfl) (hgen : scope.isGenerator = false := by rfl) (hkd : scope.kind = .function := by rfl) (hcell : ∀ x ∈ scope.names, x.2 ≠ .cell := by decide) :
    RunX prog w mg mb s (n + 1) (.ref f) P B := by
  intro A' o' h tk E' Q' hA' X hx kQ kE
  have hg : ∀ p ∈ g ++ u, h.get? p.1 = some p.2 := fun p hp => by
    rcases List.mem_append.mp hp with hp | hp
    · exact hx _ _ (S.led p hp).1
    · exact hx _ _ (S.un p hp).1
  obtain ⟨o, fd, cd, F⟩ := (x.mono (g' := g ++ u) fun p hp => List.mem_append_left _ hp).at hg hb
  have W : Wd mg mb h := X.wd.keeps fun b o e => of_hideAll _ e
  exact enterLam (s := { s with heap := h, toks := tk }) hA' F W.nolimit hg (fun L' h₁ tk₁ hL' hx₁ S₁ hA₁ => K A' o' h tk E' Q' L' h₁ tk₁ cd X W kQ kE hL' S₁ hA₁) hco hgen hkd hcell
end
end Mine
end
section
open PySem PyProof.Rows PySem.Calls PySem.W
set_option maxRecDepth 100000
namespace Mine
/-- a cell that stands, by its name in the closure -/
def CellAt (g u : Lg) (ccl : List (Str × Addr)) (x : Str) (v : Value) : Prop := ∃ c o, ccl.lookup x = some c ∧ (c, o) ∈ g ++ u ∧ o.data = .cell (some v)
theorem cellAt_of {cm : Str → Option Value} {cl ccl : List (Str × Addr)} {us cells t g : Lg} {x : Str} {c : Addr} {v : Value} (Y : CellsAre cm cl cells) (hv : cm x = some v) (h1 : cl.lookup x = some c) (h2 : ccl.lookup x = some c) : CellAt g (us ++ (cells ++ t)) ccl x v := by
  obtain ⟨o, ho, hd⟩ := cells_read Y h1
  exact ⟨c, o, h2, List.mem_append_right _ (List.mem_append_right _ (List.mem_append_left _ ho)), by rw [hd, hv]⟩
abbrev noA : Arguments := { posonlyargs := [], args := [], vararg := none, kwonlyargs := [], kw_defaults := [], kwarg := none, defaults := [] }
theorem bind0 : ∀ fd : FuncData, fd.params = noA → fd.defaults = .none → fd.kwdefaults = .none → bindArgs fd ⟨[], []⟩ = pure [] := by
  intro fd h1 h2 h3
  obtain ⟨name, qualname, params, body, scope, globals, closure, ct, code, bi, df, kw, ann, pm, doc⟩ := fd
  simp only at h1 h2 h3
  subst h1 h2 h3
  rfl
section
variable {prog : Program} {w : World} {s : Shared} {h₀ : Heap} {L : Addr} {gi : Lg} {m mg mb : Str → Option Value} {u g : Lg} {f : Addr} {qn : Str} {ccl : List (Str × Addr)}
set_option maxHeartbeats 1000000 in
theorem run_parse_number {x₀ : Str} {lo : Int} {t tl : Tok} {p0 p1 p2 p9 : Pos} (x : LamG g f qn (.Call (.Name "parse_number" p0) [.Name "text" p1, .Name "lowest" p2] [] p9) { kind := .function, names := [("lowest", .free), ("text", .free), ("parse_number", .globalImplicit)], isGenerator := false, isCoroutine := false } ccl noA) (S : St h₀ L gi m u g s.heap)
    (C1 : CellAt g u ccl "text" (.str x₀ t)) (C2 : CellAt g u ccl "lowest" (.int lo tl)) (hx : NumT x₀) (hlo : lo.natAbs.log2 < 1920) (hrz : (rangeMsg lo).length ≤ sizeLine) :
    RunX prog w mg mb s 6 (.ref f) (fun v g' => ∃ n, parseN x₀ lo = .ok n ∧ DL [] v (.int n)) (fun msg => parseN x₀ lo = .error msg) := by
  refine runL x S ?_ bind0
  intro A' o' h tk E' Q' L' h₁ tk₁ cd X W' kQ kE hL' S₁ hA₁
  obtain ⟨aF, oF, pmF, cdF, dcF, eF, fF⟩ := W'.fn 5 (by decide)
  obtain ⟨c1, oc1, l1, m1, d1⟩ := C1
  obtain ⟨c2, oc2, l2, m2, d2⟩ := C2
  refine callU (o := oF) (fd := docF 5 pmF cdF dcF) (nmG S₁ W' eF ⟨rfl, wpAny_items_cons (nmF' S₁ l1 m1 d1 (wpAny_items_cons (nmF' S₁ l2 m2 d2 (wpAny_items_nil ⟨⟨S₁.fr.keep _ _ fF.at_, fF.d⟩, ?_⟩))))⟩)
  have X' := (X.cx.ext S₁.fr.keep).push (cn := qn) (cs := { kind := .function, names := [("lowest", .free), ("text", .free), ("parse_number", .globalImplicit)], isGenerator := false, isCoroutine := false }) (a := f) (cd := cd) (cl := ccl) S₁
  exact parse_number_spec (s := { s with heap := h₁, toks := _ }) (hA₁.less (by omega)) X' (W'.keeps S₁.fr.keep) eF hx hlo hrz (fun n hn t' h' tk' hx' => kQ _ [] h' tk' (Ext.trans S₁.fr.keep hx') (fun _ h => by cases h) ⟨n, hn, .int _ _⟩) fun msg hm => passP (s₀ := { s with heap := h, toks := tk }) X.cx hL' S₁ (kE _ hm).err
set_option maxHeartbeats 1000000 in
theorem run_parse_count {x₀ : Str} {t : Tok} {p0 p1 p9 : Pos} (x : LamG g f qn (.Call (.Name "parse_count" p0) [.Name "text" p1] [] p9) { kind := .function, names := [("text", .free), ("parse_count", .globalImplicit)], isGenerator := false, isCoroutine := false } ccl noA) (S : St h₀ L gi m u g s.heap)
    (C1 : CellAt g u ccl "text" (.str x₀ t)) (hx : NumT x₀) :
    RunX prog w mg mb s 6 (.ref f) (fun v g' => ∃ n, parseN x₀ 1 = .ok n ∧ DL [] v (.int n)) (fun msg => parseN x₀ 1 = .error msg) := by
  refine runL x S ?_ bind0
  intro A' o' h tk E' Q' L' h₁ tk₁ cd X W' kQ kE hL' S₁ hA₁
  obtain ⟨aF, oF, pmF, cdF, dcF, eF, fF⟩ := W'.fn 6 (by decide)
  obtain ⟨c1, oc1, l1, m1, d1⟩ := C1
  refine callU (o := oF) (fd := docF 6 pmF cdF dcF) (nmG S₁ W' eF ⟨rfl, wpAny_items_cons (nmF' S₁ l1 m1 d1 (wpAny_items_nil ⟨⟨S₁.fr.keep _ _ fF.at_, fF.d⟩, ?_⟩))⟩)
  have X' := (X.cx.ext S₁.fr.keep).push (cn := qn) (cs := { kind := .function, names := [("text", .free), ("parse_count", .globalImplicit)], isGenerator := false, isCoroutine := false }) (a := f) (cd := cd) (cl := ccl) S₁
  exact parse_count_spec (s := { s with heap := h₁, toks := _ }) (hA₁.less (by omega)) X' (W'.keeps S₁.fr.keep) eF hx (fun n hn t' h' tk' hx' => kQ _ [] h' tk' (Ext.trans S₁.fr.keep hx') (fun _ h => by cases h) ⟨n, hn, .int _ _⟩) fun msg hm => passP (s₀ := { s with heap := h, toks := tk }) X.cx hL' S₁ (kE _ hm).err
set_option maxHeartbeats 1000000 in
theorem run_parse_signed {x₀ : Str} {t : Tok} {p0 p1 p9 : Pos} (x : LamG g f qn (.Call (.Name "parse_signed" p0) [.Name "text" p1] [] p9) { kind := .function, names := [("text", .free), ("parse_signed", .globalImplicit)], isGenerator := false, isCoroutine := false } ccl noA) (S : St h₀ L gi m u g s.heap)
    (C1 : CellAt g u ccl "text" (.str x₀ t)) (hx : NumT x₀) :
    RunX prog w mg mb s 6 (.ref f) (fun v g' => ∃ n, parseN x₀ (-1000000000000000000) = .ok n ∧ DL [] v (.int n)) (fun msg => parseN x₀ (-1000000000000000000) = .error msg) := by
  refine runL x S ?_ bind0
  intro A' o' h tk E' Q' L' h₁ tk₁ cd X W' kQ kE hL' S₁ hA₁
  obtain ⟨aF, oF, pmF, cdF, dcF, eF, fF⟩ := W'.fn 7 (by decide)
  obtain ⟨c1, oc1, l1, m1, d1⟩ := C1
  refine callU (o := oF) (fd := docF 7 pmF cdF dcF) (nmG S₁ W' eF ⟨rfl, wpAny_items_cons (nmF' S₁ l1 m1 d1 (wpAny_items_nil ⟨⟨S₁.fr.keep _ _ fF.at_, fF.d⟩, ?_⟩))⟩)
  have X' := (X.cx.ext S₁.fr.keep).push (cn := qn) (cs := { kind := .function, names := [("text", .free), ("parse_signed", .globalImplicit)], isGenerator := false, isCoroutine := false }) (a := f) (cd := cd) (cl := ccl) S₁
  exact parse_signed_spec (s := { s with heap := h₁, toks := _ }) (hA₁.less (by omega)) X' (W'.keeps S₁.fr.keep) eF hx (fun n hn t' h' tk' hx' => kQ _ [] h' tk' (Ext.trans S₁.fr.keep hx') (fun _ h => by cases h) ⟨n, hn, .int _ _⟩) fun msg hm => passP (s₀ := { s with heap := h, toks := tk }) X.cx hL' S₁ (kE _ hm).err
set_option maxHeartbeats 1000000 in
theorem run_check_number {v₀ : Value} {d : Dt} {lo : Int} {tl : Tok} {p0 p1 p2 p9 : Pos} (x : LamG g f qn (.Call (.Name "check_number" p0) [.Name "value" p1, .Name "lowest" p2] [] p9) { kind := .function, names := [("lowest", .free), ("value", .free), ("check_number", .globalImplicit)], isGenerator := false, isCoroutine := false } ccl noA) (S : St h₀ L gi m u g s.heap)
    (C1 : CellAt g u ccl "value" v₀) (C2 : CellAt g u ccl "lowest" (.int lo tl)) (D : DL [] v₀ d) (hd : Scalar d) (hlo : lo.natAbs.log2 < 1920) (hrz : (rangeMsg lo).length ≤ sizeLine) :
    RunX prog w mg mb s 6 (.ref f) (fun v g' => (∃ n, chk d lo = .ok n) ∧ DL [] v d) (fun msg => chk d lo = .error msg) := by
  refine runL x S ?_ bind0
  intro A' o' h tk E' Q' L' h₁ tk₁ cd X W' kQ kE hL' S₁ hA₁
  obtain ⟨aF, oF, pmF, cdF, dcF, eF, fF⟩ := W'.fn 4 (by decide)
  obtain ⟨c1, oc1, l1, m1, d1⟩ := C1
  obtain ⟨c2, oc2, l2, m2, d2⟩ := C2
  refine callU (o := oF) (fd := docF 4 pmF cdF dcF) (nmG S₁ W' eF ⟨rfl, wpAny_items_cons (nmF' S₁ l1 m1 d1 (wpAny_items_cons (nmF' S₁ l2 m2 d2 (wpAny_items_nil ⟨⟨S₁.fr.keep _ _ fF.at_, fF.d⟩, ?_⟩))))⟩)
  have X' := (X.cx.ext S₁.fr.keep).push (cn := qn) (cs := { kind := .function, names := [("lowest", .free), ("value", .free), ("check_number", .globalImplicit)], isGenerator := false, isCoroutine := false }) (a := f) (cd := cd) (cl := ccl) S₁
  exact check_number_spec (s := { s with heap := h₁, toks := _ }) (hA₁.less (by omega)) X' (W'.keeps S₁.fr.keep) eF D hd hlo hrz (fun n hn h' tk' hx' => kQ _ [] h' tk' (Ext.trans S₁.fr.keep hx') (fun _ h => by cases h) ⟨⟨n, hn⟩, D⟩) fun msg hm => passP (s₀ := { s with heap := h, toks := tk }) X.cx hL' S₁ (kE _ hm).err
set_option maxHeartbeats 1000000 in
theorem run_check_raw {v₀ : Value} {d : Dt} {lo : Int} {tl : Tok} {p0 p1 p2 p9 : Pos} (x : LamG g f qn (.Call (.Name "check_number" p0) [.Name "raw" p1, .Name "lowest" p2] [] p9) { kind := .function, names := [("lowest", .free), ("raw", .free), ("check_number", .globalImplicit)], isGenerator := false, isCoroutine := false } ccl noA) (S : St h₀ L gi m u g s.heap)
    (C1 : CellAt g u ccl "raw" v₀) (C2 : CellAt g u ccl "lowest" (.int lo tl)) (D : DL [] v₀ d) (hd : Scalar d) (hlo : lo.natAbs.log2 < 1920) (hrz : (rangeMsg lo).length ≤ sizeLine) :
    RunX prog w mg mb s 6 (.ref f) (fun v g' => (∃ n, chk d lo = .ok n) ∧ DL [] v d) (fun msg => chk d lo = .error msg) := by
  refine runL x S ?_ bind0
  intro A' o' h tk E' Q' L' h₁ tk₁ cd X W' kQ kE hL' S₁ hA₁
  obtain ⟨aF, oF, pmF, cdF, dcF, eF, fF⟩ := W'.fn 4 (by decide)
  obtain ⟨c1, oc1, l1, m1, d1⟩ := C1
  obtain ⟨c2, oc2, l2, m2, d2⟩ := C2
  refine callU (o := oF) (fd := docF 4 pmF cdF dcF) (nmG S₁ W' eF ⟨rfl, wpAny_items_cons (nmF' S₁ l1 m1 d1 (wpAny_items_cons (nmF' S₁ l2 m2 d2 (wpAny_items_nil ⟨⟨S₁.fr.keep _ _ fF.at_, fF.d⟩, ?_⟩))))⟩)
  have X' := (X.cx.ext S₁.fr.keep).push (cn := qn) (cs := { kind := .function, names := [("lowest", .free), ("raw", .free), ("check_number", .globalImplicit)], isGenerator := false, isCoroutine := false }) (a := f) (cd := cd) (cl := ccl) S₁
  exact check_number_spec (s := { s with heap := h₁, toks := _ }) (hA₁.less (by omega)) X' (W'.keeps S₁.fr.keep) eF D hd hlo hrz (fun n hn h' tk' hx' => kQ _ [] h' tk' (Ext.trans S₁.fr.keep hx') (fun _ h => by cases h) ⟨⟨n, hn⟩, D⟩) fun msg hm => passP (s₀ := { s with heap := h, toks := tk }) X.cx hL' S₁ (kE _ hm).err
set_option maxHeartbeats 1000000 in
theorem run_name_raw {v₀ : Value} {d : Dt} {p0 p1 p9 : Pos} (x : LamG g f qn (.Call (.Name "check_name" p0) [.Name "raw" p1] [] p9) { kind := .function, names := [("raw", .free), ("check_name", .globalImplicit)], isGenerator := false, isCoroutine := false } ccl noA) (S : St h₀ L gi m u g s.heap)
    (C1 : CellAt g u ccl "raw" v₀) (D : DL [] v₀ d) (hd : NameD d) :
    RunX prog w mg mb s 6 (.ref f) (fun v g' => nameOk d = true ∧ DL [] v d) (fun msg => nameOk d = false) := by
  refine runL x S ?_ bind0
  intro A' o' h tk E' Q' L' h₁ tk₁ cd X W' kQ kE hL' S₁ hA₁
  obtain ⟨aF, oF, pmF, cdF, dcF, eF, fF⟩ := W'.fn 3 (by decide)
  obtain ⟨c1, oc1, l1, m1, d1⟩ := C1
  refine callU (o := oF) (fd := docF 3 pmF cdF dcF) (nmG S₁ W' eF ⟨rfl, wpAny_items_cons (nmF' S₁ l1 m1 d1 (wpAny_items_nil ⟨⟨S₁.fr.keep _ _ fF.at_, fF.d⟩, ?_⟩))⟩)
  have X' := (X.cx.ext S₁.fr.keep).push (cn := qn) (cs := { kind := .function, names := [("raw", .free), ("check_name", .globalImplicit)], isGenerator := false, isCoroutine := false }) (a := f) (cd := cd) (cl := ccl) S₁
  exact check_name_spec (s := { s with heap := h₁, toks := _ }) (hA₁.less (by omega)) X' (W'.keeps S₁.fr.keep) eF D hd (fun hn h' tk' hx' => kQ _ [] h' tk' (Ext.trans S₁.fr.keep hx') (fun _ h => by cases h) ⟨hn, D⟩) fun hn msg hm => passP (s₀ := { s with heap := h, toks := tk }) X.cx hL' S₁ (kE _ hn).err
set_option maxHeartbeats 1000000 in
theorem run_name_label {v₀ : Value} {d : Dt} {p0 p1 p9 : Pos} (x : LamG g f qn (.Call (.Name "check_name" p0) [.Name "label" p1] [] p9) { kind := .function, names := [("label", .free), ("check_name", .globalImplicit)], isGenerator := false, isCoroutine := false } ccl noA) (S : St h₀ L gi m u g s.heap)
    (C1 : CellAt g u ccl "label" v₀) (D : DL [] v₀ d) (hd : NameD d) :
    RunX prog w mg mb s 6 (.ref f) (fun v g' => nameOk d = true ∧ DL [] v d) (fun msg => nameOk d = false) := by
  refine runL x S ?_ bind0
  intro A' o' h tk E' Q' L' h₁ tk₁ cd X W' kQ kE hL' S₁ hA₁
  obtain ⟨aF, oF, pmF, cdF, dcF, eF, fF⟩ := W'.fn 3 (by decide)
  obtain ⟨c1, oc1, l1, m1, d1⟩ := C1
  refine callU (o := oF) (fd := docF 3 pmF cdF dcF) (nmG S₁ W' eF ⟨rfl, wpAny_items_cons (nmF' S₁ l1 m1 d1 (wpAny_items_nil ⟨⟨S₁.fr.keep _ _ fF.at_, fF.d⟩, ?_⟩))⟩)
  have X' := (X.cx.ext S₁.fr.keep).push (cn := qn) (cs := { kind := .function, names := [("label", .free), ("check_name", .globalImplicit)], isGenerator := false, isCoroutine := false }) (a := f) (cd := cd) (cl := ccl) S₁
  exact check_name_spec (s := { s with heap := h₁, toks := _ }) (hA₁.less (by omega)) X' (W'.keeps S₁.fr.keep) eF D hd (fun hn h' tk' hx' => kQ _ [] h' tk' (Ext.trans S₁.fr.keep hx') (fun _ h => by cases h) ⟨hn, D⟩) fun hn msg hm => passP (s₀ := { s with heap := h, toks := tk }) X.cx hL' S₁ (kE _ hn).err
set_option maxHeartbeats 1000000 in
theorem run_check_stock {pv : Value} {ps : List (Dt × Dt)} {p0 p1 p9 : Pos} (x : LamG g f qn (.Call (.Name "check_stock" p0) [.Name "pairs" p1] [] p9) { kind := .function, names := [("pairs", .free), ("check_stock", .globalImplicit)], isGenerator := false, isCoroutine := false } ccl noA) (S : St h₀ L gi m u g s.heap)
    (C1 : CellAt g u ccl "pairs" pv) (D : DL (g ++ u) pv (.list (ps.map pairQ))) (hlen : ps.length ≤ 100) (hsc : ∀ p ∈ ps, NameD p.1 ∧ Scalar p.2) :
    RunX prog w mg mb s 6 (.ref f) (fun v g' => okStock ps ∧ ∃ d o kvs, v = .ref d ∧ (d, o) ∈ g' ∧ (d == sysModules) = false ∧ o.IsDictOf (strKind prog w) kvs ∧ KQ kvs ps) (fun msg => ¬ okStock ps) := by
  refine runL x S ?_ bind0
  intro A' o' h tk E' Q' L' h₁ tk₁ cd X W' kQ kE hL' S₁ hA₁
  obtain ⟨aF, oF, pmF, cdF, dcF, eF, fF⟩ := W'.fn 8 (by decide)
  obtain ⟨c1, oc1, l1, m1, d1⟩ := C1
  refine callU (o := oF) (fd := docF 8 pmF cdF dcF) (nmG S₁ W' eF ⟨rfl, wpAny_items_cons (nmF' S₁ l1 m1 d1 (wpAny_items_nil ⟨⟨S₁.fr.keep _ _ fF.at_, fF.d⟩, ?_⟩))⟩)
  have X' := (X.cx.ext S₁.fr.keep).push (cn := qn) (cs := { kind := .function, names := [("pairs", .free), ("check_stock", .globalImplicit)], isGenerator := false, isCoroutine := false }) (a := f) (cd := cd) (cl := ccl) S₁
  refine check_stock_spec (s := { s with heap := h₁, toks := _ }) (hA₁.less (by omega)) X' (W'.keeps S₁.fr.keep) eF S₁.at D hlen hsc (fun hok d o kvs h' tk' hx' hn lo hd Ho K => kQ _ [(d, o)] h' tk' (Ext.trans S₁.fr.keep hx') (fun p hp => ?_) ⟨hok, d, o, kvs, rfl, .head _, lo, Ho, K⟩) fun hn msg hm => passP (s₀ := { s with heap := h, toks := tk }) X.cx hL' S₁ (kE _ hn).err
  rw [List.mem_singleton.mp hp]
  exact ⟨hd, S₁.fresh hn⟩
set_option maxHeartbeats 1000000 in
theorem run_check_orders {pv : Value} {ps : List (Dt × Dt)} {p0 p1 p9 : Pos} (x : LamG g f qn (.Call (.Name "check_orders" p0) [.Name "orders" p1] [] p9) { kind := .function, names := [("orders", .free), ("check_orders", .globalImplicit)], isGenerator := false, isCoroutine := false } ccl noA) (S : St h₀ L gi m u g s.heap)
    (C1 : CellAt g u ccl "orders" pv) (D : DL (g ++ u) pv (.list (ps.map pairQ))) (hlen : ps.length ≤ 100) (hsc : ∀ p ∈ ps, Scalar p.1 ∧ NameD p.2) :
    RunX prog w mg mb s 6 (.ref f) (fun v g' => (∀ p ∈ ps, okOrd p = true) ∧ DL g' v (.list (ps.map pairQ))) (fun msg => ¬ ∀ p ∈ ps, okOrd p = true) := by
  refine runL x S ?_ bind0
  intro A' o' h tk E' Q' L' h₁ tk₁ cd X W' kQ kE hL' S₁ hA₁
  obtain ⟨aF, oF, pmF, cdF, dcF, eF, fF⟩ := W'.fn 10 (by decide)
  obtain ⟨c1, oc1, l1, m1, d1⟩ := C1
  refine callU (o := oF) (fd := docF 10 pmF cdF dcF) (nmG S₁ W' eF ⟨rfl, wpAny_items_cons (nmF' S₁ l1 m1 d1 (wpAny_items_nil ⟨⟨S₁.fr.keep _ _ fF.at_, fF.d⟩, ?_⟩))⟩)
  have X' := (X.cx.ext S₁.fr.keep).push (cn := qn) (cs := { kind := .function, names := [("orders", .free), ("check_orders", .globalImplicit)], isGenerator := false, isCoroutine := false }) (a := f) (cd := cd) (cl := ccl) S₁
  exact check_orders_spec (s := { s with heap := h₁, toks := _ }) (hA₁.less (by omega)) X' (W'.keeps S₁.fr.keep) eF S₁.at D hlen hsc (fun hok v g' h' tk' hx' hf Dv => kQ _ g' h' tk' (Ext.trans S₁.fr.keep hx') (fun p hp => ⟨(hf p hp).1, S₁.fresh (hf p hp).2⟩) ⟨hok, Dv⟩) fun hn msg hm => passP (s₀ := { s with heap := h, toks := tk }) X.cx hL' S₁ (kE _ hn).err
set_option maxHeartbeats 1000000 in
theorem run_read_names {x₀ : Str} {t : Tok} {p0 p1 p9 : Pos} (x : LamG g f qn (.Call (.Name "read_names" p0) [.Name "names_text" p1] [] p9) { kind := .function, names := [("names_text", .free), ("read_names", .globalImplicit)], isGenerator := false, isCoroutine := false } ccl noA) (S : St h₀ L gi m u g s.heap)
    (C1 : CellAt g u ccl "names_text" (.str x₀ t)) (hxl : x₀.length + 2 ≤ sizeLine) (hll : (Txt.split x₀ "\n").length ≤ 500) (hw : ∀ l ∈ Txt.split x₀ "\n", l.length ≤ 5000 ∧ Sane (Txt.strip l)) :
    RunX prog w mg mb s 6 (.ref f) (fun v g' => ∃ ns, nmAll (Txt.split x₀ "\n") = some ns ∧ DL g' v (.list (ns.map .str))) (fun msg => ∃ (i : Nat) (l : Str) (ns : List Str) (tail : Str), (Txt.split x₀ "\n")[i]? = some l ∧ nmAll ((Txt.split x₀ "\n").take i) = some ns ∧ nmRes l = none ∧ msg = lineMsg ((i : Int) + 1) tail) := by
  refine runL x S ?_ bind0
  intro A' o' h tk E' Q' L' h₁ tk₁ cd X W' kQ kE hL' S₁ hA₁
  obtain ⟨aF, oF, pmF, cdF, dcF, eF, fF⟩ := W'.fn 11 (by decide)
  obtain ⟨c1, oc1, l1, m1, d1⟩ := C1
  refine callU (o := oF) (fd := docF 11 pmF cdF dcF) (nmG S₁ W' eF ⟨rfl, wpAny_items_cons (nmF' S₁ l1 m1 d1 (wpAny_items_nil ⟨⟨S₁.fr.keep _ _ fF.at_, fF.d⟩, ?_⟩))⟩)
  have X' := (X.cx.ext S₁.fr.keep).push (cn := qn) (cs := { kind := .function, names := [("names_text", .free), ("read_names", .globalImplicit)], isGenerator := false, isCoroutine := false }) (a := f) (cd := cd) (cl := ccl) S₁
  have Xh := X.call hL' (cn := qn) (cs := { kind := .function, names := [("names_text", .free), ("read_names", .globalImplicit)], isGenerator := false, isCoroutine := false }) (a := f) (cd := cd) (cl := ccl) (tk := tk₁) S₁
  exact read_names_spec (s := { s with heap := h₁, toks := tk₁ }) hA₁ Xh (W'.keeps S₁.fr.keep) eF hxl hll hw (fun ns hns v g' h' tk' hx' hf Dv => kQ _ g' h' tk' (Ext.trans S₁.fr.keep hx') (fun p hp => ⟨(hf p hp).1, S₁.fresh (hf p hp).2⟩) ⟨ns, hns, Dv⟩) fun i l ns h1 h2 h3 tail h4 => passC (s₀ := { s with heap := h, toks := tk }) X.cx hL' S₁ (kE _ ⟨i, l, ns, tail, h1, h2, h3, rfl⟩)
set_option maxHeartbeats 1000000 in
theorem run_read_trace {x₀ : Str} {t : Tok} {p0 p1 p9 : Pos} (x : LamG g f qn (.Call (.Name "read_trace" p0) [.Name "trace_text" p1] [] p9) { kind := .function, names := [("trace_text", .free), ("read_trace", .globalImplicit)], isGenerator := false, isCoroutine := false } ccl noA) (S : St h₀ L gi m u g s.heap)
    (C1 : CellAt g u ccl "trace_text" (.str x₀ t)) (hxl : x₀.length + 2 ≤ sizeLine) (hll : (Txt.split x₀ "\n").length ≤ 500) (hw : ∀ l ∈ Txt.split x₀ "\n", l.length + 2 ≤ sizeLine ∧ (Txt.words l).length ≤ 100 ∧ ∀ y ∈ Txt.words l, Sane y ∧ NumT y) :
    RunX prog w mg mb s 6 (.ref f) (fun v g' => ∃ ops, allRes (Txt.split x₀ "\n") = some ops ∧ DL g' v (.list ops)) (fun msg => ∃ (i : Nat) (l : Str) (ops : List Dt) (tail : Str), (Txt.split x₀ "\n")[i]? = some l ∧ allRes ((Txt.split x₀ "\n").take i) = some ops ∧ lineRes (Txt.words l) = none ∧ msg = lineMsg ((i : Int) + 1) tail) := by
  refine runL x S ?_ bind0
  intro A' o' h tk E' Q' L' h₁ tk₁ cd X W' kQ kE hL' S₁ hA₁
  obtain ⟨aF, oF, pmF, cdF, dcF, eF, fF⟩ := W'.fn 12 (by decide)
  obtain ⟨c1, oc1, l1, m1, d1⟩ := C1
  refine callU (o := oF) (fd := docF 12 pmF cdF dcF) (nmG S₁ W' eF ⟨rfl, wpAny_items_cons (nmF' S₁ l1 m1 d1 (wpAny_items_nil ⟨⟨S₁.fr.keep _ _ fF.at_, fF.d⟩, ?_⟩))⟩)
  have X' := (X.cx.ext S₁.fr.keep).push (cn := qn) (cs := { kind := .function, names := [("trace_text", .free), ("read_trace", .globalImplicit)], isGenerator := false, isCoroutine := false }) (a := f) (cd := cd) (cl := ccl) S₁
  have Xh := X.call hL' (cn := qn) (cs := { kind := .function, names := [("trace_text", .free), ("read_trace", .globalImplicit)], isGenerator := false, isCoroutine := false }) (a := f) (cd := cd) (cl := ccl) (tk := tk₁) S₁
  exact read_trace_spec (s := { s with heap := h₁, toks := tk₁ }) hA₁ Xh (W'.keeps S₁.fr.keep) eF hxl hll hw (fun ns hns v g' h' tk' hx' hf Dv => kQ _ g' h' tk' (Ext.trans S₁.fr.keep hx') (fun p hp => ⟨(hf p hp).1, S₁.fresh (hf p hp).2⟩) ⟨ns, hns, Dv⟩) fun i l ns h1 h2 h3 tail h4 h5 => passC (s₀ := { s with heap := h, toks := tk }) X.cx hL' S₁ (kE _ ⟨i, l, ns, tail, h1, h2, h3, rfl⟩)
end
end Mine
end
section
open PySem PyProof.Rows PySem.Calls PySem.W
set_option maxRecDepth 100000
namespace Mine
/-- law's code object, whatever its table holds -/
def CdU (h₀ : Heap) (c P : Addr) (ps : Array Value) : Prop := ∀ (L : Addr) (gi : Lg) (m : Str → Option Value) (u g : Lg) (h : Heap), St h₀ L gi m u g h → (P, tabO ps) ∈ u → Cd c P ps h
theorem CdU.of {h₀ h : Heap} {c P L : Addr} {ps : Array Value} {gi : Lg} {m : Str → Option Value} {u g : Lg} {oc : Obj} (hc : h₀.get? c = some oc) (S : St h₀ L gi m u g h) (hu : (P, tabO ps) ∈ u) (C : Cd c P ps h) : CdU h₀ c P ps :=
  fun L' gi' m' u' g' h' S' hu' => C.same (fun o e => by rw [S.fr.keep _ _ hc] at e; rw [S'.fr.keep _ _ hc]; exact e) fun o e => by rw [(S.un _ hu).1] at e; rw [(S'.un _ hu').1]; exact e
abbrev lawN : Str := (fdAt 23).name
abbrev lamQ : Str := lawN ++ ".<locals>." ++ "<lambda>"
abbrev clL (L : Addr) : List (Str × Addr) := cellsFrom (L + 1) (fdAt 23).scope.names []
theorem clL_nd (L : Addr) : ((clL L).map (·.1)).Nodup := by
  have e : (clL L).map (·.1) = (["value", "trace_text", "text", "raw", "pairs", "orders", "names_text", "lowest", "label"] : List Str) := rfl
  rw [e]; decide
abbrev envL (L a c : Addr) : Env := eX lawN (fdAt 23).scope L a (.ref c) (clL L)
def MeetEnd (prog : Program) (w : World) (A : Around) (E : Value → Shared → Prop) (am f : Addr) (s : Shared) (h₀ : Heap) (L : Addr) (gi : Lg) (m : Str → Option Value) (u g : Lg) (env : Env) (pv dv : Value) (s₃ : Shared) : Prop :=
  ∃ g'' h₃ tk₃, s₃ = { s with heap := h₃, toks := tk₃ } ∧ (∀ p ∈ g, p ∈ g'') ∧ St h₀ L gi m u g'' h₃ ∧
    ∀ Q' : Value → Shared → Prop, (∀ h' tk, Aft [env] h₃ h' → Q' (.bool true) { s with heap := h', toks := tk }) → wpAny (model prog w) A (call (.ref am) [.ref f, pv, dv]) Q' E { s with heap := h₃, toks := tk₃ }
section
variable {prog : Program} {w : World} {A : Around} {E : Value → Shared → Prop} {s : Shared} {h₀ : Heap} {L a c P am : Addr} {gi : Lg} {m mg mb : Str → Option Value} {u g : Lg} {U : Array Value → Lg} {ps : Array Value} {body e2 e3 : Expr} {scope : Scope} {ccl : List (Str × Addr)} {p1 p2 p3 lp : Pos} {oc om : Obj} {pmm cdm dcm : Value}
set_option maxHeartbeats 1000000 in
/-- not _law_meets(lambda: body, e2, e3) -/
theorem meetStep {Q : Bool → Shared → Prop} {whole : Sem Value} (W : Wd mg mb h₀) (B : Bm mg h₀) (hc : h₀.get? c = some oc) (hcP : c ≠ P) (hm : mg (fdAt 22).name = some (.ref am)) (fm : FnAt 22 h₀ am om pmm cdm dcm)
    (S : St h₀ L gi m u g s.heap) (K : CdU h₀ c P ps) (T : TabOk lamQ ps g) (R : ∀ ps', Rep P (tabO ps) (tabO ps') u (U ps')) (hu : U ps = u) (hclos : closureFor scope (envL L a c) = pure ccl) (hne : ccl.isEmpty = false)
    (h : ∀ f s₁ ps' g' h₁ tk₁, s₁ = { s with heap := h₁, toks := tk₁ } → (∀ p ∈ g, p ∈ g') → St h₀ L gi m (U ps') g' h₁ → LamG g' f lamQ body scope ccl noA →
      wpAny (model prog w) A (eval e2 (envL L a c)) (fun pv s₂ => wpAny (model prog w) A (eval e3 (envL L a c)) (MeetEnd prog w A E am f s h₀ L gi m (U ps') g' (envL L a c) pv) E s₂) E s₁)
    (k : ∀ h' tk ps' g'', (∀ p ∈ g, p ∈ g'') → St h₀ L gi m (U ps') g'' h' → CdU h₀ c P ps' → TabOk lamQ ps' g'' → Q false { s with heap := h', toks := tk })
    (hs1 : starEach [.Lambda noA body scope lp, e2, e3] (envL L a c) = (false, eval (.Lambda noA body scope lp) (envL L a c)) :: starEach [e2, e3] (envL L a c) := by rfl)
    (hs2 : starEach [e2, e3] (envL L a c) = (false, eval e2 (envL L a c)) :: starEach [e3] (envL L a c) := by rfl) (hs3 : starEach [e3] (envL L a c) = (false, eval e3 (envL L a c)) :: starEach [] (envL L a c) := by rfl) :
    wpAny (model prog w) A (isTrue (.UnaryOp .Not (.Call (.Name "_law_meets" p1) [.Lambda noA body scope lp, e2, e3] [] p2) p3) (envL L a c) whole) Q E s := by
  refine isTrue_not (isTrue_plain (callU (o := om) (fd := docF 22 pmm cdm dcm) (nmG S W hm ⟨rfl, wpAny_items_cons (lamE S W B (K _ _ _ _ _ _ S (R ps).mem) T R hu hcP hclos hne fun h₁ f ps' g' tk₁ hsub S₁ C₁ T₁ X₁ => ?_) hs1⟩) hs1))
  refine wpAny_items_cons (wpAny_mono (h f _ ps' g' h₁ tk₁ rfl hsub S₁ X₁) (fun pv s₂ h₂ => ?_) fun _ _ e => e) hs2
  refine wpAny_items_cons (wpAny_mono h₂ (fun dv s₃ h₃ => ?_) fun _ _ e => e) hs3
  obtain ⟨g₃, h₃, tk₃, rfl, hsub₃, S₃, kM⟩ := h₃
  refine wpAny_items_nil ⟨⟨S₃.fr.keep _ _ fm.at_, fm.d⟩, kM _ fun h' tk' af => wpAny_truthy_bool ?_⟩
  have hPm : ∀ ps', (P, tabO ps') ∈ U ps' := fun ps' => by
    have := R ps'
    have hr := (this.symm).mem
    exact hr
  exact k h' tk' ps' g₃ (fun p hp => hsub₃ _ (hsub _ hp)) (S₃.after rfl af) (CdU.of hc S₁ (hPm ps') C₁) (T₁.mono hsub₃)
end
end Mine
end
section
open PySem PyProof.Rows PySem.Calls PySem.W
set_option maxRecDepth 100000
namespace Mine
theorem starts_nil (msg : Str) : Txt.startswith msg (Str.ofString "") = true := by
  have e : (Str.ofString "").cps = #[] := by rfl
  simp [Txt.startswith, Builtin.Str.subAt, Str.length, e]
/-- law's surroundings -/
structure LX (A : Around) (mg mb : Str → Option Value) (h₀ : Heap) (L a c P : Addr) (oc : Obj) : Prop where
  W : Wd mg mb h₀
  B : Bm mg h₀
  hc : h₀.get? c = some oc
  hcP : c ≠ P
  hL : h₀.get? L = none
  fr : A.frames = some []
  ok : OkA (A.deeper (envL L a c)) 7
/-- law's state -/
structure LS (h₀ : Heap) (L : Addr) (gi : Lg) (c P : Addr) (us : Lg) (m cm : Str → Option Value) (cells : Lg) (ps : Array Value) (g : Lg) (h : Heap) : Prop where
  S : St h₀ L gi m (us ++ (cells ++ [(P, tabO ps)])) g h
  Y : CellsAre cm (clL L) cells
  K : CdU h₀ c P ps
  T : TabOk lamQ ps g
section
variable {prog : Program} {w : World} {A : Around} {E : Value → Shared → Prop} {s : Shared} {h₀ : Heap} {L a c P : Addr} {oc : Obj} {gi : Lg} {m cm mg mb : Str → Option Value} {us u g g' cells : Lg} {ps : Array Value} {h h' : Heap} {tk : Nat} {f am : Addr} {body : Expr} {scope : Scope} {ccl : List (Str × Addr)}
variable (Z : LX A mg mb h₀ L a c P oc) (hm : mg (fdAt 22).name = some (.ref am)) (x : LamG g f lamQ body scope ccl noA) (S : St h₀ L gi m u g h)
include Z hm x S
theorem meetBad {pv dv : Value} {pl : Str} {tp : Tok} (hpv : pv = .str pl tp) (hrun : RunBad prog w mg mb { s with heap := h, toks := tk } 6 (.ref f) pl) {Q' : Value → Shared → Prop} (k : ∀ h' tk, Aft [envL L a c] h h' → Q' (.bool true) { s with heap := h', toks := tk }) :
    wpAny (model prog w) (A.deeper (envL L a c)) (call (.ref am) [.ref f, pv, dv]) Q' E { s with heap := h, toks := tk } := by
  subst hpv
  obtain ⟨o, fd, c', oc', h1, h2, r⟩ := x.ex
  exact meets_err (s := { s with heap := h, toks := tk }) Z.ok (hx_law Z.fr Z.W Z.hL S) (Z.W.keeps S.fr.keep) hm (S.led _ h1).1 h2 hrun k
theorem meetInt {dv : Value} {i : Int} (D : DL [] dv (.int i)) (hrun : RunOk prog w mg mb { s with heap := h, toks := tk } 6 (.ref f) fun v _ => DL [] v (.int i)) {Q' : Value → Shared → Prop} (k : ∀ h' tk, Aft [envL L a c] h h' → Q' (.bool true) { s with heap := h', toks := tk }) :
    wpAny (model prog w) (A.deeper (envL L a c)) (call (.ref am) [.ref f, .none, dv]) Q' E { s with heap := h, toks := tk } := by
  obtain ⟨o, fd, c', oc', h1, h2, r⟩ := x.ex
  exact meets_int (s := { s with heap := h, toks := tk }) Z.ok (hx_law Z.fr Z.W Z.hL S) (Z.W.keeps S.fr.keep) hm (S.led _ h1).1 h2 D hrun k
theorem meetStr {dv : Value} {y : Str} (D : DL [] dv (.str y)) (hy : PyData.strOk y = true) (hrun : RunOk prog w mg mb { s with heap := h, toks := tk } 6 (.ref f) fun v _ => DL [] v (.str y)) {Q' : Value → Shared → Prop} (k : ∀ h' tk, Aft [envL L a c] h h' → Q' (.bool true) { s with heap := h', toks := tk }) :
    wpAny (model prog w) (A.deeper (envL L a c)) (call (.ref am) [.ref f, .none, dv]) Q' E { s with heap := h, toks := tk } := by
  obtain ⟨o, fd, c', oc', h1, h2, r⟩ := x.ex
  exact meets_str (s := { s with heap := h, toks := tk }) Z.ok (hx_law Z.fr Z.W Z.hL S) (Z.W.keeps S.fr.keep) hm (S.led _ h1).1 h2 D hy hrun k
theorem meetList {dv : Value} {p : PyData} {ds : List Dt} (hp : ofP p = .list ds) (hs : PySem.SeqAt.shaped p = true) (he : PyData.eqv p p = true) (hi : ∀ d ∈ ds, ItemOk d) (D : DL g dv (.list ds)) (hrun : RunOk prog w mg mb { s with heap := h, toks := tk } 6 (.ref f) fun v g' => DL g' v (.list ds)) {Q' : Value → Shared → Prop} (k : ∀ h' tk, Aft [envL L a c] h h' → Q' (.bool true) { s with heap := h', toks := tk }) :
    wpAny (model prog w) (A.deeper (envL L a c)) (call (.ref am) [.ref f, .none, dv]) Q' E { s with heap := h, toks := tk } := by
  obtain ⟨o, fd, c', oc', h1, h2, r⟩ := x.ex
  exact meets_list (s := { s with heap := h, toks := tk }) hp hs he hi Z.ok (hx_law Z.fr Z.W Z.hL S) (Z.W.keeps S.fr.keep) hm (S.led _ h1).1 h2 S.at D hrun k
theorem meetDict {p : PyData} {qs : List (Dt × Dt)} {d2 : Addr} {o2 : Obj} {kvs2 : List (Str × Value)} (hp : ofP p = .list (qs.map pairQ)) (hs : PySem.SeqAt.shaped p = true) (he : PyData.eqv p p = true) (hz : qs.length ≤ 100) (nd : (qs.map fun p => keyD p.1).Nodup)
    (hd2 : h.get? d2 = some o2) (lo2 : (d2 == sysModules) = false) (Ho2 : o2.IsDictOf (strKind prog w) kvs2) (K2 : KQ kvs2 qs)
    (hrun : RunOk prog w mg mb { s with heap := h, toks := tk } 6 (.ref f) fun v g' => ∃ d o kvs, v = .ref d ∧ (d, o) ∈ g' ∧ (d == sysModules) = false ∧ o.IsDictOf (strKind prog w) kvs ∧ KQ kvs qs) {Q' : Value → Shared → Prop} (k : ∀ h' tk, Aft [envL L a c] h h' → Q' (.bool true) { s with heap := h', toks := tk }) :
    wpAny (model prog w) (A.deeper (envL L a c)) (call (.ref am) [.ref f, .none, .ref d2]) Q' E { s with heap := h, toks := tk } := by
  obtain ⟨o, fd, c', oc', h1, h2, r⟩ := x.ex
  exact meets_dict (s := { s with heap := h, toks := tk }) hp hs he hz nd Z.ok (hx_law Z.fr Z.W Z.hL S) (Z.W.keeps S.fr.keep) hm (S.led _ h1).1 h2 hd2 lo2 Ho2 K2 hrun k
theorem meetNum {pv dv : Value} {d : Dt} {lo : Int} {Pn : Value → Lg → Prop} {Bn : Str → Prop} (hrun : RunX prog w mg mb { s with heap := h, toks := tk } 6 (.ref f) Pn Bn)
    (hok : withinD d lo = true → (∀ v g, Pn v g → DL [] v d) ∧ ∀ msg, ¬ Bn msg) (hbad : withinD d lo = false → ∀ v g, ¬ Pn v g) (Dp : DL [] pv (plD (withinD d lo))) (Dd : DL [] dv d) {Q' : Value → Shared → Prop} (k : ∀ h' tk, Aft [envL L a c] h h' → Q' (.bool true) { s with heap := h', toks := tk }) :
    wpAny (model prog w) (A.deeper (envL L a c)) (call (.ref am) [.ref f, pv, dv]) Q' E { s with heap := h, toks := tk } := by
  cases hw : withinD d lo with
  | true =>
    rw [hw] at Dp
    have : pv = .none := by cases Dp; rfl
    subst this
    obtain ⟨h1, h2⟩ := hok hw
    cases d <;> simp only [withinD] at hw <;> try cases hw
    exact meetInt Z hm x S Dd (hrun.ok h1 h2) k
  | false =>
    rw [hw] at Dp
    obtain ⟨t, rfl⟩ : ∃ t, pv = .str (Str.ofString "") t := by
      have Dp' : DL [] pv (.str (Str.ofString "")) := Dp
      cases Dp'; exact ⟨_, rfl⟩
    exact meetBad Z hm x S rfl (hrun.bad (hbad hw) fun msg _ => starts_nil msg) k
end
section
variable {prog : Program} {w : World} {A : Around} {E : Value → Shared → Prop} {s : Shared} {h₀ : Heap} {L a c P am : Addr} {oc : Obj} {gi : Lg} {m cm mg mb : Str → Option Value} {us g cells : Lg} {ps : Array Value} {body e2 e3 : Expr} {scope : Scope} {ccl : List (Str × Addr)} {p1 p2 p3 lp p4 p5 p6 : Pos} {k5 : Nat}
/-- if not _law_meets(lambda: body, e2, e3): return False -/
theorem lawIf {Q : Flow → Shared → Prop} {rest : List Stmt} (Z : LX A mg mb h₀ L a c P oc) (hm : mg (fdAt 22).name = some (.ref am)) (x : LS h₀ L gi c P us m cm cells ps g s.heap) (hclos : closureFor scope (envL L a c) = pure ccl) (hne : ccl.isEmpty = false)
    (h : ∀ f ps' g' h₁ tk₁, (∀ p ∈ g, p ∈ g') → St h₀ L gi m (us ++ (cells ++ [(P, tabO ps')])) g' h₁ → LamG g' f lamQ body scope ccl noA →
      wpAny (model prog w) (A.deeper (envL L a c)) (eval e2 (envL L a c)) (fun pv s₂ => wpAny (model prog w) (A.deeper (envL L a c)) (eval e3 (envL L a c)) (MeetEnd prog w (A.deeper (envL L a c)) E am f s h₀ L gi m (us ++ (cells ++ [(P, tabO ps')])) g' (envL L a c) pv) E s₂) E { s with heap := h₁, toks := tk₁ })
    (k : ∀ h' tk ps' g'', (∀ p ∈ g, p ∈ g'') → LS h₀ L gi c P us m cm cells ps' g'' h' → wpAny (model prog w) (A.deeper (envL L a c)) (execs rest (envL L a c)) Q E { s with heap := h', toks := tk })
    (hs1 : starEach [.Lambda noA body scope lp, e2, e3] (envL L a c) = (false, eval (.Lambda noA body scope lp) (envL L a c)) :: starEach [e2, e3] (envL L a c) := by rfl)
    (hs2 : starEach [e2, e3] (envL L a c) = (false, eval e2 (envL L a c)) :: starEach [e3] (envL L a c) := by rfl) (hs3 : starEach [e3] (envL L a c) = (false, eval e3 (envL L a c)) :: starEach [] (envL L a c) := by rfl) :
    wpAny (model prog w) (A.deeper (envL L a c)) (execs (.If (.UnaryOp .Not (.Call (.Name "_law_meets" p1) [.Lambda noA body scope lp, e2, e3] [] p2) p3) [.Return (some (.Constant (.bool false) k5 p4)) p5] [] p6 :: rest) (envL L a c)) Q E s := by
  obtain ⟨om, pmm, cdm, dcm, fm⟩ := fn_of Z.W (i := 22) (by decide) hm
  refine wpAny_execs_cons (wpAny_If (meetStep (U := fun ps' => us ++ (cells ++ [(P, tabO ps')])) Z.W Z.B Z.hc Z.hcP hm fm x.S x.K x.T (fun ps' => Rep.pre (Rep.pre .head cells) us) rfl hclos hne
    (fun f s₁ ps' g' h₁ tk₁ e hsub S₁ X₁ => by subst e; exact h f ps' g' h₁ tk₁ hsub S₁ X₁) (fun h' tk ps' g'' hsub S' K' T' => ?_) hs1 hs2 hs3))
  exact wpAny_execs_nil (k h' tk ps' g'' hsub ⟨S', x.Y, K', T'⟩)
end
end Mine
end
section
open PySem PyProof.Rows PySem.Calls PySem.W
set_option maxRecDepth 100000
namespace Mine
/-- reading the text gives the number, if it lies between -/
def Agree (p : Str × Dt) (lo : Int) : Prop := (withinD p.2 lo = true → ∃ n, p.2 = .int n ∧ parseN p.1 lo = .ok n) ∧ (withinD p.2 lo = false → ∃ msg, parseN p.1 lo = .error msg)
structure LowOk (lo : Int) : Prop where
  log : lo.natAbs.log2 < 1920
  msg : (rangeMsg lo).length ≤ sizeLine
structure NumF (p : Str × Dt) (lo : Int) : Prop where
  num : NumT p.1
  sc : Scalar p.2
  a : Agree p lo
  b : Agree p 1
  c : Agree p (-1000000000000000000)
theorem chk_ok {d : Dt} {lo : Int} (h : withinD d lo = true) : ∃ n, d = .int n ∧ chk d lo = .ok n := by
  cases d <;> simp only [withinD] at h <;> try cases h
  rename_i n
  simp only [Bool.and_eq_true, decide_eq_true_eq] at h
  exact ⟨n, rfl, by simp only [chk]; rw [if_pos ⟨h.1, h.2⟩]⟩
theorem chk_bad {d : Dt} {lo : Int} (h : withinD d lo = false) : ∀ n, chk d lo ≠ .ok n := by
  intro n e
  cases d <;> simp only [chk] at e <;> try cases e
  split at e
  · rename_i n' hb
    simp only [withinD, Bool.and_eq_false_iff, decide_eq_false_iff_not] at h
    have := hb.2
    unfold MAXN at this
    rcases h with h | h
    · exact h hb.1
    · exact h this
  · cases e
theorem parse_meet {p : Str × Dt} {lo : Int} (h : Agree p lo) : (withinD p.2 lo = true → (∀ (v : Value) (_ : Lg), (∃ n, parseN p.1 lo = .ok n ∧ DL [] v (.int n)) → DL [] v p.2) ∧ ∀ msg, ¬ parseN p.1 lo = .error msg) ∧ (withinD p.2 lo = false → ∀ (v : Value) (_ : Lg), ¬ ∃ n, parseN p.1 lo = .ok n ∧ DL [] v (.int n)) := by
  refine ⟨fun hw => ?_, fun hw v _ ⟨n, hn, _⟩ => ?_⟩
  · obtain ⟨n, e1, e2⟩ := h.1 hw
    refine ⟨fun v _ ⟨n', hn', D⟩ => ?_, fun msg hm => by rw [e2] at hm; cases hm⟩
    rw [e2] at hn'
    cases hn'
    rw [e1]; exact D
  · obtain ⟨msg, e⟩ := h.2 hw
    rw [e] at hn; cases hn
theorem chk_meet {d : Dt} {lo : Int} : (withinD d lo = true → (∀ (v : Value) (_ : Lg), ((∃ n, chk d lo = .ok n) ∧ DL [] v d) → DL [] v d) ∧ ∀ msg, ¬ chk d lo = .error msg) ∧ (withinD d lo = false → ∀ (v : Value) (_ : Lg), ¬ ((∃ n, chk d lo = .ok n) ∧ DL [] v d)) := by
  refine ⟨fun hw => ⟨fun v _ h => h.2, fun msg hm => ?_⟩, fun hw v _ ⟨⟨n, hn⟩, _⟩ => chk_bad hw n hn⟩
  obtain ⟨n, e1, e2⟩ := chk_ok hw
  rw [e2] at hm; cases hm
section
variable {prog : Program} {w : World} {A : Around} {E : Value → Shared → Prop} {s : Shared} {h₀ : Heap} {L a c P am : Addr} {oc : Obj} {gi : Lg} {m cm mg mb : Str → Option Value} {us g cells : Lg} {ps : Array Value}
/-- _law_place(e, lo) in law -/
theorem placeE {Q : Value → Shared → Prop} {e1 e2 : Expr} {p1 p2 : Pos} {v : Value} {d : Dt} {lo : Int} {u : Lg} (Z : LX A mg mb h₀ L a c P oc) (S : St h₀ L gi m u g s.heap) (hd : Scalar d) (D : DL [] v d)
    (h1 : ∀ (Q' : Value → Shared → Prop) (s' : Shared), St h₀ L gi m u g s'.heap → Q' v s' → wpAny (model prog w) (A.deeper (envL L a c)) (eval e1 (envL L a c)) Q' E s')
    (h2 : ∀ (Q' : Value → Shared → Prop) (s' : Shared), St h₀ L gi m u g s'.heap → (∀ t tk, Q' (.int lo t) { s' with toks := tk }) → wpAny (model prog w) (A.deeper (envL L a c)) (eval e2 (envL L a c)) Q' E s')
    (k : ∀ v' h' tk, DL [] v' (plD (withinD d lo)) → St h₀ L gi m u g h' → Q v' { s with heap := h', toks := tk })
    (hs1 : starEach [e1, e2] (envL L a c) = (false, eval e1 (envL L a c)) :: starEach [e2] (envL L a c) := by rfl) (hs2 : starEach [e2] (envL L a c) = (false, eval e2 (envL L a c)) :: starEach [] (envL L a c) := by rfl) :
    wpAny (model prog w) (A.deeper (envL L a c)) (eval (.Call (.Name "_law_place" p1) [e1, e2] [] p2) (envL L a c)) Q E s := by
  obtain ⟨ap, op, pmp, cdp, dcp, ep, fp⟩ := Z.W.fn 19 (by decide)
  refine callU (o := op) (fd := docF 19 pmp cdp dcp) (nmG S Z.W ep ⟨rfl, wpAny_items_cons (h1 _ _ S (wpAny_items_cons (h2 _ _ S fun t tk => wpAny_items_nil ⟨⟨S.fr.keep _ _ fp.at_, fp.d⟩, ?_⟩) hs2)) hs1⟩) hs1
  exact law_place_spec (s := { s with heap := _, toks := tk }) (Z.ok.less (by omega)) (Z.W.keeps S.fr.keep) ep D (.inr hd) fun v' h' tk' hx D' => k v' h' tk' D' (S.ext hx)
set_option maxHeartbeats 2000000 in
theorem partB {Q : Flow → Shared → Prop} {vN : Value} {NS : List (Str × Dt)} {lo : Int} {tl : Tok} (Z : LX A mg mb h₀ L a c P oc) (hm : mg (fdAt 22).name = some (.ref am)) (x : LS h₀ L gi c P [] m cm cells ps g s.heap)
    (hN : m "numbers" = some vN) (DN : DL g vN (.list (NS.map numQ))) (hlo : cm "lowest" = some (.int lo tl)) (Lo : LowOk lo) (hF : ∀ p ∈ NS, NumF p lo)
    (k : ∀ h' tk m' cm' cells' ps' g', (∀ p ∈ g, p ∈ g') → (∀ y : Str, y ≠ "place" → m' y = m y) → (∀ y : Str, y ≠ "text" → y ≠ "value" → cm' y = cm y) → LS h₀ L gi c P [] m' cm' cells' ps' g' h' →
      wpAny (model prog w) (A.deeper (envL L a c)) (execs ((fdAt 23).body.drop 7) (envL L a c)) Q E { s with heap := h', toks := tk }) :
    wpAny (model prog w) (A.deeper (envL L a c)) (execs ((fdAt 23).body.drop 6) (envL L a c)) Q E s := by
  obtain ⟨tmst, emst⟩ := Z.W.const ("_law_most", 1000000000000000000) (by decide)
  dsimp only at emst
  conv in (List.drop 6 (fdAt 23).body) => whnf
  refine wpAny_execs_cons (wpAny_For (nmL x.S hN (forL (fun i m' u' g' => ∃ cm' cells' ps', u' = cells' ++ [(P, tabO ps')] ∧ CellsAre cm' (clL L) cells' ∧ CdU h₀ c P ps' ∧ TabOk lamQ ps' g' ∧ (∀ y : Str, y ≠ "place" → m' y = m y) ∧ ∀ y : Str, y ≠ "text" → y ≠ "value" → cm' y = cm y)
    Z.ok.hd x.S DN ⟨cm, cells, ps, rfl, x.Y, x.K, x.T, fun _ _ => rfl, fun _ _ _ => rfl⟩ (lets_tuple _ _ _) ?_ ?_)))
  · rintro i d v m₁ u₁ g₁ h₁ tk₁ I io hd hv hsub ⟨cm₁, cells₁, ps₁, rfl, Y₁, K₁, T₁, em₁, ec₁⟩ S₁
    obtain ⟨p, hp, rfl⟩ : ∃ p, p ∈ NS ∧ d = numQ p := by
      rw [List.getElem?_map] at hd
      cases q : NS[i]? with
      | none => rw [q] at hd; cases hd
      | some p => rw [q] at hd; exact ⟨p, List.mem_of_getElem? q, (Option.some.inj hd).symm⟩
    obtain ⟨fn, fs, fa, fb, fc⟩ := hF p hp
    have hv' : DL g₁ v (.tuple [.str p.1, p.2]) := hv.mono hsub
    refine unT Z.ok.hd S₁ hv' rfl fun vs₂ h₂ D₂ S₂ => ?_
    cases D₂ with | @cons vt _ _ _ dt D₂ => cases D₂ with | @cons vv _ _ _ dv D₂ => cases D₂ with | nil =>
    have S₂' : St h₀ L gi m₁ ([(I, io)] ++ (cells₁ ++ [(P, tabO ps₁)])) g₁ h₂ := S₂
    refine assignInOrder_cons (wpAny_assign_Name (stY (s := { s with heap := h₂, toks := tk₁ }) S₂' Y₁ (fun h₃ cells₃ S₃ Y₃ => assignInOrder_cons (wpAny_assign_Name (stY (s := { s with heap := h₃, toks := tk₁ }) S₃ Y₃ (fun h₄ cells₄ S₄ Y₄ => assignInOrder_nil ?_) rfl (clL_nd L)))) rfl (clL_nd L)))
    dsimp only
    obtain ⟨cm₄, hcm₄⟩ : ∃ cm₄, upd (upd cm₁ (Str.ofString "text") vt) (Str.ofString "value") vv = cm₄ := ⟨_, rfl⟩
    have ct : cm₄ "text" = some vt := by rw [← hcm₄]; rfl
    have cv : cm₄ "value" = some vv := by rw [← hcm₄]; rfl
    have cl : cm₄ "lowest" = some (.int lo tl) := by rw [← hcm₄]; exact upd_ne (by decide) (upd_ne (by decide) ((ec₁ _ (by decide) (by decide)).trans hlo))
    have ec₄ : ∀ y : Str, y ≠ "text" → y ≠ "value" → cm₄ y = cm y := fun y h1 h2 => by rw [← hcm₄]; exact upd_ne h2 (upd_ne h1 (ec₁ y h1 h2))
    rw [hcm₄] at Y₄
    clear Y₃ S₃
    obtain ⟨tt, rfl⟩ : ∃ t, vt = .str p.1 t := by cases dt; exact ⟨_, rfl⟩
    have dv := dv.bare fs
    have eV : ∀ {ps' g' : _} {m' : Str → Option Value} (Q' : Value → Shared → Prop) (s' : Shared), St h₀ L gi m' ([(I, io)] ++ (cells₄ ++ [(P, tabO ps')])) g' s'.heap → Q' vv s' → ∀ pos, wpAny (model prog w) (A.deeper (envL L a c)) (eval (.Name "value" pos) (envL L a c)) Q' (fun _ _ => False) s' := fun Q' s' S' q pos => nmY S' Y₄ cv q
    have eL : ∀ {ps' g' : _} {m' : Str → Option Value} (Q' : Value → Shared → Prop) (s' : Shared), St h₀ L gi m' ([(I, io)] ++ (cells₄ ++ [(P, tabO ps')])) g' s'.heap → (∀ t tk, Q' (.int lo t) { s' with toks := tk }) → ∀ pos, wpAny (model prog w) (A.deeper (envL L a c)) (eval (.Name "lowest" pos) (envL L a c)) Q' (fun _ _ => False) s' := fun Q' s' S' q pos => nmY S' Y₄ cl (q tl s'.toks)
    refine wpAny_execs_cons (wpAny_Assign_Name (placeE (s := { s with heap := h₄, toks := tk₁ }) Z S₄ fs dv (fun Q' s' S' q => eV Q' s' S' q _) (fun Q' s' S' q => eL Q' s' S' q _) fun vp h₅ tk₅ Dp S₅ => stL (s := { s with heap := h₅, toks := tk₅ }) S₅ fun h₆ S₆ => ?_))
    dsimp only
    have em₆ : ∀ y : Str, y ≠ "place" → upd m₁ (Str.ofString "place") vp y = m y := fun y hy => upd_ne hy (em₁ y hy)
    obtain ⟨m₆, hm₆⟩ : ∃ m₆, upd m₁ (Str.ofString "place") vp = m₆ := ⟨_, rfl⟩
    have mp : m₆ "place" = some vp := by rw [← hm₆]; rfl
    rw [hm₆] at S₆ em₆
    have x₆ : LS h₀ L gi c P [(I, io)] m₆ cm₄ cells₄ ps₁ g₁ h₆ := ⟨S₆, Y₄, K₁, T₁⟩
    -- parse_number(text, lowest)
    refine lawIf (s := { s with heap := h₆, toks := _ }) Z hm x₆ rfl rfl (fun f ps' g' h₇ tk₇ hs₇ S₇ X₇ => ?_) fun h₈ tk₈ ps₈ g₈ hs₈ x₈ => ?_
    · refine nmL S₇ mp (nmY S₇ Y₄ cv ⟨g', h₇, tk₇, rfl, fun _ hp => hp, S₇, fun Q' kk => ?_⟩)
      exact meetNum Z hm X₇ S₇ (run_parse_number (s := { s with heap := h₇, toks := tk₇ }) X₇ S₇ (cellAt_of Y₄ ct rfl rfl) (cellAt_of Y₄ cl rfl rfl) fn Lo.log Lo.msg) (parse_meet fa).1 (parse_meet fa).2 Dp dv kk
    dsimp only
    -- check_number(value, lowest)
    refine lawIf (s := { s with heap := h₈, toks := _ }) Z hm x₈ rfl rfl (fun f ps' g' h₇ tk₇ hs₇ S₇ X₇ => ?_) fun h₉ tk₉ ps₉ g₉ hs₉ x₉ => ?_
    · refine nmL S₇ mp (nmY S₇ Y₄ cv ⟨g', h₇, tk₇, rfl, fun _ hp => hp, S₇, fun Q' kk => ?_⟩)
      exact meetNum Z hm X₇ S₇ (run_check_number (s := { s with heap := h₇, toks := tk₇ }) X₇ S₇ (cellAt_of Y₄ cv rfl rfl) (cellAt_of Y₄ cl rfl rfl) dv fs Lo.log Lo.msg) chk_meet.1 chk_meet.2 Dp dv kk
    dsimp only
    -- parse_count(text)
    refine lawIf (s := { s with heap := h₉, toks := _ }) Z hm x₉ rfl rfl (fun f ps' g' h₇ tk₇ hs₇ S₇ X₇ => ?_) fun h₁₀ tk₁₀ ps₁₀ g₁₀ hs₁₀ x₁₀ => ?_
    · refine placeE (s := { s with heap := h₇, toks := tk₇ }) Z S₇ fs dv (fun Q' s' S' q => eV Q' s' S' q _) (fun Q' s' S' q => wpAny_Constant_int (q _ _)) fun vp' h₇' tk₇' Dp' S₇' => ?_
      refine nmY S₇' Y₄ cv ⟨g', h₇', tk₇', rfl, fun _ hp => hp, S₇', fun Q' kk => ?_⟩
      exact meetNum Z hm X₇ S₇' (run_parse_count (s := { s with heap := h₇', toks := tk₇' }) X₇ S₇' (cellAt_of Y₄ ct rfl rfl) fn) (parse_meet fb).1 (parse_meet fb).2 Dp' dv kk
    dsimp only
    -- parse_signed(text)
    refine lawIf (s := { s with heap := h₁₀, toks := _ }) Z hm x₁₀ rfl rfl (fun f ps' g' h₇ tk₇ hs₇ S₇ X₇ => ?_) fun h₁₁ tk₁₁ ps₁₁ g₁₁ hs₁₁ x₁₁ => ?_
    · refine placeE (s := { s with heap := h₇, toks := tk₇ }) Z S₇ fs dv (fun Q' s' S' q => eV Q' s' S' q _) (fun Q' s' S' q => wpAny_UnaryOp (nmG S' Z.W emst (neg_int (q _ _)))) fun vp' h₇' tk₇' Dp' S₇' => ?_
      refine nmY S₇' Y₄ cv ⟨g', h₇', tk₇', rfl, fun _ hp => hp, S₇', fun Q' kk => ?_⟩
      exact meetNum Z hm X₇ S₇' (run_parse_signed (s := { s with heap := h₇', toks := tk₇' }) X₇ S₇' (cellAt_of Y₄ ct rfl rfl) fn) (parse_meet fc).1 (parse_meet fc).2 Dp' dv kk
    dsimp only
    refine wpAny_execs_nil ?_
    exact TurnEnd.next ⟨fun p hp => hs₁₁ _ (hs₁₀ _ (hs₉ _ (hs₈ _ (hsub _ hp)))), cm₄, cells₄, ps₁₁, rfl, Y₄, x₁₁.K, x₁₁.T, em₆, ec₄⟩ x₁₁.S
  · rintro m₁ u₁ g₁ h₁ tk₁ hsub ⟨cm₁, cells₁, ps₁, rfl, Y₁, K₁, T₁, em₁, ec₁⟩ S₁
    exact k h₁ tk₁ m₁ cm₁ cells₁ ps₁ g₁ hsub em₁ ec₁ ⟨S₁, Y₁, K₁, T₁⟩
end
end Mine
end
section
open PySem PyProof.Rows PySem.Calls PySem.W
set_option maxRecDepth 100000
namespace Mine
def forBody (i : Nat) : List Stmt := match (fdAt 23).body[i]? with | some (Stmt.For _ _ b _ _) => b | _ => []
structure NameF (q : Str × Bool × Option (List Str)) : Prop where
  nd : NameD (.str q.1)
  ok : nameOk (.str q.1) = q.2.1
  str : PyData.strOk q.1 = true
section
variable {prog : Program} {w : World} {A : Around} {E : Value → Shared → Prop} {s : Shared} {h₀ : Heap} {L a c P am : Addr} {oc : Obj} {gi : Lg} {m cm mg mb : Str → Option Value} {us g cells : Lg} {ps : Array Value}
set_option maxHeartbeats 2000000 in
theorem partC {Q : Flow → Shared → Prop} {lo rw : Int} {tl tr : Tok} (Z : LX A mg mb h₀ L a c P oc) (hm : mg (fdAt 22).name = some (.ref am)) (x : LS h₀ L gi c P [] m cm cells ps g s.heap)
    (hlo : cm "lowest" = some (.int lo tl)) (hrw : cm "raw" = some (.int rw tr)) (Lo : LowOk lo)
    (k : ∀ h' tk ps' g', (∀ p ∈ g, p ∈ g') → LS h₀ L gi c P [] m cm cells ps' g' h' →
      wpAny (model prog w) (A.deeper (envL L a c)) (execs ((fdAt 23).body.drop 9) (envL L a c)) Q E { s with heap := h', toks := tk }) :
    wpAny (model prog w) (A.deeper (envL L a c)) (execs ((fdAt 23).body.drop 7) (envL L a c)) Q E s := by
  conv in (List.drop 7 (fdAt 23).body) => whnf
  have dv : DL [] (.int rw tr) (.int rw) := .int _ _
  have Y := x.Y
  refine lawIf Z hm x rfl rfl (fun f ps' g' h₇ tk₇ hs₇ S₇ X₇ => ?_) fun h₈ tk₈ ps₈ g₈ hs₈ x₈ => ?_
  · refine placeE (s := { s with heap := h₇, toks := tk₇ }) (v := .int rw tr) (d := .int rw) (lo := lo) Z S₇ trivial dv (fun Q' s' S' q => nmY S' Y hrw q) (fun Q' s' S' q => nmY S' Y hlo (q tl s'.toks)) fun vp' h₇' tk₇' Dp' S₇' => ?_
    refine nmY S₇' Y hrw ⟨g', h₇', tk₇', rfl, fun _ hp => hp, S₇', fun Q' kk => ?_⟩
    exact meetNum Z hm X₇ S₇' (run_check_raw (s := { s with heap := h₇', toks := tk₇' }) X₇ S₇' (cellAt_of Y hrw rfl rfl) (cellAt_of Y hlo rfl rfl) dv trivial Lo.log Lo.msg) chk_meet.1 chk_meet.2 Dp' dv kk
  try dsimp only
  refine lawIf (s := { s with heap := h₈, toks := _ }) Z hm x₈ rfl rfl (fun f ps' g' h₇ tk₇ hs₇ S₇ X₇ => ?_) fun h₉ tk₉ ps₉ g₉ hs₉ x₉ => ?_
  · refine wpAny_Constant_str (wpAny_Constant_none ⟨g', h₇, _, rfl, fun _ hp => hp, S₇, fun Q' kk => ?_⟩)
    exact meetBad Z hm X₇ S₇ rfl ((run_name_raw (s := { s with heap := h₇, toks := _ }) (d := .int rw) X₇ S₇ (cellAt_of Y hrw rfl rfl) dv trivial).bad (fun v g ⟨h1, _⟩ => by cases h1) fun msg _ => starts_nil msg) kk
  exact k h₉ tk₉ ps₉ g₉ (fun p hp => hs₉ _ (hs₈ _ hp)) x₉
set_option maxHeartbeats 2000000 in
theorem partD {Q : Flow → Shared → Prop} {vM : Value} {MS : List (Str × Bool × Option (List Str))} (Z : LX A mg mb h₀ L a c P oc) (hm : mg (fdAt 22).name = some (.ref am)) (x : LS h₀ L gi c P [] m cm cells ps g s.heap)
    (hM : m "names" = some vM) (DM : DL g vM (.list (MS.map nameQ))) (hF : ∀ p ∈ MS, NameF p)
    (k : ∀ h' tk m' cm' cells' ps' g', (∀ p ∈ g, p ∈ g') → (∀ y : Str, y ≠ "place" → y ≠ "sound" → y ≠ "ops" → m' y = m y) → (∀ y : Str, y ≠ "label" → cm' y = cm y) → LS h₀ L gi c P [] m' cm' cells' ps' g' h' →
      wpAny (model prog w) (A.deeper (envL L a c)) (execs ((fdAt 23).body.drop 10) (envL L a c)) Q E { s with heap := h', toks := tk }) :
    wpAny (model prog w) (A.deeper (envL L a c)) (execs ((fdAt 23).body.drop 9) (envL L a c)) Q E s := by
  conv in (List.drop 9 (fdAt 23).body) => whnf
  refine wpAny_execs_cons (wpAny_For (nmL x.S hM (forL (fun i m' u' g' => ∃ cm' cells' ps', u' = cells' ++ [(P, tabO ps')] ∧ CellsAre cm' (clL L) cells' ∧ CdU h₀ c P ps' ∧ TabOk lamQ ps' g' ∧ (∀ y : Str, y ≠ "place" → y ≠ "sound" → y ≠ "ops" → m' y = m y) ∧ ∀ y : Str, y ≠ "label" → cm' y = cm y)
    Z.ok.hd x.S DM ⟨cm, cells, ps, rfl, x.Y, x.K, x.T, fun _ _ _ _ => rfl, fun _ _ => rfl⟩ (lets_tuple _ _ _) ?_ ?_)))
  · rintro i d v m₁ u₁ g₁ h₁ tk₁ I io hd hv hsub ⟨cm₁, cells₁, ps₁, rfl, Y₁, K₁, T₁, em₁, ec₁⟩ S₁
    obtain ⟨p, hp, rfl⟩ : ∃ p, p ∈ MS ∧ d = nameQ p := by
      rw [List.getElem?_map] at hd
      cases q : MS[i]? with
      | none => rw [q] at hd; cases hd
      | some p => rw [q] at hd; exact ⟨p, List.mem_of_getElem? q, (Option.some.inj hd).symm⟩
    obtain ⟨fn, fo, fs⟩ := hF p hp
    have hv' : DL g₁ v (.tuple [.str p.1, .bool p.2.1, opsD p.2.2]) := hv.mono hsub
    refine unT Z.ok.hd S₁ hv' rfl fun vs₂ h₂ D₂ S₂ => ?_
    cases D₂ with | @cons vt _ _ _ dt D₂ => cases D₂ with | @cons vv _ _ _ dv D₂ => cases D₂ with | @cons vo _ _ _ dop D₂ => cases D₂ with | nil =>
    have S₂' : St h₀ L gi m₁ ([(I, io)] ++ (cells₁ ++ [(P, tabO ps₁)])) g₁ h₂ := S₂
    refine assignInOrder_cons (wpAny_assign_Name (stY (s := { s with heap := h₂, toks := tk₁ }) S₂' Y₁ (fun h₃ cells₃ S₃ Y₃ => assignInOrder_cons (wpAny_assign_Name (stL (s := { s with heap := h₃, toks := tk₁ }) S₃ fun h₄ S₄ => assignInOrder_cons (wpAny_assign_Name (stL (s := { s with heap := h₄, toks := _ }) S₄ fun h₅ S₅ => assignInOrder_nil ?_))))) rfl (clL_nd L)))
    dsimp only
    have cl : upd cm₁ (Str.ofString "label") vt "label" = some vt := rfl
    have ec₃ : ∀ y : Str, y ≠ "label" → upd cm₁ (Str.ofString "label") vt y = cm y := fun y h1 => upd_ne h1 (ec₁ y h1)
    obtain ⟨tt, rfl⟩ : ∃ t, vt = .str p.1 t := by cases dt; exact ⟨_, rfl⟩
    have hb : vv = .bool p.2.1 := by cases dv; rfl
    subst hb
    have dt' : DL [] (.str p.1 tt) (.str p.1) := .str _ _
    refine wpAny_execs_cons (wpAny_Assign_Name (wpAny_Constant_str (stL (s := { s with heap := h₅, toks := _ }) S₅ fun h₆ S₆ => ?_)))
    dsimp only
    refine wpAny_execs_cons (wpAny_If (isTrue_plain (nmL S₆ rfl (wpAny_truthy_bool ?_))))
    -- both roads give the place
    have rest : ∀ (Qf : Flow → Shared → Prop) (m₇ : Str → Option Value) (h₇ : Heap) (tk₇ : Nat) (pv : Value), m₇ "place" = some pv → (pv = .none ∧ p.2.1 = true ∨ (∃ t, pv = .str (Str.ofString "") t) ∧ p.2.1 = false) → (∀ y : Str, y ≠ "place" → y ≠ "sound" → y ≠ "ops" → m₇ y = m y) → St h₀ L gi m₇ ([(I, io)] ++ (cells₃ ++ [(P, tabO ps₁)])) g₁ h₇ →
        wpAny (model prog w) (A.deeper (envL L a c)) (execs ((forBody 9).drop 2) (envL L a c)) (TurnEnd h₀ L gi (fun m'' u g'' => (∀ p ∈ g, p ∈ g'') ∧ ∃ cm' cells' ps', u = cells' ++ [(P, tabO ps')] ∧ CellsAre cm' (clL L) cells' ∧ CdU h₀ c P ps' ∧ TabOk lamQ ps' g'' ∧ (∀ y : Str, y ≠ "place" → y ≠ "sound" → y ≠ "ops" → m'' y = m y) ∧ ∀ y : Str, y ≠ "label" → cm' y = cm y) I io s Qf) (fun _ _ => False) { s with heap := h₇, toks := tk₇ } := by
      intro Qf m₇ h₇ tk₇ pv mp hpv em₇ S₇
      conv in (List.drop 2 (forBody 9)) => whnf
      have x₇ : LS h₀ L gi c P [(I, io)] m₇ (upd cm₁ (Str.ofString "label") (.str p.1 tt)) cells₃ ps₁ g₁ h₇ := ⟨S₇, Y₃, K₁, T₁⟩
      refine lawIf (s := { s with heap := h₇, toks := tk₇ }) Z hm x₇ rfl rfl (fun f ps' g' h₈ tk₈ hs₈ S₈ X₈ => ?_) fun h₉ tk₉ ps₉ g₉ hs₉ x₉ => ?_
      · refine nmL S₈ mp (nmY S₈ Y₃ cl ⟨g', h₈, tk₈, rfl, fun _ hp => hp, S₈, fun Q' kk => ?_⟩)
        have run := run_name_label (prog := prog) (w := w) (mg := mg) (mb := mb) (s := { s with heap := h₈, toks := tk₈ }) (d := .str p.1) X₈ S₈ (cellAt_of Y₃ cl rfl rfl) dt' fn
        rcases hpv with ⟨rfl, hb⟩ | ⟨⟨t, rfl⟩, hb⟩
        · exact meetStr Z hm X₈ S₈ dt' fs (run.ok (fun v g h => h.2) fun msg hB => by rw [fo, hb] at hB; cases hB) kk
        · exact meetBad Z hm X₈ S₈ rfl (run.bad (fun v g h => by have := h.1; rw [fo, hb] at this; cases this) fun msg _ => starts_nil msg) kk
      refine wpAny_execs_nil ?_
      exact TurnEnd.next ⟨fun p hp => hs₉ _ (hsub _ hp), _, cells₃, ps₉, rfl, Y₃, x₉.K, x₉.T, em₇, ec₃⟩ x₉.S
    have em₆ : ∀ (v : Value) (y : Str), y ≠ "place" → y ≠ "sound" → y ≠ "ops" → upd (upd (upd m₁ (Str.ofString "sound") (.bool p.2.1)) (Str.ofString "ops") vo) (Str.ofString "place") v y = m y := fun v y h1 h2 h3 => upd_ne h1 (upd_ne h3 (upd_ne h2 (em₁ y h1 h2 h3)))
    cases hb : p.2.1 with
    | true =>
      refine wpAny_execs_cons (wpAny_Assign_Name (wpAny_Constant_none (stL (s := { s with heap := h₆, toks := _ }) S₆ fun h₇ S₇ => wpAny_execs_nil ?_)))
      dsimp only
      exact rest _ _ h₇ _ .none rfl (.inl ⟨rfl, hb⟩) (fun y h1 h2 h3 => upd_ne h1 (em₆ _ y h1 h2 h3)) S₇
    | false =>
      refine wpAny_execs_nil ?_
      dsimp only
      exact rest _ _ h₆ _ _ rfl (.inr ⟨⟨_, rfl⟩, hb⟩) (em₆ _) S₆
  · rintro m₁ u₁ g₁ h₁ tk₁ hsub ⟨cm₁, cells₁, ps₁, rfl, Y₁, K₁, T₁, em₁, ec₁⟩ S₁
    exact k h₁ tk₁ m₁ cm₁ cells₁ ps₁ g₁ hsub em₁ ec₁ ⟨S₁, Y₁, K₁, T₁⟩
end
end Mine
end
section
open PySem PyProof.Rows PySem.Calls PySem.W
open PyProof.Rows.LCg (NsObj ns_obj)
set_option maxRecDepth 100000
namespace Mine
section
variable {h₀ h h' : Heap} {L : Addr} {gi : Lg} {m : Str → Option Value} {u us g : Lg}
theorem St.addsU (S : St h₀ L gi m u g h) (hx : Ext h h') (hu : ∀ p ∈ us, h'.get? p.1 = some p.2 ∧ h.get? p.1 = none) (nd : (us.map (·.1)).Nodup) : St h₀ L gi m (us ++ u) g h' := by
  have S' := S.ext hx
  refine ⟨S'.fr, fun p hp => ?_, S'.led, fun p hp q hq => ?_, ?_, S.prov⟩
  · rcases List.mem_append.mp hp with hp | hp
    · exact ⟨(hu p hp).1, S.neL (hu p hp).2, S.fresh (hu p hp).2⟩
    · exact S'.un p hp
  · rcases List.mem_append.mp hq with hq | hq
    · intro e
      have := (hu q hq).2
      rw [← e, (S.led p hp).1] at this; cases this
    · exact S.sep p hp q hq
  · rw [List.map_append]
    refine List.nodup_append.mpr ⟨nd, S.nd, fun a ha b hb e => ?_⟩
    obtain ⟨p, hp, rfl⟩ := List.mem_map.mp ha
    obtain ⟨q, hq, rfl⟩ := List.mem_map.mp hb
    have := (hu p hp).2
    rw [e, (S.un q hq).1] at this; cases this
end
def prs (MS : List (Str × Bool × Option (List Str))) (NS : List (Str × Dt)) : List (Dt × Dt) := List.zipWith (fun q p => (Dt.str q.1, p.2)) MS NS
def swp (p : Dt × Dt) : Dt × Dt := (p.2, p.1)
theorem zipD_eq (MS : List (Str × Bool × Option (List Str))) (NS : List (Str × Dt)) : zipD (MS.map nameQ) (NS.map numQ) = List.zipWith (fun q p => .tuple [nameQ q, numQ p]) MS NS := by
  simp [zipD, List.zipWith_map]
section
variable {prog : Program} {w : World} {A : Around} {E : Value → Shared → Prop} {s : Shared} {h₀ : Heap} {L a c P am : Addr} {oc : Obj} {gi : Lg} {m cm mg mb : Str → Option Value} {us u g cells : Lg} {ps : Array Value}
theorem lCopyG {Q : Value → Shared → Prop} {l : Addr} {vs : List Value} {n : Nat} (S : St h₀ L gi m u g s.heap) (hm : (l, lstO vs n) ∈ g) (hz : vs.length ≤ 1000)
    (h : ∀ h' x n', St h₀ L gi m u ((x, lstO vs n') :: g) h' → Q (.ref x) { s with heap := h' }) : wpAny (model prog w) A (call (.type "list") [.ref l]) Q E s := by
  refine call_list_seq l (.inl rfl) (S.led _ hm).1 rfl rfl (fun h' c' hk hS => ?_) (by rw [List.size_toArray]; exact Nat.le_trans hz (by decide))
  have := S.back (g' := [(s.heap.objs.size, lstO vs c')]) hk (fun p hp => by rw [List.mem_singleton.mp hp]; exact hS) (fun p hp => .inr (by rw [List.mem_singleton.mp hp]; exact size_none _))
  exact h h' _ c' this
/-- zip(names[:size], numbers) -/
theorem zipE {Q : Value → Shared → Prop} {p1 p2 p3 p4 p5 p6 p7 : Pos} {vM vN : Value} {MS : List (Str × Bool × Option (List Str))} {NS : List (Str × Dt)} {sz : Nat} {t : Tok} (Z : LX A mg mb h₀ L a c P oc) (S : St h₀ L gi m u g s.heap)
    (hM : m "names" = some vM) (DM : DL g vM (.list (MS.map nameQ))) (hsz : m "size" = some (.int sz t)) (hN : m "numbers" = some vN) (DN : DL g vN (.list (NS.map numQ))) (hz : sz ≤ MS.length) (hl : MS.length ≤ 1000)
    (k : ∀ I us g' P' h' tk, (∀ (es : List Expr) (kk : Nat) (tp : Pos), Src prog w (A.deeper (envL L a c)) (.Tuple es kk tp) I g' (zipD ((MS.take sz).map nameQ) (NS.map numQ)) P') → (∀ p ∈ g, p ∈ g') → P' 0 us → St h₀ L gi m (us ++ u) g' h' → Q (.ref I) { s with heap := h', toks := tk }) :
    wpAny (model prog w) (A.deeper (envL L a c)) (eval (.Call (.Name "zip" p1) [.Subscript (.Name "names" p2) (.Slice none (some (.Name "size" p3)) none p4) p5, .Name "numbers" p6] [] p7) (envL L a c)) (fun x s₁ => wpAny (model prog w) (A.deeper (envL L a c)) (pyIter x) Q E s₁) E s := by
  refine callT "zip" (nmB S Z.W (Z.W.free _ (by decide)) rfl ⟨rfl, wpAny_items_cons (slE (nmL S hM (wpAny_evalPart_none (wpAny_evalPart_some (nmL S hsz ?_)))))⟩)
  refine slK (es := (MS.map nameQ).take sz) S DM (by rw [List.length_map]; exact hl) .none (.int _ _) (fun vs hD => pick_upto sz (by rw [List.length_map]; exact hz) vs hD) fun h₁ x₁ gg S₁ D₁ => ?_
  have DN₁ := DN.mono (g' := gg ++ g) fun p hp => List.mem_append_right _ hp
  refine wpAny_items_cons (nmL S₁ hN (wpAny_items_nil ?_))
  rw [← List.map_take] at D₁
  cases D₁ with
  | @list l1 n1 vs1 _ hl1 hD1 =>
    cases DN₁ with
    | @list l2 n2 vs2 _ hl2 hD2 =>
      refine call_zip_2 (xs := vs1.toArray) (ys := vs2.toArray) ⟨_, (S₁.led _ hl1).1, rfl, _, rfl⟩ ⟨_, (S₁.led _ hl2).1, rfl, _, rfl⟩ fun h₂ z1 z2 z3 z4 z5 z6 hx => ?_
      obtain ⟨o1, r1, r1'⟩ := z4
      obtain ⟨o2, r2, r2'⟩ := z5
      have S₂ : St h₀ L gi m ([(h₁.objs.size + 4, zpO (h₁.objs.size + 2) (h₁.objs.size + 3) .none), (h₁.objs.size + 2, { cls := .type "tuple", data := .seq #[.ref h₁.objs.size, .ref (h₁.objs.size + 1)] }), (h₁.objs.size + 3, { cls := .type "tuple", data := .seq #[.none, .none] }), (h₁.objs.size, o1), (h₁.objs.size + 1, o2)] ++ u) (gg ++ g) h₂ := by
        refine S₁.addsU hx (fun p hp => ?_) ?_
        · simp only [List.mem_cons, List.not_mem_nil, or_false] at hp
          rcases hp with rfl | rfl | rfl | rfl | rfl
          · exact ⟨z1, Heap.get?_none_of_le (by show h₁.objs.size ≤ h₁.objs.size + 4; omega)⟩
          · exact ⟨z2, Heap.get?_none_of_le (by show h₁.objs.size ≤ h₁.objs.size + 2; omega)⟩
          · exact ⟨z3, Heap.get?_none_of_le (by show h₁.objs.size ≤ h₁.objs.size + 3; omega)⟩
          · exact ⟨r1, Heap.get?_none_of_le (by show h₁.objs.size ≤ h₁.objs.size; omega)⟩
          · exact ⟨r2, Heap.get?_none_of_le (by show h₁.objs.size ≤ h₁.objs.size + 1; omega)⟩
        · simp
      exact wpAny_pyIter_zip z1 (k _ _ _ _ h₂ _ (fun _ _ _ => src_zip Z.ok.hd hl1 hl2 hD1 hD2) (fun p hp => List.mem_append_right _ hp) ⟨o1, o2, _, _, rfl, r1', r2'⟩ S₂)
end
end Mine
end
section
open PySem PyProof.Rows PySem.Calls PySem.W
open PyProof.Rows.LCg (NsObj ns_obj)
set_option maxRecDepth 100000
namespace Mine
/-- two lists with the same items, one the twin of the other -/
structure Twin (g : Lg) (a b : Addr) (ds : List Dt) : Prop where
  ex : ∃ vs n n', (a, lstO vs n) ∈ g ∧ (b, lstO vs n') ∈ g ∧ DLs g vs ds
theorem Twin.mono {g g' : Lg} {a b : Addr} {ds : List Dt} (x : Twin g a b ds) (h : ∀ p ∈ g, p ∈ g') : Twin g' a b ds := let ⟨vs, n, n', h1, h2, h3⟩ := x.ex; ⟨vs, n, n', h _ h1, h _ h2, h3.mono h⟩
theorem Twin.left {g : Lg} {a b : Addr} {ds : List Dt} (x : Twin g a b ds) : DL g (.ref a) (.list ds) := let ⟨_, _, _, h1, _, h3⟩ := x.ex; .list h1 h3
theorem Twin.right {g : Lg} {a b : Addr} {ds : List Dt} (x : Twin g a b ds) : DL g (.ref b) (.list ds) := let ⟨_, _, _, _, h2, h3⟩ := x.ex; .list h2 h3
theorem prs_len (MS : List (Str × Bool × Option (List Str))) (NS : List (Str × Dt)) : (prs MS NS).length ≤ MS.length := by simp [prs]; omega
section
variable {prog : Program} {w : World} {A : Around} {E : Value → Shared → Prop} {s : Shared} {h₀ : Heap} {L a c P am : Addr} {oc : Obj} {gi : Lg} {m cm mg mb : Str → Option Value} {us u g cells : Lg} {ps : Array Value}
set_option maxHeartbeats 2000000 in
theorem partE {Q : Flow → Shared → Prop} {vM vN : Value} {MS : List (Str × Bool × Option (List Str))} {NS : List (Str × Dt)} {sz : Nat} {t : Tok} (Z : LX A mg mb h₀ L a c P oc) (x : LS h₀ L gi c P [] m cm cells ps g s.heap)
    (hM : m "names" = some vM) (DM : DL g vM (.list (MS.map nameQ))) (hsz : m "size" = some (.int sz t)) (hN : m "numbers" = some vN) (DN : DL g vN (.list (NS.map numQ))) (hz : sz ≤ MS.length) (hl : MS.length ≤ 100)
    (k : ∀ h' tk m' cm' cells' g' a1 a2 b1 b2 vt, (∀ p ∈ g, p ∈ g') → (∀ y : Str, y ≠ "pairs_twin" → y ≠ "orders_twin" → y ≠ "stock_place" → y ≠ "orders_place" → y ≠ "taken" → m' y = m y) → (∀ y : Str, y ≠ "pairs" → y ≠ "orders" → cm' y = cm y) →
      cm' "pairs" = some (.ref a1) → cm' "orders" = some (.ref b1) → m' "pairs_twin" = some (.ref a2) → m' "orders_twin" = some (.ref b2) → m' "stock_place" = some .none → m' "orders_place" = some .none → m' "taken" = some vt → DL g' vt (.list []) →
      Twin g' a1 a2 ((prs (MS.take sz) NS).map pairQ) → Twin g' b1 b2 (((prs (MS.take sz) NS).map swp).map pairQ) → LS h₀ L gi c P [] m' cm' cells' ps g' h' →
      wpAny (model prog w) (A.deeper (envL L a c)) (execs ((fdAt 23).body.drop 17) (envL L a c)) Q E { s with heap := h', toks := tk }) :
    wpAny (model prog w) (A.deeper (envL L a c)) (execs ((fdAt 23).body.drop 10) (envL L a c)) Q E s := by
  have Y := x.Y
  have S := x.S
  have hPl := prs_len (MS.take sz) NS
  rw [List.length_take] at hPl
  conv in (List.drop 10 (fdAt 23).body) => whnf
  refine wpAny_execs_cons (wpAny_Assign_Name ?_ ?_)
  rotate_left
  · rfl
  refine compE (h₀ := h₀) (L := L) (gi := gi) (m := m) none (fun _ => True) ((prs (MS.take sz) NS).map pairQ) (fun _ _ _ => False) (by decide) (by decide) rfl (by decide) (zipE Z S hM DM hsz hN DN hz (by omega) fun I us₁ g₁ P₁ h₁ tk₁ src hs₁ hP₁ S₁ => ?_)
  refine ⟨I, us₁, [] ++ (cells ++ [(P, tabO ps)]), g₁, _, P₁, rfl, src _ _ _, S₁, hP₁, trivial, by simp [zipD, prs], by simp [zipD]; omega, (fun C x s' _ h => h.elim), ?_, ?_⟩
  · intro i d e v C oC mC D n ys us' g' h tk hd he hv hsub _ hC S₂ hN₂
    rw [zipD_eq, List.getElem?_zipWith_eq_some] at hd
    obtain ⟨q, p, hq, hp, rfl⟩ := hd
    rw [prs, List.getElem?_map] at he
    obtain ⟨e', he', rfl⟩ := Option.map_eq_some_iff.mp he
    rw [List.getElem?_zipWith_eq_some] at he'
    obtain ⟨q', p', hq', hp', rfl⟩ := he'
    rw [hq] at hq'; cases hq'
    rw [hp] at hp'; cases hp'
    refine unT Z.ok.hd S₂ hv rfl fun vs₃ h₃ D₃ S₃ => ?_
    cases D₃ with | @cons v1 _ _ _ d1 D₃ => cases D₃ with | @cons v2 _ _ _ d2 D₃ => cases D₃ with | nil =>
    refine assignInOrder_cons (wpAny_assign_Name (stK S₃ hN₂ fun h₄ oC₄ S₄ N₄ => assignInOrder_cons (wpAny_assign_Name (stK S₄ N₄ fun h₅ oC₅ S₅ N₅ => assignInOrder_nil ?_))))
    dsimp only
    have d1' : DL g' v1 (.tuple [.str q.1, .bool q.2.1, opsD q.2.2]) := d1
    have d2' : DL g' v2 (.tuple [.str p.1, p.2]) := d2
    refine Tuple_ (wpAny_items_cons (Subscript_ (nmK S₅ N₅ rfl (wpAny_Constant_int (sbT (i := 0) S₅ d1' rfl (by simp) fun x1 D1 => wpAny_items_cons (Subscript_ (nmK S₅ N₅ rfl (wpAny_Constant_int (sbT (i := 1) S₅ d2' rfl (by simp) fun x2 D2 => wpAny_items_nil (mkTup S₅ (by simp) fun h₆ b S₆ => ?_))))))))))
    exact ⟨oC₅, _, _, h₆, _, rfl, N₅, fun p hp => .tail _ hp, trivial, .tuple (.head _) rfl rfl (.cons (D1.mono fun p hp => .tail _ hp) (.cons (D2.mono fun p hp => .tail _ hp) .nil)), S₆⟩
  intro D₁ n₁ ys₁ g₂ h₂ tk₂ _ hys₁ hs₂ _ S₂
  have S₃ := S₂.freeze
  have hys₁' : DLs g₂ ys₁ ((prs (MS.take sz) NS).map pairQ) := hys₁
  have hl₁ : ys₁.length ≤ 1000 := by rw [hys₁'.length, List.length_map]; omega
  refine stY (s := { s with heap := h₂, toks := tk₂ }) S₃ Y (fun h₃ cells₃ S₃ Y₃ => ?_) rfl (clL_nd L)
  dsimp only
  clear S₂
  have cp : upd cm (Str.ofString "pairs") (.ref D₁) "pairs" = some (.ref D₁) := rfl
  refine wpAny_execs_cons (wpAny_Assign_Name (callT "list" (nmB S₃ Z.W (Z.W.free _ (by decide)) rfl ⟨rfl, wpAny_items_cons (nmY S₃ Y₃ cp (wpAny_items_nil (lCopyG (s := { s with heap := h₃, toks := _ }) S₃ (.head _) hl₁ fun h₄ D₂ n₂ S₄ => stL (s := { s with heap := h₄, toks := _ }) S₄ fun h₅ S₅ => ?_)))⟩)))
  dsimp only
  have DP : DL ((D₂, lstO ys₁ n₂) :: (D₁, lstO ys₁ n₁) :: g₂) (.ref D₁) (.list ((prs (MS.take sz) NS).map pairQ)) := .list (.tail _ (.head _)) (hys₁'.mono fun p hp => .tail _ (.tail _ hp))
  have hDP : DLs ((D₂, lstO ys₁ n₂) :: (D₁, lstO ys₁ n₁) :: g₂) ys₁ ((prs (MS.take sz) NS).map pairQ) := hys₁'.mono fun p hp => .tail _ (.tail _ hp)
  have hDm : (D₁, lstO ys₁ n₁) ∈ (D₂, lstO ys₁ n₂) :: (D₁, lstO ys₁ n₁) :: g₂ := .tail _ (.head _)
  have hDm₂ : (D₂, lstO ys₁ n₂) ∈ (D₂, lstO ys₁ n₂) :: (D₁, lstO ys₁ n₁) :: g₂ := .head _
  have hs₅ : ∀ p ∈ g, p ∈ (D₂, lstO ys₁ n₂) :: (D₁, lstO ys₁ n₁) :: g₂ := fun p hp => .tail _ (.tail _ (hs₂ _ (hs₁ _ hp)))
  generalize (D₂, lstO ys₁ n₂) :: (D₁, lstO ys₁ n₁) :: g₂ = g₅ at *
  clear S₃ S₄ S₁ src hys₁ hys₁' hs₂ hs₁
  refine wpAny_execs_cons (wpAny_Assign_Name ?_ ?_)
  rotate_left
  · rfl
  refine compE (h₀ := h₀) (L := L) (gi := gi) (m := upd m (Str.ofString "pairs_twin") (.ref D₂)) none (fun _ => True) (((prs (MS.take sz) NS).map swp).map pairQ) (fun _ _ _ => False) (by decide) (by decide) rfl (by decide) (nmY S₅ Y₃ cp ?_)
  refine wpAny_pyIter_list ⟨_, (S₅.led _ hDm).1, rfl, _, rfl⟩ ?_
  have S₆ := S₅.pushU { cls := .type "list_iterator", data := .fields #[.ref D₁, .int 0 0] }
  refine ⟨_, [(h₅.objs.size, { cls := .type "list_iterator", data := .fields #[.ref D₁, .int 0 0] })], [] ++ (cells₃ ++ [(P, tabO ps)]), g₅, _, liP _ D₁, rfl, src_list Z.ok.hd hDm hDP (lets_tuple _ _ _), S₆, ⟨_, rfl, rfl, rfl⟩, trivial, by simp, by rw [List.length_map]; omega, (fun C x s' _ h => h.elim), ?_, ?_⟩
  · intro i d e v C oC mC D n ys us' g' h tk hd he hv hsub _ hC S₂ hN₂
    rw [List.getElem?_map] at hd
    obtain ⟨p, hp, rfl⟩ := Option.map_eq_some_iff.mp hd
    rw [List.getElem?_map, List.getElem?_map, hp] at he
    have he' : pairQ (swp p) = e := Option.some.inj he
    subst he'
    have hv' : DL g' v (.tuple [p.1, p.2]) := hv
    refine unT Z.ok.hd S₂ hv' rfl fun vs₃ h₃ D₃ S₃ => ?_
    cases D₃ with | @cons v1 _ _ _ d1 D₃ => cases D₃ with | @cons v2 _ _ _ d2 D₃ => cases D₃ with | nil =>
    refine assignInOrder_cons (wpAny_assign_Name (stK S₃ hN₂ fun h₄ oC₄ S₄ N₄ => assignInOrder_cons (wpAny_assign_Name (stK S₄ N₄ fun h₅ oC₅ S₅ N₅ => assignInOrder_nil ?_))))
    dsimp only
    refine Tuple_ (wpAny_items_cons (nmK S₅ N₅ rfl (wpAny_items_cons (nmK S₅ N₅ rfl (wpAny_items_nil (mkTup S₅ (by simp) fun h₆ b S₆ => ?_))))))
    exact ⟨oC₅, _, _, h₆, _, rfl, N₅, fun p hp => .tail _ hp, trivial, .tuple (.head _) rfl rfl (.cons (d2.mono fun p hp => .tail _ hp) (.cons (d1.mono fun p hp => .tail _ hp) .nil)), S₆⟩
  intro O₁ k₁ zs g₆ h₆ tk₆ _ hzs hs₆ _ S₆
  have hzs' : DLs g₆ zs (((prs (MS.take sz) NS).map swp).map pairQ) := hzs
  have S₇ := S₆.freeze
  have hl₂ : zs.length ≤ 1000 := by rw [hzs'.length, List.length_map, List.length_map]; omega
  refine stY S₇ Y₃ (fun h₈ cells₈ S₈ Y₈ => ?_) rfl (clL_nd L)
  dsimp only
  have co : upd (upd cm (Str.ofString "pairs") (.ref D₁)) (Str.ofString "orders") (.ref O₁) "orders" = some (.ref O₁) := rfl
  refine wpAny_execs_cons (wpAny_Assign_Name (callT "list" (nmB S₈ Z.W (Z.W.free _ (by decide)) rfl ⟨rfl, wpAny_items_cons (nmY S₈ Y₈ co (wpAny_items_nil (lCopyG S₈ (.head _) hl₂ fun h₉ O₂ k₂ S₉ => stL S₉ fun h₁₀ S₁₀ => ?_)))⟩)))
  dsimp only
  refine wpAny_execs_cons (wpAny_Assign_Name (wpAny_Constant_none (stL S₁₀ fun h₁₁ S₁₁ => ?_)))
  dsimp only
  refine wpAny_execs_cons (wpAny_Assign_Name (wpAny_Constant_none (stL S₁₁ fun h₁₂ S₁₂ => ?_)))
  dsimp only
  refine wpAny_execs_cons (wpAny_Assign_Name (List_ (wpAny_items_nil (mkLst S₁₂ (by simp) fun h₁₃ vt S₁₃ => stL S₁₃ fun h₁₄ S₁₄ => ?_))))
  dsimp only
  have hs : ∀ p ∈ g₅, p ∈ (vt, lstO [] 0) :: (O₂, lstO zs k₂) :: (O₁, lstO zs k₁) :: g₆ := fun p hp => .tail _ (.tail _ (.tail _ (hs₆ _ hp)))
  refine k _ _ _ _ cells₈ _ D₁ D₂ O₁ O₂ (.ref vt) (fun p hp => hs _ (hs₅ _ hp)) (fun y h1 h2 h3 h4 h5 => upd_ne h5 (upd_ne h4 (upd_ne h3 (upd_ne h2 (upd_ne h1 rfl))))) (fun y h1 h2 => upd_ne h2 (upd_ne h1 rfl)) rfl rfl rfl rfl rfl rfl rfl (.list (.head _) .nil)
    ⟨ys₁, n₁, n₂, hs _ hDm, hs _ hDm₂, hDP.mono hs⟩ ⟨zs, k₁, k₂, .tail _ (.tail _ (.head _)), .tail _ (.head _), hzs'.mono fun p hp => .tail _ (.tail _ (.tail _ hp))⟩ ⟨S₁₄, Y₈, x.K, x.T.mono fun p hp => hs _ (hs₅ _ hp)⟩
end
end Mine
end
section
open PySem PyProof.Rows PySem.Calls PySem.W
set_option maxRecDepth 100000
namespace Mine
/-- a place: None where all is well -/
def SP (B : Prop) (v : Value) : Prop := (B ∧ v = .none) ∨ (¬ B ∧ ∃ t, v = .str (Str.ofString "") t)
theorem SP.iff {B B' : Prop} {v : Value} (h : SP B v) (e : B ↔ B') : SP B' v := by
  rcases h with ⟨h, r⟩ | ⟨h, r⟩
  · exact .inl ⟨e.mp h, r⟩
  · exact .inr ⟨fun q => h (e.mpr q), r⟩
theorem ofPs_str (xs : List Str) : ofPs (xs.map .str) = xs.map Dt.str := by
  induction xs with
  | nil => rfl
  | cons x r ih => simp [ofPs, ofP, ih]
theorem lay_strs {xs : List Str} (h : ∀ x ∈ xs, PyData.strOk x = true) : PyData.canLayAll0 (xs.map .str) = true := by
  induction xs with
  | nil => simp [PyData.canLayAll0]
  | cons x r ih => simp [PyData.canLayAll0, PyData.canLay0, h x (.head _)]; exact ih fun y hy => h y (.tail _ hy)
theorem any_strs (xs : List Str) (y : Str) : ((xs.map PyData.str).any fun z => PyData.eqv z (.str y)) = decide (y ∈ xs) := by
  induction xs with
  | nil => simp
  | cons x r ih =>
    rw [List.map_cons, List.any_cons, ih]
    by_cases e : x = y
    · subst e; simp [PyData.eqv]
    · have e' : ¬ y = x := fun q => e q.symm
      simp [PyData.eqv, e, e']
section
variable {prog : Program} {w : World} {A : Around} {E : Value → Shared → Prop} {s : Shared} {h₀ : Heap} {L a c P am : Addr} {oc : Obj} {gi : Lg} {m cm mg mb : Str → Option Value} {us u g cells : Lg} {ps : Array Value}
/-- text in a list of texts -/
theorem inG {Q : Value → Shared → Prop} {k : Nat} {kv lv : Value} {xs : List Str} {y : Str} (hA : OkA A k) (S : St h₀ L gi m u g s.heap) (D : DL g lv (.list (xs.map .str))) (Dk : DL g kv (.str y)) (hxs : ∀ x ∈ xs, PyData.strOk x = true) (hy : PyData.strOk y = true)
    (h : Q (.bool (decide (y ∈ xs))) s) : wpAny (model prog w) A (compareOp .In kv lv) Q E s := by
  have D' : DL g lv (ofP (.list (xs.map .str))) := by simp only [ofP, ofPs_str]; exact D
  have Dk' : DL g kv (ofP (.str y)) := Dk
  obtain ⟨as, ra⟩ := D'.reads S.at
  obtain ⟨bs, rk⟩ := Dk'.reads S.at
  refine PySem.SeqAt.in_list_reads ra rk (lay_strs hxs) (by simp [PyData.canLay0, hy]) (by have := hA.un; have := Nat.min_le_right (PyData.depthAll (xs.map .str)) (PyData.str y).depth; simp [PyData.depth] at *; omega) ?_
  rw [any_strs]; exact h
theorem setIf {Q : Flow → Shared → Prop} {x : Str} {test : Expr} {k1 : Nat} {p1 p2 p3 p4 : Pos} {rest : List Stmt} {v : Value} {B : Prop} {b : Bool} (_S : St h₀ L gi m u g s.heap) (hv : m x = some v) (hs : SP B v)
    (ht : ∀ (Q' : Bool → Shared → Prop), (∀ h' tk, St h₀ L gi m u g h' → Q' b { s with heap := h', toks := tk }) → wpAny (model prog w) (A.deeper (envL L a c)) (isTrue test (envL L a c) (eval test (envL L a c))) Q' E s)
    (k : ∀ m' v' h' tk, m' x = some v' → SP (B ∧ b = false) v' → (∀ y : Str, y ≠ x → m' y = m y) → St h₀ L gi m' u g h' → wpAny (model prog w) (A.deeper (envL L a c)) (execs rest (envL L a c)) Q E { s with heap := h', toks := tk })
    (hx : (envL L a c).kindOf x = some .local := by rfl) :
    wpAny (model prog w) (A.deeper (envL L a c)) (execs (.If test [.Assign [.Name x p1] (.Constant (.str "") k1 p2) p3] [] p4 :: rest) (envL L a c)) Q E s := by
  refine wpAny_execs_cons (wpAny_If (ht _ fun h' tk S' => ?_))
  cases b with
  | true =>
    refine wpAny_execs_cons (wpAny_Assign_Name (wpAny_Constant_str (stL S' (fun h'' S'' => wpAny_execs_nil ?_) rfl hx)) rfl)
    exact k _ _ h'' _ upd_eq (.inr ⟨fun q => (by cases q.2), _, rfl⟩) (fun y hy => upd_ne hy rfl) S''
  | false =>
    refine wpAny_execs_nil ?_
    exact k m v h' tk hv (hs.iff ⟨fun q => ⟨q, rfl⟩, fun q => q.1⟩) (fun _ _ => rfl) S'
/-- _law_place(e1, e2) is not None -/
theorem placeT {Q : Bool → Shared → Prop} {e1 e2 : Expr} {p1 p2 p3 p4 : Pos} {kk : Nat} {d : Dt} {lo : Int} {whole : Sem Value} (Z : LX A mg mb h₀ L a c P oc) (S : St h₀ L gi m u g s.heap) (hd : Scalar d)
    (h1 : ∀ (Q' : Value → Shared → Prop) (s' : Shared), St h₀ L gi m u g s'.heap → (∀ v tk, DL [] v d → Q' v { s' with toks := tk }) → wpAny (model prog w) (A.deeper (envL L a c)) (eval e1 (envL L a c)) Q' E s')
    (h2 : ∀ (Q' : Value → Shared → Prop) (s' : Shared), St h₀ L gi m u g s'.heap → (∀ t tk, Q' (.int lo t) { s' with toks := tk }) → wpAny (model prog w) (A.deeper (envL L a c)) (eval e2 (envL L a c)) Q' E s')
    (k : ∀ h' tk, St h₀ L gi m u g h' → Q (!withinD d lo) { s with heap := h', toks := tk })
    (hs1 : starEach [e1, e2] (envL L a c) = (false, eval e1 (envL L a c)) :: starEach [e2] (envL L a c) := by rfl) (hs2 : starEach [e2] (envL L a c) = (false, eval e2 (envL L a c)) :: starEach [] (envL L a c) := by rfl) :
    wpAny (model prog w) (A.deeper (envL L a c)) (isTrue (.Compare (.Call (.Name "_law_place" p1) [e1, e2] [] p2) [.IsNot] [.Constant .none kk p3] p4) (envL L a c) whole) Q E s := by
  obtain ⟨ap, op, pmp, cdp, dcp, ep, fp⟩ := Z.W.fn 19 (by decide)
  refine wpAny_isTrue_Compare1 (callU (o := op) (fd := docF 19 pmp cdp dcp) (nmG S Z.W ep ⟨rfl, wpAny_items_cons (h1 _ _ S fun v tk D => wpAny_items_cons (h2 _ _ S fun t tk' => wpAny_items_nil ⟨⟨S.fr.keep _ _ fp.at_, fp.d⟩, ?_⟩) hs2) hs1⟩) hs1)
  refine law_place_spec (s := { s with heap := s.heap, toks := tk' }) (Z.ok.less (by omega)) (Z.W.keeps S.fr.keep) ep D (.inr hd) fun v' h' tk'' hx D' => ?_
  refine wpAny_Constant_none ?_
  cases hw : withinD d lo with
  | true =>
    rw [hw] at D' k
    have : v' = .none := by cases D'; rfl
    subst this
    exact wpAny_isNot_self rfl (wpAny_truthy_bool (k h' tk'' (S.ext hx)))
  | false =>
    rw [hw] at D' k
    have D'' : DL [] v' (.str (Str.ofString "")) := D'
    cases D''
    exact wpAny_isNot_other rfl (by intro h; cases h) (wpAny_truthy_bool (k h' tk'' (S.ext hx)))
theorem okPair_eq {q : Str × Bool × Option (List Str)} {d : Dt} (hf : NameF q) : okPair (.str q.1, d) = (q.2.1 && withinD d 1) := by
  simp only [okPair, hf.ok]
  congr 1
  cases hw : withinD d 1 with
  | true => obtain ⟨n, _, e⟩ := chk_ok hw; rw [e]
  | false =>
    have := chk_bad hw
    cases e : chk d 1 with
    | ok n => exact absurd e (this n)
    | error m => rfl
theorem okOrd_eq {q : Str × Bool × Option (List Str)} {d : Dt} (hf : NameF q) : okOrd (swp (.str q.1, d)) = (withinD d (-1000000000000000000) && q.2.1) := by
  simp only [okOrd, swp, hf.ok]
  congr 1
  cases hw : withinD d (-1000000000000000000) with
  | true => obtain ⟨n, _, e⟩ := chk_ok hw; rw [e]
  | false =>
    have := chk_bad hw
    cases e : chk d (-1000000000000000000) with
    | ok n => exact absurd e (this n)
    | error m => rfl
theorem stock_step {qs : List (Dt × Dt)} {p : Dt × Dt} {i : Nat} (h : qs[i]? = some p) : okStock (qs.take (i + 1)) ↔ okStock (qs.take i) ∧ okPair p = true ∧ keyD p.1 ∉ (qs.take i).map (fun p => keyD p.1) := by
  have e : qs.take (i + 1) = qs.take i ++ [p] := by rw [List.take_add_one, h]; rfl
  constructor
  · intro ho
    have h1 : okStock (qs.take i) := by have := ok_take ho i; rw [List.take_take, Nat.min_eq_left (by omega)] at this; exact this
    rw [e, ok_snoc h1] at ho
    exact ⟨h1, ho⟩
  · rintro ⟨h1, h2⟩
    rw [e, ok_snoc h1]; exact h2
set_option maxHeartbeats 2000000 in
theorem partF {Q : Flow → Shared → Prop} {vM vN vt : Value} {MS : List (Str × Bool × Option (List Str))} {NS : List (Str × Dt)} {sz : Nat} {t : Tok} (Z : LX A mg mb h₀ L a c P oc) (x : LS h₀ L gi c P [] m cm cells ps g s.heap)
    (hM : m "names" = some vM) (DM : DL g vM (.list (MS.map nameQ))) (hsz : m "size" = some (.int sz t)) (hN : m "numbers" = some vN) (DN : DL g vN (.list (NS.map numQ))) (hz : sz ≤ MS.length) (hl : MS.length ≤ 100) (hsc : ∀ p ∈ NS, Scalar p.2) (hF : ∀ q ∈ MS, NameF q)
    (hs1 : m "stock_place" = some .none) (hs2 : m "orders_place" = some .none) (hs3 : m "taken" = some vt) (Dt0 : DL g vt (.list []))
    (k : ∀ h' tk m' g' v1 v2, (∀ p ∈ g, p ∈ g') → (∀ y : Str, y ≠ "stock_place" → y ≠ "orders_place" → y ≠ "taken" → y ≠ "name" → y ≠ "number" → m' y = m y) →
      m' "stock_place" = some v1 → SP (okStock (prs (MS.take sz) NS)) v1 → m' "orders_place" = some v2 → SP (∀ p ∈ (prs (MS.take sz) NS).map swp, okOrd p = true) v2 → LS h₀ L gi c P [] m' cm cells ps g' h' →
      wpAny (model prog w) (A.deeper (envL L a c)) (execs ((fdAt 23).body.drop 18) (envL L a c)) Q E { s with heap := h', toks := tk }) :
    wpAny (model prog w) (A.deeper (envL L a c)) (execs ((fdAt 23).body.drop 17) (envL L a c)) Q E s := by
  have S := x.S
  obtain ⟨tmst, emst⟩ := Z.W.const ("_law_most", 1000000000000000000) (by decide)
  dsimp only at emst
  conv in (List.drop 17 (fdAt 23).body) => whnf
  refine wpAny_execs_cons (wpAny_For (zipE Z S hM DM hsz hN DN hz (by omega) fun I us₁ g₁ P₁ h₁ tk₁ src hs₁ hP₁ S₁ => ?_))
  generalize hMS : MS.take sz = M at *
  have hFM : ∀ q ∈ M, NameF q := fun q hq => hF q (by rw [← hMS] at hq; exact List.mem_of_mem_take hq)
  have hMl : M.length ≤ 100 := by rw [← hMS, List.length_take]; omega
  refine forS (s := { s with heap := h₁, toks := tk₁ }) (fun _ _ => False) (fun _ _ h => h.elim)
    (fun i m' u' g' => ∃ v1 v2 v3, u' = cells ++ [(P, tabO ps)] ∧ (∀ y : Str, y ≠ "stock_place" → y ≠ "orders_place" → y ≠ "taken" → y ≠ "name" → y ≠ "number" → m' y = m y) ∧
      m' "stock_place" = some v1 ∧ SP (okStock ((prs M NS).take i)) v1 ∧ m' "orders_place" = some v2 ∧ SP (∀ p ∈ ((prs M NS).map swp).take i, okOrd p = true) v2 ∧ m' "taken" = some v3 ∧ DL g' v3 (.list (((M.take i).map (·.1)).map .str)))
    (src _ _ _) S₁ hP₁ ⟨_, _, vt, rfl, fun _ _ _ _ _ _ => rfl, hs1, .inl ⟨⟨(fun p hp => by simp at hp), by simp⟩, rfl⟩, hs2, .inl ⟨fun p hp => by simp at hp, rfl⟩, hs3, Dt0.mono hs₁⟩ ?_ ?_
  · rintro i d v m₂ u₂ us₂ g₂ h₂ tk₂ hd hv hsub ⟨g₀, hg0, hg0', v1, v2, v3, rfl, em, q1, s1, q2, s2, q3, D3⟩ hP₂ S₂
    rw [zipD_eq, List.getElem?_zipWith_eq_some] at hd
    obtain ⟨q, p, hq, hp, rfl⟩ := hd
    have hqm := hFM q (List.mem_of_getElem? hq)
    have hpr : (prs M NS)[i]? = some (.str q.1, p.2) := by rw [prs, List.getElem?_zipWith_eq_some]; exact ⟨q, p, hq, hp, rfl⟩
    have fs : Scalar p.2 := hsc p (List.mem_of_getElem? hp)
    have D3' : DL g₂ v3 (.list (((M.take i).map (·.1)).map .str)) := D3.mono hg0'
    refine unT Z.ok.hd S₂ hv rfl fun vs₃ h₃ D₃ S₃ => ?_
    cases D₃ with | @cons x1 _ _ _ d1 D₃ => cases D₃ with | @cons x2 _ _ _ d2 D₃ => cases D₃ with | nil =>
    refine assignInOrder_cons (wpAny_assign_Name (stL S₃ fun h₄ S₄ => assignInOrder_cons (wpAny_assign_Name (stL S₄ fun h₅ S₅ => assignInOrder_nil ?_))))
    dsimp only
    have d1' : DL g₂ x1 (.tuple [.str q.1, .bool q.2.1, opsD q.2.2]) := d1
    have d2' : DL g₂ x2 (.tuple [.str p.1, p.2]) := d2
    obtain ⟨m₅, hm₅⟩ : ∃ m₅, upd (upd m₂ (Str.ofString "name") x1) (Str.ofString "number") x2 = m₅ := ⟨_, rfl⟩
    have n1 : m₅ "name" = some x1 := by rw [← hm₅]; rfl
    have n2 : m₅ "number" = some x2 := by rw [← hm₅]; rfl
    have w1 : m₅ "stock_place" = some v1 := by rw [← hm₅]; exact upd_ne (by decide) (upd_ne (by decide) q1)
    have w2 : m₅ "orders_place" = some v2 := by rw [← hm₅]; exact upd_ne (by decide) (upd_ne (by decide) q2)
    have w3 : m₅ "taken" = some v3 := by rw [← hm₅]; exact upd_ne (by decide) (upd_ne (by decide) q3)
    have em₅ : ∀ y : Str, y ≠ "stock_place" → y ≠ "orders_place" → y ≠ "taken" → y ≠ "name" → y ≠ "number" → m₅ y = m y := fun y a1 a2 a3 a4 a5 => by rw [← hm₅]; exact upd_ne a5 (upd_ne a4 (em y a1 a2 a3 a4 a5))
    rw [hm₅] at S₅
    clear hm₅ S₄ S₃ S₂
    -- behind the first test
    have rest : ∀ (Qf : Flow → Shared → Prop) (m₆ : Str → Option Value) (h₆ : Heap) (tk₆ : Nat) (v1 v2 : Value), m₆ "stock_place" = some v1 → SP (okStock ((prs M NS).take i) ∧ q.2.1 = true) v1 → m₆ "orders_place" = some v2 → SP ((∀ p ∈ ((prs M NS).map swp).take i, okOrd p = true) ∧ q.2.1 = true) v2 →
        (∀ y : Str, y ≠ "stock_place" → y ≠ "orders_place" → m₆ y = m₅ y) → St h₀ L gi m₆ (us₂ ++ (cells ++ [(P, tabO ps)])) g₂ h₆ →
        wpAny (model prog w) (A.deeper (envL L a c)) (execs ((forBody 17).drop 1) (envL L a c)) (TurnS { s with heap := h₁, toks := tk₁ } h₀ L gi (fun m₂ u₂ g₃ => ∃ v1 v2 v3, u₂ = cells ++ [(P, tabO ps)] ∧ (∀ y : Str, y ≠ "stock_place" → y ≠ "orders_place" → y ≠ "taken" → y ≠ "name" → y ≠ "number" → m₂ y = m y) ∧
            m₂ "stock_place" = some v1 ∧ SP (okStock ((prs M NS).take (i + 1))) v1 ∧ m₂ "orders_place" = some v2 ∧ SP (∀ p ∈ ((prs M NS).map swp).take (i + 1), okOrd p = true) v2 ∧ m₂ "taken" = some v3 ∧ DL g₃ v3 (.list (((M.take (i + 1)).map (·.1)).map .str))) g₂ us₂ Qf) (fun _ _ => False) { s with heap := h₆, toks := tk₆ } := by
      intro Qf m₆ h₆ tk₆ v1 v2 r1 t1 r2 t2 e6 S₆
      conv in (List.drop 1 (forBody 17)) => whnf
      have n1₆ : m₆ "name" = some x1 := (e6 _ (by decide) (by decide)).trans n1
      have n2₆ : m₆ "number" = some x2 := (e6 _ (by decide) (by decide)).trans n2
      have n3₆ : m₆ "taken" = some v3 := (e6 _ (by decide) (by decide)).trans w3
      refine setIf (s := { s with heap := h₆, toks := tk₆ }) (b := decide (q.1 ∈ (M.take i).map (·.1))) S₆ r1 t1 (fun Q' hq' => ?_) fun m₇ v1' h₇ tk₇ r1' t1' e7 S₇ => ?_
      · refine wpAny_isTrue_Compare1 (Subscript_ (nmL S₆ n1₆ (wpAny_Constant_int (sbT (i := 0) S₆ d1' rfl (by simp) fun y1 Y1 => nmL S₆ n3₆ (inG (s := { s with heap := h₆, toks := _ }) Z.ok S₆ D3' Y1 (fun z hz' => ?_) hqm.str (wpAny_truthy_bool (hq' _ _ S₆)))))))
        obtain ⟨q', hq'', rfl⟩ := List.mem_map.mp hz'
        exact (hFM q' (List.mem_of_mem_take hq'')).str
      have n2₇ : m₇ "number" = some x2 := (e7 _ (by decide)).trans n2₆
      refine setIf (s := { s with heap := h₇, toks := tk₇ }) (b := !withinD p.2 1) S₇ r1' t1' (fun Q' hq' => placeT (s := { s with heap := h₇, toks := tk₇ }) (d := p.2) (lo := 1) Z S₇ fs (fun Q'' s' S' qq => Subscript_ (nmL S' n2₇ (wpAny_Constant_int (sbT (i := 1) S' d2' rfl (by simp) fun y1 Y1 => qq _ _ (Y1.bare fs))))) (fun Q'' s' S' qq => wpAny_Constant_int (qq _ _)) hq') fun m₈ v1'' h₈ tk₈ r1'' t1'' e8 S₈ => ?_
      have n2₈ : m₈ "number" = some x2 := (e8 _ (by decide)).trans n2₇
      have r2₈ : m₈ "orders_place" = some v2 := (e8 _ (by decide)).trans ((e7 _ (by decide)).trans r2)
      refine setIf (s := { s with heap := h₈, toks := tk₈ }) (b := !withinD p.2 (-1000000000000000000)) S₈ r2₈ t2 (fun Q' hq' => placeT (s := { s with heap := h₈, toks := tk₈ }) (d := p.2) (lo := -1000000000000000000) Z S₈ fs (fun Q'' s' S' qq => Subscript_ (nmL S' n2₈ (wpAny_Constant_int (sbT (i := 1) S' d2' rfl (by simp) fun y1 Y1 => qq _ _ (Y1.bare fs))))) (fun Q'' s' S' qq => wpAny_UnaryOp (nmG S' Z.W emst (neg_int (qq _ _)))) hq') fun m₉ v2' h₉ tk₉ r2' t2' e9 S₉ => ?_
      have n1₉ : m₉ "name" = some x1 := (e9 _ (by decide)).trans ((e8 _ (by decide)).trans ((e7 _ (by decide)).trans n1₆))
      have n3₉ : m₉ "taken" = some v3 := (e9 _ (by decide)).trans ((e8 _ (by decide)).trans ((e7 _ (by decide)).trans n3₆))
      have hln : ((M.take i).map (·.1)).length ≤ 100 := by rw [List.length_map, List.length_take]; omega
      refine wpAny_execs_cons (wpAny_Assign_Name (wpAny_BinOp (nmL S₉ n3₉ (List_ (wpAny_items_cons (Subscript_ (nmL S₉ n1₉ (wpAny_Constant_int (sbT (i := 0) S₉ d1' rfl (by simp) fun y1 Y1 => wpAny_items_nil (mkLst S₉ (by simp) fun h₁₀ b S₁₀ => ?_)))))))))) 
      refine addL S₁₀ (D3'.mono fun p hp => .tail _ hp) (.list (ds := [.str q.1]) (.head _) (.cons (Y1.mono fun p hp => .tail _ hp) .nil)) (by rw [List.length_map]; simp only [List.length_singleton]; omega) fun h₁₁ xb ob S₁₁ D₁₁ => stL S₁₁ fun h₁₂ S₁₂ => wpAny_execs_nil ?_
      have hlt : i < (prs M NS).length := (List.getElem?_eq_some_iff.mp hpr).1
      refine ⟨_, _, _, _, _, rfl, fun p hp => .tail _ (.tail _ hp), ⟨v1'', v2', _, rfl, fun y a1 a2 a3 a4 a5 => upd_ne a3 ((e9 y a2).trans ((e8 y a1).trans ((e7 y a1).trans ((e6 y a1 a2).trans (em₅ y a1 a2 a3 a4 a5))))), upd_ne (by decide) ((e9 _ (by decide)).trans r1''), ?_, upd_ne (by decide) r2', ?_, upd_eq, ?_⟩, S₁₂⟩
      · refine t1''.iff ?_
        rw [stock_step hpr, okPair_eq hqm]
        have ek : keyD (.str q.1) = q.1 := rfl
        have em' : ((prs M NS).take i).map (fun p => keyD p.1) = (M.take i).map (·.1) := by
          apply List.ext_getElem?
          intro j
          simp only [List.getElem?_map, List.getElem?_take, prs, List.getElem?_zipWith]
          by_cases hj : j < i
          · simp only [hj, if_true]
            have hjM : j < M.length := by have := (List.getElem?_eq_some_iff.mp hq).1; omega
            have hjN : j < NS.length := by have := (List.getElem?_eq_some_iff.mp hp).1; omega
            rw [List.getElem?_eq_getElem hjM, List.getElem?_eq_getElem hjN]
            rfl
          · simp [hj]
        simp only [ek, em', Bool.and_eq_true, decide_eq_false_iff_not, Bool.not_eq_false']
        exact ⟨fun ⟨⟨⟨h1, h2⟩, h3⟩, h4⟩ => ⟨h1, ⟨h2, h4⟩, h3⟩, fun ⟨h1, ⟨h2, h4⟩, h3⟩ => ⟨⟨⟨h1, h2⟩, h3⟩, h4⟩⟩
      · refine t2'.iff ?_
        have e' : ((prs M NS).map swp).take (i + 1) = ((prs M NS).map swp).take i ++ [swp (.str q.1, p.2)] := by
          rw [List.take_add_one, List.getElem?_map, hpr]; rfl
        rw [e', Bool.not_eq_false']
        constructor
        · rintro ⟨⟨h1, h2⟩, h3⟩ z hz'
          rcases List.mem_append.mp hz' with hz' | hz'
          · exact h1 z hz'
          · rw [List.mem_singleton.mp hz', okOrd_eq hqm, h2, h3]; rfl
        · intro h
          have hl' := h _ (List.mem_append_right _ (.head _))
          rw [okOrd_eq hqm, Bool.and_eq_true] at hl'
          exact ⟨⟨fun z hz' => h z (List.mem_append_left _ hz'), hl'.2⟩, hl'.1⟩
      · have e' : ((M.take (i + 1)).map (·.1)).map Dt.str = ((M.take i).map (·.1)).map Dt.str ++ [.str q.1] := by
          rw [List.take_add_one, hq]; simp
        rw [e']; exact D₁₁
    refine wpAny_execs_cons (wpAny_If (isTrue_not (isTrue_plain (Subscript_ (nmL S₅ n1 (wpAny_Constant_int (sbT (i := 1) S₅ d1' rfl (by simp) fun y1 Y1 => ?_)))))))
    have : y1 = .bool q.2.1 := by cases Y1; rfl
    subst this
    refine wpAny_truthy_bool ?_
    cases hb : q.2.1 with
    | true =>
      refine wpAny_execs_nil ?_
      dsimp only
      exact rest _ m₅ h₅ _ v1 v2 w1 (s1.iff ⟨fun h => ⟨h, hb⟩, fun h => h.1⟩) w2 (s2.iff ⟨fun h => ⟨h, hb⟩, fun h => h.1⟩) (fun _ _ _ => rfl) S₅
    | false =>
      refine wpAny_execs_cons (wpAny_Assign_Name (wpAny_Constant_str (stL S₅ fun h₆ S₆ => ?_)))
      refine wpAny_execs_cons (wpAny_Assign_Name (wpAny_Constant_str (stL S₆ fun h₇ S₇ => wpAny_execs_nil ?_)))
      dsimp only
      exact rest _ _ h₇ _ _ _ (upd_ne (by decide) upd_eq) (.inr ⟨fun h => (by rw [hb] at h; cases h.2), _, rfl⟩) upd_eq (.inr ⟨fun h => (by rw [hb] at h; cases h.2), _, rfl⟩) (fun y a1 a2 => upd_ne a2 (upd_ne a1 rfl)) S₇
  · rintro m₂ u₂ g₂ h₂ tk₂ hsub ⟨v1, v2, v3, rfl, em, q1, s1, q2, s2, q3, D3⟩ S₂
    have hlen : (zipD (M.map nameQ) (NS.map numQ)).length = (prs M NS).length := by simp [zipD, prs]
    rw [hlen, List.take_length] at s1
    rw [hlen, show (prs M NS).length = ((prs M NS).map swp).length by simp, List.take_length] at s2
    exact k h₂ tk₂ m₂ g₂ v1 v2 (fun p hp => hsub _ (hs₁ _ hp)) em q1 s1 q2 s2 ⟨S₂, x.Y, x.K, x.T.mono fun p hp => hsub _ (hs₁ _ hp)⟩
end
end Mine
end
section
open PySem PyProof.Rows PySem.Calls PySem.W
set_option maxRecDepth 100000
namespace Mine
/-- numbers and sound texts, as data that compares -/
def tP : Dt → PyData
  | .int n => .int n
  | .str x => .str x
  | _ => .none
def PlainD : Dt → Prop
  | .int _ => True
  | .str x => PyData.strOk x = true
  | _ => False
def pairP (p : Dt × Dt) : PyData := .tuple [tP p.1, tP p.2]
theorem tP_of {d : Dt} (h : PlainD d) : ofP (tP d) = d ∧ (tP d).canLay0 = true ∧ (tP d).depth ≤ 1 ∧ PyData.eqv (tP d) (tP d) = true := by
  cases d <;> first | exact h.elim | skip
  · exact ⟨rfl, by simp [tP, PyData.canLay0], by simp [tP, PyData.depth], by simp [tP, PyData.eqv]⟩
  · have h' : PyData.strOk _ = true := h
    exact ⟨rfl, by simp [tP, PyData.canLay0, h'], by simp [tP, PyData.depth], by simp [tP, PyData.eqv]⟩
theorem pairs_ok : ∀ {qs : List (Dt × Dt)}, (∀ p ∈ qs, PlainD p.1 ∧ PlainD p.2) → ofPs (qs.map pairP) = qs.map pairQ ∧ PyData.canLayAll0 (qs.map pairP) = true ∧ PyData.depthAll (qs.map pairP) ≤ 3 ∧ PyData.eqvAll (qs.map pairP) (qs.map pairP) = true
  | [], _ => ⟨rfl, by simp [PyData.canLayAll0], by simp [PyData.depthAll], by simp [PyData.eqvAll]⟩
  | p :: r, h => by
    obtain ⟨h1, h2, h3, h4⟩ := pairs_ok (qs := r) (fun q hq => h q (.tail _ hq))
    obtain ⟨a1, a2, a3, a4⟩ := tP_of (h p (.head _)).1
    obtain ⟨b1, b2, b3, b4⟩ := tP_of (h p (.head _)).2
    refine ⟨by simp only [List.map_cons, ofPs, h1, pairP, ofP, a1, b1, pairQ], by simp [PyData.canLayAll0, pairP, PyData.canLay0, a2, b2, h2], ?_, ?_⟩
    · simp [PyData.depthAll, pairP, PyData.depth] at h3 ⊢; omega
    · simp [PyData.eqvAll, pairP, PyData.eqv, a4, b4, h4]
theorem pairs_all {qs : List (Dt × Dt)} (h : ∀ p ∈ qs, PlainD p.1 ∧ PlainD p.2) : ofP (.list (qs.map pairP)) = .list (qs.map pairQ) ∧ PySem.SeqAt.shaped (.list (qs.map pairP)) = true ∧ PyData.eqv (.list (qs.map pairP)) (.list (qs.map pairP)) = true := by
  obtain ⟨h1, h2, h3, h4⟩ := pairs_ok h
  refine ⟨by simp only [ofP, h1], ?_, by simp only [PyData.eqv]; exact h4⟩
  simp [PySem.SeqAt.shaped, PyData.canLay0, h2, PyData.depth]; omega
theorem stored_len {K : Type} [DecidableEq K] (kvs : List (K × Value)) (k : K) (v : Value) : (stored kvs k v).length ≤ kvs.length + 1 := by
  unfold stored; split <;> simp
theorem okPair_int {p : Dt × Dt} (h : okPair p = true) : ∃ x n, p = (.str x, .int n) := by
  obtain ⟨p1, p2⟩ := p
  simp only [okPair, Bool.and_eq_true] at h
  cases p1 <;> simp [nameOk] at h
  cases p2 <;> simp [chk] at h
  exact ⟨_, _, rfl⟩
theorem okOrd_int {p : Dt × Dt} (h : okOrd p = true) : ∃ x n, p = (.int n, .str x) := by
  obtain ⟨p1, p2⟩ := p
  simp only [okOrd, Bool.and_eq_true] at h
  cases p2 <;> simp [nameOk] at h
  cases p1 <;> simp [chk] at h
  exact ⟨_, _, rfl⟩
section
variable {prog : Program} {w : World} {A : Around} {E : Value → Shared → Prop} {s : Shared} {h₀ : Heap} {L a c P am : Addr} {oc : Obj} {gi : Lg} {m cm mg mb : Str → Option Value} {us u g cells : Lg} {ps : Array Value}
set_option maxHeartbeats 2000000 in
theorem partG {Q : Flow → Shared → Prop} {qs : List (Dt × Dt)} {a1 a2 b1 b2 : Addr} {v1 v2 : Value} (Z : LX A mg mb h₀ L a c P oc) (hm : mg (fdAt 22).name = some (.ref am)) (x : LS h₀ L gi c P [] m cm cells ps g s.heap)
    (c1 : cm "pairs" = some (.ref a1)) (c2 : cm "orders" = some (.ref b1)) (m1 : m "pairs_twin" = some (.ref a2)) (m2 : m "orders_twin" = some (.ref b2)) (m3 : m "stock_place" = some v1) (m4 : m "orders_place" = some v2)
    (T1 : Twin g a1 a2 (qs.map pairQ)) (T2 : Twin g b1 b2 ((qs.map swp).map pairQ)) (s1 : SP (okStock qs) v1) (s2 : SP (∀ p ∈ qs.map swp, okOrd p = true) v2) (hl : qs.length ≤ 100)
    (hq : ∀ p ∈ qs, ∃ y, p.1 = .str y ∧ NameD p.1 ∧ PyData.strOk y = true ∧ Scalar p.2)
    (k : ∀ h' tk ps' g', (∀ p ∈ g, p ∈ g') → LS h₀ L gi c P [] m cm cells ps' g' h' →
      wpAny (model prog w) (A.deeper (envL L a c)) (execs ((fdAt 23).body.drop 22) (envL L a c)) Q E { s with heap := h', toks := tk }) :
    wpAny (model prog w) (A.deeper (envL L a c)) (execs ((fdAt 23).body.drop 18) (envL L a c)) Q E s := by
  have Y := x.Y
  conv in (List.drop 18 (fdAt 23).body) => whnf
  refine lawIf Z hm x rfl rfl (fun f ps' g' h₁ tk₁ hs₁ S₁ X₁ => ?_) fun h₂ tk₂ ps₂ g₂ hs₂ x₂ => ?_
  · have T1' := T1.mono hs₁
    refine nmL S₁ m3 (callT "dict" (nmB S₁ Z.W (Z.W.free _ (by decide)) rfl ⟨rfl, wpAny_items_cons (nmL S₁ m1 (wpAny_items_nil ?_))⟩))
    refine dictOfG (knd := strKind prog w) (kd := keyD) (fun i kvs => kvs.length ≤ i ∧ i ≤ qs.length ∧ (okStock qs → KQ kvs (qs.take i))) Z.ok.hd S₁ T1'.right (fun p hp v D => ?_) ?_ (fun i kvs h => by omega) ⟨Nat.le_refl _, Nat.zero_le _, fun _ => .nil⟩ fun h₂ tk₂ d o kvs hd S₂ Ho hP => ?_
    · obtain ⟨y, e, _⟩ := hq p hp
      rw [e] at D ⊢
      cases D
      exact strKind_is prog w _ _
    · intro i p kvs w1 w2 hpi D1 D2 hP
      have hlt : i < qs.length := (List.getElem?_eq_some_iff.mp hpi).1
      refine ⟨Nat.le_trans (stored_len _ _ _) (by omega), hlt, fun hok => ?_⟩
      have K := hP.2.2 hok
      obtain ⟨y, n, rfl⟩ := okPair_int (hok.1 p (List.mem_of_getElem? hpi))
      cases D2
      have htk : qs.take (i + 1) = qs.take i ++ [(.str y, .int n)] := by rw [List.take_add_one, hpi]; rfl
      have hno : valueAt kvs y = none := by
        cases hv : valueAt kvs y with
        | none => rfl
        | some z =>
          have h3 := (K.has y).mp (by rw [hv]; rfl)
          have h4 := ok_take hok (i + 1)
          rw [htk, ok_snoc (ok_take hok i)] at h4
          exact absurd h3 h4.2
      show KQ (stored kvs y _) _
      rw [stored_new hno, htk]
      exact K.snoc
    have S₃ := S₂.freeze
    have X₃ := X₁.mono (g' := (d, o) :: g') fun p hp => .tail _ hp
    refine ⟨(d, o) :: g', h₂, tk₂, rfl, fun p hp => .tail _ hp, S₃, fun Q' kk => ?_⟩
    have run := run_check_stock (prog := prog) (w := w) (mg := mg) (mb := mb) (s := { s with heap := h₂, toks := tk₂ }) (ps := qs) X₃ S₃ (cellAt_of Y c1 rfl rfl) (T1'.left.mono fun p hp => List.mem_append_left _ (.tail _ hp)) hl (fun p hp => let ⟨y, _, h2, _, h4⟩ := hq p hp; ⟨h2, h4⟩)
    rcases s1 with ⟨hok, rfl⟩ | ⟨hno, t, rfl⟩
    · have hpl : ∀ p ∈ qs, PlainD p.1 ∧ PlainD p.2 := fun p hp => by
        obtain ⟨y, n, rfl⟩ := okPair_int (hok.1 p hp)
        obtain ⟨y', e, _, h3, _⟩ := hq _ hp
        cases e
        exact ⟨h3, trivial⟩
      obtain ⟨z1, z2, z3⟩ := pairs_all hpl
      have K2 : KQ kvs qs := by have := hP.2.2 hok; rw [List.take_length] at this; exact this
      have lo2 : (d == sysModules) = false := hd ▸ S₁.fr.notModules (modules_low Z.W.nolimit)
      exact meetDict Z hm X₃ S₃ z1 z2 z3 hl hok.2 (S₃.led _ (.head _)).1 lo2 Ho K2 (run.ok (fun v g h => h.2) fun msg hB => hB hok) kk
    · exact meetBad Z hm X₃ S₃ rfl (run.bad (fun v g h => hno h.1) fun msg _ => starts_nil msg) kk
  try dsimp only
  refine lawIf (s := { s with heap := h₂, toks := _ }) Z hm x₂ rfl rfl (fun f ps' g' h₁ tk₁ hs₁ S₁ X₁ => ?_) fun h₃ tk₃ ps₃ g₃ hs₃ x₃ => ?_
  · have T2' := (T2.mono hs₂).mono hs₁
    refine nmL S₁ m4 (nmL S₁ m2 ⟨g', h₁, tk₁, rfl, fun _ hp => hp, S₁, fun Q' kk => ?_⟩)
    have run := run_check_orders (prog := prog) (w := w) (mg := mg) (mb := mb) (s := { s with heap := h₁, toks := tk₁ }) (ps := qs.map swp) X₁ S₁ (cellAt_of Y c2 rfl rfl) (T2'.left.mono fun p hp => List.mem_append_left _ hp) (by rw [List.length_map]; exact hl) (fun p hp => by
      obtain ⟨q, hqm, rfl⟩ := List.mem_map.mp hp
      obtain ⟨y, h1, h2, _, h4⟩ := hq q hqm
      exact ⟨h4, h2⟩)
    rcases s2 with ⟨hok, rfl⟩ | ⟨hno, t, rfl⟩
    · have hpl : ∀ p ∈ qs.map swp, PlainD p.1 ∧ PlainD p.2 := fun p hp => by
        obtain ⟨y, n, e⟩ := okOrd_int (hok p hp)
        obtain ⟨q, hqm, rfl⟩ := List.mem_map.mp hp
        obtain ⟨y', e', _, h3, _⟩ := hq _ hqm
        obtain ⟨q1, q2⟩ := q
        simp only [swp, Prod.mk.injEq] at e
        dsimp only at e'
        rw [e.2] at e'
        cases e'
        refine ⟨?_, ?_⟩
        · show PlainD q2; rw [e.1]; trivial
        · show PlainD q1; rw [e.2]; exact h3
      obtain ⟨z1, z2, z3⟩ := pairs_all hpl
      refine meetList Z hm X₁ S₁ z1 z2 z3 (fun d hd => ?_) T2'.right (run.ok (fun v g h => h.2) fun msg hB => hB hok) kk
      obtain ⟨p, hp, rfl⟩ := List.mem_map.mp hd
      obtain ⟨y, n, rfl⟩ := okOrd_int (hok p hp)
      refine ⟨fun z hz => ?_, by simp⟩
      simp only [List.mem_cons, List.not_mem_nil, or_false] at hz
      rcases hz with rfl | rfl
      · exact .inl ⟨n, rfl⟩
      · exact .inr ⟨y, rfl⟩
    · exact meetBad Z hm X₁ S₁ rfl (run.bad (fun v g h => hno h.1) fun msg _ => starts_nil msg) kk
  try dsimp only
  have S₃ := x₃.S
  obtain ⟨vs, n, n', t1, t2, t3⟩ := ((T1.mono hs₂).mono hs₃).ex
  refine wpAny_execs_cons (wpAny_If (wpAny_isTrue_Compare1 (nmY S₃ Y c1 (nmL S₃ m1 (cmpSame (s := { s with heap := h₃, toks := _ }) Z.ok (S₃.led _ t1).1 (S₃.led _ t2).1 (wpAny_truthy_bool ?_))))))
  refine wpAny_execs_nil ?_
  obtain ⟨vs', k₁, k₂, t1', t2', t3'⟩ := ((T2.mono hs₂).mono hs₃).ex
  refine wpAny_execs_cons (wpAny_If (wpAny_isTrue_Compare1 (nmY S₃ Y c2 (nmL S₃ m2 (cmpSame (s := { s with heap := h₃, toks := _ }) Z.ok (S₃.led _ t1').1 (S₃.led _ t2').1 (wpAny_truthy_bool ?_))))))
  refine wpAny_execs_nil ?_
  exact k h₃ _ ps₃ g₃ (fun p hp => hs₃ _ (hs₂ _ hp)) x₃
end
end Mine
end
section
open PySem PyProof.Rows PySem.Calls PySem.W
open PyProof.Rows.LCg (NsObj ns_obj)
set_option maxRecDepth 100000
namespace Mine
/-- a name as a line of the sheet -/
def nmLn (q : Str × Bool × Option (List Str)) : Ln1 := (q.1, q.2.2.map fun l => l.map .str)
theorem ops_opt (o : Option (List Str)) : opsD o = optL (o.map fun l => l.map .str) := by cases o <;> rfl
abbrev nlS : Str := Str.ofString "\n"
/-- what the sheet of names must keep -/
structure SheetF (x₀ : Str) (ls : List Ln1) : Prop where
  xl : x₀.length + 2 ≤ sizeLine
  ll : (Txt.split x₀ "\n").length ≤ 500
  each : ∀ l ∈ Txt.split x₀ "\n", l.length ≤ 5000 ∧ Sane (Txt.strip l)
  good : plc 0 ls = none → ∃ ns, nmAll (Txt.split x₀ "\n") = some ns ∧ dueL ls = ns.map .str ∧ ∀ x ∈ ns, PyData.strOk x = true
  bad : ∀ pl, plc 0 ls = some pl → nmAll (Txt.split x₀ "\n") = none ∧ ∀ (i : Nat) (l tail : Str) (ns : List Str), (Txt.split x₀ "\n")[i]? = some l → nmAll ((Txt.split x₀ "\n").take i) = some ns → nmRes l = none → Txt.startswith (lineMsg ((i : Int) + 1) tail) pl = true
/-- what the trace must keep -/
structure TraceF (x₀ : Str) (ls : List Ln1) : Prop where
  xl : x₀.length + 2 ≤ sizeLine
  ll : (Txt.split x₀ "\n").length ≤ 500
  each : ∀ l ∈ Txt.split x₀ "\n", l.length + 2 ≤ sizeLine ∧ (Txt.words l).length ≤ 100 ∧ ∀ y ∈ Txt.words l, Sane y ∧ NumT y
  good : plc 0 ls = none → allRes (Txt.split x₀ "\n") = some (dueL ls) ∧ ∃ p : PyData, ofP p = .list (dueL ls) ∧ PySem.SeqAt.shaped p = true ∧ PyData.eqv p p = true ∧ ∀ d ∈ dueL ls, ItemOk d
  bad : ∀ pl, plc 0 ls = some pl → allRes (Txt.split x₀ "\n") = none ∧ ∀ (i : Nat) (l tail : Str) (ns : List Dt), (Txt.split x₀ "\n")[i]? = some l → allRes ((Txt.split x₀ "\n").take i) = some ns → lineRes (Txt.words l) = none → Txt.startswith (lineMsg ((i : Int) + 1) tail) pl = true
theorem nmAll_none {l : Str} (h : nmRes l = none) : ∀ {ls : List Str} {i : Nat}, ls[i]? = some l → nmAll ls = none
  | [], i, e => by simp at e
  | x :: r, 0, e => by simp at e; subst e; simp [nmAll, h]
  | x :: r, i + 1, e => by
    have := nmAll_none h (ls := r) (i := i) (by simpa using e)
    simp only [nmAll, this]
    cases nmRes x <;> rfl
theorem allRes_none {l : Str} (h : lineRes (Txt.words l) = none) : ∀ {ls : List Str} {i : Nat}, ls[i]? = some l → allRes ls = none
  | [], i, e => by simp at e
  | x :: r, 0, e => by simp at e; subst e; simp [allRes, h]
  | x :: r, i + 1, e => by
    have := allRes_none h (ls := r) (i := i) (by simpa using e)
    simp only [allRes, this]
    cases lineRes (Txt.words x) <;> rfl
theorem strs_all {ns : List Str} (h : ∀ x ∈ ns, PyData.strOk x = true) : ofP (.list (ns.map .str)) = .list (ns.map .str) ∧ PySem.SeqAt.shaped (.list (ns.map .str)) = true ∧ PyData.eqv (.list (ns.map .str)) (.list (ns.map .str)) = true := by
  have h1 : PyData.canLayAll0 (ns.map .str) = true := lay_strs h
  have h2 : PyData.depthAll (ns.map PyData.str) ≤ 1 := by
    clear h h1
    induction ns with
    | nil => simp [PyData.depthAll]
    | cons x r ih => simp [PyData.depthAll, PyData.depth] at ih ⊢; omega
  refine ⟨by simp only [ofP, ofPs_str], ?_, ?_⟩
  · simp [PySem.SeqAt.shaped, PyData.canLay0, h1, PyData.depth]; omega
  · simp only [PyData.eqv]
    clear h h1 h2
    induction ns with
    | nil => simp [PyData.eqvAll]
    | cons x r ih => simp [PyData.eqvAll, PyData.eqv] at ih ⊢; exact ih
section
variable {prog : Program} {w : World} {A : Around} {E : Value → Shared → Prop} {s : Shared} {h₀ : Heap} {L a c P am : Addr} {oc : Obj} {gi : Lg} {m cm mg mb : Str → Option Value} {us u g cells : Lg} {ps : Array Value}
/-- _law_lines_due(x) -/
theorem dueE {Q : Value → Shared → Prop} {x : Str} {p1 p2 p3 : Pos} {lv : Value} {ls : List Ln1} (Z : LX A mg mb h₀ L a c P oc) (S : St h₀ L gi m u g s.heap) (hv : m x = some lv) (D : DL g lv (.list (ls.map lnQ))) (hz : ls.length ≤ 4) (h1 : ∀ p ∈ ls, ∀ l, p.2 = some l → l.length ≤ 1)
    (k : ∀ v g' h' tk, (∀ p ∈ g, p ∈ g') → St h₀ L gi m u g' h' → DL g' v (.tuple [optS (plc 0 ls), .list (dueL ls)]) → Q v { s with heap := h', toks := tk })
    (hx : (envL L a c).kindOf x = some .local := by rfl) (hd : (x == ("__debug__" : Str)) = false := by decide) :
    wpAny (model prog w) (A.deeper (envL L a c)) (eval (.Call (.Name "_law_lines_due" p1) [.Name x p2] [] p3) (envL L a c)) Q E s := by
  obtain ⟨ap, op, pmp, cdp, dcp, ep, fp⟩ := Z.W.fn 21 (by decide)
  refine callU (o := op) (fd := docF 21 pmp cdp dcp) (nmG S Z.W ep ⟨rfl, wpAny_items_cons (nmL S hv (wpAny_items_nil ⟨⟨S.fr.keep _ _ fp.at_, fp.d⟩, ?_⟩) rfl hx hd)⟩)
  refine lines_due_spec (Z.ok.less (by omega)) (Z.W.keeps S.fr.keep) ep S.at D hz h1 fun v g' h' tk hx' hg' hn' Dv => ?_
  exact k v _ h' tk (fun p hp => List.mem_append_right _ hp) (S.back hx' hg' hn') (Dv.mono fun p hp => List.mem_append_left _ hp)
set_option maxHeartbeats 2000000 in
theorem partH {Q : Flow → Shared → Prop} {vM : Value} {MS : List (Str × Bool × Option (List Str))} {sz : Nat} {t : Tok} (Z : LX A mg mb h₀ L a c P oc) (hm : mg (fdAt 22).name = some (.ref am)) (x : LS h₀ L gi c P [] m cm cells ps g s.heap)
    (hM : m "names" = some vM) (DM : DL g vM (.list (MS.map nameQ))) (hsz : m "size" = some (.int sz t)) (hz : sz ≤ MS.length) (hl : MS.length ≤ 4) (ho : ∀ q ∈ MS, ∀ l, q.2.2 = some l → l.length ≤ 1)
    (hj : JoinOk nlS ((MS.take sz).map (·.1)) = true) (hF : SheetF (Txt.join nlS ((MS.take sz).map (·.1))) ((MS.take sz).map nmLn))
    (k : ∀ h' tk m' cm' cells' ps' g', (∀ p ∈ g, p ∈ g') → (∀ y : Str, y ≠ "sheet" → y ≠ "names_place" → y ≠ "names_due" → m' y = m y) → LS h₀ L gi c P [] m' cm' cells' ps' g' h' →
      wpAny (model prog w) (A.deeper (envL L a c)) (execs ((fdAt 23).body.drop 26) (envL L a c)) Q E { s with heap := h', toks := tk }) :
    wpAny (model prog w) (A.deeper (envL L a c)) (execs ((fdAt 23).body.drop 22) (envL L a c)) Q E s := by
  have Y := x.Y
  have S := x.S
  conv in (List.drop 22 (fdAt 23).body) => whnf
  refine wpAny_execs_cons (compU (h₀ := h₀) (gi := gi) (m := m) (((MS.take sz).map nmLn).map lnQ) (by rfl) (by decide) (by decide) rfl (by decide) rfl rfl ?_)
  refine slE (nmL S hM (wpAny_evalPart_none (wpAny_evalPart_some (nmL S hsz ?_))))
  refine slK (es := (MS.map nameQ).take sz) S DM (by rw [List.length_map]; omega) .none (.int _ _) (fun vs hD => pick_upto sz (by rw [List.length_map]; exact hz) vs hD) fun h₁ x₁ gg S₁ D₁ => ?_
  rw [← List.map_take] at D₁
  generalize hMS : MS.take sz = M at *
  have hMl : M.length ≤ 4 := by rw [← hMS, List.length_take]; omega
  have hoM : ∀ p ∈ M.map nmLn, ∀ l, p.2 = some l → l.length ≤ 1 := by
    intro p hp l hpl
    obtain ⟨q, hq, rfl⟩ := List.mem_map.mp hp
    rw [← hMS] at hq
    simp only [nmLn, Option.map_eq_some_iff] at hpl
    obtain ⟨l', h1, rfl⟩ := hpl
    rw [List.length_map]; exact ho q (List.mem_of_mem_take hq) l' h1
  cases D₁ with
  | @list l1 n1 vs1 _ hl1 hD1 =>
  refine wpAny_pyIter_list ⟨_, (S₁.led _ hl1).1, rfl, _, rfl⟩ ?_
  have S₂ := S₁.pushU { cls := .type "list_iterator", data := .fields #[.ref x₁, .int 0 0] }
  refine ⟨_, [(h₁.objs.size, { cls := .type "list_iterator", data := .fields #[.ref x₁, .int 0 0] })], [] ++ (cells ++ [(P, tabO ps)]), gg ++ g, _, liP _ x₁, rfl, src_list Z.ok.hd hl1 hD1 (lets_tuple _ _ _), S₂, ⟨_, rfl, rfl, rfl⟩, by simp, by rw [List.length_map]; omega, ?_, ?_⟩
  · intro i d e v C oC mC D n ys us' g' h tk hd he hv hsub S₂ hN₂
    rw [List.getElem?_map] at hd
    obtain ⟨q, hq, rfl⟩ := Option.map_eq_some_iff.mp hd
    rw [List.getElem?_map, List.getElem?_map, hq] at he
    have he' : lnQ (nmLn q) = e := Option.some.inj he
    subst he'
    have hv' : DL g' v (.tuple [.str q.1, .bool q.2.1, opsD q.2.2]) := hv
    refine unT Z.ok.hd S₂ hv' rfl fun vs₃ h₃ D₃ S₃ => ?_
    cases D₃ with | @cons v1 _ _ _ d1 D₃ => cases D₃ with | @cons v2 _ _ _ d2 D₃ => cases D₃ with | @cons v3 _ _ _ d3 D₃ => cases D₃ with | nil =>
    refine assignInOrder_cons (wpAny_assign_Name (stK S₃ hN₂ fun h₄ oC₄ S₄ N₄ => assignInOrder_cons (wpAny_assign_Name (stK S₄ N₄ fun h₅ oC₅ S₅ N₅ => assignInOrder_cons (wpAny_assign_Name (stK S₅ N₅ fun h₆ oC₆ S₆ N₆ => assignInOrder_nil ?_))))))
    dsimp only
    refine Tuple_ (wpAny_items_cons (nmK S₆ N₆ rfl (wpAny_items_cons (nmK S₆ N₆ rfl (wpAny_items_nil (mkTup S₆ (by simp) fun h₇ b S₇ => ?_))))))
    have d3' : DL g' v3 (optL (q.2.2.map fun l => l.map .str)) := by rw [← ops_opt]; exact d3
    exact ⟨oC₆, _, _, h₇, _, rfl, N₆, fun p hp => .tail _ hp, trivial, .tuple (.head _) rfl rfl (.cons (d1.mono fun p hp => .tail _ hp) (.cons (d3'.mono fun p hp => .tail _ hp) .nil)), S₇⟩
  intro D₂ n₂ ys₂ g₂ h₂ tk₂ hys₂ hs₂ S₃
  have S₃' := S₃.freeze
  have DS : DL ((D₂, lstO ys₂ n₂) :: g₂) (.ref D₂) (.list ((M.map nmLn).map lnQ)) := .list (.head _) (hys₂.mono fun p hp => .tail _ hp)
  have hs₃ : ∀ p ∈ g, p ∈ (D₂, lstO ys₂ n₂) :: g₂ := fun p hp => .tail _ (hs₂ _ (List.mem_append_right _ hp))
  clear S₂ S₃
  refine wpAny_execs_cons (Assign_Tuple (dueE (s := { s with heap := h₂, toks := _ }) Z S₃' rfl DS (by rw [List.length_map]; exact hMl) hoM fun v₄ g₄ h₄ tk₄ hs₄ S₄ D₄ => ?_))
  dsimp only
  refine unT Z.ok.hd S₄ D₄ rfl fun vs₅ h₅ D₅ S₅ => ?_
  cases D₅ with | @cons vp _ _ _ dp D₅ => cases D₅ with | @cons vd _ _ _ dd D₅ => cases D₅ with | nil =>
  refine assignInOrder_cons (wpAny_assign_Name (stL S₅ fun h₆ S₆ => assignInOrder_cons (wpAny_assign_Name (stL S₆ fun h₇ S₇ => assignInOrder_nil ?_))))
  dsimp only
  obtain ⟨m₇, hm₇⟩ : ∃ m₇, upd (upd (upd m (Str.ofString "sheet") (.ref D₂)) (Str.ofString "names_place") vp) (Str.ofString "names_due") vd = m₇ := ⟨_, rfl⟩
  have e1 : m₇ "sheet" = some (.ref D₂) := by rw [← hm₇]; rfl
  have e2 : m₇ "names_place" = some vp := by rw [← hm₇]; rfl
  have e3 : m₇ "names_due" = some vd := by rw [← hm₇]; rfl
  have em : ∀ y : Str, y ≠ "sheet" → y ≠ "names_place" → y ≠ "names_due" → m₇ y = m y := fun y a1 a2 a3 => by rw [← hm₇]; exact upd_ne a3 (upd_ne a2 (upd_ne a1 rfl))
  replace S₇ : St h₀ L gi m₇ ([] ++ (cells ++ [(P, tabO ps)])) g₄ h₇ := by rw [← hm₇]; exact S₇
  clear hm₇ S₆ S₅ S₄ S₃'
  have DS₄ := DS.mono hs₄
  have hs₅ : ∀ p ∈ g, p ∈ g₄ := fun p hp => hs₄ _ (hs₃ p hp)
  refine wpAny_execs_cons (wpAny_Assign_Name ?_ ?_)
  rotate_left
  · rfl
  refine callM "str" "str.join" PySem.F.plainAttrs_str PySem.F.slot_str_join PySem.F.type_str_join (wpAny_Constant_str ⟨typeIs_str _ _ _, (fun a e => nomatch e), wpAny_items_cons ?_⟩)
  refine compE (h₀ := h₀) (L := L) (gi := gi) (m := m₇) none (fun _ => True) ((M.map (·.1)).map .str) (fun _ _ _ => False) (by decide) (by decide) rfl (by decide) (nmL S₇ e1 ?_)
  cases DS₄ with
  | @list l2 n2 vs2 _ hl2 hD2 =>
  refine wpAny_pyIter_list ⟨_, (S₇.led _ hl2).1, rfl, _, rfl⟩ ?_
  have S₈ := S₇.pushU { cls := .type "list_iterator", data := .fields #[.ref D₂, .int 0 0] }
  refine ⟨_, [(h₇.objs.size, { cls := .type "list_iterator", data := .fields #[.ref D₂, .int 0 0] })], [] ++ (cells ++ [(P, tabO ps)]), g₄, _, liP _ D₂, rfl, src_list Z.ok.hd hl2 hD2 (lets_tuple _ _ _), S₈, ⟨_, rfl, rfl, rfl⟩, trivial, by simp, by rw [List.length_map, List.length_map]; omega, (fun C x s' _ h => h.elim), ?_, ?_⟩
  · intro i d e v C oC mC D n ys us' g' h tk hd he hv hsub _ hC S₂ hN₂
    rw [List.getElem?_map, List.getElem?_map] at hd he
    cases hq : M[i]? with
    | none => rw [hq] at he; cases he
    | some q =>
    rw [hq] at hd he
    have he' : Dt.str q.1 = e := Option.some.inj he
    have hd' : lnQ (nmLn q) = d := Option.some.inj hd
    subst he' hd'
    have hv' : DL g' v (.tuple [.str q.1, optL (nmLn q).2]) := hv
    refine unT Z.ok.hd S₂ hv' rfl fun vs₃ h₃ D₃ S₃ => ?_
    cases D₃ with | @cons v1 _ _ _ d1 D₃ => cases D₃ with | @cons v2 _ _ _ d2 D₃ => cases D₃ with | nil =>
    refine assignInOrder_cons (wpAny_assign_Name (stK S₃ hN₂ fun h₄ oC₄ S₄ N₄ => assignInOrder_cons (wpAny_assign_Name (stK S₄ N₄ fun h₅ oC₅ S₅ N₅ => assignInOrder_nil ?_))))
    dsimp only
    refine nmK S₅ N₅ rfl ?_
    exact ⟨oC₅, _, _, _, _, rfl, N₅, fun p hp => hp, trivial, d1, S₅⟩
  intro D₃ n₃ ys₃ g₅ h₈ tk₈ _ hys₃ hs₆ _ S₉
  have hys₃' : DLs g₅ ys₃ ((M.map (·.1)).map .str) := hys₃
  refine wpAny_items_nil (joinU S₉ (.head _) hys₃' hj fun t₉ tk₉ => ?_)
  have S₉' := S₉.freeze
  refine stY S₉' Y (fun h₁₀ cells₁₀ S₁₀ Y₁₀ => ?_) rfl (clL_nd L)
  dsimp only
  have cn : upd cm (Str.ofString "names_text") (.str (Txt.join nlS (M.map (·.1))) t₉) "names_text" = some (.str (Txt.join nlS (M.map (·.1))) t₉) := rfl
  have hs₇ : ∀ p ∈ g₄, p ∈ (D₃, lstO ys₃ n₃) :: g₅ := fun p hp => .tail _ (hs₆ _ hp)
  have x₁₀ : LS h₀ L gi c P [] m₇ (upd cm (Str.ofString "names_text") (.str (Txt.join nlS (M.map (·.1))) t₉)) cells₁₀ ps ((D₃, lstO ys₃ n₃) :: g₅) h₁₀ := ⟨S₁₀, Y₁₀, x.K, x.T.mono fun p hp => hs₇ _ (hs₅ _ hp)⟩
  refine lawIf (s := { s with heap := h₁₀, toks := _ }) Z hm x₁₀ rfl rfl (fun f ps' g' h₁₁ tk₁₁ hs₁₁ S₁₁ X₁₁ => ?_) fun h₁₂ tk₁₂ ps₁₂ g₁₂ hs₁₂ x₁₂ => ?_
  · refine nmL S₁₁ e2 (nmL S₁₁ e3 ⟨g', h₁₁, tk₁₁, rfl, fun _ hp => hp, S₁₁, fun Q' kk => ?_⟩)
    have run := run_read_names (prog := prog) (w := w) (mg := mg) (mb := mb) (s := { s with heap := h₁₁, toks := tk₁₁ }) X₁₁ S₁₁ (cellAt_of Y₁₀ cn rfl rfl) hF.xl hF.ll hF.each
    cases hp : plc 0 (M.map nmLn) with
    | none =>
      rw [hp] at dp
      have : vp = .none := by cases dp; rfl
      subst this
      obtain ⟨ns, n1, n2, n3⟩ := hF.good hp
      obtain ⟨z1, z2, z3⟩ := strs_all n3
      rw [n2] at dd
      refine meetList Z hm X₁₁ S₁₁ z1 z2 z3 (fun d hd => ?_) ((dd.mono hs₇).mono hs₁₁) (run.ok (fun v g h => ?_) fun msg hB => ?_) kk
      · obtain ⟨y, _, rfl⟩ := List.mem_map.mp hd
        trivial
      · obtain ⟨ns', h1, h2⟩ := h
        rw [n1] at h1; cases h1
        exact h2
      · obtain ⟨i, l, ns', tail, h1, h2, h3, _⟩ := hB
        have := nmAll_none h3 h1
        rw [n1] at this; cases this
    | some pl =>
      rw [hp] at dp
      obtain ⟨tp, rfl⟩ : ∃ tp, vp = .str pl tp := by cases dp; exact ⟨_, rfl⟩
      obtain ⟨b1, b2⟩ := hF.bad pl hp
      refine meetBad Z hm X₁₁ S₁₁ rfl (run.bad (fun v g h => ?_) fun msg hB => ?_) kk
      · obtain ⟨ns', h1, h2⟩ := h
        rw [b1] at h1; cases h1
      · obtain ⟨i, l, ns', tail, h1, h2, h3, rfl⟩ := hB
        exact b2 i l tail ns' h1 h2 h3
  try dsimp only
  exact k h₁₂ _ m₇ _ cells₁₀ ps₁₂ g₁₂ (fun p hp => hs₁₂ _ (hs₇ _ (hs₅ _ hp))) em x₁₂
end
end Mine
end
section
open PySem PyProof.Rows PySem.Calls PySem.W
open PyProof.Rows.LCg (NsObj ns_obj)
set_option maxRecDepth 100000
namespace Mine
theorem ints_at {vs : List Value} {ns : List Int} (h : IntsAre vs ns) : ∀ {i : Nat}, i < ns.length → ∃ t, vs[i]? = some (.int (ns.getD i 0) t) := by
  induction h with
  | nil => intro i hi; simp at hi
  | cons n t h ih =>
    intro i hi
    cases i with
    | zero => exact ⟨t, rfl⟩
    | succ i => simpa using ih (i := i) (by simpa using hi)
theorem ints_len {vs : List Value} {ns : List Int} (h : IntsAre vs ns) : vs.length = ns.length := by induction h <;> simp_all
theorem word_len (wk : Int) : (wordAt wk).1.length ≤ 1000 := by
  have key : ∀ i : Fin 8, ((wordLW wideS).getD i.val ("", false)).1.length ≤ 1000 := by decide +kernel
  exact key ⟨fm wk 8, fm_lt (b := 8) (by decide)⟩
theorem line_ops {kind : Int} {wd : Str × Bool} {p : Str × Dt} {l : List Dt} (h : (lineAt kind wd p).2 = some l) : l.length ≤ 1 := by
  unfold lineAt at h
  rw [List.getD] at h
  cases e : (lineL wd.1 p.1 (gotO wd) (putO wd p.2))[fm kind 12]? with
  | none => rw [e] at h; cases h
  | some q =>
    rw [e] at h
    have hm := List.mem_of_getElem? e
    have hg : ∀ l, gotO wd = some l → l.length ≤ 1 := fun l h => by
      unfold gotO at h; split at h <;> cases h; simp
    have hp : ∀ l, putO wd p.2 = some l → l.length ≤ 1 := fun l h => by
      unfold putO at h; split at h <;> cases h; simp
    simp only [lineL, List.mem_cons, List.not_mem_nil, or_false] at hm
    simp only [Option.getD_some] at h
    rcases hm with rfl | rfl | rfl | rfl | rfl | rfl | rfl | rfl | rfl | rfl | rfl | rfl <;> first | exact hg l h | exact hp l h | (cases h; done) | (cases h; simp)
def lnAt (ns : List Int) (i j : Nat) (p : Str × Dt) : Ln1 := lineAt (ns.getD i 0) (wordAt (ns.getD j 0)) p
def trOf (ns : List Int) (p0 p1 p2 : Str × Dt) : List Ln1 := [lnAt ns 13 10 p0, lnAt ns 14 11 p1, lnAt ns 15 12 p2]
section
variable {prog : Program} {w : World} {A : Around} {E : Value → Shared → Prop} {s : Shared} {h₀ : Heap} {L a c P am l : Addr} {oc : Obj} {gi : Lg} {m cm mg mb : Str → Option Value} {us u g cells : Lg} {ps : Array Value} {vs : List Value} {ns : List Int}
/-- the script's item -/
theorem scI {Q : Value → Shared → Prop} {p1 p2 p3 : Pos} {k i : Nat} (S : St h₀ L gi m u g s.heap) (hl : h₀.IsList l vs.toArray) (hI : IntsAre vs ns) (hm : m "script" = some (.ref l)) (hi : i < ns.length) (hz : ns.length ≤ 63)
    (h : ∀ t tk, Q (.int (ns.getD i 0) t) { s with toks := tk }) :
    wpAny (model prog w) A (eval (.Subscript (.Name "script" p1) (.Constant (.int i) k p2) p3) (envL L a c)) Q E s := by
  obtain ⟨t, ht⟩ := ints_at hI hi
  refine Subscript_ (nmL S hm (wpAny_Constant_int ?_))
  have hL : s.heap.IsList l vs.toArray := let ⟨o, ho, r⟩ := hl; ⟨o, S.fr.keep _ _ ho, r⟩
  exact tail_any hL.typeIs slot_list_getitem.lookup (wpAny_getItem_list hL (by omega) (by omega) (by simpa using ht) (h _ _)) (by with_unfolding_all rfl)
/-- _law_line(script[i], script[j], numbers[n]) -/
theorem lineE {Q : Value → Shared → Prop} {p1 p2 p3 p4 p5 p6 p7 p8 p9 p10 p11 : Pos} {k1 k2 k3 : Nat} (i j n : Nat) {vN : Value} {NS : List (Str × Dt)} {p : Str × Dt} (Z : LX A mg mb h₀ L a c P oc) (S : St h₀ L gi m u g s.heap) (hl : h₀.IsList l vs.toArray) (hI : IntsAre vs ns) (hm : m "script" = some (.ref l)) (hi : i < ns.length) (hj : j < ns.length) (hz : ns.length ≤ 63)
    (hN : m "numbers" = some vN) (DN : DL g vN (.list (NS.map numQ))) (hp : NS[n]? = some p) (hNl : NS.length ≤ 10) (hsc : Scalar p.2) (hpl : p.1.length ≤ 1000)
    (k : ∀ v g' h' tk, (∀ p ∈ g, p ∈ g') → St h₀ L gi m u g' h' → DL g' v (lnQ (lnAt ns i j p)) → Q v { s with heap := h', toks := tk }) :
    wpAny (model prog w) (A.deeper (envL L a c)) (eval (.Call (.Name "_law_line" p1) [.Subscript (.Name "script" p2) (.Constant (.int i) k1 p3) p4, .Subscript (.Name "script" p5) (.Constant (.int j) k2 p6) p7, .Subscript (.Name "numbers" p8) (.Constant (.int n) k3 p9) p10] [] p11) (envL L a c)) Q E s := by
  obtain ⟨ap, op, pmp, cdp, dcp, ep, fp⟩ := Z.W.fn 20 (by decide)
  refine callU (o := op) (fd := docF 20 pmp cdp dcp) (nmG S Z.W ep ⟨rfl, wpAny_items_cons (scI (i := i) S hl hI hm hi hz fun t1 tk1 => wpAny_items_cons (scI (i := j) S hl hI hm hj hz fun t2 tk2 => wpAny_items_cons (Subscript_ (nmL S hN (wpAny_Constant_int (sbL (i := n) S DN (by rw [List.getElem?_map, hp]; rfl) (by rw [List.length_map]; omega) fun nv Dn => wpAny_items_nil ⟨⟨S.fr.keep _ _ fp.at_, fp.d⟩, ?_⟩))))))⟩)
  refine law_line_spec (Z.ok.less (by omega)) (Z.W.keeps S.fr.keep) ep S.at Dn (.inr hsc) hpl (word_len _) fun v g' h' tk hx' hg' hn' Dv => ?_
  exact k v _ h' tk (fun p hp => List.mem_append_right _ hp) (S.back hx' hg' hn') (Dv.mono fun p hp => List.mem_append_left _ hp)
set_option maxHeartbeats 2000000 in
theorem partI {Q : Flow → Shared → Prop} {vN : Value} {q0 q1 q2 : Str × Dt} (Z : LX A mg mb h₀ L a c P oc) (hm : mg (fdAt 22).name = some (.ref am)) (x : LS h₀ L gi c P [] m cm cells ps g s.heap)
    (hl : h₀.IsList l vs.toArray) (hI : IntsAre vs ns) (hs : m "script" = some (.ref l)) (h18 : 18 ≤ ns.length) (hz : ns.length ≤ 63) (hN : m "numbers" = some vN) (DN : DL g vN (.list ([q0, q1, q2].map numQ)))
    (hP : ∀ p ∈ [q0, q1, q2], Scalar p.2 ∧ p.1.length ≤ 1000) (hj : JoinOk nlS ((trOf ns q0 q1 q2).map (·.1)) = true) (hF : TraceF (Txt.join nlS ((trOf ns q0 q1 q2).map (·.1))) (trOf ns q0 q1 q2))
    (k : ∀ h' tk m' cm' cells' ps' g', LS h₀ L gi c P [] m' cm' cells' ps' g' h' → Q (.ret (.bool true)) { s with heap := h', toks := tk }) :
    wpAny (model prog w) (A.deeper (envL L a c)) (execs ((fdAt 23).body.drop 26) (envL L a c)) Q E s := by
  have Y := x.Y
  have S := x.S
  conv in (List.drop 26 (fdAt 23).body) => whnf
  refine wpAny_execs_cons (wpAny_Assign_Name ?_ ?_)
  rotate_left
  · rfl
  have r0 := hP q0 (.head _)
  have r1 := hP q1 (.tail _ (.head _))
  have r2 := hP q2 (.tail _ (.tail _ (.head _)))
  refine List_ ?_
  refine wpAny_items_cons (lineE 13 10 0 Z S hl hI hs (by omega) (by omega) hz hN DN rfl (by simp) r0.1 r0.2 fun v₁ g₁ h₁ tk₁ hs₁ S₁ D₁ => ?_)
  dsimp only
  refine wpAny_items_cons (lineE (s := { s with heap := h₁, toks := tk₁ }) 14 11 1 Z S₁ hl hI hs (by omega) (by omega) hz hN (DN.mono hs₁) rfl (by simp) r1.1 r1.2 fun v₂ g₂ h₂ tk₂ hs₂ S₂ D₂ => ?_)
  dsimp only
  refine wpAny_items_cons (lineE (s := { s with heap := h₂, toks := tk₂ }) 15 12 2 Z S₂ hl hI hs (by omega) (by omega) hz hN ((DN.mono hs₁).mono hs₂) rfl (by simp) r2.1 r2.2 fun v₃ g₃ h₃ tk₃ hs₃ S₃ D₃ => ?_)
  dsimp only
  refine wpAny_items_nil (mkLst (s := { s with heap := h₃, toks := tk₃ }) S₃ (by simp) fun h₄ lb S₄ => stL (s := { s with heap := h₄, toks := tk₃ }) S₄ fun h₅ S₅ => ?_)
  dsimp only
  have hs' : ∀ p ∈ g₃, p ∈ (lb, lstO [v₁, v₂, v₃] 0) :: g₃ := fun p hp => .tail _ hp
  have hsg : ∀ p ∈ g, p ∈ (lb, lstO [v₁, v₂, v₃] 0) :: g₃ := fun p hp => hs' _ (hs₃ _ (hs₂ _ (hs₁ _ hp)))
  have DS : DL ((lb, lstO [v₁, v₂, v₃] 0) :: g₃) (.ref lb) (.list ((trOf ns q0 q1 q2).map lnQ)) := .list (.head _) (.cons (((D₁.mono hs₂).mono hs₃).mono hs') (.cons ((D₂.mono hs₃).mono hs') (.cons (D₃.mono hs') .nil)))
  have hML : (trOf ns q0 q1 q2).length = 3 := rfl
  have hoM : ∀ p ∈ trOf ns q0 q1 q2, ∀ l, p.2 = some l → l.length ≤ 1 := by
    intro p hp l hpl
    simp only [trOf, List.mem_cons, List.not_mem_nil, or_false] at hp
    rcases hp with rfl | rfl | rfl <;> exact line_ops hpl
  generalize (lb, lstO [v₁, v₂, v₃] 0) :: g₃ = G at *
  generalize trOf ns q0 q1 q2 = M at *
  clear S₁ S₂ S₃ S₄ D₁ D₂ D₃ hs₁ hs₂ hs₃ hs'
  refine wpAny_execs_cons (Assign_Tuple (dueE (s := { s with heap := h₅, toks := _ }) Z S₅ rfl DS (by omega) hoM fun v₄ g₄ h₄ tk₄ hs₄ S₄ D₄ => ?_))
  dsimp only
  refine unT Z.ok.hd S₄ D₄ rfl fun vs₅ h₅ D₅ S₅ => ?_
  cases D₅ with | @cons vp _ _ _ dp D₅ => cases D₅ with | @cons vd _ _ _ dd D₅ => cases D₅ with | nil =>
  refine assignInOrder_cons (wpAny_assign_Name (stL S₅ fun h₆ S₆ => assignInOrder_cons (wpAny_assign_Name (stL S₆ fun h₇ S₇ => assignInOrder_nil ?_))))
  dsimp only
  obtain ⟨m₇, hm₇⟩ : ∃ m₇, upd (upd (upd m (Str.ofString "lines") (.ref lb)) (Str.ofString "trace_place") vp) (Str.ofString "trace_due") vd = m₇ := ⟨_, rfl⟩
  have e1 : m₇ "lines" = some (.ref lb) := by rw [← hm₇]; rfl
  have e2 : m₇ "trace_place" = some vp := by rw [← hm₇]; rfl
  have e3 : m₇ "trace_due" = some vd := by rw [← hm₇]; rfl
  replace S₇ : St h₀ L gi m₇ ([] ++ (cells ++ [(P, tabO ps)])) g₄ h₇ := by rw [← hm₇]; exact S₇
  clear hm₇ S₆ S₅ S₄
  have DS₄ := DS.mono hs₄
  have hs₅ : ∀ p ∈ g, p ∈ g₄ := fun p hp => hs₄ _ (hsg p hp)
  refine wpAny_execs_cons (wpAny_Assign_Name ?_ ?_)
  rotate_left
  · rfl
  refine callM "str" "str.join" PySem.F.plainAttrs_str PySem.F.slot_str_join PySem.F.type_str_join (wpAny_Constant_str ⟨typeIs_str _ _ _, (fun a e => nomatch e), wpAny_items_cons ?_⟩)
  refine compE (h₀ := h₀) (L := L) (gi := gi) (m := m₇) none (fun _ => True) ((M.map (·.1)).map .str) (fun _ _ _ => False) (by decide) (by decide) rfl (by decide) (nmL S₇ e1 ?_)
  cases DS₄ with
  | @list l2 n2 vs2 _ hl2 hD2 =>
  refine wpAny_pyIter_list ⟨_, (S₇.led _ hl2).1, rfl, _, rfl⟩ ?_
  have S₈ := S₇.pushU { cls := .type "list_iterator", data := .fields #[.ref lb, .int 0 0] }
  refine ⟨_, [(h₇.objs.size, { cls := .type "list_iterator", data := .fields #[.ref lb, .int 0 0] })], [] ++ (cells ++ [(P, tabO ps)]), g₄, _, liP _ lb, rfl, src_list Z.ok.hd hl2 hD2 (lets_tuple _ _ _), S₈, ⟨_, rfl, rfl, rfl⟩, trivial, by simp, by rw [List.length_map]; omega, (fun C x s' _ h => h.elim), ?_, ?_⟩
  · intro i d e v C oC mC D n ys us' g' h tk hd he hv hsub _ hC S₂ hN₂
    rw [List.getElem?_map] at hd
    rw [List.getElem?_map, List.getElem?_map] at he
    cases hq : M[i]? with
    | none => rw [hq] at he; cases he
    | some q =>
    rw [hq] at hd he
    have he' : Dt.str q.1 = e := Option.some.inj he
    have hd' : lnQ q = d := Option.some.inj hd
    subst he' hd'
    have hv' : DL g' v (.tuple [.str q.1, optL q.2]) := hv
    refine unT Z.ok.hd S₂ hv' rfl fun vs₃ h₃ D₃ S₃ => ?_
    cases D₃ with | @cons v1 _ _ _ d1 D₃ => cases D₃ with | @cons v2 _ _ _ d2 D₃ => cases D₃ with | nil =>
    refine assignInOrder_cons (wpAny_assign_Name (stK S₃ hN₂ fun h₄ oC₄ S₄ N₄ => assignInOrder_cons (wpAny_assign_Name (stK S₄ N₄ fun h₅ oC₅ S₅ N₅ => assignInOrder_nil ?_))))
    dsimp only
    refine nmK S₅ N₅ rfl ?_
    exact ⟨oC₅, _, _, _, _, rfl, N₅, fun p hp => hp, trivial, d1, S₅⟩
  intro D₃ n₃ ys₃ g₅ h₈ tk₈ _ hys₃ hs₆ _ S₉
  have hys₃' : DLs g₅ ys₃ ((M.map (·.1)).map .str) := hys₃
  refine wpAny_items_nil (joinU S₉ (.head _) hys₃' hj fun t₉ tk₉ => ?_)
  have S₉' := S₉.freeze
  refine stY S₉' Y (fun h₁₀ cells₁₀ S₁₀ Y₁₀ => ?_) rfl (clL_nd L)
  dsimp only
  have cn : upd cm (Str.ofString "trace_text") (.str (Txt.join nlS (M.map (·.1))) t₉) "trace_text" = some (.str (Txt.join nlS (M.map (·.1))) t₉) := rfl
  have hs₇ : ∀ p ∈ g₄, p ∈ (D₃, lstO ys₃ n₃) :: g₅ := fun p hp => .tail _ (hs₆ _ hp)
  have x₁₀ : LS h₀ L gi c P [] m₇ (upd cm (Str.ofString "trace_text") (.str (Txt.join nlS (M.map (·.1))) t₉)) cells₁₀ ps ((D₃, lstO ys₃ n₃) :: g₅) h₁₀ := ⟨S₁₀, Y₁₀, x.K, x.T.mono fun p hp => hs₇ _ (hs₅ _ hp)⟩
  refine lawIf (s := { s with heap := h₁₀, toks := _ }) Z hm x₁₀ rfl rfl (fun f ps' g' h₁₁ tk₁₁ hs₁₁ S₁₁ X₁₁ => ?_) fun h₁₂ tk₁₂ ps₁₂ g₁₂ hs₁₂ x₁₂ => ?_
  · refine nmL S₁₁ e2 (nmL S₁₁ e3 ⟨g', h₁₁, tk₁₁, rfl, fun _ hp => hp, S₁₁, fun Q' kk => ?_⟩)
    have run := run_read_trace (prog := prog) (w := w) (mg := mg) (mb := mb) (s := { s with heap := h₁₁, toks := tk₁₁ }) X₁₁ S₁₁ (cellAt_of Y₁₀ cn rfl rfl) hF.xl hF.ll hF.each
    cases hp : plc 0 M with
    | none =>
      rw [hp] at dp
      have : vp = .none := by cases dp; rfl
      subst this
      obtain ⟨n1, pp, z1, z2, z3, z4⟩ := hF.good hp
      refine meetList Z hm X₁₁ S₁₁ z1 z2 z3 z4 ((dd.mono hs₇).mono hs₁₁) (run.ok (fun v g h => ?_) fun msg hB => ?_) kk
      · obtain ⟨ns', h1, h2⟩ := h
        rw [n1] at h1; cases h1
        exact h2
      · obtain ⟨i, l, ns', tail, h1, h2, h3, _⟩ := hB
        have := allRes_none h3 h1
        rw [n1] at this; cases this
    | some pl =>
      rw [hp] at dp
      obtain ⟨tp, rfl⟩ : ∃ tp, vp = .str pl tp := by cases dp; exact ⟨_, rfl⟩
      obtain ⟨b1, b2⟩ := hF.bad pl hp
      refine meetBad Z hm X₁₁ S₁₁ rfl (run.bad (fun v g h => ?_) fun msg hB => ?_) kk
      · obtain ⟨ns', h1, h2⟩ := h
        rw [b1] at h1; cases h1
      · obtain ⟨i, l, ns', tail, h1, h2, h3, rfl⟩ := hB
        exact b2 i l tail ns' h1 h2 h3
  try dsimp only
  refine wpAny_execs_cons (wpAny_Return_some (wpAny_Constant_bool ?_))
  exact k h₁₂ _ m₇ _ cells₁₀ ps₁₂ g₁₂ x₁₂
end
end Mine
end
section
open PySem PyProof.Rows PySem.Calls PySem.W
set_option maxRecDepth 100000
namespace Mine
def numsL (ns : List Int) : List (Str × Dt) := [numAt (ns.getD 1 0) (ns.getD 2 0), numAt (ns.getD 3 0) (ns.getD 4 0), numAt (ns.getD 5 0) (ns.getD 6 0)]
def namesL (ns : List Int) : List (Str × Bool × Option (List Str)) := [nameAt (ns.getD 7 0), nameAt (ns.getD 8 0), nameAt (ns.getD 9 0)]
def lowOf (ns : List Int) : Int := (ns.getD 16 0).fmod 5 - 2
section
variable {prog : Program} {w : World} {A : Around} {E : Value → Shared → Prop} {s : Shared} {h₀ : Heap} {L a c P am l : Addr} {oc : Obj} {gi : Lg} {m cm mg mb : Str → Option Value} {us u g cells : Lg} {ps : Array Value} {vs : List Value} {ns : List Int}
theorem Ev.sc {p1 p2 p3 : Pos} {k i : Nat} (S : St h₀ L gi m u g s.heap) (hl : h₀.IsList l vs.toArray) (hI : IntsAre vs ns) (hm : m "script" = some (.ref l)) (hi : i < ns.length) (hz : ns.length ≤ 63) :
    Ev prog w A E (envL L a c) s (.Subscript (.Name "script" p1) (.Constant (.int i) k p2) p3) (.int (ns.getD i 0)) :=
  fun tk _ h => scI (s := { s with toks := tk }) S hl hI hm hi hz fun _ _ => h _ _ (.int _ _)
/-- _law_number(script[i], script[j]) -/
theorem numE {Q : Value → Shared → Prop} {p1 p2 p3 p4 p5 p6 p7 p8 : Pos} {k1 k2 : Nat} (i j : Nat) (Z : LX A mg mb h₀ L a c P oc) (S : St h₀ L gi m u g s.heap) (hl : h₀.IsList l vs.toArray) (hI : IntsAre vs ns) (hm : m "script" = some (.ref l)) (hi : i < ns.length) (hj : j < ns.length) (hz : ns.length ≤ 63)
    (hT : ∀ p ∈ tabL, ∃ v, mg p.1 = some v ∧ DL g v p.2)
    (k : ∀ v g' h' tk, (∀ p ∈ g, p ∈ g') → St h₀ L gi m u g' h' → DL g' v (numQ (numAt (ns.getD i 0) (ns.getD j 0))) → Q v { s with heap := h', toks := tk }) :
    wpAny (model prog w) (A.deeper (envL L a c)) (eval (.Call (.Name "_law_number" p1) [.Subscript (.Name "script" p2) (.Constant (.int i) k1 p3) p4, .Subscript (.Name "script" p5) (.Constant (.int j) k2 p6) p7] [] p8) (envL L a c)) Q E s := by
  obtain ⟨ap, op, pmp, cdp, dcp, ep, fp⟩ := Z.W.fn 16 (by decide)
  refine callU (o := op) (fd := docF 16 pmp cdp dcp) (nmG S Z.W ep ⟨rfl, wpAny_items_cons (scI (i := i) S hl hI hm hi hz fun t1 tk1 => wpAny_items_cons (scI (i := j) S hl hI hm hj hz fun t2 tk2 => wpAny_items_nil ⟨⟨S.fr.keep _ _ fp.at_, fp.d⟩, ?_⟩))⟩)
  refine law_number_spec (Z.ok.less (by omega)) (Z.W.keeps S.fr.keep) ep S.at hT fun v g' h' tk hx' hg' hn' Dv => ?_
  exact k v _ h' tk (fun p hp => List.mem_append_right _ hp) (S.back hx' hg' hn') (Dv.mono fun p hp => List.mem_append_left _ hp)
/-- _law_name(script[i]) -/
theorem nameE {Q : Value → Shared → Prop} {p1 p2 p3 p4 p5 : Pos} {k1 : Nat} (i : Nat) (Z : LX A mg mb h₀ L a c P oc) (S : St h₀ L gi m u g s.heap) (hl : h₀.IsList l vs.toArray) (hI : IntsAre vs ns) (hm : m "script" = some (.ref l)) (hi : i < ns.length) (hz : ns.length ≤ 63)
    (k : ∀ v g' h' tk, (∀ p ∈ g, p ∈ g') → St h₀ L gi m u g' h' → DL g' v (nameQ (nameAt (ns.getD i 0))) → Q v { s with heap := h', toks := tk }) :
    wpAny (model prog w) (A.deeper (envL L a c)) (eval (.Call (.Name "_law_name" p1) [.Subscript (.Name "script" p2) (.Constant (.int i) k1 p3) p4] [] p5) (envL L a c)) Q E s := by
  obtain ⟨ap, op, pmp, cdp, dcp, ep, fp⟩ := Z.W.fn 17 (by decide)
  refine callU (o := op) (fd := docF 17 pmp cdp dcp) (nmG S Z.W ep ⟨rfl, wpAny_items_cons (scI (i := i) S hl hI hm hi hz fun t1 tk1 => wpAny_items_nil ⟨⟨S.fr.keep _ _ fp.at_, fp.d⟩, ?_⟩)⟩)
  refine law_name_spec (Z.ok.less (by omega)) (Z.W.keeps S.fr.keep) ep fun v g' h' tk hx' hg' Dv => ?_
  exact k v _ h' tk (fun p hp => List.mem_append_right _ hp) (S.back hx' (fun p hp => (hg' p hp).1) fun p hp => .inr (hg' p hp).2) (Dv.mono fun p hp => List.mem_append_left _ hp)
set_option maxHeartbeats 2000000 in
theorem partA {Q : Flow → Shared → Prop} (Z : LX A mg mb h₀ L a c P oc) (x : LS h₀ L gi c P [] m cm cells ps g s.heap)
    (hl : h₀.IsList l vs.toArray) (hI : IntsAre vs ns) (hm : m "script" = some (.ref l)) (hz : ns.length ≤ 63) (hT : ∀ p ∈ tabL, ∃ v, mg p.1 = some v ∧ DL g v p.2)
    (short : ∀ tk, Q (.ret (.bool true)) { s with toks := tk })
    (k : 18 ≤ ns.length → ∀ h' tk m' cm' cells' g' vN vM t tl tr, (∀ p ∈ g, p ∈ g') → m' "script" = some (.ref l) → m' "size" = some (.int (fm (ns.getD 0 0) 4 : Nat) t) → m' "numbers" = some vN → DL g' vN (.list ((numsL ns).map numQ)) → m' "names" = some vM → DL g' vM (.list ((namesL ns).map nameQ)) →
      cm' "lowest" = some (.int (lowOf ns) tl) → cm' "raw" = some (.int (ns.getD 17 0) tr) → LS h₀ L gi c P [] m' cm' cells' ps g' h' →
      wpAny (model prog w) (A.deeper (envL L a c)) (execs ((fdAt 23).body.drop 6) (envL L a c)) Q E { s with heap := h', toks := tk }) :
    wpAny (model prog w) (A.deeper (envL L a c)) (execs (fdAt 23).body (envL L a c)) Q E s := by
  have Y := x.Y
  have S := x.S
  have hlv := ints_len hI
  have isl : s.heap.IsList l vs.toArray := let ⟨o, ho, r⟩ := hl; ⟨o, S.fr.keep _ _ ho, r⟩
  conv in (fdAt 23).body => whnf
  refine wpAny_execs_cons (wpAny_If (wpAny_isTrue_Compare1 (callB "len" (nmB S Z.W (Z.W.free _ (by decide)) rfl ⟨rfl, wpAny_items_cons (nmL S hm (wpAny_items_nil (call_len_list isl (by rw [List.size_toArray]; omega) (wpAny_Constant_int (PyProof.Rows.lt_int (wpAny_truthy_bool ?_))))))⟩))))
  rw [List.size_toArray, hlv]
  by_cases h18 : (ns.length : Int) < 18
  · rw [decide_eq_true h18]
    exact wpAny_execs_cons (wpAny_Return_some (wpAny_Constant_bool (short _)))
  rw [decide_eq_false h18]
  have h18' : 18 ≤ ns.length := by omega
  refine wpAny_execs_nil ?_
  dsimp only
  refine asgE (s := { s with toks := 0 }) S (Ev.mod (Ev.sc (i := 0) S hl hI hm (by omega) hz) .ki (by decide)) fun v₁ h₁ tk₁ D₁ S₁ => ?_
  rw [fm_eq (x := ns.getD 0 0) (b := 4) (by decide)] at D₁
  dsimp only
  obtain ⟨t₁, rfl⟩ : ∃ t, v₁ = .int (fm (ns.getD 0 0) 4 : Nat) t := by cases D₁; exact ⟨_, rfl⟩
  have hm₁ : upd m (Str.ofString "size") (.int (fm (ns.getD 0 0) 4 : Nat) t₁) "script" = some (.ref l) := upd_ne (by decide) hm
  have hz₁ : upd m (Str.ofString "size") (.int (fm (ns.getD 0 0) 4 : Nat) t₁) "size" = some (.int (fm (ns.getD 0 0) 4 : Nat) t₁) := rfl
  generalize hM₁ : upd m (Str.ofString "size") (.int (fm (ns.getD 0 0) 4 : Nat) t₁) = m₁ at *
  -- numbers
  refine wpAny_execs_cons (wpAny_Assign_Name ?_ ?_)
  rotate_left
  · rfl
  refine List_ ?_
  refine wpAny_items_cons (numE (s := { s with heap := h₁, toks := tk₁ }) 1 2 Z S₁ hl hI hm₁ (by omega) (by omega) hz hT fun v₂ g₂ h₂ tk₂ hs₂ S₂ D₂ => ?_)
  dsimp only
  have hT₂ : ∀ p ∈ tabL, ∃ v, mg p.1 = some v ∧ DL g₂ v p.2 := fun p hp => let ⟨v, q1, q2⟩ := hT p hp; ⟨v, q1, q2.mono hs₂⟩
  refine wpAny_items_cons (numE (s := { s with heap := h₂, toks := tk₂ }) 3 4 Z S₂ hl hI hm₁ (by omega) (by omega) hz hT₂ fun v₃ g₃ h₃ tk₃ hs₃ S₃ D₃ => ?_)
  dsimp only
  have hT₃ : ∀ p ∈ tabL, ∃ v, mg p.1 = some v ∧ DL g₃ v p.2 := fun p hp => let ⟨v, q1, q2⟩ := hT₂ p hp; ⟨v, q1, q2.mono hs₃⟩
  refine wpAny_items_cons (numE (s := { s with heap := h₃, toks := tk₃ }) 5 6 Z S₃ hl hI hm₁ (by omega) (by omega) hz hT₃ fun v₄ g₄ h₄ tk₄ hs₄ S₄ D₄ => ?_)
  dsimp only
  refine wpAny_items_nil (mkLst (s := { s with heap := h₄, toks := tk₄ }) S₄ (by simp) fun h₅ bN S₅ => stL (s := { s with heap := h₅, toks := tk₄ }) S₅ fun h₆ S₆ => ?_)
  dsimp only
  have hs₅ : ∀ p ∈ g₄, p ∈ (bN, lstO [v₂, v₃, v₄] 0) :: g₄ := fun p hp => .tail _ hp
  have DN : DL ((bN, lstO [v₂, v₃, v₄] 0) :: g₄) (.ref bN) (.list ((numsL ns).map numQ)) := .list (.head _) (.cons (((D₂.mono hs₃).mono hs₄).mono hs₅) (.cons ((D₃.mono hs₄).mono hs₅) (.cons (D₄.mono hs₅) .nil)))
  have hsN : ∀ p ∈ g, p ∈ (bN, lstO [v₂, v₃, v₄] 0) :: g₄ := fun p hp => hs₅ _ (hs₄ _ (hs₃ _ (hs₂ _ hp)))
  have hm₂ : upd m₁ (Str.ofString "numbers") (.ref bN) "script" = some (.ref l) := upd_ne (by decide) hm₁
  have hz₂ : upd m₁ (Str.ofString "numbers") (.ref bN) "size" = some (.int (fm (ns.getD 0 0) 4 : Nat) t₁) := upd_ne (by decide) hz₁
  have hN₂ : upd m₁ (Str.ofString "numbers") (.ref bN) "numbers" = some (.ref bN) := rfl
  generalize (bN, lstO [v₂, v₃, v₄] 0) :: g₄ = G at *
  generalize upd m₁ (Str.ofString "numbers") (.ref bN) = m₂ at *
  clear S₂ S₃ S₄ S₅ D₂ D₃ D₄ hs₂ hs₃ hs₄ hs₅ hT₂ hT₃
  -- names
  refine wpAny_execs_cons (wpAny_Assign_Name ?_ ?_)
  rotate_left
  · rfl
  refine List_ ?_
  refine wpAny_items_cons (nameE (s := { s with heap := h₆, toks := _ }) 7 Z S₆ hl hI hm₂ (by omega) hz fun v₂ g₂ h₂ tk₂ hs₂ S₂ D₂ => ?_)
  dsimp only
  refine wpAny_items_cons (nameE (s := { s with heap := h₂, toks := tk₂ }) 8 Z S₂ hl hI hm₂ (by omega) hz fun v₃ g₃ h₃ tk₃ hs₃ S₃ D₃ => ?_)
  dsimp only
  refine wpAny_items_cons (nameE (s := { s with heap := h₃, toks := tk₃ }) 9 Z S₃ hl hI hm₂ (by omega) hz fun v₄ g₄ h₄ tk₄ hs₄ S₄ D₄ => ?_)
  dsimp only
  refine wpAny_items_nil (mkLst (s := { s with heap := h₄, toks := tk₄ }) S₄ (by simp) fun h₅ bM S₅ => stL (s := { s with heap := h₅, toks := tk₄ }) S₅ fun h₇ S₇ => ?_)
  dsimp only
  have hs₅ : ∀ p ∈ g₄, p ∈ (bM, lstO [v₂, v₃, v₄] 0) :: g₄ := fun p hp => .tail _ hp
  have DM : DL ((bM, lstO [v₂, v₃, v₄] 0) :: g₄) (.ref bM) (.list ((namesL ns).map nameQ)) := .list (.head _) (.cons (((D₂.mono hs₃).mono hs₄).mono hs₅) (.cons ((D₃.mono hs₄).mono hs₅) (.cons (D₄.mono hs₅) .nil)))
  have hsM : ∀ p ∈ G, p ∈ (bM, lstO [v₂, v₃, v₄] 0) :: g₄ := fun p hp => hs₅ _ (hs₄ _ (hs₃ _ (hs₂ _ hp)))
  have hm₃ : upd m₂ (Str.ofString "names") (.ref bM) "script" = some (.ref l) := upd_ne (by decide) hm₂
  have hz₃ : upd m₂ (Str.ofString "names") (.ref bM) "size" = some (.int (fm (ns.getD 0 0) 4 : Nat) t₁) := upd_ne (by decide) hz₂
  have hN₃ : upd m₂ (Str.ofString "names") (.ref bM) "numbers" = some (.ref bN) := upd_ne (by decide) hN₂
  have hM₃ : upd m₂ (Str.ofString "names") (.ref bM) "names" = some (.ref bM) := rfl
  generalize (bM, lstO [v₂, v₃, v₄] 0) :: g₄ = G' at *
  generalize upd m₂ (Str.ofString "names") (.ref bM) = m₃ at *
  clear S₂ S₃ S₄ S₅ D₂ D₃ D₄ hs₂ hs₃ hs₄ hs₅
  -- lowest, raw
  refine wpAny_execs_cons (wpAny_Assign_Name (Ev.sub (s := { s with heap := h₇, toks := 0 }) (Ev.mod (Ev.sc (i := 16) S₇ hl hI hm₃ (by omega) hz) .ki (by decide)) .ki _ _ fun v₈ tk₈ D₈ => ?_))
  obtain ⟨tl, rfl⟩ : ∃ t, v₈ = .int (lowOf ns) t := by cases D₈; exact ⟨_, rfl⟩
  refine stY S₇ Y (fun h₉ cells₉ S₉ Y₉ => ?_) rfl (clL_nd L)
  dsimp only
  refine wpAny_execs_cons (wpAny_Assign_Name (Ev.sc (s := { s with heap := h₉, toks := 0 }) (i := 17) S₉ hl hI hm₃ (by omega) hz _ _ fun v₁₀ tk₁₀ D₁₀ => ?_))
  obtain ⟨tr, rfl⟩ : ∃ t, v₁₀ = .int (ns.getD 17 0) t := by cases D₁₀; exact ⟨_, rfl⟩
  refine stY S₉ Y₉ (fun h₁₁ cells₁₁ S₁₁ Y₁₁ => ?_) rfl (clL_nd L)
  dsimp only
  exact k h18' h₁₁ _ m₃ _ cells₁₁ G' (.ref bN) (.ref bM) t₁ tl tr (fun p hp => hsM _ (hsN _ hp)) hm₃ hz₃ hN₃ (DN.mono hsM) hM₃ DM (upd_ne (by decide) upd_eq) upd_eq ⟨S₁₁, Y₁₁, x.K, x.T.mono fun p hp => hsM _ (hsN _ hp)⟩
end
end Mine
end
section
open PySem PyProof.Rows PySem.Calls PySem.W
set_option maxRecDepth 100000
namespace Mine
def trL (ns : List Int) : List Ln1 := trOf ns (numAt (ns.getD 1 0) (ns.getD 2 0)) (numAt (ns.getD 3 0) (ns.getD 4 0)) (numAt (ns.getD 5 0) (ns.getD 6 0))
/-- what the script's data must keep, with no program in sight -/
structure PlainOk (ns : List Int) : Prop where
  low : LowOk (lowOf ns)
  num : ∀ p ∈ numsL ns, NumF p (lowOf ns)
  len : ∀ p ∈ numsL ns, p.1.length ≤ 1000
  name : ∀ q ∈ namesL ns, NameF q
  ops : ∀ q ∈ namesL ns, ∀ l, q.2.2 = some l → l.length ≤ 1
  joinN : ∀ sz : Nat, JoinOk nlS (((namesL ns).take sz).map (·.1)) = true
  sheet : ∀ sz : Nat, SheetF (Txt.join nlS (((namesL ns).take sz).map (·.1))) (((namesL ns).take sz).map nmLn)
  joinT : JoinOk nlS ((trL ns).map (·.1)) = true
  trace : TraceF (Txt.join nlS ((trL ns).map (·.1))) (trL ns)
mutual
theorem DL.less {g : Lg} {P : Addr} (hP : ∀ o, (P, o) ∈ g → o.cls = .none) : ∀ {v : Value} {d : Dt}, DL g v d → DL (g.filter fun p => decide (p.1 ≠ P)) v d
  | _, _, .none => .none
  | _, _, .bool b => .bool b
  | _, _, .int i t => .int i t
  | _, _, .str x t => .str x t
  | _, _, .flt x t => .flt x t
  | _, _, .list h r => .list (List.mem_filter.mpr ⟨h, decide_eq_true fun (e : _ = P) => by subst e; have e' := hP _ h; simp [lstO] at e'⟩) (DLs.less hP r)
  | _, _, .tuple h c d r => .tuple (List.mem_filter.mpr ⟨h, decide_eq_true fun (e : _ = P) => by subst e; have e' := hP _ h; rw [c] at e'; cases e'⟩) c d (DLs.less hP r)
theorem DLs.less {g : Lg} {P : Addr} (hP : ∀ o, (P, o) ∈ g → o.cls = .none) : ∀ {vs : List Value} {ds : List Dt}, DLs g vs ds → DLs (g.filter fun p => decide (p.1 ≠ P)) vs ds
  | _, _, .nil => .nil
  | _, _, .cons h r => .cons (DL.less hP h) (DLs.less hP r)
end
section
variable {mg mb : Str → Option Value} {h : Heap} {P : Addr}
theorem of_hide {b : Addr} {o : Obj} (e : (h.hide P).get? b = some o) : b ≠ P ∧ h.get? b = some o := by
  by_cases q : b = P
  · rw [q, Heap.hide_self] at e; cases e
  · exact ⟨q, (Heap.hide_ne h q) ▸ e⟩
theorem to_hide {b : Addr} {o : Obj} (e : h.get? b = some o) (q : b ≠ P) : (h.hide P).get? b = some o := (Heap.hide_ne h q).trans e
theorem ns_hide {a : Addr} {m : Str → Option Value} (hP : h.get? P = some (tabO #[])) (x : h.Ns a m) : (h.hide P).Ns a m := by
  obtain ⟨o, es, ep, ho, hd, r⟩ := x
  refine ⟨o, es, ep, to_hide ho fun e => ?_, hd, r⟩
  rw [e, hP] at ho; cases ho; cases hd
theorem Wd.hide (W : Wd mg mb h) (hP : h.get? P = some (tabO #[])) : Wd mg mb (h.hide P) where
  g := ns_hide hP W.g
  b := ns_hide hP W.b
  nolimit := let ⟨mc, h1, h2⟩ := W.nolimit; ⟨mc, ns_hide hP h1, h2⟩
  builtins := W.builtins
  fn := fun i hi => by
    obtain ⟨a, o, pm, cd, dc, h1, h2⟩ := W.fn i hi
    refine ⟨a, o, pm, cd, dc, h1, to_hide h2.at_ fun e => ?_, h2.d, ?_⟩
    · have h3 := h2.at_
      have h4 := h2.d
      rw [e, hP] at h3; cases h3; cases h4
    · obtain ⟨c, oc, vs, t, q1, q2, q3, q4⟩ := h2.c
      refine ⟨c, oc, vs, t, q1, to_hide q2 fun e => ?_, q3, q4⟩
      rw [e, hP] at q2; cases q2; cases q3; cases q4
  free := W.free
  const := W.const
  tabs := by
    obtain ⟨gT, h1, h2⟩ := W.tabs
    have hn : ∀ o, (P, o) ∈ gT → o.cls = .none := fun o ho => by
      have := h1 _ ho
      rw [hP] at this; cases this; rfl
    refine ⟨gT.filter fun p => decide (p.1 ≠ P), fun p hp => ?_, fun p hp => ?_⟩
    · obtain ⟨q1, q2⟩ := List.mem_filter.mp hp
      exact to_hide (h1 p q1) (of_decide_eq_true q2)
    · obtain ⟨v, q1, q2⟩ := h2 p hp
      exact ⟨v, q1, q2.less hn⟩
theorem Bm.hide (B : Bm mg h) (hP : h.get? P = some (tabO #[])) : Bm mg (h.hide P) := by
  obtain ⟨bm, ob, h1, h2, h3, h4, h5, h6⟩ := B.ex
  refine ⟨bm, ob, h1, h2, to_hide h3 fun e => ?_, h4, h5, h6⟩
  rw [e, hP] at h3; cases h3; cases h6
end
theorem prs_mem {MS : List (Str × Bool × Option (List Str))} {NS : List (Str × Dt)} {p : Dt × Dt} (h : p ∈ prs MS NS) : ∃ q ∈ MS, ∃ n ∈ NS, p = (.str q.1, n.2) := by
  obtain ⟨i, hi⟩ := List.mem_iff_getElem?.mp h
  rw [prs, List.getElem?_zipWith_eq_some] at hi
  obtain ⟨q, n, h1, h2, rfl⟩ := hi
  exact ⟨q, List.mem_of_getElem? h1, n, List.mem_of_getElem? h2, rfl⟩
section
variable {prog : Program} {w : World} {A : Around} {E : Value → Shared → Prop} {s : Shared} {a c P l : Addr} {o : Obj} {pm doc : Value} {mg mb : Str → Option Value} {vs : List Value} {ns : List Int} {Q : Value → Shared → Prop}
set_option maxHeartbeats 4000000 in
theorem law_spec (hA : OkA A 8) (hfr : A.frames = some []) (W : Wd mg mb s.heap) (B : Bm mg s.heap) (fn : FnAt 23 s.heap a o pm (.ref c) doc) (C : Cd c P #[] s.heap) (hl : s.heap.IsList l vs.toArray) (hI : IntsAre vs ns) (hz : ns.length ≤ 63) (F : PlainOk ns)
    (hk : ∀ h' tk ps, Heap.ExtBut P s.heap h' → h'.TableAt c P ps → Q (.bool true) { s with heap := h', toks := tk }) :
    wpAny (model prog w) A (call (.ref a) [.ref l]) Q E s := by
  obtain ⟨am, om, pmm, cdm, dcm, em, _⟩ := W.fn 22 (by decide)
  have hP := C.tab.2
  obtain ⟨oc, vsc, hoc, hcc, hcd, hc11⟩ := C.tab.1
  have hcP : c ≠ P := fun e => by rw [e, hP] at hoc; cases hoc; cases hcc
  have W' := W.hide hP
  obtain ⟨gT, hgT, hT⟩ := W'.tabs
  have hl' : (s.heap.hide P).IsList l vs.toArray := by
    obtain ⟨ol, ho, h2, n, h3⟩ := hl
    refine ⟨ol, to_hide ho fun e => ?_, h2, n, h3⟩
    rw [e, hP] at ho; cases ho; cases h3
  refine wpAny_call (call_cells_ret (binds := [("script", .ref l)]) (by have := hA.dp; omega) fn.at_ fn.d W.nolimit fn.c rfl (by intro x hx; rw [List.mem_singleton.mp hx]; exact .inl rfl) (fun h₁ tk F₁ X => ?_) rfl rfl rfl)
  have hnd : ((cellsFrom 0 (fdAt 23).scope.names []).map (·.1)).Nodup := by decide
  obtain ⟨cells, N, Y⟩ := Cl.news (h₀ := s.heap) (Nat.le_refl _) fun n c hm => ⟨X.cell n c (lookup_of_mem_nodup (cellsFrom_names (fdAt 23).scope.names 0 (s.heap.objs.size + 1) [] [] rfl ▸ hnd) hm), X.above n c hm⟩
  have hcn : ∀ {cm : Str → Option Value} {cs : List (Str × Addr)} {cells : List (Addr × Obj)}, CellsAre cm cs cells → cells.map (·.1) = cs.map (·.2) := by
    intro cm cs cells Y
    induction Y with
    | nil => rfl
    | cons _ _ ih => simp [ih]
  have hPn : ∀ p ∈ cells, p.1 ≠ P := fun p hp e => by have := (N p hp).2.2; rw [e, hP] at this; cases this
  have S₀ : St (s.heap.hide P) s.heap.objs.size gT (bindL (envL s.heap.objs.size a c).kindOf [("script", .ref l)] fun _ => none) ([] ++ (cells ++ [(P, tabO #[])])) gT h₁ := by
    refine ⟨⟨F₁.ns, fun b ob e => F₁.keep b ob (of_hide e).2, by rw [Heap.hide_size]; exact Nat.le_refl _⟩, fun p hp => ?_, fun p hp => ?_, fun p hp q hq e => ?_, ?_, fun p hp => .inl hp⟩
    · rw [List.nil_append] at hp
      rcases List.mem_append.mp hp with hp | hp
      · obtain ⟨n1, n2, n3⟩ := N p hp
        refine ⟨n1, n2, ?_⟩
        cases e : (s.heap.hide P).get? p.1 with
        | none => rfl
        | some ob => rw [(of_hide e).2] at n3; cases n3
      · rw [List.mem_singleton.mp hp]
        exact ⟨F₁.keep _ _ hP, Nat.ne_of_lt (Heap.lt_size hP), Heap.hide_self _ _⟩
    · have := (of_hide (hgT p hp)).2
      exact ⟨F₁.keep _ _ this, Nat.ne_of_lt (Heap.lt_size this)⟩
    · rw [List.nil_append] at hq
      obtain ⟨g1, g2⟩ := of_hide (hgT p hp)
      rcases List.mem_append.mp hq with hq | hq
      · have := (N q hq).2.2; rw [← e, g2] at this; cases this
      · rw [List.mem_singleton.mp hq] at e; exact g1 e
    · rw [List.nil_append, List.map_append]
      refine List.nodup_append.mpr ⟨?_, by simp, fun x hx y hy e => ?_⟩
      · rw [hcn Y]; exact List.pairwise_map.mpr X.apart
      · obtain ⟨p, hp, rfl⟩ := List.mem_map.mp hx
        simp only [List.map_cons, List.map_nil, List.mem_singleton] at hy
        exact hPn p hp (e.trans hy)
  have hoc' : (s.heap.hide P).get? c = some oc := to_hide hoc hcP
  have Z : LX A mg mb (s.heap.hide P) s.heap.objs.size a c P oc := ⟨W', B.hide hP, hoc', hcP, Heap.get?_none_of_le (by rw [Heap.hide_size]; exact Nat.le_refl _), hfr, hA.deeper⟩
  have x₀ : LS (s.heap.hide P) s.heap.objs.size gT c P [] (bindL (envL s.heap.objs.size a c).kindOf [("script", .ref l)] fun _ => none) (bindC (envL s.heap.objs.size a c).kindOf [("script", .ref l)] fun _ => none) cells #[] gT h₁ :=
    ⟨S₀, Y, CdU.of hoc' S₀ (List.mem_append_right _ (List.mem_append_right _ (.head _))) (C.same (fun ob e => F₁.keep _ _ e) fun ob e => F₁.keep _ _ e), TabOk.nil _ _⟩
  have fin : ∀ {h' : Heap} (tk' : Nat) {m cm : Str → Option Value} {cells g : Lg} {ps : Array Value}, LS (s.heap.hide P) s.heap.objs.size gT c P [] m cm cells ps g h' → Q (.bool true) { s with heap := h', toks := tk' } := by
    intro h' tk' m cm cells g ps x
    have hPh : h'.get? P = some (tabO ps) := (x.S.un (P, tabO ps) (by rw [List.nil_append]; exact List.mem_append_right _ (.head _))).1
    refine hk h' tk' ps (fun b ob hb e => x.S.fr.keep _ _ (to_hide e hb)) ⟨⟨oc, vsc, x.S.fr.keep _ _ hoc', hcc, hcd, hc11⟩, hPh⟩
  have hm0 : bindL (envL s.heap.objs.size a c).kindOf [("script", .ref l)] (fun _ => none) "script" = some (.ref l) := rfl
  generalize bindL (envL s.heap.objs.size a c).kindOf [("script", .ref l)] (fun _ => none) = m₀ at *
  generalize bindC (envL s.heap.objs.size a c).kindOf [("script", .ref l)] (fun _ => none) = c₀ at *
  have hsz : fm (ns.getD 0 0) 4 < 4 := fm_lt (b := 4) (by decide)
  have hMl : (namesL ns).length = 3 := rfl
  show wpAny (model prog w) (A.deeper (envL s.heap.objs.size a c)) (execs (fdAt 23).body (envL s.heap.objs.size a c)) _ _ _
  refine partA (s := { s with heap := h₁, toks := tk }) Z x₀ hl' hI hm0 hz hT (fun tk => fin tk x₀) fun h18 hA' tkA mA cA cellsA gA vN vM t tl tr sA a1 a2 a3 a4 a5 a6 a7 a8 xA => ?_
  dsimp only
  refine partB (s := { s with heap := hA', toks := tkA }) Z em xA a3 a4 a7 F.low F.num fun hB tkB mB cB cellsB psB gB sB eB fB xB => ?_
  dsimp only
  refine partC (s := { s with heap := hB, toks := tkB }) Z em xB ((fB _ (by decide) (by decide)).trans a7) ((fB _ (by decide) (by decide)).trans a8) F.low fun hC tkC psC gC sC xC => ?_
  dsimp only
  have DN := ((a4.mono sB).mono sC)
  have DM := ((a6.mono sB).mono sC)
  refine partD (s := { s with heap := hC, toks := tkC }) Z em xC ((eB _ (by decide)).trans a5) DM F.name fun hD tkD mD cD cellsD psD gD sD eD fD xD => ?_
  dsimp only
  have DN := DN.mono sD
  have DM := DM.mono sD
  have d1 : mD "names" = some vM := (eD _ (by decide) (by decide) (by decide)).trans ((eB _ (by decide)).trans a5)
  have d2 : mD "size" = some (.int (fm (ns.getD 0 0) 4 : Nat) t) := (eD _ (by decide) (by decide) (by decide)).trans ((eB _ (by decide)).trans a2)
  have d3 : mD "numbers" = some vN := (eD _ (by decide) (by decide) (by decide)).trans ((eB _ (by decide)).trans a3)
  have d4 : mD "script" = some (.ref l) := (eD _ (by decide) (by decide) (by decide)).trans ((eB _ (by decide)).trans a1)
  refine partE (s := { s with heap := hD, toks := tkD }) Z xD d1 DM d2 d3 DN (by omega) (by omega) fun hE tkE mE cE cellsE gE b1 b2 b3 b4 vt sE eE fE k1 k2 k3 k4 k5 k6 k7 Dt0 T1 T2 xE => ?_
  dsimp only
  have DN := DN.mono sE
  have DM := DM.mono sE
  have u1 := (eE _ (by decide) (by decide) (by decide) (by decide) (by decide)).trans d1
  have u2 := (eE _ (by decide) (by decide) (by decide) (by decide) (by decide)).trans d2
  have u3 := (eE _ (by decide) (by decide) (by decide) (by decide) (by decide)).trans d3
  have u4 := (eE _ (by decide) (by decide) (by decide) (by decide) (by decide)).trans d4
  refine partF (s := { s with heap := hE, toks := tkE }) Z xE u1 DM u2 u3 DN (by omega) (by omega) (fun p hp => (F.num p hp).sc) F.name k5 k6 k7 Dt0 fun hF tkF mF gF v1 v2 sF eF f1 f2 f3 f4 xF => ?_
  dsimp only
  have DN := DN.mono sF
  have DM := DM.mono sF
  have w1 := (eF _ (by decide) (by decide) (by decide) (by decide) (by decide)).trans u1
  have w2 := (eF _ (by decide) (by decide) (by decide) (by decide) (by decide)).trans u2
  have w3 := (eF _ (by decide) (by decide) (by decide) (by decide) (by decide)).trans u3
  have w4 := (eF _ (by decide) (by decide) (by decide) (by decide) (by decide)).trans u4
  have w5 := (eF _ (by decide) (by decide) (by decide) (by decide) (by decide)).trans k3
  have w6 := (eF _ (by decide) (by decide) (by decide) (by decide) (by decide)).trans k4
  have hql := prs_len ((namesL ns).take (fm (ns.getD 0 0) 4)) (numsL ns)
  rw [List.length_take] at hql
  refine partG (s := { s with heap := hF, toks := tkF }) Z em xF k1 k2 w5 w6 f1 f3 (T1.mono sF) (T2.mono sF) f2 f4 (by omega) (fun p hp => ?_) fun hG tkG psG gG sG xG => ?_
  · obtain ⟨q, hq, n, hn, rfl⟩ := prs_mem hp
    have fq := F.name q (List.mem_of_mem_take hq)
    exact ⟨q.1, rfl, fq.nd, fq.str, (F.num n hn).sc⟩
  dsimp only
  have DN := DN.mono sG
  have DM := DM.mono sG
  refine partH (s := { s with heap := hG, toks := tkG }) Z em xG w1 DM w2 (by omega) (by omega) F.ops (F.joinN _) (F.sheet _) fun hH tkH mH cH cellsH psH gH sH eH xH => ?_
  dsimp only
  have DN := DN.mono sH
  refine partI (s := { s with heap := hH, toks := tkH }) Z em xH hl' hI ((eH _ (by decide) (by decide) (by decide)).trans w4) h18 hz ((eH _ (by decide) (by decide) (by decide)).trans w3) DN (fun p hp => ⟨(F.num p hp).sc, F.len p hp⟩) F.joinT F.trace fun h' tk' m' cm' cells' ps' g' xI => ?_
  exact fin tk' xI
end
end Mine
end
section
open PySem PyProof.Rows PySem.Calls PySem.W PySem.Builtin PySem.Builtin.Str PySem.StrLaws
set_option maxRecDepth 100000
namespace Mine
/-! a sheet, by what each of its lines gives -/
def resAll (R : Str → Option (List Dt)) : List Str → Option (List Dt)
  | [] => some []
  | l :: r => (R l).bind fun a => (resAll R r).map (a ++ ·)
theorem res_good {R : Str → Option (List Dt)} : ∀ {k : Nat} {ls : List Ln1}, (∀ p ∈ ls, R p.1 = p.2) → plc k ls = none → resAll R (ls.map (·.1)) = some (dueL ls)
  | _, [], _, _ => rfl
  | k, p :: r, hR, h => by
    have h1 := hR p (.head _)
    simp only [plc] at h
    cases hp : p.2 with
    | none => rw [hp] at h; cases h
    | some a =>
      rw [hp] at h h1
      have ih := res_good (fun q hq => hR q (.tail _ hq)) h
      have e : dueL (p :: r) = a ++ dueL r := by simp [dueL, hp]
      simp only [List.map_cons, resAll, h1, ih, e]; rfl
theorem res_bad {R : Str → Option (List Dt)} : ∀ {k : Nat} {ls : List Ln1} {pl : Str}, (∀ p ∈ ls, R p.1 = p.2) → plc k ls = some pl → resAll R (ls.map (·.1)) = none ∧
    ∀ (i : Nat) (l : Str) (d : List Dt), (ls.map (·.1))[i]? = some l → resAll R ((ls.map (·.1)).take i) = some d → R l = none → pl = plMsg (((k + i : Nat) : Int) + 1)
  | k, [], _, _, h => by cases h
  | k, p :: r, pl, hR, h => by
    have h1 := hR p (.head _)
    simp only [plc] at h
    cases hp : p.2 with
    | none =>
      rw [hp] at h h1
      refine ⟨by simp only [List.map_cons, resAll, h1]; rfl, fun i l d hl hd hn => ?_⟩
      cases i with
      | zero => exact (Option.some.inj h).symm
      | succ i =>
        simp only [List.map_cons, List.take_succ_cons, resAll, h1] at hd
        cases hd
    | some a =>
      rw [hp] at h h1
      obtain ⟨b1, b2⟩ := res_bad (fun q hq => hR q (.tail _ hq)) h
      refine ⟨by simp only [List.map_cons, resAll, h1, b1]; rfl, fun i l d hl hd hn => ?_⟩
      cases i with
      | zero => simp at hl; rw [← hl, h1] at hn; cases hn
      | succ i =>
        simp only [List.map_cons, List.take_succ_cons, resAll, h1] at hd
        cases hr : resAll R ((r.map (·.1)).take i) with
        | none => rw [hr] at hd; cases hd
        | some d' =>
          have := b2 i l d' (by simpa using hl) hr hn
          rw [this, show k + 1 + i = k + (i + 1) by omega]
theorem all_eq (ls : List Str) : allRes ls = resAll (fun l => lineRes (Txt.words l)) ls := by
  induction ls with
  | nil => rfl
  | cons l r ih => simp only [allRes, resAll, ih]
abbrev nmR (l : Str) : Option (List Dt) := (nmRes l).map fun a => a.map .str
theorem nm_eq (ls : List Str) : (nmAll ls).map (fun ns => ns.map Dt.str) = resAll nmR ls := by
  induction ls with
  | nil => rfl
  | cons l r ih =>
    simp only [nmAll, resAll, ← ih, nmR]
    cases nmRes l <;> simp
    cases nmAll r <;> simp
theorem starts_app (y z : Str) : Txt.startswith (y ++ z) y = true := by
  unfold Txt.startswith subAt
  have h1 : (y ++ z).length = y.length + z.length := len_app y z
  rw [Bool.and_eq_true]
  refine ⟨by simp [h1], ?_⟩
  rw [beq_iff_eq]
  apply Array.toList_inj.mp
  have e : (y ++ z).cps.toList = y.cps.toList ++ z.cps.toList := cat_list y z
  have hl : y.length = y.cps.toList.length := by simp [Str.length]
  simp [Array.toList_extract, List.extract, e, hl]
theorem empty_app (x : Str) : Str.empty ++ x = x := str_inj (by rw [cat_list]; rfl)
theorem starts_pl (k : Int) (tail : Str) : Txt.startswith (lineMsg k tail) (plMsg k) = true := by
  have e : lineMsg k tail = plMsg k ++ tail := by unfold lineMsg plMsg; rw [empty_app]
  rw [e]; exact starts_app _ _
theorem nlS_eq : nlS = ⟨#[10]⟩ := by decide
theorem nlS_len : nlS.length = 1 := by decide
theorem split_lines {ls : List Str} (hne : ls ≠ []) (hf : ∀ l ∈ ls, 10 ∉ l.cps.toList) : Txt.split (Txt.join nlS ls) "\n" = ls := by
  have e : ("\n" : Str) = ⟨#[10]⟩ := by decide
  rw [nlS_eq, e]; exact split_join hne hf
theorem join_ok {texts : List Str} (h : ∀ y ∈ texts, y.length ≤ 2000) (hl : texts.length ≤ 4) : JoinOk nlS texts = true := by
  unfold JoinOk
  have := @StrLaws.joinFits nlS texts 2000 h (by rw [nlS_len]; omega)
  rw [this]; rfl
theorem join_len {texts : List Str} (h : ∀ y ∈ texts, y.length ≤ 2000) (hl : texts.length ≤ 4) : (Txt.join nlS texts).length + 2 ≤ sizeLine := by
  have e2 := size_glued nlS texts
  have e3 := StrLaws.sumLen_le (B := 2000) texts h
  have e4 : Txt.join nlS texts = Builtin.Str.glued nlS texts := rfl
  have e5 : (20000 : Nat) ≤ sizeLine := by decide
  rw [e4, e2, nlS_len]
  omega

/-! numbers -/
def dig (d : Str) : Bool := Txt.isascii (Txt.removeprefix d "-") && Txt.isdigit (Txt.removeprefix d "-")
def readV (d : Str) : Int := if Txt.startswith d "-" then -(PySem.intText? (numT d)).getD 0 else (PySem.intText? (numT d)).getD 0
def isI : Dt → Option Int
  | .int n => some n
  | _ => none
def spaceless (d : Str) : Bool := d.cps.toList.all fun c => !Unicode.isSpace c && decide (c < 16 ^ 8)
def numB (p : Str × Dt) : Bool := spaceless p.1 && decide (p.1.length ≤ 100) && (if dig p.1 then decide ((zless p.1).length ≤ 19) && (PySem.intText? (numT p.1)).isSome && decide (isI p.2 = some (readV p.1)) else (isI p.2).isNone)
theorem num9 : ∀ r : Fin 9, numB (itoa ((r.val : Int) + 1), .int ((r.val : Int) + 1)) = true ∧ numB (Str.ofString "0" ++ itoa ((r.val : Int) + 1), .int ((r.val : Int) + 1)) = true := by decide +kernel
theorem num5 : ∀ r : Fin 5, numB (itoa ((r.val : Int) - 2), .int ((r.val : Int) - 2)) = true := by decide +kernel
theorem num3 : ∀ r : Fin 3, numB (itoa (999999999999999999 + (r.val : Int)), .int (999999999999999999 + (r.val : Int))) = true ∧ numB (itoa (-(999999999999999999 + (r.val : Int))), .int (-(999999999999999999 + (r.val : Int)))) = true ∧ numB (timesS (Str.ofString "0") 20 ++ itoa (999999999999999999 + (r.val : Int)), .int (999999999999999999 + (r.val : Int))) = true := by decide +kernel
theorem num2 : ∀ r : Fin 2, numB (Str.ofString "-00" ++ itoa (r.val : Int), .int (-(r.val : Int))) = true := by decide +kernel
theorem num6 : ∀ r : Fin 6, numB (junkT.getD r.val ("", .none)) = true := by decide +kernel
theorem junk_sc : ∀ r : Fin 6, Scalar (junkT.getD r.val ("", .none)).2
  | ⟨0, _⟩ => trivial | ⟨1, _⟩ => trivial | ⟨2, _⟩ => trivial | ⟨3, _⟩ => trivial | ⟨4, _⟩ => trivial | ⟨5, _⟩ => trivial
theorem num_all (kind n : Int) : numB (numAt kind n) = true ∧ Scalar (numAt kind n).2 := by
  have h8 : fm kind 8 < 8 := fm_lt (b := 8) (by decide)
  unfold numAt
  generalize fm kind 8 = k at *
  have a9 := num9 ⟨fm n 9, fm_lt (b := 9) (by decide)⟩
  have a5 := num5 ⟨fm n 5, fm_lt (b := 5) (by decide)⟩
  have a3 := num3 ⟨fm n 3, fm_lt (b := 3) (by decide)⟩
  have a2 := num2 ⟨fm n 2, fm_lt (b := 2) (by decide)⟩
  have a6 := num6 ⟨fm n 6, fm_lt (b := 6) (by decide)⟩
  have s6 := junk_sc ⟨fm n 6, fm_lt (b := 6) (by decide)⟩
  dsimp only at a9 a5 a3 a2 a6 s6
  rw [← fm_eq (x := n) (b := 9) (by decide)] at a9
  rw [← fm_eq (x := n) (b := 5) (by decide)] at a5
  rw [← fm_eq (x := n) (b := 3) (by decide)] at a3
  rw [← fm_eq (x := n) (b := 2) (by decide)] at a2
  have hc : k = 0 ∨ k = 1 ∨ k = 2 ∨ k = 3 ∨ k = 4 ∨ k = 5 ∨ k = 6 ∨ k = 7 := (by decide : ∀ k : Fin 8, k.val = 0 ∨ k.val = 1 ∨ k.val = 2 ∨ k.val = 3 ∨ k.val = 4 ∨ k.val = 5 ∨ k.val = 6 ∨ k.val = 7) ⟨k, h8⟩
  rcases hc with rfl | rfl | rfl | rfl | rfl | rfl | rfl | rfl
  · exact ⟨a9.1, trivial⟩
  · exact ⟨a5, trivial⟩
  · exact ⟨a3.1, trivial⟩
  · exact ⟨a3.2.1, trivial⟩
  · exact ⟨a3.2.2, trivial⟩
  · exact ⟨a2, trivial⟩
  · exact ⟨a6, s6⟩
  · exact ⟨a9.2, trivial⟩
structure NumG (p : Str × Dt) : Prop where
  flat : ∀ c ∈ p.1.cps.toList, Unicode.isSpace c = false
  chars : ∀ c ∈ p.1.cps.toList, c < 16 ^ 8
  len : p.1.length ≤ 100
  sane : Sane p.1
  num : NumT p.1
  sc : Scalar p.2
  ag : ∀ lo, Agree p lo
theorem isI_some {d : Dt} {n : Int} (h : isI d = some n) : d = .int n := by cases d <;> simp [isI] at h; rw [h]
theorem numG {p : Str × Dt} (h : numB p = true) (hs : Scalar p.2) : NumG p := by
  unfold numB at h
  simp only [Bool.and_eq_true, decide_eq_true_eq] at h
  obtain ⟨⟨h1, h2⟩, h3⟩ := h
  unfold spaceless at h1
  simp only [List.all_eq_true, Bool.and_eq_true, Bool.not_eq_true', decide_eq_true_eq] at h1
  have hw := wordOk_of (x := p.1) (by omega) (fun c hc => (h1 c hc).2) (fun hd _ => by
    have hd' : dig p.1 = true := hd
    rw [hd'] at h3
    simp only [if_true, Bool.and_eq_true] at h3
    exact h3.1.2)
  refine ⟨fun c hc => (h1 c hc).1, fun c hc => (h1 c hc).2, h2, hw.1, hw.2, hs, fun lo => ?_⟩
  cases hd : dig p.1 with
  | true =>
    rw [hd] at h3
    simp only [if_true, Bool.and_eq_true, decide_eq_true_eq] at h3
    obtain ⟨⟨h4, h5⟩, h6⟩ := h3
    have h7 := isI_some h6
    have hp : parseN p.1 lo = chk p.2 lo := by
      unfold parseN
      unfold dig at hd
      rw [if_neg (by rw [hd]; decide), if_neg (by omega), h7]
      rfl
    refine ⟨fun hw => ?_, fun hw => ?_⟩
    · obtain ⟨n, e1, e2⟩ := chk_ok hw
      exact ⟨n, e1, hp.trans e2⟩
    · have hb := chk_bad hw
      cases e : chk p.2 lo with
      | ok n => exact absurd e (hb n)
      | error msg => exact ⟨msg, hp.trans e⟩
  | false =>
    rw [hd] at h3
    have hw : withinD p.2 lo = false := by
      have h3' : (isI p.2).isNone = true := h3
      cases hp : p.2 <;> rw [hp] at h3' <;> first | rfl | (simp [isI] at h3')
    refine ⟨fun h => (by rw [hw] at h; cases h), fun _ => ⟨junkMsg p.1, ?_⟩⟩
    unfold parseN
    unfold dig at hd
    rw [if_pos hd]
theorem num_g (kind n : Int) : NumG (numAt kind n) := numG (num_all kind n).1 (num_all kind n).2
theorem low_ok (n : Int) : LowOk (n.fmod 5 - 2) := by
  have key : ∀ r : Fin 5, (rangeMsg ((r.val : Int) - 2)).length ≤ 1000 := by decide +kernel
  have := key ⟨fm n 5, fm_lt (b := 5) (by decide)⟩
  dsimp only at this
  rw [← fm_eq (x := n) (b := 5) (by decide)] at this
  have h1 := Int.fmod_lt_of_pos n (b := 5) (by decide)
  have h2 := Int.fmod_nonneg_of_pos n (b := 5) (by decide)
  exact ⟨logs _ (by omega) (by omega), Nat.le_trans this (by decide)⟩

/-! names -/
def nameB (q : Str × Bool × Option (List Str)) : Bool := decide (nameOk (.str q.1) = q.2.1) && decide (nmRes q.1 = q.2.2) && decide (q.1.length ≤ 300) && (q.1.cps.toList.all fun c => decide (c ≠ 10) && decide (c < 16 ^ 8)) && decide ((Txt.strip q.1).length ≤ 300) && ((Txt.strip q.1).cps.toList.all fun c => decide (c < 16 ^ 8)) &&
  PyData.strOk q.1 && (match q.2.2 with | none => true | some l => decide (l.length ≤ 1) && l.all PyData.strOk)
theorem names_all : ∀ i : Fin 12, nameB ((nameLW wideS).getD i.val ("", false, none)) = true := by decide +kernel
structure NameG (q : Str × Bool × Option (List Str)) : Prop where
  f : NameF q
  res : nmRes q.1 = q.2.2
  len : q.1.length ≤ 300
  free : 10 ∉ q.1.cps.toList
  strip : Sane (Txt.strip q.1)
  ops : ∀ l, q.2.2 = some l → l.length ≤ 1 ∧ ∀ x ∈ l, PyData.strOk x = true
theorem name_g (kind : Int) : NameG (nameAt kind) := by
  have h := names_all ⟨fm kind 12, fm_lt (b := 12) (by decide)⟩
  replace h : nameB (nameAt kind) = true := h
  generalize nameAt kind = q at *
  unfold nameB at h
  simp only [Bool.and_eq_true, decide_eq_true_eq, List.all_eq_true] at h
  obtain ⟨⟨⟨⟨⟨⟨⟨h1, h2⟩, h3⟩, h4⟩, h5⟩, h6⟩, h7⟩, h8⟩ := h
  refine ⟨⟨sane_of (by omega) fun c hc => (h4 c hc).2, h1, h7⟩, h2, h3, fun hc => (h4 10 hc).1 rfl, sane_of (by omega) h6, fun l hl => ?_⟩
  rw [hl] at h8
  simp only [Bool.and_eq_true, decide_eq_true_eq, List.all_eq_true] at h8
  exact h8
theorem empty_split : Txt.split (Txt.join nlS []) "\n" = [Str.ofString ""] := by decide +kernel
theorem sheet_f {M : List (Str × Bool × Option (List Str))} (hG : ∀ q ∈ M, NameG q) (hl : M.length ≤ 4) : SheetF (Txt.join nlS (M.map (·.1))) (M.map nmLn) := by
  have hlen : ∀ y ∈ M.map (·.1), y.length ≤ 2000 := fun y hy => by
    obtain ⟨q, hq, rfl⟩ := List.mem_map.mp hy
    have := (hG q hq).len; omega
  have hlM : (M.map (·.1)).length ≤ 4 := by rw [List.length_map]; exact hl
  by_cases hM : M = []
  · subst hM
    have e := empty_split
    have e0 : Txt.strip (Str.ofString "") = Str.ofString "" := by decide +kernel
    refine ⟨join_len hlen hlM, ?_, ?_, fun _ => ⟨[], ?_, rfl, fun _ h => nomatch h⟩, fun pl h => by cases h⟩
    · rw [show ([] : List (Str × Bool × Option (List Str))).map (·.1) = [] from rfl, e]; decide
    · rw [show ([] : List (Str × Bool × Option (List Str))).map (·.1) = [] from rfl, e]
      intro l hl
      rw [List.mem_singleton.mp hl, e0]
      exact ⟨by decide, sane_of (by decide) fun c hc => by cases hc⟩
    · rw [show ([] : List (Str × Bool × Option (List Str))).map (·.1) = [] from rfl, e]
      simp only [nmAll, nmRes, e0]; rfl
  · have e := split_lines (ls := M.map (·.1)) (by simpa using hM) fun l hl => by
      obtain ⟨q, hq, rfl⟩ := List.mem_map.mp hl
      exact (hG q hq).free
    have hR : ∀ p ∈ M.map nmLn, nmR p.1 = p.2 := fun p hp => by
      obtain ⟨q, hq, rfl⟩ := List.mem_map.mp hp
      show (nmRes q.1).map _ = q.2.2.map _
      rw [(hG q hq).res]
    have hmm : (M.map nmLn).map (·.1) = M.map (·.1) := by rw [List.map_map]; rfl
    refine ⟨join_len hlen hlM, by rw [e, List.length_map]; omega, ?_, fun hp => ?_, fun pl hp => ?_⟩
    · rw [e]; intro l hl
      obtain ⟨q, hq, rfl⟩ := List.mem_map.mp hl
      have := (hG q hq).len
      exact ⟨by omega, (hG q hq).strip⟩
    · have h1 := res_good hR hp
      rw [hmm, ← nm_eq] at h1
      rw [e]
      cases hn : nmAll (M.map (·.1)) with
      | none => rw [hn] at h1; cases h1
      | some ns =>
        rw [hn] at h1
        refine ⟨ns, rfl, (Option.some.inj h1).symm, ?_⟩
        have : ∀ (M : List (Str × Bool × Option (List Str))) (ns : List Str), (∀ q ∈ M, NameG q) → nmAll (M.map (·.1)) = some ns → ∀ x ∈ ns, PyData.strOk x = true := by
          intro M
          induction M with
          | nil => intro ns _ h x hx; cases h; cases hx
          | cons q r ih =>
            intro ns hG h x hx
            simp only [List.map_cons, nmAll, (hG q (.head _)).res] at h
            cases h2 : q.2.2 with
            | none => rw [h2] at h; cases h
            | some l =>
              rw [h2] at h
              cases h3 : nmAll (r.map (·.1)) with
              | none => rw [h3] at h; cases h
              | some ns' =>
                rw [h3] at h
                cases h
                rcases List.mem_append.mp hx with hx | hx
                · exact ((hG q (.head _)).ops l h2).2 x hx
                · exact ih ns' (fun q hq => hG q (.tail _ hq)) h3 x hx
        exact this M ns hG hn
    · obtain ⟨b1, b2⟩ := res_bad hR hp
      rw [hmm, ← nm_eq] at b1
      rw [e]
      refine ⟨by simpa using b1, fun i l tail ns h1 h2 h3 => ?_⟩
      have b3 := b2 i l (ns.map .str) (by rw [hmm]; exact h1) (by rw [hmm, ← nm_eq, h2]; rfl) (by show (nmRes l).map _ = none; rw [h3]; rfl)
      rw [b3, Nat.zero_add]
      exact starts_pl _ _
end Mine
end
section
open PySem PyProof.Rows PySem.Calls PySem.W PySem.Builtin PySem.Builtin.Str PySem.StrLaws
set_option maxRecDepth 100000
namespace Mine
def opD (q : Str × Str × Int) : Dt := .tuple [.str q.1, .str q.2.1, .int q.2.2]
def opP (q : Str × Str × Int) : PyData := .tuple [.str q.1, .str q.2.1, .int q.2.2]
theorem ofP_op (q : Str × Str × Int) : ofP (opP q) = opD q := by simp [opP, opD, ofP, ofPs]
theorem ofP_ops (qs : List (Str × Str × Int)) : ofP (.list (qs.map opP)) = .list (qs.map opD) := by
  simp only [ofP]
  congr 1
  induction qs with
  | nil => rfl
  | cons q r ih => simp only [List.map_cons, ofPs, ih, ofP_op]
def opOk (q : Str × Str × Int) : Bool := PyData.strOk q.1 && PyData.strOk q.2.1
theorem ops_shaped {qs : List (Str × Str × Int)} (h : ∀ q ∈ qs, opOk q = true) : PySem.SeqAt.shaped (.list (qs.map opP)) = true := by
  have h1 : PyData.canLayAll0 (qs.map opP) = true := by
    induction qs with
    | nil => simp [PyData.canLayAll0]
    | cons q r ih =>
      have e1 := h q (.head _)
      have e2 := ih fun x hx => h x (.tail _ hx)
      simp only [opOk, Bool.and_eq_true] at e1
      simp [PyData.canLayAll0, opP, PyData.canLay0, e1.1, e1.2, e2]
  have h2 : PyData.depthAll (qs.map opP) ≤ 3 := by
    clear h h1
    induction qs with
    | nil => simp [PyData.depthAll]
    | cons q r ih => simp [PyData.depthAll, opP, PyData.depth] at ih ⊢; omega
  simp [PySem.SeqAt.shaped, PyData.canLay0, h1, PyData.depth]; omega
theorem ops_eqv (qs : List (Str × Str × Int)) : PyData.eqv (.list (qs.map opP)) (.list (qs.map opP)) = true := by
  simp only [PyData.eqv]
  induction qs with
  | nil => simp [PyData.eqvAll]
  | cons q r ih => simp [PyData.eqvAll, opP, PyData.eqv] at ih ⊢; exact ih

/-! words -/
def wdB (q : Str × Bool) : Bool := spaceless q.1 && !q.1.cps.toList.isEmpty && decide (q.1.length ≤ 300) && !dig q.1 && decide (nameOk (.str q.1) = q.2) && PyData.strOk q.1
theorem words_all : ∀ i : Fin 8, wdB ((wordLW wideS).getD i.val ("", false)) = true := by decide +kernel
theorem const_word : ∀ y ∈ [Str.ofString "get", Str.ofString "put", Str.ofString "#", Str.ofString "#put", Str.ofString "GET", Str.ofString "1"], spaceless y = true ∧ y.cps.toList.isEmpty = false ∧ y.length ≤ 300 ∧ (dig y = true → (zless y).length ≤ 19 → (PySem.intText? (numT y)).isSome = true) := by decide +kernel
structure WordG (y : Str) : Prop where
  solid : Solid y
  len : y.length ≤ 300
  ok : Sane y ∧ NumT y
theorem flat_of {d : Str} (h : spaceless d = true) : (∀ c ∈ d.cps.toList, Unicode.isSpace c = false) ∧ ∀ c ∈ d.cps.toList, c < 16 ^ 8 := by
  unfold spaceless at h
  simp only [List.all_eq_true, Bool.and_eq_true, Bool.not_eq_true', decide_eq_true_eq] at h
  exact ⟨fun c hc => (h c hc).1, fun c hc => (h c hc).2⟩
theorem const_g {y : Str} (hy : y ∈ [Str.ofString "get", Str.ofString "put", Str.ofString "#", Str.ofString "#put", Str.ofString "GET", Str.ofString "1"]) : WordG y := by
  obtain ⟨h1, h2, h3, h4⟩ := const_word y hy
  obtain ⟨f1, f2⟩ := flat_of h1
  exact ⟨⟨by simpa using h2, f1⟩, h3, wordOk_of (by omega) f2 h4⟩
theorem word_g (wk : Int) : WordG (wordAt wk).1 ∧ nameOk (.str (wordAt wk).1) = (wordAt wk).2 ∧ PyData.strOk (wordAt wk).1 = true := by
  have h := words_all ⟨fm wk 8, fm_lt (b := 8) (by decide)⟩
  replace h : wdB (wordAt wk) = true := h
  generalize wordAt wk = q at *
  unfold wdB at h
  simp only [Bool.and_eq_true, decide_eq_true_eq, Bool.not_eq_true'] at h
  obtain ⟨⟨⟨⟨⟨h1, h2⟩, h3⟩, h4⟩, h5⟩, h6⟩ := h
  obtain ⟨f1, f2⟩ := flat_of h1
  refine ⟨⟨⟨by simpa using h2, f1⟩, h3, wordOk_of (by omega) f2 fun hd => ?_⟩, h5, h6⟩
  have hd' : dig q.1 = true := hd
  rw [h4] at hd'; cases hd'
theorem sp32 : Unicode.isSpace 32 = true := by decide +kernel
theorem sp13 : Unicode.isSpace 13 = true := by decide +kernel
theorem sp9 : Unicode.isSpace 9 = true := by decide +kernel
theorem sp10 : Unicode.isSpace 10 = true := by decide +kernel
theorem free_flat {y : Str} (h : ∀ c ∈ y.cps.toList, Unicode.isSpace c = false) : 10 ∉ y.cps.toList := fun hm => by
  have := h 10 hm
  rw [sp10] at this; cases this
theorem wgo_next {c : Nat} (hc : Unicode.isSpace c = true) {f : Str} (hf : Solid f) (r : List Nat) : wgo (f.cps.toList ++ c :: r) none = f.cps.toList :: wgo r none := by rw [wgo_word hf, wgo_cut hc]
theorem wgo_last {f : Str} (hf : Solid f) : wgo f.cps.toList none = [f.cps.toList] := by
  have h := wgo_word hf []
  rw [List.append_nil] at h
  rw [h]; rfl
/-- a text without blanks: one word, or none -/
def tw (t : Str) : List Str := if t.cps.toList = [] then [] else [t]
theorem wgo_flat {t : Str} (ht : ∀ c ∈ t.cps.toList, Unicode.isSpace c = false) : wgo t.cps.toList none = (tw t).map fun y => y.cps.toList := by
  unfold tw
  split
  · rename_i h; rw [h]; rfl
  · rename_i h; exact wgo_last ⟨h, ht⟩
theorem wgo_flat1 {t : Str} {c : Nat} (hc : Unicode.isSpace c = true) (ht : ∀ c ∈ t.cps.toList, Unicode.isSpace c = false) : wgo (t.cps.toList ++ [c]) none = (tw t).map fun y => y.cps.toList := by
  unfold tw
  split
  · rename_i h; rw [h, List.nil_append, wgo_skip hc]; rfl
  · rename_i h; rw [wgo_next hc ⟨h, ht⟩]; rfl
abbrev K (x : String) : Str := Str.ofString x
section
variable {x t : Str} (hx : Solid x) (ht : ∀ c ∈ t.cps.toList, Unicode.isSpace c = false)
theorem sg : Solid (K "get") := (const_g (by simp)).solid
theorem sput : Solid (K "put") := (const_g (by simp)).solid
include hx
theorem w0 : Txt.words (K "get " ++ x) = [K "get", x] := by
  apply words_eq
  rw [cat_list, show (K "get ").cps.toList = (K "get").cps.toList ++ [32] by decide, List.append_assoc, List.singleton_append, wgo_next sp32 sg, wgo_last hx]; rfl
theorem w2 : Txt.words (K "\tget  " ++ x ++ K " ") = [K "get", x] := by
  apply words_eq
  rw [cat_list, cat_list, show (K "\tget  ").cps.toList = 9 :: ((K "get").cps.toList ++ 32 :: [32]) by decide, show (K " ").cps.toList = [32] by decide]
  simp only [List.cons_append, List.append_assoc, List.nil_append]
  rw [wgo_skip sp9, wgo_next sp32 sg, wgo_skip sp32, wgo_next sp32 hx]; rfl
theorem w5 : Txt.words (K " # " ++ x) = [K "#", x] := by
  apply words_eq
  rw [cat_list, show (K " # ").cps.toList = 32 :: ((K "#").cps.toList ++ [32]) by decide]
  simp only [List.cons_append, List.append_assoc, List.nil_append]
  rw [wgo_skip sp32, wgo_next sp32 (const_g (by simp)).solid, wgo_last hx]; rfl
theorem w7 : Txt.words (K "get " ++ x ++ K " 1") = [K "get", x, K "1"] := by
  apply words_eq
  rw [cat_list, cat_list, show (K "get ").cps.toList = (K "get").cps.toList ++ [32] by decide, show (K " 1").cps.toList = 32 :: (K "1").cps.toList by decide]
  simp only [List.cons_append, List.append_assoc, List.nil_append]
  rw [wgo_next sp32 sg, wgo_next sp32 hx, wgo_last (const_g (by simp)).solid]; rfl
theorem w8 : Txt.words (K "put " ++ x) = [K "put", x] := by
  apply words_eq
  rw [cat_list, show (K "put ").cps.toList = (K "put").cps.toList ++ [32] by decide, List.append_assoc, List.singleton_append, wgo_next sp32 sput, wgo_last hx]; rfl
theorem w10 : Txt.words (K "put " ++ x ++ K " 1 1") = [K "put", x, K "1", K "1"] := by
  apply words_eq
  rw [cat_list, cat_list, show (K "put ").cps.toList = (K "put").cps.toList ++ [32] by decide, show (K " 1 1").cps.toList = 32 :: ((K "1").cps.toList ++ 32 :: (K "1").cps.toList) by decide]
  simp only [List.cons_append, List.append_assoc, List.nil_append]
  rw [wgo_next sp32 sput, wgo_next sp32 hx, wgo_next sp32 (const_g (by simp)).solid, wgo_last (const_g (by simp)).solid]; rfl
theorem w11 : Txt.words (K "GET " ++ x) = [K "GET", x] := by
  apply words_eq
  rw [cat_list, show (K "GET ").cps.toList = (K "GET").cps.toList ++ [32] by decide, List.append_assoc, List.singleton_append, wgo_next sp32 (const_g (by simp)).solid, wgo_last hx]; rfl
include ht
theorem w1 : Txt.words (K "put " ++ x ++ K " " ++ t) = K "put" :: x :: tw t := by
  apply words_eq
  rw [cat_list, cat_list, cat_list, show (K "put ").cps.toList = (K "put").cps.toList ++ [32] by decide, show (K " ").cps.toList = [32] by decide]
  simp only [List.cons_append, List.append_assoc, List.nil_append]
  rw [wgo_next sp32 sput, wgo_next sp32 hx, wgo_flat ht]; rfl
theorem w3 : Txt.words (K " put " ++ x ++ K "\t" ++ t ++ K "\r") = K "put" :: x :: tw t := by
  apply words_eq
  rw [cat_list, cat_list, cat_list, cat_list, show (K " put ").cps.toList = 32 :: ((K "put").cps.toList ++ [32]) by decide, show (K "\t").cps.toList = [9] by decide, show (K "\r").cps.toList = [13] by decide]
  simp only [List.cons_append, List.append_assoc, List.nil_append]
  rw [wgo_skip sp32, wgo_next sp32 sput, wgo_next sp9 hx, wgo_flat1 sp13 ht]; rfl
theorem w6 : Txt.words (K "#put " ++ x ++ K " " ++ t) = K "#put" :: x :: tw t := by
  apply words_eq
  rw [cat_list, cat_list, cat_list, show (K "#put ").cps.toList = (K "#put").cps.toList ++ [32] by decide, show (K " ").cps.toList = [32] by decide]
  simp only [List.cons_append, List.append_assoc, List.nil_append]
  rw [wgo_next sp32 (const_g (by simp)).solid, wgo_next sp32 hx, wgo_flat ht]; rfl
end
theorem w4 : Txt.words (K " ") = [] := by decide +kernel
theorem w9 : Txt.words (K "get") = [K "get"] := by decide +kernel

/-! what the words give -/
theorem res_none1 {w : Str} (h : Txt.startswith w (Str.ofString "#") = false) : lineRes [w] = none := by rw [lineRes_cons h]; rfl
theorem res_none2 {w k : Str} (h : Txt.startswith w (Str.ofString "#") = false) (h2 : w ≠ "get") : lineRes [w, k] = none := by
  rw [lineRes_cons h]; simp [wordRes, h2]
theorem res_none3 {w k v : Str} (h : Txt.startswith w (Str.ofString "#") = false) (h2 : w ≠ "put") : lineRes [w, k, v] = none := by
  rw [lineRes_cons h]; simp [wordRes, h2]
theorem res_none4 {w k v y : Str} (h : Txt.startswith w (Str.ofString "#") = false) : lineRes [w, k, v, y] = none := by
  rw [lineRes_cons h]; rfl
theorem res_hash {w : Str} {r : List Str} (h : Txt.startswith w (Str.ofString "#") = true) : lineRes (w :: r) = some [] := by
  simp only [lineRes]; rw [if_pos h]
theorem res_get {wd : Str × Bool} (h : nameOk (.str wd.1) = wd.2) : lineRes [K "get", wd.1] = gotO wd := by
  rw [lineRes_cons (by decide)]
  simp only [wordRes, gotO, h]
  simp only [decide_true, Bool.true_and]
theorem empty_dig : dig (K "") = false := by decide +kernel
theorem res_put {wd : Str × Bool} {p : Str × Dt} (h : nameOk (.str wd.1) = wd.2) (g : NumG p) : lineRes (K "put" :: wd.1 :: tw p.1) = putO wd p.2 := by
  have ag := g.ag (-1000000000000000000)
  unfold tw
  split
  · rename_i he
    have e0 : p.1 = K "" := str_inj (by rw [he]; rfl)
    rw [res_none2 (by decide) (by decide)]
    have hw : withinD p.2 LOW = false := by
      cases hw : withinD p.2 LOW with
      | false => rfl
      | true =>
        obtain ⟨n, _, e2⟩ := ag.1 hw
        rw [e0] at e2
        unfold parseN at e2
        rw [if_pos (by have := empty_dig; unfold dig at this; exact this)] at e2
        cases e2
    simp [putO, hw]
  · rw [lineRes_cons (by decide)]
    simp only [wordRes, h]
    simp only [decide_true, Bool.true_and]
    cases hw : withinD p.2 (-1000000000000000000) with
    | true =>
      obtain ⟨n, e1, e2⟩ := ag.1 hw
      rw [e2]
      unfold putO
      have hw' : withinD p.2 LOW = true := hw
      rw [hw', e1]
      cases wd.2 <;> rfl
    | false =>
      obtain ⟨msg, e2⟩ := ag.2 hw
      rw [e2]
      unfold putO
      have hw' : withinD p.2 LOW = false := hw
      rw [hw']
      cases wd.2 <;> simp

/-! lines -/
structure LineF (p : Ln1) : Prop where
  len : p.1.length ≤ 2000
  free : 10 ∉ p.1.cps.toList
  nw : (Txt.words p.1).length ≤ 100
  ws : ∀ y ∈ Txt.words p.1, Sane y ∧ NumT y
  res : lineRes (Txt.words p.1) = p.2
  ops : ∀ l, p.2 = some l → ∃ qs : List (Str × Str × Int), l = qs.map opD ∧ ∀ q ∈ qs, opOk q = true
theorem line_mk {y : Str} {ws : List Str} {o : Option (List Dt)} (hw : Txt.words y = ws) (hl : y.length ≤ 2000) (hf : 10 ∉ y.cps.toList) (hn : ws.length ≤ 100) (hws : ∀ z ∈ ws, Sane z ∧ NumT z) (hr : lineRes ws = o)
    (ho : ∀ l, o = some l → ∃ qs : List (Str × Str × Int), l = qs.map opD ∧ ∀ q ∈ qs, opOk q = true) : LineF (y, o) :=
  ⟨hl, hf, by show (Txt.words y).length ≤ 100; rw [hw]; exact hn, by show ∀ z ∈ Txt.words y, _; rw [hw]; exact hws, by show lineRes (Txt.words y) = o; rw [hw]; exact hr, ho⟩
theorem tw_len (t : Str) : (tw t).length ≤ 1 := by unfold tw; split <;> simp
theorem tw_mem {t y : Str} (h : y ∈ tw t) : y = t := by
  unfold tw at h
  split at h
  · cases h
  · exact List.mem_singleton.mp h
theorem line_f (kind wk : Int) {p : Str × Dt} (g : NumG p) : LineF (lineAt kind (wordAt wk) p) := by
  obtain ⟨wg, wn, wo⟩ := word_g wk
  generalize wordAt wk = wd at *
  have h12 : fm kind 12 < 12 := fm_lt (b := 12) (by decide)
  have hx := wg.solid
  have fx := free_flat hx.2
  have ft := free_flat g.flat
  have lx := wg.len
  have lt := g.len
  have c : ∀ {z : Str}, z ∈ [Str.ofString "get", Str.ofString "put", Str.ofString "#", Str.ofString "#put", Str.ofString "GET", Str.ofString "1"] → Sane z ∧ NumT z := fun h => (const_g h).ok
  have okG : ∀ l, gotO wd = some l → ∃ qs : List (Str × Str × Int), l = qs.map opD ∧ ∀ q ∈ qs, opOk q = true := fun l h => by
    unfold gotO at h
    split at h
    · cases h
      refine ⟨[(K "get", wd.1, 0)], rfl, fun q hq => ?_⟩
      rw [List.mem_singleton.mp hq]
      simp only [opOk, wo, Bool.and_true]; decide +kernel
    · cases h
  have okP : ∀ l, putO wd p.2 = some l → ∃ qs : List (Str × Str × Int), l = qs.map opD ∧ ∀ q ∈ qs, opOk q = true := fun l h => by
    unfold putO at h
    split at h
    · rename_i hh
      cases h
      obtain ⟨n, e1, _⟩ := (g.ag LOW).1 hh.2
      refine ⟨[(K "put", wd.1, n)], by rw [e1]; rfl, fun q hq => ?_⟩
      rw [List.mem_singleton.mp hq]
      simp only [opOk, wo, Bool.and_true]; decide +kernel
    · cases h
  have okN : ∀ l, (none : Option (List Dt)) = some l → ∃ qs : List (Str × Str × Int), l = qs.map opD ∧ ∀ q ∈ qs, opOk q = true := fun l h => by cases h
  have okE : ∀ l, (some [] : Option (List Dt)) = some l → ∃ qs : List (Str × Str × Int), l = qs.map opD ∧ ∀ q ∈ qs, opOk q = true := fun l h => by cases h; exact ⟨[], rfl, fun _ h => nomatch h⟩
  have two : ∀ {a : Str}, Sane a ∧ NumT a → ∀ z ∈ [a, wd.1], Sane z ∧ NumT z := fun ha z hz => by
    simp only [List.mem_cons, List.not_mem_nil, or_false] at hz
    rcases hz with rfl | rfl
    · exact ha
    · exact wg.ok
  have thr : ∀ {a : Str}, Sane a ∧ NumT a → ∀ z ∈ a :: wd.1 :: tw p.1, Sane z ∧ NumT z := fun ha z hz => by
    rcases List.mem_cons.mp hz with rfl | hz
    · exact ha
    · rcases List.mem_cons.mp hz with rfl | hz
      · exact wg.ok
      · rw [tw_mem hz]; exact ⟨g.sane, g.num⟩
  have tl := tw_len p.1
  have k1 : (Str.ofString "get ").length = 4 := by decide
  have k2 : (Str.ofString "put ").length = 4 := by decide
  have k3 : (Str.ofString " ").length = 1 := by decide
  have k4 : (Str.ofString "\tget  ").length = 6 := by decide
  have k5 : (Str.ofString " put ").length = 5 := by decide
  have k6 : (Str.ofString "\t").length = 1 := by decide
  have k7 : (Str.ofString "\r").length = 1 := by decide
  have k8 : (Str.ofString " # ").length = 3 := by decide
  have k9 : (Str.ofString "#put ").length = 5 := by decide
  have k10 : (Str.ofString " 1").length = 2 := by decide
  have k11 : (Str.ofString " 1 1").length = 4 := by decide
  have k12 : (Str.ofString "GET ").length = 4 := by decide
  unfold lineAt
  generalize fm kind 12 = k at *
  have hc : k = 0 ∨ k = 1 ∨ k = 2 ∨ k = 3 ∨ k = 4 ∨ k = 5 ∨ k = 6 ∨ k = 7 ∨ k = 8 ∨ k = 9 ∨ k = 10 ∨ k = 11 := (by decide : ∀ k : Fin 12, k.val = 0 ∨ k.val = 1 ∨ k.val = 2 ∨ k.val = 3 ∨ k.val = 4 ∨ k.val = 5 ∨ k.val = 6 ∨ k.val = 7 ∨ k.val = 8 ∨ k.val = 9 ∨ k.val = 10 ∨ k.val = 11) ⟨k, h12⟩
  rcases hc with rfl | rfl | rfl | rfl | rfl | rfl | rfl | rfl | rfl | rfl | rfl | rfl
  · refine line_mk (w0 hx) (by simp only [len_app]; omega) ?_ (by simp) (two (c (by simp))) (res_get wn) okG
    simp only [cat_list, List.mem_append, not_or]; exact ⟨by decide, fx⟩
  · refine line_mk (w1 hx g.flat) (by simp only [len_app]; omega) ?_ (by simp only [List.length_cons]; omega) (thr (c (by simp))) (res_put wn g) okP
    simp only [cat_list, List.mem_append, not_or]; exact ⟨⟨⟨by decide, fx⟩, by decide⟩, ft⟩
  · refine line_mk (w2 hx) (by simp only [len_app]; omega) ?_ (by simp) (two (c (by simp))) (res_get wn) okG
    simp only [cat_list, List.mem_append, not_or]; exact ⟨⟨by decide, fx⟩, by decide⟩
  · refine line_mk (w3 hx g.flat) (by simp only [len_app]; omega) ?_ (by simp only [List.length_cons]; omega) (thr (c (by simp))) (res_put wn g) okP
    simp only [cat_list, List.mem_append, not_or]; exact ⟨⟨⟨⟨by decide, fx⟩, by decide⟩, ft⟩, by decide⟩
  · exact line_mk w4 (by decide) (by decide) (by simp) (fun _ h => nomatch h) rfl okE
  · refine line_mk (w5 hx) (by simp only [len_app]; omega) ?_ (by simp) (two (c (by simp))) (res_hash (by decide)) okE
    simp only [cat_list, List.mem_append, not_or]; exact ⟨by decide, fx⟩
  · refine line_mk (w6 hx g.flat) (by simp only [len_app]; omega) ?_ (by simp only [List.length_cons]; omega) (thr (c (by simp))) (res_hash (by decide)) okE
    simp only [cat_list, List.mem_append, not_or]; exact ⟨⟨⟨by decide, fx⟩, by decide⟩, ft⟩
  · refine line_mk (w7 hx) (by simp only [len_app]; omega) ?_ (by simp) (fun z hz => ?_) (res_none3 (by decide) (by decide)) okN
    · simp only [cat_list, List.mem_append, not_or]; exact ⟨⟨by decide, fx⟩, by decide⟩
    · simp only [List.mem_cons, List.not_mem_nil, or_false] at hz
      rcases hz with rfl | rfl | rfl
      · exact c (by simp)
      · exact wg.ok
      · exact c (by simp)
  · refine line_mk (w8 hx) (by simp only [len_app]; omega) ?_ (by simp) (two (c (by simp))) (res_none2 (by decide) (by decide)) okN
    simp only [cat_list, List.mem_append, not_or]; exact ⟨by decide, fx⟩
  · exact line_mk w9 (by decide) (by decide) (by simp) (fun z hz => by rw [List.mem_singleton.mp hz]; exact c (by simp)) (res_none1 (by decide)) okN
  · refine line_mk (w10 hx) (by simp only [len_app]; omega) ?_ (by simp) (fun z hz => ?_) (res_none4 (by decide)) okN
    · simp only [cat_list, List.mem_append, not_or]; exact ⟨⟨by decide, fx⟩, by decide⟩
    · simp only [List.mem_cons, List.not_mem_nil, or_false] at hz
      rcases hz with rfl | rfl | rfl | rfl
      · exact c (by simp)
      · exact wg.ok
      · exact c (by simp)
      · exact c (by simp)
  · refine line_mk (w11 hx) (by simp only [len_app]; omega) ?_ (by simp) (two (c (by simp))) (res_none2 (by decide) (by decide)) okN
    simp only [cat_list, List.mem_append, not_or]; exact ⟨by decide, fx⟩
theorem due_ops : ∀ {ls : List Ln1}, (∀ p ∈ ls, LineF p) → ∃ qs : List (Str × Str × Int), dueL ls = qs.map opD ∧ ∀ q ∈ qs, opOk q = true
  | [], _ => ⟨[], rfl, fun _ h => nomatch h⟩
  | p :: r, hO => by
    obtain ⟨qs, h1, h2⟩ := due_ops (ls := r) fun q hq => hO q (.tail _ hq)
    have e : dueL (p :: r) = p.2.getD [] ++ dueL r := by simp [dueL]
    cases hf : p.2 with
    | none => exact ⟨qs, by rw [e, hf, h1]; rfl, h2⟩
    | some l =>
      obtain ⟨qs', h3, h4⟩ := (hO p (.head _)).ops l hf
      refine ⟨qs' ++ qs, ?_, fun q hq => (List.mem_append.mp hq).elim (h4 q) (h2 q)⟩
      rw [e, hf, h1, List.map_append, ← h3]; rfl
theorem trace_f {ls : List Ln1} (hF : ∀ p ∈ ls, LineF p) (hne : ls ≠ []) (hl : ls.length ≤ 4) : TraceF (Txt.join nlS (ls.map (·.1))) ls := by
  have hlen : ∀ y ∈ ls.map (·.1), y.length ≤ 2000 := fun y hy => by
    obtain ⟨q, hq, rfl⟩ := List.mem_map.mp hy
    exact (hF q hq).len
  have hlM : (ls.map (·.1)).length ≤ 4 := by rw [List.length_map]; exact hl
  have e := split_lines (ls := ls.map (·.1)) (by simpa using hne) fun l hl => by
    obtain ⟨q, hq, rfl⟩ := List.mem_map.mp hl
    exact (hF q hq).free
  have big : (3000 : Nat) ≤ sizeLine := by decide
  refine ⟨join_len hlen hlM, by rw [e, List.length_map]; omega, ?_, fun hp => ?_, fun pl hp => ?_⟩
  · rw [e]; intro l hl
    obtain ⟨q, hq, rfl⟩ := List.mem_map.mp hl
    have := (hF q hq).len
    exact ⟨by omega, (hF q hq).nw, (hF q hq).ws⟩
  · have h1 := res_good (R := fun l => lineRes (Txt.words l)) (fun p hp => (hF p hp).res) hp
    rw [← all_eq] at h1
    rw [e]
    obtain ⟨qs, h2, h3⟩ := due_ops hF
    refine ⟨h1, .list (qs.map opP), ?_, ops_shaped h3, ops_eqv qs, fun d hd => ?_⟩
    · rw [ofP_ops, h2]
    · rw [h2] at hd
      obtain ⟨q, _, rfl⟩ := List.mem_map.mp hd
      refine ⟨fun z hz => ?_, by simp⟩
      simp only [List.mem_cons, List.not_mem_nil, or_false] at hz
      rcases hz with rfl | rfl | rfl
      · exact .inr ⟨_, rfl⟩
      · exact .inr ⟨_, rfl⟩
      · exact .inl ⟨_, rfl⟩
  · obtain ⟨b1, b2⟩ := res_bad (R := fun l => lineRes (Txt.words l)) (fun p hp => (hF p hp).res) hp
    rw [← all_eq] at b1
    rw [e]
    refine ⟨b1, fun i l tail ns h1 h2 h3 => ?_⟩
    have b3 := b2 i l ns h1 (by rw [← all_eq]; exact h2) h3
    rw [b3, Nat.zero_add]
    exact starts_pl _ _
end Mine
end
section
open PySem PyProof.Rows PySem.Calls PySem.W
set_option maxRecDepth 100000
namespace Mine
/-- the plain law of the script -/
theorem plain_ok (ns : List Int) : PlainOk ns := by
  have hN : ∀ p ∈ numsL ns, NumG p := fun p hp => by
    simp only [numsL, List.mem_cons, List.not_mem_nil, or_false] at hp
    rcases hp with rfl | rfl | rfl <;> exact num_g _ _
  have hNf : ∀ p ∈ numsL ns, NumF p (lowOf ns) := fun p hp => let g := hN p hp; ⟨g.num, g.sc, g.ag _, g.ag _, g.ag _⟩
  have hM : ∀ q ∈ namesL ns, NameG q := fun p hp => by
    simp only [namesL, List.mem_cons, List.not_mem_nil, or_false] at hp
    rcases hp with rfl | rfl | rfl <;> exact name_g _
  have hMt : ∀ sz, ∀ q ∈ (namesL ns).take sz, NameG q := fun sz q hq => hM q (List.mem_of_mem_take hq)
  have hMl : ∀ sz, ((namesL ns).take sz).length ≤ 4 := fun sz => by
    have : (namesL ns).length = 3 := rfl
    rw [List.length_take]; omega
  have hT : ∀ p ∈ trL ns, LineF p := fun p hp => by
    simp only [trL, trOf, lnAt, List.mem_cons, List.not_mem_nil, or_false] at hp
    rcases hp with rfl | rfl | rfl <;> exact line_f _ _ (num_g _ _)
  refine ⟨low_ok _, hNf, fun p hp => ?_, fun q hq => (hM q hq).f, fun q hq l hl => ((hM q hq).ops l hl).1, fun sz => join_ok (fun y hy => ?_) (by rw [List.length_map]; exact hMl sz), fun sz => sheet_f (hMt sz) (hMl sz), join_ok (fun y hy => ?_) (by simp [trL, trOf]), trace_f hT (by simp [trL, trOf]) (by simp [trL, trOf])⟩
  · have := (hN p hp).len; omega
  · obtain ⟨q, hq, rfl⟩ := List.mem_map.mp hy
    have := (hMt sz q hq).len; omega
  · obtain ⟨q, hq, rfl⟩ := List.mem_map.mp hy
    exact (hT q hq).len
end Mine
end
section
open PySem PySem.W PyProof.Rows
set_option maxRecDepth 100000
set_option maxHeartbeats 8000000
mutual
def Mine.litPlain : WData → Bool
  | .none => true
  | .bool _ => true
  | .int _ => true
  | .str _ => true
  | .float _ => true
  | .tuple xs => Mine.litPlains xs
  | _ => false
def Mine.litPlains : List WData → Bool
  | [] => true
  | x :: r => Mine.litPlain x && Mine.litPlains r
end
mutual
theorem Mine.dl_of {h : Heap} : ∀ (d : WData) {v : Value} {as : List Addr}, Mine.litPlain d = true → ReadsLit h v d as → ∃ g : Mine.Lg, (∀ p ∈ g, h.get? p.1 = some p.2) ∧ Mine.DL g v (Mine.ofW d)
  | .none, _, _, _, r => by cases r; exact ⟨[], (fun _ h => nomatch h), by simp only [Mine.ofW]; exact .none⟩
  | .bool _, _, _, _, r => by cases r; exact ⟨[], (fun _ h => nomatch h), by simp only [Mine.ofW]; exact .bool _⟩
  | .int _, _, _, _, r => by cases r; exact ⟨[], (fun _ h => nomatch h), by simp only [Mine.ofW]; exact .int _ _⟩
  | .str _, _, _, _, r => by cases r; exact ⟨[], (fun _ h => nomatch h), by simp only [Mine.ofW]; exact .str _ _⟩
  | .float _, _, _, _, r => by cases r; exact ⟨[], (fun _ h => nomatch h), by simp only [Mine.ofW]; exact .flt _ _⟩
  | .tuple xs, _, _, hp, r => by
    cases r with
    | @tuple a o vs n _ as h1 h2 h3 h4 =>
      obtain ⟨g, k1, k2⟩ := Mine.dls_of xs (by simpa [Mine.litPlain] using hp) h4
      refine ⟨(a, o) :: g, fun p hp => ?_, ?_⟩
      · rcases List.mem_cons.mp hp with rfl | hp
        · exact h1
        · exact k1 p hp
      · simp only [Mine.ofW]
        exact .tuple (.head _) h2 (by simpa using h3) (k2.mono fun p hp => .tail _ hp)
  | .list _, _, _, hp, _ => by simp [Mine.litPlain] at hp
  | .dict _, _, _, hp, _ => by simp [Mine.litPlain] at hp
  | .bytes _, _, _, hp, _ => by simp [Mine.litPlain] at hp
  | .bytearray _, _, _, hp, _ => by simp [Mine.litPlain] at hp
  | .set _, _, _, hp, _ => by simp [Mine.litPlain] at hp
  | .frozenset _, _, _, hp, _ => by simp [Mine.litPlain] at hp
  | .obj _ _, _, _, hp, _ => by simp [Mine.litPlain] at hp
theorem Mine.dls_of {h : Heap} : ∀ (ds : List WData) {vs : List Value} {as : List Addr}, Mine.litPlains ds = true → ReadsAllW [] (fun _ => none) h vs ds as → ∃ g : Mine.Lg, (∀ p ∈ g, h.get? p.1 = some p.2) ∧ Mine.DLs g vs (Mine.ofWs ds)
  | [], _, _, _, r => by cases r; exact ⟨[], (fun _ h => nomatch h), by simp only [Mine.ofWs]; exact .nil⟩
  | d :: ds, _, _, hp, r => by
    cases r with
    | cons r1 r2 =>
      simp only [Mine.litPlains, Bool.and_eq_true] at hp
      obtain ⟨g1, k1, q1⟩ := Mine.dl_of d hp.1 r1
      obtain ⟨g2, k2, q2⟩ := Mine.dls_of ds hp.2 r2
      refine ⟨g1 ++ g2, fun p hp => (List.mem_append.mp hp).elim (k1 p) (k2 p), ?_⟩
      simp only [Mine.ofWs]
      exact .cons (q1.mono fun p hp => List.mem_append.mpr (.inl hp)) (q2.mono fun p hp => List.mem_append.mpr (.inr hp))
end
theorem Mine.tabs_all {mg : Str → Option Value} {h : Heap} : ∀ (cs : List (Str × WData)), (∀ c ∈ cs, ∃ v, mg c.1 = some v ∧ ReadsLit h v c.2 []) → (cs.all fun c => Mine.litPlain c.2) = true → ∃ gT : Mine.Lg, (∀ p ∈ gT, h.get? p.1 = some p.2) ∧ ∀ c ∈ cs, ∃ v, mg c.1 = some v ∧ Mine.DL gT v (Mine.ofW c.2)
  | [], _, _ => ⟨[], (fun _ h => nomatch h), (fun _ h => nomatch h)⟩
  | c :: r, hc, hp => by
    simp only [List.all_cons, Bool.and_eq_true] at hp
    obtain ⟨g2, k2, q2⟩ := Mine.tabs_all r (fun x hx => hc x (.tail _ hx)) hp.2
    obtain ⟨v, hv, rd⟩ := hc c (.head _)
    obtain ⟨g1, k1, q1⟩ := Mine.dl_of c.2 hp.1 rd
    refine ⟨g1 ++ g2, fun p hp => (List.mem_append.mp hp).elim (k1 p) (k2 p), fun x hx => ?_⟩
    rcases List.mem_cons.mp hx with rfl | hx
    · exact ⟨v, hv, q1.mono fun p hp => List.mem_append.mpr (.inl hp)⟩
    · obtain ⟨v', hv', q'⟩ := q2 x hx
      exact ⟨v', hv', q'.mono fun p hp => List.mem_append.mpr (.inr hp)⟩
def Mine.freeOk (p : Program) (loose : List Str) : Bool := Mine.freeL.all fun x => !startupNames.contains x && !loose.contains x && !((recsOf p).map (·.name)).contains x && !((litsOf p).map (·.1)).contains x && !((clssOf p loose).map (·.name)).contains x
theorem Mine.wd_of {p : Program} {loose : List Str} {mean : ExcName → Option Value} {mg mb : Str → Option Value} {h : Heap} (T : Top p loose mean mg mb h) (TW : TopW p mg h) (V : LooseAre [(Str.ofString "MAX_NUMBER", WData.int 1000000000000000000)] mg h) (e : recsOf p = Mine.defIdx.map Mine.fdAt)
    (e2 : wlitsOf p = wlitsOf Mine.PP) (e4 : ((wlitsOf Mine.PP).all fun c => Mine.litPlain c.2) = true) (e3 : Mine.freeOk p loose = true) (e5 : valOf p "MAX_NAME" = some (.int 200)) (e6 : valOf p "_law_most" = some (.int 1000000000000000000)) : Mine.Wd mg mb h where
  g := T.g
  b := T.b
  nolimit := T.nolimit
  builtins := T.builtins
  fn := fun i hi => by
    obtain ⟨a, o, pm, cd, dc, h1, h2, h3, h4⟩ := T.fn (Mine.fdAt i) (by rw [e]; exact List.mem_map.mpr ⟨i, hi, rfl⟩)
    exact ⟨a, o, pm, cd, dc, h1, h2, h3, h4⟩
  free := fun x hx => by
    have := List.all_eq_true.mp e3 x hx
    simp only [Bool.and_eq_true, Bool.not_eq_eq_eq_not, Bool.not_true, List.contains_eq_mem, decide_eq_false_iff_not] at this
    obtain ⟨⟨⟨⟨h1, h2⟩, h3⟩, h4⟩, h5⟩ := this
    exact T.free x h1 h2 h3 h4 h5
  const := fun q hq => by
    simp only [Mine.constL, List.mem_cons, List.not_mem_nil, or_false] at hq
    rcases hq with rfl | rfl | rfl
    · obtain ⟨v, h1, h2⟩ := T.const _ _ e5
      have r := h2 h
      cases r
      exact ⟨_, h1⟩
    · obtain ⟨v, h1, h2⟩ := V.val _ (.head _)
      cases h2
      exact ⟨_, h1⟩
    · obtain ⟨v, h1, h2⟩ := T.const _ _ e6
      have r := h2 h
      cases r
      exact ⟨_, h1⟩
  tabs := by
    obtain ⟨gT, k1, k2⟩ := Mine.tabs_all (mg := mg) (h := h) (wlitsOf Mine.PP) (by rw [← e2]; exact TW.lits) e4
    refine ⟨gT, k1, fun q hq => ?_⟩
    obtain ⟨c, hc, rfl⟩ := List.mem_map.mp hq
    exact k2 c hc
/-- law's own record: its code object and that one's table -/
theorem Mine.law_at {p : Program} {loose : List Str} {mean : ExcName → Option Value} {mg mb : Str → Option Value} {h : Heap} (T : Top p loose mean mg mb h) (W : Mine.Wd mg mb h) (e : recsOf p = Mine.defIdx.map Mine.fdAt) :
    ∃ a o pm c P doc, mg (Mine.fdAt 23).name = some (.ref a) ∧ Mine.FnAt 23 h a o pm (.ref c) doc ∧ Mine.Cd c P #[] h ∧ P ≠ cStatics := by
  obtain ⟨a1, o1, fd1, c1, P1, t1, t2, t3, t4, t5, t6⟩ := T.tab (Mine.fdAt 23) (by rw [e]; exact List.mem_map.mpr ⟨23, by decide, rfl⟩)
  obtain ⟨a2, o2, pm2, cd2, dc2, f1, F⟩ := W.fn 23 (by decide)
  have hae := Option.some.inj (t1.symm.trans f1)
  cases hae
  have hoe := Option.some.inj (t2.symm.trans F.at_)
  subst hoe
  have hfe : fd1 = Mine.docF 23 pm2 cd2 dc2 := by
    have := t3.symm.trans F.d
    injection this
  rw [hfe] at t4
  have t4' : cd2 = .ref c1 := t4
  subst t4'
  refine ⟨_, _, pm2, c1, P1, dc2, f1, F, ⟨t5, t6⟩, fun q => ?_⟩
  obtain ⟨mc, ⟨oc, es, ep, n1, n2, _⟩, _⟩ := T.nolimit
  rw [← q, t6.2] at n1
  cases n1; cases n2
/-- the text without its two rows that set __name__ -/
def Mine.view : Program := { Mine.PP with main := { Mine.PP.main with body := (Mine.PP.main.body.eraseIdx 13).eraseIdx 0 } }
abbrev Mine.seenV : List (Str × WData) := [(Str.ofString "MAX_NUMBER", WData.int 1000000000000000000)]
abbrev Mine.xt (s : Shared) : Bool := xlAt Mine.view Mine.seenV s && recOk (RowW.records PySem.Challenge.rw_wm_yst127_1.row.toRowW) s
theorem Mine.left : LeftO PySem.Challenge.rw_wm_yst127_1.row.toRowW.prog Mine.view [Str.ofString "MAX_NUMBER"] Mine.xt (Hook.obs Hook.none) (Hook.val Hook.none) 1418 := fun w => by kernel_rfl
/-- the law is well said: its row, then the rest -/
theorem Mine.said1 : OpenRow.wellSaid PySem.Challenge.rw_wm_yst127_1.row = true := by kernel_rfl
theorem Mine.said : OpenLaw.wellSaid PySem.Challenge.rw_wm_yst127_1 = true := by
  unfold OpenLaw.wellSaid
  rw [Mine.said1]
  kernel_rfl
theorem PySem.Challenge.cw_wm_yst127_1_holds : PySem.Challenge.rw_wm_yst127_1.Holds := by
  w_on
  refine holds_law Mine.said fun said => ?_
  refine holds_open (q := Mine.view) (loose := [Str.ofString "MAX_NUMBER"]) (Xt := Mine.xt) (XP := XL Mine.view Mine.seenV) (Yf := Hook.obs Hook.none) (Ya := Hook.val Hook.none) (YP := Hook.says Hook.none) (N := 1418) Mine.left (Hook.of Hook.none) (Hook.keeps Hook.none) (fun s e => xl_of s (Bool.and_eq_true_iff.mp e).1) XL.keeps (by rfl) (by rfl) (by rfl) (fun s e => recFacts_of (Bool.and_eq_true_iff.mp e).2) (by rfl) (by first | assumption | decide +kernel) (by decide +kernel) ⟨rfl, rfl, rfl, rfl, rfl, by decide +kernel⟩ ?hw ?hc
  case hw => w_witness2
  intro w s₀ s₁ mg mb G Y fa o pm cd doc dV kV ho hd hcd hD hmg hg args vals as hpre hlay hrd hwl hlo
  have V := (Ground.X G).2
  refine Ground.open G ?_
  intro T B D TE TW
  wrow_args hpre hlay hrd hwl hlo
  rename_i hL ra w1 r0 hI hr hc1 hc2
  have W := Mine.wd_of T TW V (by kernel_rfl) (by kernel_rfl) (by kernel_rfl) (by kernel_rfl) (by kernel_rfl) (by kernel_rfl)
  obtain ⟨a2, o2, pm2, c2, P2, dc2, f1, F, C, hP⟩ := Mine.law_at T W (by kernel_rfl)
  have hae := Option.some.inj (hmg.symm.trans f1)
  cases hae
  refine Mine.law_spec (A := callerA) ⟨rfl, by decide, by decide⟩ rfl W ⟨T.bmain⟩ F C hL hI (by omega) (Mine.plain_ok _) fun h' tk ps hx ht => ⟨.inl ⟨_, .bool true, [], rfl, fun cls => ?_, ReadsW.bool true, ?_, fun h => ?_⟩, ?_, rfl, .of_eq hg⟩
  · rfl
  · first | with_unfolding_all rfl | kernel_rfl | (simp [OpenLaw.row, RowW.claim, WTm.eval]; done) | trace_state
  · exact ⟨.nil, fun _ h => nomatch h⟩
  · exact OldK.step_table (OldK.refl _) C.tab C.tab (by rw [Array.empty_append]; exact ht) hx hP
end
