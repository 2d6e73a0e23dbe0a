import PyProof.Rows.All
import Wide.All
import OpenK.AllK
import Wide.FinOn
import PyProof.DictStraight
import PyProof.DictItemsLoops
import PyProof.Rows.Many
import PyProof.Rows.Top
import PyProof.Rows.RowHeap
import PyProof.Rows.Tup
import PyProof.Rows.CellsNews
import PyProof.SliceList
import Wide.Head
import PyProof.Rows.Exc
import PyProof.Rows.TupSub
import PyProof.Rows.StrTemp
import PyProof.Rows.IntRules
import PyProof.Rows.RuleB_mod
import PyProof.Rows.DictMade
import PyProof.Rows.PlainStore
import PyProof.DictTruth
import PyProof.DelItemList
import PyProof.RulesDelMore
import PyProof.RulesDel
import KE.KDictList
import PyProof.CompFree
import PyProof.EqLayable
import PyProof.ForAny
import PyProof.IsRules
import PyProof.MakeMany
import PyProof.P3In
import PyProof.Rows.CellsFrame
import PyProof.Rows.SeqMore
import PyProof.Rows.SeqSlice
import PyProof.Rows.TupAssign
import PyProof.SeqI
import PyProof.StrOps
import PyProof.TypeOfCall
import PyProof.WalksPairs
import PyProof.Rows.Catch
import OpenK.KCall
import PyProof.ExcFactsAll.ValueError
import PyProof.IsInstance
import PyProof.IsiPairs
import PyProof.Rows.Chain
import PyProof.Rows.FStr
import PyProof.Rows.RuleU_int
import PyProof.Rows.RuleC_int
import PyProof.FString4
import PyProof.StrLawsRepr
import PyProof.StrCalls
import PyProof.Rows.StrLen
import KE.KIntText
import PyProof.CallStr
import PyProof.Rows.StrSub
import PyProof.NsDelKeeps
import PyProof.EnumMake
import PyProof.EnumFor
import PyProof.Draws
import PyProof.ExcStrCall
import PyProof.ExcStrAll.ValueError
import PyProof.StrHeap
import PyProof.Rows.StrNews
import PyProof.Rows.StrSplitAre
import PyProof.ListTruth
import PyProof.StrOps2
import KE.KEqDict
import PyProof.StrCalls2
import PyProof.StrLawsWords
import PyProof.StrLawsTight
import PyProof.FitsReplace
import KE.KDictOf
import PyProof.AttrMissHeap
import PyProof.ListCopy
import KE.KItemsList
import PyProof.DictValues
import PySem.Challenge.RW_wm_yst127_2
set_option Elab.async false
section
open PySem PyProof.Rows PySem.Calls
namespace Mine

abbrev Lg := List (Addr × Obj)
abbrev tupO (vs : List Value) (n : Nat) : Obj := { cls := .type "tuple", data := .seq vs.toArray n }
abbrev lstO (vs : List Value) (n : Nat) : Obj := { cls := .type "list", data := .seq vs.toArray n }
abbrev celO (v : Option Value) : Obj := { cls := .type "cell", data := .cell v }

/-! data over a ledger of standing objects -/
inductive Dt where
  | none | bad
  | bool (b : Bool)
  | int (i : Int)
  | str (x : Str)
  | flt
  | list (xs : List Dt)
  | tuple (xs : List Dt)
mutual
def ofP : PyData → Dt
  | .none => .none
  | .bool b => .bool b
  | .int i => .int i
  | .str x => .str x
  | .list xs => .list (ofPs xs)
  | .tuple xs => .tuple (ofPs xs)
  | .dict _ => .bad
def ofPs : List PyData → List Dt
  | [] => []
  | x :: r => ofP x :: ofPs r
end
mutual
inductive DL (g : Lg) : Value → Dt → Prop
  | none : DL g .none .none
  | bool (b : Bool) : DL g (.bool b) (.bool b)
  | int (i : Int) (t : Tok) : DL g (.int i t) (.int i)
  | str (x : Str) (t : Tok) : DL g (.str x t) (.str x)
  | flt (x : UInt64) (t : Tok) : DL g (.float x t) .flt
  | list {a : Addr} {n : Nat} {vs : List Value} {ds : List Dt} : (a, lstO vs n) ∈ g → DLs g vs ds → DL g (.ref a) (.list ds)
  | tuple {a : Addr} {o : Obj} {n : Nat} {vs : List Value} {ds : List Dt} : (a, o) ∈ g → o.cls = .type "tuple" → o.data = .seq vs.toArray n → DLs g vs ds → DL g (.ref a) (.tuple ds)
inductive DLs (g : Lg) : List Value → List Dt → Prop
  | nil : DLs g [] []
  | cons {v : Value} {vs : List Value} {d : Dt} {ds : List Dt} : DL g v d → DLs g vs ds → DLs g (v :: vs) (d :: ds)
end
mutual
theorem DL.mono {g g' : Lg} (hs : ∀ p ∈ g, p ∈ g') : ∀ {v : Value} {d : Dt}, DL g v d → DL g' v d
  | _, _, .none => .none
  | _, _, .bool b => .bool b
  | _, _, .int i t => .int i t
  | _, _, .str x t => .str x t
  | _, _, .flt x t => .flt x t
  | _, _, .list h r => .list (hs _ h) (DLs.mono hs r)
  | _, _, .tuple h c d r => .tuple (hs _ h) c d (DLs.mono hs r)
theorem DLs.mono {g g' : Lg} (hs : ∀ p ∈ g, p ∈ g') : ∀ {vs : List Value} {ds : List Dt}, DLs g vs ds → DLs g' vs ds
  | _, _, .nil => .nil
  | _, _, .cons h r => .cons (DL.mono hs h) (DLs.mono hs r)
end
mutual
theorem DL.readsP {g : Lg} {h : Heap} (hl : ∀ p ∈ g, h.get? p.1 = some p.2) : ∀ {v : Value} {d : Dt}, DL g v d → ∀ {p : PyData}, ofP p = d → ∃ as, Reads h v p as
  | _, _, .none, p, e => by cases p <;> simp [ofP] at e; exact ⟨_, .none⟩
  | _, _, .bool b, p, e => by cases p <;> simp [ofP] at e; subst e; exact ⟨_, .bool _⟩
  | _, _, .int i t, p, e => by cases p <;> simp [ofP] at e; subst e; exact ⟨_, .int _ _⟩
  | _, _, .str x t, p, e => by cases p <;> simp [ofP] at e; subst e; exact ⟨_, .str _ _⟩
  | _, _, .flt x t, p, e => by cases p <;> simp [ofP] at e
  | _, _, .list m r, p, e => by
    cases p <;> simp [ofP] at e
    obtain ⟨as, q⟩ := DLs.readsP hl r e
    exact ⟨_, reads_list_at (hl _ m) rfl rfl (by simpa using q)⟩
  | _, _, .tuple m c d r, p, e => by
    cases p <;> simp [ofP] at e
    obtain ⟨as, q⟩ := DLs.readsP hl r e
    exact ⟨_, reads_tuple_at (hl _ m) c d (by simpa using q)⟩
theorem DLs.readsP {g : Lg} {h : Heap} (hl : ∀ p ∈ g, h.get? p.1 = some p.2) : ∀ {vs : List Value} {ds : List Dt}, DLs g vs ds → ∀ {ps : List PyData}, ofPs ps = ds → ∃ as, ReadsAll h vs ps as
  | _, _, .nil, ps, e => by cases ps <;> simp [ofPs] at e; exact ⟨_, .nil⟩
  | _, _, .cons a r, ps, e => by
    cases ps <;> simp [ofPs] at e
    obtain ⟨as, q⟩ := DL.readsP hl a e.1
    obtain ⟨bs, q'⟩ := DLs.readsP hl r e.2
    exact ⟨as ++ bs, .cons q q'⟩
end
theorem DL.reads {g : Lg} {h : Heap} (hl : ∀ p ∈ g, h.get? p.1 = some p.2) {v : Value} {p : PyData} (D : DL g v (ofP p)) : ∃ as, Reads h v p as := D.readsP hl rfl
theorem DLs.length {g : Lg} : ∀ {vs : List Value} {ds : List Dt}, DLs g vs ds → vs.length = ds.length
  | _, _, .nil => rfl
  | _, _, .cons _ r => by simp [r.length]
theorem DLs.append {g : Lg} : ∀ {vs : List Value} {ds : List Dt}, DLs g vs ds → ∀ {ws : List Value} {es : List Dt}, DLs g ws es → DLs g (vs ++ ws) (ds ++ es)
  | _, _, .nil, _, _, k => k
  | _, _, .cons a r, _, _, k => .cons a (r.append k)
theorem DLs.get {g : Lg} : ∀ {vs : List Value} {ds : List Dt}, DLs g vs ds → ∀ {i : Nat} {d : Dt}, ds[i]? = some d → ∃ v, vs[i]? = some v ∧ DL g v d
  | _, _, .nil, i, d, h => by simp at h
  | _, _, .cons a r, 0, d, h => by simp at h; subst h; exact ⟨_, rfl, a⟩
  | _, _, .cons a r, i + 1, d, h => by simpa using r.get (by simpa using h)
theorem DLs.getV {g : Lg} : ∀ {vs : List Value} {ds : List Dt}, DLs g vs ds → ∀ {i : Nat} {v : Value}, vs[i]? = some v → ∃ d, ds[i]? = some d ∧ DL g v d
  | _, _, .nil, i, d, h => by simp at h
  | _, _, .cons a r, 0, d, h => by simp at h; subst h; exact ⟨_, rfl, a⟩
  | _, _, .cons a r, i + 1, d, h => by simpa using r.getV (by simpa using h)

/-! the state inside a def's body: the frame, what the call may still turn (u), what stands (g) -/
structure St (h₀ : Heap) (L : Addr) (gi : Lg) (m : Str → Option Value) (u g : Lg) (h : Heap) : Prop where
  fr : Fr h₀ L h m
  un : ∀ p ∈ u, h.get? p.1 = some p.2 ∧ p.1 ≠ L ∧ h₀.get? p.1 = none
  led : ∀ p ∈ g, h.get? p.1 = some p.2 ∧ p.1 ≠ L
  sep : ∀ p ∈ g, ∀ q ∈ u, p.1 ≠ q.1
  nd : (u.map (·.1)).Nodup
  prov : ∀ p ∈ g, p ∈ gi ∨ h₀.get? p.1 = none

def Ext (h h' : Heap) : Prop := ∀ b o, h.get? b = some o → h'.get? b = some o
theorem Ext.refl (h : Heap) : Ext h h := fun _ _ e => e
theorem Ext.trans {h h' h'' : Heap} (x : Ext h h') (y : Ext h' h'') : Ext h h'' := fun b o e => y b o (x b o e)

section
variable {h₀ h h' : Heap} {L : Addr} {gi : Lg} {m m' : Str → Option Value} {u g : Lg} {o : Obj} {a : Addr}
theorem St.at (S : St h₀ L gi m u g h) : ∀ p ∈ g, h.get? p.1 = some p.2 := fun p hp => (S.led p hp).1
theorem St.ext (S : St h₀ L gi m u g h) (hk : Ext h h') : St h₀ L gi m u g h' :=
  ⟨S.fr.after hk, fun p hp => ⟨hk _ _ (S.un p hp).1, (S.un p hp).2⟩, fun p hp => ⟨hk _ _ (S.led p hp).1, (S.led p hp).2⟩, S.sep, S.nd, S.prov⟩
theorem St.store (S : St h₀ L gi m u g h) (hn : h'.Ns L m') (hs : Heap.SameBut L h h') : St h₀ L gi m' u g h' :=
  ⟨S.fr.set hn hs, fun p hp => ⟨(hs.2 _ (S.un p hp).2.1).trans (S.un p hp).1, (S.un p hp).2⟩, fun p hp => ⟨(hs.2 _ (S.led p hp).2).trans (S.led p hp).1, (S.led p hp).2⟩, S.sep, S.nd, S.prov⟩
theorem St.fresh (S : St h₀ L gi m u g h) (ha : h.get? a = none) : h₀.get? a = none := by
  cases q : h₀.get? a with
  | none => rfl
  | some o => rw [S.fr.keep _ _ q] at ha; cases ha
theorem St.neL (S : St h₀ L gi m u g h) (ha : h.get? a = none) : a ≠ L := by
  rintro rfl
  obtain ⟨o, _, _, ho, _⟩ := S.fr.ns
  rw [ho] at ha; cases ha
theorem size_none (h : Heap) : h.get? h.objs.size = none := Heap.get?_none_of_le (Nat.le_refl _)
theorem St.pushG (S : St h₀ L gi m u g h) (o : Obj) (hf : o.isFreed = false := by rfl) : St h₀ L gi m u ((h.objs.size, o) :: g) (h.push o) := by
  have S' := S.ext (h' := h.push o) fun b o' e => Heap.get?_push_of_some _ e
  refine ⟨S'.fr, S'.un, fun p hp => ?_, fun p hp q hq => ?_, S.nd, fun p hp => ?_⟩
  · rcases List.mem_cons.mp hp with rfl | hp
    · exact ⟨Heap.get?_push_size _ hf, S.neL (size_none h)⟩
    · exact S'.led p hp
  · rcases List.mem_cons.mp hp with rfl | hp
    · exact Nat.ne_of_gt (Heap.lt_size (S.un q hq).1)
    · exact S.sep p hp q hq
  · rcases List.mem_cons.mp hp with rfl | hp
    · exact .inr (S.fresh (size_none h))
    · exact S.prov p hp
theorem St.pushU (S : St h₀ L gi m u g h) (o : Obj) (hf : o.isFreed = false := by rfl) : St h₀ L gi m ((h.objs.size, o) :: u) g (h.push o) := by
  have S' := S.ext (h' := h.push o) fun b o' e => Heap.get?_push_of_some _ e
  refine ⟨S'.fr, fun p hp => ?_, S'.led, fun p hp q hq => ?_, ?_, S.prov⟩
  · rcases List.mem_cons.mp hp with rfl | hp
    · exact ⟨Heap.get?_push_size _ hf, S.neL (size_none h), S.fresh (size_none h)⟩
    · exact S'.un p hp
  · rcases List.mem_cons.mp hq with rfl | hq
    · exact Nat.ne_of_lt (Heap.lt_size (S.led p hp).1)
    · exact S.sep p hp q hq
  · rw [List.map_cons, List.nodup_cons]
    refine ⟨fun hm => ?_, S.nd⟩
    obtain ⟨q, hq, e⟩ := List.mem_map.mp hm
    exact absurd (Heap.lt_size (S.un q hq).1) (e ▸ Nat.lt_irrefl _)
inductive Rep (a : Addr) (o o' : Obj) : Lg → Lg → Prop
  | head {r : Lg} : Rep a o o' ((a, o) :: r) ((a, o') :: r)
  | tail {p : Addr × Obj} {r r' : Lg} : Rep a o o' r r' → Rep a o o' (p :: r) (p :: r')
theorem Rep.mem {o' : Obj} {u u' : Lg} (R : Rep a o o' u u') : (a, o) ∈ u := by
  induction R with
  | head => exact .head _
  | tail _ ih => exact .tail _ ih
theorem Rep.keys {o' : Obj} {u u' : Lg} (R : Rep a o o' u u') : u'.map (·.1) = u.map (·.1) := by
  induction R with
  | head => rfl
  | tail _ ih => simp [ih]
theorem Rep.of {o' : Obj} {u u' : Lg} (R : Rep a o o' u u') : ∀ p ∈ u', p = (a, o') ∨ p ∈ u := by
  induction R with
  | head => intro p hp; rcases List.mem_cons.mp hp with h | h; exact .inl h; exact .inr (.tail _ h)
  | tail _ ih =>
    intro p hp
    rcases List.mem_cons.mp hp with h | h
    · exact .inr (h ▸ .head _)
    · exact (ih p h).imp id fun h => .tail _ h
theorem Rep.nodup {o' : Obj} {u u' : Lg} (R : Rep a o o' u u') (nd : (u.map (·.1)).Nodup) : ∀ p ∈ u', p = (a, o') ∨ (p ∈ u ∧ p.1 ≠ a) := by
  induction R with
  | head =>
    intro p hp
    rw [List.map_cons, List.nodup_cons] at nd
    rcases List.mem_cons.mp hp with h | h
    · exact .inl h
    · exact .inr ⟨.tail _ h, fun e => nd.1 (List.mem_map.mpr ⟨p, h, e⟩)⟩
  | @tail q r r' R ih =>
    intro p hp
    rw [List.map_cons, List.nodup_cons] at nd
    rcases List.mem_cons.mp hp with h | h
    · subst h
      exact .inr ⟨.head _, fun e => nd.1 (List.mem_map.mpr ⟨(a, o), R.mem, e.symm⟩)⟩
    · exact (ih nd.2 p h).imp id fun h => ⟨.tail _ h.1, h.2⟩
theorem St.set {o' : Obj} {u' : Lg} (S : St h₀ L gi m u g h) (R : Rep a o o' u u') (hs : Heap.SameBut a h h') (ho : h'.get? a = some o') : St h₀ L gi m u' g h' := by
  have ha := S.un _ R.mem
  have hL : L ≠ a := Ne.symm ha.2.1
  refine ⟨⟨S.fr.ns.sameBut hs hL, fun b x e => (hs.2 b fun q => ?_).trans (S.fr.keep b x e), S.fr.above⟩, fun p hp => ?_, fun p hp => ⟨(hs.2 _ (S.sep p hp _ R.mem)).trans (S.led p hp).1, (S.led p hp).2⟩, fun p hp q hq => ?_, R.keys ▸ S.nd, S.prov⟩
  · have := ha.2.2; rw [← q] at this; rw [this] at e; cases e
  · rcases R.nodup S.nd p hp with rfl | ⟨h1, h2⟩
    · exact ⟨ho, ha.2⟩
    · exact ⟨(hs.2 _ h2).trans (S.un p h1).1, (S.un p h1).2⟩
  · rcases R.of q hq with rfl | h1
    · exact S.sep p hp (a, o) R.mem
    · exact S.sep p hp q h1
theorem St.subG {g' : Lg} (S : St h₀ L gi m u g h) (hg : ∀ p ∈ g', p ∈ g) : St h₀ L gi m u g' h :=
  ⟨S.fr, S.un, fun p hp => S.led p (hg p hp), fun p hp => S.sep p (hg p hp), S.nd, fun p hp => S.prov p (hg p hp)⟩
theorem St.drop {p : Addr × Obj} (S : St h₀ L gi m (p :: u) g h) : St h₀ L gi m u g h :=
  ⟨S.fr, fun q hq => S.un q (.tail _ hq), S.led, fun q hq r hr => S.sep q hq r (.tail _ hr), (List.nodup_cons.mp S.nd).2, S.prov⟩
theorem St.swap {p q : Addr × Obj} (S : St h₀ L gi m (p :: q :: u) g h) : St h₀ L gi m (q :: p :: u) g h := by
  refine ⟨S.fr, fun r hr => S.un r ?_, S.led, fun r hr s hs => S.sep r hr s ?_, ?_, S.prov⟩
  · simp only [List.mem_cons] at hr ⊢; rcases hr with h | h | h <;> simp [h]
  · simp only [List.mem_cons] at hs ⊢; rcases hs with h | h | h <;> simp [h]
  · have := S.nd
    simp only [List.map_cons, List.nodup_cons, List.mem_cons, not_or] at this ⊢
    exact ⟨⟨Ne.symm this.1.1, this.2.1⟩, this.1.2, this.2.2⟩
theorem St.freeze {p : Addr × Obj} (S : St h₀ L gi m (p :: u) g h) : St h₀ L gi m u (p :: g) h := by
  have hp := S.un p (.head _)
  refine ⟨S.fr, S.drop.un, fun q hq => ?_, fun q hq r hr => ?_, S.drop.nd, fun q hq => ?_⟩
  · rcases List.mem_cons.mp hq with rfl | hq
    · exact ⟨hp.1, hp.2.1⟩
    · exact S.led q hq
  · rcases List.mem_cons.mp hq with rfl | hq
    · intro e
      exact (List.nodup_cons.mp S.nd).1 (List.mem_map.mpr ⟨r, hr, e.symm⟩)
    · exact S.sep q hq r (.tail _ hr)
  · rcases List.mem_cons.mp hq with rfl | hq
    · exact .inr hp.2.2
    · exact S.prov q hq
/-- behind a call that turned nothing: what it made, or was given, stands -/
theorem St.back {g' : Lg} (S : St h₀ L gi m u g h) (hk : Ext h h') (hg : ∀ p ∈ g', h'.get? p.1 = some p.2) (hn : ∀ p ∈ g', p ∈ g ∨ h.get? p.1 = none) : St h₀ L gi m u (g' ++ g) h' := by
  have S' := S.ext hk
  refine ⟨S'.fr, S'.un, fun p hp => ?_, fun p hp q hq => ?_, S.nd, fun p hp => ?_⟩
  · rcases List.mem_append.mp hp with hp | hp
    · rcases hn p hp with h1 | h1
      · exact S'.led p h1
      · exact ⟨hg p hp, S.neL h1⟩
    · exact S'.led p hp
  · rcases List.mem_append.mp hp with hp | hp
    · rcases hn p hp with h1 | h1
      · exact S.sep p h1 q hq
      · intro e; rw [e, (S.un q hq).1] at h1; cases h1
    · exact S.sep p hp q hq
  · rcases List.mem_append.mp hp with hp | hp
    · rcases hn p hp with h1 | h1
      · exact S.prov p h1
      · exact .inr (S.fresh h1)
    · exact S.prov p hp
end
end Mine
end
section
open PySem PyProof.Rows PySem.Calls
namespace Mine

abbrev eX (name : Str) (scope : Scope) (L a : Addr) (cd : Value) (cells : List (Str × Addr)) : Env :=
  { scope := scope, locals := L, globals := mainGlobals, cells := cells, qual := name ++ ".<locals>.", func := some a, code := cd, frame := some L, builtins := builtinsNs }

def upd (m : Str → Option Value) (x : Str) (v : Value) : Str → Option Value := fun y => if y = x then some v else m y
theorem upd_ne {m : Str → Option Value} {x y : Str} {v : Value} {r : Option Value} (h : y ≠ x) (hm : m y = r) : upd m x v y = r := by simp [upd, h, hm]
theorem upd_eq {m : Str → Option Value} {x : Str} {v : Value} : upd m x v x = some v := by simp [upd]

abbrev PP : Program := Challenge.pw_wm_yst127_2
def fdAt (i : Nat) : DefRec := match PP.main.body[i]? with
  | some (.FunctionDef n a b _ _ _ sc _ _ pos) => ⟨n, a, b, sc, pos⟩
  | _ => ⟨Str.empty, default, [], default, default⟩
def defIdx : List Nat := [3, 4, 5, 6, 7, 8, 9, 19, 20, 21, 22, 23, 24, 25, 26, 27]
abbrev docF (i : Nat) (pm code doc : Value) : FuncData := docDef (fdAt i).name (fdAt i).params (fdAt i).body (fdAt i).scope pm code doc

structure FnAt (i : Nat) (h : Heap) (a : Addr) (o : Obj) (pm code doc : Value) : Prop where
  at_ : h.get? a = some o
  d : o.data = .func (docF i pm code doc)
  c : h.CodeRec code (fdAt i).name

def freeL : List Str := ["len", "list", "dict", "type", "int", "str", "bool", "isinstance", "enumerate", "ValueError"]
def constL : List (Str × Int) := [("MAX_NAME", 200), ("MAX_NUMBER", 1000000000000000000), ("_law_top", 1000000000000000000)]
mutual
def ofW : PySem.W.WData → Dt
  | .none => .none
  | .bool b => .bool b
  | .int i => .int i
  | .str x => .str x
  | .float _ => .flt
  | .tuple xs => .tuple (ofWs xs)
  | _ => .bad
def ofWs : List PySem.W.WData → List Dt
  | [] => []
  | x :: r => ofW x :: ofWs r
end
def tabL : List (Str × Dt) := (PySem.W.wlitsOf PP).map fun p => (p.1, ofW p.2)
structure Wd (mg mb : Str → Option Value) (h : Heap) : Prop where
  g : h.Ns mainGlobals mg
  b : h.Ns builtinsNs mb
  nolimit : h.NoLimit
  builtins : ∀ x : Str, x ≠ "__name__" → mb x = bootBuiltins x
  fn : ∀ i ∈ defIdx, ∃ a o pm code doc, mg (fdAt i).name = some (.ref a) ∧ FnAt i h a o pm code doc
  free : ∀ x ∈ freeL, mg x = none
  const : ∀ p ∈ constL, ∃ t, mg p.1 = some (.int p.2 t)
  tabs : ∃ gT : Lg, (∀ p ∈ gT, h.get? p.1 = some p.2) ∧ ∀ p ∈ tabL, ∃ v, mg p.1 = some v ∧ DL gT v p.2

theorem Wd.keeps {mg mb : Str → Option Value} {h h' : Heap} (W : Wd mg mb h) (hk : Ext h h') : Wd mg mb h' where
  g := W.g.keeps hk
  b := W.b.keeps hk
  nolimit := W.nolimit.keeps hk
  builtins := W.builtins
  fn := fun i hi => let ⟨a, o, pm, cd, dc, h1, h2⟩ := W.fn i hi; ⟨a, o, pm, cd, dc, h1, hk _ _ h2.at_, h2.d, h2.c.keeps hk⟩
  free := W.free
  const := W.const
  tabs := let ⟨gT, h1, h2⟩ := W.tabs; ⟨gT, fun p hp => hk _ _ (h1 p hp), h2⟩

structure OkA (A : Around) (n : Nat) : Prop where
  hd : A.handled = none
  dp : A.depth + n < recursionLimit
  un : A.units + 4 * n + 80 < cLine
theorem OkA.deeper {A : Around} {n : Nat} {env : Env} (x : OkA A (n + 1)) : OkA (A.deeper env) n := by
  obtain ⟨h1, h2, h3⟩ := x
  refine ⟨h1, ?_, ?_⟩
  · show A.depth + 1 + n < _; omega
  · show A.units + 3 + 4 * n + 80 < _; omega
theorem OkA.less {A : Around} {n k : Nat} (x : OkA A n) (h : k ≤ n) : OkA A k := ⟨x.hd, by have := x.dp; omega, by have := x.un; omega⟩

section
variable {prog : Program} {w : World} {A : Around} {E : Value → Shared → Prop} {s : Shared} {h₀ : Heap} {L a : Addr} {gi : Lg} {m mg mb : Str → Option Value} {u g : Lg} {cn : Str} {cs : Scope} {cd : Value} {cl : List (Str × Addr)}
variable {x : Str} {pos : Pos} {v : Value}

theorem nmL {Q : Value → Shared → Prop} (S : St h₀ L gi m u g s.heap) (hv : m x = some v) (h : Q v s)
    (hk : cs.kind = .function := by rfl) (hx : (eX cn cs L a cd cl).kindOf x = some .local := by rfl) (hd : (x == ("__debug__" : Str)) = false := by decide) :
    wpAny (model prog w) A (eval (.Name x pos) (eX cn cs L a cd cl)) Q E s := wpAny_Name (wpAny_loadName_local hk hx S.fr.ns hv h) hd
theorem nmC {Q : Value → Shared → Prop} {c : Addr} (S : St h₀ L gi m u g s.heap) (hc : cl.lookup x = some c) (hm : (c, celO (some v)) ∈ u) (h : Q v s)
    (hk : cs.kind = .function := by rfl) (hx : (eX cn cs L a cd cl).kindOf x = some .cell := by rfl) (hd : (x == ("__debug__" : Str)) = false := by decide) :
    wpAny (model prog w) A (eval (.Name x pos) (eX cn cs L a cd cl)) Q E s := wpAny_Name (wpAny_loadName_cell hk hx hc ⟨_, (S.un _ hm).1, rfl⟩ h) hd
theorem nmG {Q : Value → Shared → Prop} (S : St h₀ L gi m u g s.heap) (W : Wd mg mb h₀) (hv : mg x = some v) (h : Q v s)
    (hk : cs.kind = .function := by rfl) (hx : (eX cn cs L a cd cl).kindOf x = some .globalImplicit := by rfl) (hd : (x == ("__debug__" : Str)) = false := by decide) :
    wpAny (model prog w) A (eval (.Name x pos) (eX cn cs L a cd cl)) Q E s :=
  Name_function_global hk hx (loadGlobal_global (env := eX cn cs L a cd cl) (W.g.keeps S.fr.keep) hv h) hd
theorem nmB {Q : Value → Shared → Prop} (S : St h₀ L gi m u g s.heap) (W : Wd mg mb h₀) (hf : mg x = none) (hv : bootBuiltins x = some v) (h : Q v s)
    (hn : x ≠ "__name__" := by decide) (hk : cs.kind = .function := by rfl) (hx : (eX cn cs L a cd cl).kindOf x = some .globalImplicit := by rfl) (hd : (x == ("__debug__" : Str)) = false := by decide) :
    wpAny (model prog w) A (eval (.Name x pos) (eX cn cs L a cd cl)) Q E s :=
  Name_function_global hk hx (loadGlobal_builtin (env := eX cn cs L a cd cl) (W.g.keeps S.fr.keep) hf (W.b.keeps S.fr.keep) ((W.builtins x hn).trans hv) h) hd
theorem stL {Q : Unit → Shared → Prop} (S : St h₀ L gi m u g s.heap) (h : ∀ h', St h₀ L gi (upd m x v) u g h' → Q () { s with heap := h', toks := s.toks + 1 })
    (hk : cs.kind = .function := by rfl) (hx : (eX cn cs L a cd cl).kindOf x = some .local := by rfl) : wpAny (model prog w) A (storeName (eX cn cs L a cd cl) x v) Q E s :=
  wpAny_storeName_local hx S.fr.ns (fun h' hn hs => h h' (S.store hn hs)) (by show (cs.kind == .class || (cs.kind == .module && L != mainGlobals)) = false; rw [hk]; rfl)
theorem stCell {Q : Unit → Shared → Prop} {c : Addr} {v₀ : Option Value} {u' : Lg} (S : St h₀ L gi m u g s.heap) (hc : cl.lookup x = some c) (R : Rep c (celO v₀) (celO (some v)) u u')
    (h : ∀ h', St h₀ L gi m u' g h' → Q () { s with heap := h' })
    (hk : cs.kind = .function := by rfl) (hx : (eX cn cs L a cd cl).kindOf x = some .cell := by rfl) : wpAny (model prog w) A (storeName (eX cn cs L a cd cl) x v) Q E s := by
  have hm := S.un _ R.mem
  unfold storeName
  simp only [hx, hk]
  refine wpAny_bind (wpAny_cellOf hc ?_)
  unfold cellSet
  refine wpAny_bind (wpAny_load hm.1 ?_)
  refine wpAny_update hm.1 (h _ (S.set R (Heap.SameBut.update ..) (Heap.get?_update_self _ hm.1 rfl)))
end

/-- entering a def without cells -/
theorem enterP {prog : Program} {w : World} {A : Around} {E : Value → Shared → Prop} {s : Shared} {hb : Heap} {i : Nat} {a : Addr} {o : Obj} {pm code doc : Value} {args : List Value} {binds : List (Str × Value)} {u g : Lg} {n : Nat} {Q : Value → Shared → Prop}
    (hA : OkA A (n + 1)) (fn : FnAt i s.heap a o pm code doc) (hlim : s.heap.NoLimit) (hk : Ext hb s.heap) (hsz : hb.objs.size ≤ s.heap.objs.size)
    (hu : ∀ p ∈ u, s.heap.get? p.1 = some p.2 ∧ hb.get? p.1 = none) (hg : ∀ p ∈ g, s.heap.get? p.1 = some p.2) (hs : ∀ p ∈ g, ∀ q ∈ u, p.1 ≠ q.1) (nd : (u.map (·.1)).Nodup)
    (hbind : bindArgs (docF i pm code doc) ⟨args, []⟩ = pure binds)
    (h : ∀ L h₁ tk, St hb L g (fun x => binds.reverse.lookup x) u g h₁ → OkA (A.deeper (eX (fdAt i).name (fdAt i).scope L a code [])) n →
      wpAny (model prog w) (A.deeper (eX (fdAt i).name (fdAt i).scope L a code [])) (execs (fdAt i).body (eX (fdAt i).name (fdAt i).scope L a code []))
        (fun fl s' => Q (match fl with | .ret v => v | _ => .none) s') (fun _ _ => False) { s with heap := h₁, toks := tk })
    (hloc : ∀ x ∈ binds, (fdAt i).scope.names.lookup x.1 = some .local := by exact locs rfl)
    (hco : (fdAt i).scope.isCoroutine = false := by rfl) (hgen : (fdAt i).scope.isGenerator = false := by rfl) (hkd : (fdAt i).scope.kind = .function := by rfl)
    (hcell : ∀ x ∈ (fdAt i).scope.names, x.2 ≠ .cell := by decide) :
    wpAny (model prog w) A (call (.ref a) args) Q E s := by
  refine wpAny_call (call_plain_ret (by have := hA.dp; omega) fn.at_ fn.d hlim fn.c hbind hloc (fun h₁ F₁ => ?_) hco hgen hkd hcell)
  refine h s.heap.objs.size h₁ _ ⟨⟨F₁.ns, fun b ob e => F₁.keep _ _ (hk _ _ e), hsz⟩, fun p hp => ⟨F₁.keep _ _ (hu p hp).1, Nat.ne_of_lt (Heap.lt_size (hu p hp).1), (hu p hp).2⟩, fun p hp => ⟨F₁.keep _ _ (hg p hp), Nat.ne_of_lt (Heap.lt_size (hg p hp))⟩, hs, nd, fun p hp => .inl hp⟩ hA.deeper

section
variable {prog : Program} {w : World} {A : Around} {E : Value → Shared → Prop} {s : Shared} {h₀ : Heap} {L d : Addr} {gi : Lg} {m : Str → Option Value} {u g : Lg} {o : Obj} {k : Str} {t : Tok} {kvs : List (Str × Value)}

theorem St.dict (S : St h₀ L gi m u g s.heap) (hm : (d, o) ∈ u) (Ho : o.IsDictOf (strKind prog w) kvs) : s.heap.DictOf (strKind prog w) d kvs := Heap.dictOf_iff.mpr ⟨o, (S.un _ hm).1, Ho⟩

theorem St.dictH {h : Heap} (S : St h₀ L gi m u g h) (hm : (d, o) ∈ u) (Ho : o.IsDictOf (strKind prog w) kvs) : h.DictOf (strKind prog w) d kvs := Heap.dictOf_iff.mpr ⟨o, (S.un _ hm).1, Ho⟩

theorem dIn {Q : Value → Shared → Prop} (S : St h₀ L gi m u g s.heap) (hm : (d, o) ∈ u) (Ho : o.IsDictOf (strKind prog w) kvs) (lo : (d == sysModules) = false)
    (h : Q (.bool (valueAt kvs k).isSome) { s with toks := s.toks + 1 }) : wpAny (model prog w) A (compareOp .In (.str k t) (.ref d)) Q E s :=
  wpAny_in_of (strKind_is prog w k t) lo (S.dict hm Ho).mapOf h
theorem dNotIn {Q : Value → Shared → Prop} (S : St h₀ L gi m u g s.heap) (hm : (d, o) ∈ u) (Ho : o.IsDictOf (strKind prog w) kvs) (lo : (d == sysModules) = false)
    (h : Q (.bool (!(valueAt kvs k).isSome)) { s with toks := s.toks + 1 }) : wpAny (model prog w) A (compareOp .NotIn (.str k t) (.ref d)) Q E s :=
  wpAny_notIn_of (strKind_is prog w k t) lo (S.dict hm Ho).mapOf h
theorem dSet {Q : Unit → Shared → Prop} {v : Value} {U : Obj → Lg} (S : St h₀ L gi m u g s.heap) (R : ∀ o', Rep d o o' u (U o')) (Ho : o.IsDictOf (strKind prog w) kvs) (hsz : kvs.length ≤ sizeLine)
    (h : ∀ h' o', St h₀ L gi m (U o') g h' → o'.IsDictOf (strKind prog w) (stored kvs k v) → Q () { s with heap := h', toks := s.toks + 1 }) :
    wpAny (model prog w) A (setItem (.ref d) (.str k t) v) Q E s :=
  wpAny_setItem_pairs (hsz := hsz) (strKind_is prog w k t) (S.dict (R o).mem Ho) fun h' hd hs => by
    obtain ⟨o', ho', Ho'⟩ := Heap.dictOf_iff.mp hd
    exact h h' o' (S.set (R o') hs ho') Ho'
theorem dPop {Q : Value → Shared → Prop} {v : Value} {U : Obj → Lg} (S : St h₀ L gi m u g s.heap) (R : ∀ o', Rep d o o' u (U o')) (Ho : o.IsDictOf (strKind prog w) kvs) (hsz : kvs.length ≤ sizeLine) (hv : valueAt kvs k = some v)
    (h : ∀ h' o', St h₀ L gi m (U o') g h' → o'.IsDictOf (strKind prog w) (without kvs k) → Q v { s with heap := h', toks := s.toks + 1 }) :
    wpAny (model prog w) A (call (.builtin "dict.pop") [.ref d, .str k t]) Q E s :=
  call_meetsIn PySem.F.slot_dict_pop (S.dict (R o).mem Ho).typeIs PySem.F.entry_dict_pop (PySem.F.args_dict_pop_2 _ _) (meets_dict_pop_there (strKind prog w) d (strKind_is prog w k t) [] (.inl rfl) rfl)
    ⟨kvs, v, S.dict (R o).mem Ho, hsz, hv, fun h' hd hs => by
      obtain ⟨o', ho', Ho'⟩ := Heap.dictOf_iff.mp hd
      exact h h' o' (S.set (R o') hs ho') Ho'⟩

/-- a method of a built-in type, called -/
theorem callM {env : Env} {ob : Expr} {name : Str} {apos pos : Pos} {args : List Expr} {Q : Value → Shared → Prop} (T id : String)
    (pa : PlainAttrs T) (slot : Slot T name id) (ty : typeOf (.builtin id) = pure (.type "method_descriptor"))
    (h : wpAny (model prog w) A (eval ob env) (fun ov s₁ => s₁.TypeIs ov T ∧ (∀ a, ov = .ref a → ∃ ob, s₁.heap.get? a = some ob ∧ ob.dict = none) ∧
      wpAny (model prog w) A (spliced (backTo pos (starEach args env))) (fun vs s₂ => wpAny (model prog w) A (call (.builtin id) (ov :: vs)) Q E s₂) E s₁) E s)
    (hne : args ≠ [] := by intro h; cases h)
    (hbase : attributeBase ob name env (eval ob env) = eval ob env := by rfl)
    (hfew : ((backTo pos (starEach args env)).all (fun x => !x.1) && (backToKw pos (keywordEach [] env)).all (fun x => x.1.isSome)
      && decide (args.length + ([] : List Keyword).length + (if ([] : List Keyword).isEmpty then 0 else 1) < 30)) = true := by rfl)
    (hline : (apos.endLine == pos.line) = true := by rfl) (hst : starEach args env = (match args with | e :: r => (false, eval e env) :: starEach r env | [] => []) := by rfl)
    (hplain : (backTo pos (starEach args env)).any (·.1) = false := by rfl) :
    wpAny (model prog w) A (eval (.Call (.Attribute ob name apos) args [] pos) env) Q E s := by
  refine wpAny_Call_method_late hbase hfew hline rfl (wpAny_mono h (fun ov s₁ h₁ => ?_) fun _ _ x => x)
  obtain ⟨hT, hd, hc⟩ := h₁
  refine ⟨T, id, pa, slot, ty, hT, hd, callWith_builtin hplain ?_⟩
  cases args with
  | nil => exact absurd rfl hne
  | cons e r =>
    simp only at hst
    rw [hst] at hc ⊢
    exact evalArgs_plain hc
end


section
variable {prog : Program} {w : World} {M : Model} {A : Around} {E : Value → Shared → Prop} {s : Shared} {env : Env} {x : Str} {p pos : Pos} {e : Expr} {r : List Expr} {Q : Value → Shared → Prop}

/-- a built-in function, a built-in type, a def of the text called by its name with one argument or more -/
theorem callB (id : String) (h : wpAny M A (eval (.Name x p) env) (fun f s₁ => f = .builtin id ∧ wpAny M A (spliced (backTo pos (starEach (e :: r) env))) (fun vs s₂ => wpAny M A (call (.builtin id) vs) Q E s₂) E s₁) E s)
    (he : starEach (e :: r) env = (false, eval e env) :: starEach r env := by rfl) (hp : (backTo pos (starEach r env)).any (·.1) = false := by rfl) :
    wpAny M A (eval (.Call (.Name x p) (e :: r) [] pos) env) Q E s := by
  refine Call_Name rfl (wpAny_mono h (fun f s₁ h₁ => ?_) fun _ _ q => q)
  obtain ⟨rfl, h₁⟩ := h₁
  rw [he] at h₁ ⊢
  refine callWith_builtin (by show (false || (backTo pos (starEach r env)).any (·.1)) = false; rw [hp]; rfl) (evalArgs_plain ?_)
  exact wpAny_mono h₁ (fun vs s₂ h₂ => h₂) fun _ _ q => q
theorem callT (T : String) (h : wpAny M A (eval (.Name x p) env) (fun f s₁ => f = .type T ∧ wpAny M A (spliced (backTo pos (starEach (e :: r) env))) (fun vs s₂ => wpAny M A (call (.type T) vs) Q E s₂) E s₁) E s)
    (he : starEach (e :: r) env = (false, eval e env) :: starEach r env := by rfl) (hp : (backTo pos (starEach r env)).any (·.1) = false := by rfl) :
    wpAny M A (eval (.Call (.Name x p) (e :: r) [] pos) env) Q E s := by
  refine Call_Name rfl (wpAny_mono h (fun f s₁ h₁ => ?_) fun _ _ q => q)
  obtain ⟨rfl, h₁⟩ := h₁
  exact callWith_type1 h₁ he hp
theorem callU {a : Addr} {o : Obj} {fd : FuncData} (h : wpAny M A (eval (.Name x p) env) (fun f s₁ => f = .ref a ∧ wpAny M A (spliced (backTo pos (starEach (e :: r) env))) (fun vs s₂ => (s₂.heap.get? a = some o ∧ o.data = .func fd) ∧ wpAny M A (call (.ref a) vs) Q E s₂) E s₁) E s)
    (he : starEach (e :: r) env = (false, eval e env) :: starEach r env := by rfl) :
    wpAny M A (eval (.Call (.Name x p) (e :: r) [] pos) env) Q E s := by
  refine Call_Name rfl (wpAny_mono h (fun f s₁ h₁ => ?_) fun _ _ q => q)
  obtain ⟨rfl, h₁⟩ := h₁
  rw [he] at h₁ ⊢
  exact callWith_function (o := o) (fd := fd) (evalArgs_plain (wpAny_mono h₁ (fun vs s₂ h₂ => h₂) fun _ _ q => q))
end

section
variable {prog : Program} {w : World} {A : Around} {E : Value → Shared → Prop} {s : Shared} {h₀ : Heap} {L d : Addr} {gi : Lg} {m : Str → Option Value} {u g : Lg} {o : Obj} {k : Str} {t : Tok} {kvs : List (Str × Value)}
theorem dDel {Q : Unit → Shared → Prop} {U : Obj → Lg} (S : St h₀ L gi m u g s.heap) (R : ∀ o', Rep d o o' u (U o')) (Ho : o.IsDictOf (strKind prog w) kvs) (hsz : kvs.length ≤ sizeLine) (hv : (valueAt kvs k).isSome = true)
    (h : ∀ h' o', St h₀ L gi m (U o') g h' → o'.IsDictOf (strKind prog w) (without kvs k) → Q () { s with heap := h', toks := s.toks + 1 }) :
    wpAny (model prog w) A (delItem (.ref d) (.str k t)) Q E s :=
  wpAny_delItem_slot (S.dict (R o).mem Ho).typeIs (by decide) PySem.F.slot_dict_delitem (call_meetsIn PySem.F.slot_dict_delitem (S.dict (R o).mem Ho).typeIs PySem.F.entry_dict_delitem (PySem.F.args_dict_delitem_2 _ _)
    (meets_dict_delitem_pairs (strKind prog w) d (strKind_is prog w k t)) ⟨kvs, S.dict (R o).mem Ho, hsz, hv, fun h' hd hs => by
      obtain ⟨o', ho', Ho'⟩ := Heap.dictOf_iff.mp hd
      exact h h' o' (S.set (R o') hs ho') Ho'⟩)
theorem dLen {Q : Value → Shared → Prop} (S : St h₀ L gi m u g s.heap) (hm : (d, o) ∈ u) (Ho : o.IsDictOf (strKind prog w) kvs) (lo : (d == sysModules) = false) (hsz : kvs.length ≤ 1000)
    (h : Q (.int kvs.length (s.toks + 1)) { s with toks := s.toks + 1 + 1 }) : wpAny (model prog w) A (call (.builtin "len") [.ref d]) Q E s :=
  call_len_dict lo (S.dict hm Ho) (by omega) h
end
section
variable {prog : Program} {w : World} {A : Around} {E : Value → Shared → Prop} {s : Shared} {mg mb : Str → Option Value} {a d : Addr} {o : Obj} {k : Str} {t : Tok} {kvs : List (Str × Value)} {Q : Value → Shared → Prop}

theorem fn_of {h : Heap} {i : Nat} (W : Wd mg mb h) (hi : i ∈ defIdx) (ha : mg (fdAt i).name = some (.ref a)) : ∃ o pm code doc, FnAt i h a o pm code doc := by
  obtain ⟨a', o, pm, cd, dc, e, f⟩ := W.fn i hi
  rw [ha] at e
  cases e
  exact ⟨o, pm, cd, dc, f⟩
theorem ext_hide (h : Heap) (d : Addr) : Ext (h.hide d) h := fun _ _ e => Heap.of_hide e
theorem FnAt.up {h h' : Heap} {i : Nat} {o : Obj} {pm cd dc : Value} (f : FnAt i h a o pm cd dc) (hk : Ext h h') : FnAt i h' a o pm cd dc := ⟨hk _ _ f.at_, f.d, f.c.keeps hk⟩

/-- what a caller learns of a call that may turn the one object d -/
structure Turned (h h' : Heap) (d : Addr) (o' : Obj) : Prop where
  keep : ∀ b x, b ≠ d → h.get? b = some x → h'.get? b = some x
  at_ : h'.get? d = some o'
theorem turned_of {h h' : Heap} {L : Addr} {gi g : Lg} {m : Str → Option Value} {o' : Obj} (S : St (h.hide d) L gi m [(d, o')] g h') : Turned h h' d o' :=
  ⟨fun b x hb e => S.fr.keep b x ((Heap.hide_ne h hb).trans e), (S.un _ (.head _)).1⟩

end
end Mine
end
section
open PySem PyProof.Rows PySem.Calls
namespace Mine

def Lets (tg : Expr) : Prop := ∀ {prog : Program} {w : World} {A : Around} {E : Value → Shared → Prop} {s : Shared} {I l : Addr} {i : Nat} {v : Value} {Q : Unit → Shared → Prop}, s.heap.IsListIter I l i → Q () s → wpAny (model prog w) A (letOwnedTupleGo tg (.ref I) v) Q E s
theorem lets_name (x : Str) (p : Pos) : Lets (.Name x p) := fun _ h => wpAny_pure h
theorem lets_tuple (es : List Expr) (k : Nat) (p : Pos) : Lets (.Tuple es k p) := fun {_ _ _ _ _ _ _ _ v _} hit h => by
  cases v with
  | ref T => exact wpAny_letOwnedTupleGo_listiter hit h
  | _ => exact wpAny_pure h

section
variable {h₀ h h' : Heap} {L I : Addr} {gi : Lg} {m : Str → Option Value} {u g : Lg} {io : Obj}
theorem St.extBut (S : St h₀ L gi m ((I, io) :: u) g h) (hx : Heap.ExtBut I h h') : St h₀ L gi m u g h' := by
  have hI := S.un _ (.head _)
  have hne : ∀ p ∈ u, p.1 ≠ I := fun p hp e => (List.nodup_cons.mp S.nd).1 (List.mem_map.mpr ⟨p, hp, e⟩)
  refine ⟨⟨S.fr.ns.extBut hx (Ne.symm hI.2.1), fun b o e => hx b o (fun q => ?_) (S.fr.keep b o e), S.fr.above⟩, fun p hp => ⟨hx _ _ (hne p hp) (S.un p (.tail _ hp)).1, (S.un p (.tail _ hp)).2⟩,
    fun p hp => ⟨hx _ _ (S.sep p hp _ (.head _)) (S.led p hp).1, (S.led p hp).2⟩, fun p hp q hq => S.sep p hp q (.tail _ hq), S.drop.nd, S.prov⟩
  have := hI.2.2; rw [← q, e] at this; cases this
end

section
variable {prog : Program} {w : World} {A : Around} {E : Value → Shared → Prop} {s : Shared} {h₀ : Heap} {L : Addr} {gi : Lg} {m : Str → Option Value} {u g : Lg} {env : Env} {tg : Expr} {body : List Stmt} {lv : Value} {ds : List Dt}

/-- what a turn's end must show -/
def TurnEnd (h₀ : Heap) (L : Addr) (gi : Lg) (J : (Str → Option Value) → Lg → Lg → Prop) (I : Addr) (io : Obj) (s : Shared) (Q : Flow → Shared → Prop) (f : Flow) (s₃ : Shared) : Prop := match f with
  | .next | .cont => ∃ m' u' g' h' tk', s₃ = { s with heap := h', toks := tk' } ∧ J m' u' g' ∧ St h₀ L gi m' ((I, io) :: u') g' h'
  | .brk => Q .next s₃
  | .ret v => Q (.ret v) s₃
theorem TurnEnd.next {J : (Str → Option Value) → Lg → Lg → Prop} {I : Addr} {io : Obj} {Q : Flow → Shared → Prop} {m' : Str → Option Value} {u' g' : Lg} {h' : Heap} {tk' : Nat} (j : J m' u' g') (S : St h₀ L gi m' ((I, io) :: u') g' h') :
    TurnEnd h₀ L gi J I io s Q .next { s with heap := h', toks := tk' } := ⟨m', u', g', h', tk', rfl, j, S⟩

theorem forX {Q : Flow → Shared → Prop} (EL : Value → Shared → Prop) (hEL : ∀ e s', EL e s' → notedBy (model prog w) A env (fun x s'' => cameBackBy (model prog w) A env E x s'') e s') (J : Nat → (Str → Option Value) → Lg → Lg → Prop) (hh : A.handled = none) (S : St h₀ L gi m u g s.heap) (D : DL g lv (.list ds)) (h0 : J 0 m u g) (lets : Lets tg)
    (turn : ∀ i d v m' u' g' h tk I io, ds[i]? = some d → DL g v d → (∀ p ∈ g, p ∈ g') → J i m' u' g' → St h₀ L gi m' ((I, io) :: u') g' h →
      wpAny (model prog w) A (assign tg env v) (fun _ s₂ => wpAny (model prog w) A (execs body env) (TurnEnd h₀ L gi (fun m u g'' => (∀ p ∈ g, p ∈ g'') ∧ J (i + 1) m u g'') I io s Q) EL s₂) EL { s with heap := h, toks := tk })
    (done : ∀ m' u' g' h tk, (∀ p ∈ g, p ∈ g') → J ds.length m' u' g' → St h₀ L gi m' u' g' h → Q .next { s with heap := h, toks := tk }) :
    wpAny (model prog w) A (pyIter lv) (fun it s₂ => codeAny (model prog w) A (.forLoop tg it body [] env) (fun r s' => match r with | .ok f => Q f s' | .error e => cameBackBy (model prog w) A env E e s') s₂) E s := by
  cases D with
  | @list l n vs _ hl hD =>
    have hlen := hD.length
    have isl : ∀ {h' : Heap}, h'.get? l = some (lstO vs n) → h'.IsList l vs.toArray := fun e => ⟨_, e, rfl, _, rfl⟩
    refine wpAny_pyIter_list (isl (S.led _ hl).1) ?_
    refine codeAny_forLoop_any (fun k s' => ∃ i m' u' g' h tk io, s' = { s with heap := h, toks := tk } ∧ i ≤ ds.length ∧ k = ds.length + 1 - i ∧ (∀ p ∈ g, p ∈ g') ∧ J i m' u' g' ∧ St h₀ L gi m' ((s.heap.objs.size, io) :: u') g' h ∧ h.IsListIter s.heap.objs.size l i)
      ?_ (ds.length + 1) ⟨0, m, u, g, _, s.toks, _, rfl, Nat.zero_le _, rfl, fun _ hp => hp, h0, S.pushU _, ⟨_, Heap.get?_push_size _ rfl, rfl, rfl⟩⟩
    rintro k s' ⟨i, m', u', g', h, tk, io, rfl, hi, rfl, hsub, hJ, S', hit⟩
    cases hx : vs[i]? with
    | none =>
      have hie : i = ds.length := by have := List.getElem?_eq_none_iff.mp hx; omega
      refine wpAny_pyNext_list_end hh hit (isl (S'.led _ (hsub _ hl)).1) (by simpa using hx) fun h₁ he => wpAny_execs_nil ?_
      exact done m' u' g' h₁ tk hsub (hie ▸ hJ) (S'.extBut he)
    | some v =>
      obtain ⟨d, hd, hDv⟩ := hD.getV hx
      have hlt : i < ds.length := (List.getElem?_eq_some_iff.mp hd).1
      refine wpAny_pyNext_list_item hit (isl (S'.led _ (hsub _ hl)).1) (by simpa using hx) fun h₁ hit₁ hs₁ => ?_
      obtain ⟨io₁, hio₁, hio₂⟩ := id hit₁
      have S₁ := S'.set .head hs₁ hio₁
      refine lets (l := l) (i := i + 1) hit₁ (wpAny_mono (turn i d v m' u' g' h₁ tk _ io₁ hd hDv hsub hJ S₁) (fun _ s₂ h₂ => wpAny_mono h₂ (fun f s₃ h₃ => ?_) fun _ _ e => hEL _ _ e) fun _ _ e => hEL _ _ e)
      cases f with
      | brk => exact h₃
      | ret v => exact h₃
      | next =>
        obtain ⟨m₂, u₂, g₂, h₂, tk₂, rfl, ⟨hs₂, hJ₂⟩, S₂⟩ := h₃
        exact ⟨ds.length + 1 - (i + 1), by omega, i + 1, m₂, u₂, g₂, h₂, tk₂, io₁, rfl, hlt, rfl, hs₂, hJ₂, S₂, ⟨io₁, (S₂.un _ (.head _)).1, hio₂⟩⟩
      | cont =>
        obtain ⟨m₂, u₂, g₂, h₂, tk₂, rfl, ⟨hs₂, hJ₂⟩, S₂⟩ := h₃
        exact ⟨ds.length + 1 - (i + 1), by omega, i + 1, m₂, u₂, g₂, h₂, tk₂, io₁, rfl, hlt, rfl, hs₂, hJ₂, S₂, ⟨io₁, (S₂.un _ (.head _)).1, hio₂⟩⟩

theorem forL {Q : Flow → Shared → Prop} (J : Nat → (Str → Option Value) → Lg → Lg → Prop) (hh : A.handled = none) (S : St h₀ L gi m u g s.heap) (D : DL g lv (.list ds)) (h0 : J 0 m u g) (lets : Lets tg)
    (turn : ∀ i d v m' u' g' h tk I io, ds[i]? = some d → DL g v d → (∀ p ∈ g, p ∈ g') → J i m' u' g' → St h₀ L gi m' ((I, io) :: u') g' h →
      wpAny (model prog w) A (assign tg env v) (fun _ s₂ => wpAny (model prog w) A (execs body env) (TurnEnd h₀ L gi (fun m u g'' => (∀ p ∈ g, p ∈ g'') ∧ J (i + 1) m u g'') I io s Q) (fun _ _ => False) s₂) (fun _ _ => False) { s with heap := h, toks := tk })
    (done : ∀ m' u' g' h tk, (∀ p ∈ g, p ∈ g') → J ds.length m' u' g' → St h₀ L gi m' u' g' h → Q .next { s with heap := h, toks := tk }) :
    wpAny (model prog w) A (pyIter lv) (fun it s₂ => codeAny (model prog w) A (.forLoop tg it body [] env) (fun r s' => match r with | .ok f => Q f s' | .error e => cameBackBy (model prog w) A env E e s') s₂) E s :=
  forX (fun _ _ => False) (fun _ _ h => h.elim) J hh S D h0 lets turn done

/-- an item of a tuple, of a list, at a place in it -/
theorem sbT {Q : Value → Shared → Prop} {value slice : Expr} {ov : Value} {i : Nat} {t : Tok} {d : Dt} (S : St h₀ L gi m u g s.heap) (D : DL g ov (.tuple ds)) (hi : ds[i]? = some d) (hz : ds.length ≤ 1000) (h : ∀ x, DL g x d → Q x s)
    (hs : ∀ l, subscripted slice false (.ref l) (.int i t) = operate [.ref l, .int i t] (getItem (.ref l) (.int i t)) := by intro l; with_unfolding_all rfl) :
    wpAny (model prog w) A (subscriptTail value slice ov (.int i t)) Q E s := by
  cases D with
  | @tuple a o n vs _ hl hc hd hD =>
    obtain ⟨x, hx, hD'⟩ := hD.get hi
    have hlt : i < vs.length := (List.getElem?_eq_some_iff.mp hx).1
    have hlen := hD.length
    exact item_tupleT ⟨_, (S.led _ hl).1, hc, _, hd⟩ (by omega) (by omega) (by simp [seqIndex?]; omega) hx (h x hD') (hs a)
theorem sbL {Q : Value → Shared → Prop} {value slice : Expr} {ov : Value} {i : Nat} {t : Tok} {d : Dt} (S : St h₀ L gi m u g s.heap) (D : DL g ov (.list ds)) (hi : ds[i]? = some d) (hz : ds.length ≤ 1000) (h : ∀ x, DL g x d → Q x s)
    (hs : ∀ l, subscripted slice false (.ref l) (.int i t) = operate [.ref l, .int i t] (getItem (.ref l) (.int i t)) := by intro l; with_unfolding_all rfl) :
    wpAny (model prog w) A (subscriptTail value slice ov (.int i t)) Q E s := by
  cases D with
  | @list a n vs _ hl hD =>
    obtain ⟨x, hx, hD'⟩ := hD.get hi
    have hlt : i < vs.length := (List.getElem?_eq_some_iff.mp hx).1
    have hlen := hD.length
    have hL : s.heap.IsList a vs.toArray := ⟨_, (S.led _ hl).1, rfl, _, rfl⟩
    exact tail_any hL.typeIs slot_list_getitem.lookup (wpAny_getItem_list hL (by omega) (by omega) (by simpa using hx) (h x hD')) (hs a)
/-- append to a list of the call's own -/
theorem lApp {Q : Value → Shared → Prop} {l : Addr} {vs : List Value} {n : Nat} {x : Value} {U : Nat → Lg} (S : St h₀ L gi m u g s.heap) (R : ∀ n', Rep l (lstO vs n) (lstO (vs ++ [x]) n') u (U n')) (hz : vs.length ≤ 1000)
    (h : ∀ h' n', St h₀ L gi m (U n') g h' → Q .none { s with heap := h' }) : wpAny (model prog w) A (call (.builtin "list.append") [.ref l, x]) Q E s := by
  refine wpAny_list_append_plain ⟨n, (S.un _ (R 0).mem).1⟩ (fun h' hp hs => ?_) (by simp; exact Nat.le_trans hz (by decide))
  obtain ⟨n', e⟩ := hp
  refine h h' n' (S.set (R n') hs ?_)
  rw [e]; simp
theorem mkTup {Q : Value → Shared → Prop} {vs : List Value} (S : St h₀ L gi m u g s.heap) (hz : vs.length ≤ 1000) (h : ∀ h' a, St h₀ L gi m u ((a, tupO vs 0) :: g) h' → Q (.ref a) { s with heap := h' }) : wpAny (model prog w) A (newTuple vs) Q E s :=
  wpAny_newTuple (h _ _ (S.pushG _)) (Nat.le_trans hz (by decide))
theorem mkLst {Q : Value → Shared → Prop} {vs : List Value} (S : St h₀ L gi m u g s.heap) (hz : vs.length ≤ 1000) (h : ∀ h' a, St h₀ L gi m u ((a, lstO vs 0) :: g) h' → Q (.ref a) { s with heap := h' }) : wpAny (model prog w) A (newList vs) Q E s :=
  wpAny_newList (h _ _ (S.pushG _)) (Nat.le_trans hz (by decide))
theorem mkLstU {Q : Value → Shared → Prop} {vs : List Value} (S : St h₀ L gi m u g s.heap) (hz : vs.length ≤ 1000) (h : ∀ h' a, St h₀ L gi m ((a, lstO vs 0) :: u) g h' → Q (.ref a) { s with heap := h' }) : wpAny (model prog w) A (newList vs) Q E s :=
  wpAny_newList (h _ _ (S.pushU _)) (Nat.le_trans hz (by decide))
/-- two lists added -/
theorem addL {Q : Value → Shared → Prop} {a b : Value} {es : List Dt} (S : St h₀ L gi m u g s.heap) (Da : DL g a (.list ds)) (Db : DL g b (.list es)) (hz : ds.length + es.length ≤ 1000)
    (h : ∀ h' x o, St h₀ L gi m u ((x, o) :: g) h' → DL ((x, o) :: g) (.ref x) (.list (ds ++ es)) → Q (.ref x) { s with heap := h' }) : wpAny (model prog w) A (binaryOp .Add a b) Q E s := by
  cases Da with
  | @list la na vs _ hla hDa =>
    cases Db with
    | @list lb nb ws _ hlb hDb =>
      have e1 := hDa.length
      have e2 := hDb.length
      obtain ⟨ho, ho2⟩ := And.intro (S.led _ hla).1 (S.led _ hlb).1
      have e : vs.toArray ++ ws.toArray = (vs ++ ws).toArray := by simp
      have hzz : vs.length + ws.length ≤ sizeLine := Nat.le_trans (by omega : _ ≤ 1000) (by decide)
      refine concat_meets ⟨_, ho, rfl⟩ ⟨_, ho2, rfl⟩ noFill_list_add seq_list_add PySem.F.slot_list_add PySem.F.entry_list_add (PySem.F.args_list_add_2 _ _) (list_addW la lb vs.toArray ws.toArray na nb none none #[] #[] (by simpa using hzz)) ⟨ho, ho2, ?_⟩
      rw [e]
      exact h _ _ _ (S.pushG (lstO (vs ++ ws) 0)) (.list (n := 0) (.head _) (((hDa.append hDb)).mono fun _ hp => .tail _ hp))
/-- unpacking a tuple into names -/
theorem unT {Q : Unit → Shared → Prop} {elts : List Expr} {k : Nat} {pos : Pos} {v : Value} (hh : A.handled = none) (S : St h₀ L gi m u g s.heap) (D : DL g v (.tuple ds)) (hn : (assignEach elts env).length = ds.length)
    (h : ∀ vs h', DLs g vs ds → St h₀ L gi m u g h' → wpAny (model prog w) A (assignInOrder ((assignEach elts env).map (·.2)) vs) Q E { s with heap := h' })
    (hstar : (assignEach elts env).findIdx? (·.1) = none := by rfl) : wpAny (model prog w) A (assign (.Tuple elts k pos) env v) Q E s := by
  cases D with
  | @tuple a o n vs _ hl hc hd hD =>
    have hlen := hD.length
    refine assign_Tuple_tuple hh ⟨_, (S.led _ hl).1, hc, _, hd⟩ (by rw [hn, List.size_toArray, hlen]) hstar fun h' he => ?_
    refine h vs h' hD (S.ext fun b o e => he b o (Nat.ne_of_lt (Heap.lt_size e)) e)
end
section
variable {h₀ h h' : Heap} {L : Addr} {gi : Lg} {m m' : Str → Option Value} {u g : Lg}
theorem St.move (S : St h₀ L gi m u g h) (hn : h'.Ns L m') (hk : ∀ b o, b ≠ L → h.get? b = some o → h'.get? b = some o) : St h₀ L gi m' u g h' :=
  ⟨⟨hn, fun b o e => hk b o (Nat.ne_of_lt (Nat.lt_of_lt_of_le (Heap.lt_size e) S.fr.above)) (S.fr.keep b o e), S.fr.above⟩, fun p hp => ⟨hk _ _ (S.un p hp).2.1 (S.un p hp).1, (S.un p hp).2⟩,
    fun p hp => ⟨hk _ _ (S.led p hp).2 (S.led p hp).1, (S.led p hp).2⟩, S.sep, S.nd, S.prov⟩
/-- a thing that was not there before stands now -/
theorem St.add {a : Addr} {o : Obj} (S : St h₀ L gi m u g h) (ha : h.get? a = none) (S' : St h₀ L gi m' u g h') (ho : h'.get? a = some o) : St h₀ L gi m' u ((a, o) :: g) h' := by
  refine ⟨S'.fr, S'.un, fun p hp => ?_, fun p hp q hq => ?_, S'.nd, fun p hp => ?_⟩
  · rcases List.mem_cons.mp hp with rfl | hp
    · exact ⟨ho, S.neL ha⟩
    · exact S'.led p hp
  · rcases List.mem_cons.mp hp with rfl | hp
    · intro e
      have e' : a = q.1 := e
      rw [e', (S.un q hq).1] at ha; cases ha
    · exact S'.sep p hp q hq
  · rcases List.mem_cons.mp hp with rfl | hp
    · exact .inr (S.fresh ha)
    · exact S'.prov p hp
end

section
variable {h₀ h h' : Heap} {L d : Addr} {gi : Lg} {m : Str → Option Value} {u u' g : Lg} {o o' : Obj} {mg mb : Str → Option Value}
theorem St.turn (S : St h₀ L gi m u g h) (R : Rep d o o' u u') (T : Turned h h' d o') : St h₀ L gi m u' g h' := by
  have ha := S.un _ R.mem
  refine ⟨⟨S.fr.ns.extBut (b := d) (fun b x hb e => T.keep b x hb e) (Ne.symm ha.2.1), fun b x e => T.keep b x (fun q => ?_) (S.fr.keep b x e), S.fr.above⟩, fun p hp => ?_, fun p hp => ⟨T.keep _ _ (S.sep p hp _ R.mem) (S.led p hp).1, (S.led p hp).2⟩, fun p hp q hq => ?_, R.keys ▸ S.nd, S.prov⟩
  · have := ha.2.2; rw [← q] at this; rw [this] at e; cases e
  · rcases R.nodup S.nd p hp with rfl | ⟨h1, h2⟩
    · exact ⟨T.at_, ha.2⟩
    · exact ⟨T.keep _ _ h2 (S.un p h1).1, (S.un p h1).2⟩
  · rcases R.of q hq with rfl | h1
    · exact S.sep p hp (d, o) R.mem
    · exact S.sep p hp q h1
theorem St.hideW (S : St h₀ L gi m u g h) (W : Wd mg mb h₀) (hm : (d, o) ∈ u) : Wd mg mb (h.hide d) := W.keeps fun b x e => by
  refine (Heap.hide_ne h fun q => ?_).trans (S.fr.keep b x e)
  have := (S.un _ hm).2.2; rw [← q, e] at this; cases this
end

theorem eqs {x y : Str} : (x.cps.toList == y.cps.toList) = decide (x = y) := by
  by_cases h : x = y
  · subst h; simp
  · have : x.cps ≠ y.cps := fun e => h (by cases x; cases y; simp only at e; rw [e])
    simp [h, this]

section
variable {prog : Program} {w : World} {A : Around} {E : Value → Shared → Prop} {s : Shared} {h₀ : Heap} {L : Addr} {gi : Lg} {m : Str → Option Value} {u g : Lg} {ds : List Dt} {ov : Value}
theorem lLen {Q : Value → Shared → Prop} (S : St h₀ L gi m u g s.heap) (D : DL g ov (.list ds)) (hz : ds.length ≤ 1000) (h : Q (.int ds.length (s.toks + 1)) { s with toks := s.toks + 1 + 1 }) : wpAny (model prog w) A (call (.builtin "len") [ov]) Q E s := by
  cases D with
  | @list l n vs _ hl hD =>
    have hlen := hD.length
    refine call_len_list ⟨_, (S.led _ hl).1, rfl, _, rfl⟩ (by rw [List.size_toArray]; omega) ?_
    rw [List.size_toArray, hlen]; exact h
end

section
variable {prog : Program} {w : World} {A : Around} {E : Value → Shared → Prop} {s : Shared} {h₀ : Heap} {L d : Addr} {gi : Lg} {m : Str → Option Value} {u g : Lg} {o : Obj} {ds : List Dt}
/-- a method of a built-in type, called with nothing -/
theorem callM0 {env : Env} {ob : Expr} {name : Str} {apos pos : Pos} {Q : Value → Shared → Prop} (T id : String)
    (pa : PlainAttrs T) (slot : Slot T name id) (ty : typeOf (.builtin id) = pure (.type "method_descriptor"))
    (h : wpAny (model prog w) A (eval ob env) (fun ov s₁ => s₁.TypeIs ov T ∧ (∀ a, ov = .ref a → ∃ ob, s₁.heap.get? a = some ob ∧ ob.dict = none) ∧
      wpAny (model prog w) A (call (.builtin id) [ov]) Q E s₁) E s)
    (hbase : attributeBase ob name env (eval ob env) = eval ob env := by rfl)
    (hline : (apos.endLine == pos.line) = true := by rfl) :
    wpAny (model prog w) A (eval (.Call (.Attribute ob name apos) [] [] pos) env) Q E s := by
  refine wpAny_Call_method_late hbase (by rfl) hline rfl (wpAny_mono h (fun ov s₁ h₁ => ?_) fun _ _ x => x)
  obtain ⟨hT, hd, hc⟩ := h₁
  exact ⟨T, id, pa, slot, ty, hT, hd, callWith_builtin (by rfl) (evalArgs_nil3 hc)⟩

def SlEnd (Q : Value → Shared → Prop) (ov vl vu : Value) (s : Shared) : Prop :=
  ∃ l items lo hi, ov = .ref l ∧ s.heap.IsList l items ∧ items.size ≤ sizeLine ∧ IsPart vl lo ∧ IsPart vu hi ∧
        Q (.ref (s.heap.objs.size + 1)) { s with heap := (s.heap.push { cls := .type "slice", data := .fields #[vl, vu, .none] }).push { cls := .type "list", data := .seq (slicePick items lo hi none) } }
theorem slE {Q : Value → Shared → Prop} {env : Env} {value : Expr} {lower upper : Option Expr} {p pos : Pos}
    (h : wpAny (model prog w) A (eval value env) (fun o s₁ => wpAny (model prog w) A (evalPart lower env) (fun vl s₂ => wpAny (model prog w) A (evalPart upper env) (fun vu s₃ => SlEnd Q o vl vu s₃) E s₂) E s₁) E s)
    (ht : ∀ o r, letTemporaryGo value o r = pure () := by intro _ _; rfl) :
    wpAny (model prog w) A (eval (.Subscript value (.Slice lower upper none p) pos) env) Q E s := wpAny_Subscript_list_slice h ht
/-- the end of a list's slice -/
theorem slK {Q : Value → Shared → Prop} {ov vl vu : Value} {lo hi : Option Int} {es : List Dt} (S : St h₀ L gi m u g s.heap) (D : DL g ov (.list ds)) (hz : ds.length ≤ 1000) (pl : IsPart vl lo) (pu : IsPart vu hi)
    (he : ∀ vs : List Value, DLs g vs ds → ∃ ws : List Value, slicePick vs.toArray lo hi none = ws.toArray ∧ DLs g ws es)
    (h : ∀ h' x, ∀ gg, St h₀ L gi m u (gg ++ g) h' → DL (gg ++ g) (.ref x) (.list es) → Q (.ref x) { s with heap := h' }) :
    SlEnd Q ov vl vu s := by
  cases D with
  | @list l n vs _ hl hD =>
    have hlen := hD.length
    obtain ⟨ws, e1, e2⟩ := he vs hD
    refine ⟨l, vs.toArray, lo, hi, rfl, ⟨_, (S.led _ hl).1, rfl, _, rfl⟩, by rw [List.size_toArray]; exact Nat.le_trans (by omega : vs.length ≤ 1000) (by decide), pl, pu, ?_⟩
    have S' := (S.pushG { cls := .type "slice", data := .fields #[vl, vu, .none] }).pushG (lstO ws 0)
    rw [Heap.size_push] at S'
    rw [e1]
    exact h _ _ [(s.heap.objs.size + 1, lstO ws 0), _] S' (.list (.head _) (e2.mono fun _ hp => .tail _ (.tail _ hp)))
theorem DLs.drop {g : Lg} : ∀ {vs : List Value} {ds : List Dt}, DLs g vs ds → ∀ k, DLs g (vs.drop k) (ds.drop k)
  | _, _, h, 0 => h
  | _, _, .nil, _ + 1 => .nil
  | _, _, .cons _ h, k + 1 => h.drop k
theorem DLs.take {g : Lg} : ∀ {vs : List Value} {ds : List Dt}, DLs g vs ds → ∀ k, DLs g (vs.take k) (ds.take k)
  | _, _, _, 0 => .nil
  | _, _, .nil, _ + 1 => .nil
  | _, _, .cons a h, k + 1 => .cons a (h.take k)
theorem pick_from {ds : List Dt} (a : Nat) (ha : a ≤ ds.length) (vs : List Value) (hD : DLs g vs ds) : ∃ ws : List Value, slicePick vs.toArray (some (a : Int)) none none = ws.toArray ∧ DLs g ws (ds.drop a) :=
  ⟨vs.drop a, by rw [slicePick_from _ _ (by rw [List.size_toArray, hD.length]; exact ha)], hD.drop a⟩
theorem pick_upto {ds : List Dt} (a : Nat) (ha : a ≤ ds.length) (vs : List Value) (hD : DLs g vs ds) : ∃ ws : List Value, slicePick vs.toArray none (some (a : Int)) none = ws.toArray ∧ DLs g ws (ds.take a) :=
  ⟨vs.take a, by rw [slicePick_upto _ _ (by rw [List.size_toArray, hD.length]; exact ha)], hD.take a⟩
end
end Mine
end
section
open PySem PyProof.Rows PySem.Calls PySem.W
namespace Mine

abbrev frs (l : List Env) : List Addr := l.filterMap (·.frame)
theorem frames_base {h base base' : Heap} : ∀ {l : List Env}, h.FunFrames base l → (∀ b ∈ frs l, base'.get? b = none) → h.FunFrames base' l
  | [], _, _ => trivial
  | env :: r, ⟨hk, ⟨L, o, hf, hn, ho, hd⟩, hr⟩, hb => ⟨hk, ⟨L, o, hf, hb L (by simp [frs, hf]), ho, hd⟩, frames_base hr fun b hm => hb b (by simp only [frs, List.filterMap_cons, hf]; exact .tail _ hm)⟩
def FrP (l : List Env) (h : Heap) : Prop := ∃ base, h.FunFrames base l
theorem FrP.up {l : List Env} {h h' : Heap} (x : FrP l h) (k : h.UpToSlots h') : FrP l h' :=
  let ⟨b, y⟩ := x; ⟨b, y.of_keeps fun c o e hn => let ⟨_, q⟩ := k c o e hn; ⟨_, q, rfl⟩⟩
theorem FrP.ext {l : List Env} {h h' : Heap} (x : FrP l h) (k : Ext h h') : FrP l h' := x.up (Heap.UpToSlots.of_keeps k)
theorem FrP.mem {l : List Env} {h : Heap} (x : FrP l h) {b : Addr} (hb : b ∈ frs l) : ∃ o, h.get? b = some o ∧ ∀ vs, o.data ≠ .fields vs := let ⟨_, y⟩ := x; (y.mem hb).2
theorem FrP.tail {l : List Env} {env : Env} {h : Heap} (x : FrP (env :: l) h) : FrP l h := let ⟨b, _, _, y⟩ := x; ⟨b, y⟩

/-- an exception's own fields, whole -/
def ExObj (c : Value) (h : Heap) (e : Addr) (msg : Str) (vs : Array Value) (t : Addr) : Prop := ∃ oe tok, h.get? e = some oe ∧ oe.cls = .type "ValueError" ∧ oe.data = .fields vs ∧ vs.size = 6 ∧ vs[0]? = some (.ref t) ∧ vs[2]? = some c ∧ h.TupAt t [.str msg tok]
/-- a ValueError under way, its first entry marked fl: what stood in G, but for the frames of l, stands -/
structure Trk (c : Value) (G : Heap) (l : List Env) (h : Heap) (e : Addr) (msg : Str) (fl : Value) : Prop where
  keep : ∀ b o, G.get? b = some o → b ∉ frs l → h.get? b = some o
  up : G.UpToSlots h
  frames : FrP l h
  ex : ∃ vs t T oT ts, ExObj c h e msg vs t ∧ vs[1]? = some (.ref T) ∧ T ≠ e ∧ h.get? T = some oT ∧ oT.data = .fields ts ∧ ts[3]? = some fl ∧ G.get? e = none ∧ G.get? T = none ∧ G.get? t = none
abbrev FlyC (c : Value) (l : List Env) (h h' : Heap) (e : Addr) (msg : Str) : Prop := Trk c h l h' e msg .none
abbrev HeldC (c : Value) (l : List Env) (L : Addr) (h h' : Heap) (e : Addr) (msg : Str) : Prop := Trk c h l h' e msg (rawInt L)
abbrev Fly (l : List Env) (h h' : Heap) (e : Addr) (msg : Str) : Prop := FlyC .none l h h' e msg
abbrev Held (l : List Env) (L : Addr) (h h' : Heap) (e : Addr) (msg : Str) : Prop := HeldC .none l L h h' e msg

section
variable {M : Model} {A : Around} {E : Value → Shared → Prop} {s : Shared} {env : Env} {outer : List Env} {L e : Addr} {G h : Heap} {msg : Str} {c : Value} {Q : Unit → Shared → Prop}

/-- a new entry on the exception's way -/
theorem entryE {t : Addr} {vs : Array Value} {head : Value} {hadNext : Bool} (hfr : A.frames = some (env :: outer)) (P : FrP (env :: outer) s.heap) (hf : env.frame = some L) (hx : ExObj c s.heap e msg vs t)
    (hG : ∀ b o, G.get? b = some o → b ∉ frs (env :: outer) → s.heap.get? b = some o) (hU : G.UpToSlots s.heap) (he : G.get? e = none) (ht : G.get? t = none)
    (k : ∀ h', Trk c G (env :: outer) h' e msg (rawInt L) → Q () { s with heap := h' }) :
    wpAny M A (do let a ← frameOf env; let pl ← entryPlaceOf L hadNext; let b ← EntryCells.newEntry head a .none (rawInt L) .none pl; setField (.ref e) 1 b) Q E s := by
  obtain ⟨base, P⟩ := P
  obtain ⟨oe, tok, ho, hc, hd, hsz, h0, h2, hT⟩ := hx
  have hene : e ∉ frs (env :: outer) := fun hm => by
    obtain ⟨_, o, ho', hnf⟩ := P.mem hm
    rw [ho] at ho'; cases ho'; exact hnf vs hd
  refine wpAny_bind (wpAny_frameOf_fun hfr P hf fun h₁ hs₁ => ?_)
  refine wpAny_bind (wpAny_entryPlaceOf fun pl hpl => ?_)
  unfold EntryCells.newEntry newFields
  refine wpAny_bind (wpAny_newObj_type ?_ (hpl.sizeOk5 _ _ _ _ _))
  have ho₁ : h₁.get? e = some oe := (hs₁.2.1 e hene).trans ho
  generalize hto : ({ cls := .type "traceback", dict := none, data := .fields ([head, .ref L, .none, rawInt L, .none] ++ (if pl.isEmpty then List.replicate 6 Value.none else pl)).toArray } : Obj) = tO
  have htd : ∃ ts, tO.data = .fields ts ∧ ts[3]? = some (rawInt L) := by
    rw [← hto]; exact ⟨_, rfl, by first | (simp; done) | (rcases hpl with rfl | ⟨_, _, _, _, _, _, _, rfl⟩ <;> simp)⟩
  have htf : tO.isFreed = false := by rw [← hto]; rfl
  have ho₂ := Heap.get?_push_of_some (h := h₁) tO ho₁
  refine wpAny_setField ho₂ hd (by rw [hsz]; decide) (k _ ?_)
  have hTe : h₁.objs.size ≠ e := Nat.ne_of_gt (Heap.lt_size ho₁)
  have hd₃ := Obj.data_mapFields hd (·.setIfInBounds 1 (Value.ref h₁.objs.size))
  have ho₃ := Heap.get?_update_self (Obj.mapFields (·.setIfInBounds 1 (Value.ref h₁.objs.size))) ho₂ (Obj.isFreed_of_fields hd₃)
  have keep : ∀ b o, b ≠ e → h₁.get? b = some o → ((h₁.push tO).update e (Obj.mapFields (·.setIfInBounds 1 (Value.ref h₁.objs.size)))).get? b = some o := fun b o hbe hb => by
    rw [Heap.get?_update_other _ _ (Ne.symm hbe)]
    exact Heap.get?_push_of_some _ hb
  have noRec : ∀ b o, s.heap.get? b = some o → (∀ vs, o.data ≠ .fields vs) → b ≠ e := fun b o hb hnf q => by
    rw [q, ho] at hb; cases hb; exact hnf vs hd
  have up₁ : s.heap.UpToSlots ((h₁.push tO).update e (Obj.mapFields (·.setIfInBounds 1 (Value.ref h₁.objs.size)))) := fun b o hb hnf => by
    obtain ⟨sl, hs⟩ := hs₁.2.2 b o hb
    exact ⟨sl, keep b _ (noRec b o hb hnf) hs⟩
  obtain ⟨ts, htd1, htd2⟩ := htd
  refine ⟨fun b o hb hnf => keep b o (fun q => by rw [q, he] at hb; cases hb) ((hs₁.2.1 b hnf).trans (hG b o hb hnf)), hU.trans up₁, FrP.up ⟨base, P⟩ up₁, ?_⟩
  refine ⟨vs.setIfInBounds 1 (.ref h₁.objs.size), t, h₁.objs.size, tO, ts, ⟨_, tok, ho₃, (Obj.cls_mapFields _ _).trans hc, hd₃, by simp [hsz], ?_, ?_, hT.of_slots up₁⟩, by simp [hsz], hTe, ?_, htd1, htd2, he, ?_, ht⟩
  · rw [Array.getElem?_setIfInBounds_ne (by decide)]; exact h0
  · rw [Array.getElem?_setIfInBounds_ne (by decide)]; exact h2
  · rw [Heap.get?_update_other _ _ (Ne.symm hTe)]
    exact Heap.get?_push_size _ htf
  · have hsz1 : h₁.objs.size = s.heap.objs.size := hs₁.1
    cases q : G.get? h₁.objs.size with
    | none => rfl
    | some o =>
      exfalso
      by_cases hm : h₁.objs.size ∈ frs (env :: outer)
      · obtain ⟨_, o', ho', _⟩ := P.mem hm
        have := Heap.lt_size ho'
        rw [hsz1] at this
        exact Nat.lt_irrefl _ this
      · have := Heap.lt_size (hG _ o q hm)
        rw [hsz1] at this
        exact Nat.lt_irrefl _ this
/-- the first entry's mark set -/
theorem markE {fl : Value} {l : List Env} (f : Option Addr) (hx : Trk c G l s.heap e msg fl) (k : ∀ h', Trk c G l h' e msg (f.elim .none fun f => rawInt f) → Q () { s with heap := h' }) : wpAny M A (setFlight (.ref e) f) Q E s := by
  obtain ⟨kp, up, fr, vs, t, T, oT, ts, ⟨oe, tok, ho, hc, hd, hsz, h0, h2, ht⟩, h1, hTe, hT, hdT, h3, g1, g2, g3⟩ := hx
  have hsz3 : 3 < ts.size := (Array.getElem?_eq_some_iff.mp h3).1
  unfold setFlight
  refine wpAny_bind (wpAny_field ho hd h1 ?_)
  rw [if_pos (show (Value.ref T != Value.none) = true from by simp)]
  have other : ∀ b, b ≠ T → (s.heap.update T (Obj.mapFields (·.setIfInBounds 3 (f.elim Value.none fun f => rawInt f)))).get? b = s.heap.get? b := fun b hb => Heap.get?_update_other _ _ (Ne.symm hb)
  have noRec : ∀ b o, s.heap.get? b = some o → (∀ vs, o.data ≠ .fields vs) → b ≠ T := fun b o hb hnf q => by
    rw [q, hT] at hb; cases hb; exact hnf ts hdT
  have up₁ : s.heap.UpToSlots (s.heap.update T (Obj.mapFields (·.setIfInBounds 3 (f.elim Value.none fun f => rawInt f)))) := fun b o hb hn => ⟨o.slots, (other b (noRec b o hb hn)).trans hb⟩
  refine wpAny_setField hT hdT hsz3 (k _ ⟨fun b o hb hnf => (other b fun q => by rw [q, g2] at hb; cases hb).trans (kp b o hb hnf), up.trans up₁, fr.up up₁, ?_⟩)
  exact ⟨vs, t, T, _, _, ⟨oe, tok, (other e (Ne.symm hTe)).trans ho, hc, hd, hsz, h0, h2, ht.of_slots up₁⟩, h1, hTe, Heap.get?_update_self _ hT (Obj.isFreed_of_fields (Obj.data_mapFields hdT _)), Obj.data_mapFields hdT _, by simp [hsz3], g1, g2, g3⟩
/-- noted by the frame: a fresh one, one that flies, one that is held -/
theorem noteNew (hfr : A.frames = some (env :: outer)) (P : FrP (env :: outer) s.heap) (hf : env.frame = some L) {t : Addr} {vs : Array Value} (hx : ExObj c s.heap e msg vs t) (h1 : vs[1]? = some .none)
    (hG : ∀ b o, G.get? b = some o → b ∉ frs (env :: outer) → s.heap.get? b = some o) (hU : G.UpToSlots s.heap) (he : G.get? e = none) (ht : G.get? t = none)
    (k : ∀ h', HeldC c (env :: outer) L G h' e msg → Q () { s with heap := h' }) : wpAny M A (noteFrame (.ref e) env) Q E s := by
  obtain ⟨oe, tok', ho, hc, hd, r⟩ := id hx
  unfold noteFrame
  simp only [hf]
  refine wpAny_bind (wpAny_field ho hd h1 ?_)
  rw [if_neg (by decide)]
  exact entryE hfr P hf hx hG hU he ht k
theorem noteFly (hfr : A.frames = some (env :: outer)) (hf : env.frame = some L) (hx : FlyC c (env :: outer) G s.heap e msg) (k : ∀ h', HeldC c (env :: outer) L G h' e msg → Q () { s with heap := h' }) : wpAny M A (noteFrame (.ref e) env) Q E s := by
  obtain ⟨kp, up, fr, vs, t, T, oT, ts, ⟨oe, tok, ho, hc, hd, hsz, h0, h2, ht⟩, h1, hTe, hT, hdT, h3, g1, g2, g3⟩ := hx
  have hsz3 : 3 < ts.size := (Array.getElem?_eq_some_iff.mp h3).1
  unfold noteFrame
  simp only [hf]
  refine wpAny_bind (wpAny_field ho hd h1 ?_)
  rw [if_pos (show (Value.ref T != Value.none) = true from by simp)]
  refine wpAny_bind (wpAny_field hT hdT h3 ?_)
  rw [if_neg (show ¬ ((Value.none == rawInt L) = true) from by simp [rawInt])]
  have other : ∀ b, b ≠ T → (s.heap.update T (Obj.mapFields (·.setIfInBounds 3 Value.none))).get? b = s.heap.get? b := fun b hb => Heap.get?_update_other _ _ (Ne.symm hb)
  have noRec : ∀ b o, s.heap.get? b = some o → (∀ vs, o.data ≠ .fields vs) → b ≠ T := fun b o hb hnf q => by
    rw [q, hT] at hb; cases hb; exact hnf ts hdT
  have up₁ : s.heap.UpToSlots (s.heap.update T (Obj.mapFields (·.setIfInBounds 3 Value.none))) := fun b o hb hn => ⟨o.slots, (other b (noRec b o hb hn)).trans hb⟩
  refine wpAny_bind (wpAny_setField hT hdT hsz3 ?_)
  exact entryE (s := { s with heap := _ }) hfr (fr.up up₁) hf ⟨oe, tok, (other e (Ne.symm hTe)).trans ho, hc, hd, hsz, h0, h2, ht.of_slots up₁⟩ (fun b o hb hnf => (other b fun q => by rw [q, g2] at hb; cases hb).trans (kp b o hb hnf)) (up.trans up₁) g1 g3 k
theorem noteHeld (hf : env.frame = some L) {l : List Env} (hx : HeldC c l L G s.heap e msg) (k : Q () s) : wpAny M A (noteFrame (.ref e) env) Q E s := by
  obtain ⟨kp, up, fr, vs, t, T, oT, ts, ⟨oe, tok, ho, hc, hd, hsz, h0, h2, ht⟩, h1, hTe, hT, hdT, h3, g1, g2, g3⟩ := hx
  unfold noteFrame
  simp only [hf]
  refine wpAny_bind (wpAny_field ho hd h1 ?_)
  rw [if_pos (show (Value.ref T != Value.none) = true from by simp)]
  refine wpAny_bind (wpAny_field hT hdT h3 ?_)
  rw [if_pos (show (rawInt L == rawInt L) = true from by simp)]
  exact wpAny_pure k
/-- the frame left behind -/
theorem Trk.out {l : List Env} {fl : Value} {h' : Heap} (hf : env.frame = some L) (x : Trk c h (env :: l) h' e msg fl) (hk : Ext G h) (hL : G.get? L = none) : Trk c G l h' e msg fl := by
  obtain ⟨kp, up, fr, vs, t, T, oT, ts, hx, h1, hTe, hT, hdT, h3, g1, g2, g3⟩ := x
  have hmem : ∀ b, b ∈ frs (env :: l) ↔ b = L ∨ b ∈ frs l := fun b => by simp [frs, hf]
  have none_ : ∀ {b}, h.get? b = none → G.get? b = none := fun {b} hb => by
    cases q : G.get? b with
    | none => rfl
    | some o => rw [hk b o q] at hb; cases hb
  refine ⟨fun b o hb hnf => kp b o (hk b o hb) fun hm => ?_, (Heap.UpToSlots.of_keeps hk).trans up, fr.tail, vs, t, T, oT, ts, hx, h1, hTe, hT, hdT, h3, none_ g1, none_ g2, none_ g3⟩
  rcases (hmem b).mp hm with q | q
  · rw [q, hL] at hb; cases hb
  · exact hnf q
theorem leave_held (hf : env.frame = some L) (hx : HeldC c (env :: outer) L h s.heap e msg) (hk : Ext G h) (hL : G.get? L = none)
    (k : ∀ h', FlyC c outer G h' e msg → Q () { s with heap := h' }) : wpAny M A (leaving env (.ref e)) Q E s := by
  unfold leaving
  exact wpAny_bind (noteHeld hf hx (markE none hx fun h' x => k h' (x.out hf hk hL)))
theorem leave_fly (hfr : A.frames = some (env :: outer)) (hf : env.frame = some L) (hx : FlyC c (env :: outer) h s.heap e msg) (hk : Ext G h) (hL : G.get? L = none)
    (k : ∀ h', FlyC c outer G h' e msg → Q () { s with heap := h' }) : wpAny M A (leaving env (.ref e)) Q E s := by
  unfold leaving
  exact wpAny_bind (noteFly hfr hf hx fun h₁ x₁ => markE (s := { s with heap := h₁ }) none x₁ fun h' x => k h' (x.out hf hk hL))
theorem madeEx {h' : Heap} {tok : Tok} (hx : Heap.MadeExc h h' e "ValueError" [.str msg tok]) : ∃ t, ExObj .none h' e msg #[.ref t, .none, .none, .none, .bool false, .none] t ∧ h.get? t = none := by
  obtain ⟨t, he, htn, ht⟩ := hx.there
  exact ⟨t, ⟨_, tok, he, rfl, rfl, rfl, rfl, rfl, ⟨_, _, ht, rfl, rfl⟩⟩, htn⟩
theorem noteMade {tok : Tok} (hfr : A.frames = some (env :: outer)) (hf : env.frame = some L) (P : FrP (env :: outer) h) (hx : Heap.MadeExc h s.heap e "ValueError" [.str msg tok])
    (k : ∀ h', HeldC .none (env :: outer) L h h' e msg → Q () { s with heap := h' }) : wpAny M A (noteFrame (.ref e) env) Q E s := by
  obtain ⟨t, hE, htn⟩ := madeEx hx
  exact noteNew hfr (P.ext hx.keeps) hf hE rfl (fun b o hb _ => hx.keeps b o hb) (Heap.UpToSlots.of_keeps hx.keeps) hx.new htn k
theorem frp_cons {m : Str → Option Value} (hf : env.frame = some L) (hk : env.scope.kind ≠ .module) (P : FrP outer h) (hn : h.Ns L m) : FrP (env :: outer) h := by
  obtain ⟨base, P⟩ := P
  obtain ⟨o, es, ep, ho, hd, _⟩ := hn
  exact ⟨hideAll h (frs (env :: outer)), hk, ⟨L, o, hf, hideAll_none _ (by simp [frs, hf]), ho, fun vs q => by rw [hd] at q; cases q⟩, frames_base P fun b hb => hideAll_none _ (by simp only [frs, List.filterMap_cons, hf]; exact .tail _ hb)⟩
theorem leave_made {tok : Tok} (hfr : A.frames = some (env :: outer)) (hf : env.frame = some L) (hkd : env.scope.kind ≠ .module) (P : FrP outer h) {m : Str → Option Value} (hn : h.Ns L m)
    (hx : Heap.MadeExc h s.heap e "ValueError" [.str msg tok]) (hk : Ext G h) (hL : G.get? L = none)
    (k : ∀ h', FlyC .none outer G h' e msg → Q () { s with heap := h' }) : wpAny M A (leaving env (.ref e)) Q E s := by
  unfold leaving
  exact wpAny_bind (noteMade hfr hf (frp_cons hf hkd P hn) hx fun h₁ x₁ => markE (s := { s with heap := h₁ }) none x₁ fun h' x => k h' (x.out hf hk hL))
/-- out of a loop of the frame -/
theorem back_held (hf : env.frame = some L) {l : List Env} (hx : HeldC c l L h s.heap e msg) (k : ∀ h', HeldC c l L h h' e msg → E (.ref e) { s with heap := h' }) : cameBackBy M A env E (.ref e) s := by
  obtain ⟨kp, up, fr, vs, t, T, oT, ts, ⟨oe, tok, ho, hc, hd, hsz, h0, h2, ht⟩, h1, r⟩ := id hx
  unfold cameBackBy
  refine wpAny_bind (wpAny_field ho hd h1 ?_)
  rw [if_neg (show ¬ ((Value.ref T == Value.none) = true) from by simp)]
  rw [hf]
  first | exact markE (some L) hx k | exact wpAny_bind (wpAny_pure (markE (some L) hx k))
theorem noted_fly (hfr : A.frames = some (env :: outer)) (hf : env.frame = some L) (hx : FlyC c (env :: outer) h s.heap e msg) (k : ∀ h', HeldC c (env :: outer) L h h' e msg → E (.ref e) { s with heap := h' }) : notedBy M A env E (.ref e) s :=
  noteFly hfr hf hx k
theorem noted_held (hf : env.frame = some L) {l : List Env} (hx : HeldC c l L h s.heap e msg) (k : E (.ref e) s) : notedBy M A env E (.ref e) s := noteHeld hf hx k
/-- handed on: the handler's own road out -/
theorem pass_held (hf : env.frame = some L) {l : List Env} {α : Type} {Qa : α → Shared → Prop} {what : String} (hx : HeldC c l L h s.heap e msg) (k : ∀ h', HeldC c l L h h' e msg → E (.ref e) { s with heap := h' }) : wpAny M A (PySem.passOn what (.ref e) env : Sem α) Qa E s := by
  obtain ⟨kp, up, fr, vs, t, T, oT, ts, ⟨oe, tok, ho, hc, hd, hsz, h0, h2, ht⟩, h1, r⟩ := id hx
  unfold PySem.passOn
  refine wpAny_bind (wpAny_field ho hd h1 ?_)
  rw [if_neg (show ¬ ((Value.ref T == Value.none) = true) from by simp)]
  rw [hf]
  first
    | exact wpAny_bind (markE (some L) hx fun h' x => wpAny_throw (k h' x))
    | exact wpAny_bind (wpAny_pure (wpAny_bind (markE (some L) hx fun h' x => wpAny_throw (k h' x))))
end
end Mine
end
section
open PySem PyProof.Rows PySem.Calls PySem.W
namespace Mine
abbrev LE (M : Model) (A : Around) (env : Env) (E : Value → Shared → Prop) : Value → Shared → Prop := fun e s' => wpAny M A (leaving env e) (fun _ s'' => E e s'') (fun e' s'' => E e' s'') s'

/-- entering a def without cells that may raise -/
theorem enterX {prog : Program} {w : World} {A : Around} {E : Value → Shared → Prop} {s : Shared} {hb : Heap} {i : Nat} {a : Addr} {o : Obj} {pm code doc : Value} {args : List Value} {binds : List (Str × Value)} {u g : Lg} {n : Nat} {Q : Value → Shared → Prop}
    (hA : OkA A (n + 1)) (fn : FnAt i s.heap a o pm code doc) (hlim : s.heap.NoLimit) (hk : Ext hb s.heap) (hsz : hb.objs.size ≤ s.heap.objs.size)
    (hu : ∀ p ∈ u, s.heap.get? p.1 = some p.2 ∧ hb.get? p.1 = none) (hg : ∀ p ∈ g, s.heap.get? p.1 = some p.2) (hs : ∀ p ∈ g, ∀ q ∈ u, p.1 ≠ q.1) (nd : (u.map (·.1)).Nodup)
    (hbind : bindArgs (docF i pm code doc) ⟨args, []⟩ = pure binds)
    (h : ∀ L h₁ tk, s.heap.get? L = none → Ext s.heap h₁ → St hb L g (fun x => binds.reverse.lookup x) u g h₁ → OkA (A.deeper (eX (fdAt i).name (fdAt i).scope L a code [])) n →
      wpAny (model prog w) (A.deeper (eX (fdAt i).name (fdAt i).scope L a code [])) (execs (fdAt i).body (eX (fdAt i).name (fdAt i).scope L a code []))
        (fun fl s' => Q (match fl with | .ret v => v | _ => .none) s') (LE (model prog w) (A.deeper (eX (fdAt i).name (fdAt i).scope L a code [])) (eX (fdAt i).name (fdAt i).scope L a code []) E) { s with heap := h₁, toks := tk })
    (hloc : ∀ x ∈ binds, (fdAt i).scope.names.lookup x.1 = some .local := by exact locs rfl)
    (hco : (fdAt i).scope.isCoroutine = false := by rfl) (hgen : (fdAt i).scope.isGenerator = false := by rfl) (hkd : (fdAt i).scope.kind = .function := by rfl)
    (hcell : ∀ x ∈ (fdAt i).scope.names, x.2 ≠ .cell := by decide) :
    wpAny (model prog w) A (call (.ref a) args) Q E s := by
  refine wpAny_call (call_plain (by have := hA.dp; omega) fn.at_ fn.d hlim fn.c hbind hloc (fun h₁ F₁ => ?_) hco hgen hkd hcell)
  refine h s.heap.objs.size h₁ _ (size_none _) F₁.keep ⟨⟨F₁.ns, fun b ob e => F₁.keep _ _ (hk _ _ e), hsz⟩, fun p hp => ⟨F₁.keep _ _ (hu p hp).1, Nat.ne_of_lt (Heap.lt_size (hu p hp).1), (hu p hp).2⟩, fun p hp => ⟨F₁.keep _ _ (hg p hp), Nat.ne_of_lt (Heap.lt_size (hg p hp))⟩, hs, nd, fun p hp => .inl hp⟩ hA.deeper

section
variable {prog : Program} {w : World} {A : Around} {E : Value → Shared → Prop} {s : Shared} {h₀ : Heap} {L a : Addr} {gi : Lg} {m mg mb : Str → Option Value} {u g : Lg} {cn : Str} {cs : Scope} {cd : Value} {cl : List (Str × Addr)} {outer : List Env}
/-- raise ValueError(message) in a def's body, out of it -/
theorem raiseV {Q : Flow → Shared → Prop} {np cpos pos : Pos} {e₀ : Expr} {G : Heap} (hh : A.handled = none) (hfr : A.frames = some outer) (S : St h₀ L gi m u g s.heap) (W : Wd mg mb h₀)
    (hm : wpAny (model prog w) (A.deeper (eX cn cs L a cd cl)) (eval e₀ (eX cn cs L a cd cl)) (fun v s₁ => ∃ msg tok tk h₁, v = .str msg tok ∧ s₁ = { s with heap := h₁, toks := tk } ∧ St h₀ L gi m u g h₁ ∧ FrP outer h₁ ∧ Ext G h₁ ∧ G.get? L = none ∧
      ∀ e h' tk, Fly outer G h' e msg → E (.ref e) { s with heap := h', toks := tk }) (LE (model prog w) (A.deeper (eX cn cs L a cd cl)) (eX cn cs L a cd cl) E) s)
    (he : starEach [e₀] (eX cn cs L a cd cl) = (false, eval e₀ (eX cn cs L a cd cl)) :: starEach [] (eX cn cs L a cd cl) := by rfl)
    (hk : cs.kind = .function := by rfl) (hx : (eX cn cs L a cd cl).kindOf "ValueError" = some .globalImplicit := by rfl) :
    wpAny (model prog w) (A.deeper (eX cn cs L a cd cl)) (exec (.Raise (some (.Call (.Name "ValueError" np) [e₀] [] cpos)) none pos) (eX cn cs L a cd cl)) Q (LE (model prog w) (A.deeper (eX cn cs L a cd cl)) (eX cn cs L a cd cl) E) s := by
  refine Raise_madeB PySem.F.excCall_ValueError PySem.F.excRaise_ValueError (A := A.deeper (eX cn cs L a cd cl)) hh (nmB S W (W.free _ (by decide)) rfl ⟨rfl, ?_⟩ (by decide) hk hx) he
  refine wpAny_items_cons (wpAny_mono hm (fun v s₁ h₁ => ?_) fun _ _ x => x) he
  obtain ⟨msg, tok, tk, h₁, rfl, rfl, S₁, P₁, hG, hU, k⟩ := h₁
  refine wpAny_items_nil ⟨by show 1 ≤ sizeLine; decide, fun h' e hx => ?_⟩
  exact leave_made (Around.frames_deeper hfr) rfl (by show cs.kind ≠ .module; rw [hk]; decide) P₁ S₁.fr.ns hx hG hU fun h'' fl => k e h'' _ fl
end
end Mine
end
section
open PySem PyProof.Rows PySem.Calls PySem.W
namespace Mine
structure Cx (A : Around) (outer : List Env) (h : Heap) : Prop where
  fr : A.frames = some outer
  ok : FrP outer h
def Err (E : Value → Shared → Prop) (s : Shared) (outer : List Env) (msg : Str) : Prop := ∀ e h' tk, Fly outer s.heap h' e msg → E (.ref e) { s with heap := h', toks := tk }
def Say (E : Value → Shared → Prop) (s₀ : Shared) (outer : List Env) (h : Heap) (v : Value) (s₁ : Shared) : Prop := ∃ msg tok tk h₁, v = .str msg tok ∧ s₁ = { s₀ with heap := h₁, toks := tk } ∧ Ext h h₁ ∧ Err E s₀ outer msg

section
variable {prog : Program} {w : World} {A : Around} {E : Value → Shared → Prop} {s₀ : Shared} {h : Heap} {tk : Nat} {L a : Addr} {gi : Lg} {m mg mb : Str → Option Value} {u g : Lg} {cn : Str} {cs : Scope} {cd : Value} {cl : List (Str × Addr)} {outer : List Env}
/-- the raise of a def that is entered at s₀ -/
theorem raiseP {Q : Flow → Shared → Prop} {np cpos pos : Pos} {e₀ : Expr} (hh : A.handled = none) (X : Cx A outer s₀.heap) (hL : s₀.heap.get? L = none) (S : St s₀.heap L gi m u g h) (W : Wd mg mb s₀.heap)
    (hm : wpAny (model prog w) (A.deeper (eX cn cs L a cd cl)) (eval e₀ (eX cn cs L a cd cl)) (Say E s₀ outer h) (LE (model prog w) (A.deeper (eX cn cs L a cd cl)) (eX cn cs L a cd cl) E) { s₀ with heap := h, toks := tk })
    (he : starEach [e₀] (eX cn cs L a cd cl) = (false, eval e₀ (eX cn cs L a cd cl)) :: starEach [] (eX cn cs L a cd cl) := by rfl)
    (hk : cs.kind = .function := by rfl) (hx : (eX cn cs L a cd cl).kindOf "ValueError" = some .globalImplicit := by rfl) :
    wpAny (model prog w) (A.deeper (eX cn cs L a cd cl)) (exec (.Raise (some (.Call (.Name "ValueError" np) [e₀] [] cpos)) none pos) (eX cn cs L a cd cl)) Q (LE (model prog w) (A.deeper (eX cn cs L a cd cl)) (eX cn cs L a cd cl) E) { s₀ with heap := h, toks := tk } := by
  refine raiseV (G := s₀.heap) (outer := outer) hh X.fr S W (wpAny_mono hm (fun v s₁ h₁ => ?_) fun _ _ x => x) he hk hx
  obtain ⟨msg, tok, tk₁, h₂, rfl, rfl, hx₂, k⟩ := h₁
  have S₂ := S.ext hx₂
  exact ⟨msg, tok, tk₁, h₂, rfl, rfl, S₂, X.ok.ext S₂.fr.keep, S₂.fr.keep, hL, fun e h' tk' fl => k e h' tk' fl⟩
end

def itoa (n : Int) : Str := Str.ofString (toString n)
section
variable {prog : Program} {w : World} {A : Around} {E : Value → Shared → Prop} {s : Shared} {env : Env} {out : Str} {rest : List (Sem Value)} {Q : Value → Shared → Prop}
theorem jpC {x : Str} {k : Nat} {p : Pos} (hz : (out ++ x).length ≤ sizeLine) (h : ∀ tk, wpAny (model prog w) A (joinParts (out ++ x) rest) Q E { s with toks := tk }) : wpAny (model prog w) A (joinParts out (eval (.Constant (.str x) k p) env :: rest)) Q E s :=
  joinParts_cons (wpAny_Constant_str ⟨hz, h _⟩)
theorem jpI {value : Expr} {p : Pos} {n : Int} {t : Tok} (hev : ∀ Q' : Value → Shared → Prop, Q' (.int n t) s → wpAny (model prog w) A (eval value env) Q' E s) (hd : n.natAbs.log2 < 1920) (hz : (out ++ itoa n).length ≤ sizeLine)
    (h : ∀ tk, wpAny (model prog w) A (joinParts (out ++ itoa n) rest) Q E { s with toks := tk }) : wpAny (model prog w) A (joinParts out (eval (.FormattedValue value (-1) none p) env :: rest)) Q E s :=
  joinParts_cons (FormattedValue_plain (hev _ (formatField_int_small hd ⟨hz, h _⟩)))
theorem jpN (hz : out.length ≤ sizeLine) (h : ∀ t tk, Q (.str out t) { s with toks := tk }) : wpAny (model prog w) A (joinParts out []) Q E s := joinParts_nil (h _ _) hz
end
theorem log_max : (1000000000000000000 : Int).natAbs.log2 < 1920 := by decide +kernel
theorem len_app (a b : Str) : (a ++ b).length = a.length + b.length := by exact strLen_append a b

def MAXN : Int := 1000000000000000000
def wholeMsg : Str := "a number must be whole"
def rangeMsg (lo : Int) : Str := (((Str.empty ++ ("a number must lie between " : Str)) ++ itoa lo) ++ (" and " : Str)) ++ itoa 1000000000000000000
def chk (d : Dt) (lo : Int) : Except Str Int := match d with
  | .int n => if lo ≤ n ∧ n ≤ MAXN then .ok n else .error (rangeMsg lo)
  | _ => .error wholeMsg
def Scalar : Dt → Prop
  | .int _ | .bool _ | .str _ | .flt => True
  | _ => False

end Mine
end
section
open PySem PyProof.Rows PySem.Calls PySem.W
namespace Mine
section
variable {prog : Program} {w : World} {A : Around} {E : Value → Shared → Prop} {s : Shared} {mg mb : Str → Option Value} {a : Addr} {g : Lg} {v : Value} {t : Tok} {Q : Value → Shared → Prop} {lo : Int} {d : Dt} {outer : List Env}
set_option maxHeartbeats 1000000 in
theorem check_number_spec (hA : OkA A 1) (X : Cx A outer s.heap) (W : Wd mg mb s.heap) (ha : mg (fdAt 4).name = some (.ref a)) (D : DL [] v d) (hd : Scalar d) (hlo : lo.natAbs.log2 < 1920) (hrz : (rangeMsg lo).length ≤ sizeLine)
    (hk : ∀ n, chk d lo = .ok n → ∀ h' tk, Ext s.heap h' → Q v { s with heap := h', toks := tk }) (he : ∀ msg, chk d lo = .error msg → Err E s outer msg) :
    wpAny (model prog w) A (call (.ref a) [v, .int lo t]) Q E s := by
  obtain ⟨of, pm, cd, dc, fn⟩ := fn_of W (i := 4) (by decide) ha
  obtain ⟨tm, em⟩ := W.const ("MAX_NUMBER", 1000000000000000000) (by decide)
  dsimp only at em
  refine enterX (i := 4) (n := 0) (hb := s.heap) (u := []) (g := []) (binds := [("value", v), ("lowest", .int lo t)]) hA fn W.nolimit (Ext.refl _) (Nat.le_refl _)
    (fun _ h => nomatch h) (fun _ h => nomatch h) (fun _ h => nomatch h) (by simp) rfl ?_
  intro L h₁ tk hL hx₁ S hA'
  conv in (fdAt 4).body => whnf
  cases D with
  | int n tn =>
    refine wpAny_execs_cons (wpAny_If (isTrue_or (isTrue_not (isTrue_plain (callB "isinstance" (nmB S W (W.free _ (by decide)) rfl ⟨rfl, wpAny_items_cons (nmL S rfl (wpAny_items_cons (nmB S W (W.free _ (by decide)) rfl (wpAny_items_nil (IsiPair.int_int (wpAny_truthy_bool ?_))))))⟩))))))
    refine isTrue_or (isTrue_plain (callB "isinstance" (nmB S W (W.free _ (by decide)) rfl ⟨rfl, wpAny_items_cons (nmL S rfl (wpAny_items_cons (nmB S W (W.free _ (by decide)) rfl (wpAny_items_nil (IsiPair.int_bool (wpAny_truthy_bool ?_))))))⟩)))
    refine isTrue_or_nil (wpAny_execs_nil ?_)
    dsimp only
    refine wpAny_execs_cons (wpAny_If (isTrue_not (isTrue_chain (nmL S rfl (test_link (nmL S rfl (PyProof.Rows.le_int (wpAny_truthy_bool ?_))))))))
    have bad : ∀ tk₂, ¬ (lo ≤ n ∧ n ≤ MAXN) → wpAny (model prog w) (A.deeper (eX (fdAt 4).name (fdAt 4).scope L a cd [])) (execs (match (fdAt 4).body with | _ :: .If _ b _ _ :: _ => b | _ => []) (eX (fdAt 4).name (fdAt 4).scope L a cd []))
        (fun (f : Flow) (s₂ : Shared) => False) (LE (model prog w) (A.deeper (eX (fdAt 4).name (fdAt 4).scope L a cd [])) (eX (fdAt 4).name (fdAt 4).scope L a cd []) E) { s with heap := h₁, toks := tk₂ } := by
      intro tk₂ hb
      show wpAny _ _ (execs [_] _) _ _ _
      refine wpAny_execs_cons (raiseP hA.hd X hL S W ?_)
      have hc : chk (.int n) lo = .error (rangeMsg lo) := by simp only [chk, if_neg hb]
      have z4 := hrz
      unfold rangeMsg at z4
      have z3 : (((Str.empty ++ ("a number must lie between " : Str)) ++ itoa lo) ++ (" and " : Str)).length ≤ sizeLine := by rw [len_app] at z4; omega
      have z2 : ((Str.empty ++ ("a number must lie between " : Str)) ++ itoa lo).length ≤ sizeLine := by rw [len_app] at z3; omega
      have z1 : (Str.empty ++ ("a number must lie between " : Str)).length ≤ sizeLine := by rw [len_app] at z2; omega
      refine JoinedStr_many (jpC z1 fun tk₃ => jpI (fun Q' hq => nmL S rfl hq) hlo z2 fun tk₄ => joinParts_consE (jpC z3 fun tk₅ => joinParts_consE (jpI (n := 1000000000000000000) (t := tm) (fun Q' hq => nmG S W em hq) log_max z4 fun tk₆ => ?_)))
      refine joinParts_nilE ?_
      dsimp only
      generalize hX : (Str.empty ++ Str.ofString "a number must lie between " ++ itoa lo ++ Str.ofString " and " ++ itoa 1000000000000000000) = X at z4 ⊢
      refine jpN z4 ?_
      intro t₇ tk₇
      exact ⟨_, _, _, _, rfl, rfl, Ext.refl _, hX ▸ he _ hc⟩
    by_cases h1 : lo ≤ n
    · rw [decide_eq_true h1]
      refine test_last (nmG S W em (PyProof.Rows.le_int (wpAny_truthy_bool ?_)))
      by_cases h2 : n ≤ MAXN
      · rw [decide_eq_true (show n ≤ 1000000000000000000 from h2)]
        refine wpAny_execs_nil ?_
        dsimp only
        exact wpAny_execs_cons (wpAny_Return_some (nmL S rfl (hk n (by simp [chk, h1, h2]) _ _ hx₁)))
      · rw [decide_eq_false (show ¬ n ≤ 1000000000000000000 from h2)]
        exact wpAny_mono (bad _ fun h => h2 h.2) (fun _ _ h => h.elim) fun _ _ h => h
    · rw [decide_eq_false h1]
      exact wpAny_mono (bad _ fun h => h1 h.1) (fun _ _ h => h.elim) fun _ _ h => h
  | bool b =>
    refine wpAny_execs_cons (wpAny_If (isTrue_or (isTrue_not (isTrue_plain (callB "isinstance" (nmB S W (W.free _ (by decide)) rfl ⟨rfl, wpAny_items_cons (nmL S rfl (wpAny_items_cons (nmB S W (W.free _ (by decide)) rfl (wpAny_items_nil (IsiPair.bool_int (wpAny_truthy_bool ?_))))))⟩))))))
    refine isTrue_or (isTrue_plain (callB "isinstance" (nmB S W (W.free _ (by decide)) rfl ⟨rfl, wpAny_items_cons (nmL S rfl (wpAny_items_cons (nmB S W (W.free _ (by decide)) rfl (wpAny_items_nil (IsiPair.bool_bool (wpAny_truthy_bool ?_))))))⟩)))
    try dsimp only
    exact wpAny_execs_cons (raiseP (s₀ := s) hA.hd X hL S W (wpAny_Constant_str ⟨_, _, _, _, rfl, rfl, Ext.refl _, he _ rfl⟩))
  | str x tx =>
    refine wpAny_execs_cons (wpAny_If (isTrue_or (isTrue_not (isTrue_plain (callB "isinstance" (nmB S W (W.free _ (by decide)) rfl ⟨rfl, wpAny_items_cons (nmL S rfl (wpAny_items_cons (nmB S W (W.free _ (by decide)) rfl (wpAny_items_nil (IsiPair.str_int (wpAny_truthy_bool ?_))))))⟩))))))
    try dsimp only
    exact wpAny_execs_cons (raiseP (s₀ := s) hA.hd X hL S W (wpAny_Constant_str ⟨_, _, _, _, rfl, rfl, Ext.refl _, he _ rfl⟩))
  | flt x tx =>
    refine wpAny_execs_cons (wpAny_If (isTrue_or (isTrue_not (isTrue_plain (callB "isinstance" (nmB S W (W.free _ (by decide)) rfl ⟨rfl, wpAny_items_cons (nmL S rfl (wpAny_items_cons (nmB S W (W.free _ (by decide)) rfl (wpAny_items_nil (IsiPair.float_int (wpAny_truthy_bool ?_))))))⟩))))))
    try dsimp only
    exact wpAny_execs_cons (raiseP (s₀ := s) hA.hd X hL S W (wpAny_Constant_str ⟨_, _, _, _, rfl, rfl, Ext.refl _, he _ rfl⟩))
  | none => exact hd.elim
  | list _ _ => exact hd.elim
  | tuple _ _ _ _ => exact hd.elim
end
end Mine
end
section
open PySem PyProof.Rows PySem.Calls PySem.W
set_option maxRecDepth 100000
namespace Mine
theorem entry_ascii : entryFor table "ascii" = some Builtin.«ascii» := entryFor_of_tree (by kernel_rfl)
theorem kind_ascii : builtinKind "ascii" = none := by decide +kernel
theorem plain_ascii : plainId "ascii" = true := by decide +kernel
theorem args_ascii (a : Value) : argsOk "ascii" ⟨[a], []⟩ := by unfold argsOk; kernel_rfl

def Sane (x : Str) : Prop := x.length ≤ 5000 ∧ (∀ c ∈ x.cps.toList, c < 16 ^ 8) ∧ ∀ c ∈ (reprText x).cps.toList, c < 16 ^ 8
theorem flat_len (f : Nat → List Nat) : ∀ (l : List Nat), (∀ c ∈ l, (f c).length ≤ 10) → (l.flatMap f).length ≤ 10 * l.length
  | [], _ => by simp
  | c :: r, h => by
    have ih := flat_len f r fun d hd => h d (.tail _ hd)
    have hc := h c (.head _)
    simp only [List.flatMap_cons, List.length_append, List.length_cons]
    omega
theorem esc_len (c : Nat) (hc : c < 16 ^ 8) (f : Nat → Nat → List Nat) (hf : ∀ w, 1 ≤ w → c < 16 ^ w → (f c w).length ≤ w) : (if c < 128 then [c] else if c < 256 then [92, 120] ++ f c 2 else if c < 65536 then [92, 117] ++ f c 4 else [92, 85] ++ f c 8).length ≤ 10 := by
  have h8 := hf 8 (by decide) hc
  split
  · simp
  · split
    · rename_i h; have := hf 2 (by decide) (by simpa using h); simp only [List.length_append, List.length_cons, List.length_nil]; omega
    · split
      · rename_i h; have := hf 4 (by decide) (by simpa using h); simp only [List.length_append, List.length_cons, List.length_nil]; omega
      · simp only [List.length_append, List.length_cons, List.length_nil]; omega
theorem repr_len {x : Str} (h : Sane x) : (reprText x).length ≤ 50002 := by
  have := StrLaws.reprText_len x h.2.1
  have := h.1
  omega
theorem repr_fits {x : Str} (h : Sane x) : (reprText x).length ≤ sizeLine := by have := repr_len h; have e : sizeLine = 16777216 := by decide
                                                                                omega
theorem ascii_ex (x : Str) (hx : Sane x) : ∃ y : Str, y.length ≤ 500020 ∧ ∀ {prog : Program} {w : World} {A : Around} {E : Value → Shared → Prop} {s : Shared} {t : Tok} {Q : Value → Shared → Prop},
    (∀ t' tk, Q (.str y t') { s with toks := tk }) → wpAny (model prog w) A (call (.builtin "ascii") [.str x t]) Q E s := by
  have hz := repr_fits hx
  by_cases ha : (reprText x).cps.all (· < 128) = true
  · refine ⟨reprText x, by have := repr_len hx; omega, fun {prog w A E s t Q} h => ?_⟩
    refine call_function_entry kind_ascii plain_ascii entry_ascii (args_ascii _) ?_
    unfold Builtin.«ascii»
    refine wpAny_bind (wpAny_of_eq (a := Value.str x t) rfl ?_)
    simp only [cRoomFor, List.any_cons, List.any_nil, Value.onHeap, Bool.or_false, Bool.false_eq_true, if_false, pure_bind]
    refine wpAny_bind (wpAny_callSpecialIfBound?_slot (name := Str.ofString "__repr__") (typeIs_str _ _ _) F.slot_str_repr (call_gives F.slot_str_repr (typeIs_str _ _ _) F.entry_str_repr (F.args_str_repr_1 _) (gives_str_repr x t) ⟨hz, ?_⟩))
    show wpAny _ _ (asStr? (.str (reprText x) s.toks) >>= _) _ _ _
    refine wpAny_bind (wpAny_of_eq (a := some (reprText x)) rfl ?_)
    show wpAny _ _ (if ((reprText x).cps.all (· < 128)) = true then _ else _) _ _ _
    rw [if_pos ha]
    exact wpAny_bind (wpAny_rule (wpAny_pure ⟨_, rfl, h _ _⟩))
  · have key : ∀ (f : Nat → List Nat), (∀ c, c < 16 ^ 8 → (f c).length ≤ 10) → (⟨(reprText x).cps.flatMap fun c => (f c).toArray⟩ : Str).length ≤ 500020 := fun f hf => by
      have h1 := flat_len f (reprText x).cps.toList fun c hc => hf c (hx.2.2 c hc)
      have h2 := repr_len hx
      have e : sizeLine = 16777216 := by decide
      have e2 : (reprText x).cps.toList.length = (reprText x).length := by simp [Str.length]
      show ((reprText x).cps.flatMap fun c => (f c).toArray).size ≤ _
      have e3 : ((reprText x).cps.flatMap fun c => (f c).toArray).size = ((reprText x).cps.toList.flatMap f).length := by
        rw [← Array.length_toList, Array.toList_flatMap]
      omega
    apply Exists.intro
    apply And.intro
    rotate_left
    · intro prog w A E s t Q h
      refine call_function_entry kind_ascii plain_ascii entry_ascii (args_ascii _) ?_
      unfold Builtin.«ascii»
      refine wpAny_bind (wpAny_of_eq (a := Value.str x t) rfl ?_)
      simp only [cRoomFor, List.any_cons, List.any_nil, Value.onHeap, Bool.or_false, Bool.false_eq_true, if_false, pure_bind]
      refine wpAny_bind (wpAny_callSpecialIfBound?_slot (name := Str.ofString "__repr__") (typeIs_str _ _ _) F.slot_str_repr (call_gives F.slot_str_repr (typeIs_str _ _ _) F.entry_str_repr (F.args_str_repr_1 _) (gives_str_repr x t) ⟨hz, ?_⟩))
      show wpAny _ _ (asStr? (.str (reprText x) s.toks) >>= _) _ _ _
      refine wpAny_bind (wpAny_of_eq (a := some (reprText x)) rfl ?_)
      show wpAny _ _ (if ((reprText x).cps.all (· < 128)) = true then _ else _) _ _ _
      rw [if_neg ha]
      refine wpAny_bind (wpAny_letGo ?_)
      rw [if_neg (by
        have h1 := repr_len hx
        have e : sizeLine = 16777216 := by decide
        intro q
        rw [Bool.and_eq_true] at q
        have := of_decide_eq_true q.1
        omega)]
      unfold retStr
      refine wpAny_bind (wpAny_mkStr (wpAny_pure ⟨_, rfl, h _ _⟩) ?_)
      refine Nat.le_trans ?_ (show 500020 ≤ sizeLine by decide)
      exact key _ fun c hc => esc_len c hc (fun c w => List.replicate (w - ((Nat.toDigits 16 c).map Char.toNat).length) 48 ++ (Nat.toDigits 16 c).map Char.toNat) fun w hw hc' => StrLaws.hex_len hw hc'
    · exact key _ fun c hc => esc_len c hc (fun c w => List.replicate (w - ((Nat.toDigits 16 c).map Char.toNat).length) 48 ++ (Nat.toDigits 16 c).map Char.toNat) fun w hw hc' => StrLaws.hex_len hw hc'
noncomputable def ascT (x : Str) : Str := @dite _ (Sane x) (Classical.propDecidable _) (fun h => Classical.choose (ascii_ex x h)) fun _ => Str.empty
theorem ascT_len {x : Str} (h : Sane x) : (ascT x).length ≤ 500020 := by
  unfold ascT; rw [dif_pos h]; exact (Classical.choose_spec (ascii_ex x h)).1
section
variable {prog : Program} {w : World} {A : Around} {E : Value → Shared → Prop} {s : Shared} {env : Env} {out : Str} {rest : List (Sem Value)} {Q : Value → Shared → Prop}
theorem asciiC {x : Str} {t : Tok} (hx : Sane x) (h : ∀ t' tk, Q (.str (ascT x) t') { s with toks := tk }) : wpAny (model prog w) A (call (.builtin "ascii") [.str x t]) Q E s := by
  have e : ascT x = Classical.choose (ascii_ex x hx) := by unfold ascT; rw [dif_pos hx]
  rw [e] at h
  exact (Classical.choose_spec (ascii_ex x hx)).2 h
theorem jpA {value : Expr} {p : Pos} {x : Str} (hx : Sane x) (hev : ∀ Q' : Value → Shared → Prop, (∀ t tk, Q' (.str x t) { s with toks := tk }) → wpAny (model prog w) A (eval value env) Q' E s) (hz : out.length ≤ 1000000)
    (h : ∀ tk, wpAny (model prog w) A (joinParts (out ++ ascT x) rest) Q E { s with toks := tk }) : wpAny (model prog w) A (joinParts out (eval (.FormattedValue value 97 none p) env :: rest)) Q E s := by
  have hz2 : (out ++ ascT x).length ≤ sizeLine := by
    have := ascT_len hx
    have e : sizeLine = 16777216 := by decide
    rw [len_app]; omega
  refine joinParts_cons ?_
  show wpAny _ _ (do let v ← eval value env; standAt p; formatted p (← holding [v] (converted 97 v)) none) _ _ s
  refine wpAny_bind (hev _ fun t tk => wpAny_bind (wpAny_standAt ?_))
  show wpAny _ _ (do let v' ← holding [.str x t] (call (.builtin "ascii") [.str x t]); formatField v' Str.empty) _ _ _
  refine wpAny_bind (wpAny_holding (asciiC hx fun t' tk' => formatField_str (fun t'' tk'' => ⟨hz2, h _⟩) ?_))
  have := ascT_len hx
  have e : sizeLine = 16777216 := by decide
  omega
end
end Mine
end
section
open PySem PyProof.Rows PySem.Calls PySem.W
namespace Mine
section
variable {prog : Program} {w : World} {A : Around} {E : Value → Shared → Prop} {s : Shared}
theorem eqS {Q : Value → Shared → Prop} {x y : Str} {t u : Tok} (b : Bool) (hb : decide (x = y) = b) (h : Q (.bool b) s) : wpAny (model prog w) A (compareOp .Eq (.str x t) (.str y u)) Q E s :=
  PySem.P.eq_str (by rw [eqs, hb]; exact h)
theorem neS {Q : Value → Shared → Prop} {x y : Str} {t u : Tok} (b : Bool) (hb : (!decide (x = y)) = b) (h : Q (.bool b) s) : wpAny (model prog w) A (compareOp .NotEq (.str x t) (.str y u)) Q E s :=
  PySem.P.ne_str (by rw [bne, eqs, hb]; exact h)
end
def nameOk : Dt → Bool
  | .str x => !decide (x = "") && decide (x = Txt.strip x) && decide (x.length ≤ 200) && Txt.isprintable x
  | _ => false
def NameD : Dt → Prop
  | .str x => Sane x
  | .int _ => True
  | _ => False

section
variable {prog : Program} {w : World} {A : Around} {E : Value → Shared → Prop} {s : Shared} {mg mb : Str → Option Value} {a : Addr} {v : Value} {Q : Value → Shared → Prop} {d : Dt} {outer : List Env}
set_option maxHeartbeats 1000000 in
theorem check_name_spec (hA : OkA A 1) (X : Cx A outer s.heap) (W : Wd mg mb s.heap) (ha : mg (fdAt 3).name = some (.ref a)) (D : DL [] v d) (hd : NameD d)
    (hk : nameOk d = true → ∀ h' tk, Ext s.heap h' → Q v { s with heap := h', toks := tk }) (he : nameOk d = false → ∀ msg : Str, msg.length ≤ 2000000 → Err E s outer msg) :
    wpAny (model prog w) A (call (.ref a) [v]) Q E s := by
  obtain ⟨of, pm, cd, dc, fn⟩ := fn_of W (i := 3) (by decide) ha
  obtain ⟨tm, em⟩ := W.const ("MAX_NAME", 200) (by decide)
  dsimp only at em
  refine enterX (i := 3) (n := 0) (hb := s.heap) (u := []) (g := []) (binds := [("text", v)]) hA fn W.nolimit (Ext.refl _) (Nat.le_refl _)
    (fun _ h => nomatch h) (fun _ h => nomatch h) (fun _ h => nomatch h) (by simp) rfl ?_
  intro L h₁ tk hL hx₁ S hA'
  conv in (fdAt 3).body => whnf
  cases D with
  | int n tn =>
    refine wpAny_execs_cons (wpAny_If (isTrue_not (isTrue_plain (callB "isinstance" (nmB S W (W.free _ (by decide)) rfl ⟨rfl, wpAny_items_cons (nmL S rfl (wpAny_items_cons (nmB S W (W.free _ (by decide)) rfl (wpAny_items_nil (IsiPair.int_str (wpAny_truthy_bool ?_))))))⟩)))))
    dsimp only
    exact wpAny_execs_cons (raiseP (s₀ := s) hA.hd X hL S W (wpAny_Constant_str ⟨_, _, _, _, rfl, rfl, Ext.refl _, he rfl _ (by decide)⟩))
  | str x tx =>
    have hz : x.length ≤ 5000 := hd.1
    have hz' : x.length ≤ sizeLine := Nat.le_trans hz (by decide)
    refine wpAny_execs_cons (wpAny_If (isTrue_not (isTrue_plain (callB "isinstance" (nmB S W (W.free _ (by decide)) rfl ⟨rfl, wpAny_items_cons (nmL S rfl (wpAny_items_cons (nmB S W (W.free _ (by decide)) rfl (wpAny_items_nil (IsiPair.str_str (wpAny_truthy_bool ?_))))))⟩)))))
    refine wpAny_execs_nil ?_
    dsimp only
    have sayA : ∀ tk₂ (c : Str) (k1 k2 : Nat) (p1 p2 p3 p4 : Pos), c.length ≤ 1000 → nameOk (.str x) = false →
        wpAny (model prog w) (A.deeper (eX (fdAt 3).name (fdAt 3).scope L a cd [])) (eval (.JoinedStr [.Constant (.str c) k1 p1, .FormattedValue (.Name "text" p2) 97 none p3] p4) (eX (fdAt 3).name (fdAt 3).scope L a cd []))
          (Say E s outer h₁) (LE (model prog w) (A.deeper (eX (fdAt 3).name (fdAt 3).scope L a cd [])) (eX (fdAt 3).name (fdAt 3).scope L a cd []) E) { s with heap := h₁, toks := tk₂ } := by
      intro tk₂ c k1 k2 p1 p2 p3 p4 hc hn
      have z0 : (Str.empty ++ c).length ≤ 1000 := by rw [len_app]; show 0 + c.length ≤ _; omega
      have z1 := ascT_len hd
      refine JoinedStr_many (jpC (Nat.le_trans z0 (by decide)) fun tk₃ => jpA hd (fun Q' hq => nmL S rfl (hq _ _)) (Nat.le_trans z0 (by decide)) fun tk₄ => ?_)
      refine joinParts_nilE ?_
      dsimp only
      generalize hX : Str.empty ++ c ++ ascT x = X'
      have z2 : X'.length ≤ 2000000 := by rw [← hX, len_app]; omega
      refine jpN (Nat.le_trans z2 (by decide)) ?_
      intro t₇ tk₇
      exact ⟨_, _, _, _, rfl, rfl, Ext.refl _, he hn _ z2⟩
    refine wpAny_execs_cons (wpAny_If (isTrue_or (wpAny_isTrue_Compare1 (nmL S rfl (wpAny_Constant_str (eqS _ rfl (wpAny_truthy_bool ?_)))))))
    by_cases h1 : x = ""
    · rw [decide_eq_true h1]
      dsimp only
      exact wpAny_execs_cons (raiseP (s₀ := s) hA.hd X hL S W (sayA _ _ _ 0 _ _ _ _ (by decide) (by simp [nameOk, h1])))
    rw [decide_eq_false h1]
    refine isTrue_or (wpAny_isTrue_Compare1 (nmL S rfl (callM0 "str" "str.strip" PySem.F.plainAttrs_str PySem.F.slot_str_strip PySem.F.type_str_strip (nmL S rfl ⟨typeIs_str _ _ _, (fun a e => nomatch e), SC.strip (fun t' k => neS _ rfl (wpAny_truthy_bool ?_)) hz'⟩))))
    by_cases h2 : x = Txt.strip x
    · rw [decide_eq_true h2]
      refine isTrue_or_nil (wpAny_execs_nil ?_)
      dsimp only
      refine wpAny_execs_cons (wpAny_If (wpAny_isTrue_Compare1 (callB "len" (nmB S W (W.free _ (by decide)) rfl ⟨rfl, wpAny_items_cons (nmL S rfl (wpAny_items_nil (PySem.P.len_str (by omega) (nmG S W em (PyProof.Rows.gt_int (wpAny_truthy_bool ?_))))))⟩))))
      dsimp only
      by_cases h3 : (200 : Int) < x.length
      · rw [decide_eq_true h3]
        refine wpAny_execs_cons (raiseP (s₀ := s) hA.hd X hL S W ?_)
        have hn : nameOk (.str x) = false := by simp [nameOk]; omega
        refine JoinedStr_many (jpC (by decide) fun tk₃ => jpI (n := 200) (t := tm) (fun Q' hq => nmG S W em hq) (by decide +kernel) (by decide +kernel) fun tk₄ => joinParts_consE (jpC (by decide +kernel) fun tk₅ => ?_))
        refine joinParts_nilE ?_
        dsimp only
        generalize hX : Str.empty ++ Str.ofString "a name may have at most " ++ itoa 200 ++ Str.ofString " characters" = X'
        have z2 : X'.length ≤ 2000000 := by rw [← hX]; decide +kernel
        refine jpN (Nat.le_trans z2 (by decide)) ?_
        intro t₇ tk₇
        exact ⟨_, _, _, _, rfl, rfl, Ext.refl _, he hn _ z2⟩
      · rw [decide_eq_false h3]
        refine wpAny_execs_nil ?_
        dsimp only
        refine wpAny_execs_cons (wpAny_If (isTrue_not (isTrue_plain (callM0 "str" "str.isprintable" PySem.F.plainAttrs_str PySem.F.slot_str_isprintable PySem.F.type_str_isprintable (nmL S rfl ⟨typeIs_str _ _ _, (fun a e => nomatch e), SC.isprintable (wpAny_truthy_bool ?_)⟩)))))
        cases h4 : Txt.isprintable x with
        | true =>
          refine wpAny_execs_nil ?_
          dsimp only
          exact wpAny_execs_cons (wpAny_Return_some (nmL S rfl (hk (by simp [nameOk, h1, ← h2, h4]; omega) _ _ hx₁)))
        | false =>
          try dsimp only
          exact wpAny_execs_cons (raiseP (s₀ := s) hA.hd X hL S W (sayA _ _ _ 0 _ _ _ _ (by decide) (by simp [nameOk, h4])))
    · rw [decide_eq_false h2]
      dsimp only
      exact wpAny_execs_cons (raiseP (s₀ := s) hA.hd X hL S W (sayA _ _ _ 0 _ _ _ _ (by decide) (by simp [nameOk, h2])))
  | none => exact hd.elim
  | bool _ => exact hd.elim
  | flt _ _ => exact hd.elim
  | list _ _ => exact hd.elim
  | tuple _ _ _ _ => exact hd.elim
end
end Mine
end
section
open PySem PyProof.Rows PySem.Calls PySem.W
namespace Mine
section
variable {prog : Program} {w : World} {A : Around} {E : Value → Shared → Prop} {s : Shared} {env : Env} {out : Str} {rest : List (Sem Value)} {Q : Value → Shared → Prop}
theorem jpA' {value : Expr} {p : Pos} {x : Str} (hx : Sane x) (hev : ∀ Q' : Value → Shared → Prop, (∀ t tk h', Ext s.heap h' → Q' (.str x t) { s with heap := h', toks := tk }) → wpAny (model prog w) A (eval value env) Q' E s) (hz : out.length ≤ 1000000)
    (h : ∀ tk h', Ext s.heap h' → wpAny (model prog w) A (joinParts (out ++ ascT x) rest) Q E { s with heap := h', toks := tk }) : wpAny (model prog w) A (joinParts out (eval (.FormattedValue value 97 none p) env :: rest)) Q E s := by
  have hz2 : (out ++ ascT x).length ≤ sizeLine := by
    have := ascT_len hx
    have e : sizeLine = 16777216 := by decide
    rw [len_app]; omega
  refine joinParts_cons ?_
  show wpAny _ _ (do let v ← eval value env; standAt p; formatted p (← holding [v] (converted 97 v)) none) _ _ s
  refine wpAny_bind (hev _ fun t tk h' hx' => wpAny_bind (wpAny_standAt ?_))
  show wpAny _ _ (do let v' ← holding [.str x t] (call (.builtin "ascii") [.str x t]); formatField v' Str.empty) _ _ _
  refine wpAny_bind (wpAny_holding (asciiC hx fun t' tk' => formatField_str (fun t'' tk'' => ⟨hz2, h _ _ hx'⟩) ?_))
  have := ascT_len hx
  have e : sizeLine = 16777216 := by decide
  omega
variable {h₀ : Heap} {L a : Addr} {gi : Lg} {m : Str → Option Value} {u g : Lg} {cn : Str} {cs : Scope} {cd : Value} {cl : List (Str × Addr)}
/-- x[:n] of a text in a local name -/
theorem cutS {x y : Str} {t : Tok} {k : Nat} {n : Int} {p1 p2 p3 p4 : Pos} (S : St h₀ L gi m u g s.heap) (hm : m y = some (.str x t)) (hz : x.length ≤ sizeLine)
    (h : ∀ t tk h', Ext s.heap h' → Q (.str (Txt.slice x none (some n)) t) { s with heap := h', toks := tk })
    (hk : cs.kind = .function := by rfl) (hx : (eX cn cs L a cd cl).kindOf y = some .local := by rfl) (hd : (y == ("__debug__" : Str)) = false := by decide) :
    wpAny (model prog w) A (eval (.Subscript (.Name y p1) (.Slice none (some (.Constant (.int n) k p2)) none p3) p4) (eX cn cs L a cd cl)) Q E s := by
  refine Subscript_ (nmL S hm (wpAny_Slice (wpAny_evalPart_none (wpAny_evalPart_some (wpAny_Constant_int (wpAny_evalPart_none ?_))))) hk hx hd)
  refine tail_of_ItemOn (SBH.sliceItem_ns (s := { s with toks := s.toks + 1 }) (P := fun h' => Ext s.heap h') (fun h' ob e b o q => Heap.get?_push_of_some _ (e b o q)) (Ext.refl _) (fun h' t' k hx' => h t' k h' hx') hz) (by with_unfolding_all rfl) (by intro _; with_unfolding_all rfl)
end

section
variable {prog : Program} {w : World} {A : Around} {E : Value → Shared → Prop} {s₀ : Shared} {h : Heap} {tk : Nat} {L a : Addr} {gi : Lg} {m mg mb : Str → Option Value} {u g : Lg} {cn : Str} {cs : Scope} {cd : Value} {cl : List (Str × Addr)} {outer : List Env} {msg : Str} {EE : Value → Shared → Prop}
theorem Cx.push {h₀ : Heap} (X : Cx A outer h) (S : St h₀ L gi m u g h) (hk : cs.kind = .function := by rfl) : Cx (A.deeper (eX cn cs L a cd cl)) (eX cn cs L a cd cl :: outer) h :=
  ⟨Around.frames_deeper X.fr, frp_cons rfl (by show cs.kind ≠ .module; rw [hk]; decide) X.ok S.fr.ns⟩
theorem Cx.ext {h' : Heap} (X : Cx A outer h) (k : Ext h h') : Cx A outer h' := ⟨X.fr, X.ok.ext k⟩
theorem passP (X : Cx A outer s₀.heap) (hL : s₀.heap.get? L = none) (S : St s₀.heap L gi m u g h) (k : Err E s₀ outer msg) :
    Err (LE (model prog w) (A.deeper (eX cn cs L a cd cl)) (eX cn cs L a cd cl) E) { s₀ with heap := h, toks := tk } (eX cn cs L a cd cl :: outer) msg :=
  fun e h' tk' fl => leave_fly (s := { s₀ with heap := h', toks := tk' }) (Around.frames_deeper X.fr) rfl fl S.fr.keep hL fun h'' fl' => k e h'' _ fl'
theorem sayR {lo : Int} {tl tm : Tok} {k1 k2 : Nat} {p1 p2 p3 p4 p5 p6 p7 : Pos} (S : St s₀.heap L gi m u g h) (W : Wd mg mb s₀.heap) (em : mg "MAX_NUMBER" = some (.int 1000000000000000000 tm)) (hm : m "lowest" = some (.int lo tl)) (hlo : lo.natAbs.log2 < 1920) (hrz : (rangeMsg lo).length ≤ sizeLine) (k : Err E s₀ outer (rangeMsg lo))
    (hk : cs.kind = .function := by rfl) (hx : (eX cn cs L a cd cl).kindOf "lowest" = some .local := by rfl) (hx2 : (eX cn cs L a cd cl).kindOf "MAX_NUMBER" = some .globalImplicit := by rfl) :
    wpAny (model prog w) A (eval (.JoinedStr [.Constant (.str "a number must lie between ") k1 p1, .FormattedValue (.Name "lowest" p2) (-1) none p3, .Constant (.str " and ") k2 p4, .FormattedValue (.Name "MAX_NUMBER" p5) (-1) none p6] p7) (eX cn cs L a cd cl)) (Say E s₀ outer h) EE { s₀ with heap := h, toks := tk } := by
  have z4 := hrz
  unfold rangeMsg at z4 k
  have z3 : (((Str.empty ++ ("a number must lie between " : Str)) ++ itoa lo) ++ (" and " : Str)).length ≤ sizeLine := by rw [len_app] at z4; omega
  have z2 : ((Str.empty ++ ("a number must lie between " : Str)) ++ itoa lo).length ≤ sizeLine := by rw [len_app] at z3; omega
  have z1 : (Str.empty ++ ("a number must lie between " : Str)).length ≤ sizeLine := by rw [len_app] at z2; omega
  refine JoinedStr_many (jpC z1 fun tk₃ => jpI (fun Q' hq => nmL S hm hq hk hx) hlo z2 fun tk₄ => joinParts_consE (jpC z3 fun tk₅ => joinParts_consE (jpI (n := 1000000000000000000) (t := tm) (fun Q' hq => nmG S W em hq hk hx2) log_max z4 fun tk₆ => ?_)))
  refine joinParts_nilE ?_
  dsimp only
  generalize hX : (Str.empty ++ Str.ofString "a number must lie between " ++ itoa lo ++ Str.ofString " and " ++ itoa 1000000000000000000) = X at z4 k
  refine jpN z4 ?_
  intro t₇ tk₇
  exact ⟨_, _, _, _, rfl, rfl, Ext.refl _, k⟩
end

noncomputable def junkMsg (x : Str) : Str := Str.empty ++ ("not a whole number: " : Str) ++ ascT (Txt.slice x none (some 40))
def zless (x : Str) : Str := Txt.lstripChars (Txt.removeprefix x "-") "0"
def numT (x : Str) : Str := if (zless x).length = 0 then "0" else zless x
noncomputable def parseN (x : Str) (lo : Int) : Except Str Int :=
  if (Txt.isascii (Txt.removeprefix x "-") && Txt.isdigit (Txt.removeprefix x "-")) = false then .error (junkMsg x)
  else if 19 < (zless x).length then .error (rangeMsg lo)
  else chk (.int (if Txt.startswith x "-" then -(PySem.intText? (numT x)).getD 0 else (PySem.intText? (numT x)).getD 0)) lo
/-- what must be known of a number's text -/
structure NumT (x : Str) : Prop where
  len : x.length ≤ 5000
  sane : Sane (Txt.slice x none (some 40))
  num : (Txt.isascii (Txt.removeprefix x "-") && Txt.isdigit (Txt.removeprefix x "-")) = true → (zless x).length ≤ 19 → (PySem.intText? (numT x)).isSome = true

section
variable {prog : Program} {w : World} {A : Around} {E : Value → Shared → Prop} {s : Shared} {mg mb : Str → Option Value} {a : Addr} {x : Str} {t tl : Tok} {Q : Value → Shared → Prop} {lo : Int} {outer : List Env}
set_option maxHeartbeats 1000000 in
theorem parse_number_spec (hA : OkA A 2) (X : Cx A outer s.heap) (W : Wd mg mb s.heap) (ha : mg (fdAt 5).name = some (.ref a)) (hx : NumT x) (hlo : lo.natAbs.log2 < 1920) (hrz : (rangeMsg lo).length ≤ sizeLine)
    (hk : ∀ n, parseN x lo = .ok n → ∀ t' h' tk, Ext s.heap h' → Q (.int n t') { s with heap := h', toks := tk }) (he : ∀ msg, parseN x lo = .error msg → Err E s outer msg) :
    wpAny (model prog w) A (call (.ref a) [.str x t, .int lo tl]) Q E s := by
  obtain ⟨of, pm, cd, dc, fn⟩ := fn_of W (i := 5) (by decide) ha
  obtain ⟨tm, em⟩ := W.const ("MAX_NUMBER", 1000000000000000000) (by decide)
  obtain ⟨a4, o4, pm4, cd4, dc4, e4, f4⟩ := W.fn 4 (by decide)
  dsimp only at em
  have hz : x.length ≤ sizeLine := Nat.le_trans hx.len (by decide)
  refine enterX (i := 5) (n := 1) (hb := s.heap) (u := []) (g := []) (binds := [("text", .str x t), ("lowest", .int lo tl)]) hA fn W.nolimit (Ext.refl _) (Nat.le_refl _)
    (fun _ h => nomatch h) (fun _ h => nomatch h) (fun _ h => nomatch h) (by simp) rfl ?_
  intro L h₁ tk hL hx₁ S hA'
  conv in (fdAt 5).body => whnf
  refine wpAny_execs_cons (wpAny_Assign_Name (callM "str" "str.removeprefix" PySem.F.plainAttrs_str PySem.F.slot_str_removeprefix PySem.F.type_str_removeprefix (nmL S rfl ⟨typeIs_str _ _ _, (fun a e => nomatch e), wpAny_items_cons (wpAny_Constant_str (wpAny_items_nil (SC.removeprefix (fun t' k => stL S fun h₂ S₂ => ?_) hz)))⟩)))
  dsimp only
  have hdz : (Txt.removeprefix x "-").length ≤ sizeLine := Nat.le_trans (len_removeprefix x _) hz
  refine wpAny_execs_cons (wpAny_If (isTrue_not (isTrue_and (isTrue_plain (callM0 "str" "str.isascii" PySem.F.plainAttrs_str PySem.F.slot_str_isascii PySem.F.type_str_isascii (nmL S₂ rfl ⟨typeIs_str _ _ _, (fun a e => nomatch e), SC.isascii (wpAny_truthy_bool ?_)⟩))))))
  have junk : ∀ tk₂, (Txt.isascii (Txt.removeprefix x "-") && Txt.isdigit (Txt.removeprefix x "-")) = false → wpAny (model prog w) (A.deeper (eX (fdAt 5).name (fdAt 5).scope L a cd [])) (execs (match (fdAt 5).body with | _ :: .If _ b _ _ :: _ => b | _ => []) (eX (fdAt 5).name (fdAt 5).scope L a cd []))
      (fun (f : Flow) (s₂ : Shared) => False) (LE (model prog w) (A.deeper (eX (fdAt 5).name (fdAt 5).scope L a cd [])) (eX (fdAt 5).name (fdAt 5).scope L a cd []) E) { s with heap := h₂, toks := tk₂ } := by
    intro tk₂ hb
    have hc : parseN x lo = .error (junkMsg x) := by unfold parseN; rw [if_pos hb]
    have he' := he _ hc
    unfold junkMsg at he'
    have z0 := ascT_len hx.sane
    show wpAny _ _ (execs [_] _) _ _ _
    refine wpAny_execs_cons (raiseP (s₀ := s) hA.hd X hL S₂ W ?_)
    refine JoinedStr_many (jpC (by decide) fun tk₃ => jpA' hx.sane (fun Q' hq => cutS (t := t) S₂ rfl hz fun t tk h' hx' => hq t tk h' hx') (by decide) fun tk₄ h' hx' => ?_)
    refine joinParts_nilE ?_
    dsimp only
    generalize hX : Str.empty ++ Str.ofString "not a whole number: " ++ ascT (Txt.slice x none (some 40)) = X' at he'
    have z2 : X'.length ≤ sizeLine := by
      have e1 : (Str.empty ++ Str.ofString "not a whole number: ").length = 20 := by decide
      have e2 : sizeLine = 16777216 := by decide
      rw [← hX, len_app, e1]; omega
    refine jpN z2 ?_
    intro t₇ tk₇
    exact ⟨_, _, _, _, rfl, rfl, hx', he'⟩
  cases h1 : Txt.isascii (Txt.removeprefix x "-") with
  | false => exact wpAny_mono (junk _ (by rw [h1]; rfl)) (fun _ _ h => h.elim) fun _ _ h => h
  | true =>
  refine isTrue_and (isTrue_plain (callM0 "str" "str.isdigit" PySem.F.plainAttrs_str PySem.F.slot_str_isdigit PySem.F.type_str_isdigit (nmL S₂ rfl ⟨typeIs_str _ _ _, (fun a e => nomatch e), SC.isdigit (wpAny_truthy_bool ?_)⟩)))
  cases h2 : Txt.isdigit (Txt.removeprefix x "-") with
  | false => exact wpAny_mono (junk _ (by rw [h1, h2]; rfl)) (fun _ _ h => h.elim) fun _ _ h => h
  | true =>
  refine isTrue_and_nil (wpAny_execs_nil ?_)
  dsimp only
  have hb : (Txt.isascii (Txt.removeprefix x "-") && Txt.isdigit (Txt.removeprefix x "-")) = true := by rw [h1, h2]; rfl
  have hzl : (zless x).length ≤ 5000 := Nat.le_trans (len_lstripChars _ _) (Nat.le_trans (len_removeprefix x _) hx.len)
  have e19 : (Str.ofString (toString (1000000000000000000 : Int))).length = 19 := by decide +kernel
  refine wpAny_execs_cons (wpAny_If (wpAny_isTrue_Compare1 (callB "len" (nmB S₂ W (W.free _ (by decide)) rfl ⟨rfl, wpAny_items_cons (callM "str" "str.lstrip" PySem.F.plainAttrs_str PySem.F.slot_str_lstrip PySem.F.type_str_lstrip (nmL S₂ rfl ⟨typeIs_str _ _ _, (fun a e => nomatch e), wpAny_items_cons (wpAny_Constant_str (wpAny_items_nil (SC.lstripChars (fun t' k => wpAny_items_nil (PySem.P.len_str (show ¬ ((zless x).length : Int) ≥ 2 ^ 63 by omega) ?_)) hdz)))⟩))⟩))))
  dsimp only
  refine callB "len" (nmB S₂ W (W.free _ (by decide)) rfl ⟨rfl, wpAny_items_cons (callT "str" (nmB S₂ W (W.free _ (by decide)) rfl ⟨rfl, wpAny_items_cons (nmG S₂ W em (wpAny_items_nil (PySem.P.str_of_int log_max ?_)))⟩))⟩)
  refine wpAny_items_nil (PySem.P.len_str (by rw [e19]; decide) ?_)
  dsimp only
  rw [e19]
  refine PyProof.Rows.gt_int (wpAny_truthy_bool ?_)
  have ezl : Txt.lstripChars (Txt.removeprefix x (Str.ofString "-")) (Str.ofString "0") = zless x := rfl
  rw [ezl]
  by_cases h3 : 19 < (zless x).length
  · rw [decide_eq_true (show ((19 : Nat) : Int) < ((zless x).length : Int) by omega)]
    have hc : parseN x lo = .error (rangeMsg lo) := by unfold parseN; rw [if_neg (by rw [hb]; decide), if_pos h3]
    exact wpAny_execs_cons (raiseP (s₀ := s) hA.hd X hL S₂ W (sayR S₂ W em rfl hlo hrz (he _ hc)))
  rw [decide_eq_false (show ¬ ((19 : Nat) : Int) < ((zless x).length : Int) by omega)]
  refine wpAny_execs_nil ?_
  dsimp only
  obtain ⟨n, hn⟩ := Option.isSome_iff_exists.mp (hx.num hb (by omega))
  have hp : parseN x lo = chk (.int (if Txt.startswith x "-" then -n else n)) lo := by unfold parseN; rw [if_neg (by rw [hb]; decide), if_neg h3, hn]; rfl
  have hnl : (numT x).length ≤ 640 := by
    unfold numT; split
    · decide
    · omega
  have fin : ∀ (m₄ : Str → Option Value) (h₄ : Heap) (tk₄ : Nat) (tn : Tok), St s.heap L [] m₄ [] [] h₄ → m₄ "text" = some (.str x t) → m₄ "lowest" = some (.int lo tl) → m₄ "value" = some (.int n tn) →
      wpAny (model prog w) (A.deeper (eX (fdAt 5).name (fdAt 5).scope L a cd [])) (execs ((fdAt 5).body.drop 4) (eX (fdAt 5).name (fdAt 5).scope L a cd []))
        (fun fl s' => Q (match fl with | .ret v => v | _ => .none) s') (LE (model prog w) (A.deeper (eX (fdAt 5).name (fdAt 5).scope L a cd [])) (eX (fdAt 5).name (fdAt 5).scope L a cd []) E) { s with heap := h₄, toks := tk₄ } := by
    intro m₄ h₄ tk₄ tn S₄ q1 q2 q3
    conv in (List.drop 4 (fdAt 5).body) => whnf
    have last : ∀ (v : Int) (tv : Tok) (tk₅ : Nat), parseN x lo = chk (.int v) lo → wpAny (model prog w) (A.deeper (eX (fdAt 5).name (fdAt 5).scope L a cd [])) (call (.ref a4) [.int v tv, .int lo tl])
        (fun v s' => Q v s') (LE (model prog w) (A.deeper (eX (fdAt 5).name (fdAt 5).scope L a cd [])) (eX (fdAt 5).name (fdAt 5).scope L a cd []) E) { s with heap := h₄, toks := tk₅ } := by
      intro v tv tk₅ hv
      refine check_number_spec (s := { s with heap := h₄, toks := tk₅ }) hA' ((X.ext S₄.fr.keep).push S₄) (W.keeps S₄.fr.keep) e4 (.int _ _) trivial hlo hrz (fun k hk' h' tk' hx' => ?_) fun msg hm => passP X hL S₄ (he _ (hv.trans hm))
      have e : k = v := by
        simp only [chk] at hk'
        split at hk'
        · exact (Except.ok.inj hk').symm
        · cases hk'
      subst e
      exact hk _ (hv.trans hk') _ _ _ (Ext.trans S₄.fr.keep hx')
    refine wpAny_execs_cons (wpAny_Return_some (callU (o := o4) (fd := docF 4 pm4 cd4 dc4) (nmG S₄ W e4 ⟨rfl, wpAny_items_cons (wpAny_IfExp (isTrue_plain (callM "str" "str.startswith" PySem.F.plainAttrs_str PySem.F.slot_str_startswith PySem.F.type_str_startswith (nmL S₄ q1 ⟨typeIs_str _ _ _, (fun a e => nomatch e), wpAny_items_cons (wpAny_Constant_str (wpAny_items_nil (SC.startswith (wpAny_truthy_bool ?_))))⟩))))⟩)))
    cases hs : Txt.startswith x "-" with
    | true =>
      rw [hs] at hp
      refine wpAny_UnaryOp (nmL S₄ q3 (neg_int (wpAny_items_cons (nmL S₄ q2 (wpAny_items_nil ⟨⟨S₄.fr.keep _ _ f4.at_, f4.d⟩, ?_⟩)))))
      exact last _ _ _ hp
    | false =>
      rw [hs] at hp
      refine nmL S₄ q3 (wpAny_items_cons (nmL S₄ q2 (wpAny_items_nil ⟨⟨S₄.fr.keep _ _ f4.at_, f4.d⟩, ?_⟩)))
      exact last _ _ _ hp
  refine wpAny_execs_cons (wpAny_Assign_Name (callT "int" (nmB S₂ W (W.free _ (by decide)) rfl ⟨rfl, wpAny_items_cons (BoolOp_or (callM "str" "str.lstrip" PySem.F.plainAttrs_str PySem.F.slot_str_lstrip PySem.F.type_str_lstrip (nmL S₂ rfl ⟨typeIs_str _ _ _, (fun a e => nomatch e), wpAny_items_cons (wpAny_Constant_str (wpAny_items_nil (SC.lstripChars (fun t' k => PySem.P.truthy_str (show ¬ ((zless x).length : Int) ≥ 2 ^ 63 by omega) ?_) hdz)))⟩)))⟩)))
  dsimp only
  by_cases h4 : (zless x).length = 0
  · rw [ezl, show (((zless x).length : Int) != 0) = false by rw [h4]; rfl]
    have hn0 : PySem.intText? (("0" : Str)) = some n := by rw [← hn]; unfold numT; rw [if_pos h4]
    refine BoolOp_one (wpAny_Constant_str (wpAny_items_nil (KIN.call_text hn0 (by decide) (stL S₂ fun h₅ S₅ => ?_))))
    dsimp only
    exact fin _ _ _ _ S₅ rfl rfl rfl
  · rw [ezl, show (((zless x).length : Int) != 0) = true by simp; omega]
    have hn1 : PySem.intText? (zless x) = some n := by rw [← hn]; unfold numT; rw [if_neg h4]
    refine wpAny_items_nil (KIN.call_text hn1 (by omega) (stL S₂ fun h₅ S₅ => ?_))
    dsimp only
    exact fin _ _ _ _ S₅ rfl rfl rfl
end
end Mine
end
section
open PySem PyProof.Rows PySem.Calls PySem.W
namespace Mine
section
variable {prog : Program} {w : World} {A : Around} {E : Value → Shared → Prop} {s₀ : Shared} {h h₀ : Heap} {tk : Nat} {L a : Addr} {gi : Lg} {m mg mb : Str → Option Value} {u g : Lg} {cn : Str} {cs : Scope} {cd : Value} {cl : List (Str × Addr)} {outer : List Env} {msg : Str}
/-- what stood at the def's entry stands, and its frame is new -/
structure Gr (G : Heap) (L : Addr) (h : Heap) : Prop where
  keep : Ext G h
  new : G.get? L = none
theorem Gr.ext {G h h' : Heap} {L : Addr} (x : Gr G L h) (k : Ext h h') : Gr G L h' := ⟨x.keep.trans k, x.new⟩
theorem raiseG {Q : Flow → Shared → Prop} {np cpos pos : Pos} {e₀ : Expr} (hh : A.handled = none) (X : Cx A outer s₀.heap) (R : Gr s₀.heap L h) (S : St h₀ L gi m u g h) (W : Wd mg mb h₀)
    (hm : wpAny (model prog w) (A.deeper (eX cn cs L a cd cl)) (eval e₀ (eX cn cs L a cd cl)) (Say E s₀ outer h) (LE (model prog w) (A.deeper (eX cn cs L a cd cl)) (eX cn cs L a cd cl) E) { s₀ with heap := h, toks := tk })
    (he : starEach [e₀] (eX cn cs L a cd cl) = (false, eval e₀ (eX cn cs L a cd cl)) :: starEach [] (eX cn cs L a cd cl) := by rfl)
    (hk : cs.kind = .function := by rfl) (hx : (eX cn cs L a cd cl).kindOf "ValueError" = some .globalImplicit := by rfl) :
    wpAny (model prog w) (A.deeper (eX cn cs L a cd cl)) (exec (.Raise (some (.Call (.Name "ValueError" np) [e₀] [] cpos)) none pos) (eX cn cs L a cd cl)) Q (LE (model prog w) (A.deeper (eX cn cs L a cd cl)) (eX cn cs L a cd cl) E) { s₀ with heap := h, toks := tk } := by
  refine raiseV (G := s₀.heap) (outer := outer) hh X.fr S W (wpAny_mono hm (fun v s₁ h₁ => ?_) fun _ _ x => x) he hk hx
  obtain ⟨msg, tok, tk₁, h₂, rfl, rfl, hx₂, k⟩ := h₁
  have R₂ := R.ext hx₂
  exact ⟨msg, tok, tk₁, h₂, rfl, rfl, S.ext hx₂, X.ok.ext R₂.keep, R₂.keep, R₂.new, fun e h' tk' fl => k e h' tk' fl⟩
theorem passG (X : Cx A outer s₀.heap) (R : Gr s₀.heap L h) (k : Err E s₀ outer msg) :
    Err (LE (model prog w) (A.deeper (eX cn cs L a cd cl)) (eX cn cs L a cd cl) E) { s₀ with heap := h, toks := tk } (eX cn cs L a cd cl :: outer) msg :=
  fun e h' tk' fl => leave_fly (s := { s₀ with heap := h', toks := tk' }) (Around.frames_deeper X.fr) rfl fl R.keep R.new fun h'' fl' => k e h'' _ fl'
/-- an exception that comes out of a loop's turn -/
def EL (E : Value → Shared → Prop) (s₀ : Shared) (env : Env) (outer : List Env) (L : Addr) (x : Value) (s' : Shared) : Prop :=
  ∃ e msg h h' tk, x = .ref e ∧ s' = { s₀ with heap := h', toks := tk } ∧ Fly (env :: outer) h h' e msg ∧ Gr s₀.heap L h ∧ Err E s₀ outer msg
theorem loopE (X : Cx A outer s₀.heap) : ∀ x s', EL E s₀ (eX cn cs L a cd cl) outer L x s' →
    notedBy (model prog w) (A.deeper (eX cn cs L a cd cl)) (eX cn cs L a cd cl) (fun x s'' => cameBackBy (model prog w) (A.deeper (eX cn cs L a cd cl)) (eX cn cs L a cd cl) (LE (model prog w) (A.deeper (eX cn cs L a cd cl)) (eX cn cs L a cd cl) E) x s'') x s' := by
  rintro x s' ⟨e, msg, h, h', tk, rfl, rfl, fl, R, k⟩
  refine noted_fly (s := { s₀ with heap := h', toks := tk }) (Around.frames_deeper X.fr) rfl fl fun h₁ hd => ?_
  refine back_held (s := { s₀ with heap := h₁, toks := tk }) rfl hd fun h₂ hd₂ => ?_
  exact leave_held (s := { s₀ with heap := h₂, toks := tk }) rfl hd₂ R.keep R.new fun h₃ fl₃ => k e h₃ tk fl₃
theorem toEL {env : Env} (R : Gr s₀.heap L h) (k : Err E s₀ outer msg) : Err (EL E s₀ env outer L) { s₀ with heap := h, toks := tk } (env :: outer) msg :=
  fun e h' tk' fl => ⟨e, msg, h, h', tk', rfl, rfl, fl, R, k⟩
end

section
variable {prog : Program} {w : World} {A : Around} {E : Value → Shared → Prop} {s : Shared} {mg mb : Str → Option Value} {a : Addr} {x : Str} {t : Tok} {Q : Value → Shared → Prop} {outer : List Env}
theorem parse_signed_spec (hA : OkA A 3) (X : Cx A outer s.heap) (W : Wd mg mb s.heap) (ha : mg (fdAt 6).name = some (.ref a)) (hx : NumT x)
    (hk : ∀ n, parseN x (-1000000000000000000) = .ok n → ∀ t' h' tk, Ext s.heap h' → Q (.int n t') { s with heap := h', toks := tk }) (he : ∀ msg, parseN x (-1000000000000000000) = .error msg → Err E s outer msg) :
    wpAny (model prog w) A (call (.ref a) [.str x t]) Q E s := by
  obtain ⟨of, pm, cd, dc, fn⟩ := fn_of W (i := 6) (by decide) ha
  obtain ⟨tm, em⟩ := W.const ("MAX_NUMBER", 1000000000000000000) (by decide)
  obtain ⟨a5, o5, pm5, cd5, dc5, e5, f5⟩ := W.fn 5 (by decide)
  dsimp only at em
  refine enterX (i := 6) (n := 2) (hb := s.heap) (u := []) (g := []) (binds := [("text", .str x t)]) hA fn W.nolimit (Ext.refl _) (Nat.le_refl _)
    (fun _ h => nomatch h) (fun _ h => nomatch h) (fun _ h => nomatch h) (by simp) rfl ?_
  intro L h₁ tk hL hx₁ S hA'
  conv in (fdAt 6).body => whnf
  refine wpAny_execs_cons (wpAny_Return_some (callU (o := o5) (fd := docF 5 pm5 cd5 dc5) (nmG S W e5 ⟨rfl, wpAny_items_cons (nmL S rfl (wpAny_items_cons (wpAny_UnaryOp (nmG S W em (neg_int (wpAny_items_nil ⟨⟨S.fr.keep _ _ f5.at_, f5.d⟩, ?_⟩))))))⟩)))
  dsimp only
  refine parse_number_spec (s := { s with heap := h₁, toks := _ }) hA' ((X.ext S.fr.keep).push S) (W.keeps S.fr.keep) e5 hx (by decide +kernel) (by decide +kernel) (fun n hn t' h' tk' hx' => hk n hn t' h' tk' (Ext.trans S.fr.keep hx')) fun msg hm => passP X hL S (he _ hm)
end
end Mine
end
section
open PySem PyProof.Rows PySem.Calls PySem.W
namespace Mine
section
variable {prog : Program} {w : World} {A : Around} {E : Value → Shared → Prop} {s : Shared} {mg mb : Str → Option Value} {a d : Addr} {o : Obj} {nv cv : Value} {nd : Dt} {Q : Value → Shared → Prop} {outer : List Env} {kvs : List (Str × Value)}
set_option maxHeartbeats 1000000 in
theorem lay_in_spec (hA : OkA A 2) (X : Cx A outer s.heap) (W : Wd mg mb (s.heap.hide d)) (ha : mg (fdAt 8).name = some (.ref a)) (hd : s.heap.get? d = some o) (Ho : o.IsDictOf (strKind prog w) kvs) (lo : (d == sysModules) = false) (hsz : kvs.length ≤ 1000)
    (D : DL [] nv nd) (hn : NameD nd)
    (hk : ∀ x, nd = .str x → nameOk nd = true → valueAt kvs x = none → ∀ o' h' tk, Turned s.heap h' d o' → o'.IsDictOf (strKind prog w) (stored kvs x cv) → Q .none { s with heap := h', toks := tk })
    (he : (nameOk nd = false ∨ ∃ x, nd = .str x ∧ (valueAt kvs x).isSome = true) → ∀ msg : Str, msg.length ≤ 2000000 → Err E s outer msg) :
    wpAny (model prog w) A (call (.ref a) [.ref d, nv, cv]) Q E s := by
  obtain ⟨of, pm, cd, dc, fn⟩ := fn_of W (i := 8) (by decide) ha
  obtain ⟨a3, o3, pm3, cd3, dc3, e3, f3⟩ := W.fn 3 (by decide)
  refine enterX (i := 8) (n := 1) (hb := s.heap.hide d) (u := [(d, o)]) (g := []) (binds := [("stock", .ref d), ("name", nv), ("count", cv)]) hA (fn.up (ext_hide _ _)) (W.nolimit.keeps (ext_hide _ _)) (ext_hide _ _) (Nat.le_of_eq (Heap.hide_size _ _))
    (fun p hp => by rw [List.mem_singleton.mp hp]; exact ⟨hd, Heap.hide_self _ _⟩) (fun _ h => nomatch h) (fun _ h => nomatch h) (by simp) rfl ?_
  intro L h₁ tk hL hx₁ S hA'
  have R : Gr s.heap L h₁ := ⟨hx₁, hL⟩
  conv in (fdAt 8).body => whnf
  refine wpAny_execs_cons (wpAny_If (wpAny_isTrue_Compare1 (callU (o := o3) (fd := docF 3 pm3 cd3 dc3) (nmG S W e3 ⟨rfl, wpAny_items_cons (nmL S rfl (wpAny_items_nil ⟨⟨S.fr.keep _ _ f3.at_, f3.d⟩, ?_⟩))⟩))))
  refine check_name_spec (s := { s with heap := h₁, toks := _ }) hA' ((X.ext hx₁).push S) (W.keeps S.fr.keep) e3 D hn (fun hok h₂ tk₂ hx₂ => ?_) fun hno msg hm => passG X R (he (.inl hno) msg hm)
  have S₂ := S.ext hx₂
  have R₂ := R.ext hx₂
  dsimp only
  cases D with
  | str x tx =>
    refine nmL S₂ rfl (dIn S₂ (.head _) Ho lo (wpAny_truthy_bool ?_))
    dsimp only
    cases hv : valueAt kvs x with
    | none =>
      refine wpAny_execs_nil ?_
      dsimp only
      refine wpAny_execs_cons (wpAny_Assign_Subscript (nmL S₂ rfl (nmL S₂ rfl (nmL S₂ rfl (dSet (U := fun o' => [(d, o')]) S₂ (fun o' => .head) Ho (Nat.le_trans hsz (by decide)) fun h₄ o₄ S₄ Ho₄ => ?_)))))
      exact wpAny_execs_nil (hk x rfl hok hv _ _ _ (turned_of S₄) Ho₄)
    | some y =>
      have hx : Sane x := hn
      have z1 := ascT_len hx
      refine wpAny_execs_cons (raiseG (s₀ := s) hA.hd X R₂ S₂ W ?_)
      have e0 : (Str.empty ++ Str.ofString "the name ").length = 9 := by decide
      have z2 : (Str.empty ++ Str.ofString "the name " ++ ascT x ++ Str.ofString " comes twice").length ≤ 2000000 := by
        have e1 : (Str.ofString " comes twice").length = 12 := by decide
        rw [len_app, len_app, e0, e1]; omega
      refine JoinedStr_many (jpC (by decide) fun tk₃ => jpA hx (fun Q' hq => nmL S₂ rfl (hq _ _)) (by rw [e0]; decide) fun tk₄ => joinParts_consE (jpC (Nat.le_trans z2 (by decide)) fun tk₅ => ?_))
      refine joinParts_nilE ?_
      dsimp only
      generalize hX : Str.empty ++ Str.ofString "the name " ++ ascT x ++ Str.ofString " comes twice" = X' at z2
      refine jpN (Nat.le_trans z2 (by decide)) ?_
      intro t₇ tk₇
      exact ⟨_, _, _, _, rfl, rfl, Ext.refl _, he (.inr ⟨x, rfl, by rw [hv]; rfl⟩) _ z2⟩
  | _ => exact absurd hok (by simp [nameOk])

/-- a stock's pairs -/
def pairQ (p : Dt × Dt) : Dt := .tuple [p.1, p.2]
def okPair (p : Dt × Dt) : Bool := nameOk p.1 && (match chk p.2 1 with | .ok _ => true | .error _ => false)
def keyD : Dt → Str
  | .str x => x
  | _ => ""
def numD : Dt → Int
  | .int n => n
  | _ => 0
inductive KQ : List (Str × Value) → List (Dt × Dt) → Prop
  | nil : KQ [] []
  | cons {x : Str} {n : Int} {t : Tok} {kvs : List (Str × Value)} {ps : List (Dt × Dt)} : KQ kvs ps → KQ ((x, .int n t) :: kvs) ((.str x, .int n) :: ps)
theorem KQ.snoc {kvs : List (Str × Value)} {ps : List (Dt × Dt)} {x : Str} {n : Int} {t : Tok} (h : KQ kvs ps) : KQ (kvs ++ [(x, .int n t)]) (ps ++ [(.str x, .int n)]) := by
  induction h with
  | nil => exact .cons .nil
  | cons _ ih => exact .cons ih
theorem KQ.length {kvs : List (Str × Value)} {ps : List (Dt × Dt)} (h : KQ kvs ps) : kvs.length = ps.length := by induction h <;> simp_all
theorem KQ.has {kvs : List (Str × Value)} {ps : List (Dt × Dt)} (h : KQ kvs ps) (x : Str) : (valueAt kvs x).isSome = true ↔ x ∈ ps.map fun p => keyD p.1 := by
  induction h with
  | nil => simp [valueAt]
  | @cons y n t kvs ps _ ih =>
    by_cases e : y = x
    · subst e; simp [valueAt, keyD]
    · have e' : x ≠ y := fun q => e q.symm
      simp only [valueAt, List.find?_cons, e, decide_false, List.map_cons, List.mem_cons, keyD] at ih ⊢
      rw [ih]
      simp [e']
def okStock (ps : List (Dt × Dt)) : Prop := (∀ p ∈ ps, okPair p = true) ∧ (ps.map fun p => keyD p.1).Nodup
end
end Mine
end
section
open PySem PyProof.Rows PySem.Calls PySem.W
namespace Mine
theorem stored_new {kvs : List (Str × Value)} {k : Str} {v : Value} (h : valueAt kvs k = none) : stored kvs k v = kvs ++ [(k, v)] := by
  have : (kvs.any fun kv => decide (kv.1 = k)) = false := by
    rw [List.any_eq_false]
    intro kv hkv e
    have : (kvs.find? fun kv => decide (kv.1 = k)) = none := by simpa [valueAt] using h
    exact List.find?_eq_none.mp this kv hkv e
  simp [stored, this]
theorem DL.bare {g : Lg} {v : Value} {d : Dt} (D : DL g v d) (h : Scalar d) : DL [] v d := by
  cases D with
  | none => exact .none
  | bool b => exact .bool b
  | int i t => exact .int i t
  | str x t => exact .str x t
  | flt x t => exact .flt x t
  | list _ _ => exact h.elim
  | tuple _ _ _ _ => exact h.elim
theorem NameD.scalar {d : Dt} (h : NameD d) : Scalar d := by cases d <;> first | trivial | exact h.elim
theorem St.gr {h₀ h : Heap} {L : Addr} {gi : Lg} {m : Str → Option Value} {u g : Lg} (S : St h₀ L gi m u g h) (hL : h₀.get? L = none) : Gr h₀ L h := ⟨S.fr.keep, hL⟩
theorem ok_snoc {ps : List (Dt × Dt)} {p : Dt × Dt} (h : okStock ps) : okStock (ps ++ [p]) ↔ okPair p = true ∧ keyD p.1 ∉ ps.map (fun p => keyD p.1) := by
  unfold okStock at *
  constructor
  · rintro ⟨h1, h2⟩
    refine ⟨h1 p (by simp), fun hm => ?_⟩
    rw [List.map_append] at h2
    exact (List.nodup_append.mp h2).2.2 _ hm _ (.head _) rfl
  · rintro ⟨h1, h2⟩
    refine ⟨fun q hq => ?_, ?_⟩
    · rcases List.mem_append.mp hq with hq | hq
      · exact h.1 q hq
      · rw [List.mem_singleton.mp hq]; exact h1
    · rw [List.map_append]
      refine List.nodup_append.mpr ⟨h.2, by simp, fun a ha b hb e => ?_⟩
      rw [List.mem_singleton.mp hb] at e
      have e' : a = keyD p.1 := e
      exact h2 (e' ▸ ha)
theorem ok_take {ps : List (Dt × Dt)} (h : okStock ps) (i : Nat) : okStock (ps.take i) :=
  ⟨fun p hp => h.1 p (List.mem_of_mem_take hp), by rw [List.map_take]; exact h.2.sublist (List.take_sublist _ _)⟩

section
variable {prog : Program} {w : World} {A : Around} {E : Value → Shared → Prop} {s : Shared} {mg mb : Str → Option Value} {a : Addr} {g : Lg} {pv : Value} {Q : Value → Shared → Prop} {outer : List Env} {ps : List (Dt × Dt)}
set_option maxHeartbeats 1000000 in
theorem check_stock_spec (hA : OkA A 3) (X : Cx A outer s.heap) (W : Wd mg mb s.heap) (ha : mg (fdAt 7).name = some (.ref a)) (hg : ∀ p ∈ g, s.heap.get? p.1 = some p.2) (D : DL g pv (.list (ps.map pairQ))) (hlen : ps.length ≤ 100) (hsc : ∀ p ∈ ps, NameD p.1 ∧ Scalar p.2)
    (hk : okStock ps → ∀ d o kvs h' tk, Ext s.heap h' → s.heap.get? d = none → (d == sysModules) = false → h'.get? d = some o → o.IsDictOf (strKind prog w) kvs → KQ kvs ps → Q (.ref d) { s with heap := h', toks := tk })
    (he : ¬ okStock ps → ∀ msg : Str, msg.length ≤ 2000000 → Err E s outer msg) :
    wpAny (model prog w) A (call (.ref a) [pv]) Q E s := by
  obtain ⟨of, pm, cd, dc, fn⟩ := fn_of W (i := 7) (by decide) ha
  obtain ⟨a4, o4, pm4, cd4, dc4, e4, f4⟩ := W.fn 4 (by decide)
  obtain ⟨a8, o8, pm8, cd8, dc8, e8, f8⟩ := W.fn 8 (by decide)
  refine enterX (i := 7) (n := 2) (hb := s.heap) (u := []) (g := g) (binds := [("pairs", pv)]) hA fn W.nolimit (Ext.refl _) (Nat.le_refl _)
    (fun _ h => nomatch h) hg (fun _ _ _ h => nomatch h) (by simp) rfl ?_
  intro L h₁ tk hL hx₁ S hA'
  have hA1 := hA'.less (k := 1) (by omega)
  conv in (fdAt 7).body => whnf
  refine wpAny_execs_cons (wpAny_Assign_Name (wpAny_Dict_empty ?_))
  have S₁ := S.pushU { cls := .type "dict", data := .dict #[] }
  generalize hd : h₁.objs.size = d at S₁
  have hdn : s.heap.get? d = none := S.fresh (hd ▸ size_none h₁)
  have Hd : Obj.IsDictOf (strKind prog w) { cls := .type "dict", data := .dict #[] } [] := by
    obtain ⟨o', ho', r⟩ := Heap.dictOf_iff.mp (Heap.DictOf.new (knd := strKind prog w) h₁)
    rw [Heap.get?_push_size _ rfl] at ho'
    cases ho'; exact r
  have lo : (d == sysModules) = false := hd ▸ S.fr.notModules (modules_low W.nolimit)
  refine stL S₁ fun h₂ S₂ => ?_
  dsimp only
  refine wpAny_execs_cons (wpAny_For (nmL S₂ rfl (forX (EL E s _ outer L) (loopE X)
    (fun i m u g' => ∃ o kvs, u = [(d, o)] ∧ m "stock" = some (.ref d) ∧ o.IsDictOf (strKind prog w) kvs ∧ KQ kvs (ps.take i) ∧ okStock (ps.take i))
    hA'.hd S₂ D ⟨_, [], rfl, rfl, Hd, .nil, ⟨(fun _ h => nomatch h), .nil⟩⟩ (lets_tuple _ _ _) ?_ ?_)))
  · rintro i d' v m u g' h tk₁ I io hd' hv hsub ⟨o, kvs, rfl, m1, Ho, K, hok⟩ S₅
    have hi : i < ps.length := by have := (List.getElem?_eq_some_iff.mp hd').1; simpa using this
    have hop : d' = pairQ (ps[i]) := by rw [List.getElem?_map, List.getElem?_eq_getElem hi] at hd'; exact (Option.some.inj hd').symm
    have htk : ps.take (i + 1) = ps.take i ++ [ps[i]] := by rw [List.take_add_one, List.getElem?_eq_getElem hi]; rfl
    obtain ⟨hN, hS⟩ := hsc _ (List.getElem_mem hi)
    subst hop
    have hkz : kvs.length ≤ 1000 := by rw [K.length, List.length_take]; omega
    have bad : ¬ okStock (ps.take (i + 1)) → ∀ msg : Str, msg.length ≤ 2000000 → Err E s outer msg := fun hn => he fun h => hn (ok_take h _)
    obtain ⟨p, hp⟩ : ∃ p, ps[i] = p := ⟨_, rfl⟩
    rw [hp] at hN hS htk
    have hv' : DL g' v (.tuple [p.1, p.2]) := by have := hv.mono hsub; rw [hp] at this; exact this
    refine unT hA'.hd S₅ hv' rfl fun vs₆ h₆ D₆ S₆ => ?_
    cases D₆ with | cons d1 D₆ => cases D₆ with | cons d2 D₆ => cases D₆ with | nil =>
    refine assignInOrder_cons (wpAny_assign_Name (stL S₆ fun h₇ S₇ => assignInOrder_cons (wpAny_assign_Name (stL S₇ fun h₉ S₉ => assignInOrder_nil ?_))))
    dsimp only
    refine wpAny_execs_cons (wpAny_Expr (callU (o := o8) (fd := docF 8 pm8 cd8 dc8) (nmG S₉ W e8 ⟨rfl, wpAny_items_cons (nmL S₉ (upd_ne (by decide) (upd_ne (by decide) m1)) (wpAny_items_cons (nmL S₉ rfl (wpAny_items_cons (callU (o := o4) (fd := docF 4 pm4 cd4 dc4) (nmG S₉ W e4 ⟨rfl, wpAny_items_cons (nmL S₉ rfl (wpAny_items_cons (wpAny_Constant_int (wpAny_items_nil ⟨⟨S₉.fr.keep _ _ f4.at_, f4.d⟩, ?_⟩))))⟩))))))⟩)))
    dsimp only
    have R₉ := S₉.gr hL
    refine check_number_spec (s := { s with heap := h₉, toks := _ }) hA1 ((X.ext R₉.keep).push S₉) (W.keeps S₉.fr.keep) e4 (d2.bare hS) hS (by decide +kernel) (by decide +kernel) (fun n hn h₁₀ tk₁₀ hx₁₀ => ?_) fun msg hm => toEL R₉ (bad (fun hb => ?_) msg ?_)
    · have S₁₀ := S₉.ext hx₁₀
      have R₁₀ := S₁₀.gr hL
      dsimp only
      refine wpAny_items_nil ⟨⟨S₁₀.fr.keep _ _ f8.at_, f8.d⟩, ?_⟩
      refine lay_in_spec (s := { s with heap := h₁₀, toks := tk₁₀ }) hA' ((X.ext R₁₀.keep).push S₁₀) (S₁₀.hideW W (.tail _ (.head _))) e8 (S₁₀.un _ (.tail _ (.head _))).1 Ho lo hkz (d1.bare hN.scalar) hN (fun x hx hok' hv0 o' h₁₁ tk₁₁ T Ho' => ?_) fun hb msg hm => toEL R₁₀ (bad (fun hs => ?_) msg hm)
      · have S₁₁ := S₁₀.turn (.tail .head) T
        have hpn : p.2 = .int n := by
          cases hq : p.2 <;> rw [hq] at hn <;> simp only [chk] at hn <;> first | cases hn | skip
          split at hn
          · rw [Except.ok.inj hn]
          · cases hn
        have hp1 : p = (.str x, .int n) := Prod.ext hx hpn
        rw [hpn] at d2
        cases d2
        rw [stored_new hv0] at Ho'
        refine wpAny_execs_nil (TurnEnd.next ⟨hsub, o', _, rfl, upd_ne (by decide) (upd_ne (by decide) m1), Ho', ?_, ?_⟩ S₁₁)
        · rw [htk, hp1]; exact K.snoc
        · rw [htk, ok_snoc hok, hp1]
          refine ⟨?_, fun hm => ?_⟩
          · simp only [okPair, Bool.and_eq_true]
            refine ⟨hx ▸ hok', ?_⟩
            rw [hpn] at hn
            rw [hn]
          · have := (K.has x).mpr hm
            rw [hv0] at this; cases this
      · rw [htk, ok_snoc hok] at hs
        rcases hb with hb | ⟨x, hx, hsm⟩
        · have := hs.1
          simp only [okPair, hb, Bool.false_and] at this
          cases this
        · refine hs.2 ?_
          rw [hx]
          exact (K.has x).mp hsm
    · rw [htk, ok_snoc hok] at hb
      have := hb.1
      simp only [okPair, hm, Bool.and_false] at this
      cases this
    · cases hq : p.2 <;> rw [hq] at hm <;> simp only [chk] at hm <;> first | (rw [← Except.error.inj hm]; decide) | skip
      split at hm
      · cases hm
      · rw [← Except.error.inj hm]; decide +kernel
  · rintro m u g' h tk₁ hsub ⟨o, kvs, rfl, m1, Ho, K, hok⟩ S₅
    rw [List.length_map, List.take_length] at K hok
    exact wpAny_execs_cons (wpAny_Return_some (nmL S₅ m1 (hk hok d o kvs _ _ S₅.fr.keep hdn lo (S₅.un _ (.head _)).1 Ho K)))
end
end Mine
end
section
open PySem PyProof.Rows PySem.Calls PySem.W
set_option maxRecDepth 100000
namespace Mine
theorem entry_unchain : entryFor table "proto.unchain" = some Builtin.«proto.unchain» := entryFor_of_tree (by kernel_rfl)
theorem plain_unchain : plainId "proto.unchain" = true := by decide +kernel
section
variable {prog : Program} {w : World} {A : Around} {E : Value → Shared → Prop} {s : Shared} {env : Env}
theorem unchain_none {e e₀ : Addr} {oe : Obj} {vs : Array Value} {Q : Value → Shared → Prop} (ho : s.heap.get? e₀ = some oe) (hd : oe.data = .fields vs) (h2 : vs[2]? = some .none) (h : Q .none s) :
    wpAny (model prog w) A (runValue (.builtin "proto.unchain" ⟨[.ref e, .ref e₀, .ref e₀, .bool false], []⟩)) Q E s := by
  refine wpAny_runValue (codeAny_builtin entry_unchain ?_)
  rw [Around.under_plainId plain_unchain _]
  show wpAny _ _ (do let context ← field (.ref e₀) 2; _) _ _ s
  refine wpAny_bind (wpAny_field ho hd h2 ?_)
  exact wpAny_pure h

set_option maxHeartbeats 4000000 in
/-- a fresh exception raised `from None` while another is handled -/
theorem raise_from {x c : Sem Value} {e₀ : Addr} {o₀ : Obj} {vs₀ : Array Value} {Q : Flow → Shared → Prop} (hh : A.handled = some (.ref e₀))
    (h : wpAny (model prog w) A x (fun v s₁ => ∃ e t, v = .ref e ∧ e ≠ e₀ ∧ s₁.heap.get? e = some { cls := .type "ValueError", data := .fields #[.ref t, .none, .none, .none, .bool false, .none] } ∧ s₁.heap.get? e₀ = some o₀ ∧ o₀.data = .fields vs₀ ∧ vs₀[2]? = some .none ∧
      ∀ h', Heap.SameBut e s₁.heap h' → h'.get? e = some { cls := .type "ValueError", data := .fields #[.ref t, .none, .ref e₀, .none, .bool true, .none] } → E (.ref e) { s₁ with heap := h' }) E s)
    (hc : ∀ (Q' : Value → Shared → Prop) (E' : Value → Shared → Prop) (s' : Shared), Q' .none s' → wpAny (model prog w) A c Q' E' s') : wpAny (model prog w) A (raiseStmt env (some x) (some c)) Q E s := by
  unfold raiseStmt
  refine wpAny_bind (wpAny_mono h (fun v s₁ h₁ => ?_) fun _ _ x => x)
  obtain ⟨e, t, rfl, hne, he, h0, h0d, h02, hE⟩ := h₁
  obtain ⟨hp, g, d, tk, os⟩ := s₁
  have hsub := PySem.F.excRaise_ValueError.isExc
  have hmeta := PySem.F.excRaise_ValueError.plainMeta
  have isT : ∀ (h : Heap) (o : Obj) (Qb : Bool → Shared → Prop) (E' : Value → Shared → Prop), h.get? e = some o → (∀ k, o.data ≠ .cls k) → Qb false ⟨h, g, d, tk, os⟩ → wpAny (model prog w) A (isType (.ref e)) Qb E' ⟨h, g, d, tk, os⟩ := by
    intro h o Qb E' ho hn hq
    unfold isType
    refine wpAny_bind (wpAny_loadPart_at ho ?_)
    obtain ⟨cc, dd, dat, sl⟩ := o
    cases dat <;> first | exact wpAny_pure hq | exact absurd rfl (hn _)
  refine wpAny_bind (wpAny_holding (hc _ _ _ (wpAny_bind (wpAny_pure ?_))))
  show wpAny _ _ (holding (some Value.none).toList (excFromValue (.ref e) "exceptions must derive from BaseException") >>= _) _ _ _
  refine wpAny_bind (wpAny_holding ?_)
  unfold excFromValue isExcClass
  refine wpAny_bind (wpAny_bind (isT _ _ _ _ he (fun k q => nomatch q) (wpAny_pure ?_)))
  show wpAny _ _ (isInstance (.ref e) (.type "BaseException") >>= _) _ _ _
  refine wpAny_bind (wpAny_isInstance (T := "ValueError") ⟨_, he, rfl⟩ hsub (wpAny_pure ?_))
  show wpAny _ _ (setField (.ref e) 3 .none >>= _) _ _ _
  refine wpAny_bind (wpAny_setField_rec he (by simp) fun h₁ he₁ hs₁ => ?_)
  show wpAny _ _ (setField (.ref e) 4 (.bool true) >>= _) _ _ ⟨h₁, g, d, tk, os⟩
  refine wpAny_bind (wpAny_setField_rec he₁ (by simp) fun h₂ he₂ hs₂ => ?_)
  show wpAny _ _ (isType (.ref e) >>= _) _ _ ⟨h₂, g, d, tk, os⟩
  refine wpAny_bind (isT _ _ _ _ he₂ (fun k q => nomatch q) ?_)
  show wpAny _ _ (raisedInstance (.ref e) >>= _) _ _ ⟨h₂, g, d, tk, os⟩
  refine wpAny_bind ?_
  unfold raisedInstance
  refine wpAny_bind (wpAny_typeOf (T := "ValueError") ⟨_, he₂, rfl⟩ ?_)
  refine wpAny_bind (wpAny_of_eq (a := Value.type ((Manifest.find? "ValueError").elim "type" fun x => x.metatype)) rfl ?_)
  rw [if_pos hmeta]
  refine wpAny_pure ?_
  show wpAny _ _ (setFlight (.ref e) none >>= _) _ _ ⟨h₂, g, d, tk, os⟩
  refine wpAny_bind ?_
  unfold setFlight
  refine wpAny_bind (wpAny_field he₂ rfl (x := .none) rfl ?_)
  rw [if_neg (by decide)]
  refine wpAny_pure ?_
  unfold raiseNew
  refine wpAny_bind (wpAny_handled ?_)
  rw [hh]
  have h0₂ : h₂.get? e₀ = some o₀ := (hs₂.2 e₀ (Ne.symm hne)).trans ((hs₁.2 e₀ (Ne.symm hne)).trans h0)
  show wpAny _ _ (if (Value.ref e₀ != Value.ref e) = true then _ else _) _ _ ⟨h₂, g, d, tk, os⟩
  rw [if_pos (by simp; exact Ne.symm hne)]
  refine wpAny_bind (wpAny_holding (unchain_none h0₂ h0d h02 ?_))
  refine wpAny_bind ?_
  unfold updateField
  refine wpAny_bind (wpAny_load he₂ ?_)
  show wpAny _ _ (if 2 < _ then _ else _) _ _ _
  rw [if_pos (by simp)]
  refine wpAny_update he₂ (wpAny_throw (hE _ ?_ ?_))
  · exact (hs₁.trans hs₂).trans (Heap.SameBut.update ..)
  · exact Heap.get?_update_self _ he₂ rfl
end
end Mine
end
section
open PySem PyProof.Rows PySem.Calls PySem.W
namespace Mine
section
variable {h₀ h' G : Heap} {L e : Addr} {gi : Lg} {m : Str → Option Value} {u g : Lg} {env : Env} {outer : List Env} {msg : Str} {c fl : Value}
theorem St.ne_base {h : Heap} {b : Addr} {o : Obj} (S : St h₀ L gi m u g h) (hb : h₀.get? b = some o) : b ≠ L := fun q => by
  have h1 := Heap.lt_size hb
  have h2 := S.fr.above
  rw [q] at h1
  exact absurd h1 (Nat.not_lt.mpr h2)
theorem hidden_none {h : Heap} {l : List Addr} {b : Addr} (hb : h.get? b = none) : (hideAll h l).get? b = none := by
  cases q : (hideAll h l).get? b with
  | none => rfl
  | some o => rw [of_hideAll _ q] at hb; cases hb
/-- the state behind an exception that came in -/
theorem St.caught (S : St h₀ L gi m u g G) (hf : env.frame = some L) (x : Trk c G (env :: outer) h' e msg fl) (hfo : ∀ b ∈ frs outer, h₀.get? b ≠ none) (hgi : ∀ p ∈ gi, p.1 ∉ frs outer) : St (hideAll h₀ (frs outer)) L gi m u g h' := by
  have hmem : ∀ b, b ∈ frs (env :: outer) ↔ b = L ∨ b ∈ frs outer := fun b => by simp [frs, hf]
  have hno : ∀ b, h₀.get? b = none → b ∉ frs outer := fun b hb hm => hfo b hm hb
  have keep : ∀ b o, G.get? b = some o → b ≠ L → b ∉ frs outer → h'.get? b = some o := fun b o hb h1 h2 => x.keep b o hb fun hm => ((hmem b).mp hm).elim h1 h2
  refine ⟨⟨x.up.ns S.fr.ns, fun b o hb => ?_, ?_⟩, fun p hp => ?_, fun p hp => ?_, S.sep, S.nd, fun p hp => ?_⟩
  · have hb0 := of_hideAll _ hb
    refine keep b o (S.fr.keep b o hb0) (S.ne_base hb0) fun hm => ?_
    rw [hideAll_none _ hm] at hb; cases hb
  · rw [hideAll_size]; exact S.fr.above
  · obtain ⟨h1, h2, h3⟩ := S.un p hp
    exact ⟨keep _ _ h1 h2 (hno _ h3), h2, hidden_none h3⟩
  · obtain ⟨h1, h2⟩ := S.led p hp
    refine ⟨keep _ _ h1 h2 ?_, h2⟩
    rcases S.prov p hp with q | q
    · exact hgi p q
    · exact hno _ q
  · exact (S.prov p hp).imp id hidden_none
end

section
variable {prog : Program} {w : World} {A : Around} {E : Value → Shared → Prop} {s : Shared} {h₀ G : Heap} {L a e : Addr} {gi : Lg} {m mg mb : Str → Option Value} {u g : Lg} {cn : Str} {cs : Scope} {cd : Value} {cl : List (Str × Addr)} {outer : List Env} {msg : Str} {c : Value}
theorem sub_VE : isSubtype (.type "ValueError") (.type "BaseException") = pure true := PySem.F.excRaise_ValueError.isExc
theorem sub_VV : isSubtype (.type "ValueError") (.type "ValueError") = pure true := by rw [isSubtype_type]; kernel_rfl
theorem meta_VE : isSubtype (.type ((Manifest.find? "ValueError").elim "type" fun x => x.metatype)) (.type "tuple") = pure false := by rw [isSubtype_type]; kernel_rfl
/-- the handler of a ValueError that this frame has noted -/
theorem catchV {Q : Flow → Shared → Prop} {n : Str} {b₀ : Stmt} {suite : List Stmt} {np hpos : Pos} {rest : List ExceptHandler} (S : St h₀ L gi m u g G) (W : Wd mg mb (hideAll h₀ (frs outer))) (hfo : ∀ b ∈ frs outer, h₀.get? b ≠ none) (hgi : ∀ p ∈ gi, p.1 ∉ frs outer)
    (x : HeldC c (eX cn cs L a cd cl :: outer) L G s.heap e msg)
    (k : ∀ h' tk vs t, St (hideAll h₀ (frs outer)) L gi (upd m n (.ref e)) u g h' → ExObj c h' e msg vs t → FrP outer h' → (∀ b ∈ frs outer, ∀ o, G.get? b = some o → (∀ vs, o.data ≠ .fields vs) → ∃ sl, h'.get? b = some { o with slots := sl }) → h'.Ns L (upd m n (.ref e)) → (∀ b o, G.get? b = some o → b ≠ L → b ∉ frs outer → h'.get? b = some o) → G.get? e = none → G.get? t = none →
      wpAny (model prog w) (A.mark (some (.ref e))) (execs (b₀ :: suite) (eX cn cs L a cd cl))
        (fun f s₄ => wpAny (model prog w) A (do bindName (eX cn cs L a cd cl) n .none; unbindBehindTheSuite (eX cn cs L a cd cl) n hpos) (fun _ s₅ => Q f s₅) E s₄)
        (AsSuiteRaised (model prog w) (A.mark (some (.ref e))) (eX cn cs L a cd cl) n hpos (notedBy (model prog w) (A.mark (some (.ref e))) (eX cn cs L a cd cl) (cameBackBy (model prog w) A (eX cn cs L a cd cl) E)))
        { s with heap := h', toks := tk })
    (hk : cs.kind = .function := by rfl) (hx : (eX cn cs L a cd cl).kindOf "ValueError" = some .globalImplicit := by rfl) (hn : (eX cn cs L a cd cl).kindOf n = some .local := by rfl) :
    wpAny (model prog w) A (setFlight (.ref e) none) (fun _ s₃ => wpAny (model prog w) A (handleBy (.ref e) (eX cn cs L a cd cl) (.ExceptHandler (some (.Name "ValueError" np)) (some n) (b₀ :: suite) hpos :: rest)) Q E s₃) E s := by
  refine markE none x fun h₁ x₁ => ?_
  have S₁ := S.caught rfl x₁ hfo hgi
  obtain ⟨vs, t, T, oT, ts, hE, h1, hTe, hT, hdT, h3, g1, g2, g3⟩ := x₁.ex
  obtain ⟨oe, tok, ho, hc, hd, hsz, h0, h2, htt⟩ := id hE
  refine wpAny_handleBy_builtin_as (X := "ValueError") (T := "ValueError") (b := true) sub_VE meta_VE sub_VV (nmB S₁ W (W.free _ (by decide)) rfl ⟨rfl, ⟨oe, ho, hc⟩, ?_⟩ (by decide) hk hx)
  refine markE (s := { s with heap := h₁ }) none x₁ fun h₂ x₂ => ?_
  have S₂ := S.caught rfl x₂ hfo hgi
  have hmem : ∀ b, b ∈ frs (eX cn cs L a cd cl :: outer) ↔ b = L ∨ b ∈ frs outer := fun b => by simp [frs]
  have hfL : ∀ b ∈ frs outer, b ≠ L := fun b hb => by
    cases q : h₀.get? b with
    | none => exact absurd q (hfo b hb)
    | some o => exact S.ne_base q
  refine wpAny_storeName_local hn S₂.fr.ns (fun h₃ hn₃ hs₃ => ?_) (by show (cs.kind == .class || (cs.kind == .module && L != mainGlobals)) = false; rw [hk]; rfl)
  have S₃ := S₂.store hn₃ hs₃
  obtain ⟨kp, up, fr, vs, t, T, oT, ts, hE, h1, hTe, hT, hdT, h3, g1, g2, g3⟩ := id x₂
  obtain ⟨oe, tok, ho, hc, hd, hsz, h0, h2, ot, nt, hot, hotc, hotd⟩ := hE
  obtain ⟨oL, es, ep, hoL, hdL, _⟩ := S₂.fr.ns
  have heL : e ≠ L := fun q => by rw [q, hoL] at ho; cases ho; rw [hdL] at hd; cases hd
  have htL : t ≠ L := fun q => by rw [q, hoL] at hot; cases hot; rw [hdL] at hotd; cases hotd
  refine k h₃ _ vs t S₃ ⟨oe, tok, (hs₃.2 e heL).trans ho, hc, hd, hsz, h0, h2, ot, nt, (hs₃.2 t htL).trans hot, hotc, hotd⟩ ?_ ?_ hn₃ (fun b o hb h1 h2 => (hs₃.2 b h1).trans (kp b o hb fun hm => ((hmem b).mp hm).elim h1 h2)) g1 g3
  · obtain ⟨base, P⟩ := fr.tail
    refine ⟨hideAll h₃ (frs outer), ?_⟩
    have key : ∀ (l : List Env), (∀ b ∈ frs l, b ≠ L) → h₂.FunFrames base l → ∀ B : Heap, (∀ b ∈ frs l, B.get? b = none) → h₃.FunFrames B l := by
      intro l
      induction l with
      | nil => intro _ _ _ _; trivial
      | cons env r ih =>
        intro hl P B hB
        obtain ⟨hk, ⟨L', o, hf, hn', ho', hd'⟩, hr⟩ := P
        have hm : L' ∈ frs (env :: r) := by simp [frs, hf]
        refine ⟨hk, ⟨L', o, hf, hB L' hm, (hs₃.2 L' (hl L' hm)).trans ho', hd'⟩, ih (fun b hb => hl b ?_) hr B fun b hb => hB b ?_⟩
        · simp only [frs, List.filterMap_cons, hf]; exact .tail _ hb
        · simp only [frs, List.filterMap_cons, hf]; exact .tail _ hb
    exact key outer hfL P _ fun b hb => hideAll_none _ hb
  · intro b hb o hbo hfd
    obtain ⟨sl, q⟩ := up b o hbo hfd
    exact ⟨sl, (hs₃.2 b (hfL b hb)).trans q⟩
end
end Mine
end
section
open PySem PyProof.Rows PySem.Calls PySem.W
open PySem.AutoSeq1 (wpAny_loadPart')
set_option maxRecDepth 100000
namespace Mine

set_option maxHeartbeats 1000000 in
theorem meets_enum_from (l : Addr) (items : Array Value) (n : Nat) (dct : Option Addr) (sl : Array (Option Value)) (t : Tok) :
    Meets (Builtin.«enumerate.__new__» ⟨[.type "enumerate", .ref l, .int 1 t], []⟩) (fun _ R s => s.heap.get? l = some { cls := .type "list", dict := dct, data := .seq items n, slots := sl } ∧
      R (.ok (.ret (.ref (s.heap.push { cls := .type "list_iterator", data := .fields #[.ref l, .int 0 0] }).objs.size)))
        { s with heap := (s.heap.push { cls := .type "list_iterator", data := .fields #[.ref l, .int 0 0] }).push { cls := .type "enumerate", data := .fields #[.none, .bool false, .ref s.heap.objs.size, rawInt 1, .none, .none] } }) :=
  .of_wp fun prog w A R s h => by
    obtain ⟨hp, g, d, tk, os⟩ := s; obtain ⟨hl, h⟩ := h
    have hsub := sub_enumerate
    have hL : Heap.IsList (Shared.heap ⟨hp, g, d, tk, os⟩) l items := ⟨_, hl, rfl, n, rfl⟩
    wp_walk using wpAny_loadPart' hl
    refine wpAny_stack_any fun st => wpAny_pure ?_
    split
    · rename_i c _ _ _ _ _
      cases (c == Value.type "enumerate")
      · wp_walk using wpAny_loadPart' hl, wpAny_pyIter_list hL
        exact ⟨_, rfl, h⟩
      · wp_walk using wpAny_loadPart' hl, wpAny_pyIter_list hL
        exact ⟨_, rfl, h⟩
    · wp_walk using wpAny_loadPart' hl, wpAny_pyIter_list hL
      exact ⟨_, rfl, h⟩


theorem typeCall_enum2 (a b : Value) : checkTypeCall "enumerate" ⟨[a, b], []⟩ = pure () := by kernel_rfl
theorem newCall_enum2 (a b : Value) : checkBuiltinCall "enumerate.__new__" ⟨[.type "enumerate", a, b], []⟩ = pure () := by kernel_rfl

section
variable {h₀ h h' : Heap} {L e it : Addr} {gi : Lg} {m : Str → Option Value} {u g : Lg} {eo io eo' io' : Obj}
theorem St.two (S : St h₀ L gi m ((e, eo) :: (it, io) :: u) g h) (hk : ∀ b o, b ≠ e → b ≠ it → h.get? b = some o → h'.get? b = some o) (he : h'.get? e = some eo') (hi : h'.get? it = some io') : St h₀ L gi m ((e, eo') :: (it, io') :: u) g h' := by
  have ue := S.un _ (.head _)
  have ui := S.un _ (.tail _ (.head _))
  have nd := S.nd
  rw [List.map_cons, List.map_cons, List.nodup_cons, List.nodup_cons] at nd
  have hne : ∀ p ∈ u, p.1 ≠ e ∧ p.1 ≠ it := fun p hp => ⟨fun q => nd.1 (.tail _ (List.mem_map.mpr ⟨p, hp, q⟩)), fun q => nd.2.1 (List.mem_map.mpr ⟨p, hp, q⟩)⟩
  refine ⟨⟨?_, fun b o q => hk b o (fun c => ?_) (fun c => ?_) (S.fr.keep b o q), S.fr.above⟩, fun p hp => ?_, fun p hp => ⟨hk _ _ (S.sep p hp _ (.head _)) (S.sep p hp _ (.tail _ (.head _))) (S.led p hp).1, (S.led p hp).2⟩, fun p hp q hq => ?_, S.nd, S.prov⟩
  · obtain ⟨o, es, ep, ho, r⟩ := S.fr.ns
    exact ⟨o, es, ep, hk _ _ (Ne.symm ue.2.1) (Ne.symm ui.2.1) ho, r⟩
  · have := ue.2.2; subst c; rw [this] at q; cases q
  · have := ui.2.2; subst c; rw [this] at q; cases q
  · rcases List.mem_cons.mp hp with rfl | hp
    · exact ⟨he, ue.2⟩
    rcases List.mem_cons.mp hp with rfl | hp
    · exact ⟨hi, ui.2⟩
    · have q := S.un p (.tail _ (.tail _ hp))
      exact ⟨hk _ _ (hne p hp).1 (hne p hp).2 q.1, q.2⟩
  · rcases List.mem_cons.mp hq with rfl | hq
    · exact S.sep p hp (e, eo) (.head _)
    rcases List.mem_cons.mp hq with rfl | hq
    · exact S.sep p hp (it, io) (.tail _ (.head _))
    · exact S.sep p hp q (.tail _ (.tail _ hq))
theorem St.addG {T : Addr} {o : Obj} (S : St h₀ L gi m u g h) (ho : h.get? T = some o) (hn : ∀ b o, (b = L ∨ b ∈ u.map (·.1)) → h.get? b = some o → b ≠ T) (h0 : h₀.get? T = none) : St h₀ L gi m u ((T, o) :: g) h := by
  obtain ⟨ol, _, _, hol, _⟩ := S.fr.ns
  refine ⟨S.fr, S.un, fun p hp => ?_, fun p hp q hq => ?_, S.nd, fun p hp => ?_⟩
  · rcases List.mem_cons.mp hp with rfl | hp
    · exact ⟨ho, Ne.symm (hn _ _ (.inl rfl) hol)⟩
    · exact S.led p hp
  · rcases List.mem_cons.mp hp with rfl | hp
    · exact Ne.symm (hn q.1 q.2 (.inr (List.mem_map.mpr ⟨q, hq, rfl⟩)) (S.un q hq).1)
    · exact S.sep p hp q hq
  · rcases List.mem_cons.mp hp with rfl | hp
    · exact .inr h0
    · exact S.prov p hp
end

section
variable {prog : Program} {w : World} {A : Around} {E : Value → Shared → Prop} {s : Shared} {h₀ : Heap} {L : Addr} {gi : Lg} {m : Str → Option Value} {u g : Lg} {env : Env} {body : List Stmt} {lv : Value} {ds : List Dt}

theorem draws1 {it l : Addr} {items : Array Value} (hh : A.handled = none) (hli : l ≠ it) :
    Draws prog w A it [it, l] (items.size + 1) (fun i x => items[i - 1]? = some x) (fun i h => 1 ≤ i ∧ h.IsListIter it l (i - 1) ∧ h.IsList l items) where
  live := fun i h hs => by obtain ⟨o, ho, _⟩ := hs.2.1; exact ⟨o, ho⟩
  frame := fun i h h' hs hk => by
    obtain ⟨h1, ⟨o, ho, r⟩, ⟨o', ho', r'⟩⟩ := hs
    exact ⟨h1, ⟨o, hk _ (by simp) _ ho, r⟩, ⟨o', hk _ (by simp) _ ho', r'⟩⟩
  item := fun i s Q E hi hs hQ => by
    obtain ⟨h1, h2, h3⟩ := hs
    have hlt : i - 1 < items.size := by omega
    refine wpAny_nextOf_list_item h2 h3 (Array.getElem?_eq_getElem hlt) fun h' hit hsb => hQ _ h' s.toks (Array.getElem?_eq_getElem hlt) ⟨by omega, ?_, ?_⟩ hsb
    · rw [show i + 1 - 1 = i - 1 + 1 by omega]; exact hit
    · obtain ⟨o', ho', r'⟩ := h3
      exact ⟨o', (hsb.2 _ hli).trans ho', r'⟩
  done := fun s Q E hs hE => by
    obtain ⟨h1, h2, h3⟩ := hs
    exact wpAny_nextOf_list_end hh h2 h3 (by simp) hE

/-- what a turn's end must show, in a loop over enumerate -/
def TurnEnd2 (h₀ : Heap) (L : Addr) (gi : Lg) (J : (Str → Option Value) → Lg → Lg → Prop) (e it : Addr) (eo io : Obj) (s : Shared) (Q : Flow → Shared → Prop) (f : Flow) (s₃ : Shared) : Prop := match f with
  | .next | .cont => ∃ m' u' g' h' tk', s₃ = { s with heap := h', toks := tk' } ∧ J m' u' g' ∧ St h₀ L gi m' ((e, eo) :: (it, io) :: u') g' h'
  | .brk => Q .next s₃
  | .ret v => Q (.ret v) s₃

theorem forE {Q : Flow → Shared → Prop} {e it : Addr} {eo io : Obj} {elts : List Expr} {x1 : Nat} {pt : Pos} (EL : Value → Shared → Prop) (hEL : ∀ e s', EL e s' → notedBy (model prog w) A env (fun x s'' => cameBackBy (model prog w) A env E x s'') e s') (J : Nat → (Str → Option Value) → Lg → Lg → Prop) (hh : A.handled = none)
    (S : St h₀ L gi m ((e, eo) :: (it, io) :: u) g s.heap) (D : DL g lv (.list ds)) (he : IsEnum s.heap e it 1 .none) (hit : ∀ l, lv = .ref l → s.heap.IsListIter it l 0) (h0 : J 0 m u g)
    (turn : ∀ (i : Nat) d v m' u' g' h tk eo io, ds[i]? = some d → DL g' v (.tuple [.int ((i : Int) + 1), d]) → (∀ p ∈ g, p ∈ g') → (∃ T o g₁, g' = (T, o) :: g₁ ∧ J i m' u' g₁) → St h₀ L gi m' ((e, eo) :: (it, io) :: u') g' h →
      wpAny (model prog w) A (assign (.Tuple elts x1 pt) env v) (fun _ s₂ => wpAny (model prog w) A (execs body env) (TurnEnd2 h₀ L gi (fun m u g'' => (∀ p ∈ g, p ∈ g'') ∧ J (i + 1) m u g'') e it eo io s Q) EL s₂) EL { s with heap := h, toks := tk })
    (done : ∀ m' u' g' h tk, (∀ p ∈ g, p ∈ g') → J ds.length m' u' g' → St h₀ L gi m' u' g' h → Q .next { s with heap := h, toks := tk }) :
    wpAny (model prog w) A (pyIter (.ref e)) (fun it s₂ => codeAny (model prog w) A (.forLoop (.Tuple elts x1 pt) it body [] env) (fun r s' => match r with | .ok f => Q f s' | .error e => cameBackBy (model prog w) A env E e s') s₂) E s := by
  refine wpAny_pyIter_enum he ?_
  cases D with
  | @list l n vs _ hl hD =>
    have hlen := hD.length
    have isl : ∀ {h' : Heap}, h'.get? l = some (lstO vs n) → h'.IsList l vs.toArray := fun e => ⟨_, e, rfl, _, rfl⟩
    have hle : l ≠ e := S.sep _ hl _ (.head _)
    have hli : l ≠ it := S.sep _ hl _ (.tail _ (.head _))
    have nd := S.nd
    rw [List.map_cons, List.map_cons, List.nodup_cons, List.nodup_cons] at nd
    have hei : e ≠ it := fun q => nd.1 (q ▸ .head _)
    refine codeAny_forLoop_any (fun k s' => ∃ i m' u' g' h tk eo io old, s' = { s with heap := h, toks := tk } ∧ i ≤ ds.length ∧ k = ds.length + 1 - i ∧ (∀ p ∈ g, p ∈ g') ∧ J i m' u' g' ∧ St h₀ L gi m' ((e, eo) :: (it, io) :: u') g' h ∧ h.IsListIter it l i ∧ IsEnum h e it ((i + 1 : Nat) : Int) old)
      ?_ (ds.length + 1) ⟨0, m, u, g, _, s.toks, eo, io, .none, rfl, Nat.zero_le _, rfl, fun _ hp => hp, h0, S, hit l rfl, he⟩
    rintro k s' ⟨i, m', u', g', h, tk, eo₁, io₁, old, rfl, hi, rfl, hsub, hJ, S', hit', he'⟩
    have DR := draws1 (prog := prog) (w := w) (A := A.in1) (it := it) (l := l) (items := vs.toArray) hh hli
    cases hx : vs[i]? with
    | none =>
      have hie : i = ds.length := by have := List.getElem?_eq_none_iff.mp hx; omega
      have hsz : vs.toArray.size = i := by simp; omega
      rw [hsz] at DR
      refine wpAny_pyNext_enum_endD DR he' ⟨by omega, by simpa using hit', isl (S'.led _ (hsub _ hl)).1⟩ fun h₁ hx₁ => wpAny_execs_nil ?_
      have S₁ := S'.drop
      refine done m' u' g' h₁ tk hsub (hie ▸ hJ) (S₁.extBut hx₁)
    | some v =>
      obtain ⟨d, hd, hDv⟩ := hD.getV hx
      have hlt : i < ds.length := (List.getElem?_eq_some_iff.mp hd).1
      refine wpAny_pyNext_enum_itemD DR he' ⟨by omega, by simpa using hit', isl (S'.led _ (hsub _ hl)).1⟩ (by simp; omega) hei (by simp [hei, Ne.symm hle]) fun x h₁ tk₁ hP ho₁ hst₁ ht₁ hz₁ hk₁ => ?_
      have hxv : x = v := by
        have := hP
        simp only [Nat.add_sub_cancel] at this
        rw [List.getElem?_toArray, hx] at this
        exact (Option.some.inj this).symm
      subst hxv
      refine wpAny_letOwnedTupleGo_enum ho₁ fun h₂ he₂ hs₂ => ?_
      replace hs₂ : Heap.SameBut e h₁ h₂ := hs₂
      have hltE : e < h.objs.size := Heap.lt_size he'
      have hk₂ : ∀ b o, b ≠ e → b ≠ it → h.get? b = some o → h₂.get? b = some o := fun b o hb hb' q => (hs₂.2 b hb).trans (hk₁ b o hb hb' q)
      have hT : h₂.get? h.objs.size = some (tupO [.int ((i + 1 : Nat) : Int) tk₁, x] 0) := (hs₂.2 _ (Nat.ne_of_gt hltE)).trans ht₁
      have hit₂ : h₂.IsListIter it l (i + 1) := by
        obtain ⟨o, ho, r⟩ := hst₁.2.1
        exact ⟨o, (hs₂.2 _ (Ne.symm hei)).trans ho, by simpa using r⟩
      obtain ⟨io₂, hio₂, hio₃⟩ := id hit₂
      have S₂ := S'.two hk₂ he₂ hio₂
      have S₃ := S₂.addG hT (fun b o hb hbo q => by
        rcases hb with rfl | hb
        · exact absurd q (Nat.ne_of_lt S'.fr.ns.lt)
        · obtain ⟨p, hp, rfl⟩ := List.mem_map.mp hb
          rcases List.mem_cons.mp hp with rfl | hp
          · exact absurd q (Nat.ne_of_lt hltE)
          rcases List.mem_cons.mp hp with rfl | hp
          · exact absurd q (Nat.ne_of_lt (Heap.lt_size (S'.un _ (.tail _ (.head _))).1))
          · exact absurd q (Nat.ne_of_lt (Heap.lt_size (S'.un _ (.tail _ (.tail _ hp))).1))) (S'.fresh (size_none h))
      have DT : DL ((h.objs.size, tupO [.int ((i + 1 : Nat) : Int) tk₁, x] 0) :: g') (.ref h.objs.size) (.tuple [.int ((i : Int) + 1), d]) :=
        .tuple (.head _) rfl rfl (.cons (.int _ _) (.cons (hDv.mono fun p hp => .tail _ (hsub p hp)) .nil))
      refine wpAny_mono (turn i d _ m' u' _ h₂ (tk₁ + 1) _ io₂ hd DT (fun p hp => .tail _ (hsub p hp)) ⟨_, _, _, rfl, hJ⟩ S₃) (fun _ s₂ q₂ => wpAny_mono q₂ (fun f s₃ h₃ => ?_) fun _ _ e => hEL _ _ e) fun _ _ e => hEL _ _ e
      cases f with
      | brk => exact h₃
      | ret v => exact h₃
      | next =>
        obtain ⟨m₂, u₂, g₂, h₂, tk₂, rfl, ⟨hs₂, hJ₂⟩, S₂⟩ := h₃
        exact ⟨ds.length + 1 - (i + 1), by omega, i + 1, m₂, u₂, g₂, h₂, tk₂, _, _, x, rfl, hlt, rfl, hs₂, hJ₂, S₂, ⟨io₂, (S₂.un _ (.tail _ (.head _))).1, hio₃⟩, (S₂.un _ (.head _)).1⟩
      | cont =>
        obtain ⟨m₂, u₂, g₂, h₂, tk₂, rfl, ⟨hs₂, hJ₂⟩, S₂⟩ := h₃
        exact ⟨ds.length + 1 - (i + 1), by omega, i + 1, m₂, u₂, g₂, h₂, tk₂, _, _, x, rfl, hlt, rfl, hs₂, hJ₂, S₂, ⟨io₂, (S₂.un _ (.tail _ (.head _))).1, hio₃⟩, (S₂.un _ (.head _)).1⟩

/-- enumerate(l, 1) -/
theorem enumL {Q : Value → Shared → Prop} {t : Tok} (S : St h₀ L gi m u g s.heap) (D : DL g lv (.list ds))
    (h : ∀ h' e it eo io, St h₀ L gi m ((e, eo) :: (it, io) :: u) g h' → IsEnum h' e it 1 .none → (∀ l, lv = .ref l → h'.IsListIter it l 0) → Q (.ref e) { s with heap := h' }) :
    wpAny (model prog w) A (call (.type "enumerate") [lv, .int 1 t]) Q E s := by
  cases D with
  | @list l n vs _ hl hD =>
    refine callType_new PySem.F.called_enumerate (by decide) (typeCall_enum2 _ _) (newCall_enum2 _ _) (fun obj => PySem.F.args_object_init_3 obj _ _) PySem.F.entry_enumerate_new
      (meets_enum_from l vs.toArray n none #[] t) ⟨(S.led _ hl).1, ?_⟩
    have S₁ := (S.pushU { cls := .type "list_iterator", data := .fields #[.ref l, .int 0 0] }).pushU { cls := .type "enumerate", data := .fields #[.none, .bool false, .ref s.heap.objs.size, rawInt 1, .none, .none] }
    exact ⟨⟨_, (S₁.un _ (.head _)).1, rfl⟩, h _ _ _ _ _ S₁ (S₁.un _ (.head _)).1 fun l' q => by cases q; exact ⟨_, (S₁.un _ (.tail _ (.head _))).1, rfl, rfl⟩⟩
end
end Mine
end
section
open PySem PyProof.Rows PySem.Calls PySem.W
set_option maxRecDepth 100000
namespace Mine
theorem slot_VE_format : Slot "ValueError" "__format__" "object.__format__" :=
  .of (owner := "object") (n := "__format__") (by rw [typeLookup_type, builtinLookup_eq_fast]; kernel_rfl) (by decide +kernel) (by decide +kernel) (by decide +kernel)
    (by first | exact .inl (by decide +kernel) | exact .inr (by decide +kernel)) (by rw [isSubtype_type]; kernel_rfl)

section
variable {prog : Program} {w : World} {A : Around} {E : Value → Shared → Prop} {s : Shared} {e t : Addr} {msg : Str} {vs : Array Value} {c : Value}
/-- an exception in an f-string -/
theorem fmtE {Q : Value → Shared → Prop} (hu : A.units + 2 < cLine) (hx : ExObj c s.heap e msg vs t) (h : ∀ tok tk, Q (.str msg tok) { s with toks := tk }) : wpAny (model prog w) A (formatField (.ref e) Str.empty) Q E s := by
  obtain ⟨oe, tok, ho, hc, hd, hsz, h0, h2, hT⟩ := hx
  have X₁ : ∀ k, ({ s with toks := k } : Shared).heap.ExcAt e "ValueError" (.ref t) := fun k => ⟨oe, vs, ho, hc, hd, h0⟩
  have hT' : ∀ k, ({ s with toks := k } : Shared).TypeIs (.ref e) "ValueError" := fun k => (X₁ k).typeIs
  show wpAny _ _ (holding [.ref e] (pyFormat (.ref e) Str.empty)) _ _ _
  refine wpAny_holding ?_
  unfold pyFormat
  refine wpAny_bind (wpAny_mkStr ?_)
  refine wpAny_bind (m := callSpecial? (.ref e) (Str.ofString "__format__") [.str Str.empty s.toks]) (wpAny_callSpecial?_slot (name := Str.ofString "__format__") (hT' _) slot_VE_format ?_)
  refine wpAny_call_entry slot_VE_format (hT' _) PySem.F.entry_object_format ?_ (PySem.F.args_object_format_2 _ _)
  show wpAny _ _ (do let _shown ← typeNameOf (.str Str.empty s.toks); (do ret (← pyStrObj (.ref e)))) _ _ _
  refine wpAny_bind (wpAny_typeNameOf (T := "str") (typeIs_str _ _ _) (by decide) fun _ => ?_)
  refine wpAny_bind (pyStrObj_exc_one PySem.F.excStr_ValueError (by show A.units + 1 < cLine; omega) (X₁ _) hT (wpAny_pure ⟨_, rfl, ?_⟩))
  exact wpAny_bind (wpAny_isInstance (T := "str") (b := true) rfl isSubtype_str_str (wpAny_pure (h _ _)))
end

theorem FrP.same {outer : List Env} {h₂ h₃ : Heap} {L : Addr} (x : FrP outer h₂) (hs : Heap.SameBut L h₂ h₃) (hl : ∀ b ∈ frs outer, b ≠ L) : FrP outer h₃ := by
  obtain ⟨base, P⟩ := x
  refine ⟨hideAll h₃ (frs outer), ?_⟩
  have key : ∀ (l : List Env), (∀ b ∈ frs l, b ≠ L) → h₂.FunFrames base l → ∀ B : Heap, (∀ b ∈ frs l, B.get? b = none) → h₃.FunFrames B l := by
    intro l
    induction l with
    | nil => intro _ _ _ _; trivial
    | cons env r ih =>
      intro hl P B hB
      obtain ⟨hk, ⟨L', o, hf, hn', ho', hd'⟩, hr⟩ := P
      have hm : L' ∈ frs (env :: r) := by simp [frs, hf]
      refine ⟨hk, ⟨L', o, hf, hB L' hm, (hs.2 L' (hl L' hm)).trans ho', hd'⟩, ih (fun b hb => hl b ?_) hr B fun b hb => hB b ?_⟩
      · simp only [frs, List.filterMap_cons, hf]; exact .tail _ hb
      · simp only [frs, List.filterMap_cons, hf]; exact .tail _ hb
  exact key outer hl P _ fun b hb => hideAll_none _ hb
/-- an exception that a handler raised, seen from the def's entry, behind a change of the frame -/
theorem Trk.rebase {c fl : Value} {env : Env} {outer : List Env} {L e : Addr} {B h₁ h₄ h₅ : Heap} {msg : Str} {m m' : Str → Option Value} (hf : env.frame = some L) (hkd : env.scope.kind ≠ .module) (x : Trk c h₁ (env :: outer) h₄ e msg fl) (hN : h₁.Ns L m) (hN' : h₅.Ns L m') (hs : Heap.SameBut L h₄ h₅)
    (hBL : B.get? L = none) (hB : ∀ b o, B.get? b = some o → b ∉ frs outer → h₁.get? b = some o) (hU : ∀ b ∈ frs outer, ∀ o, B.get? b = some o → (∀ vs, o.data ≠ .fields vs) → ∃ sl, h₁.get? b = some { o with slots := sl })
    (hF : ∀ b ∈ frs outer, h₁.get? b ≠ none) (hl : ∀ b ∈ frs outer, b ≠ L) : Trk c B (env :: outer) h₅ e msg fl := by
  have hmem : ∀ b, b ∈ frs (env :: outer) ↔ b = L ∨ b ∈ frs outer := fun b => by simp [frs, hf]
  have neL : ∀ b o, B.get? b = some o → b ≠ L := fun b o hb q => by rw [q, hBL] at hb; cases hb
  have none_ : ∀ b, h₁.get? b = none → B.get? b = none := fun b hb => by
    cases q : B.get? b with
    | none => rfl
    | some o =>
      by_cases hm : b ∈ frs outer
      · exact absurd hb (hF b hm)
      · rw [hB b o q hm] at hb; cases hb
  obtain ⟨kp, up, fr, vs, t, T, oT, ts, ⟨oe, tok, ho, hc, hd, hsz, h0, h2, ot, nt, hot, hotc, hotd⟩, h1, hTe, hT, hdT, h3, g1, g2, g3⟩ := x
  obtain ⟨oL, es, ep, hoL, hdL, _⟩ := up.ns hN
  have heL : e ≠ L := fun q => by rw [q, hoL] at ho; cases ho; rw [hdL] at hd; cases hd
  have hTL : T ≠ L := fun q => by rw [q, hoL] at hT; cases hT; rw [hdL] at hdT; cases hdT
  have htL : t ≠ L := fun q => by rw [q, hoL] at hot; cases hot; rw [hdL] at hotd; cases hotd
  refine ⟨fun b o hb hm => ?_, fun b o hb hn => ?_, frp_cons hf hkd (fr.tail.same hs hl) hN', vs, t, T, oT, ts, ⟨oe, tok, (hs.2 e heL).trans ho, hc, hd, hsz, h0, h2, ot, nt, (hs.2 t htL).trans hot, hotc, hotd⟩, h1, hTe, (hs.2 T hTL).trans hT, hdT, h3, none_ _ g1, none_ _ g2, none_ _ g3⟩
  · exact (hs.2 b (neL b o hb)).trans (kp b o (hB b o hb fun q => hm ((hmem b).mpr (.inr q))) hm)
  · by_cases hm : b ∈ frs outer
    · obtain ⟨sl, q⟩ := hU b hm o hb hn
      obtain ⟨sl', q'⟩ := up b _ q hn
      exact ⟨sl', (hs.2 b (neL b o hb)).trans q'⟩
    · obtain ⟨sl', q'⟩ := up b _ (hB b o hb hm) hn
      exact ⟨sl', (hs.2 b (neL b o hb)).trans q'⟩

def lineMsg (k : Int) (msg : Str) : Str := Str.empty ++ Str.ofString "line " ++ itoa k ++ Str.ofString ": " ++ msg

section
variable {prog : Program} {w : World} {A : Around} {E : Value → Shared → Prop} {s : Shared} {h₀ G B : Heap} {L a e : Addr} {gi : Lg} {m mg mb : Str → Option Value} {u g : Lg} {cn : Str} {cs : Scope} {cd : Value} {cl : List (Str × Addr)} {outer : List Env} {msg : Str}
set_option maxHeartbeats 1000000 in
/-- except ValueError as error: raise ValueError(f'line {number}: {error}') from None -/
theorem wrapV {Q : Flow → Shared → Prop} {np hpos q1 q2 q3 q4 q5 q6 q7 q8 q9 q10 q11 : Pos} {k1 k2 k3 : Nat} {num : Str} {k : Int} {t : Tok} {rest : List ExceptHandler} (hA : OkA A 0) (hfr : A.frames = some (eX cn cs L a cd cl :: outer)) (hB : Ext B G) (hBL : B.get? L = none)
    (S : St h₀ L gi m u g G) (W : Wd mg mb (hideAll h₀ (frs outer))) (hfo : ∀ b ∈ frs outer, h₀.get? b ≠ none) (hgi : ∀ p ∈ gi, p.1 ∉ frs outer)
    (x : HeldC .none (eX cn cs L a cd cl :: outer) L G s.heap e msg) (hm : m num = some (.int k t)) (hne : num ≠ "error") (hd : k.natAbs.log2 < 1920) (hz : (lineMsg k msg).length ≤ 3000000)
    (kk : ∀ e' c h' tk, HeldC c (eX cn cs L a cd cl :: outer) L B h' e' (lineMsg k msg) → E (.ref e') { s with heap := h', toks := tk })
    (hk : cs.kind = .function := by rfl) (hx : (eX cn cs L a cd cl).kindOf "ValueError" = some .globalImplicit := by rfl) (hn : (eX cn cs L a cd cl).kindOf "error" = some .local := by rfl) (hnum : (eX cn cs L a cd cl).kindOf num = some .local := by rfl) (hdb : (num == ("__debug__" : Str)) = false := by decide) :
    wpAny (model prog w) A (setFlight (.ref e) none) (fun _ s₃ => wpAny (model prog w) A (handleBy (.ref e) (eX cn cs L a cd cl) (.ExceptHandler (some (.Name "ValueError" np)) (some "error")
      [.Raise (some (.Call (.Name "ValueError" q1) [.JoinedStr [.Constant (.str "line ") k1 q2, .FormattedValue (.Name num q3) (-1) none q4, .Constant (.str ": ") k2 q5, .FormattedValue (.Name "error" q6) (-1) none q7] q8] [] q9)) (some (.Constant .none k3 q10)) q11] hpos :: rest)) Q E s₃) E s := by
  refine catchV S W hfo hgi x (fun h₁ tk₁ vs₁ t₁ S₁ hE₁ hF₁ hU₁ hN₁ hK₁ g1 g3 => ?_) hk hx hn
  refine wpAny_execs_cons ?_
  rw [arm_exec_Raise]
  refine wpAny_bind (wpAny_standAt ?_)
  obtain ⟨oe, tok, ho, hc, hdd, hsz, h0, h2, hT⟩ := id hE₁
  show wpAny _ _ (raiseStmt _ (some (do let v ← eval (.Call (.Name "ValueError" q1) [.JoinedStr [.Constant (.str "line ") k1 q2, .FormattedValue (.Name num q3) (-1) none q4, .Constant (.str ": ") k2 q5, .FormattedValue (.Name "error" q6) (-1) none q7] q8] [] q9) (eX cn cs L a cd cl); standAt q11; pure v)) (some (do let v ← eval (.Constant .none k3 q10) (eX cn cs L a cd cl); standAt q11; pure v))) _ _ _
  have hz1 : (lineMsg k msg).length = 5 + (itoa k).length + 2 + msg.length := by simp only [lineMsg, len_app]; show 0 + 5 + (itoa k).length + 2 + msg.length = _; omega
  have hsl : (3000000 : Nat) ≤ sizeLine := by decide
  refine raise_from (e₀ := e) (o₀ := oe) (vs₀ := vs₁) (by show (some (Value.ref e)).or A.handled = _; rfl) ?_ ?_
  · refine wpAny_bind (callT "ValueError" (nmB S₁ W (W.free _ (by decide)) rfl ⟨rfl, wpAny_items_cons ?_⟩ (by decide) hk hx))
    have z1 : (Str.empty ++ Str.ofString "line ").length ≤ sizeLine := by decide
    have z2 : (Str.empty ++ Str.ofString "line " ++ itoa k).length ≤ sizeLine := by simp only [len_app]; show 0 + 5 + (itoa k).length ≤ _; omega
    have z3 : (Str.empty ++ Str.ofString "line " ++ itoa k ++ Str.ofString ": ").length ≤ sizeLine := by simp only [len_app]; show 0 + 5 + (itoa k).length + 2 ≤ _; omega
    have z4 : (Str.empty ++ Str.ofString "line " ++ itoa k ++ Str.ofString ": " ++ msg).length ≤ sizeLine := by simp only [len_app]; show 0 + 5 + (itoa k).length + 2 + msg.length ≤ _; omega
    refine JoinedStr_many (jpC z1 fun tk₃ => jpI (fun Q' hq => nmL S₁ (upd_ne hne hm) hq hk hnum hdb) hd z2 fun tk₄ => joinParts_consE (jpC z3 fun tk₅ => joinParts_consE (joinParts_cons (FormattedValue_plain (nmL S₁ upd_eq (fmtE (by show A.units + 2 < cLine; have := hA.un; omega) hE₁ fun tok₆ tk₆ => ⟨z4, jpN z4 fun tok₇ tk₇ => ?_⟩) hk hn (by decide)))))) 
    refine wpAny_items_nil ?_
    refine wpAny_call_exc PySem.F.excCall_ValueError (fun h₂ e' hx₂ => ?_)
    refine wpAny_bind (wpAny_standAt (wpAny_pure ?_))
    obtain ⟨t', he', htn, ht'⟩ := hx₂.there
    have hee : e' ≠ e := fun q => by have := hx₂.new; rw [q, ho] at this; cases this
    refine ⟨e', t', rfl, hee, he', hx₂.keeps _ _ ho, hdd, h2, fun h₃ hs₃ he₃ => ?_⟩
    have ne3 : ∀ b o, h₁.get? b = some o → b ≠ e' := fun b o hb q => by have := hx₂.new; rw [q] at hb; rw [show h₁.get? e' = none from this] at hb; cases hb
    have kp3 : ∀ b o, h₁.get? b = some o → h₃.get? b = some o := fun b o hb => (hs₃.2 b (ne3 b o hb)).trans (hx₂.keeps b o hb)
    have hte : t' ≠ e' := fun q => by rw [q, he'] at ht'; have := congrArg (fun o : Option Obj => o.map (·.data)) ht'; simp at this
    have hfL : ∀ b ∈ frs outer, b ≠ L := fun b hb => by
      cases q : h₀.get? b with
      | none => exact absurd q (hfo b hb)
      | some o => exact S.ne_base q
    have hkd : (eX cn cs L a cd cl).scope.kind ≠ .module := by show cs.kind ≠ _; rw [hk]; decide
    refine noteNew (G := h₁) (L := L) (outer := outer) (c := .ref e) (msg := lineMsg k msg) (t := t') (A := A.mark (some (.ref e))) (s := { s with heap := h₃, toks := _ }) hfr (frp_cons rfl hkd (hF₁.ext kp3) (hN₁.keeps kp3)) rfl
      ⟨_, _, he₃, rfl, rfl, rfl, rfl, rfl, ⟨_, _, (hs₃.2 t' hte).trans ht', rfl, rfl⟩⟩ rfl (fun b o hb _ => kp3 b o hb) (Heap.UpToSlots.of_keeps kp3) hx₂.new htn fun h₄ x₄ => ?_
    refine wpAny_nameGoes_keeps (s := { s with heap := h₄, toks := _ }) hn (x₄.up.ns hN₁) (by show (cs.kind == .class || (cs.kind == .module && L != mainGlobals)) = false; rw [hk]; rfl) fun h₅ v₅ hN₅ hs₅ => ?_
    have x₅ : HeldC (.ref e) (eX cn cs L a cd cl :: outer) L B h₅ e' (lineMsg k msg) := x₄.rebase rfl hkd hN₁ hN₅ hs₅ hBL (fun b o hb hm => hK₁ b o (hB b o hb) (fun q => by rw [q, hBL] at hb; cases hb) hm)
      (fun b hm o hb hn => hU₁ b hm o (hB b o hb) hn) (fun b hm q => by obtain ⟨o, ho, _⟩ := hF₁.mem hm; rw [ho] at q; cases q) hfL
    exact pass_held (s := { s with heap := h₅, toks := _ }) rfl x₅ fun h₆ x₆ => noted_held (s := { s with heap := h₆, toks := _ }) rfl x₆ (back_held (s := { s with heap := h₆, toks := _ }) rfl x₆ fun h₇ x₇ => kk e' _ h₇ _ x₇)
  · intro Q' E' s' h'
    exact wpAny_bind (wpAny_pure (wpAny_bind (wpAny_standAt (wpAny_pure h'))))
end
end Mine
end
section
open PySem PyProof.Rows PySem.Calls PySem.W PySem.Builtin.Str
set_option maxRecDepth 100000
namespace Mine
theorem DLs.strs {g : Lg} : ∀ l : List (Str × Tok), DLs g (strValues l) ((l.map (·.1)).map Dt.str)
  | [] => .nil
  | _ :: r => .cons (.str _ _) (DLs.strs r)

section
variable {prog : Program} {w : World} {A : Around} {E : Value → Shared → Prop} {s : Shared} {h₀ : Heap} {L : Addr} {gi : Lg} {m : Str → Option Value} {ul g : Lg} {x y : Str} {t u : Tok} {Q : Value → Shared → Prop}
theorem spl0 (S : St h₀ L gi m ul g s.heap) (hsz : x.length + 2 ≤ sizeLine)
    (h : ∀ h' D o tk, St h₀ L gi m ul ((D, o) :: g) h' → DL ((D, o) :: g) (.ref D) (.list ((Txt.words x).map .str)) → Q (.ref D) { s with heap := h', toks := tk }) :
    wpAny (model prog w) A (call (.builtin "str.split") [.str x t]) Q E s := by
  have h : ∀ (l : List (Str × Tok)) k, l.map (·.1) = Txt.words x → Q (.ref s.heap.objs.size) { s with heap := s.heap.push { cls := .type "list", data := .seq (strValues l).toArray }, toks := k } := fun l k e =>
    h _ _ _ k (S.pushG (lstO (strValues l) 0)) (.list (.head _) (by rw [← e]; exact DLs.strs l))
  have hn : (spaceWords x (x.length + 1)).length ≤ sizeLine := by
    have e1 := (StrLaws.sw_weight x).1
    have e2 := StrLaws.len_le_wsum (spaceWords x (x.length + 1))
    omega
  refine call_meets PySem.F.slot_str_split (typeIs_str _ _ _) PySem.F.entry_str_split (PySem.F.args_str_split_1 _) (meets_str_split_space x t (by omega) hn) ?_
  cases hw : spaceWords x (x.length + 1) == [(0, x.length)]
  · simp only [Bool.false_eq_true, if_false]
    rw [strsFrom_eq]
    exact h (numbered s.toks (PySem.wordsOf x)) _ ((numbered_texts _ _).trans (if_neg (ne_true_of_eq_false hw)).symm)
  · simp only [if_true]
    exact h [(x, t)] s.toks (if_pos hw).symm
theorem spl1 (S : St h₀ L gi m ul g s.heap) (hsz : x.length + 2 ≤ sizeLine) (hy : (y.length == 0) = false)
    (h : ∀ h' D o tk, St h₀ L gi m ul ((D, o) :: g) h' → DL ((D, o) :: g) (.ref D) (.list ((Txt.split x y).map .str)) → Q (.ref D) { s with heap := h', toks := tk }) :
    wpAny (model prog w) A (call (.builtin "str.split") [.str x t, .str y u]) Q E s := by
  have h : ∀ (l : List (Str × Tok)) k, l.map (·.1) = Txt.split x y → Q (.ref s.heap.objs.size) { s with heap := s.heap.push { cls := .type "list", data := .seq (strValues l).toArray }, toks := k } := fun l k e =>
    h _ _ _ k (S.pushG (lstO (strValues l) 0)) (.list (.head _) (by rw [← e]; exact DLs.strs l))
  have hn : (partsBetween x (occurrences x y 0 x.length (x.length + 1)) y.length).length ≤ sizeLine := by
    have e1 := StrLaws.occ_length_le x y 0 x.length (x.length + 1)
    rw [length_partsBetween]; omega
  cases h1 : (decide (x.length < y.length) || decide (strKind x < strKind y))
  · cases hf : (occurrences x y 0 x.length (x.length + 1)).isEmpty
    · refine call_meets PySem.F.slot_str_split (typeIs_str _ _ _) PySem.F.entry_str_split (PySem.F.args_str_split_2 _ _) (meets_str_split_sep x y t u h1 hy hf (by omega) hn) ?_
      show wants Q E _ { s with toks := _, heap := s.heap.push { cls := .type "list", data := .seq (strsFrom s.toks (partsBetween x (occurrences x y 0 x.length (x.length + 1)) y.length)).toArray } }
      rw [strsFrom_eq]
      exact h (numbered s.toks _) _ ((numbered_texts _ _).trans ((if_neg (ne_true_of_eq_false h1)).trans (if_neg (ne_true_of_eq_false hf))).symm)
    · exact call_meets PySem.F.slot_str_split (typeIs_str _ _ _) PySem.F.entry_str_split (PySem.F.args_str_split_2 _ _) (meets_str_split_not_found x y t u h1 hy hf)
        (h [(x, t)] s.toks ((if_neg (ne_true_of_eq_false h1)).trans (if_pos hf)).symm)
  · exact call_meets PySem.F.slot_str_split (typeIs_str _ _ _) PySem.F.entry_str_split (PySem.F.args_str_split_2 _ _) (meets_str_split_cannot_occur x y t u h1)
      (h [(x, t)] s.toks (if_pos h1).symm)
end
end Mine
end
section
open PySem PyProof.Rows PySem.Calls PySem.W
set_option maxRecDepth 100000
namespace Mine
/-- what a caller sees of an exception with any context -/
def ErrC (E : Value → Shared → Prop) (s₀ : Shared) (outer : List Env) (msg : Str) : Prop := ∀ e c h' tk, FlyC c outer s₀.heap h' e msg → E (.ref e) { s₀ with heap := h', toks := tk }
/-- an exception that a handler in a loop's turn raised -/
def ELC (E : Value → Shared → Prop) (s₀ : Shared) (env : Env) (outer : List Env) (L : Addr) (x : Value) (s' : Shared) : Prop :=
  ∃ e c msg h' tk, x = .ref e ∧ s' = { s₀ with heap := h', toks := tk } ∧ HeldC c (env :: outer) L s₀.heap h' e msg ∧ ErrC E s₀ outer msg

section
variable {prog : Program} {w : World} {A : Around} {E : Value → Shared → Prop} {s₀ : Shared} {h : Heap} {tk : Nat} {L a : Addr} {gi : Lg} {m mg mb : Str → Option Value} {u g : Lg} {cn : Str} {cs : Scope} {cd : Value} {cl : List (Str × Addr)} {outer : List Env} {msg : Str}
theorem loopC (hL : s₀.heap.get? L = none) : ∀ x s', ELC E s₀ (eX cn cs L a cd cl) outer L x s' →
    notedBy (model prog w) (A.deeper (eX cn cs L a cd cl)) (eX cn cs L a cd cl) (fun x s'' => cameBackBy (model prog w) (A.deeper (eX cn cs L a cd cl)) (eX cn cs L a cd cl) (LE (model prog w) (A.deeper (eX cn cs L a cd cl)) (eX cn cs L a cd cl) E) x s'') x s' := by
  rintro x s' ⟨e, c, msg, h', tk, rfl, rfl, hd, k⟩
  refine noted_held (s := { s₀ with heap := h', toks := tk }) rfl hd ?_
  refine back_held (s := { s₀ with heap := h', toks := tk }) rfl hd fun h₂ hd₂ => ?_
  exact leave_held (s := { s₀ with heap := h₂, toks := tk }) rfl hd₂ (Ext.refl _) hL fun h₃ fl₃ => k e c h₃ tk fl₃

/-- the road of an exception out of read_trace's try -/
abbrev TryE (M : Model) (A : Around) (env : Env) (hs : List ExceptHandler) (Q : Flow → Shared → Prop) (E : Value → Shared → Prop) : Value → Shared → Prop := fun e s₁ =>
  wpAny M A (noteFrame e env) (fun _ s₂ => wpAny M A (setFlight e none) (fun _ s₃ => wpAny M A (handleBy e env hs) Q E s₃) E s₂) E s₁

/-- what the handler needs -/
structure Hx (A : Around) (outer : List Env) (s₀ : Shared) (mg mb : Str → Option Value) : Prop where
  cx : Cx A outer s₀.heap
  wd : Wd mg mb (hideAll s₀.heap (frs outer))

theorem Hx.fo (x : Hx A outer s₀ mg mb) : ∀ b ∈ frs outer, s₀.heap.get? b ≠ none := fun b hb q => by
  obtain ⟨o, ho, _⟩ := x.cx.ok.mem hb
  rw [ho] at q; cases q

variable {np hpos q1 q2 q3 q4 q5 q6 q7 q8 q9 q10 q11 : Pos} {k1 k2 k3 : Nat} {Q : Flow → Shared → Prop} {k : Int} {t : Tok} {rest : List ExceptHandler}
theorem wrapH {e : Addr} {h' : Heap} (hA : OkA A 1) (X : Hx A outer s₀ mg mb) (hL : s₀.heap.get? L = none) (S : St s₀.heap L [] m u g h) (hm : m "number" = some (.int k t)) (hd : k.natAbs.log2 < 1920) (hz : (lineMsg k msg).length ≤ 3000000) (kk : ErrC E s₀ outer (lineMsg k msg))
    (x : HeldC .none (eX cn cs L a cd cl :: outer) L h h' e msg)
    (hk : cs.kind = .function := by rfl) (hx : (eX cn cs L a cd cl).kindOf "ValueError" = some .globalImplicit := by rfl) (hn : (eX cn cs L a cd cl).kindOf "error" = some .local := by rfl) (hnum : (eX cn cs L a cd cl).kindOf "number" = some .local := by rfl) :
    wpAny (model prog w) (A.deeper (eX cn cs L a cd cl)) (setFlight (.ref e) none) (fun _ s₃ => wpAny (model prog w) (A.deeper (eX cn cs L a cd cl)) (handleBy (.ref e) (eX cn cs L a cd cl) (.ExceptHandler (some (.Name "ValueError" np)) (some "error")
      [.Raise (some (.Call (.Name "ValueError" q1) [.JoinedStr [.Constant (.str "line ") k1 q2, .FormattedValue (.Name "number" q3) (-1) none q4, .Constant (.str ": ") k2 q5, .FormattedValue (.Name "error" q6) (-1) none q7] q8] [] q9)) (some (.Constant .none k3 q10)) q11] hpos :: rest)) Q (ELC E s₀ (eX cn cs L a cd cl) outer L) s₃) (ELC E s₀ (eX cn cs L a cd cl) outer L) { s₀ with heap := h', toks := tk } :=
  wrapV (s := { s₀ with heap := h', toks := tk }) (B := s₀.heap) hA.deeper (Around.frames_deeper X.cx.fr) S.fr.keep hL S X.wd X.fo (fun _ hp => nomatch hp) x hm (by decide) hd hz (fun e' c h'' tk' x' => ⟨e', c, _, h'', tk', rfl, rfl, x', kk⟩) hk hx hn hnum
/-- an exception that a call in the try raised -/
theorem tryFly (hA : OkA A 1) (X : Hx A outer s₀ mg mb) (hL : s₀.heap.get? L = none) (S : St s₀.heap L [] m u g h) (hm : m "number" = some (.int k t)) (hd : k.natAbs.log2 < 1920) (hz : (lineMsg k msg).length ≤ 3000000) (kk : ErrC E s₀ outer (lineMsg k msg))
    (hk : cs.kind = .function := by rfl) (hx : (eX cn cs L a cd cl).kindOf "ValueError" = some .globalImplicit := by rfl) (hn : (eX cn cs L a cd cl).kindOf "error" = some .local := by rfl) (hnum : (eX cn cs L a cd cl).kindOf "number" = some .local := by rfl) :
    Err (TryE (model prog w) (A.deeper (eX cn cs L a cd cl)) (eX cn cs L a cd cl) (.ExceptHandler (some (.Name "ValueError" np)) (some "error")
      [.Raise (some (.Call (.Name "ValueError" q1) [.JoinedStr [.Constant (.str "line ") k1 q2, .FormattedValue (.Name "number" q3) (-1) none q4, .Constant (.str ": ") k2 q5, .FormattedValue (.Name "error" q6) (-1) none q7] q8] [] q9)) (some (.Constant .none k3 q10)) q11] hpos :: rest) Q (ELC E s₀ (eX cn cs L a cd cl) outer L))
      { s₀ with heap := h, toks := tk } (eX cn cs L a cd cl :: outer) msg := fun _ h' tk' fl =>
  noteFly (s := { s₀ with heap := h', toks := tk' }) (Around.frames_deeper X.cx.fr) rfl fl fun _ x => wrapH hA X hL S hm hd hz kk x hk hx hn hnum
/-- raise ValueError(text) in the try itself -/
theorem tryRaise {y : Str} {ck : Nat} {np' cp cp' pos : Pos} {Qf : Flow → Shared → Prop} (hA : OkA A 1) (X : Hx A outer s₀ mg mb) (W : Wd mg mb s₀.heap) (hL : s₀.heap.get? L = none) (S : St s₀.heap L [] m u g h) (hm : m "number" = some (.int k t)) (hd : k.natAbs.log2 < 1920) (hz : (lineMsg k y).length ≤ 3000000) (kk : ErrC E s₀ outer (lineMsg k y))
    (hk : cs.kind = .function := by rfl) (hx : (eX cn cs L a cd cl).kindOf "ValueError" = some .globalImplicit := by rfl) (hn : (eX cn cs L a cd cl).kindOf "error" = some .local := by rfl) (hnum : (eX cn cs L a cd cl).kindOf "number" = some .local := by rfl) :
    wpAny (model prog w) (A.deeper (eX cn cs L a cd cl)) (exec (.Raise (some (.Call (.Name "ValueError" np') [.Constant (.str y) ck cp'] [] cp)) none pos) (eX cn cs L a cd cl)) Qf (TryE (model prog w) (A.deeper (eX cn cs L a cd cl)) (eX cn cs L a cd cl) (.ExceptHandler (some (.Name "ValueError" np)) (some "error")
      [.Raise (some (.Call (.Name "ValueError" q1) [.JoinedStr [.Constant (.str "line ") k1 q2, .FormattedValue (.Name "number" q3) (-1) none q4, .Constant (.str ": ") k2 q5, .FormattedValue (.Name "error" q6) (-1) none q7] q8] [] q9)) (some (.Constant .none k3 q10)) q11] hpos :: rest) Q (ELC E s₀ (eX cn cs L a cd cl) outer L))
      { s₀ with heap := h, toks := tk } := by
  refine Raise_madeB PySem.F.excCall_ValueError PySem.F.excRaise_ValueError (A := A.deeper (eX cn cs L a cd cl)) hA.hd (nmB S W (W.free _ (by decide)) rfl ⟨rfl, ?_⟩ (by decide) hk hx) rfl
  refine wpAny_items_cons (wpAny_Constant_str (wpAny_items_nil ⟨by show 1 ≤ sizeLine; decide, fun h' e hx' => ?_⟩)) rfl
  have P : FrP outer h := X.cx.ok.ext S.fr.keep
  exact noteMade (s := { s₀ with heap := h', toks := _ }) (Around.frames_deeper X.cx.fr) rfl (frp_cons rfl (by show cs.kind ≠ .module; rw [hk]; decide) P S.fr.ns) hx' fun _ x => wrapH hA X hL S hm hd hz kk x hk hx hn hnum
end
end Mine
end
section
open PySem PyProof.Rows PySem.Calls PySem.W
set_option maxRecDepth 100000
namespace Mine
/-- what one line of a trace gives: none is a bad line -/
noncomputable def lineRes : List Str → Option (List Dt)
  | [] => some []
  | w :: r => if Txt.startswith w "#" then some [] else match r with
    | [k] => if decide (w = "get") && nameOk (.str k) then some [.tuple [.str "get", .str k, .int 0]] else none
    | [k, v] => if decide (w = "put") && nameOk (.str k) then (match parseN v (-1000000000000000000) with | .ok n => some [.tuple [.str "put", .str k, .int n]] | .error _ => none) else none
    | _ => none
noncomputable def allRes : List Str → Option (List Dt)
  | [] => some []
  | l :: r => (lineRes (Txt.words l)).bind fun a => (allRes r).map (a ++ ·)
theorem allRes_snoc (ls : List Str) (l : Str) : allRes (ls ++ [l]) = (allRes ls).bind fun a => (lineRes (Txt.words l)).map (a ++ ·) := by
  induction ls with
  | nil => simp only [List.nil_append, allRes]; cases lineRes (Txt.words l) <;> simp
  | cons x r ih =>
    simp only [List.cons_append, allRes, ih]
    cases lineRes (Txt.words x) <;> simp
    cases allRes r <;> simp
    cases lineRes (Txt.words l) <;> simp
theorem lineRes_len {ws : List Str} {a : List Dt} (h : lineRes ws = some a) : a.length ≤ 1 := by
  unfold lineRes at h
  split at h
  · cases h; simp
  · split at h
    · cases h; simp
    · split at h
      · split at h <;> cases h; simp
      · split at h
        · split at h <;> cases h; simp
        · cases h
      · cases h

section
variable {prog : Program} {w : World} {A : Around} {E : Value → Shared → Prop} {s : Shared} {h₀ : Heap} {L : Addr} {gi : Lg} {m : Str → Option Value} {u g : Lg} {ov : Value} {ds : List Dt}
theorem lTrue {Q : Bool → Shared → Prop} (S : St h₀ L gi m u g s.heap) (D : DL g ov (.list ds)) (hz : ds.length ≤ 1000) (h : ∀ tk, Q (!ds.isEmpty) { s with toks := tk }) : wpAny (model prog w) A (truthy ov) Q E s := by
  cases D with
  | @list l n vs _ hl hD =>
    have hlen := hD.length
    refine wpAny_truthy_list ⟨_, (S.led _ hl).1, rfl, _, rfl⟩ (by rw [List.size_toArray]; omega) ?_
    have : (!vs.toArray.isEmpty) = !ds.isEmpty := by cases vs <;> cases ds <;> simp_all
    rw [this]; exact h _
end
end Mine
end
section
open PySem PyProof.Rows PySem.Calls PySem.W
set_option maxRecDepth 100000
namespace Mine
section
variable {prog : Program} {w : World} {A : Around} {E : Value → Shared → Prop} {s : Shared} {mg mb : Str → Option Value} {a : Addr} {x : Str} {t : Tok} {Q : Value → Shared → Prop} {outer : List Env}
theorem testW {h₀ : Heap} {L : Addr} {gi : Lg} {m : Str → Option Value} {u g : Lg} {cn : Str} {cs : Scope} {cd : Value} {cl : List (Str × Addr)} {wv : Value} {w0 y : Str} {r ws : List Str} {k : Int} {kn k1 k2 k3 : Nat} {p1 p2 p3 p4 p5 p6 p7 p8 p9 p10 p11 : Pos} {whole : Sem Value} {Q : Bool → Shared → Prop}
    (S : St h₀ L gi m u g s.heap) (W : Wd mg mb h₀) (D : DL g wv (.list (ws.map .str))) (hm : m "words" = some wv) (hz : (ws.map Dt.str).length ≤ 1000) (hws : ws = w0 :: r) (hkn : k = (kn : Int))
    (h : ∀ tk, Q (decide (w0 = y) && decide (ws.length = kn)) { s with toks := tk })
    (hk : cs.kind = .function := by rfl) (hx : (eX cn cs L a cd cl).kindOf "words" = some .local := by rfl) (hx2 : (eX cn cs L a cd cl).kindOf "len" = some .globalImplicit := by rfl) :
    wpAny (model prog w) A (isTrue (.BoolOp .And [.Compare (.Subscript (.Name "words" p1) (.Constant (.int 0) k1 p2) p3) [.Eq] [.Constant (.str y) k2 p4] p5, .Compare (.Call (.Name "len" p6) [.Name "words" p7] [] p8) [.Eq] [.Constant (.int k) k3 p9] p10] p11) (eX cn cs L a cd cl) whole) Q E s := by
  subst hws hkn
  refine isTrue_and (wpAny_isTrue_Compare1 (Subscript_ (nmL S hm (wpAny_Constant_int (sbL (i := 0) S D rfl hz fun z hz' => ?_)) hk hx)))
  cases hz'
  refine wpAny_Constant_str (eqS _ rfl (wpAny_truthy_bool ?_))
  cases hc : decide (w0 = y) with
  | false => rw [hc] at h; exact h _
  | true =>
    rw [hc] at h
    refine isTrue_and (wpAny_isTrue_Compare1 (callB "len" (nmB S W (W.free _ (by decide)) rfl ⟨rfl, wpAny_items_cons (nmL S hm (wpAny_items_nil (lLen S D hz (wpAny_Constant_int (PyProof.Rows.eq_int (wpAny_truthy_bool ?_))))) hk hx)⟩ (by decide) hk hx2)))
    dsimp only
    have e : ((((w0 :: r).map Dt.str).length : Int) == (kn : Int)) = decide ((w0 :: r).length = kn) := by rw [List.length_map, Bool.eq_iff_iff]; simp; omega
    rw [e]
    cases hc2 : decide ((w0 :: r).length = kn) with
    | false => rw [hc2] at h; exact h _
    | true => rw [hc2] at h; exact isTrue_and_nil (h _)

noncomputable def wordRes (w : Str) (r : List Str) : Option (List Dt) := match r with
    | [k] => if decide (w = "get") && nameOk (.str k) then some [.tuple [.str "get", .str k, .int 0]] else none
    | [k, v] => if decide (w = "put") && nameOk (.str k) then (match parseN v (-1000000000000000000) with | .ok n => some [.tuple [.str "put", .str k, .int n]] | .error _ => none) else none
    | _ => none
theorem lineRes_cons {w : Str} {r : List Str} (h : Txt.startswith w (Str.ofString "#") = false) : lineRes (w :: r) = wordRes w r := by
  simp only [lineRes]; rw [if_neg (by rw [h]; decide)]; rfl
def expMsg : Str := Str.ofString "expected 'get KEY' or 'put KEY VALUE'"
/-- what a bad line's fault may say -/
def badTail (ws : List Str) (tail : Str) : Prop := match ws with
  | [] => True
  | [w, _] => w ≠ "get" → tail = expMsg
  | [w, k, v] => if w = "put" then nameOk (.str k) = true → parseN v (-1000000000000000000) = .error tail else tail = expMsg
  | _ => tail = expMsg
theorem badPut {k v tail : Str} (h : nameOk (.str k) = true → parseN v (-1000000000000000000) = .error tail) : badTail [Str.ofString "put", k, v] tail := by
  unfold badTail
  simp only
  rw [if_pos trivial]
  exact h
theorem itoa_small {k : Nat} (h : k < 501) : (itoa ((k : Int) + 1)).length ≤ 10 := by
  have key : ∀ i : Fin 501, (itoa ((i.val : Int) + 1)).length ≤ 10 := by decide +kernel
  exact key ⟨k, h⟩
theorem line_len {k : Nat} (h : k < 501) {msg : Str} (hz : msg.length ≤ 2000000) : (lineMsg ((k : Int) + 1) msg).length ≤ 3000000 := by
  have := itoa_small h
  simp only [lineMsg, len_app]
  show 0 + 5 + (itoa ((k : Int) + 1)).length + 2 + msg.length ≤ _
  omega
theorem ok_err {α β : Type} {a : β} {b : α} (h : (Except.ok a : Except α β) = .error b) : False := by cases h
theorem err_inj {α β : Type} {a b : α} (h : (Except.error a : Except α β) = .error b) : a = b := by cases h; rfl
theorem chk_err {n lo : Int} {msg : Str} {b : Nat} (hr : (rangeMsg lo).length ≤ b) (h : chk (.int n) lo = .error msg) : msg.length ≤ b := by
  have e : chk (.int n) lo = if lo ≤ n ∧ n ≤ MAXN then .ok n else .error (rangeMsg lo) := rfl
  rw [e] at h
  by_cases hc : lo ≤ n ∧ n ≤ MAXN
  · rw [if_pos hc] at h; exact (ok_err h).elim
  · rw [if_neg hc] at h; exact (err_inj h) ▸ hr
theorem parse_err_len' {y : Str} (hy : NumT y) {msg : Str} {lo : Int} (hr : (rangeMsg lo).length ≤ 2000000) (h : parseN y lo = .error msg) : msg.length ≤ 2000000 := by
  unfold parseN at h
  split at h
  · rw [← Except.error.inj h]
    have := ascT_len hy.sane
    unfold junkMsg
    simp only [len_app]
    show 0 + 20 + _ ≤ _
    omega
  · split at h
    · rw [← Except.error.inj h]; exact hr
    · generalize (if Txt.startswith y "-" = true then -(PySem.intText? (numT y)).getD 0 else (PySem.intText? (numT y)).getD 0) = n at h
      exact chk_err hr h
theorem parse_err_len {y : Str} (hy : NumT y) {msg : Str} (h : parseN y (-1000000000000000000) = .error msg) : msg.length ≤ 2000000 := parse_err_len' hy (by decide +kernel) h
set_option maxHeartbeats 2000000 in
theorem read_trace_spec (hA : OkA A 5) (X : Hx A outer s mg mb) (W : Wd mg mb s.heap) (ha : mg (fdAt 9).name = some (.ref a)) (hxl : x.length + 2 ≤ sizeLine) (hll : (Txt.split x "\n").length ≤ 500)
    (hw : ∀ l ∈ Txt.split x "\n", l.length + 2 ≤ sizeLine ∧ (Txt.words l).length ≤ 100 ∧ ∀ y ∈ Txt.words l, Sane y ∧ NumT y)
    (hk : ∀ ops, allRes (Txt.split x "\n") = some ops → ∀ v g' h' tk, Ext s.heap h' → (∀ p ∈ g', h'.get? p.1 = some p.2 ∧ s.heap.get? p.1 = none) → DL g' v (.list ops) → Q v { s with heap := h', toks := tk })
    (he : ∀ (i : Nat) l ops, (Txt.split x "\n")[i]? = some l → allRes ((Txt.split x "\n").take i) = some ops → lineRes (Txt.words l) = none → ∀ tail : Str, tail.length ≤ 2000000 → badTail (Txt.words l) tail → ErrC E s outer (lineMsg ((i : Int) + 1) tail)) :
    wpAny (model prog w) A (call (.ref a) [.str x t]) Q E s := by
  obtain ⟨of, pm, cd, dc, fn⟩ := fn_of W (i := 9) (by decide) ha
  obtain ⟨a3, o3, pm3, cd3, dc3, e3, f3⟩ := W.fn 3 (by decide)
  obtain ⟨a6, o6, pm6, cd6, dc6, e6, f6⟩ := W.fn 6 (by decide)
  refine enterX (i := 9) (n := 4) (hb := s.heap) (u := []) (g := []) (binds := [("text", .str x t)]) hA fn W.nolimit (Ext.refl _) (Nat.le_refl _)
    (fun _ h => nomatch h) (fun _ h => nomatch h) (fun _ h => nomatch h) (by simp) rfl ?_
  intro L h₁ tk hL hx₁ S hA'
  have hA1 := hA'.less (k := 1) (by omega)
  generalize hlines : Txt.split x "\n" = lines at hll hw hk he
  conv in (fdAt 9).body => whnf
  refine wpAny_execs_cons (wpAny_Assign_Name (List_ (wpAny_items_nil (mkLstU S (by simp) fun h₂ ol S₂ => stL S₂ fun h₃ S₃ => ?_))))
  dsimp only
  refine wpAny_execs_cons (wpAny_For (callT "enumerate" (nmB S₃ W (W.free _ (by decide)) rfl ⟨rfl, wpAny_items_cons (callM "str" "str.split" PySem.F.plainAttrs_str PySem.F.slot_str_split PySem.F.type_str_split (nmL S₃ rfl ⟨typeIs_str _ _ _, (fun a e => nomatch e), wpAny_items_cons (wpAny_Constant_str (wpAny_items_nil (spl1 S₃ hxl (by decide) fun h₄ D o tk₄ S₄ D₄ => ?_)))⟩))⟩)))
  dsimp only
  refine wpAny_items_cons (wpAny_Constant_int (wpAny_items_nil (enumL S₄ D₄ fun h₅ e it eo io S₅ hen hit => ?_)))
  dsimp only
  replace hlines : Txt.split x (Str.ofString "\n") = lines := hlines
  rw [hlines] at D₄
  refine forE (ELC E s _ outer L) (loopC hL)
    (fun i m u g' => ∃ vs n ops, u = [(ol, lstO vs n)] ∧ m "ops" = some (.ref ol) ∧ allRes (lines.take i) = some ops ∧ ops.length ≤ i ∧ DLs g' vs ops)
    hA'.hd S₅ D₄ hen hit ⟨[], 0, [], rfl, rfl, rfl, Nat.le_refl _, .nil⟩ ?_ ?_
  · rintro i d v m u g' h tk₁ eo io hd' hv hsub ⟨T, o', g₁, rfl, vs, n, ops, rfl, m1, hops, hopl, Dv⟩ S₆
    have hi : i < lines.length := by have := (List.getElem?_eq_some_iff.mp hd').1; simpa using this
    obtain ⟨l, hl⟩ : ∃ l, lines[i]? = some l := ⟨_, List.getElem?_eq_getElem hi⟩
    have hop : d = .str l := by rw [List.getElem?_map, hl] at hd'; exact (Option.some.inj hd').symm
    subst hop
    have htk : lines.take (i + 1) = lines.take i ++ [l] := by rw [List.take_add_one, hl]; rfl
    obtain ⟨hwl, hwn, hws⟩ := hw l (List.mem_of_getElem? hl)
    have bad : lineRes (Txt.words l) = none → ∀ tail : Str, tail.length ≤ 2000000 → badTail (Txt.words l) tail → ErrC E s outer (lineMsg ((i : Int) + 1) tail) := fun hb => he i l ops hl hops hb
    have hlog : ((i : Int) + 1).natAbs.log2 < 1920 := by
      have e1 : ((i : Int) + 1).natAbs = i + 1 := by omega
      rw [e1]
      exact (Nat.log2_lt (by omega)).mpr (Nat.lt_of_lt_of_le (by omega : i + 1 < 2 ^ 9) (Nat.pow_le_pow_right (by decide) (by decide)))
    refine unT hA'.hd S₆ hv rfl fun vs₇ h₇ D₇ S₇ => ?_
    cases D₇ with | cons d1 D₇ => cases D₇ with | cons d2 D₇ => cases D₇ with | nil =>
    cases d1
    cases d2
    rename_i tn tl
    refine assignInOrder_cons (wpAny_assign_Name (stL S₇ fun h₈ S₈ => assignInOrder_cons (wpAny_assign_Name (stL S₈ fun h₉ S₉ => assignInOrder_nil ?_))))
    dsimp only
    refine wpAny_execs_cons (wpAny_Assign_Name (callM0 "str" "str.split" PySem.F.plainAttrs_str PySem.F.slot_str_split PySem.F.type_str_split (nmL S₉ rfl ⟨typeIs_str _ _ _, (fun a e => nomatch e), spl0 S₉ hwl fun h₁₀ D₁ o₁ tk₁₀ S₁₀ D₁₀ => stL S₁₀ fun h₁₁ S₁₁ => ?_⟩)))
    dsimp only
    generalize hWs : Txt.words l = ws at *
    have key : wpAny (model prog w) (A.deeper (eX (fdAt 9).name (fdAt 9).scope L a cd [])) (execs [] (eX (fdAt 9).name (fdAt 9).scope L a cd [])) (fun _ _ => True) E s := wpAny_execs_nil trivial
    cases ws with
    | nil =>
      refine wpAny_execs_cons (wpAny_If (isTrue_or (isTrue_not (isTrue_plain (nmL S₁₁ rfl (lTrue S₁₁ D₁₀ (by simp) fun tk₁₂ => ?_))))))
      dsimp only [List.map_nil, List.isEmpty_nil, Bool.not_true, Bool.not_false]
      refine wpAny_execs_cons (wpAny_Continue ?_)
      exact ⟨_, _, _, _, _, rfl, ⟨fun p hp => .tail _ (hsub p hp), vs, n, ops, rfl, upd_ne (by decide) (upd_ne (by decide) (upd_ne (by decide) m1)), by rw [htk, allRes_snoc, hops, hWs]; simp [lineRes], by omega, Dv.mono fun p hp => .tail _ (.tail _ hp)⟩, S₁₁⟩
    | cons w0 r => 
      refine wpAny_execs_cons (wpAny_If (isTrue_or (isTrue_not (isTrue_plain (nmL S₁₁ rfl (lTrue S₁₁ D₁₀ (by rw [List.length_map]; exact Nat.le_trans hwn (by decide)) fun tk₁₂ => ?_))))))
      dsimp only [List.map_cons, List.isEmpty_cons, Bool.not_true, Bool.not_false]
      refine isTrue_or (isTrue_plain (callM "str" "str.startswith" PySem.F.plainAttrs_str PySem.F.slot_str_startswith PySem.F.type_str_startswith (Subscript_ (nmL S₁₁ rfl (wpAny_Constant_int (sbL (i := 0) S₁₁ D₁₀ rfl (by rw [List.length_map]; exact Nat.le_trans hwn (by decide)) fun y hy => ?_))))))
      cases hy
      refine ⟨typeIs_str _ _ _, (fun a e => nomatch e), wpAny_items_cons (wpAny_Constant_str (wpAny_items_nil (SC.startswith (wpAny_truthy_bool ?_))))⟩
      dsimp only
      cases hst : Txt.startswith w0 (Str.ofString "#") with
      | true =>
        refine wpAny_execs_cons (wpAny_Continue ?_)
        exact ⟨_, _, _, _, _, rfl, ⟨fun p hp => .tail _ (hsub p hp), vs, n, ops, rfl, upd_ne (by decide) (upd_ne (by decide) (upd_ne (by decide) m1)), by rw [htk, allRes_snoc, hops, hWs]; simp only [lineRes]; rw [if_pos (show Txt.startswith w0 "#" = true from hst)]; simp, by omega, Dv.mono fun p hp => .tail _ (.tail _ hp)⟩, S₁₁⟩
      | false =>
      try dsimp only [if_false, Bool.false_eq_true]
      refine isTrue_or_nil (wpAny_execs_nil ?_)
      refine wpAny_execs_cons (wpAny_Try_except ?_)
      refine wpAny_execs_cons (wpAny_If (testW (ws := w0 :: r) (kn := 2) S₁₁ W D₁₀ rfl (by rw [List.length_map]; exact Nat.le_trans hwn (by decide)) rfl rfl fun tk₁₃ => ?_))
      have hi5 : i < 501 := by omega
      have hA0 := hA.less (k := 1) (by omega)
      have hnum : (upd (upd (upd m "number" (.int ((i : Int) + 1) tn)) "line" (.str l tl)) "words" (.ref D₁)) "number" = some (.int ((i : Int) + 1) tn) := upd_ne (by decide) (upd_ne (by decide) upd_eq)
      have hmo : (upd (upd (upd m "number" (.int ((i : Int) + 1) tn)) "line" (.str l tl)) "words" (.ref D₁)) "ops" = some (.ref ol) := upd_ne (by decide) (upd_ne (by decide) (upd_ne (by decide) m1))
      have hmw : (upd (upd (upd m "number" (.int ((i : Int) + 1) tn)) "line" (.str l tl)) "words" (.ref D₁)) "words" = some (.ref D₁) := upd_eq
      have hz0 : ((w0 :: r).map Dt.str).length ≤ 1000 := by rw [List.length_map]; exact Nat.le_trans hwn (by decide)
      have hvz : vs.length ≤ 1000 := by rw [Dv.length]; omega
      have hls : lineRes (w0 :: r) = wordRes w0 r := lineRes_cons hst
      generalize hM : (upd (upd (upd m "number" (.int ((i : Int) + 1) tn)) "line" (.str l tl)) "words" (.ref D₁)) = M at S₁₁ hnum hmo hmw
      cases hc1 : (decide (w0 = Str.ofString "get") && decide ((w0 :: r).length = 2)) with
      | true =>
        simp only [Bool.and_eq_true, decide_eq_true_eq, List.length_cons] at hc1
        obtain ⟨rfl, hr1⟩ := hc1
        obtain ⟨k, rfl⟩ : ∃ k, r = [k] := by
          cases r with
          | nil => simp at hr1
          | cons k r => cases r with
            | nil => exact ⟨k, rfl⟩
            | cons _ _ => simp at hr1
        refine wpAny_execs_cons (wpAny_Expr (callM "list" "list.append" PySem.F.plainAttrs_list PySem.F.slot_list_append PySem.F.type_list_append (nmL S₁₁ hmo ⟨⟨_, (S₁₁.un _ (.tail _ (.tail _ (.head _)))).1, rfl⟩, fun b e => by cases e; exact ⟨_, (S₁₁.un _ (.tail _ (.tail _ (.head _)))).1, rfl⟩,
          wpAny_items_cons (Tuple_ (wpAny_items_cons (wpAny_Constant_str (wpAny_items_cons (callU (o := o3) (fd := docF 3 pm3 cd3 dc3) (nmG S₁₁ W e3 ⟨rfl, wpAny_items_cons (Subscript_ (nmL S₁₁ hmw (wpAny_Constant_int (sbL (i := 1) S₁₁ D₁₀ rfl hz0 fun y hy => ?_))))⟩))))))⟩)))
        cases hy
        refine wpAny_items_nil ⟨⟨S₁₁.fr.keep _ _ f3.at_, f3.d⟩, ?_⟩
        dsimp only
        refine check_name_spec (s := { s with heap := h₁₁, toks := _ }) hA1 ((X.cx.ext S₁₁.fr.keep).push S₁₁) (W.keeps S₁₁.fr.keep) e3 (.str _ _) (hws k (by simp)).1 (fun hok h₁₂ tk₁₄ hx₁₂ => ?_) fun hbad msg hmsg => tryFly hA0 X hL S₁₁ hnum hlog (line_len hi5 hmsg) (bad (by rw [hls]; simp [wordRes, hbad]) msg hmsg (fun q => absurd rfl q))
        have S₁₂ := S₁₁.ext hx₁₂
        dsimp only
        refine wpAny_items_cons (wpAny_Constant_int (wpAny_items_nil (mkTup S₁₂ (by simp) fun h₁₃ ta S₁₃ => wpAny_items_nil (lApp (U := fun n' => [(e, eo), (it, io), (ol, lstO (vs ++ [.ref ta]) n')]) S₁₃ (fun n' => .tail (.tail .head)) hvz fun h₁₄ n₁₄ S₁₄ => ?_))))
        refine wpAny_execs_nil (wpAny_execs_nil (wpAny_execs_nil (wpAny_execs_nil ?_)))
        dsimp only
        exact ⟨_, _, _, _, _, rfl, ⟨fun p hp => .tail _ (.tail _ (hsub p hp)), vs ++ [.ref ta], n₁₄, ops ++ [.tuple [.str (Str.ofString "get"), .str k, .int 0]], rfl, hmo,
          by rw [htk, allRes_snoc, hops, hWs, hls]; simp [wordRes, hok], by simp; omega, (Dv.mono fun p hp => .tail _ (.tail _ (.tail _ hp))).append (.cons (.tuple (.head _) rfl rfl (.cons (.str _ _) (.cons (.str _ _) (.cons (.int _ _) .nil)))) .nil)⟩, S₁₄⟩
      | false =>
        refine wpAny_execs_cons (wpAny_If (testW (ws := w0 :: r) (kn := 3) S₁₁ W D₁₀ hmw hz0 rfl rfl fun tk₁₄ => ?_))
        cases hc2 : (decide (w0 = Str.ofString "put") && decide ((w0 :: r).length = 3)) with
        | false =>
          refine wpAny_execs_cons (tryRaise hA0 X W hL S₁₁ hnum hlog (line_len hi5 (by decide)) (bad (by
            rw [hls]
            unfold wordRes
            split
            · rw [if_neg]; simp at hc1 ⊢; intro h; exact absurd h hc1
            · rw [if_neg]; simp at hc2 ⊢; intro h; exact absurd h hc2
            · rfl) _ (by decide) (by
              unfold badTail
              split
              · rename_i q; cases q
              · exact fun _ => rfl
              · rename_i q; cases q; rw [if_neg (by simpa using hc2)]; rfl
              · rfl)))
        | true =>
          simp only [Bool.and_eq_true, decide_eq_true_eq, List.length_cons] at hc2
          obtain ⟨rfl, hr1⟩ := hc2
          obtain ⟨k, kv, rfl⟩ : ∃ k kv, r = [k, kv] := by
            cases r with
            | nil => simp at hr1
            | cons k r => cases r with
              | nil => simp at hr1
              | cons kv r => cases r with
                | nil => exact ⟨k, kv, rfl⟩
                | cons _ _ => simp at hr1
          refine wpAny_execs_cons (wpAny_Expr (callM "list" "list.append" PySem.F.plainAttrs_list PySem.F.slot_list_append PySem.F.type_list_append (nmL S₁₁ hmo ⟨⟨_, (S₁₁.un _ (.tail _ (.tail _ (.head _)))).1, rfl⟩, fun b e => by cases e; exact ⟨_, (S₁₁.un _ (.tail _ (.tail _ (.head _)))).1, rfl⟩,
            wpAny_items_cons (Tuple_ (wpAny_items_cons (wpAny_Constant_str (wpAny_items_cons (callU (o := o3) (fd := docF 3 pm3 cd3 dc3) (nmG S₁₁ W e3 ⟨rfl, wpAny_items_cons (Subscript_ (nmL S₁₁ hmw (wpAny_Constant_int (sbL (i := 1) S₁₁ D₁₀ rfl hz0 fun y hy => ?_))))⟩))))))⟩)))
          cases hy
          refine wpAny_items_nil ⟨⟨S₁₁.fr.keep _ _ f3.at_, f3.d⟩, ?_⟩
          dsimp only
          refine check_name_spec (s := { s with heap := h₁₁, toks := _ }) hA1 ((X.cx.ext S₁₁.fr.keep).push S₁₁) (W.keeps S₁₁.fr.keep) e3 (.str _ _) (hws k (by simp)).1 (fun hok h₁₂ tk₁₄ hx₁₂ => ?_) fun hbad msg hmsg => tryFly hA0 X hL S₁₁ hnum hlog (line_len hi5 hmsg) (bad (by rw [hls]; simp [wordRes, hbad]) msg hmsg (badPut fun q => by rw [hbad] at q; cases q))
          have S₁₂ := S₁₁.ext hx₁₂
          dsimp only
          refine wpAny_items_cons (callU (o := o6) (fd := docF 6 pm6 cd6 dc6) (nmG S₁₂ W e6 ⟨rfl, wpAny_items_cons (Subscript_ (nmL S₁₂ hmw (wpAny_Constant_int (sbL (i := 2) S₁₂ D₁₀ rfl hz0 fun y hy => ?_))))⟩))
          cases hy
          refine wpAny_items_nil ⟨⟨S₁₂.fr.keep _ _ f6.at_, f6.d⟩, ?_⟩
          dsimp only
          have hNT := (hws kv (by simp)).2
          refine parse_signed_spec (s := { s with heap := h₁₂, toks := _ }) (hA'.less (by omega)) ((X.cx.ext S₁₂.fr.keep).push S₁₂) (W.keeps S₁₂.fr.keep) e6 hNT (fun nn hn tt h₁₅ tk₁₅ hx₁₅ => ?_) fun msg hmsg => tryFly hA0 X hL S₁₂ hnum hlog (line_len hi5 (parse_err_len hNT hmsg)) (bad (by rw [hls]; simp [wordRes, hok, hmsg]) msg (parse_err_len hNT hmsg) (badPut fun _ => hmsg))
          have S₁₅ := S₁₂.ext hx₁₅
          dsimp only
          refine wpAny_items_nil (mkTup S₁₅ (by simp) fun h₁₃ ta S₁₃ => wpAny_items_nil (lApp (U := fun n' => [(e, eo), (it, io), (ol, lstO (vs ++ [.ref ta]) n')]) S₁₃ (fun n' => .tail (.tail .head)) hvz fun h₁₄ n₁₄ S₁₄ => ?_))
          refine wpAny_execs_nil (wpAny_execs_nil (wpAny_execs_nil (wpAny_execs_nil (wpAny_execs_nil ?_))))
          dsimp only
          exact ⟨_, _, _, _, _, rfl, ⟨fun p hp => .tail _ (.tail _ (hsub p hp)), vs ++ [.ref ta], n₁₄, ops ++ [.tuple [.str (Str.ofString "put"), .str k, .int nn]], rfl, hmo,
            by rw [htk, allRes_snoc, hops, hWs, hls]; simp [wordRes, hok, hn], by simp; omega, (Dv.mono fun p hp => .tail _ (.tail _ (.tail _ hp))).append (.cons (.tuple (.head _) rfl rfl (.cons (.str _ _) (.cons (.str _ _) (.cons (.int _ _) .nil)))) .nil)⟩, S₁₄⟩
  · rintro m u g' h tk₁ hsub ⟨vs, n, ops, rfl, m1, hops, hopl, Dv⟩ S₆
    rw [List.length_map, List.take_length] at hops
    refine wpAny_execs_cons (wpAny_Return_some (nmL S₆ m1 ?_))
    exact hk ops hops _ ((ol, lstO vs n) :: g') _ _ S₆.fr.keep (fun p hp => by
      rcases List.mem_cons.mp hp with rfl | hp
      · exact ⟨(S₆.un _ (.head _)).1, (S₆.un _ (.head _)).2.2⟩
      · exact ⟨(S₆.led p hp).1, (S₆.prov p hp).elim (fun q => nomatch q) id⟩) (.list (.head _) (Dv.mono fun p hp => .tail _ hp))
end
end Mine
end
section
open PySem PyProof.Rows PySem.Calls PySem.W
set_option maxRecDepth 100000
namespace Mine
def namesT : List (Dt × Nat × Bool) := [(.str "a", 1, true), (.str "b", 1, true), (.str "#é", 1, true), (.str "é", 200, true), (.str "get", 1, true), (.str "é", 201, false), (.str "x\x07y", 1, false), (.str "a b", 1, true), (.str "", 1, false), (.str " a", 1, false), (.str "b ", 1, false), (.int 5, 1, false)]
def rowD (p : Dt × Nat × Bool) : Dt := .tuple [p.1, .int p.2.1, .bool p.2.2]
theorem tab_names : (("_law_names" : Str), Dt.tuple (namesT.map rowD)) ∈ tabL := by
  have : tabL[1]? = some (("_law_names" : Str), Dt.tuple (namesT.map rowD)) := by with_unfolding_all rfl
  exact List.mem_of_getElem? this
def mulD : Dt → Nat → Dt
  | .str x, n => .str (if n = 1 then x else ⟨(List.replicate n x.cps).foldl (· ++ ·) #[]⟩)
  | .int i, n => .int (i * n)
  | d, _ => d
def nameD (i : Nat) : Dt × Bool := match namesT[i]? with
  | some p => (mulD p.1 p.2.1, p.2.2)
  | none => (.none, false)

section
variable {prog : Program} {w : World} {A : Around} {E : Value → Shared → Prop} {s : Shared} {mg mb : Str → Option Value} {a : Addr} {t : Tok} {Q : Value → Shared → Prop}
theorem mulS {g : Lg} {v : Value} {d : Dt} {n : Nat} {u : Tok} (D : DL g v d) (hd : (∃ x : Str, d = .str x ∧ x.length ≤ 100 ∧ (n ≠ 1 → x.length ≠ 0 ∧ Str.length ⟨(List.replicate n x.cps).foldl (· ++ ·) #[]⟩ ≤ sizeLine)) ∨ ∃ i : Int, d = .int i ∧ IntMulOk i n) (hn : 1 ≤ n ∧ n ≤ 300) (h : ∀ v' tk, DL [] v' (mulD d n) → Q v' { s with toks := tk }) :
    wpAny (model prog w) A (binaryOp .Mult v (.int n u)) Q E s := by
  rcases hd with ⟨x, rfl, hx, hx2⟩ | ⟨i, rfl, hi⟩
  · cases D
    refine PySem.P.mul_str (by simp; omega) (fun _ _ => ?_) (fun _ _ => ?_) ?_
    · have : (100 : Int) ≤ (2 ^ 63 - 1) / n := Int.le_ediv_of_mul_le (by omega) (by omega)
      omega
    · have h1 : x.length * n ≤ 100 * 300 := Nat.mul_le_mul hx (by omega)
      have h2 : (100 * 300 : Nat) ≤ sizeLine := by decide
      unfold PySem.Builtin.Str.tooLong
      simp
      omega
    · rw [if_neg (by omega)]
      by_cases h1 : n = 1
      · subst h1
        rw [if_pos (by simp)]
        exact h _ s.toks (by simpa [mulD] using DL.str x _)
      · obtain ⟨h2, h3⟩ := hx2 h1
        rw [if_neg (by simp; omega)]
        refine ⟨by simpa using h3, h _ _ ?_⟩
        simp only [mulD, if_neg h1]
        exact DL.str _ _
  · cases D
    exact PySem.P.mul_int (h _ _ (DL.int _ _)) hi

def rowOk (p : Dt × Nat × Bool) : Prop := ((∃ x : Str, p.1 = .str x ∧ x.length ≤ 100 ∧ (p.2.1 ≠ 1 → x.length ≠ 0 ∧ Str.length ⟨(List.replicate p.2.1 x.cps).foldl (· ++ ·) #[]⟩ ≤ sizeLine)) ∨ ∃ i : Int, p.1 = .int i ∧ IntMulOk i p.2.1) ∧ 1 ≤ p.2.1 ∧ p.2.1 ≤ 300
theorem rows_ok : ∀ p ∈ namesT, rowOk p := by
  intro p hp
  simp only [namesT, List.mem_cons, List.not_mem_nil, or_false] at hp
  rcases hp with rfl | rfl | rfl | rfl | rfl | rfl | rfl | rfl | rfl | rfl | rfl | rfl <;> first
    | exact ⟨.inl ⟨_, rfl, by decide, fun h => absurd rfl h⟩, by decide, by decide⟩
    | exact ⟨.inl ⟨_, rfl, by decide, fun _ => ⟨by decide, by decide +kernel⟩⟩, by decide, by decide⟩
    | exact ⟨.inr ⟨_, rfl, IntMulOk.of_left (by decide)⟩, by decide, by decide⟩
theorem law_name_spec {i : Nat} (hA : OkA A 1) (W : Wd mg mb s.heap) (ha : mg (fdAt 19).name = some (.ref a)) (hi : i < 12)
    (hk : ∀ x o h' tk, Ext s.heap h' → h'.get? x = some o → s.heap.get? x = none → DL [(x, o)] (.ref x) (.tuple [(nameD i).1, .bool (nameD i).2]) → Q (.ref x) { s with heap := h', toks := tk }) :
    wpAny (model prog w) A (call (.ref a) [.int i t]) Q E s := by
  obtain ⟨of, pm, cd, dc, fn⟩ := fn_of W (i := 19) (by decide) ha
  obtain ⟨gT, hgT, hT⟩ := W.tabs
  obtain ⟨vT, eT, DT⟩ := hT _ tab_names
  obtain ⟨p, hp⟩ : ∃ p, namesT[i]? = some p := ⟨_, List.getElem?_eq_getElem (by simpa [namesT] using hi)⟩
  have hN : nameD i = (mulD p.1 p.2.1, p.2.2) := by simp only [nameD, hp]
  obtain ⟨hr1, hr2⟩ := rows_ok p (List.mem_of_getElem? hp)
  refine enterP (i := 19) (n := 0) (hb := s.heap) (u := []) (g := gT) (binds := [("pick", .int i t)]) hA fn W.nolimit (Ext.refl _) (Nat.le_refl _)
    (fun _ h => nomatch h) hgT (fun _ _ _ h => nomatch h) (by simp) rfl ?_
  intro L h₁ tk S hA'
  conv in (fdAt 19).body => whnf
  refine wpAny_execs_cons (Assign_Tuple (Subscript_ (nmG S W eT (nmL S rfl (sbT (i := i) (d := rowD p) S DT (by rw [List.getElem?_map, hp]; rfl) (by decide) fun v hv => unT hA'.hd S hv rfl fun vs₂ h₂ D₂ S₂ => ?_)))))
  cases D₂ with | cons d1 D₂ => cases D₂ with | cons d2 D₂ => cases D₂ with | cons d3 D₂ => cases D₂ with | nil =>
  cases d2
  cases d3
  refine assignInOrder_cons (wpAny_assign_Name (stL S₂ fun h₃ S₃ => assignInOrder_cons (wpAny_assign_Name (stL S₃ fun h₄ S₄ => assignInOrder_cons (wpAny_assign_Name (stL S₄ fun h₅ S₅ => assignInOrder_nil ?_))))))
  dsimp only
  refine wpAny_execs_cons (wpAny_Return_some (Tuple_ (wpAny_items_cons (wpAny_BinOp (nmL S₅ rfl (nmL S₅ rfl (mulS d1 hr1 hr2 fun v' tk' D' => ?_)))))))
  dsimp only
  refine wpAny_items_cons (nmL S₅ rfl (wpAny_items_nil (wpAny_newTuple ?_ (by show 2 ≤ sizeLine; decide))))
  have S₆ := S₅.pushG (tupO [v', .bool p.2.2] 0)
  refine hk _ _ _ _ S₆.fr.keep (S₆.led _ (.head _)).1 (S₅.fresh (size_none _)) ?_
  · rw [hN]; exact .tuple (.head _) rfl rfl (.cons (D'.mono fun _ h => by cases h) (.cons (.bool _) .nil))
end
end Mine
end
section
open PySem PyProof.Rows PySem.Calls PySem.W
set_option maxRecDepth 100000
namespace Mine
def withinD (d : Dt) (lo : Int) : Bool := match d with
  | .int n => !decide (n < lo) && !decide (n > 1000000000000000000)
  | _ => false
section
variable {prog : Program} {w : World} {A : Around} {E : Value → Shared → Prop} {s : Shared} {mg mb : Str → Option Value} {a : Addr} {t : Tok} {Q : Value → Shared → Prop} {v : Value} {d : Dt} {lo : Int} {g : Lg}
set_option maxHeartbeats 1000000 in
theorem law_within_spec (hA : OkA A 1) (W : Wd mg mb s.heap) (ha : mg (fdAt 21).name = some (.ref a)) (D : DL [] v d) (hd : Scalar d)
    (hk : ∀ h' tk, Ext s.heap h' → Q (.bool (withinD d lo)) { s with heap := h', toks := tk }) : wpAny (model prog w) A (call (.ref a) [v, .int lo t]) Q E s := by
  obtain ⟨of, pm, cd, dc, fn⟩ := fn_of W (i := 21) (by decide) ha
  obtain ⟨tm, em⟩ := W.const ("_law_top", 1000000000000000000) (by decide)
  dsimp only at em
  refine enterP (i := 21) (n := 0) (hb := s.heap) (u := []) (g := []) (binds := [("value", v), ("lowest", .int lo t)]) hA fn W.nolimit (Ext.refl _) (Nat.le_refl _)
    (fun _ h => nomatch h) (fun _ h => nomatch h) (fun _ h => nomatch h) (by simp) rfl ?_
  intro L h₁ tk S hA'
  conv in (fdAt 21).body => whnf
  cases D with
  | int n tn =>
    refine wpAny_execs_cons (wpAny_If (isTrue_not (wpAny_isTrue_Compare1 (callT "type" (nmB S W (W.free _ (by decide)) rfl ⟨rfl, wpAny_items_cons (nmL S rfl (wpAny_items_nil (call_type_of (Tx := "int") rfl rfl (nmB S W (W.free _ (by decide)) rfl (wpAny_is_self rfl (wpAny_truthy_bool ?_))))))⟩)))))
    refine wpAny_execs_nil ?_
    refine wpAny_execs_cons (wpAny_If (wpAny_isTrue_Compare1 (nmL S rfl (nmL S rfl (PyProof.Rows.lt_int (wpAny_truthy_bool ?_))))))
    cases h1 : decide (n < lo) with
    | true => exact wpAny_execs_cons (wpAny_Return_some (wpAny_Constant_bool (by have := hk h₁ tk S.fr.keep; simp only [withinD, h1] at this; exact this)))
    | false =>
      refine wpAny_execs_nil ?_
      refine wpAny_execs_cons (wpAny_If (wpAny_isTrue_Compare1 (nmL S rfl (nmG S W em (PyProof.Rows.gt_int (wpAny_truthy_bool ?_))))))
      cases h2 : decide (n > 1000000000000000000) with
      | true => exact wpAny_execs_cons (wpAny_Return_some (wpAny_Constant_bool (by have := hk h₁ tk S.fr.keep; simp only [withinD, h1, h2] at this; exact this)))
      | false => exact wpAny_execs_nil (wpAny_execs_cons (wpAny_Return_some (wpAny_Constant_bool (by have := hk h₁ tk S.fr.keep; simp only [withinD, h1, h2] at this; exact this))))
  | bool b => 
    refine wpAny_execs_cons (wpAny_If (isTrue_not (wpAny_isTrue_Compare1 (callT "type" (nmB S W (W.free _ (by decide)) rfl ⟨rfl, wpAny_items_cons (nmL S rfl (wpAny_items_nil (call_type_of (Tx := "bool") rfl rfl (nmB S W (W.free _ (by decide)) rfl (wpAny_is_other rfl (fun h => absurd (Value.type.inj h) (by decide)) (wpAny_truthy_bool ?_))))))⟩)))))
    exact wpAny_execs_cons (wpAny_Return_some (wpAny_Constant_bool (hk h₁ _ S.fr.keep)))
  | str x tx => 
    refine wpAny_execs_cons (wpAny_If (isTrue_not (wpAny_isTrue_Compare1 (callT "type" (nmB S W (W.free _ (by decide)) rfl ⟨rfl, wpAny_items_cons (nmL S rfl (wpAny_items_nil (call_type_of (Tx := "str") rfl rfl (nmB S W (W.free _ (by decide)) rfl (wpAny_is_other rfl (fun h => absurd (Value.type.inj h) (by decide)) (wpAny_truthy_bool ?_))))))⟩)))))
    exact wpAny_execs_cons (wpAny_Return_some (wpAny_Constant_bool (hk h₁ _ S.fr.keep)))
  | flt x tx => 
    refine wpAny_execs_cons (wpAny_If (isTrue_not (wpAny_isTrue_Compare1 (callT "type" (nmB S W (W.free _ (by decide)) rfl ⟨rfl, wpAny_items_cons (nmL S rfl (wpAny_items_nil (call_type_of (Tx := "float") rfl rfl (nmB S W (W.free _ (by decide)) rfl (wpAny_is_other rfl (fun h => absurd (Value.type.inj h) (by decide)) (wpAny_truthy_bool ?_))))))⟩)))))
    exact wpAny_execs_cons (wpAny_Return_some (wpAny_Constant_bool (hk h₁ _ S.fr.keep)))
  | none => exact hd.elim
  | list _ _ => exact hd.elim
  | tuple _ _ _ _ => exact hd.elim
end
end Mine
end
section
open PySem PyProof.Rows PySem.Calls PySem.W
set_option maxRecDepth 100000
namespace Mine
def sizesT : List Int := [0, 1, 7, 42, 999999999999999999, 1000000000000000000, 1000000000000000001, 10000000000000000000, 12345678901234567890]
def headsT : List (Str × Int) := [("", 1), ("-", -1), ("00000000000000000000", 1), ("-00", -1)]
def junkT : List Str := ["-", "--5", "+5", "1_0", "٣", "4x"]
theorem tab_sizes : (("_law_sizes" : Str), Dt.tuple (sizesT.map .int)) ∈ tabL := by
  have : tabL[3]? = some (("_law_sizes" : Str), Dt.tuple (sizesT.map .int)) := by with_unfolding_all rfl
  exact List.mem_of_getElem? this
theorem tab_heads : (("_law_heads" : Str), Dt.tuple (headsT.map fun p => .tuple [.str p.1, .int p.2])) ∈ tabL := by
  have : tabL[4]? = some (("_law_heads" : Str), Dt.tuple (headsT.map fun p => .tuple [.str p.1, .int p.2])) := by with_unfolding_all rfl
  exact List.mem_of_getElem? this
theorem tab_junk : (("_law_junk" : Str), Dt.tuple (junkT.map .str)) ∈ tabL := by
  have : tabL[5]? = some (("_law_junk" : Str), Dt.tuple (junkT.map .str)) := by with_unfolding_all rfl
  exact List.mem_of_getElem? this
def timesS (x : Str) (n : Nat) : Str := ⟨(List.replicate n x.cps).foldl (· ++ ·) #[]⟩
def numberD (form sz e8 : Nat) : Dt × Dt :=
  if form < 4 then match headsT[form]? with
    | some p => (.str (p.1 ++ itoa (sizesT.getD sz 0)), .int (p.2 * sizesT.getD sz 0))
    | none => (.none, .none)
  else if form = 10 then (.str (timesS "9" 4301), .int (10 * 1000000000000000000))
  else if form = 11 then (.str (timesS "1" (36 + e8) ++ "x"), .none)
  else (.str (junkT.getD (form - 4) ""), .none)
end Mine
end
section
open PySem PyProof.Rows PySem.Calls PySem.W
set_option maxRecDepth 100000
namespace Mine
section
variable {prog : Program} {w : World} {A : Around} {E : Value → Shared → Prop} {s : Shared} {mg mb : Str → Option Value} {a : Addr} {Q : Value → Shared → Prop}
theorem modN {x b : Int} {n : Nat} {t u : Tok} (hb : b ≠ 0) (hm : x.fmod b = n) (h : Q (.int n s.toks) { s with toks := s.toks + 1 }) : wpAny (model prog w) A (binaryOp .Mod (.int x t) (.int b u)) Q E s :=
  PyProof.Rows.mod_int' hb (by rw [hm]; exact h)
theorem mulBig {x : Str} {n : Nat} {t u : Tok} (hn : 1 < n) (hn2 : n ≤ 5000) (hx : x.length = 1) (hl : (timesS x n).length ≤ sizeLine) (h : ∀ t' tk, Q (.str (timesS x n) t') { s with toks := tk }) :
    wpAny (model prog w) A (binaryOp .Mult (.str x t) (.int n u)) Q E s := by
  refine PySem.P.mul_str (by simp; omega) (fun _ _ => ?_) (fun _ _ => ?_) ?_
  · have : (100 : Int) ≤ (2 ^ 63 - 1) / n := Int.le_ediv_of_mul_le (by omega) (by omega)
    omega
  · have h2 : (5000 : Nat) ≤ sizeLine := by decide
    unfold PySem.Builtin.Str.tooLong
    rw [hx]; simp
    omega
  · rw [if_neg (by omega), if_neg (by simp; omega)]
    exact ⟨by simpa [timesS] using hl, h _ _⟩
theorem mulBig' {x : Str} {k : Int} {n : Nat} {t u : Tok} (hkn : k = (n : Int)) (hn : 1 < n) (hn2 : n ≤ 5000) (hx : x.length = 1) (hl : (timesS x n).length ≤ sizeLine) (h : ∀ t' tk, Q (.str (timesS x n) t') { s with toks := tk }) :
    wpAny (model prog w) A (binaryOp .Mult (.str x t) (.int k u)) Q E s := by
  subst hkn; exact mulBig hn hn2 hx hl h
set_option maxHeartbeats 2000000 in
theorem law_number_spec {pick size : Int} {wide : Nat} {form sz e8 : Nat} {t1 t2 t3 : Tok} (hA : OkA A 1) (W : Wd mg mb s.heap) (ha : mg (fdAt 20).name = some (.ref a)) (hwd : wide ≤ 1)
    (hf : pick.fmod (4 + 8 * (wide : Int)) = form) (hs : size.fmod (6 + 3 * (wide : Int)) = sz) (h8 : size.fmod 8 = e8)
    (hk : ∀ x o h' tk, Ext s.heap h' → h'.get? x = some o → s.heap.get? x = none → DL [(x, o)] (.ref x) (.tuple [(numberD form sz e8).1, (numberD form sz e8).2]) → Q (.ref x) { s with heap := h', toks := tk }) :
    wpAny (model prog w) A (call (.ref a) [.int pick t1, .int size t2, .int wide t3]) Q E s := by
  obtain ⟨of, pm, cd, dc, fn⟩ := fn_of W (i := 20) (by decide) ha
  obtain ⟨tm, em⟩ := W.const ("_law_top", 1000000000000000000) (by decide)
  dsimp only at em
  obtain ⟨gT, hgT, hT⟩ := W.tabs
  obtain ⟨vS, eS, DS⟩ := hT _ tab_sizes
  obtain ⟨vH, eH, DH⟩ := hT _ tab_heads
  obtain ⟨vJ, eJ, DJ⟩ := hT _ tab_junk
  dsimp only at eS eH eJ DS DH DJ
  have hform : form < 12 := by
    have h1 := Int.fmod_lt_of_pos pick (b := 4 + 8 * (wide : Int)) (by omega)
    omega
  have hsz : sz < 9 := by
    have h1 := Int.fmod_lt_of_pos size (b := 6 + 3 * (wide : Int)) (by omega)
    omega
  have he8 : e8 < 8 := by
    have h1 := Int.fmod_lt_of_pos size (b := 8) (by omega)
    omega
  obtain ⟨val, hval⟩ : ∃ val, sizesT[sz]? = some val := ⟨_, List.getElem?_eq_getElem (by simpa [sizesT] using hsz)⟩
  refine enterP (i := 20) (n := 0) (hb := s.heap) (u := []) (g := gT) (binds := [("pick", .int pick t1), ("size", .int size t2), ("wide", .int wide t3)]) hA fn W.nolimit (Ext.refl _) (Nat.le_refl _)
    (fun _ h => nomatch h) hgT (fun _ _ _ h => nomatch h) (by simp) rfl ?_
  intro L h₁ tk S hA'
  conv in (fdAt 20).body => whnf
  have mulok : ∀ k : Int, Builtin.Int.intBits k ≤ 64 → IntMulOk k (wide : Int) := fun k h => IntMulOk.of_left h
  refine wpAny_execs_cons (wpAny_Assign_Name (wpAny_BinOp (nmL S rfl (wpAny_BinOp (wpAny_Constant_int (wpAny_BinOp (wpAny_Constant_int (nmL S rfl (PySem.P.mul_int (PyProof.Rows.add_int (modN (n := form) (by omega) hf (stL S fun h₂ S₂ => ?_))) (mulok _ (by decide)))))))))))
  dsimp only
  refine wpAny_execs_cons (wpAny_Assign_Name (Subscript_ (nmG S₂ W eS (wpAny_BinOp (nmL S₂ rfl (wpAny_BinOp (wpAny_Constant_int (wpAny_BinOp (wpAny_Constant_int (nmL S₂ rfl (PySem.P.mul_int (PyProof.Rows.add_int (modN (n := sz) (by omega) hs (sbT (i := sz) (d := .int val) S₂ DS (by rw [List.getElem?_map, hval]; rfl) (by decide) fun v hv => ?_))) (mulok _ (by decide)))))))))))))
  cases hv
  refine stL S₂ fun h₃ S₃ => ?_
  dsimp only
  have hgd : sizesT.getD sz 0 = val := by simp [List.getD, hval]
  have hvl : val.natAbs.log2 < 1920 ∧ Builtin.Int.intBits val ≤ 64 ∧ (itoa val).length ≤ 40 := by
    have key : ∀ v ∈ sizesT, v.natAbs.log2 < 1920 ∧ Builtin.Int.intBits v ≤ 64 ∧ (itoa v).length ≤ 40 := by decide +kernel
    exact key _ (List.mem_of_getElem? hval)
  refine wpAny_execs_cons (wpAny_If (wpAny_isTrue_Compare1 (nmL S₃ rfl (wpAny_Constant_int (PyProof.Rows.lt_int (wpAny_truthy_bool ?_))))))
  by_cases c4 : form < 4
  · rw [decide_eq_true (by omega : (form : Int) < 4)]
    obtain ⟨p, hp⟩ : ∃ p, headsT[form]? = some p := ⟨_, List.getElem?_eq_getElem (by simpa [headsT] using c4)⟩
    have hpl : p.1.length ≤ 40 ∧ Builtin.Int.intBits p.2 ≤ 64 := by
      have key : ∀ p ∈ headsT, p.1.length ≤ 40 ∧ Builtin.Int.intBits p.2 ≤ 64 := by decide +kernel
      exact key _ (List.mem_of_getElem? hp)
    have hN : numberD form sz e8 = (.str (p.1 ++ itoa val), .int (p.2 * val)) := by simp only [numberD, if_pos c4, hp, hgd]
    refine wpAny_execs_cons (Assign_Tuple (Subscript_ (nmG S₃ W eH (nmL S₃ rfl (sbT (i := form) (d := .tuple [.str p.1, .int p.2]) S₃ DH (by rw [List.getElem?_map, hp]; rfl) (by decide) fun v hv => unT hA'.hd S₃ hv rfl fun vs₄ h₄ D₄ S₄ => ?_)))))
    cases D₄ with | cons d1 D₄ => cases D₄ with | cons d2 D₄ => cases D₄ with | nil =>
    cases d1
    cases d2
    refine assignInOrder_cons (wpAny_assign_Name (stL S₄ fun h₅ S₅ => assignInOrder_cons (wpAny_assign_Name (stL S₅ fun h₆ S₆ => assignInOrder_nil ?_))))
    dsimp only
    refine wpAny_execs_cons (wpAny_Return_some (Tuple_ (wpAny_items_cons (wpAny_BinOp (nmL S₆ rfl (callT "str" (nmB S₆ W (W.free _ (by decide)) rfl ⟨rfl, wpAny_items_cons (nmL S₆ rfl (wpAny_items_nil (PySem.P.str_of_int hvl.1 (PyProof.Rows.add_str (fun t₇ tk₇ => ?_) (by have := hvl.2.2; have := hpl.1; show p.1.length + (itoa val).length ≤ sizeLine; exact Nat.le_trans (by omega : _ ≤ 80) (by decide))))))⟩)))))))
    dsimp only
    refine wpAny_items_cons (wpAny_BinOp (nmL S₆ rfl (nmL S₆ rfl (PySem.P.mul_int (wpAny_items_nil (wpAny_newTuple ?_ (by show 2 ≤ sizeLine; decide))) (IntMulOk.of_left hpl.2)))))
    dsimp only
    have S₇ := S₆.pushG (tupO [.str (p.1 ++ itoa val) t₇, .int (p.2 * val) tk₇] 0)
    refine hk _ _ _ _ S₇.fr.keep (S₇.led _ (.head _)).1 (S₆.fresh (size_none _)) ?_
    rw [hN]
    exact .tuple (.head _) rfl rfl (.cons (.str _ _) (.cons (.int _ _) .nil))
  · rw [decide_eq_false (by omega : ¬ (form : Int) < 4)]
    refine wpAny_execs_nil ?_
    refine wpAny_execs_cons (wpAny_If (wpAny_isTrue_Compare1 (nmL S₃ rfl (wpAny_Constant_int (PyProof.Rows.eq_int (wpAny_truthy_bool ?_))))))
    by_cases c10 : form = 10
    · rw [show (((form : Nat) : Int) == 10) = true from by simp; omega]
      have hN : numberD form sz e8 = (.str (timesS "9" 4301), .int (10 * 1000000000000000000)) := by simp only [numberD, if_neg c4, if_pos c10]
      refine wpAny_execs_cons (wpAny_Return_some (Tuple_ (wpAny_items_cons (wpAny_BinOp (wpAny_Constant_str (wpAny_Constant_int (mulBig (x := "9") (n := 4301) (by decide) (by decide) (by decide) (by decide +kernel) fun t₇ tk₇ => ?_)))))))
      dsimp only
      refine wpAny_items_cons (wpAny_BinOp (wpAny_Constant_int (nmG S₃ W em (PySem.P.mul_int (wpAny_items_nil (wpAny_newTuple ?_ (by show 2 ≤ sizeLine; decide))) (IntMulOk.of_left (by decide))))))
      dsimp only
      generalize timesS (Str.ofString "9") 4301 = X9 at *
      have S₇ := S₃.pushG (tupO [.str X9 t₇, .int (10 * 1000000000000000000) (tk₇ + 1)] 0)
      refine hk _ _ _ _ S₇.fr.keep (S₇.led _ (.head _)).1 (S₃.fresh (size_none _)) ?_
      rw [hN]
      exact .tuple (.head _) rfl rfl (.cons (.str _ _) (.cons (.int _ _) .nil))
    · rw [show (((form : Nat) : Int) == 10) = false from by simp; omega]
      refine wpAny_execs_nil ?_
      refine wpAny_execs_cons (wpAny_If (wpAny_isTrue_Compare1 (nmL S₃ rfl (wpAny_Constant_int (PyProof.Rows.eq_int (wpAny_truthy_bool ?_))))))
      by_cases c11 : form = 11
      · rw [show (((form : Nat) : Int) == 11) = true from by simp; omega]
        have hl1 : ∀ i : Fin 8, (timesS "1" (36 + i.val)).length ≤ 100 := by decide +kernel
        have hl1 := hl1 ⟨e8, he8⟩
        dsimp only at hl1
        have hN : numberD form sz e8 = (.str (timesS "1" (36 + e8) ++ "x"), .none) := by simp only [numberD, if_neg c4, if_neg c10, if_pos c11]
        refine wpAny_execs_cons (wpAny_Return_some (Tuple_ (wpAny_items_cons (wpAny_BinOp (wpAny_BinOp (wpAny_Constant_str (wpAny_BinOp (wpAny_Constant_int (wpAny_BinOp (nmL S₃ rfl (wpAny_Constant_int (modN (n := e8) (by decide) h8 (PyProof.Rows.add_int ?_)))))))))))))
        dsimp only
        refine mulBig' (x := "1") (n := 36 + e8) (by simp) (by omega) (by omega) (by decide) (Nat.le_trans hl1 (by decide)) fun t₇ tk₇ => ?_
        dsimp only
        generalize timesS (Str.ofString "1") (36 + e8) = X1 at *
        refine wpAny_Constant_str (PyProof.Rows.add_str (fun t₈ tk₈ => ?_) (by show X1.length + 1 ≤ sizeLine; exact Nat.le_trans (by omega : _ ≤ 101) (by decide)))
        dsimp only
        refine wpAny_items_cons (wpAny_Constant_none (wpAny_items_nil (wpAny_newTuple ?_ (by show 2 ≤ sizeLine; decide))))
        dsimp only
        have S₇ := S₃.pushG (tupO [.str (X1 ++ Str.ofString "x") t₈, .none] 0)
        refine hk _ _ _ _ S₇.fr.keep (S₇.led _ (.head _)).1 (S₃.fresh (size_none _)) ?_
        rw [hN]
        exact .tuple (.head _) rfl rfl (.cons (.str _ _) (.cons .none .nil))
      · rw [show (((form : Nat) : Int) == 11) = false from by simp; omega]
        refine wpAny_execs_nil ?_
        have hj : junkT[form - 4]? = some (junkT.getD (form - 4) "") := by
          have : form - 4 < junkT.length := by show form - 4 < 6; omega
          simp [List.getD, List.getElem?_eq_getElem this]
        have hN : numberD form sz e8 = (.str (junkT.getD (form - 4) ""), .none) := by simp only [numberD, if_neg c4, if_neg c10, if_neg c11]
        have e4 : (form : Int) - 4 = ((form - 4 : Nat) : Int) := by omega
        refine wpAny_execs_cons (wpAny_Return_some (Tuple_ (wpAny_items_cons (Subscript_ (nmG S₃ W eJ (wpAny_BinOp (nmL S₃ rfl (wpAny_Constant_int (PyProof.Rows.sub_int ?_)))))))))
        rw [e4]
        refine sbT (i := form - 4) (d := .str (junkT.getD (form - 4) "")) S₃ DJ (by rw [List.getElem?_map, hj]; rfl) (by decide) fun v hv => ?_
        cases hv
        refine wpAny_items_cons (wpAny_Constant_none (wpAny_items_nil (wpAny_newTuple ?_ (by show 2 ≤ sizeLine; decide))))
        dsimp only
        rename_i tj
        have S₇ := S₃.pushG (tupO [.str (junkT.getD (form - 4) "") tj, .none] 0)
        refine hk _ _ _ _ S₇.fr.keep (S₇.led _ (.head _)).1 (S₃.fresh (size_none _)) ?_
        rw [hN]
        exact .tuple (.head _) rfl rfl (.cons (.str _ _) (.cons .none .nil))
end
end Mine
end
section
open PySem PyProof.Rows PySem.Calls PySem.W
set_option maxRecDepth 100000
namespace Mine
def optD : Option Str → Dt
  | none => .none
  | some f => .str f
def lawRange : Str := Str.ofString "a number must lie between -1000000000000000000 and 1000000000000000000"
noncomputable def faultD (x : Str) : Dt → Option Str
  | .none => some (junkMsg x)
  | d => if withinD d (-1000000000000000000) = true then none else some lawRange
section
variable {prog : Program} {w : World} {A : Around} {E : Value → Shared → Prop} {s : Shared} {mg mb : Str → Option Value} {a : Addr} {t : Tok} {Q : Value → Shared → Prop} {v : Value} {d : Dt} {x : Str}
set_option maxHeartbeats 1000000 in
theorem law_fault_spec (hA : OkA A 2) (W : Wd mg mb s.heap) (ha : mg (fdAt 22).name = some (.ref a)) (D : DL [] v d) (hd : d = .none ∨ ∃ n, d = .int n) (hx : x.length ≤ 5000) (hs : Sane (Txt.slice x none (some 40)))
    (hk : ∀ v' h' tk, Ext s.heap h' → DL [] v' (optD (faultD x d)) → Q v' { s with heap := h', toks := tk }) : wpAny (model prog w) A (call (.ref a) [.str x t, v]) Q E s := by
  obtain ⟨of, pm, cd, dc, fn⟩ := fn_of W (i := 22) (by decide) ha
  obtain ⟨tm, em⟩ := W.const ("_law_top", 1000000000000000000) (by decide)
  obtain ⟨a1, o1, pm1, cd1, dc1, e1, f1⟩ := W.fn 21 (by decide)
  dsimp only at em
  have hz : x.length ≤ sizeLine := Nat.le_trans hx (by decide)
  refine enterP (i := 22) (n := 1) (hb := s.heap) (u := []) (g := []) (binds := [("digits", .str x t), ("value", v)]) hA fn W.nolimit (Ext.refl _) (Nat.le_refl _)
    (fun _ h => nomatch h) (fun _ h => nomatch h) (fun _ h => nomatch h) (by simp) rfl ?_
  intro L h₁ tk S hA'
  conv in (fdAt 22).body => whnf
  rcases hd with rfl | ⟨n, rfl⟩
  · cases D
    refine wpAny_execs_cons (wpAny_If (wpAny_isTrue_Compare1 (nmL S rfl (wpAny_Constant_none (wpAny_is_self rfl (wpAny_truthy_bool ?_))))))
    refine wpAny_execs_cons (wpAny_Return_some (JoinedStr_many (jpC (by decide) fun tk₃ => jpA' hs (fun Q' hq => cutS (t := t) S rfl hz fun t tk h' hx' => hq t tk h' hx') (by decide) fun tk₄ h' hx' => ?_)))
    refine joinParts_nilE ?_
    dsimp only
    have hk : ∀ v' h' tk, Ext s.heap h' → DL [] v' (.str (junkMsg x)) → Q v' { s with heap := h', toks := tk } := hk
    have z0 := ascT_len hs
    unfold junkMsg at hk
    generalize hX : Str.empty ++ Str.ofString "not a whole number: " ++ ascT (Txt.slice x none (some 40)) = X' at hk
    have z2 : X'.length ≤ sizeLine := by
      have e1 : (Str.empty ++ Str.ofString "not a whole number: ").length = 20 := by decide
      have e2 : sizeLine = 16777216 := by decide
      rw [← hX, len_app, e1]; omega
    refine jpN z2 ?_
    intro t₇ tk₇
    exact hk _ _ _ (Ext.trans S.fr.keep hx') (.str _ _)
  · cases D
    rename_i tn
    refine wpAny_execs_cons (wpAny_If (wpAny_isTrue_Compare1 (nmL S rfl (wpAny_Constant_none (wpAny_is_other rfl (by intro h; cases h) (wpAny_truthy_bool ?_))))))
    refine wpAny_execs_nil ?_
    refine wpAny_execs_cons (wpAny_If (isTrue_plain (callU (o := o1) (fd := docF 21 pm1 cd1 dc1) (nmG S W e1 ⟨rfl, wpAny_items_cons (nmL S rfl (wpAny_items_cons (wpAny_UnaryOp (nmG S W em (neg_int (wpAny_items_nil ⟨⟨S.fr.keep _ _ f1.at_, f1.d⟩, ?_⟩))))))⟩))))
    dsimp only
    refine law_within_spec (s := { s with heap := h₁, toks := _ }) (hA'.less (by omega)) (W.keeps S.fr.keep) e1 (.int n tn) trivial fun h₂ tk₂ hx₂ => wpAny_truthy_bool ?_
    have S₂ := S.ext hx₂
    dsimp only
    have hf : faultD x (.int n) = if withinD (.int n) (-1000000000000000000) = true then none else some lawRange := rfl
    rw [hf] at hk
    cases hw : withinD (.int n) (-1000000000000000000) with
    | true =>
      rw [hw] at hk
      exact wpAny_execs_cons (wpAny_Return_some (wpAny_Constant_none (hk _ _ _ S₂.fr.keep .none)))
    | false =>
      rw [hw] at hk
      refine wpAny_execs_nil (wpAny_execs_cons (wpAny_Return_some (wpAny_Constant_str (hk _ _ _ S₂.fr.keep ?_))))
      exact .str _ _
end
end Mine
end
section
open PySem PyProof.Rows PySem.Calls PySem.W
set_option maxRecDepth 100000
namespace Mine
def linesT : List (Str × Option Str) := [("", none), (" #get a", none), ("get", some ""), ("get a 5", some ""), ("put a", some ""), ("put a 1 2", some ""), ("foo a", some ""), ("foo a 5", some "")]
def lineRow (p : Str × Option Str) : Dt := .tuple [.str p.1, .tuple [], optD p.2]
theorem tab_lines : (("_law_lines" : Str), Dt.tuple (linesT.map lineRow)) ∈ tabL := by
  have : tabL[6]? = some (("_law_lines" : Str), Dt.tuple (linesT.map lineRow)) := by with_unfolding_all rfl
  exact List.mem_of_getElem? this
def keyS (i : Nat) : Str := keyD (nameD i).1
def digS (form sz e8 : Nat) : Str := keyD (numberD form sz e8).1
/-- what _law_line gives: the line, its operations, its fault -/
noncomputable def lineT (form nm nf sz e8 : Nat) : Str × List Dt × Option Str :=
  if 3 < form then (match linesT[form - 4]? with | some p => (p.1, [], p.2) | none => ("", [], none))
  else if form = 0 then (Str.ofString "\tget  " ++ keyS nm ++ Str.ofString " \r", [.tuple [.str (Str.ofString "get"), .str (keyS nm), .int 0]], if (nameD nm).2 = true then none else some (Str.ofString ""))
  else (Str.ofString "put " ++ keyS nm ++ Str.ofString " " ++ digS nf sz e8, [.tuple [.str (Str.ofString "put"), .str (keyS nm), (numberD nf sz e8).2]], if (nameD nm).2 = true then faultD (digS nf sz e8) (numberD nf sz e8).2 else some (Str.ofString ""))
structure NumOk (nf sz e8 : Nat) : Prop where
  str : (numberD nf sz e8).1 = .str (digS nf sz e8)
  len : (digS nf sz e8).length ≤ 5000
  cut : Sane (Txt.slice (digS nf sz e8) none (some 40))
  val : (numberD nf sz e8).2 = .none ∨ ∃ n, (numberD nf sz e8).2 = .int n
theorem keys_ok : ∀ i : Fin 7, ∃ x, (nameD i.val).1 = .str x ∧ x.length ≤ 300 := by
  intro ⟨i, hi⟩
  have : i = 0 ∨ i = 1 ∨ i = 2 ∨ i = 3 ∨ i = 4 ∨ i = 5 ∨ i = 6 := by omega
  rcases this with rfl | rfl | rfl | rfl | rfl | rfl | rfl <;> exact ⟨_, rfl, by decide +kernel⟩
theorem key_ok {i : Nat} (hi : i < 7) : (nameD i).1 = .str (keyS i) ∧ (keyS i).length ≤ 300 := by
  obtain ⟨x, h1, h2⟩ := keys_ok ⟨i, hi⟩
  dsimp only at h1
  unfold keyS
  rw [h1]
  exact ⟨rfl, h2⟩

section
variable {prog : Program} {w : World} {A : Around} {E : Value → Shared → Prop} {s : Shared} {mg mb : Str → Option Value} {a : Addr} {Q : Value → Shared → Prop}
set_option maxHeartbeats 4000000 in
theorem law_line_spec {kind name pick size : Int} {w0 w1 w2 : Nat} {form nm nf sz e8 : Nat} {t1 t2 t3 t4 : Tok} {g : Lg} {wv : Value} (hA : OkA A 3) (W : Wd mg mb s.heap) (ha : mg (fdAt 23).name = some (.ref a))
    (hg : ∀ p ∈ g, s.heap.get? p.1 = some p.2) (hT : ∀ p ∈ tabL, ∃ v, mg p.1 = some v ∧ DL g v p.2) (DW : DL g wv (.tuple [.int w0, .int w1, .int w2]))
    (h0 : w0 ≤ 1) (h1 : w1 ≤ 1) (h2 : w2 ≤ 1) (hf : kind.fmod (6 + 6 * (w0 : Int)) = form) (hn : name.fmod (5 + 2 * (w1 : Int)) = nm) (hp : pick.fmod (4 + 8 * (w2 : Int)) = nf) (hs : size.fmod (6 + 3 * (w2 : Int)) = sz) (h8 : size.fmod 8 = e8) (NO : NumOk nf sz e8)
    (hk : ∀ v g' h' tk, Ext s.heap h' → (∀ p ∈ g', h'.get? p.1 = some p.2) → (∀ p ∈ g', p ∈ g ∨ s.heap.get? p.1 = none) → DL g' v (.tuple [.str (lineT form nm nf sz e8).1, .tuple (lineT form nm nf sz e8).2.1, optD (lineT form nm nf sz e8).2.2]) → Q v { s with heap := h', toks := tk }) :
    wpAny (model prog w) A (call (.ref a) [.int kind t1, .int name t2, .int pick t3, .int size t4, wv]) Q E s := by
  obtain ⟨of, pm, cd, dc, fn⟩ := fn_of W (i := 23) (by decide) ha
  obtain ⟨a19, o19, pm19, cd19, dc19, e19, f19⟩ := W.fn 19 (by decide)
  obtain ⟨a20, o20, pm20, cd20, dc20, e20, f20⟩ := W.fn 20 (by decide)
  obtain ⟨a22, o22, pm22, cd22, dc22, e22, f22⟩ := W.fn 22 (by decide)
  obtain ⟨vL, eL, DLn⟩ := hT _ tab_lines
  dsimp only at eL DLn
  have hform : form < 12 := by
    have h1 := Int.fmod_lt_of_pos kind (b := 6 + 6 * (w0 : Int)) (by omega)
    omega
  have hnm : nm < 7 := by
    have h1 := Int.fmod_lt_of_pos name (b := 5 + 2 * (w1 : Int)) (by omega)
    omega
  obtain ⟨hks, hkl⟩ := key_ok hnm
  refine enterP (i := 23) (n := 2) (hb := s.heap) (u := []) (g := g) (binds := [("kind", .int kind t1), ("name", .int name t2), ("pick", .int pick t3), ("size", .int size t4), ("wild", wv)]) hA fn W.nolimit (Ext.refl _) (Nat.le_refl _)
    (fun _ h => nomatch h) hg (fun _ _ _ h => nomatch h) (by simp) rfl ?_
  intro L h₁ tk S hA'
  conv in (fdAt 23).body => whnf
  have mulok : ∀ (k : Int) (n : Nat), Builtin.Int.intBits k ≤ 64 → IntMulOk k (n : Int) := fun k n h => IntMulOk.of_left h
  refine wpAny_execs_cons (wpAny_Assign_Name (wpAny_BinOp (nmL S rfl (wpAny_BinOp (wpAny_Constant_int (wpAny_BinOp (wpAny_Constant_int (Subscript_ (nmL S rfl (wpAny_Constant_int (sbT (i := 0) (d := .int w0) S DW rfl (by simp) fun v hv => ?_)))))))))))
  cases hv
  refine PySem.P.mul_int (PyProof.Rows.add_int (modN (n := form) (by omega) hf (stL S fun h₂ S₂ => ?_))) (mulok _ _ (by decide))
  dsimp only
  refine wpAny_execs_cons (wpAny_If (wpAny_isTrue_Compare1 (nmL S₂ rfl (wpAny_Constant_int (PyProof.Rows.gt_int (wpAny_truthy_bool ?_))))))
  by_cases c3 : 3 < form
  · rw [decide_eq_true (by omega : (3 : Int) < (form : Int))]
    obtain ⟨p, hp⟩ : ∃ p, linesT[form - 4]? = some p := ⟨_, List.getElem?_eq_getElem (show form - 4 < 8 by omega)⟩
    have hN : lineT form nm nf sz e8 = (p.1, [], p.2) := by simp only [lineT, if_pos c3, hp]
    have e4 : (form : Int) - 4 = ((form - 4 : Nat) : Int) := by omega
    refine wpAny_execs_cons (wpAny_Return_some (Subscript_ (nmG S₂ W eL (wpAny_BinOp (nmL S₂ rfl (wpAny_Constant_int (PyProof.Rows.sub_int ?_)))))))
    rw [e4]
    refine sbT (i := form - 4) (d := lineRow p) S₂ DLn (by rw [List.getElem?_map, hp]; rfl) (by decide) fun v hv => ?_
    dsimp only
    refine hk v g _ _ S₂.fr.keep (fun p hp => (S₂.led p hp).1) (fun p hp => .inl hp) ?_
    rw [hN]
    exact hv
  · rw [decide_eq_false (by omega : ¬ (3 : Int) < (form : Int))]
    refine wpAny_execs_nil ?_
    refine wpAny_execs_cons (Assign_Tuple (callU (o := o19) (fd := docF 19 pm19 cd19 dc19) (nmG S₂ W e19 ⟨rfl, wpAny_items_cons (wpAny_BinOp (nmL S₂ rfl (wpAny_BinOp (wpAny_Constant_int (wpAny_BinOp (wpAny_Constant_int (Subscript_ (nmL S₂ rfl (wpAny_Constant_int (sbT (i := 1) (d := .int w1) S₂ DW rfl (by simp) fun v hv => ?_))))))))))⟩)))
    cases hv
    refine PySem.P.mul_int (PyProof.Rows.add_int (modN (n := nm) (by omega) hn (wpAny_items_nil ⟨⟨S₂.fr.keep _ _ f19.at_, f19.d⟩, ?_⟩))) (mulok _ _ (by decide))
    dsimp only
    refine law_name_spec (s := { s with heap := h₂, toks := _ }) (hA'.less (by omega)) (W.keeps S₂.fr.keep) e19 (by omega) fun x o h₃ tk₃ hx₃ hxo hxn DN => ?_
    have S₃ := S₂.back (g' := [(x, o)]) hx₃ (fun p hp => by rw [List.mem_singleton.mp hp]; exact hxo) (fun p hp => .inr (by rw [List.mem_singleton.mp hp]; exact hxn))
    dsimp only
    rw [hks] at DN
    have hlt : lineT form nm nf sz e8 = if form = 0 then (Str.ofString "\tget  " ++ keyS nm ++ Str.ofString " \r", [.tuple [.str (Str.ofString "get"), .str (keyS nm), .int 0]], if (nameD nm).2 = true then none else some (Str.ofString ""))
        else (Str.ofString "put " ++ keyS nm ++ Str.ofString " " ++ digS nf sz e8, [.tuple [.str (Str.ofString "put"), .str (keyS nm), (numberD nf sz e8).2]], if (nameD nm).2 = true then faultD (digS nf sz e8) (numberD nf sz e8).2 else some (Str.ofString "")) := by
      simp only [lineT, if_neg c3]
    generalize (nameD nm).2 = sound at DN hlt
    generalize keyS nm = key at DN hlt hkl
    generalize lineT form nm nf sz e8 = LT at hk hlt
    have fin : ∀ (m₄ : Str → Option Value) (h₄ : Heap) (tk₄ : Nat) (ta : Addr) (gg : Lg) (T : Str) (tt : Tok) (fv : Value) (f : Option Str) (opd : Dt), St s.heap L g m₄ [] gg h₄ → m₄ "text" = some (.str T tt) → m₄ "op" = some (.ref ta) → m₄ "fault" = some fv → m₄ "sound" = some (.bool sound) →
        DL gg (.ref ta) opd → DL [] fv (optD f) → LT = (T, [opd], if sound = true then f else some (Str.ofString "")) →
        wpAny (model prog w) (A.deeper (eX (fdAt 23).name (fdAt 23).scope L a cd [])) (execs ((fdAt 23).body.drop 7) (eX (fdAt 23).name (fdAt 23).scope L a cd []))
          (fun fl s' => Q (match fl with | .ret v => v | _ => .none) s') (fun _ _ => False) { s with heap := h₄, toks := tk₄ } := by
      intro m₄ h₄ tk₄ ta gg T tt fv f opd S₄ q1 q2 q3 q4 Do Df hL
      conv in (List.drop 7 (fdAt 23).body) => whnf
      have last : ∀ (m₅ : Str → Option Value) (h₅ : Heap) (tk₅ : Nat) (fv : Value) (f : Option Str), St s.heap L g m₅ [] gg h₅ → m₅ "text" = some (.str T tt) → m₅ "op" = some (.ref ta) → m₅ "fault" = some fv → DL [] fv (optD f) → LT = (T, [opd], f) →
          wpAny (model prog w) (A.deeper (eX (fdAt 23).name (fdAt 23).scope L a cd [])) (execs ((fdAt 23).body.drop 8) (eX (fdAt 23).name (fdAt 23).scope L a cd []))
          (fun fl s' => Q (match fl with | .ret v => v | _ => .none) s') (fun _ _ => False) { s with heap := h₅, toks := tk₅ } := by
        intro m₅ h₅ tk₅ fv f S₅ r1 r2 r3 Df hL
        conv in (List.drop 8 (fdAt 23).body) => whnf
        refine wpAny_execs_cons (wpAny_Return_some (Tuple_ (wpAny_items_cons (nmL S₅ r1 (wpAny_items_cons (Tuple_ (wpAny_items_cons (nmL S₅ r2 (wpAny_items_nil (mkTup S₅ (by simp) fun h₆ tb S₆ => ?_)))))))))) 
        dsimp only
        refine wpAny_items_cons (nmL S₆ r3 (wpAny_items_nil (mkTup S₆ (by simp) fun h₇ tc S₇ => ?_)))
        dsimp only
        refine hk _ _ _ _ S₇.fr.keep (fun p hp => (S₇.led p hp).1) S₇.prov ?_
        rw [hL]
        exact .tuple (.head _) rfl rfl (.cons (.str _ _) (.cons (.tuple (.tail _ (.head _)) rfl rfl (.cons (Do.mono fun p hp => .tail _ (.tail _ hp)) .nil)) (.cons (Df.mono fun _ h => by cases h) .nil)))
      refine wpAny_execs_cons (wpAny_If (isTrue_not (isTrue_plain (nmL S₄ q4 (wpAny_truthy_bool ?_)))))
      cases sound with
      | true => exact wpAny_execs_nil (last _ _ _ _ _ S₄ q1 q2 q3 Df hL)
      | false =>
        refine wpAny_execs_cons (wpAny_Assign_Name (wpAny_Constant_str (stL S₄ fun h₅ S₅ => wpAny_execs_nil ?_)))
        exact last _ _ _ _ (some (Str.ofString "")) S₅ (upd_ne (by decide) q1) (upd_ne (by decide) q2) upd_eq (.str _ _) hL
    refine unT hA'.hd S₃ (DN.mono (fun p hp => List.mem_append.mpr (.inl hp))) rfl fun vs₄ h₄ D₄ S₄ => ?_
    cases D₄ with | cons d1 D₄ => cases D₄ with | cons d2 D₄ => cases D₄ with | nil =>
    cases d1
    cases d2
    refine assignInOrder_cons (wpAny_assign_Name (stL S₄ fun h₅ S₅ => assignInOrder_cons (wpAny_assign_Name (stL S₅ fun h₆ S₆ => assignInOrder_nil ?_))))
    dsimp only
    have l6 : (Str.ofString "\tget  ").length = 6 := by decide
    have l2 : (Str.ofString " \r").length = 2 := by decide
    have l4 : (Str.ofString "put ").length = 4 := by decide
    have l1 : (Str.ofString " ").length = 1 := by decide
    have big : (6000 : Nat) ≤ sizeLine := by decide
    refine wpAny_execs_cons (wpAny_Assign_Name (wpAny_BinOp (wpAny_BinOp (wpAny_Constant_str (nmL S₆ rfl (PyProof.Rows.add_str (fun t₇ tk₇ => wpAny_Constant_str (PyProof.Rows.add_str (fun t₈ tk₈ => stL S₆ fun h₇ S₇ => ?_) (by simp only [len_app, l6, l2]; omega))) (by rw [l6]; omega)))))))
    dsimp only
    refine wpAny_execs_cons (wpAny_Assign_Name (Tuple_ (wpAny_items_cons (wpAny_Constant_str (wpAny_items_cons (nmL S₇ rfl (wpAny_items_cons (wpAny_Constant_int (wpAny_items_nil (mkTup S₇ (by simp) fun h₈ ta S₈ => stL S₈ fun h₉ S₉ => ?_)))))))))) 
    dsimp only
    refine wpAny_execs_cons (wpAny_Assign_Name (wpAny_Constant_none (stL S₉ fun h₁₀ S₁₀ => ?_)))
    dsimp only
    refine wpAny_execs_cons (wpAny_If (wpAny_isTrue_Compare1 (nmL S₁₀ rfl (wpAny_Constant_int (PyProof.Rows.gt_int (wpAny_truthy_bool ?_))))))
    by_cases c0 : form = 0
    · rw [decide_eq_false (by omega : ¬ (0 : Int) < (form : Int))]
      rw [if_pos c0] at hlt
      refine wpAny_execs_nil ?_
      exact fin _ _ _ ta _ _ _ .none none _ S₁₀ rfl rfl rfl rfl (.tuple (.head _) rfl rfl (.cons (.str _ _) (.cons (.str _ _) (.cons (.int _ _) .nil)))) .none hlt
    · rw [decide_eq_true (by omega : (0 : Int) < (form : Int))]
      rw [if_neg c0] at hlt
      refine wpAny_execs_cons (Assign_Tuple (callU (o := o20) (fd := docF 20 pm20 cd20 dc20) (nmG S₁₀ W e20 ⟨rfl, wpAny_items_cons (nmL S₁₀ rfl (wpAny_items_cons (nmL S₁₀ rfl (wpAny_items_cons (Subscript_ (nmL S₁₀ rfl (wpAny_Constant_int (sbT (i := 2) (d := .int w2) S₁₀ (DW.mono fun p hp => .tail _ (List.mem_append.mpr (.inr hp))) rfl (by simp) fun v hv => ?_))))))))⟩)))
      cases hv
      refine wpAny_items_nil ⟨⟨S₁₀.fr.keep _ _ f20.at_, f20.d⟩, ?_⟩
      dsimp only
      refine law_number_spec (s := { s with heap := h₁₀, toks := _ }) (hA'.less (by omega)) (W.keeps S₁₀.fr.keep) e20 h2 hp hs h8 fun x' o' h₁₁ tk₁₁ hx₁₁ hxo' hxn' DNum => ?_
      have S₁₁ := S₁₀.back (g' := [(x', o')]) hx₁₁ (fun p hp => by rw [List.mem_singleton.mp hp]; exact hxo') (fun p hp => .inr (by rw [List.mem_singleton.mp hp]; exact hxn'))
      dsimp only
      obtain ⟨no1, no2, no3, no4⟩ := NO
      rw [no1] at DNum
      generalize digS nf sz e8 = dig at *
      generalize (numberD nf sz e8).2 = dv at *
      refine unT hA'.hd S₁₁ (DNum.mono (fun p hp => List.mem_append.mpr (.inl hp))) rfl fun vs₁₂ h₁₂ D₁₂ S₁₂ => ?_
      cases D₁₂ with | cons d1 D₁₂ => cases D₁₂ with | cons d2 D₁₂ => cases D₁₂ with | nil =>
      cases d1
      rename_i vv td
      have d2b : DL [] vv dv := by
        rcases no4 with rfl | ⟨n, rfl⟩
        · cases d2; exact .none
        · cases d2; exact .int _ _
      refine assignInOrder_cons (wpAny_assign_Name (stL S₁₂ fun h₁₃ S₁₃ => assignInOrder_cons (wpAny_assign_Name (stL S₁₃ fun h₁₄ S₁₄ => assignInOrder_nil ?_))))
      dsimp only
      refine wpAny_execs_cons (wpAny_Assign_Name (wpAny_BinOp (wpAny_BinOp (wpAny_BinOp (wpAny_Constant_str (nmL S₁₄ rfl (PyProof.Rows.add_str (fun t₇ tk₇ => wpAny_Constant_str (PyProof.Rows.add_str (fun t₈ tk₈ => nmL S₁₄ rfl (PyProof.Rows.add_str (fun t₉ tk₉ => stL S₁₄ fun h₁₅ S₁₅ => ?_) (by simp only [len_app, l4, l1]; omega))) (by simp only [len_app, l4, l1]; omega))) (by rw [l4]; omega))))))))
      dsimp only
      refine wpAny_execs_cons (wpAny_Assign_Name (Tuple_ (wpAny_items_cons (wpAny_Constant_str (wpAny_items_cons (nmL S₁₅ rfl (wpAny_items_cons (nmL S₁₅ rfl (wpAny_items_nil (mkTup S₁₅ (by simp) fun h₁₆ tb S₁₆ => stL S₁₆ fun h₁₇ S₁₇ => ?_)))))))))) 
      dsimp only
      refine wpAny_execs_cons (wpAny_Assign_Name (callU (o := o22) (fd := docF 22 pm22 cd22 dc22) (nmG S₁₇ W e22 ⟨rfl, wpAny_items_cons (nmL S₁₇ rfl (wpAny_items_cons (nmL S₁₇ rfl (wpAny_items_nil ⟨⟨S₁₇.fr.keep _ _ f22.at_, f22.d⟩, ?_⟩))))⟩)))
      dsimp only
      refine law_fault_spec (s := { s with heap := h₁₇, toks := _ }) (hA'.less (by omega)) (W.keeps S₁₇.fr.keep) e22 d2b no4 no2 no3 fun fv h₁₈ tk₁₈ hx₁₈ Df => ?_
      have S₁₈ := S₁₇.ext hx₁₈
      dsimp only
      refine stL S₁₈ fun h₁₉ S₁₉ => wpAny_execs_nil ?_
      exact fin _ _ _ tb _ _ _ fv _ _ S₁₉ rfl rfl rfl rfl (.tuple (.head _) rfl rfl (.cons (.str _ _) (.cons (.str _ _) (.cons (d2b.mono fun _ h => by cases h) .nil)))) Df hlt
end
end Mine
end
section
open PySem PyProof.Rows PySem.Calls PySem.W
set_option maxRecDepth 100000
namespace Mine
section
variable {prog : Program} {w : World} {A : Around} {E : Value → Shared → Prop} {s : Shared} {mg mb : Str → Option Value} {a : Addr} {Q : Value → Shared → Prop} {gv sv wv : Value}
/-- the judge where no fault is due -/
theorem law_judge_none (hA : OkA A 1) (W : Wd mg mb s.heap) (ha : mg (fdAt 24).name = some (.ref a))
    (hc : ∀ (A' : Around) (E' : Value → Shared → Prop) (Q' : Value → Shared → Prop) (h' : Heap) (tk : Nat), OkA A' 0 → Ext s.heap h' → Q' (.bool false) { s with heap := h', toks := tk } → wpAny (model prog w) A' (compareOp .NotEq gv wv) Q' E' { s with heap := h', toks := tk })
    (hk : ∀ h' tk, Ext s.heap h' → Q (.bool true) { s with heap := h', toks := tk }) : wpAny (model prog w) A (call (.ref a) [gv, sv, wv, .none]) Q E s := by
  obtain ⟨of, pm, cd, dc, fn⟩ := fn_of W (i := 24) (by decide) ha
  refine enterP (i := 24) (n := 0) (hb := s.heap) (u := []) (g := []) (binds := [("got", gv), ("said", sv), ("want", wv), ("place", .none)]) hA fn W.nolimit (Ext.refl _) (Nat.le_refl _)
    (fun _ h => nomatch h) (fun _ h => nomatch h) (fun _ h => nomatch h) (by simp) rfl ?_
  intro L h₁ tk S hA'
  conv in (fdAt 24).body => whnf
  refine wpAny_execs_cons (wpAny_If (wpAny_isTrue_Compare1 (nmL S rfl (wpAny_Constant_none (wpAny_is_self rfl (wpAny_truthy_bool ?_))))))
  refine wpAny_execs_cons (wpAny_If (wpAny_isTrue_Compare1 (nmL S rfl (nmL S rfl (hc _ _ _ _ _ hA' S.fr.keep (wpAny_truthy_bool ?_))))))
  refine wpAny_execs_nil ?_
  exact wpAny_execs_cons (wpAny_Return_some (wpAny_Constant_bool (hk _ _ S.fr.keep)))
/-- the judge where one is -/
theorem law_judge_some {sd pl : Str} {t1 t2 : Tok} (hA : OkA A 1) (W : Wd mg mb s.heap) (ha : mg (fdAt 24).name = some (.ref a)) (hp : Txt.startswith sd pl = true)
    (hk : ∀ h' tk, Ext s.heap h' → Q (.bool true) { s with heap := h', toks := tk }) : wpAny (model prog w) A (call (.ref a) [.none, .str sd t1, wv, .str pl t2]) Q E s := by
  obtain ⟨of, pm, cd, dc, fn⟩ := fn_of W (i := 24) (by decide) ha
  refine enterP (i := 24) (n := 0) (hb := s.heap) (u := []) (g := []) (binds := [("got", .none), ("said", .str sd t1), ("want", wv), ("place", .str pl t2)]) hA fn W.nolimit (Ext.refl _) (Nat.le_refl _)
    (fun _ h => nomatch h) (fun _ h => nomatch h) (fun _ h => nomatch h) (by simp) rfl ?_
  intro L h₁ tk S hA'
  conv in (fdAt 24).body => whnf
  refine wpAny_execs_cons (wpAny_If (wpAny_isTrue_Compare1 (nmL S rfl (wpAny_Constant_none (wpAny_is_other rfl (by intro h; cases h) (wpAny_truthy_bool ?_))))))
  refine wpAny_execs_nil ?_
  refine wpAny_execs_cons (wpAny_If (wpAny_isTrue_Compare1 (nmL S rfl (wpAny_Constant_none (wpAny_isNot_self rfl (wpAny_truthy_bool ?_))))))
  refine wpAny_execs_nil ?_
  refine wpAny_execs_cons (wpAny_If (wpAny_isTrue_Compare1 (nmL S rfl (wpAny_Constant_none (wpAny_is_other rfl (by intro h; cases h) (wpAny_truthy_bool ?_))))))
  refine wpAny_execs_nil ?_
  refine wpAny_execs_cons (wpAny_If (isTrue_not (isTrue_plain (callM "str" "str.startswith" PySem.F.plainAttrs_str PySem.F.slot_str_startswith PySem.F.type_str_startswith (nmL S rfl ⟨typeIs_str _ _ _, (fun a e => nomatch e), wpAny_items_cons (nmL S rfl (wpAny_items_nil (SC.startswith (wpAny_truthy_bool ?_))))⟩)))))
  rw [hp]
  refine wpAny_execs_nil ?_
  exact wpAny_execs_cons (wpAny_Return_some (wpAny_Constant_bool (hk _ _ S.fr.keep)))
end
section
variable {prog : Program} {w : World} {A : Around} {E : Value → Shared → Prop} {s : Shared} {Q : Value → Shared → Prop} {g : Lg}
/-- data that compares: what PyData holds -/
theorem cmpNeP {a b : Value} {p : PyData} {n : Nat} (hA : OkA A n) (hl : ∀ q ∈ g, s.heap.get? q.1 = some q.2) (Da : DL g a (ofP p)) (Db : DL g b (ofP p)) (hp : PySem.SeqAt.shaped p = true) (he : PyData.eqv p p = true)
    (h : Q (.bool false) s) : wpAny (model prog w) A (compareOp .NotEq a b) Q E s := by
  obtain ⟨_, ra⟩ := Da.reads hl
  obtain ⟨_, rb⟩ := Db.reads hl
  exact PySem.SeqAt.compareNe_shaped ra rb hp hp (by have := hA.un; omega) (by rw [he]; exact h)
/-- two lists of the same objects -/
theorem cmpSame {a b : Addr} {vs : List Value} {n k1 k2 : Nat} (hA : OkA A n) (ha : s.heap.get? a = some (lstO vs k1)) (hb : s.heap.get? b = some (lstO vs k2))
    (h : Q (.bool false) s) : wpAny (model prog w) A (compareOp .NotEq (.ref a) (.ref b)) Q E s := by
  have := PySem.SeqAt.RcNeAt.lists (A := A) (s := s) (e := fun _ => true) (l := a) (b := b) (items := vs.toArray) (items2 := vs.toArray) ⟨_, ha, rfl, _, rfl⟩ ⟨_, hb, rfl, _, rfl⟩ rfl (by have := hA.un; omega) (fun j _ _ => PySem.SeqAt.EqAt.same _)
  refine this prog w E Q ?_
  have e : ∀ n : Nat, (List.range n).all (fun _ => true) = true := fun n => by rw [List.all_eq_true]; intros; rfl
  rw [e]; exact h
end
end Mine
end
section
open PySem PyProof.Rows PySem.Calls PySem.W
open PySem.AutoSeq1 (wpAny_loadPart')
set_option maxRecDepth 100000
namespace Mine
set_option maxHeartbeats 1000000 in
theorem meets_extT (l : Addr) (items : Array Value) (n : Nat) (b : Addr) (items2 : Array Value) (n2 : Nat) (dd : Option Addr) (sl : Array (Option Value)) (hs0 : ¬(!items.isEmpty && Builtin.List.listTooLong (items.size + items2.size)) = true) (hs1 : items.size ≤ sizeLine) (hs2 : items.size + items2.size ≤ sizeLine + 1) :
    Meets (Builtin.«list.extend» ⟨[.ref l, .ref b], []⟩) (fun _ R s => s.heap.get? l = some { cls := .type "list", data := .seq items n } ∧ s.heap.get? b = some { cls := .type "tuple", dict := dd, data := .seq items2 n2, slots := sl } ∧ R (.ok (.ret Value.none)) { s with heap := s.heap.update l (Obj.mapSeq fun x => x ++ items2) }) :=
  .of_wp fun prog w A R s h => by
    obtain ⟨hp, g, d, tk, os⟩ := s; obtain ⟨hl, hb, h⟩ := h
    have f1 := PySem.AutoSeq1.idx_int; have f2 := PySem.AutoSeq1.sub_tuple_tuple; have f3 := PySem.AutoSeq1.sub_list_list; have f4 := PySem.AutoSeq1.sub_tuple_list; have f5 := PySem.AutoSeq1.sub_list_tuple
    have hz' : (items ++ items2).size ≤ sizeLine + 1 := by rw [Array.size_append]; exact hs2
    wp_walk using (wpAny_updateSeq hl rfl (hz := hs1) (_hz' := hz')), wpAny_loadPart' hl, wpAny_loadPart' hb
    exact ⟨_, rfl, h⟩
section
variable {prog : Program} {w : World} {A : Around} {E : Value → Shared → Prop} {s : Shared} {h₀ : Heap} {L : Addr} {gi : Lg} {m : Str → Option Value} {u g : Lg} {Q : Value → Shared → Prop}
/-- extend a list of the call's own by a tuple -/
theorem lExt {l : Addr} {vs : List Value} {n : Nat} {tv : Value} {ds : List Dt} {U : List Value → Nat → Lg} (S : St h₀ L gi m u g s.heap) (D : DL g tv (.tuple ds)) (R : ∀ ws n', Rep l (lstO vs n) (lstO (vs ++ ws) n') u (U ws n')) (hz : vs.length ≤ 1000) (hz2 : ds.length ≤ 1000)
    (h : ∀ h' n' ws, DLs g ws ds → St h₀ L gi m (U ws n') g h' → Q .none { s with heap := h' }) : wpAny (model prog w) A (call (.builtin "list.extend") [.ref l, tv]) Q E s := by
  cases D with
  | @tuple b o nb ws _ hl hc hd hD =>
    have hlen := hD.length
    obtain ⟨cls, dd, data, sl⟩ := o
    simp only at hc hd
    subst hc hd
    have hL := (S.un _ (R [] 0).mem).1
    have big : (2000 : Nat) ≤ sizeLine := by decide
    refine call_meets (prog := prog) (w := w) PySem.F.slot_list_extend (s := s) ⟨_, hL, rfl⟩ PySem.F.entry_list_extend (PySem.F.args_list_extend_2 _ _) (meets_extT l vs.toArray n b ws.toArray nb dd sl ?_ (by rw [List.size_toArray]; omega) (by rw [List.size_toArray, List.size_toArray]; omega)) ⟨hL, (S.led _ hl).1, ?_⟩
    · have hn : Builtin.List.listTooLong (vs.toArray.size + ws.toArray.size) = false := by
        rw [List.size_toArray, List.size_toArray]
        unfold Builtin.List.listTooLong
        simp
        omega
      rw [hn]; simp
    · obtain ⟨n', hn'⟩ : ∃ n', (Obj.mapSeq (fun x => x ++ ws.toArray) (lstO vs n)) = lstO (vs ++ ws) n' := by
        refine ⟨if (vs.toArray ++ ws.toArray).size == vs.toArray.size then n else n + 1, ?_⟩
        show ({ cls := .type "list", data := .seq (vs.toArray ++ ws.toArray) _ } : Obj) = _
        have e : vs.toArray ++ ws.toArray = (vs ++ ws).toArray := by simp
        show ({ cls := .type "list", data := .seq (vs.toArray ++ ws.toArray) (if (vs.toArray ++ ws.toArray).size == vs.toArray.size then n else n + 1) } : Obj) = _
        rw [e]
      refine h _ n' ws hD (S.set (R ws n') (Heap.SameBut.update ..) ?_)
      rw [← hn']
      exact Heap.get?_update_self _ hL (by rw [hn']; rfl)
theorem lLenU {l : Addr} {vs : List Value} {n : Nat} (S : St h₀ L gi m u g s.heap) (hm : (l, lstO vs n) ∈ u) (hz : vs.length ≤ 1000) (h : Q (.int vs.length (s.toks + 1)) { s with toks := s.toks + 1 + 1 }) : wpAny (model prog w) A (call (.builtin "len") [.ref l]) Q E s := by
  refine call_len_list ⟨_, (S.un _ hm).1, rfl, _, rfl⟩ (by rw [List.size_toArray]; omega) ?_
  rw [List.size_toArray]; exact h
theorem strs_of : ∀ {vs : List Value} {texts : List Str}, DLs g vs (texts.map .str) → ∃ l : List (Str × Tok), vs = strValues l ∧ l.map (·.1) = texts
  | _, [], .nil => ⟨[], rfl, rfl⟩
  | _, x :: r, .cons (.str _ t) h => by
    obtain ⟨l, h1, h2⟩ := strs_of h
    exact ⟨(x, t) :: l, by rw [h1]; rfl, by rw [← h2]; rfl⟩
theorem joinU {l : Addr} {vs : List Value} {n : Nat} {x : Str} {t : Tok} {texts : List Str} (S : St h₀ L gi m u g s.heap) (hm : (l, lstO vs n) ∈ u) (D : DLs g vs (texts.map .str)) (hok : JoinOk x texts = true)
    (h : ∀ t' k, Q (.str (Txt.join x texts) t') { s with toks := k }) : wpAny (model prog w) A (call (.builtin "str.join") [.str x t, .ref l]) Q E s := by
  obtain ⟨ls, rfl, h2⟩ := strs_of D
  exact SC.join ⟨_, (S.un _ hm).1, rfl, _, rfl⟩ h2 hok h
end
/-- behind a call in which an exception may have been caught -/
structure Aft (outer : List Env) (h h' : Heap) : Prop where
  keep : ∀ b o, h.get? b = some o → b ∉ frs outer → h'.get? b = some o
  up : ∀ b ∈ frs outer, ∀ o, h.get? b = some o → (∀ vs, o.data ≠ .fields vs) → ∃ sl, h'.get? b = some { o with slots := sl }
  fr : FrP outer h'
theorem Aft.ext {outer : List Env} {h h' h'' : Heap} (x : Aft outer h h') (k : Ext h' h'') : Aft outer h h'' :=
  ⟨fun b o e hb => k _ _ (x.keep b o e hb), fun b hb o e hn => let ⟨sl, q⟩ := x.up b hb o e hn; ⟨sl, k _ _ q⟩, x.fr.ext k⟩
theorem Aft.of {outer : List Env} {h h' : Heap} (x : FrP outer h) (k : Ext h h') : Aft outer h h' :=
  ⟨fun b o e _ => k _ _ e, fun b _ o e _ => ⟨o.slots, k _ _ e⟩, x.ext k⟩
theorem Hx.call {A : Around} {outer : List Env} {s : Shared} {mg mb : Str → Option Value} {L a : Addr} {gi : Lg} {m : Str → Option Value} {u g : Lg} {cn : Str} {cs : Scope} {cd : Value} {cl : List (Str × Addr)} {h : Heap} {tk : Nat} (X : Hx A outer s mg mb) (hL : s.heap.get? L = none) (S : St s.heap L gi m u g h) (hk : cs.kind = .function := by rfl) :
    Hx (A.deeper (eX cn cs L a cd cl)) (eX cn cs L a cd cl :: outer) { s with heap := h, toks := tk } mg mb := by
  refine ⟨(X.cx.ext S.fr.keep).push S hk, X.wd.keeps fun b o e => ?_⟩
  have e1 := of_hideAll _ e
  refine hideAll_get _ (S.fr.keep b o e1) fun hm => ?_
  have hmem : b = L ∨ b ∈ frs outer := by simpa [frs] using hm
  rcases hmem with q | q
  · rw [q, hL] at e1; cases e1
  · rw [hideAll_none _ q] at e; cases e
end Mine
end
section
open PySem PySem.Builtin PySem.Builtin.Str PySem.StrLaws
namespace Mine
theorem str_inj {x y : Str} (h : x.cps.toList = y.cps.toList) : x = y := by
  cases x; cases y; simp only at h
  congr 1
  exact Array.toList_inj.mp h
theorem cat_list (x y : Str) : (x ++ y).cps.toList = x.cps.toList ++ y.cps.toList := by
  show (x.cps ++ y.cps).toList = _
  simp

/-! words, on lists of signs -/
def wgo : List Nat → Option (List Nat) → List (List Nat)
  | [], none => []
  | [], some w => [w]
  | c :: r, none => if Unicode.isSpace c then wgo r none else wgo r (some [c])
  | c :: r, some w => if Unicode.isSpace c then w :: wgo r none else wgo r (some (w ++ [c]))
def lst (x : Str) (i j : Nat) : List Nat := (x.cps.toList.drop i).take (j - i)
theorem sub_list (x : Str) (i j : Nat) : (strSub x i j).cps.toList = lst x i j := by
  simp [strSub, lst, Array.toList_extract, List.extract]
theorem lst_snoc (x : Str) {b cur : Nat} (hb : b ≤ cur) (hc : cur < x.length) : lst x b (cur + 1) = lst x b cur ++ [x.cps.getD cur 0] := by
  have hc' : cur < x.cps.toList.length := by simpa [Str.length] using hc
  unfold lst
  rw [show cur + 1 - b = (cur - b) + 1 by omega, List.take_add_one, List.getElem?_drop, show b + (cur - b) = cur by omega, List.getElem?_eq_getElem hc']
  simp [Array.getD, show cur < x.cps.size from hc]
theorem drop_cons (x : Str) {cur : Nat} (hc : cur < x.length) : x.cps.toList.drop cur = x.cps.getD cur 0 :: x.cps.toList.drop (cur + 1) := by
  have hc' : cur < x.cps.toList.length := by simpa [Str.length] using hc
  rw [List.drop_eq_getElem_cons hc']
  simp [Array.getD, show cur < x.cps.size from hc]
theorem sw_go (x : Str) : ∀ (m cur : Nat) (words : Array (Nat × Nat)) (start : Option Nat), cur + m = x.length → words.size ≤ cur → (∀ b, start = some b → b ≤ cur) →
    (swEnd x (forIn (List.range' cur m) ((none, words, start) : SwSt) (swBody x (x.length + 1))).run).map (fun p => lst x p.1 p.2) = words.toList.map (fun p => lst x p.1 p.2) ++ wgo (x.cps.toList.drop cur) (start.map fun b => lst x b cur)
  | 0, cur, words, start, hm, hw, hs => by
    have e : x.cps.toList.drop cur = [] := List.drop_eq_nil_of_le (by simp [Str.length] at hm ⊢; omega)
    rw [e]
    cases start with
    | none => simp [swEnd, wgo]
    | some b =>
      have : x.length = cur := by omega
      simp [swEnd, wgo, this]
  | m + 1, cur, words, start, hm, hw, hs => by
    have hc : cur < x.length := by omega
    rw [List.range'_succ, List.forIn_cons, drop_cons x hc]
    have hsz : ¬ ((words.size == x.length + 1) = true) := by rw [beq_iff_eq]; omega
    unfold swBody
    simp only [hsz, if_false]
    cases start with
    | none =>
      cases hsp : Unicode.isSpace (x.cps.getD cur 0)
      · have ih := sw_go x m (cur + 1) words (some cur) (by omega) (by omega) (fun b h => by cases h; omega)
        simp only [Option.map_some, Option.map_none, wgo, hsp] at ih ⊢
        rw [lst_snoc x (Nat.le_refl _) hc] at ih
        have e0 : lst x cur cur = [] := by simp [lst]
        rw [e0, List.nil_append] at ih
        exact ih
      · have ih := sw_go x m (cur + 1) words none (by omega) (by omega) (fun b h => by cases h)
        simp only [Option.map_none, wgo, hsp] at ih ⊢
        exact ih
    | some b =>
      have hb := hs b rfl
      cases hsp : Unicode.isSpace (x.cps.getD cur 0)
      · have ih := sw_go x m (cur + 1) words (some b) (by omega) (by omega) (fun b' h => by cases h; omega)
        simp only [Option.map_some, wgo, hsp] at ih ⊢
        rw [lst_snoc x hb hc] at ih
        exact ih
      · have ih := sw_go x m (cur + 1) (words.push (b, cur)) none (by omega) (by simp; omega) (fun b h => by cases h)
        simp only [Option.map_none, Option.map_some, wgo, hsp] at ih ⊢
        rw [Array.toList_push, List.map_append, List.append_assoc] at ih
        exact ih
theorem words_list (x : Str) : (Txt.words x).map (fun y => y.cps.toList) = wgo x.cps.toList none := by
  have key := sw_go x x.length 0 #[] none (by omega) (by simp) (fun b h => by cases h)
  rw [← sw_eq] at key
  simp only [List.drop_zero, Option.map_none, List.map_nil, List.nil_append] at key
  rw [← key]
  unfold Txt.words
  split
  · rename_i h
    rw [beq_iff_eq.mp h]
    simp only [List.map_cons, List.map_nil]
    congr 1
    simp only [lst, List.drop_zero, Nat.sub_zero]
    exact (List.take_of_length_le (by simp [Str.length])).symm
  · unfold wordsOf
    rw [List.map_map]
    exact List.map_congr_left fun p _ => sub_list x p.1 p.2
theorem map_inj {ls ls' : List Str} (h : ls.map (fun y => y.cps.toList) = ls'.map (fun y => y.cps.toList)) : ls = ls' := by
  induction ls generalizing ls' with
  | nil => cases ls' with | nil => rfl | cons _ _ => simp at h
  | cons a r ih => cases ls' with
    | nil => simp at h
    | cons b r' =>
      simp only [List.map_cons, List.cons.injEq] at h
      rw [str_inj h.1, ih h.2]
theorem words_eq {x : Str} {ls : List Str} (h : wgo x.cps.toList none = ls.map fun y => y.cps.toList) : Txt.words x = ls := map_inj ((words_list x).trans h)
def Solid (x : Str) : Prop := x.cps.toList ≠ [] ∧ ∀ c ∈ x.cps.toList, Unicode.isSpace c = false
theorem wgo_run : ∀ (a r w : List Nat), (∀ c ∈ a, Unicode.isSpace c = false) → wgo (a ++ r) (some w) = wgo r (some (w ++ a))
  | [], r, w, _ => by simp
  | c :: a, r, w, h => by
    simp only [List.cons_append, wgo, h c (.head _), Bool.false_eq_true, if_false]
    rw [wgo_run a r (w ++ [c]) fun d hd => h d (.tail _ hd)]
    simp
theorem wgo_word {x : Str} (hx : Solid x) (r : List Nat) : wgo (x.cps.toList ++ r) none = wgo r (some x.cps.toList) := by
  obtain ⟨h1, h2⟩ := hx
  cases e : x.cps.toList with
  | nil => exact absurd e h1
  | cons c a =>
    rw [e] at h2
    simp only [List.cons_append, wgo, h2 c (.head _), Bool.false_eq_true, if_false]
    rw [wgo_run a r [c] fun d hd => h2 d (.tail _ hd)]
    rfl
theorem wgo_end (w : List Nat) : wgo [] (some w) = [w] := rfl
theorem wgo_cut {c : Nat} (hc : Unicode.isSpace c = true) (r w : List Nat) : wgo (c :: r) (some w) = w :: wgo r none := by simp [wgo, hc]
theorem wgo_skip {c : Nat} (hc : Unicode.isSpace c = true) (r : List Nat) : wgo (c :: r) none = wgo r none := by simp [wgo, hc]

/-! lines -/
def jl (c : Nat) : List (List Nat) → List Nat
  | [] => []
  | [a] => a
  | a :: b :: r => a ++ c :: jl c (b :: r)
theorem join_list (c : Nat) : ∀ ls : List Str, (Str.join ⟨#[c]⟩ ls).cps.toList = jl c (ls.map fun y => y.cps.toList)
  | [] => rfl
  | [a] => rfl
  | a :: b :: r => by
    show (a ++ ⟨#[c]⟩ ++ Str.join ⟨#[c]⟩ (b :: r)).cps.toList = _
    rw [cat_list, cat_list, join_list c (b :: r)]
    simp [jl]
theorem cut_eq {c : Nat} : ∀ {a a' s s' : List Nat}, c ∉ a → c ∉ a' → a ++ c :: s = a' ++ c :: s' → a = a' ∧ s = s'
  | [], [], _, _, _, _, h => by simpa using h
  | [], x :: a', s, s', _, h2, h => by simp only [List.nil_append, List.cons_append, List.cons.injEq] at h; exact absurd (h.1 ▸ List.mem_cons_self ..) h2
  | x :: a, [], s, s', h1, _, h => by simp only [List.nil_append, List.cons_append, List.cons.injEq] at h; exact absurd (h.1 ▸ List.mem_cons_self ..) h1
  | x :: a, y :: a', s, s', h1, h2, h => by
    simp only [List.cons_append, List.cons.injEq] at h
    obtain ⟨e1, e2⟩ := cut_eq (fun m => h1 (.tail _ m)) (fun m => h2 (.tail _ m)) h.2
    exact ⟨by rw [h.1, e1], e2⟩
theorem jl_inj {c : Nat} : ∀ {ls ls' : List (List Nat)}, ls ≠ [] → ls' ≠ [] → (∀ a ∈ ls, c ∉ a) → (∀ a ∈ ls', c ∉ a) → jl c ls = jl c ls' → ls = ls'
  | [], _, h, _, _, _, _ => absurd rfl h
  | _, [], _, h, _, _, _ => absurd rfl h
  | [a], [b], _, _, _, _, h => by simpa [jl] using h
  | [a], b :: b' :: r, _, _, h1, _, h => by
    simp only [jl] at h
    exact absurd (by rw [h]; simp) (h1 a (.head _))
  | a :: a' :: r, [b], _, _, _, h1, h => by
    simp only [jl] at h
    exact absurd (by rw [← h]; simp) (h1 b (.head _))
  | a :: a' :: r, b :: b' :: r', _, _, h1, h2, h => by
    simp only [jl] at h
    obtain ⟨e1, e2⟩ := cut_eq (h1 a (.head _)) (h2 b (.head _)) h
    have := jl_inj (by simp) (by simp) (fun x hx => h1 x (.tail _ hx)) (fun x hx => h2 x (.tail _ hx)) e2
    rw [e1, this]
theorem split_ne (x y : Str) : Txt.split x y ≠ [] := by
  unfold Txt.split
  split
  · simp
  · split
    · simp
    · rw [partsBetween_eq]
      obtain ⟨p, q, e⟩ := partsFrom_ne x y.length 0 (occurrences x y 0 x.length (x.length + 1))
      rw [e]; simp
theorem split_join {c : Nat} {ls : List Str} (hne : ls ≠ []) (hf : ∀ l ∈ ls, c ∉ l.cps.toList) : Txt.split (Txt.join ⟨#[c]⟩ ls) ⟨#[c]⟩ = ls := by
  have e : Txt.join ⟨#[c]⟩ ls = Str.join ⟨#[c]⟩ ls := glued_eq_join _ _
  rw [e]
  generalize hx : Str.join ⟨#[c]⟩ ls = x
  apply map_inj
  refine jl_inj (c := c) (by simpa using split_ne x _) (by simpa using hne) ?_ ?_ ?_
  · intro a ha
    obtain ⟨p, hp, rfl⟩ := List.mem_map.mp ha
    exact split_free x c p hp
  · intro a ha
    obtain ⟨p, hp, rfl⟩ := List.mem_map.mp ha
    exact hf p hp
  · rw [← join_list, ← join_list, join_split, hx]
end Mine
end
section
open PySem PyProof.Rows PySem.Calls PySem.W PySem.Builtin PySem.Builtin.Str PySem.StrLaws
set_option maxRecDepth 100000
namespace Mine
theorem hex_lt (n : Nat) : ∀ d ∈ (Nat.toDigits 16 n).map Char.toNat, d < 16 ^ 8 := by
  intro d hd
  obtain ⟨c, _, rfl⟩ := List.mem_map.mp hd
  exact c.val.toNat_lt
theorem reprChar_lt {q c : Nat} (hq : q < 16 ^ 8) (hc : c < 16 ^ 8) : ∀ d ∈ reprChar q c, d < 16 ^ 8 := by
  have hx := hex_lt c
  intro d hd
  unfold reprChar at hd
  dsimp only at hd
  have k48 : (48 : Nat) < 16 ^ 8 := by decide
  have k92 : (92 : Nat) < 16 ^ 8 := by decide
  have small : ∀ l : List Nat, (∀ y ∈ l, y < 16 ^ 8) → d ∈ l → d < 16 ^ 8 := fun l h m => h d m
  repeat' split at hd
  all_goals first
    | (simp only [List.mem_cons, List.not_mem_nil, or_false] at hd; rcases hd with rfl | rfl <;> first | assumption | decide)
    | (simp only [List.mem_cons, List.not_mem_nil, or_false] at hd; rw [hd]; assumption)
    | (rcases List.mem_append.mp hd with h | h
       · simp only [List.mem_cons, List.not_mem_nil, or_false] at h; rcases h with rfl | rfl <;> decide
       · rcases List.mem_append.mp h with h | h
         · rw [(List.mem_replicate.mp h).2]; decide
         · exact hx d h)
theorem foldl_repr_lt {q : Nat} (hq : q < 16 ^ 8) : ∀ (l : List Nat) (acc : Array Nat), (∀ c ∈ l, c < 16 ^ 8) → (∀ c ∈ acc.toList, c < 16 ^ 8) → ∀ d ∈ (l.foldl (fun out c => out ++ (reprChar q c).toArray) acc).toList, d < 16 ^ 8
  | [], acc, _, h => h
  | c :: r, acc, hl, h => by
    refine foldl_repr_lt hq r _ (fun d hd => hl d (.tail _ hd)) fun d hd => ?_
    rw [Array.toList_append] at hd
    rcases List.mem_append.mp hd with hd | hd
    · exact h d hd
    · exact reprChar_lt hq (hl c (.head _)) d (by simpa using hd)
theorem sane_of {x : Str} (hl : x.length ≤ 5000) (hx : ∀ c ∈ x.cps.toList, c < 16 ^ 8) : Sane x := by
  refine ⟨hl, hx, ?_⟩
  have hq : reprQuote x < 16 ^ 8 := by unfold reprQuote; split <;> decide
  intro d hd
  unfold reprText at hd
  replace hd : d ∈ ((x.cps.foldl (fun out c => out ++ (reprChar (reprQuote x) c).toArray) #[reprQuote x]).push (reprQuote x)).toList := hd
  rw [Array.toList_push, ← Array.foldl_toList] at hd
  rcases List.mem_append.mp hd with hd | hd
  · exact foldl_repr_lt hq _ _ hx (by intro c hc; simp at hc; rw [hc]; exact hq) d hd
  · rw [List.mem_singleton.mp hd]; exact hq
theorem slice_sane {x : Str} (l u : Option Int) (hl : x.length ≤ 5000) (hx : ∀ c ∈ x.cps.toList, c < 16 ^ 8) : Sane (Txt.slice x l u) := by
  refine sane_of (Nat.le_trans (Txt.slice_le x l u) hl) ?_
  unfold Txt.slice
  split
  · exact hx
  · intro c hc
    simp only [List.mem_filterMap] at hc
    obtain ⟨i, _, hi⟩ := hc
    exact hx c (by rw [Array.mem_toList_iff]; exact Array.mem_of_getElem? hi)
theorem wordOk_of {x : Str} (hl : x.length ≤ 5000) (hx : ∀ c ∈ x.cps.toList, c < 16 ^ 8) (hn : (Txt.isascii (Txt.removeprefix x "-") && Txt.isdigit (Txt.removeprefix x "-")) = true → (zless x).length ≤ 19 → (PySem.intText? (numT x)).isSome = true) : Sane x ∧ NumT x :=
  ⟨sane_of hl hx, hl, slice_sane _ _ hl hx, hn⟩
end Mine
end
section
open PySem PyProof.Rows PySem.Calls PySem.W PySem.Builtin PySem.Builtin.Str PySem.StrLaws
set_option maxRecDepth 100000
namespace Mine
abbrev Ln := Str × List Dt × Option Str
def opD (q : Str × Str × Int) : Dt := .tuple [.str q.1, .str q.2.1, .int q.2.2]
def opP (q : Str × Str × Int) : PyData := .tuple [.str q.1, .str q.2.1, .int q.2.2]
theorem ofP_op (q : Str × Str × Int) : ofP (opP q) = opD q := by simp [opP, opD, ofP, ofPs]
theorem ofP_ops (qs : List (Str × Str × Int)) : ofP (.list (qs.map opP)) = .list (qs.map opD) := by
  simp only [ofP]
  congr 1
  induction qs with
  | nil => rfl
  | cons q r ih => simp only [List.map_cons, ofPs, ih, ofP_op]
def opOk (q : Str × Str × Int) : Bool := PyData.strOk q.1 && PyData.strOk q.2.1
structure LineOk (p : Ln) : Prop where
  len : p.1.length ≤ 6000
  free : 10 ∉ p.1.cps.toList
  nw : (Txt.words p.1).length ≤ 100
  ws : ∀ y ∈ Txt.words p.1, Sane y ∧ NumT y
  flen : ∀ f, p.2.2 = some f → f.length ≤ 1000000
  olen : p.2.1.length ≤ 1
  good : p.2.2 = none → lineRes (Txt.words p.1) = some p.2.1 ∧ ∃ qs : List (Str × Str × Int), p.2.1 = qs.map opD ∧ ∀ q ∈ qs, opOk q = true
  bad : ∀ f, p.2.2 = some f → lineRes (Txt.words p.1) = none ∧ ∀ tail, badTail (Txt.words p.1) tail → f = Str.ofString "" ∨ tail = f

/-! the whole sheet -/
def placeMsg (k : Int) (f : Str) : Str := Str.ofString "line " ++ itoa k ++ Str.ofString ": " ++ f
def plc : Nat → List Ln → Option Str
  | _, [] => none
  | k, p :: r => match p.2.2 with | some f => some (placeMsg ((k : Int) + 1) f) | none => plc (k + 1) r
def wantL (ps : List Ln) : List Dt := ps.flatMap fun p => if p.2.2 = none then p.2.1 else []
theorem plc_snoc (p : Ln) : ∀ (k : Nat) (ps : List Ln), plc k (ps ++ [p]) = (plc k ps).or (p.2.2.map (placeMsg ((k + ps.length : Nat) + 1 : Int)))
  | k, [] => by cases h : p.2.2 <;> simp [plc, h]
  | k, q :: r => by
    have ih := plc_snoc p (k + 1) r
    simp only [List.cons_append, plc]
    cases q.2.2 with
    | some f => simp
    | none =>
      simp only [ih, List.length_cons]
      rw [show k + 1 + r.length = k + (r.length + 1) by omega]
theorem wantL_snoc (ps : List Ln) (p : Ln) : wantL (ps ++ [p]) = wantL ps ++ if p.2.2 = none then p.2.1 else [] := by simp [wantL]
theorem plc_none : ∀ {k : Nat} {ps : List Ln}, plc k ps = none → ∀ p ∈ ps, p.2.2 = none
  | k, p :: r, h, q, hq => by
    simp only [plc] at h
    cases hf : p.2.2 with
    | some f => rw [hf] at h; cases h
    | none =>
      rw [hf] at h
      rcases List.mem_cons.mp hq with rfl | hq
      · exact hf
      · exact plc_none h q hq
theorem all_good : ∀ {ps : List Ln}, (∀ p ∈ ps, LineOk p) → (∀ p ∈ ps, p.2.2 = none) → allRes (ps.map (·.1)) = some (wantL ps)
  | [], _, _ => rfl
  | p :: r, hO, hN => by
    have ih := all_good (fun q hq => hO q (.tail _ hq)) (fun q hq => hN q (.tail _ hq))
    have h1 := ((hO p (.head _)).good (hN p (.head _))).1
    simp only [List.map_cons, allRes, ih, h1, wantL, List.flatMap_cons, hN p (.head _), if_true]
    rfl
theorem all_some : ∀ {ps : List Ln} {ops : List Dt}, (∀ p ∈ ps, LineOk p) → allRes (ps.map (·.1)) = some ops → ∀ p ∈ ps, p.2.2 = none
  | p :: r, ops, hO, h, q, hq => by
    simp only [List.map_cons, allRes] at h
    cases hf : p.2.2 with
    | some f =>
      rw [((hO p (.head _)).bad f hf).1] at h
      cases h
    | none =>
      rw [((hO p (.head _)).good hf).1] at h
      rcases List.mem_cons.mp hq with rfl | hq
      · exact hf
      · cases hr : allRes (r.map (·.1)) with
        | none => rw [hr] at h; cases h
        | some a => exact all_some (fun q hq => hO q (.tail _ hq)) hr q hq
theorem plc_all : ∀ {k : Nat} {ps : List Ln}, (∀ p ∈ ps, p.2.2 = none) → plc k ps = none
  | _, [], _ => rfl
  | k, p :: r, h => by
    simp only [plc, h p (.head _)]
    exact plc_all fun q hq => h q (.tail _ hq)
theorem plc_at : ∀ {k i : Nat} {ps : List Ln} {p : Ln} {f : Str}, (∀ q ∈ ps.take i, q.2.2 = none) → ps[i]? = some p → p.2.2 = some f → plc k ps = some (placeMsg ((k + i : Nat) + 1 : Int) f)
  | k, 0, q :: r, p, f, _, h, hf => by
    simp at h; subst h
    simp [plc, hf]
  | k, i + 1, q :: r, p, f, hN, h, hf => by
    have h1 := hN q (by simp)
    have ih := plc_at (k := k + 1) (i := i) (ps := r) (p := p) (f := f) (fun x hx => hN x (by simp [hx])) (by simpa using h) hf
    simp only [plc, h1, ih]
    rw [show k + 1 + i = k + (i + 1) by omega]
theorem starts_app (y z : Str) : Txt.startswith (y ++ z) y = true := by
  unfold Txt.startswith subAt
  have h1 : (y ++ z).length = y.length + z.length := len_app y z
  rw [Bool.and_eq_true]
  refine ⟨by simp [h1], ?_⟩
  rw [beq_iff_eq]
  apply Array.toList_inj.mp
  have e : (y ++ z).cps.toList = y.cps.toList ++ z.cps.toList := cat_list y z
  have hl : y.length = y.cps.toList.length := by simp [Str.length]
  simp [Array.toList_extract, List.extract, e, hl]
theorem empty_app (x : Str) : Str.empty ++ x = x := str_inj (by rw [cat_list]; rfl)
theorem app_empty (x : Str) : x ++ Str.ofString "" = x := str_inj (by rw [cat_list]; show _ ++ [] = _; simp)
theorem starts_line {k : Int} {f tail : Str} (h : f = Str.ofString "" ∨ tail = f) : Txt.startswith (lineMsg k tail) (placeMsg k f) = true := by
  have e : lineMsg k tail = Str.ofString "line " ++ itoa k ++ Str.ofString ": " ++ tail := by unfold lineMsg; rw [empty_app]
  rw [e]
  unfold placeMsg
  rcases h with rfl | rfl
  · rw [app_empty]; exact starts_app _ _
  · have := starts_app (Str.ofString "line " ++ itoa k ++ Str.ofString ": " ++ tail) (Str.ofString "")
    rw [app_empty] at this; exact this
def nl : Str := Str.ofString "\n"
theorem nl_eq : nl = ⟨#[10]⟩ := by decide
/-- what the sheet's lines are -/
theorem sheet_lines {ps : List Ln} (hO : ∀ p ∈ ps, LineOk p) : (ps = [] ∧ Txt.split (Txt.join nl (ps.map (·.1))) nl = [Str.ofString ""]) ∨ (ps ≠ [] ∧ Txt.split (Txt.join nl (ps.map (·.1))) nl = ps.map (·.1)) := by
  by_cases h : ps = []
  · subst h; exact .inl ⟨rfl, by decide +kernel⟩
  · refine .inr ⟨h, ?_⟩
    rw [nl_eq]
    refine split_join (by simpa using h) fun l hl => ?_
    obtain ⟨p, hp, rfl⟩ := List.mem_map.mp hl
    exact (hO p hp).free
theorem empty_words : Txt.words (Str.ofString "") = [] := by decide +kernel
theorem sheet_ok {ps : List Ln} (hO : ∀ p ∈ ps, LineOk p) {ops : List Dt} (h : allRes (Txt.split (Txt.join nl (ps.map (·.1))) nl) = some ops) : plc 0 ps = none ∧ ops = wantL ps := by
  rcases sheet_lines hO with ⟨rfl, e⟩ | ⟨hne, e⟩
  · rw [e] at h
    simp only [allRes, empty_words, lineRes] at h
    cases h
    exact ⟨rfl, rfl⟩
  · rw [e] at h
    have hN := all_some hO h
    refine ⟨plc_all hN, ?_⟩
    rw [all_good hO hN] at h
    exact (Option.some.inj h).symm
theorem sheet_bad {ps : List Ln} (hO : ∀ p ∈ ps, LineOk p) {i : Nat} {l tail : Str} {ops : List Dt} (hl : (Txt.split (Txt.join nl (ps.map (·.1))) nl)[i]? = some l) (hr : allRes ((Txt.split (Txt.join nl (ps.map (·.1))) nl).take i) = some ops) (hb : lineRes (Txt.words l) = none) (ht : badTail (Txt.words l) tail) :
    ∃ pl, plc 0 ps = some pl ∧ Txt.startswith (lineMsg ((i : Int) + 1) tail) pl = true := by
  rcases sheet_lines hO with ⟨rfl, e⟩ | ⟨hne, e⟩
  · exfalso
    rw [e] at hl
    cases i with
    | zero =>
      simp at hl; subst hl
      rw [empty_words] at hb
      simp [lineRes] at hb
    | succ i => simp at hl
  · rw [e] at hl hr
    rw [List.getElem?_map, Option.map_eq_some_iff] at hl
    obtain ⟨p, hp, rfl⟩ := hl
    rw [← List.map_take] at hr
    have hN := all_some (fun q hq => hO q (List.mem_of_mem_take hq)) hr
    have hpO := hO p (List.mem_of_getElem? hp)
    cases hf : p.2.2 with
    | none => rw [(hpO.good hf).1] at hb; cases hb
    | some f =>
      refine ⟨_, plc_at hN hp hf, ?_⟩
      rw [Nat.zero_add]
      exact starts_line ((hpO.bad f hf).2 tail ht)
theorem want_ops : ∀ {ps : List Ln}, (∀ p ∈ ps, LineOk p) → ∃ qs : List (Str × Str × Int), wantL ps = qs.map opD ∧ ∀ q ∈ qs, opOk q = true
  | [], _ => ⟨[], rfl, fun _ h => nomatch h⟩
  | p :: r, hO => by
    obtain ⟨qs, h1, h2⟩ := want_ops (ps := r) fun q hq => hO q (.tail _ hq)
    cases hf : p.2.2 with
    | none =>
      obtain ⟨_, qs', h3, h4⟩ := (hO p (.head _)).good hf
      refine ⟨qs' ++ qs, ?_, fun q hq => (List.mem_append.mp hq).elim (h4 q) (h2 q)⟩
      have : wantL (p :: r) = p.2.1 ++ wantL r := by simp [wantL, hf]
      rw [this, h1, h3, List.map_append]
    | some f =>
      refine ⟨qs, ?_, h2⟩
      have : wantL (p :: r) = wantL r := by simp [wantL, hf]
      rw [this, h1]
theorem want_len : ∀ {ps : List Ln}, (∀ p ∈ ps, LineOk p) → (wantL ps).length ≤ ps.length
  | [], _ => Nat.le_refl _
  | p :: r, hO => by
    have ih := want_len (ps := r) fun q hq => hO q (.tail _ hq)
    have h1 := (hO p (.head _)).olen
    have : wantL (p :: r) = (if p.2.2 = none then p.2.1 else []) ++ wantL r := by simp [wantL]
    rw [this, List.length_append, List.length_cons]
    split <;> simp <;> omega
theorem ops_shaped {qs : List (Str × Str × Int)} (h : ∀ q ∈ qs, opOk q = true) : PySem.SeqAt.shaped (.list (qs.map opP)) = true := by
  have h1 : PyData.canLayAll0 (qs.map opP) = true := by
    induction qs with
    | nil => simp [PyData.canLayAll0]
    | cons q r ih =>
      have e1 := h q (.head _)
      have e2 := ih fun x hx => h x (.tail _ hx)
      simp only [opOk, Bool.and_eq_true] at e1
      simp [PyData.canLayAll0, opP, PyData.canLay0, e1.1, e1.2, e2]
  have h2 : PyData.depthAll (qs.map opP) ≤ 3 := by
    clear h h1
    induction qs with
    | nil => simp [PyData.depthAll]
    | cons q r ih => simp [PyData.depthAll, opP, PyData.depth] at ih ⊢; omega
  simp [PySem.SeqAt.shaped, PyData.canLay0, h1, PyData.depth]; omega
theorem ops_eqv (qs : List (Str × Str × Int)) : PyData.eqv (.list (qs.map opP)) (.list (qs.map opP)) = true := by
  simp only [PyData.eqv]
  induction qs with
  | nil => simp [PyData.eqvAll]
  | cons q r ih => simp [PyData.eqvAll, opP, PyData.eqv] at ih ⊢; exact ih
end Mine
end
section
open PySem PyProof.Rows PySem.Calls PySem.W
set_option maxRecDepth 100000
namespace Mine
abbrev Row := Int × Int × Int × Int
def rowQ (r : Row) : Dt := .tuple [.int r.1, .int r.2.1, .int r.2.2.1, .int r.2.2.2]
def fm (x b : Int) : Nat := (x.fmod b).toNat
theorem fm_eq {x b : Int} (hb : 0 < b) : x.fmod b = (fm x b : Int) := by
  unfold fm
  have := Int.fmod_nonneg_of_pos x hb
  omega
noncomputable def lineR (w0 w1 w2 : Nat) (r : Row) : Ln := lineT (fm r.1 (6 + 6 * w0)) (fm r.2.1 (5 + 2 * w1)) (fm r.2.2.1 (4 + 8 * w2)) (fm r.2.2.2 (6 + 3 * w2)) (fm r.2.2.2 8)

section
variable {prog : Program} {w : World} {A : Around} {E : Value → Shared → Prop} {s : Shared} {mg mb : Str → Option Value} {a : Addr} {Q : Value → Shared → Prop} {outer : List Env} {g : Lg} {rv wv : Value} {rows : List Row} {w0 w1 w2 : Nat}
set_option maxHeartbeats 4000000 in
theorem law_trace_spec (hA : OkA A 6) (X : Hx A outer s mg mb) (W : Wd mg mb s.heap) (ha : mg (fdAt 25).name = some (.ref a))
    (hg : ∀ p ∈ g, s.heap.get? p.1 = some p.2) (hgo : ∀ p ∈ g, p.1 ∉ frs outer) (hT : ∀ p ∈ tabL, ∃ v, mg p.1 = some v ∧ DL g v p.2) (DR : DL g rv (.list (rows.map rowQ))) (DW : DL g wv (.tuple [.int w0, .int w1, .int w2]))
    (hr : rows.length ≤ 4) (h0 : w0 ≤ 1) (h1 : w1 ≤ 1) (h2 : w2 ≤ 1) (NO : ∀ nf sz e8, nf < 12 → sz < 9 → e8 < 8 → NumOk nf sz e8) (LO : ∀ r : Row, LineOk (lineR w0 w1 w2 r))
    (hk : ∀ h' tk, Aft outer s.heap h' → Q (.bool true) { s with heap := h', toks := tk }) :
    wpAny (model prog w) A (call (.ref a) [rv, wv]) Q E s := by
  obtain ⟨of, pm, cd, dc, fn⟩ := fn_of W (i := 25) (by decide) ha
  obtain ⟨a23, o23, pm23, cd23, dc23, e23, f23⟩ := W.fn 23 (by decide)
  obtain ⟨a24, o24, pm24, cd24, dc24, e24, f24⟩ := W.fn 24 (by decide)
  obtain ⟨a9, o9, pm9, cd9, dc9, e9, f9⟩ := W.fn 9 (by decide)
  refine enterX (i := 25) (n := 5) (hb := s.heap) (u := []) (g := g) (binds := [("rows", rv), ("wild", wv)]) hA fn W.nolimit (Ext.refl _) (Nat.le_refl _)
    (fun _ h => nomatch h) hg (fun _ _ _ h => nomatch h) (by simp) rfl ?_
  intro L h₁ tk hL hx₁ S hA'
  have big : (1100000 : Nat) ≤ sizeLine := by decide
  conv in (fdAt 25).body => whnf
  have restB : ∀ (H : Heap) (m : Str → Option Value) (h : Heap) (tk : Nat) (gg : Lg) (xv : Value) (sd pl : Str) (t1 t2 : Tok), Wd mg mb H → St H L g m [] gg h → Aft outer s.heap h → m "got" = some .none → m "said" = some (.str sd t1) → m "want" = some xv → m "place" = some (.str pl t2) → Txt.startswith sd pl = true →
      wpAny (model prog w) (A.deeper (eX (fdAt 25).name (fdAt 25).scope L a cd [])) (execs ((fdAt 25).body.drop 8) (eX (fdAt 25).name (fdAt 25).scope L a cd []))
        (fun fl s' => Q (match fl with | .ret v => v | _ => .none) s') (LE (model prog w) (A.deeper (eX (fdAt 25).name (fdAt 25).scope L a cd [])) (eX (fdAt 25).name (fdAt 25).scope L a cd []) E) { s with heap := h, toks := tk } := by
    intro H m h tk gg xv sd pl t1 t2 W' S' af q1 q2 q3 q4 hst
    conv in (List.drop 8 (fdAt 25).body) => whnf
    obtain ⟨o24', pm24', cd24', dc24', f24'⟩ := fn_of W' (i := 24) (by decide) e24
    refine wpAny_execs_cons (wpAny_If (wpAny_isTrue_Compare1 (callU (o := o24') (fd := docF 24 pm24' cd24' dc24') (nmG S' W' e24 ⟨rfl, wpAny_items_cons (nmL S' q1 (wpAny_items_cons (nmL S' q2 (wpAny_items_cons (nmL S' q3 (wpAny_items_cons (nmL S' q4 (wpAny_items_nil ⟨⟨S'.fr.keep _ _ f24'.at_, f24'.d⟩, ?_⟩))))))))⟩))))
    refine law_judge_some (s := { s with heap := h, toks := tk }) (hA'.less (by omega)) (W'.keeps S'.fr.keep) e24 hst fun h' tk' hx' => ?_
    have S'' := S'.ext hx'
    dsimp only
    refine wpAny_Constant_bool (wpAny_isNot_self rfl (wpAny_truthy_bool ?_))
    refine wpAny_execs_nil ?_
    refine wpAny_execs_cons (wpAny_If (wpAny_isTrue_Compare1 (nmL S'' q4 (wpAny_Constant_none (wpAny_is_other rfl (by intro h; cases h) (wpAny_truthy_bool ?_))))))
    refine wpAny_execs_nil ?_
    exact wpAny_execs_cons (wpAny_Return_some (wpAny_Constant_bool (hk _ _ (af.ext hx'))))
  have restO : ∀ (m : Str → Option Value) (h : Heap) (tk : Nat) (gg : Lg) (gv sv xv : Value) (qs : List (Str × Str × Int)), St s.heap L g m [] gg h → (∀ q ∈ qs, opOk q = true) → qs.length ≤ 4 → m "got" = some gv → m "said" = some sv → m "want" = some xv → m "place" = some .none → DL gg gv (.list (qs.map opD)) → DL gg xv (.list (qs.map opD)) →
      wpAny (model prog w) (A.deeper (eX (fdAt 25).name (fdAt 25).scope L a cd [])) (execs ((fdAt 25).body.drop 8) (eX (fdAt 25).name (fdAt 25).scope L a cd []))
        (fun fl s' => Q (match fl with | .ret v => v | _ => .none) s') (LE (model prog w) (A.deeper (eX (fdAt 25).name (fdAt 25).scope L a cd [])) (eX (fdAt 25).name (fdAt 25).scope L a cd []) E) { s with heap := h, toks := tk } := by
    intro m h tk gg gv sv xv qs S' hq hql q1 q2 q3 q4 Dg Dx
    conv in (List.drop 8 (fdAt 25).body) => whnf
    refine wpAny_execs_cons (wpAny_If (wpAny_isTrue_Compare1 (callU (o := o24) (fd := docF 24 pm24 cd24 dc24) (nmG S' W e24 ⟨rfl, wpAny_items_cons (nmL S' q1 (wpAny_items_cons (nmL S' q2 (wpAny_items_cons (nmL S' q3 (wpAny_items_cons (nmL S' q4 (wpAny_items_nil ⟨⟨S'.fr.keep _ _ f24.at_, f24.d⟩, ?_⟩))))))))⟩))))
    refine law_judge_none (s := { s with heap := h, toks := tk }) (hA'.less (by omega)) (W.keeps S'.fr.keep) e24 (fun A' E' Q' h' tk' hA₂ hx' hQ => ?_) fun h' tk' hx' => ?_
    · exact cmpNeP (s := { s with heap := h', toks := tk' }) (g := gg) hA₂ (fun p hp => hx' _ _ (S'.led p hp).1) (by rw [ofP_ops]; exact Dg) (by rw [ofP_ops]; exact Dx) (ops_shaped hq) (ops_eqv qs) hQ
    have S'' := S'.ext hx'
    dsimp only
    refine wpAny_Constant_bool (wpAny_isNot_self rfl (wpAny_truthy_bool ?_))
    refine wpAny_execs_nil ?_
    refine wpAny_execs_cons (wpAny_If (wpAny_isTrue_Compare1 (nmL S'' q4 (wpAny_Constant_none (wpAny_is_self rfl (wpAny_truthy_bool ?_))))))
    refine wpAny_execs_cons (wpAny_For (nmL S'' q1 (forL (fun i m u g' => u = []) hA'.hd S'' Dg rfl (lets_name _ _) ?_ ?_)))
    · rintro i d v m' u' g' h₃ tk₃ I io hd hv hsub rfl S₃
      have hi : i < qs.length := by have := (List.getElem?_eq_some_iff.mp hd).1; simpa using this
      have hop : d = opD qs[i] := by rw [List.getElem?_map, List.getElem?_eq_getElem hi] at hd; exact (Option.some.inj hd).symm
      subst hop
      refine wpAny_assign_Name (stL S₃ fun h₄ S₄ => ?_)
      dsimp only
      refine wpAny_execs_cons (wpAny_If (isTrue_not (wpAny_isTrue_Compare1 (callT "type" (nmB S₄ W (W.free _ (by decide)) rfl ⟨rfl, wpAny_items_cons (Subscript_ (nmL S₄ upd_eq (wpAny_Constant_int (sbT (i := 2) (d := .int qs[i].2.2) S₄ (hv.mono hsub) rfl (by simp) fun v' hv' => ?_))))⟩)))))
      cases hv'
      refine wpAny_items_nil (call_type_of (Tx := "int") rfl rfl (nmB S₄ W (W.free _ (by decide)) rfl (wpAny_is_self rfl (wpAny_truthy_bool ?_))))
      refine wpAny_execs_nil (wpAny_execs_nil ?_)
      exact TurnEnd.next ⟨hsub, rfl⟩ S₄
    · rintro m' u' g' h₃ tk₃ hsub rfl S₃
      refine wpAny_execs_nil ?_
      exact wpAny_execs_cons (wpAny_Return_some (wpAny_Constant_bool (hk _ _ (Aft.of X.cx.ok S₃.fr.keep))))
  refine wpAny_execs_cons (wpAny_Assign_Name (List_ (wpAny_items_nil (mkLstU S (by simp) fun h₂ ll S₂ => stL S₂ fun h₃ S₃ => ?_))))
  dsimp only
  refine wpAny_execs_cons (wpAny_Assign_Name (List_ (wpAny_items_nil (mkLstU S₃ (by simp) fun h₄ wl S₄ => stL S₄ fun h₅ S₅ => ?_))))
  dsimp only
  refine wpAny_execs_cons (wpAny_Assign_Name (wpAny_Constant_none (stL S₅ fun h₆ S₆ => ?_)))
  dsimp only
  obtain ⟨LR, hLR⟩ : ∃ LR, LR = lineR w0 w1 w2 := ⟨_, rfl⟩
  rw [← hLR] at LO
  refine wpAny_execs_cons (wpAny_For (nmL S₆ rfl (forL
    (fun i m u g' => ∃ lv ln xs xn pv, u = [(wl, lstO xs xn), (ll, lstO lv ln)] ∧ m "lines" = some (.ref ll) ∧ m "want" = some (.ref wl) ∧ m "place" = some pv ∧ m "wild" = some wv ∧
      DLs g' lv (((rows.take i).map fun r => (LR r).1).map .str) ∧ DLs g' xs (wantL ((rows.take i).map LR)) ∧ DL [] pv (optD (plc 0 ((rows.take i).map LR))))
    hA'.hd S₆ DR ⟨[], 0, [], 0, .none, rfl, rfl, rfl, rfl, rfl, .nil, .nil, .none⟩ (lets_tuple _ _ _) ?_ ?_)))
  · rintro i d v m u g' h tk₁ I io hd hv hsub ⟨lv, ln, xs, xn, pv, rfl, m1, m2, m3, m4, Dl, Dx, Dp⟩ S₇
    have hi : i < rows.length := by have := (List.getElem?_eq_some_iff.mp hd).1; simpa using this
    obtain ⟨r, hr'⟩ : ∃ r, rows[i]? = some r := ⟨_, List.getElem?_eq_getElem hi⟩
    have hop : d = rowQ r := by rw [List.getElem?_map, hr'] at hd; exact (Option.some.inj hd).symm
    subst hop
    have htk : rows.take (i + 1) = rows.take i ++ [r] := by rw [List.take_add_one, hr']; rfl
    have hLl : lv.length = i := by rw [Dl.length]; simp; omega
    have hXl : xs.length ≤ i := by
      rw [Dx.length]
      have := want_len (ps := (rows.take i).map LR) (fun p hp => by obtain ⟨r, _, rfl⟩ := List.mem_map.mp hp; exact LO r)
      rw [List.length_map, List.length_take] at this; omega
    refine unT hA'.hd S₇ (hv.mono hsub) rfl fun vs₈ h₈ D₈ S₈ => ?_
    cases D₈ with | cons d1 D₈ => cases D₈ with | cons d2 D₈ => cases D₈ with | cons d3 D₈ => cases D₈ with | cons d4 D₈ => cases D₈ with | nil =>
    cases d1
    cases d2
    cases d3
    cases d4
    refine assignInOrder_cons (wpAny_assign_Name (stL S₈ fun h₉ S₉ => assignInOrder_cons (wpAny_assign_Name (stL S₉ fun h₁₀ S₁₀ => assignInOrder_cons (wpAny_assign_Name (stL S₁₀ fun h₁₁ S₁₁ => assignInOrder_cons (wpAny_assign_Name (stL S₁₁ fun h₁₂ S₁₂ => assignInOrder_nil ?_))))))))
    dsimp only
    have n4 : ∀ {x : Str} {v : Value}, m x = some v → x ≠ "kind" → x ≠ "name" → x ≠ "pick" → x ≠ "size" → ∀ {v1 v2 v3 v4 : Value}, upd (upd (upd (upd m "kind" v1) "name" v2) "pick" v3) "size" v4 x = some v := fun h a b c d => upd_ne d (upd_ne c (upd_ne b (upd_ne a h)))
    refine wpAny_execs_cons (Assign_Tuple (callU (o := o23) (fd := docF 23 pm23 cd23 dc23) (nmG S₁₂ W e23 ⟨rfl, wpAny_items_cons (nmL S₁₂ rfl (wpAny_items_cons (nmL S₁₂ rfl (wpAny_items_cons (nmL S₁₂ rfl (wpAny_items_cons (nmL S₁₂ rfl (wpAny_items_cons (nmL S₁₂ (n4 m4 (by decide) (by decide) (by decide) (by decide)) (wpAny_items_nil ⟨⟨S₁₂.fr.keep _ _ f23.at_, f23.d⟩, ?_⟩))))))))))⟩)))
    dsimp only
    have lt12 : fm r.2.2.1 (4 + 8 * w2) < 12 := by
      have h1 := Int.fmod_lt_of_pos r.2.2.1 (b := 4 + 8 * (w2 : Int)) (by omega)
      unfold fm; omega
    have lt9 : fm r.2.2.2 (6 + 3 * w2) < 9 := by
      have h1 := Int.fmod_lt_of_pos r.2.2.2 (b := 6 + 3 * (w2 : Int)) (by omega)
      unfold fm; omega
    have lt8 : fm r.2.2.2 8 < 8 := by
      have h1 := Int.fmod_lt_of_pos r.2.2.2 (b := 8) (by omega)
      unfold fm; omega
    refine law_line_spec (s := { s with heap := h₁₂, toks := _ }) (g := g') (hA'.less (by omega)) (W.keeps S₁₂.fr.keep) e23 (fun p hp => (S₁₂.led p hp).1) (fun p hp => let ⟨v, q1, q2⟩ := hT p hp; ⟨v, q1, q2.mono hsub⟩) (DW.mono hsub) h0 h1 h2 (fm_eq (by omega)) (fm_eq (by omega)) (fm_eq (by omega)) (fm_eq (by omega)) (fm_eq (by omega)) (NO _ _ _ lt12 lt9 lt8) fun v' gn h₁₃ tk₁₃ hx₁₃ hst₁₃ hnw₁₃ D₁₃ => ?_
    have eLR : lineT (fm r.1 (6 + 6 * (w0 : Int))) (fm r.2.1 (5 + 2 * (w1 : Int))) (fm r.2.2.1 (4 + 8 * (w2 : Int))) (fm r.2.2.2 (6 + 3 * (w2 : Int))) (fm r.2.2.2 8) = LR r := by rw [hLR]; rfl
    rw [eLR] at D₁₃
    have hO := LO r
    have hpl : plc 0 ((rows.take (i + 1)).map LR) = (plc 0 ((rows.take i).map LR)).or ((LR r).2.2.map (placeMsg ((i : Int) + 1))) := by
      rw [htk, List.map_append, List.map_cons, List.map_nil, plc_snoc]
      simp [Nat.min_eq_left (Nat.le_of_lt hi)]
    have hwt : wantL ((rows.take (i + 1)).map LR) = wantL ((rows.take i).map LR) ++ if (LR r).2.2 = none then (LR r).2.1 else [] := by
      rw [htk, List.map_append, List.map_cons, List.map_nil, wantL_snoc]
    have htx : ((rows.take (i + 1)).map fun r => (LR r).1).map Dt.str = ((rows.take i).map fun r => (LR r).1).map Dt.str ++ [.str (LR r).1] := by rw [htk]; simp
    clear eLR hd hv LO NO
    generalize LR r = ln' at *
    obtain ⟨tx, ops, flt⟩ := ln'
    dsimp only at *
    have S₁₃ := S₁₂.back (g' := gn) hx₁₃ hst₁₃ hnw₁₃
    refine unT hA'.hd S₁₃ (D₁₃.mono (fun p hp => List.mem_append.mpr (.inl hp))) rfl fun vs₁₄ h₁₄ D₁₄ S₁₄ => ?_
    cases D₁₄ with | cons d1 D₁₄ => cases D₁₄ with | cons d2 D₁₄ => cases D₁₄ with | cons d3 D₁₄ => cases D₁₄ with | nil =>
    cases d1
    rename_i ov fv ttx
    refine assignInOrder_cons (wpAny_assign_Name (stL S₁₄ fun h₁₅ S₁₅ => assignInOrder_cons (wpAny_assign_Name (stL S₁₅ fun h₁₆ S₁₆ => assignInOrder_cons (wpAny_assign_Name (stL S₁₆ fun h₁₇ S₁₇ => assignInOrder_nil ?_))))))
    dsimp only
    generalize hM : (upd (upd (upd (upd (upd (upd (upd m "kind" _) "name" _) "pick" _) "size" _) "text" _) "ops" _) "fault" _) = M at S₁₇
    have k1 : M "lines" = some (.ref ll) := by rw [← hM]; exact upd_ne (by decide) (upd_ne (by decide) (upd_ne (by decide) (n4 m1 (by decide) (by decide) (by decide) (by decide))))
    have k2 : M "want" = some (.ref wl) := by rw [← hM]; exact upd_ne (by decide) (upd_ne (by decide) (upd_ne (by decide) (n4 m2 (by decide) (by decide) (by decide) (by decide))))
    have k3 : M "place" = some pv := by rw [← hM]; exact upd_ne (by decide) (upd_ne (by decide) (upd_ne (by decide) (n4 m3 (by decide) (by decide) (by decide) (by decide))))
    have k4 : M "wild" = some wv := by rw [← hM]; exact upd_ne (by decide) (upd_ne (by decide) (upd_ne (by decide) (n4 m4 (by decide) (by decide) (by decide) (by decide))))
    have k5 : M "text" = some (.str tx ttx) := by rw [← hM]; exact upd_ne (by decide) (upd_ne (by decide) upd_eq)
    have k6 : M "ops" = some ov := by rw [← hM]; exact upd_ne (by decide) upd_eq
    have k7 : M "fault" = some fv := by rw [← hM]; exact upd_eq
    clear hM
    refine wpAny_execs_cons (wpAny_Expr (callM "list" "list.append" PySem.F.plainAttrs_list PySem.F.slot_list_append PySem.F.type_list_append (nmL S₁₇ k1 ⟨⟨_, (S₁₇.un _ (.tail _ (.tail _ (.head _)))).1, rfl⟩, fun b e => by cases e; exact ⟨_, (S₁₇.un _ (.tail _ (.tail _ (.head _)))).1, rfl⟩,
      wpAny_items_cons (nmL S₁₇ k5 (wpAny_items_nil (lApp (U := fun n' => [(I, io), (wl, lstO xs xn), (ll, lstO (lv ++ [.str tx ttx]) n')]) S₁₇ (fun n' => .tail (.tail .head)) (by omega) fun h₁₈ n₁₈ S₁₈ => ?_)))⟩)))
    dsimp only
    have Dl' : DLs (gn ++ g') (lv ++ [.str tx ttx]) (((rows.take (i + 1)).map fun r => (LR r).1).map .str) := by
      rw [htx]; exact (Dl.mono fun p hp => List.mem_append.mpr (.inr hp)).append (.cons (.str _ _) .nil)
    have Dx' : DLs (gn ++ g') xs (wantL ((rows.take i).map LR)) := Dx.mono fun p hp => List.mem_append.mpr (.inr hp)
    have hsub' : ∀ p ∈ g, p ∈ gn ++ g' := fun p hp => List.mem_append.mpr (.inr (hsub p hp))
    cases flt with
    | none =>
      cases d3
      rw [if_pos rfl] at hwt
      refine wpAny_execs_cons (wpAny_If (wpAny_isTrue_Compare1 (nmL S₁₈ k7 (wpAny_Constant_none (wpAny_is_self rfl (wpAny_truthy_bool ?_))))))
      have hol := hO.olen
      dsimp only at hol
      refine wpAny_execs_cons (wpAny_Expr (callM "list" "list.extend" PySem.F.plainAttrs_list PySem.F.slot_list_extend PySem.F.type_list_extend (nmL S₁₈ k2 ⟨⟨_, (S₁₈.un _ (.tail _ (.head _))).1, rfl⟩, fun b e => by cases e; exact ⟨_, (S₁₈.un _ (.tail _ (.head _))).1, rfl⟩,
        wpAny_items_cons (nmL S₁₈ k6 (wpAny_items_nil (lExt (U := fun ws n' => [(I, io), (wl, lstO (xs ++ ws) n'), (ll, lstO (lv ++ [.str tx ttx]) n₁₈)]) S₁₈ d2 (fun ws n' => .tail .head) (by omega) (by omega) fun h₁₉ n₁₉ ws Dws S₁₉ => ?_)))⟩)))
      dsimp only
      refine wpAny_execs_nil (wpAny_execs_nil ?_)
      refine TurnEnd.next ⟨hsub', lv ++ [.str tx ttx], n₁₈, xs ++ ws, n₁₉, pv, rfl, k1, k2, k3, k4, Dl', ?_, ?_⟩ S₁₉
      · rw [hwt]; exact Dx'.append Dws
      · rw [hpl]; simpa using Dp
    | some f =>
      cases d3
      rw [if_neg (by simp), List.append_nil] at hwt
      refine wpAny_execs_cons (wpAny_If (wpAny_isTrue_Compare1 (nmL S₁₈ k7 (wpAny_Constant_none (wpAny_is_other rfl (by intro h; cases h) (wpAny_truthy_bool ?_))))))
      have hfl := hO.flen f rfl
      cases hp : plc 0 ((rows.take i).map LR) with
      | some pl =>
        rw [hp] at Dp hpl
        cases Dp
        refine wpAny_execs_cons (wpAny_If (wpAny_isTrue_Compare1 (nmL S₁₈ k3 (wpAny_Constant_none (wpAny_is_other rfl (by intro h; cases h) (wpAny_truthy_bool ?_))))))
        refine wpAny_execs_nil (wpAny_execs_nil (wpAny_execs_nil ?_))
        refine TurnEnd.next ⟨hsub', lv ++ [.str tx ttx], n₁₈, xs, xn, _, rfl, k1, k2, k3, k4, Dl', ?_, ?_⟩ S₁₈
        · rw [hwt]; exact Dx'
        · rw [hpl]; exact .str _ _
      | none =>
        rw [hp] at Dp hpl
        cases Dp
        refine wpAny_execs_cons (wpAny_If (wpAny_isTrue_Compare1 (nmL S₁₈ k3 (wpAny_Constant_none (wpAny_is_self rfl (wpAny_truthy_bool ?_))))))
        have hln : (lv ++ [Value.str tx ttx]).length = i + 1 := by simp [hLl]
        have hit : (itoa ((i : Int) + 1)).length ≤ 10 := itoa_small (by omega)
        have hlog : ((i : Int) + 1).natAbs.log2 < 1920 := by
          have e1 : ((i : Int) + 1).natAbs = i + 1 := by omega
          rw [e1]
          exact (Nat.log2_lt (by omega)).mpr (Nat.lt_of_lt_of_le (by omega : i + 1 < 2 ^ 9) (Nat.pow_le_pow_right (by decide) (by decide)))
        have l5 : (Str.ofString "line ").length = 5 := by decide
        have l2 : (Str.ofString ": ").length = 2 := by decide
        refine wpAny_execs_cons (wpAny_Assign_Name (wpAny_BinOp (wpAny_BinOp (wpAny_BinOp (wpAny_Constant_str (callT "str" (nmB S₁₈ W (W.free _ (by decide)) rfl ⟨rfl, wpAny_items_cons (callB "len" (nmB S₁₈ W (W.free _ (by decide)) rfl ⟨rfl, wpAny_items_cons (nmL S₁₈ k1 (wpAny_items_nil (lLenU S₁₈ (.tail _ (.tail _ (.head _))) (by rw [hln]; omega) ?_)))⟩))⟩)))))))
        dsimp only
        rw [hln]
        have ei : ((i + 1 : Nat) : Int) = (i : Int) + 1 := by omega
        rw [ei]
        refine wpAny_items_nil (PySem.P.str_of_int hlog (PyProof.Rows.add_str (fun t₂ tk₂ => ?_) (by show _ + (itoa ((i : Int) + 1)).length ≤ _; rw [l5]; omega)))
        dsimp only
        refine wpAny_Constant_str (PyProof.Rows.add_str (fun t₃ tk₃ => ?_) (by show (Str.ofString "line " ++ itoa ((i : Int) + 1)).length + _ ≤ _; rw [len_app, l5, l2]; omega))
        dsimp only
        refine nmL S₁₈ k7 (PyProof.Rows.add_str (fun t₄ tk₄ => ?_) (by show (Str.ofString "line " ++ itoa ((i : Int) + 1) ++ Str.ofString ": ").length + _ ≤ _; rw [len_app, len_app, l5, l2]; omega))
        dsimp only
        refine stL S₁₈ fun h₁₉ S₁₉ => ?_
        refine wpAny_execs_nil (wpAny_execs_nil (wpAny_execs_nil ?_))
        refine TurnEnd.next ⟨hsub', lv ++ [.str tx ttx], n₁₈, xs, xn, _, rfl, upd_ne (by decide) k1, upd_ne (by decide) k2, upd_eq, upd_ne (by decide) k4, Dl', ?_, ?_⟩ S₁₉
        · rw [hwt]; exact Dx'
        · rw [hpl]; exact .str _ _
  · rintro m u g' h tk₁ hsub ⟨lv, ln, xs, xn, pv, rfl, m1, m2, m3, m4, Dl, Dx, Dp⟩ S₇
    rw [List.length_map, List.take_length] at Dl Dx Dp
    have LO' : ∀ p ∈ rows.map LR, LineOk p := fun p hp => by obtain ⟨r, _, rfl⟩ := List.mem_map.mp hp; exact LO r
    have hok := @sheet_ok (rows.map LR) LO'
    have hbd := @sheet_bad (rows.map LR) LO'
    obtain ⟨qs, hqs, hqo⟩ := want_ops LO'
    have hwl := want_len LO'
    have hsl := sheet_lines LO'
    have etx : (rows.map fun r => (LR r).1) = (rows.map LR).map (·.1) := by simp
    rw [etx] at Dl
    have hps : (rows.map LR).length ≤ 4 := by simpa using hr
    generalize rows.map LR = ps at *
    refine wpAny_execs_cons (wpAny_Assign_Name (callM "str" "str.join" PySem.F.plainAttrs_str PySem.F.slot_str_join PySem.F.type_str_join (wpAny_Constant_str ⟨typeIs_str _ _ _, (fun a e => nomatch e), wpAny_items_cons (nmL S₇ m1 (wpAny_items_nil (joinU S₇ (.tail _ (.head _)) Dl ?_ fun t₈ tk₈ => stL S₇ fun h₈ S₈ => ?_)))⟩)))
    · unfold JoinOk
      have := @StrLaws.joinFits (Str.ofString "\n") (ps.map (·.1)) 6000 (fun y hy => by obtain ⟨p, hp, rfl⟩ := List.mem_map.mp hy; exact (LO' p hp).len) (by
        have e1 : (Str.ofString "\n").length = 1 := by decide
        rw [e1, List.length_map]; omega)
      rw [this]; rfl
    dsimp only
    refine wpAny_execs_cons (wpAny_Assign_Name (wpAny_Constant_none (stL S₈ fun h₉ S₉ => ?_)))
    refine wpAny_execs_cons (wpAny_Assign_Name (wpAny_Constant_none (stL S₉ fun h₁₀ S₁₀ => ?_)))
    dsimp only
    have enl : nl = Str.ofString "\n" := rfl
    rw [enl] at hsl
    simp only [enl] at hok hbd
    have hxl : (Txt.join (Str.ofString "\n") (ps.map (·.1))).length + 2 ≤ sizeLine := by
      have e1 : (Str.ofString "\n").length = 1 := by decide
      have e2 := size_glued (Str.ofString "\n") (ps.map (·.1))
      have e3 := StrLaws.sumLen_le (B := 6000) (ps.map (·.1)) (fun y hy => by obtain ⟨p, hp, rfl⟩ := List.mem_map.mp hy; exact (LO' p hp).len)
      have e4 : (Txt.join (Str.ofString "\n") (ps.map (·.1))) = Builtin.Str.glued (Str.ofString "\n") (ps.map (·.1)) := rfl
      rw [e4, e2, e1]
      rw [List.length_map] at e3 ⊢
      omega
    generalize Txt.join (Str.ofString "\n") (ps.map (·.1)) = XS at *
    have hll : (Txt.split XS (Str.ofString "\n")).length ≤ 500 := by
      rcases hsl with ⟨_, e⟩ | ⟨_, e⟩
      · rw [e]; simp
      · rw [e, List.length_map]; omega
    have hw : ∀ l ∈ Txt.split XS (Str.ofString "\n"), l.length + 2 ≤ sizeLine ∧ (Txt.words l).length ≤ 100 ∧ ∀ y ∈ Txt.words l, Sane y ∧ NumT y := by
      rcases hsl with ⟨_, e⟩ | ⟨_, e⟩
      · rw [e]; intro l hl
        rw [List.mem_singleton.mp hl, empty_words]
        exact ⟨by decide, by simp, fun _ h => nomatch h⟩
      · rw [e]; intro l hl
        obtain ⟨p, hp, rfl⟩ := List.mem_map.mp hl
        have hp' := LO' p hp
        exact ⟨by have := hp'.len; omega, hp'.nw, hp'.ws⟩
    have S₁₁ := S₁₀.freeze.freeze
    generalize hM : (upd (upd (upd m "sheet" _) "got" _) "said" _) = M at S₁₁
    have k0 : M "sheet" = some (.str XS t₈) := by rw [← hM]; exact upd_ne (by decide) (upd_ne (by decide) upd_eq)
    have k1 : M "got" = some .none := by rw [← hM]; exact upd_ne (by decide) upd_eq
    have k2 : M "said" = some .none := by rw [← hM]; exact upd_eq
    have k3 : M "want" = some (.ref wl) := by rw [← hM]; exact upd_ne (by decide) (upd_ne (by decide) (upd_ne (by decide) m2))
    have k4 : M "place" = some pv := by rw [← hM]; exact upd_ne (by decide) (upd_ne (by decide) (upd_ne (by decide) m3))
    clear hM
    refine wpAny_execs_cons (wpAny_Try_except ?_)
    refine wpAny_execs_cons (wpAny_Assign_Name (callU (o := o9) (fd := docF 9 pm9 cd9 dc9) (nmG S₁₁ W e9 ⟨rfl, wpAny_items_cons (nmL S₁₁ k0 (wpAny_items_nil ⟨⟨S₁₁.fr.keep _ _ f9.at_, f9.d⟩, ?_⟩))⟩)))
    dsimp only
    refine read_trace_spec (s := { s with heap := h₁₀, toks := _ }) hA' (X.call hL S₁₁) (W.keeps S₁₁.fr.keep) e9 hxl hll hw (fun ops hops v gr h₁₂ tk₁₂ hx₁₂ hst₁₂ D₁₂ => ?_) (fun i l ops hl hr' hb tail htl ht => ?_)
    · obtain ⟨hpn, rfl⟩ := hok hops
      rw [hpn] at Dp
      cases Dp
      have S₁₂ := S₁₁.back (g' := gr) hx₁₂ (fun p hp => (hst₁₂ p hp).1) (fun p hp => .inr (hst₁₂ p hp).2)
      dsimp only
      refine stL S₁₂ fun h₁₃ S₁₃ => wpAny_execs_nil (wpAny_execs_nil ?_)
      rw [hqs] at D₁₂ Dx hwl
      rw [List.length_map] at hwl
      exact restO _ _ _ _ v .none (.ref wl) qs S₁₃ hqo (by omega) upd_eq (upd_ne (by decide) k2) (upd_ne (by decide) k3) (upd_ne (by decide) k4) (D₁₂.mono fun p hp => List.mem_append.mpr (.inl hp))
        (.list (List.mem_append.mpr (.inr (.tail _ (.head _)))) (Dx.mono fun p hp => List.mem_append.mpr (.inr (.tail _ (.tail _ hp)))))
    · obtain ⟨pl, hp, hst⟩ := hbd hl hr' hb ht
      rw [hp] at Dp
      cases Dp
      rename_i tp
      intro e c h' tk' fl
      have hfL : ∀ b ∈ frs outer, b ≠ L := fun b hb => by
        cases q : s.heap.get? b with
        | none => exact absurd q (X.fo b hb)
        | some o => exact S₁₁.ne_base q
      refine noteFly (s := { s with heap := h', toks := tk' }) (Around.frames_deeper X.cx.fr) rfl fl fun h₂ x => ?_
      refine catchV (s := { s with heap := h₂, toks := tk' }) S₁₁ X.wd X.fo hgo x fun h₃ tk₃ vs t S₃ hE hF hU hN hK g1 g3 => ?_
      obtain ⟨oe, tok, ho, hc, hd, hsz, hv0, hv2, hTt⟩ := hE
      have hun : ((A.deeper (eX (fdAt 25).name (fdAt 25).scope L a cd [])).mark (some (.ref e))).units + 2 < cLine := by
        have hu' := hA'.un
        exact (by omega : (A.deeper (eX (fdAt 25).name (fdAt 25).scope L a cd [])).units + 2 < cLine)
      refine wpAny_execs_cons (wpAny_Assign_Name (callT "str" (nmB S₃ X.wd (X.wd.free _ (by decide)) rfl ⟨rfl, wpAny_items_cons (nmL S₃ upd_eq (wpAny_items_nil (PySem.P.str_of_exc_one PySem.F.excStr_ValueError hun ⟨oe, vs, ho, hc, hd, hv0⟩ hTt ?_)))⟩)))
      refine wpAny_storeName_local rfl S₃.fr.ns (fun h₄ hn₄ hs₄ => ?_) (by rfl)
      refine wpAny_execs_nil ?_
      refine wpAny_nameGoes_keeps (s := { s with heap := h₄, toks := _ }) rfl hn₄ (by rfl) fun h₅ v₅ hn₅ hs₅ => ?_
      have S₅ := (S₃.store hn₄ hs₄).store hn₅ hs₅
      have af : Aft outer s.heap h₅ := by
        refine ⟨fun b o hb hbn => S₅.fr.keep b o (hideAll_get _ hb hbn), fun b hb o hbo hnf => ?_, (hF.same hs₄ hfL).same hs₅ hfL⟩
        obtain ⟨sl, q⟩ := hU b hb o (S₁₁.fr.keep b o hbo) hnf
        exact ⟨sl, (hs₅.2 b (hfL b hb)).trans ((hs₄.2 b (hfL b hb)).trans q)⟩
      have nm : ∀ {y : Str} {v : Value}, M y = some v → y ≠ "error" → y ≠ "said" → ∀ {v1 v2 : Value}, (if y = "error" then v₅ else upd (upd M "error" v1) "said" v2 y) = some v := fun h1 h2 h3 => by
        intro v1 v2
        rw [if_neg h2]; exact upd_ne h3 (upd_ne h2 h1)
      exact restB (hideAll s.heap (frs outer)) _ h₅ _ _ (.ref wl) _ pl _ tp X.wd S₅ af (nm k1 (by decide) (by decide)) (by
        show (if ("said" : Str) = "error" then v₅ else upd (upd M "error" _) "said" _ "said") = _
        rw [if_neg (by decide)]; exact upd_eq) (nm k3 (by decide) (by decide)) (nm k4 (by decide) (by decide)) hst
end
end Mine
end
section
open PySem PyProof.Rows PySem.Calls PySem.W PySem.Builtin PySem.Builtin.Str PySem.StrLaws
set_option maxRecDepth 100000
namespace Mine
/-! texts made of one sign -/
theorem fold_list : ∀ (l : List (Array Nat)) (acc : Array Nat), (l.foldl (· ++ ·) acc).toList = acc.toList ++ (l.map Array.toList).flatten
  | [], acc => by simp
  | a :: r, acc => by rw [List.foldl_cons, fold_list r]; simp
theorem times_list (c n : Nat) : (timesS ⟨#[c]⟩ n).cps.toList = List.replicate n c := by
  unfold timesS
  show (List.foldl (· ++ ·) #[] (List.replicate n #[c])).toList = _
  rw [fold_list]
  simp only [List.nil_append, List.map_replicate]
  induction n with
  | zero => rfl
  | succ n ih => rw [List.replicate_succ, List.flatten_cons, ih, List.replicate_succ]; rfl
theorem all_arr {p : Nat → Bool} {x : Str} (h : ∀ c ∈ x.cps.toList, p c = true) : x.cps.all p = true := by
  rw [← Array.all_toList, List.all_eq_true]; exact h
def nines : Str := timesS "9" 4301
theorem nines_list : nines.cps.toList = List.replicate 4301 57 := times_list 57 4301
theorem nines_len : nines.length = 4301 := by
  have : nines.length = nines.cps.toList.length := by simp [Str.length]
  rw [this, nines_list, List.length_replicate]
theorem nines_mem : ∀ c ∈ nines.cps.toList, c = 57 := fun c hc => by rw [nines_list] at hc; exact (List.mem_replicate.mp hc).2
theorem nines_head : nines.cps.toList = 57 :: List.replicate 4300 57 := by rw [nines_list]; rfl
theorem nines_pre : Txt.removeprefix nines "-" = nines := by
  have h : subAt nines "-" 0 = false := by
    unfold subAt
    rw [beq_eq_false_iff_ne]
    intro e
    have e1 := congrArg Array.toList e
    have l1 : (Str.ofString "-").length = 1 := by decide
    have e2 : (nines.cps.extract 0 (0 + 1)).toList = [57] := by
      rw [Array.toList_extract, nines_head]; rfl
    have e3 : (Str.ofString "-").cps.toList = [45] := by decide
    have e1' : (nines.cps.extract 0 (0 + (Str.ofString "-").length)).toList = (Str.ofString "-").cps.toList := e1
    rw [l1, e2, e3] at e1'
    exact absurd e1' (by decide)
  unfold Txt.removeprefix
  rw [h]
  rfl
theorem nines_dig : (Txt.isascii (Txt.removeprefix nines "-") && Txt.isdigit (Txt.removeprefix nines "-")) = true := by
  rw [nines_pre, Bool.and_eq_true]
  have d57 : Unicode.isDigit 57 = true := by decide +kernel
  refine ⟨all_arr fun c hc => by rw [nines_mem c hc]; rfl, ?_⟩
  unfold Txt.isdigit
  rw [Bool.and_eq_true]
  exact ⟨by rw [nines_len]; rfl, all_arr fun c hc => by rw [nines_mem c hc]; exact d57⟩
theorem nines_zless : (zless nines).length = 4301 := by
  unfold zless
  rw [nines_pre]
  unfold Txt.lstripChars Txt.stripBy
  have h0 : stripLo ((Str.ofString "0").cps.contains) true nines = 0 := by
    unfold stripLo
    rw [if_pos rfl, nines_head]
    have : (Str.ofString "0").cps.contains 57 = false := by decide +kernel
    rw [List.takeWhile_cons, if_neg (by rw [this]; decide)]
    rfl
  have h1 : stripSame ((Str.ofString "0").cps.contains) true false nines = true := by
    unfold stripSame
    rw [h0]
    simp [stripHi]
  rw [show stripSame (("0" : Str).cps.contains) true false nines = true from h1]
  exact nines_len

/-! numbers -/
def headS (f s : Nat) : Str := (headsT.getD f ("", 1)).1 ++ itoa (sizesT.getD s 0)
def headV (f s : Nat) : Int := (headsT.getD f ("", 1)).2 * sizesT.getD s 0
def onesS (e : Nat) : Str := timesS "1" (36 + e) ++ "x"
def tight (d : Str) : Bool := !d.cps.toList.isEmpty && d.cps.toList.all (fun c => !Unicode.isSpace c && decide (c < 16 ^ 8)) && decide (d.length ≤ 300)
def dig (d : Str) : Bool := Txt.isascii (Txt.removeprefix d "-") && Txt.isdigit (Txt.removeprefix d "-")
def readV (d : Str) : Int := if Txt.startswith d "-" then -(PySem.intText? (numT d)).getD 0 else (PySem.intText? (numT d)).getD 0
def LOW : Int := -1000000000000000000
theorem heads_ok : ∀ f : Fin 4, ∀ s : Fin 9, tight (headS f.val s.val) = true ∧ dig (headS f.val s.val) = true ∧
    (19 < (zless (headS f.val s.val)).length → withinD (.int (headV f.val s.val)) LOW = false) ∧ (¬ 19 < (zless (headS f.val s.val)).length → (PySem.intText? (numT (headS f.val s.val))).isSome = true ∧ readV (headS f.val s.val) = headV f.val s.val) := by decide +kernel
theorem junk_ok : ∀ i : Fin 6, tight (junkT.getD i.val "") = true ∧ dig (junkT.getD i.val "") = false := by decide +kernel
theorem ones_ok : ∀ i : Fin 8, tight (onesS i.val) = true ∧ dig (onesS i.val) = false := by decide +kernel
theorem range_eq : rangeMsg LOW = lawRange := by decide +kernel
theorem solid_of {d : Str} (h : tight d = true) : Solid d ∧ (∀ c ∈ d.cps.toList, c < 16 ^ 8) ∧ d.length ≤ 300 := by
  unfold tight at h
  simp only [Bool.and_eq_true, Bool.not_eq_true', List.all_eq_true, decide_eq_true_eq, List.isEmpty_eq_false_iff] at h
  exact ⟨⟨h.1.1, fun c hc => (h.1.2 c hc).1⟩, fun c hc => (h.1.2 c hc).2, h.2⟩
structure DigOk (d : Str) (v : Dt) : Prop where
  solid : Solid d
  chars : ∀ c ∈ d.cps.toList, c < 16 ^ 8
  len : d.length ≤ 5000
  num : NumT d
  ok : faultD d v = none → ∃ n, v = .int n ∧ parseN d LOW = .ok n
  bad : ∀ f, faultD d v = some f → parseN d LOW = .error f ∧ f.length ≤ 1000000
  val : v = .none ∨ ∃ n, v = .int n
theorem junk_len {d : Str} (h : NumT d) : (junkMsg d).length ≤ 1000000 := by
  have := ascT_len h.sane
  unfold junkMsg
  simp only [len_app]
  show 0 + 20 + _ ≤ _
  omega
theorem range_len : lawRange.length ≤ 1000000 := by decide +kernel
theorem junk_case {d : Str} (ht : Solid d) (hc : ∀ c ∈ d.cps.toList, c < 16 ^ 8) (hl : d.length ≤ 5000) (hd : dig d = false) : DigOk d .none := by
  have hn : NumT d := (wordOk_of hl hc fun h => by unfold dig at hd; rw [hd] at h; cases h).2
  refine ⟨ht, hc, hl, hn, fun h => by simp [faultD] at h, fun f h => ?_, .inl rfl⟩
  have : f = junkMsg d := by simpa [faultD] using h.symm
  subst this
  refine ⟨?_, junk_len hn⟩
  unfold parseN
  unfold dig at hd
  rw [if_pos hd]
theorem within_chk {n : Int} : chk (.int n) LOW = if withinD (.int n) LOW = true then .ok n else .error (rangeMsg LOW) := by
  have e1 : chk (.int n) LOW = if LOW ≤ n ∧ n ≤ MAXN then .ok n else .error (rangeMsg LOW) := rfl
  have e2 : withinD (.int n) LOW = (!decide (n < LOW) && !decide (n > MAXN)) := rfl
  rw [e1, e2]
  by_cases h : LOW ≤ n ∧ n ≤ MAXN
  · rw [if_pos h, if_pos (by simp; omega)]
  · rw [if_neg h, if_neg (by simp; omega)]
theorem num_case {d : Str} {n : Int} (ht : Solid d) (hc : ∀ c ∈ d.cps.toList, c < 16 ^ 8) (hl : d.length ≤ 5000) (hd : dig d = true)
    (h : 19 < (zless d).length → withinD (.int n) LOW = false) (h' : ¬ 19 < (zless d).length → (PySem.intText? (numT d)).isSome = true ∧ readV d = n) : DigOk d (.int n) := by
  have hn : NumT d := (wordOk_of hl hc fun _ h19 => (h' (by omega)).1).2
  have hp : parseN d LOW = if withinD (.int n) LOW = true then .ok n else .error (rangeMsg LOW) := by
    unfold parseN
    unfold dig at hd
    rw [if_neg (by rw [hd]; decide)]
    by_cases h19 : 19 < (zless d).length
    · rw [if_pos h19]
      rw [if_neg (by rw [h h19]; decide)]
    · rw [if_neg h19]
      rw [← within_chk, ← (h' h19).2]
      rfl
  have hf : faultD d (.int n) = if withinD (.int n) LOW = true then none else some lawRange := rfl
  refine ⟨ht, hc, hl, hn, fun h => ⟨n, rfl, ?_⟩, fun f h => ?_, .inr ⟨n, rfl⟩⟩
  · rw [hf] at h
    by_cases hw : withinD (.int n) LOW = true
    · rw [hp, if_pos hw]
    · rw [if_neg hw] at h; cases h
  · rw [hf] at h
    by_cases hw : withinD (.int n) LOW = true
    · rw [if_pos hw] at h; cases h
    · rw [if_neg hw] at h
      rw [hp, if_neg hw, range_eq, ← Option.some.inj h]
      exact ⟨rfl, range_len⟩
theorem dig_ok {nf sz e8 : Nat} (h1 : nf < 12) (h2 : sz < 9) (h3 : e8 < 8) : (numberD nf sz e8).1 = .str (digS nf sz e8) ∧ DigOk (digS nf sz e8) (numberD nf sz e8).2 := by
  by_cases c4 : nf < 4
  · obtain ⟨p, hp⟩ : ∃ p, headsT[nf]? = some p := ⟨_, List.getElem?_eq_getElem (show nf < 4 from c4)⟩
    have hN : numberD nf sz e8 = (.str (headS nf sz), .int (headV nf sz)) := by simp only [numberD, if_pos c4, hp, headS, headV, List.getD, Option.getD_some]
    unfold digS
    rw [hN]
    obtain ⟨q1, q2, q3, q4⟩ := heads_ok ⟨nf, c4⟩ ⟨sz, h2⟩
    dsimp only at q1 q2 q3 q4
    obtain ⟨r1, r2, r3⟩ := solid_of q1
    have key := num_case (n := headV nf sz) r1 r2 (by omega) q2 q3 q4
    exact ⟨rfl, key⟩
  · by_cases c10 : nf = 10
    · have hN : numberD nf sz e8 = (.str nines, .int (10 * 1000000000000000000)) := by simp only [numberD, if_neg c4, if_pos c10]; rfl
      unfold digS
      rw [hN]
      suffices key : DigOk nines (.int (10 * 1000000000000000000)) from ⟨rfl, key⟩
      refine num_case ⟨?_, fun c hc => ?_⟩ (fun c hc => ?_) ?_ nines_dig ?_ ?_
      · show nines.cps.toList ≠ []
        rw [nines_head]; simp
      · rw [nines_mem c hc]; decide +kernel
      · rw [nines_mem c hc]; decide
      · show nines.length ≤ 5000
        rw [nines_len]; decide
      · intro _; decide +kernel
      · intro h; rw [nines_zless] at h; exact absurd (by decide) h
    · by_cases c11 : nf = 11
      · have hN : numberD nf sz e8 = (.str (onesS e8), .none) := by simp only [numberD, if_neg c4, if_neg c10, if_pos c11]; rfl
        unfold digS
        rw [hN]
        obtain ⟨q1, q2⟩ := ones_ok ⟨e8, h3⟩
        dsimp only at q1 q2
        obtain ⟨r1, r2, r3⟩ := solid_of q1
        exact ⟨rfl, junk_case r1 r2 (by show (onesS e8).length ≤ 5000; omega) q2⟩
      · have hN : numberD nf sz e8 = (.str (junkT.getD (nf - 4) ""), .none) := by simp only [numberD, if_neg c4, if_neg c10, if_neg c11]
        unfold digS
        rw [hN]
        obtain ⟨q1, q2⟩ := junk_ok ⟨nf - 4, by omega⟩
        dsimp only at q1 q2
        obtain ⟨r1, r2, r3⟩ := solid_of q1
        exact ⟨rfl, junk_case r1 r2 (by show (junkT.getD (nf - 4) "").length ≤ 5000; omega) q2⟩
theorem num_ok {nf sz e8 : Nat} (h1 : nf < 12) (h2 : sz < 9) (h3 : e8 < 8) : NumOk nf sz e8 := by
  obtain ⟨e, d⟩ := dig_ok h1 h2 h3
  exact ⟨e, d.len, d.num.sane, d.val⟩

/-! keys -/
theorem keys_all : ∀ i : Fin 7, tight (keyS i.val) = true ∧ dig (keyS i.val) = false ∧ nameOk (.str (keyS i.val)) = (nameD i.val).2 ∧ PyData.strOk (keyS i.val) = true := by decide +kernel

/-! lines -/
theorem solid_get : Solid (Str.ofString "get") := (solid_of (by decide +kernel)).1
theorem solid_put : Solid (Str.ofString "put") := (solid_of (by decide +kernel)).1
theorem sp32 : Unicode.isSpace 32 = true := by decide +kernel
theorem sp13 : Unicode.isSpace 13 = true := by decide +kernel
theorem sp9 : Unicode.isSpace 9 = true := by decide +kernel
theorem sp10 : Unicode.isSpace 10 = true := by decide +kernel
theorem words_get {k : Str} (hk : Solid k) : Txt.words (Str.ofString "\tget  " ++ k ++ Str.ofString " \r") = [Str.ofString "get", k] := by
  apply words_eq
  rw [cat_list, cat_list]
  have e1 : (Str.ofString "\tget  ").cps.toList = 9 :: ((Str.ofString "get").cps.toList ++ [32, 32]) := by decide
  have e2 : (Str.ofString " \r").cps.toList = [32, 13] := by decide
  rw [e1, e2]
  simp only [List.cons_append, List.append_assoc, List.nil_append]
  rw [wgo_skip sp9, wgo_word solid_get, wgo_cut sp32, wgo_skip sp32, wgo_word hk, wgo_cut sp32, wgo_skip sp13]
  rfl
theorem words_put {k d : Str} (hk : Solid k) (hd : Solid d) : Txt.words (Str.ofString "put " ++ k ++ Str.ofString " " ++ d) = [Str.ofString "put", k, d] := by
  apply words_eq
  rw [cat_list, cat_list, cat_list]
  have e1 : (Str.ofString "put ").cps.toList = (Str.ofString "put").cps.toList ++ [32] := by decide
  have e2 : (Str.ofString " ").cps.toList = [32] := by decide
  rw [e1, e2]
  simp only [List.cons_append, List.append_assoc, List.nil_append]
  rw [wgo_word solid_put, wgo_cut sp32, wgo_word hk, wgo_cut sp32]
  have hw := wgo_word hd []
  rw [List.append_nil] at hw
  rw [hw]
  rfl
theorem free_solid {k : Str} (hk : Solid k) : 10 ∉ k.cps.toList := fun h => by
  have := hk.2 10 h
  rw [sp10] at this; cases this
theorem const_word : ∀ y ∈ [Str.ofString "get", Str.ofString "put", Str.ofString "a", Str.ofString "5", Str.ofString "1", Str.ofString "2", Str.ofString "foo", Str.ofString "#get"], tight y = true ∧ (dig y = true → (zless y).length ≤ 19 → (PySem.intText? (numT y)).isSome = true) := by decide +kernel
theorem const_ok {y : Str} (hy : y ∈ [Str.ofString "get", Str.ofString "put", Str.ofString "a", Str.ofString "5", Str.ofString "1", Str.ofString "2", Str.ofString "foo", Str.ofString "#get"]) : Sane y ∧ NumT y := by
  obtain ⟨h1, h2⟩ := const_word y hy
  obtain ⟨r1, r2, r3⟩ := solid_of h1
  exact wordOk_of (by omega) r2 h2
theorem key_word {i : Nat} (hi : i < 7) : Solid (keyS i) ∧ (keyS i).length ≤ 300 ∧ (Sane (keyS i) ∧ NumT (keyS i)) ∧ nameOk (.str (keyS i)) = (nameD i).2 ∧ PyData.strOk (keyS i) = true := by
  obtain ⟨h1, h2, h3, h4⟩ := keys_all ⟨i, hi⟩
  dsimp only at h1 h2 h3 h4
  obtain ⟨r1, r2, r3⟩ := solid_of h1
  exact ⟨r1, r3, wordOk_of (by omega) r2 (fun h => by unfold dig at h2; rw [h2] at h; cases h), h3, h4⟩
theorem lines_words : Txt.words (Str.ofString "") = [] ∧ Txt.words (Str.ofString " #get a") = [Str.ofString "#get", Str.ofString "a"] ∧ Txt.words (Str.ofString "get") = [Str.ofString "get"] ∧ Txt.words (Str.ofString "get a 5") = [Str.ofString "get", Str.ofString "a", Str.ofString "5"] ∧
    Txt.words (Str.ofString "put a") = [Str.ofString "put", Str.ofString "a"] ∧ Txt.words (Str.ofString "put a 1 2") = [Str.ofString "put", Str.ofString "a", Str.ofString "1", Str.ofString "2"] ∧ Txt.words (Str.ofString "foo a") = [Str.ofString "foo", Str.ofString "a"] ∧ Txt.words (Str.ofString "foo a 5") = [Str.ofString "foo", Str.ofString "a", Str.ofString "5"] := by decide +kernel
theorem const_line {x : Str} {ws : List Str} {f : Option Str} (hw : Txt.words x = ws) (hl : x.length ≤ 6000) (hf : 10 ∉ x.cps.toList) (hn : ws.length ≤ 100) (hws : ∀ y ∈ ws, Sane y ∧ NumT y)
    (hg : (f = none ∧ lineRes ws = some []) ∨ (f = some (Str.ofString "") ∧ lineRes ws = none)) : LineOk (x, [], f) := by
  refine ⟨hl, hf, by rw [hw]; exact hn, by rw [hw]; exact hws, fun g hg' => ?_, by simp, fun h => ?_, fun g hg' => ?_⟩
  · rcases hg with ⟨rfl, _⟩ | ⟨rfl, _⟩
    · cases hg'
    · rw [← Option.some.inj hg']; decide
  · rcases hg with ⟨_, h2⟩ | ⟨rfl, _⟩
    · exact ⟨by rw [hw]; exact h2, [], rfl, fun _ h => nomatch h⟩
    · cases h
  · rcases hg with ⟨rfl, _⟩ | ⟨rfl, h2⟩
    · cases hg'
    · exact ⟨by rw [hw]; exact h2, fun _ _ => .inl (Option.some.inj hg').symm⟩
theorem res_none1 {w : Str} (h : Txt.startswith w (Str.ofString "#") = false) : lineRes [w] = none := by rw [lineRes_cons h]; rfl
theorem res_none2 {w k : Str} (h : Txt.startswith w (Str.ofString "#") = false) (h2 : w ≠ "get") : lineRes [w, k] = none := by
  rw [lineRes_cons h]; simp [wordRes, h2]
theorem res_none3 {w k v : Str} (h : Txt.startswith w (Str.ofString "#") = false) (h2 : w ≠ "put") : lineRes [w, k, v] = none := by
  rw [lineRes_cons h]; simp [wordRes, h2]
theorem res_none4 {w k v y : Str} (h : Txt.startswith w (Str.ofString "#") = false) : lineRes [w, k, v, y] = none := by
  rw [lineRes_cons h]; rfl
theorem lines_ok : ∀ p ∈ linesT, LineOk (p.1, [], p.2) := by
  obtain ⟨e0, e1, e2, e3, e4, e5, e6, e7⟩ := lines_words
  have c : ∀ {ws : List Str}, (∀ y ∈ ws, y ∈ [Str.ofString "get", Str.ofString "put", Str.ofString "a", Str.ofString "5", Str.ofString "1", Str.ofString "2", Str.ofString "foo", Str.ofString "#get"]) → ∀ y ∈ ws, Sane y ∧ NumT y := fun h y hy => const_ok (h y hy)
  intro p hp
  simp only [linesT, List.mem_cons, List.not_mem_nil, or_false] at hp
  rcases hp with rfl | rfl | rfl | rfl | rfl | rfl | rfl | rfl
  · exact const_line e0 (by decide) (by decide) (by decide) (fun _ h => nomatch h) (.inl ⟨rfl, rfl⟩)
  · exact const_line e1 (by decide) (by decide) (by decide) (c (by decide)) (.inl ⟨rfl, by simp only [lineRes]; rw [if_pos (by decide)]⟩)
  · exact const_line e2 (by decide) (by decide) (by decide) (c (by decide)) (.inr ⟨rfl, res_none1 (by decide)⟩)
  · exact const_line e3 (by decide) (by decide) (by decide) (c (by decide)) (.inr ⟨rfl, res_none3 (by decide) (by decide)⟩)
  · exact const_line e4 (by decide) (by decide) (by decide) (c (by decide)) (.inr ⟨rfl, res_none2 (by decide) (by decide)⟩)
  · exact const_line e5 (by decide) (by decide) (by decide) (c (by decide)) (.inr ⟨rfl, res_none4 (by decide)⟩)
  · exact const_line e6 (by decide) (by decide) (by decide) (c (by decide)) (.inr ⟨rfl, res_none2 (by decide) (by decide)⟩)
  · exact const_line e7 (by decide) (by decide) (by decide) (c (by decide)) (.inr ⟨rfl, res_none3 (by decide) (by decide)⟩)
theorem line_ok {form nm nf sz e8 : Nat} (hf : form < 12) (hn : nm < 7) (h1 : nf < 12) (h2 : sz < 9) (h3 : e8 < 8) : LineOk (lineT form nm nf sz e8) := by
  by_cases c3 : 3 < form
  · obtain ⟨p, hp⟩ : ∃ p, linesT[form - 4]? = some p := ⟨_, List.getElem?_eq_getElem (show form - 4 < 8 by omega)⟩
    have hN : lineT form nm nf sz e8 = (p.1, [], p.2) := by simp only [lineT, if_pos c3, hp]
    rw [hN]
    exact lines_ok p (List.mem_of_getElem? hp)
  obtain ⟨ks, kl, kw, kn, ko⟩ := key_word hn
  obtain ⟨de, D⟩ := dig_ok h1 h2 h3
  have l6 : (Str.ofString "\tget  ").length = 6 := by decide
  have l2 : (Str.ofString " \r").length = 2 := by decide
  have l4 : (Str.ofString "put ").length = 4 := by decide
  have l1 : (Str.ofString " ").length = 1 := by decide
  by_cases c0 : form = 0
  · have hN : lineT form nm nf sz e8 = (Str.ofString "\tget  " ++ keyS nm ++ Str.ofString " \r", [.tuple [.str (Str.ofString "get"), .str (keyS nm), .int 0]], if (nameD nm).2 = true then none else some (Str.ofString "")) := by simp only [lineT, if_neg c3, if_pos c0]
    rw [hN, ← kn]
    have hw := words_get ks
    have hst : Txt.startswith (Str.ofString "get") (Str.ofString "#") = false := by decide
    have hr : lineRes [Str.ofString "get", keyS nm] = if nameOk (.str (keyS nm)) = true then some [.tuple [.str (Str.ofString "get"), .str (keyS nm), .int 0]] else none := by
      rw [lineRes_cons hst]
      simp [wordRes]
    refine ⟨by simp only [len_app, l6, l2]; omega, ?_, by rw [hw]; simp, ?_, ?_, by simp, ?_, ?_⟩
    · simp only [cat_list, List.mem_append, not_or]
      exact ⟨⟨by decide, free_solid ks⟩, by decide⟩
    · rw [hw]; intro y hy
      simp only [List.mem_cons, List.not_mem_nil, or_false] at hy
      rcases hy with rfl | rfl
      · exact const_ok (by simp)
      · exact kw
    · intro f hf'
      dsimp only at hf'
      split at hf'
      · cases hf'
      · rw [← Option.some.inj hf']; decide
    · intro h
      dsimp only at h ⊢
      split at h
      · rename_i hk
        exact ⟨by rw [hw, hr, if_pos hk], [(Str.ofString "get", keyS nm, 0)], rfl, fun q hq => by rw [List.mem_singleton.mp hq]; simp only [opOk, ko, Bool.and_true]; decide +kernel⟩
      · cases h
    · intro f h
      dsimp only at h ⊢
      split at h
      · cases h
      · rename_i hk
        exact ⟨by rw [hw, hr, if_neg hk], fun _ _ => .inl (Option.some.inj h).symm⟩
  · have hN : lineT form nm nf sz e8 = (Str.ofString "put " ++ keyS nm ++ Str.ofString " " ++ digS nf sz e8, [.tuple [.str (Str.ofString "put"), .str (keyS nm), (numberD nf sz e8).2]], if (nameD nm).2 = true then faultD (digS nf sz e8) (numberD nf sz e8).2 else some (Str.ofString "")) := by simp only [lineT, if_neg c3, if_neg c0]
    rw [hN, ← kn]
    generalize (numberD nf sz e8).2 = v at *
    generalize digS nf sz e8 = d at *
    have hw := words_put ks D.solid
    have hst : Txt.startswith (Str.ofString "put") (Str.ofString "#") = false := by decide
    have dl := D.len
    refine ⟨by simp only [len_app, l4, l1]; omega, ?_, by rw [hw]; simp, ?_, ?_, by simp, ?_, ?_⟩
    · simp only [cat_list, List.mem_append, not_or]
      exact ⟨⟨⟨by decide, free_solid ks⟩, by decide⟩, free_solid D.solid⟩
    · rw [hw]; intro y hy
      simp only [List.mem_cons, List.not_mem_nil, or_false] at hy
      rcases hy with rfl | rfl | rfl
      · exact const_ok (by simp)
      · exact kw
      · exact ⟨sane_of dl D.chars, D.num⟩
    · intro f hf'
      dsimp only at hf'
      split at hf'
      · exact (D.bad f hf').2
      · rw [← Option.some.inj hf']; decide
    · intro h
      dsimp only at h ⊢
      split at h
      · rename_i hk
        obtain ⟨n, rfl, hp⟩ := D.ok h
        refine ⟨?_, [(Str.ofString "put", keyS nm, n)], rfl, fun q hq => by rw [List.mem_singleton.mp hq]; simp only [opOk, ko, Bool.and_true]; decide +kernel⟩
        rw [hw, lineRes_cons hst]
        have hp' : parseN d (-1000000000000000000) = .ok n := hp
        simp [wordRes, hk, hp']
      · cases h
    · intro f h
      dsimp only at h ⊢
      split at h
      · rename_i hk
        have hp := (D.bad f h).1
        have hp' : parseN d (-1000000000000000000) = .error f := hp
        refine ⟨?_, fun tail ht => .inr ?_⟩
        · rw [hw, lineRes_cons hst]
          simp [wordRes, hk, hp']
        · rw [hw] at ht
          unfold badTail at ht
          simp only at ht
          rw [if_pos trivial] at ht
          have := ht hk
          rw [hp'] at this
          exact (err_inj this).symm
      · rename_i hk
        refine ⟨?_, fun _ _ => .inl (Option.some.inj h).symm⟩
        rw [hw, lineRes_cons hst]
        simp [wordRes, hk]
end Mine
end
section
open PySem PyProof.Rows PySem.Calls PySem.W
set_option maxRecDepth 100000
namespace Mine
/-! a dict whose keys are texts and ints -/
def mixIs : Sum Str Int → Value → Bool
  | .inl x, v => Value.isStrOf x v
  | .inr i, v => Value.isInt i v
theorem mix_shape {k : Sum Str Int} {v : Value} (h : mixIs k v = true) : (∃ x t, k = .inl x ∧ v = .str x t) ∨ ∃ i t, k = .inr i ∧ v = .int i t := by
  cases k with
  | inl x => obtain ⟨t, rfl⟩ := Value.isStrOf_shape h; exact .inl ⟨x, t, rfl, rfl⟩
  | inr i => obtain ⟨t, rfl⟩ := Value.isInt_shape h; exact .inr ⟨i, t, rfl, rfl⟩
def mixKind (prog : Program) (w : World) : KeyKind prog w (Sum Str Int) where
  is := mixIs
  hash := fun k => match k with | .inl x => hashStr w x | .inr i => hashInt i
  inj := fun v a b ha hb => by
    rcases mix_shape ha with ⟨x, t, rfl, rfl⟩ | ⟨x, t, rfl, rfl⟩ <;> rcases mix_shape hb with ⟨y, u, rfl, e⟩ | ⟨y, u, rfl, e⟩ <;> first | (injection e with e1 e2; rw [e1]) | cases e
  byValue := fun k v h => by rcases mix_shape h with ⟨x, t, rfl, rfl⟩ | ⟨x, t, rfl, rfl⟩ <;> rfl
  pyHash := fun hv h => by
    rcases mix_shape hv with ⟨x, t, rfl, rfl⟩ | ⟨x, t, rfl, rfl⟩
    · exact wpAny_pyHash_str h
    · exact wpAny_pyHash_int h
  eqBool := fun {A E s a b u v Q} hu hv h => by
    rcases mix_shape hu with ⟨x, t, rfl, rfl⟩ | ⟨x, t, rfl, rfl⟩ <;> rcases mix_shape hv with ⟨y, t', rfl, rfl⟩ | ⟨y, t', rfl, rfl⟩
    · exact wpAny_eqBool_str (by rw [show decide (x = y) = decide ((Sum.inl x : Sum Str Int) = .inl y) by simp]; exact h)
    · exact PySem.SeqAt.EqAt.str_int x t y t' prog w E Q (by rw [show decide ((Sum.inl x : Sum Str Int) = .inr y) = false by simp] at h; exact h)
    · exact PySem.SeqAt.EqAt.int_str x t y t' prog w E Q (by rw [show decide ((Sum.inr x : Sum Str Int) = .inl y) = false by simp] at h; exact h)
    · exact wpAny_eqBool_int (by rw [show (x == y) = decide ((Sum.inr x : Sum Str Int) = .inr y) by rw [Bool.eq_iff_iff]; simp]; exact h)
  «strs» := fun k x t v h => by
    rcases mix_shape h with ⟨y, u, rfl, e⟩ | ⟨y, u, rfl, e⟩
    · injection e with e1 e2
      subst e1
      cases v <;> rfl
    · cases e

theorem list_keys_none : typeLookup (.type "list") "keys" = pure none := am_miss_of_fast (by kernel_rfl)
theorem entry_update_loop : entryFor table "dict.update.loop" = some Builtin.«dict.update.loop» := entryFor_of_tree (by kernel_rfl)
theorem plain_update_loop : plainId "dict.update.loop" = true := by decide +kernel
section
variable {prog : Program} {w : World} {A : Around} {E : Value → Shared → Prop}
theorem keys_none {s : Shared} {a : Addr} {xs : Array Value} {k : Nat} {Q : Option Value → Shared → Prop}
    (hx : s.heap.get? a = some { cls := .type "list", data := .seq xs k }) (hA : A.handled = none)
    (h : ∀ h' tk, Ext s.heap h' → Q none { s with heap := h', toks := tk }) :
    wpAny (model prog w) A (getAttr? (.ref a) "keys") Q E s := by
  obtain ⟨hp, g, d, tk, os⟩ := s
  have hT : ∀ tk', (⟨hp, g, d, tk', os⟩ : Shared).TypeIs (.ref a) "list" := fun _ => ⟨_, hx, rfl⟩
  have f1 := sub_AttributeError
  have f3 := F.slot_list_getattribute.lookup
  have f4 := F.slot_list_getattribute.bind (.ref a)
  have f5 := am_list_getattr_none
  unfold getAttr? getAttrBy? getAttrBy
  repeat (any_goals (first | assumption | exact hT _ | ((with_reducible show wpAny _ _ (call (Value.builtin "list.__getattribute__") _ _) _ _ _); refine call_meets F.slot_list_getattribute (hT _) am_entry_list_getattribute (F.args_list_getattribute_2 _ _) (meets_getattribute_miss_list a xs k #[] "keys" _ list_keys_none (by decide) (by decide)) ⟨hx, hA, fun h' tk' e hx' => ?_⟩) | wp_step))
  obtain ⟨t', u', he⟩ := hx'.there
  show wpAny _ _ (getattributeRaised _ _ _ _ _ _ _) _ _ _
  unfold getattributeRaised
  repeat (any_goals (first | assumption | wp_step))
  exact h _ _ hx'.keeps

variable {s : Shared} {h₀ : Heap} {L : Addr} {gi : Lg} {m : Str → Option Value} {u g : Lg} {ps : List (Dt × Dt)} {K : Type} [DecidableEq K] {knd : KeyKind prog w K} {kd : Dt → K}
/-- dict(pairs): the pairs laid in one behind the other -/
theorem update_loopG {d I l : Addr} {n : Nat} {vs : List Value} {R : Result → Shared → Prop} (P : Nat → List (K × Value) → Prop) (hh : A.handled = none) (hl : (l, lstO vs n) ∈ g) (hD : DLs g vs (ps.map pairQ)) (hkey : ∀ p ∈ ps, ∀ v, DL g v p.1 → knd.is (kd p.1) v = true)
    (hP : ∀ i p kvs v1 v2, ps[i]? = some p → DL g v1 p.1 → DL g v2 p.2 → P i kvs → P (i + 1) (stored kvs (kd p.1) v2)) (hPl : ∀ i kvs, P i kvs → kvs.length ≤ 1000)
    (hR : ∀ h' tk o kvs, St h₀ L gi m ((d, o) :: u) g h' → o.IsDictOf knd kvs → P ps.length kvs → R (.ok (.ret .none)) { s with heap := h', toks := tk }) :
    ∀ (j i : Nat) (h : Heap) (tk : Nat) (io o : Obj) (kvs : List (K × Value)), ps.length - i = j → i ≤ ps.length → St h₀ L gi m ((I, io) :: (d, o) :: u) g h → h.IsListIter I l i → o.IsDictOf knd kvs → P i kvs →
      codeAny (model prog w) A (.builtin "dict.update.loop" ⟨[.ref d, .ref I, rawInt i, .none], []⟩) R { s with heap := h, toks := tk } := by
  have hlen := hD.length
  rw [List.length_map] at hlen
  have isl : ∀ {h' : Heap}, h'.get? l = some (lstO vs n) → h'.IsList l vs.toArray := fun e => ⟨_, e, rfl, _, rfl⟩
  intro j
  induction j with
  | zero =>
    intro i h tk io o kvs hj hi S hit Ho hp
    have hie : i = ps.length := by omega
    refine codeAny_builtin entry_update_loop ?_
    rw [Around.under_plainId plain_update_loop _]
    show wpAny _ A.in1 (pyNext (.ref I) >>= _) _ _ _
    refine wpAny_bind (wpAny_pyNext_list_end hh hit (isl (S.led _ hl).1) (by simp; omega) fun h₁ he => ?_)
    show wpAny _ _ (Builtin.Dict.addKeywords d [] >>= _) _ _ _
    refine wpAny_bind (wpAny_pure (wpAny_pure ?_))
    exact hR _ _ o kvs (S.extBut he) Ho (hie ▸ hp)
  | succ j ih =>
    intro i h tk io o kvs hj hi S hit Ho hp
    have hlt : i < ps.length := by omega
    obtain ⟨v, hv, hDv⟩ := hD.get (i := i) (d := pairQ ps[i]) (by rw [List.getElem?_map, List.getElem?_eq_getElem hlt]; rfl)
    refine codeAny_builtin entry_update_loop ?_
    rw [Around.under_plainId plain_update_loop _]
    show wpAny _ A.in1 (pyNext (.ref I) >>= _) _ _ _
    refine wpAny_bind (wpAny_pyNext_list_item hit (isl (S.led _ hl).1) (by simpa using hv) fun h₁ hit₁ hs₁ => ?_)
    obtain ⟨io₁, hio₁, hio₂⟩ := id hit₁
    have S₁ := S.set .head hs₁ hio₁
    obtain ⟨p, hpe⟩ : ∃ p, ps[i] = p := ⟨_, rfl⟩
    have hpm : p ∈ ps := hpe ▸ List.getElem_mem hlt
    have hpi : ps[i]? = some p := by rw [List.getElem?_eq_getElem hlt, hpe]
    rw [hpe] at hDv
    have hDv' : DL g v (.tuple [p.1, p.2]) := hDv
    cases hDv' with
    | @tuple t ot nt ws _ ht htc htd hDt =>
      cases hDt with | @cons v1 _ _ _ d1 hDt => cases hDt with | @cons v2 _ _ _ d2 hDt => cases hDt with | nil =>
      refine wpAny_bind (wpAny_holding ?_)
      refine wpAny_bind (wpAny_tryCatch ?_)
      have hto := (S₁.led _ ht).1
      unfold Builtin.Dict.pairItems
      refine wpAny_bind (wpAny_typeOf (T := "tuple") ⟨_, hto, htc⟩ ?_)
      rw [if_pos (by decide)]
      refine wpAny_bind (wpAny_seqItems hto htd (wpAny_pure ?_))
      show wpAny _ _ (holding [v1, v2] (dictSet d v1 v2)) _ _ _
      refine wpAny_holding (wpAny_dictSet_pairs (knd := knd) (hkey p hpm v1 d1) (Heap.dictOf_iff.mpr ⟨o, (S₁.un _ (.tail _ (.head _))).1, Ho⟩) (fun h₂ hd₂ hs₂ => ?_) (Nat.le_trans (hPl _ _ hp) (by decide)))
      obtain ⟨o₂, ho₂, Ho₂⟩ := Heap.dictOf_iff.mp hd₂
      have S₂ := S₁.set (.tail .head) hs₂ ho₂
      refine wpAny_pure ⟨plainId_quiet plain_update_loop _, ?_⟩
      have e1 : rawInt ((i : Int) + 1) = rawInt ((i + 1 : Nat) : Int) := by rw [Int.natCast_add]; rfl
      rw [e1]
      exact ih (i + 1) h₂ _ io₁ o₂ _ (by omega) hlt S₂ ⟨io₁, (S₂.un _ (.head _)).1, hio₂⟩ Ho₂ (hP i p kvs v1 v2 hpi d1 d2 hp)

theorem dictOfG {Q : Value → Shared → Prop} {lv : Value} (P : Nat → List (K × Value) → Prop) (hh : A.handled = none) (S : St h₀ L gi m u g s.heap) (D : DL g lv (.list (ps.map pairQ))) (hkey : ∀ p ∈ ps, ∀ v, DL g v p.1 → knd.is (kd p.1) v = true)
    (hP : ∀ i p kvs v1 v2, ps[i]? = some p → DL g v1 p.1 → DL g v2 p.2 → P i kvs → P (i + 1) (stored kvs (kd p.1) v2)) (hPl : ∀ i kvs, P i kvs → kvs.length ≤ 1000) (hP0 : P 0 [])
    (h : ∀ h' tk d o kvs, s.heap.objs.size = d → St h₀ L gi m ((d, o) :: u) g h' → o.IsDictOf knd kvs → P ps.length kvs → Q (.ref d) { s with heap := h', toks := tk }) : wpAny (model prog w) A (call (.type "dict") [lv]) Q E s := by
  cases D with
  | @list l n vs _ hl hD =>
  refine callType_codes (Q₁ := fun obj s₁ => obj = .ref s.heap.objs.size ∧ s₁ = { s with heap := s.heap.push { cls := .type "dict", data := .dict #[] } }) F.kt_called_dict (F.kt_typeCall_dict_1 _) F.entry_dict_init (kt_code_dict_new _ ⟨rfl, rfl⟩) ?_
  rintro obj s₁ ⟨rfl, rfl⟩
  have hnew : (s.heap.push { cls := .type "dict", data := .dict #[] }).DictOf knd s.heap.objs.size [] := Heap.DictOf.new s.heap
  have S₁ := S.pushU { cls := .type "dict", data := .dict #[] }
  have Hd : Obj.IsDictOf knd { cls := .type "dict", data := .dict #[] } [] := by
    obtain ⟨o', ho', r⟩ := Heap.dictOf_iff.mp hnew
    rw [Heap.get?_push_size _ rfl] at ho'
    cases ho'; exact r
  refine ⟨hnew.typeIs, F.args_dict_init_2 _ _, ?_⟩
  unfold Builtin.«dict.__init__»
  refine wpAny_bind ?_
  unfold Builtin.Dict.selfAndRest
  refine wpAny_bind (wpAny_notOrdered_dict hnew.typeIs ?_)
  show wpAny _ _ (pure (s.heap.objs.size, [Value.ref l])) _ _ _
  refine wpAny_pure ?_
  show wpAny _ _ (Builtin.Dict.updateFrom "dict.__init__" s.heap.objs.size (.ref l) [] .none) _ _ _
  unfold Builtin.Dict.updateFrom
  refine wpAny_bind (wpAny_typeOf (T := "list") ⟨_, (S₁.led _ hl).1, rfl⟩ ?_)
  rw [if_pos (by decide)]
  refine wpAny_bind (keys_none (S₁.led _ hl).1 hh fun h₂ tk₂ hx₂ => ?_)
  have S₂ := S₁.ext hx₂
  refine wpAny_bind (wpAny_rule ?_)
  refine wpAny_bind (wpAny_pyIter_list ⟨_, (S₂.led _ hl).1, rfl, _, rfl⟩ ?_)
  dsimp only
  have S₃ := S₂.pushU { cls := .type "list_iterator", data := .fields #[.ref l, .int 0 0] }
  refine wpAny_pure ⟨plainId_quiet plain_update_loop _, ?_⟩
  exact update_loopG (s := s) (A := A.in1) (knd := knd) (kd := kd) P hh hl hD hkey hP hPl (fun h' tk o kvs S' Ho K => ⟨rfl, h h' tk _ o kvs rfl S' Ho K⟩) ps.length 0 _ _ _ _ [] (by omega) (Nat.zero_le _) S₃ ⟨_, (S₃.un _ (.head _)).1, rfl, rfl⟩ Hd hP0
end

section
variable {prog : Program} {w : World} {A : Around} {E : Value → Shared → Prop} {s : Shared} {h₀ : Heap} {L : Addr} {gi : Lg} {m : Str → Option Value} {u g : Lg}
/-- list(l) of a list of the call's own -/
theorem lCopy {Q : Value → Shared → Prop} {l : Addr} {vs : List Value} {n : Nat} (S : St h₀ L gi m u g s.heap) (hm : (l, lstO vs n) ∈ u) (hz : vs.length ≤ 1000)
    (h : ∀ h' x n', St h₀ L gi m u ((x, lstO vs n') :: g) h' → Q (.ref x) { s with heap := h' }) : wpAny (model prog w) A (call (.type "list") [.ref l]) Q E s := by
  refine call_list_seq l (.inl rfl) (S.un _ hm).1 rfl rfl (fun h' c' hk hS => ?_) (by rw [List.size_toArray]; exact Nat.le_trans hz (by decide))
  have := S.back (g' := [(s.heap.objs.size, lstO vs c')]) hk (fun p hp => by rw [List.mem_singleton.mp hp]; exact hS) (fun p hp => .inr (by rw [List.mem_singleton.mp hp]; exact size_none _))
  exact h h' _ c' this
/-- key in names -/
theorem inU {Q : Value → Shared → Prop} {l : Addr} {vs : List Value} {n k : Nat} {kv : Value} {xs : List PyData} {d : PyData} (hA : OkA A k) (S : St h₀ L gi m u g s.heap) (hm : (l, lstO vs n) ∈ u) (D : DLs g vs (ofPs xs)) (Dk : DL g kv (ofP d)) (hxs : PyData.canLayAll0 xs = true) (hd : d.canLay0 = true) (hdd : d.depth ≤ 5)
    (h : Q (.bool (xs.any fun y => PyData.eqv y d)) s) : wpAny (model prog w) A (compareOp .In kv (.ref l)) Q E s := by
  obtain ⟨as, ra⟩ := D.readsP S.at (ps := xs) rfl
  obtain ⟨bs, rk⟩ := Dk.reads S.at
  exact PySem.SeqAt.in_list_reads (reads_list_at (S.un _ hm).1 rfl rfl (by simpa using ra)) rk hxs hd (by have := hA.un; have := Nat.min_le_right (PyData.depthAll xs) d.depth; omega) h
end
end Mine
end
section
open PySem PyProof.Rows PySem.Calls PySem.W
set_option maxRecDepth 100000
namespace Mine
theorem KQ.get {kvs : List (Str × Value)} {ps : List (Dt × Dt)} (h : KQ kvs ps) : ∀ {i : Nat} {k : Str} {v : Value}, kvs[i]? = some (k, v) → ∃ n t, v = .int n t ∧ ps[i]? = some (.str k, .int n) := by
  induction h with
  | nil => intro i k v e; simp at e
  | @cons x n t kvs ps _ ih =>
    intro i k v e
    cases i with
    | zero => simp at e; obtain ⟨rfl, rfl⟩ := e; exact ⟨n, t, rfl, rfl⟩
    | succ i => simpa using ih (by simpa using e)
theorem KQ.at {kvs : List (Str × Value)} {ps : List (Dt × Dt)} (h : KQ kvs ps) (nd : (ps.map fun p => keyD p.1).Nodup) {x : Str} {n : Int} (hm : (Dt.str x, Dt.int n) ∈ ps) : ∃ t, valueAt kvs x = some (.int n t) := by
  induction h with
  | nil => cases hm
  | @cons y k t kvs ps hK ih =>
    rw [List.map_cons, List.nodup_cons] at nd
    by_cases e : y = x
    · subst e
      rcases List.mem_cons.mp hm with h | h
      · injection h with h1 h2
        injection h2 with h3
        subst h3
        exact ⟨t, by simp [valueAt]⟩
      · exact absurd (List.mem_map.mpr ⟨_, h, rfl⟩) nd.1
    · have hm' : (Dt.str x, Dt.int n) ∈ ps := by
        rcases List.mem_cons.mp hm with h | h
        · injection h with h1 h2; injection h1 with h3; exact absurd h3.symm e
        · exact h
      obtain ⟨t', q⟩ := ih nd.2 hm'
      refine ⟨t', ?_⟩
      simp only [valueAt, List.find?_cons, e, decide_false] at q ⊢
      exact q
theorem DLs.of_get {g : Lg} : ∀ {vs : List Value} {ds : List Dt}, vs.length = ds.length → (∀ (j : Nat) v d, vs[j]? = some v → ds[j]? = some d → DL g v d) → DLs g vs ds
  | [], [], _, _ => .nil
  | [], _ :: _, h, _ => by simp at h
  | _ :: _, [], h, _ => by simp at h
  | v :: vs, d :: ds, h, k => .cons (k 0 v d rfl rfl) (DLs.of_get (by simpa using h) fun j v' d' h1 h2 => k (j + 1) v' d' (by simpa using h1) (by simpa using h2))
section
variable {prog : Program} {w : World} {A : Around} {E : Value → Shared → Prop} {s : Shared} {h₀ : Heap} {L d : Addr} {gi : Lg} {m : Str → Option Value} {u g : Lg} {o : Obj} {kvs : List (Str × Value)} {ps : List (Dt × Dt)}
/-- list(d.items()) -/
theorem itemsL {Q : Value → Shared → Prop} {r : Addr} (hh : A.handled = none) (S : St h₀ L gi m u g s.heap) (hd : (d, o) ∈ g) (Ho : o.IsDictOf (strKind prog w) kvs) (K : KQ kvs ps) (hz : kvs.length ≤ 1000) (hr : (r, { cls := .type "dict_items", data := .fields #[.ref d] }) ∈ g)
    (h : ∀ h' x g' tk, St h₀ L gi m u (g' ++ g) h' → DL (g' ++ g) (.ref x) (.list (ps.map pairQ)) → Q (.ref x) { s with heap := h', toks := tk }) : wpAny (model prog w) A (call (.type "list") [.ref r]) Q E s := by
  obtain ⟨ep, hm⟩ := (Heap.dictOf_iff.mpr ⟨o, (S.led _ hd).1, Ho⟩ : s.heap.DictOf (strKind prog w) d kvs).dictAt
  refine kdx_call hh ⟨_, (S.led _ hr).1, rfl, rfl⟩ hm (Nat.le_trans hz (by decide)) fun h' tk acc c as hk hS hl hG hacc => ?_
  have eO : ({ cls := .type "list", dict := none, data := .seq acc c, slots := #[] } : Obj) = lstO (as.map Value.ref) c := by
    have : acc = (as.map Value.ref).toArray := by rw [← hacc]
    rw [this]
  rw [eO] at hS
  have hmem : ∀ p ∈ (s.heap.objs.size, lstO (as.map Value.ref) c) :: as.filterMap (fun a => (h'.get? a).map (a, ·)), h'.get? p.1 = some p.2 ∧ s.heap.get? p.1 = none := fun p hp => by
    rcases List.mem_cons.mp hp with rfl | hp
    · exact ⟨hS, size_none _⟩
    · obtain ⟨a, ha, e⟩ := List.mem_filterMap.mp hp
      obtain ⟨ob, hob, rfl⟩ := Option.map_eq_some_iff.mp e
      exact ⟨hob, Heap.get?_none_of_le (Nat.le_of_lt (hG.above a ha))⟩
  have S' := S.back hk (fun p hp => (hmem p hp).1) (fun p hp => .inr (hmem p hp).2)
  refine h h' _ _ tk S' (.list (List.mem_append.mpr (.inl (.head _))) (DLs.of_get (by rw [List.length_map, List.length_map, hl, K.length]) fun j v dd h1 h2 => ?_))
  rw [List.getElem?_map, Option.map_eq_some_iff] at h1
  obtain ⟨a, ha, rfl⟩ := h1
  obtain ⟨key, k, x, hkv, hkey, hob⟩ := hG.pairs j a ha
  obtain ⟨n, t, rfl, hp⟩ := K.get hkv
  rw [List.getElem?_map, hp] at h2
  obtain ⟨tk', rfl⟩ := Value.isStrOf_shape hkey
  have e2 : dd = .tuple [.str k, .int n] := (Option.some.inj h2).symm
  subst e2
  refine .tuple (o := { cls := .type "tuple", data := .seq #[.str k tk', .int n t] }) (n := 0) (vs := [.str k tk', .int n t]) ?_ rfl rfl (.cons (.str _ _) (.cons (.int _ _) .nil))
  exact List.mem_append.mpr (.inl (.tail _ (List.mem_filterMap.mpr ⟨a, List.mem_of_getElem? ha, by rw [hob]; rfl⟩)))
/-- for x in d.values() -/
theorem forVals {Q : Flow → Shared → Prop} {env : Env} {x : Str} {xp : Pos} {body : List Stmt} {vw : Addr} (hh : A.handled = none) (S : St h₀ L gi m [] g s.heap) (hd : (d, o) ∈ g) (Ho : o.IsDictOf (strKind prog w) kvs) (hv : (vw, { cls := .type "dict_values", data := .fields #[.ref d] }) ∈ g)
    (turn : ∀ (i : Nat) (k : Str) (v : Value) m' h tk I io, kvs[i]? = some (k, v) → St h₀ L gi m' [(I, io)] g h →
      wpAny (model prog w) A (assign (.Name x xp) env v) (fun _ s₂ => wpAny (model prog w) A (execs body env) (TurnEnd h₀ L gi (fun _ u g' => u = [] ∧ g' = g) I io s Q) (fun _ _ => False) s₂) (fun _ _ => False) { s with heap := h, toks := tk })
    (done : ∀ m' h tk, St h₀ L gi m' [] g h → Q .next { s with heap := h, toks := tk }) :
    wpAny (model prog w) A (pyIter (.ref vw)) (fun it s₂ => codeAny (model prog w) A (.forLoop (.Name x xp) it body [] env) (fun r s' => match r with | .ok f => Q f s' | .error e => cameBackBy (model prog w) A env E e s') s₂) E s := by
  obtain ⟨ep, hm⟩ := (Heap.dictOf_iff.mpr ⟨o, (S.led _ hd).1, Ho⟩ : s.heap.DictOf (strKind prog w) d kvs).dictAt
  have hmS : ∀ {m' : Str → Option Value} {u' : Lg} {h' : Heap}, St h₀ L gi m' u' g h' → h'.DictAt (strKind prog w) d kvs ep := fun S' => hm.at fun o' e => by
    have := (S.led _ hd).1
    rw [this] at e
    cases e
    exact (S'.led _ hd).1
  refine wpAny_pyIter_values ⟨_, (S.led _ hv).1, rfl, rfl⟩ hm ?_
  refine codeAny_forLoop_any (fun k s' => ∃ i m' h tk io, s' = { s with heap := h, toks := tk } ∧ i ≤ kvs.length ∧ k = kvs.length + 1 - i ∧ St h₀ L gi m' [(s.heap.objs.size, io)] g h ∧ h.IsValIter s.heap.objs.size d i kvs.length ep)
    ?_ (kvs.length + 1) ⟨0, m, _, s.toks, _, rfl, Nat.zero_le _, rfl, S.pushU _, ⟨_, Heap.get?_push_size _ rfl, rfl, rfl⟩⟩
  rintro k s' ⟨i, m', h, tk, io, rfl, hi, rfl, S', hit⟩
  cases hx : kvs[i]? with
  | none =>
    refine wpAny_pyNext_values_end hh hit (hmS S') hx fun h₁ he => wpAny_execs_nil ?_
    exact done m' h₁ tk (S'.extBut he)
  | some kv =>
    obtain ⟨k, v⟩ := kv
    have hlt : i < kvs.length := (List.getElem?_eq_some_iff.mp hx).1
    refine wpAny_pyNext_values_item hit (hmS S') hx fun h₁ hit₁ hs₁ => ?_
    obtain ⟨io₁, hio₁, hio₂⟩ := id hit₁
    have S₁ := S'.set .head hs₁ hio₁
    refine wpAny_pure (wpAny_mono (turn i k v m' h₁ tk _ io₁ hx S₁) (fun _ s₂ h₂ => wpAny_mono h₂ (fun f s₃ h₃ => ?_) fun _ _ e => e.elim) fun _ _ e => e.elim)
    cases f with
    | brk => exact h₃
    | ret v => exact h₃
    | next =>
      obtain ⟨m₂, u₂, g₂, hp₂, tk₂, rfl, ⟨rfl, rfl⟩, S₂⟩ := h₃
      exact ⟨kvs.length + 1 - (i + 1), by omega, i + 1, m₂, hp₂, tk₂, io₁, rfl, hlt, rfl, S₂, ⟨io₁, (S₂.un _ (.head _)).1, hio₂⟩⟩
    | cont =>
      obtain ⟨m₂, u₂, g₂, hp₂, tk₂, rfl, ⟨rfl, rfl⟩, S₂⟩ := h₃
      exact ⟨kvs.length + 1 - (i + 1), by omega, i + 1, m₂, hp₂, tk₂, io₁, rfl, hlt, rfl, S₂, ⟨io₁, (S₂.un _ (.head _)).1, hio₂⟩⟩
/-- the dict got and the dict due -/
theorem dictNe {Q : Value → Shared → Prop} {d2 : Addr} {kvs2 : List (Str × Value)} {n : Nat} (hA : OkA A n) (D1 : s.heap.DictOf (strKind prog w) d kvs) (D2 : s.heap.DictOf (strKind prog w) d2 kvs2) (l1 : (d == sysModules) = false) (l2 : (d2 == sysModules) = false) (K1 : KQ kvs ps) (K2 : KQ kvs2 ps) (nd : (ps.map fun p => keyD p.1).Nodup)
    (h : Q (.bool false) s) : wpAny (model prog w) A (compareOp .NotEq (.ref d) (.ref d2)) Q E s := by
  refine keq_ne (r := true) l1 l2 D1 D2 (by have := hA.un; omega) (fun _ => ?_) (by rw [K1.length, K2.length]; simpa using h)
  have key : ∀ (ka : List (Str × Value)) (qs : List (Dt × Dt)), KQ ka qs → (∀ q ∈ qs, q ∈ ps) → KeqHits A.in1 s kvs2 ka true := by
    intro ka qs hK
    induction hK with
    | nil => intro _; exact .nil
    | @cons x n t ka qs _ ih =>
      intro hsub
      obtain ⟨t', hv⟩ := K2.at nd (hsub _ (.head _))
      have := KeqHits.hit (A := A.in1) (s := s) (v := .int n t) (r := ka) hv (PySem.SeqAt.EqAt.int_int n t n t') (ih fun q hq => hsub q (.tail _ hq))
      simpa using this
  exact key kvs ps K1 fun _ h => h
end
end Mine
end
section
open PySem PyProof.Rows PySem.Calls PySem.W
set_option maxRecDepth 100000
namespace Mine
def countsT : List Dt := [.int 1, .int 2, .int 1000000000000000000, .int 0, .int (-1), .int 1000000000000000001, .int (-1000000000000000000), .int (-1000000000000000001), .bool true, .str "3", .flt]
theorem tab_counts : (("_law_counts" : Str), Dt.tuple countsT) ∈ tabL := by
  have : tabL[2]? = some (("_law_counts" : Str), Dt.tuple countsT) := by with_unfolding_all rfl
  exact List.mem_of_getElem? this
def countD (c : Nat) (size : Int) : Dt := if c < 11 then countsT.getD c .none else .int size
def stockR (w1 w2 : Nat) (r : Row) : Dt × Dt := ((nameD (fm r.2.1 (5 + 7 * w1))).1, countD (fm r.2.2.1 (3 + 9 * w2)) r.2.2.2)
theorem counts_scalar : ∀ d ∈ countsT, Scalar d := by
  intro d hd
  simp only [countsT, List.mem_cons, List.not_mem_nil, or_false] at hd
  rcases hd with rfl | rfl | rfl | rfl | rfl | rfl | rfl | rfl | rfl | rfl | rfl <;> trivial
theorem count_scalar {c : Nat} (hc : c < 12) (size : Int) : Scalar (countD c size) := by
  unfold countD
  split
  · rename_i h
    have h' : c < countsT.length := h
    have : countsT.getD c .none = countsT[c] := by simp [List.getD, List.getElem?_eq_getElem h']
    rw [this]
    exact counts_scalar _ (List.getElem_mem h')
  · trivial
def toP : Dt → PyData
  | .str x => .str x
  | .int n => .int n
  | _ => .none
def nameChk (i : Nat) : Bool := (match (nameD i).1 with
  | .str x => x.cps.toList.all (fun c => decide (c < 16 ^ 8)) && decide (x.length ≤ 300) && PyData.strOk x
  | .int _ => true
  | _ => false) && (nameOk (nameD i).1 == (nameD i).2)
theorem names_chk : ∀ i : Fin 12, nameChk i.val = true := by decide +kernel
structure NameR (d : Dt) : Prop where
  nd : NameD d
  back : ofP (toP d) = d
  lay : (toP d).canLay0 = true
  dep : (toP d).depth ≤ 5
theorem name_r {i : Nat} (hi : i < 12) : NameR (nameD i).1 ∧ nameOk (nameD i).1 = (nameD i).2 := by
  have h := names_chk ⟨i, hi⟩
  dsimp only at h
  unfold nameChk at h
  rw [Bool.and_eq_true] at h
  refine ⟨?_, by simpa using h.2⟩
  replace h := h.1
  generalize (nameD i).1 = d at h
  cases d with
  | str x =>
    simp only [Bool.and_eq_true, List.all_eq_true, decide_eq_true_eq] at h
    exact ⟨sane_of (by omega) h.1.1, by simp [toP, ofP], by simp [toP, PyData.canLay0, h.2], by simp [toP, PyData.depth]⟩
  | int n => exact ⟨trivial, by simp [toP, ofP], by simp [toP, PyData.canLay0], by simp [toP, PyData.depth]⟩
  | _ => simp at h
theorem ofPs_map : ∀ {ds : List Dt}, (∀ d ∈ ds, NameR d) → ofPs (ds.map toP) = ds
  | [], _ => rfl
  | d :: r, h => by
    simp only [List.map_cons, ofPs]
    rw [(h d (.head _)).back, ofPs_map fun x hx => h x (.tail _ hx)]
theorem lay_map : ∀ {ds : List Dt}, (∀ d ∈ ds, NameR d) → PyData.canLayAll0 (ds.map toP) = true
  | [], _ => by simp [PyData.canLayAll0]
  | d :: r, h => by
    have := lay_map (ds := r) fun x hx => h x (.tail _ hx)
    simp [PyData.canLayAll0, (h d (.head _)).lay, this]
theorem within1 (d : Dt) : withinD d 1 = (match chk d 1 with | .ok _ => true | .error _ => false) := by
  cases d with
  | int n =>
    have e1 : chk (.int n) 1 = if 1 ≤ n ∧ n ≤ MAXN then .ok n else .error (rangeMsg 1) := rfl
    have e2 : withinD (.int n) 1 = (!decide (n < 1) && !decide (n > MAXN)) := rfl
    rw [e1, e2]
    by_cases h : 1 ≤ n ∧ n ≤ MAXN
    · rw [if_pos h]; simp; omega
    · rw [if_neg h]; simp; omega
  | _ => rfl
theorem ok_str {d : Dt} (h : nameOk d = true) : ∃ x, d = .str x := by
  cases d with
  | str x => exact ⟨x, rfl⟩
  | _ => simp [nameOk] at h
theorem in_key {ps : List (Dt × Dt)} {k : Dt} (ho : okStock ps) (hk : nameOk k = true) : ((ps.map fun p => toP p.1).any fun y => PyData.eqv y (toP k)) = true ↔ keyD k ∈ ps.map fun p => keyD p.1 := by
  obtain ⟨x, rfl⟩ := ok_str hk
  rw [List.any_eq_true]
  constructor
  · rintro ⟨y, hy, e⟩
    obtain ⟨p, hp, rfl⟩ := List.mem_map.mp hy
    have h1 := ho.1 p hp
    simp only [okPair, Bool.and_eq_true] at h1
    obtain ⟨z, hz⟩ := ok_str h1.1
    rw [hz] at e
    simp only [toP, PyData.eqv, beq_iff_eq] at e
    exact List.mem_map.mpr ⟨p, hp, by rw [hz, e]⟩
  · intro h
    obtain ⟨p, hp, e⟩ := List.mem_map.mp h
    have h1 := ho.1 p hp
    simp only [okPair, Bool.and_eq_true] at h1
    obtain ⟨z, hz⟩ := ok_str h1.1
    refine ⟨toP p.1, List.mem_map.mpr ⟨p, hp, rfl⟩, ?_⟩
    rw [hz] at e ⊢
    have e' : z = x := e
    simp [toP, PyData.eqv, e']
/-- the verdict, one pair on -/
theorem ok_step {ps : List (Dt × Dt)} {p : Dt × Dt} {b : Bool} (hb : b = true ↔ okStock ps) :
    ((((b && nameOk p.1) && !((ps.map fun q => toP q.1).any fun y => PyData.eqv y (toP p.1))) && withinD p.2 1) = true) ↔ okStock (ps ++ [p]) := by
  simp only [Bool.and_eq_true, Bool.not_eq_true']
  constructor
  · rintro ⟨⟨⟨h1, h2⟩, h3⟩, h4⟩
    have ho := hb.mp h1
    rw [ok_snoc ho]
    refine ⟨?_, fun hm => ?_⟩
    · simp only [okPair, Bool.and_eq_true]
      rw [within1] at h4
      exact ⟨h2, h4⟩
    · rw [(in_key ho h2).mpr hm] at h3; cases h3
  · intro h
    have ho : okStock ps := by
      have := ok_take h ps.length
      simpa using this
    rw [ok_snoc ho] at h
    obtain ⟨h1, h2⟩ := h
    simp only [okPair, Bool.and_eq_true] at h1
    refine ⟨⟨⟨hb.mpr ho, h1.1⟩, ?_⟩, by rw [within1]; exact h1.2⟩
    cases hq : ((ps.map fun q => toP q.1).any fun y => PyData.eqv y (toP p.1)) with
    | false => rfl
    | true => exact absurd ((in_key ho h1.1).mp hq) h2
def plD (b : Bool) : Dt := if b then .none else .str (Str.ofString "")
/-- pairs that are in order, as data that compares -/
def pairP (p : Dt × Dt) : PyData := .tuple [toP p.1, toP p.2]
theorem pairs_ok : ∀ {ps : List (Dt × Dt)}, (∀ p ∈ ps, okPair p = true) → (∀ p ∈ ps, NameR p.1) → ofP (.list (ps.map pairP)) = .list (ps.map pairQ) ∧ PyData.canLayAll0 (ps.map pairP) = true ∧ PyData.depthAll (ps.map pairP) ≤ 3 ∧ PyData.eqvAll (ps.map pairP) (ps.map pairP) = true
  | [], _, _ => ⟨rfl, by simp [PyData.canLayAll0], by simp [PyData.depthAll], by simp [PyData.eqvAll]⟩
  | p :: r, h, hN => by
    obtain ⟨h1, h2, h3, h4⟩ := pairs_ok (ps := r) (fun q hq => h q (.tail _ hq)) (fun q hq => hN q (.tail _ hq))
    have hp := h p (.head _)
    simp only [okPair, Bool.and_eq_true] at hp
    obtain ⟨x, hx⟩ := ok_str hp.1
    have hn : ∃ n, p.2 = .int n := by
      cases hq : p.2 with
      | int n => exact ⟨n, rfl⟩
      | _ => rw [hq] at hp; simp [chk] at hp
    obtain ⟨n, hn⟩ := hn
    obtain ⟨p1, p2⟩ := p
    dsimp only at hx hn
    subst hx hn
    have hl := (hN _ (.head _)).lay
    have hl' : PyData.strOk x = true := by simpa [toP, PyData.canLay0] using hl
    simp only [ofP] at h1
    injection h1 with h1
    refine ⟨by simp only [ofP, List.map_cons, ofPs, h1, pairP, toP, pairQ], by simp [PyData.canLayAll0, pairP, toP, PyData.canLay0, hl', h2], ?_, ?_⟩
    · simp [PyData.depthAll, pairP, toP, PyData.depth] at h3 ⊢; omega
    · simp [PyData.eqvAll, pairP, toP, PyData.eqv, h4]
end Mine
end
section
open PySem PyProof.Rows PySem.Calls PySem.W
set_option maxRecDepth 100000
namespace Mine
def stockTail (k : Nat) : List Stmt := match (fdAt 26).body with
  | _ :: _ :: _ :: .For _ _ b _ _ :: _ => b.drop k
  | _ => []
section
variable {prog : Program} {w : World} {A : Around} {E : Value → Shared → Prop} {s : Shared} {mg mb : Str → Option Value} {a : Addr} {Q : Value → Shared → Prop} {outer : List Env} {g : Lg} {rv wv : Value} {rows : List Row} {w0 w1 w2 : Nat}
/-- what a turn must show, from its checks on -/
abbrev SJ (R : List (Dt × Dt)) (pl nl : Addr) (wv : Value) (m : Str → Option Value) (u g' : Lg) : Prop :=
  ∃ pvs pn nvs nn pv b, u = [(nl, lstO nvs nn), (pl, lstO pvs pn)] ∧ m "pairs" = some (.ref pl) ∧ m "names" = some (.ref nl) ∧ m "place" = some pv ∧ m "wild" = some wv ∧
    DLs g' pvs (R.map pairQ) ∧ DLs g' nvs (R.map (·.1)) ∧ DL [] pv (plD b) ∧ (b = true ↔ okStock R)
set_option maxHeartbeats 4000000 in
theorem stock_turn {cd : Value} {L : Addr} {h₀ : Heap} {gi : Lg} {s₀ : Shared} {I pl nl : Addr} {io : Obj} {pvs nvs : List Value} {pn nn : Nat} {g' : Lg} {R : List (Dt × Dt)} {p : Dt × Dt} {Qf : Flow → Shared → Prop} {G0 : Lg}
    (hA' : OkA A 3) (W : Wd mg mb h₀) (NR : ∀ q ∈ R, NameR q.1) (NP : NameR p.1) (SP : Scalar p.2) (hRl : R.length ≤ 10) (hG : ∀ q ∈ G0, q ∈ g') (Dp : DLs g' pvs (R.map pairQ)) (Dn : DLs g' nvs (R.map (·.1)))
    (m : Str → Option Value) (h : Heap) (tk : Nat) (kv cv pv : Value) (b : Bool) (S : St h₀ L gi m [(I, io), (nl, lstO nvs nn), (pl, lstO pvs pn)] g' h)
    (q1 : m "pairs" = some (.ref pl)) (q2 : m "names" = some (.ref nl)) (q3 : m "place" = some pv) (q4 : m "wild" = some wv) (q5 : m "key" = some kv) (q6 : m "count" = some cv) (q7 : m "sound" = some (.bool (nameOk p.1)))
    (Dk : DL g' kv p.1) (Dc : DL g' cv p.2) (Db : DL [] pv (plD b)) (hb : b = true ↔ okStock R) :
    wpAny (model prog w) A (execs (stockTail 4) (eX (fdAt 26).name (fdAt 26).scope L a cd [])) (TurnEnd h₀ L gi (fun m u g'' => (∀ p ∈ G0, p ∈ g'') ∧ SJ (R ++ [p]) pl nl wv m u g'') I io s₀ Qf) (fun _ _ => False) { s₀ with heap := h, toks := tk } := by
  obtain ⟨a21, o21, pm21, cd21, dc21, e21, f21⟩ := W.fn 21 (by decide)
  have hpl : pvs.length ≤ 100 := by rw [Dp.length, List.length_map]; omega
  have hnl : nvs.length ≤ 100 := by rw [Dn.length, List.length_map]; omega
  -- the two appends
  have f7 : ∀ (m : Str → Option Value) (h : Heap) (tk : Nat) (pv : Value) (b : Bool), St h₀ L gi m [(I, io), (nl, lstO nvs nn), (pl, lstO pvs pn)] g' h → m "pairs" = some (.ref pl) → m "names" = some (.ref nl) → m "place" = some pv → m "wild" = some wv → m "key" = some kv → m "count" = some cv → DL [] pv (plD b) → (b = true ↔ okStock (R ++ [p])) →
      wpAny (model prog w) A (execs (stockTail 7) (eX (fdAt 26).name (fdAt 26).scope L a cd [])) (TurnEnd h₀ L gi (fun m u g'' => (∀ p ∈ G0, p ∈ g'') ∧ SJ (R ++ [p]) pl nl wv m u g'') I io s₀ Qf) (fun _ _ => False) { s₀ with heap := h, toks := tk } := by
    intro m h tk pv b S q1 q2 q3 q4 q5 q6 Db hb
    conv in (stockTail 7) => whnf
    refine wpAny_execs_cons (wpAny_Expr (callM "list" "list.append" PySem.F.plainAttrs_list PySem.F.slot_list_append PySem.F.type_list_append (nmL S q1 ⟨⟨_, (S.un _ (.tail _ (.tail _ (.head _)))).1, rfl⟩, fun b e => by cases e; exact ⟨_, (S.un _ (.tail _ (.tail _ (.head _)))).1, rfl⟩,
      wpAny_items_cons (Tuple_ (wpAny_items_cons (nmL S q5 (wpAny_items_cons (nmL S q6 (wpAny_items_nil (mkTup S (by simp) fun h₂ ta S₂ => wpAny_items_nil (lApp (U := fun n' => [(I, io), (nl, lstO nvs nn), (pl, lstO (pvs ++ [.ref ta]) n')]) S₂ (fun n' => .tail (.tail .head)) (by omega) fun h₃ n₃ S₃ => ?_))))))))⟩)))
    dsimp only
    refine wpAny_execs_cons (wpAny_Expr (callM "list" "list.append" PySem.F.plainAttrs_list PySem.F.slot_list_append PySem.F.type_list_append (nmL S₃ q2 ⟨⟨_, (S₃.un _ (.tail _ (.head _))).1, rfl⟩, fun b e => by cases e; exact ⟨_, (S₃.un _ (.tail _ (.head _))).1, rfl⟩,
      wpAny_items_cons (nmL S₃ q5 (wpAny_items_nil (lApp (U := fun n' => [(I, io), (nl, lstO (nvs ++ [kv]) n'), (pl, lstO (pvs ++ [.ref ta]) n₃)]) S₃ (fun n' => .tail .head) (by omega) fun h₄ n₄ S₄ => ?_)))⟩)))
    dsimp only
    refine wpAny_execs_nil ?_
    refine TurnEnd.next ⟨fun q hq => .tail _ (hG q hq), pvs ++ [.ref ta], n₃, nvs ++ [kv], n₄, pv, b, rfl, q1, q2, q3, q4, ?_, ?_, Db, hb⟩ S₄
    · rw [List.map_append]
      exact (Dp.mono fun q hq => .tail _ hq).append (.cons (.tuple (.head _) rfl rfl (.cons (Dk.mono fun q hq => .tail _ hq) (.cons (Dc.mono fun q hq => .tail _ hq) .nil))) .nil)
    · rw [List.map_append]
      exact (Dn.mono fun q hq => .tail _ hq).append (.cons (Dk.mono fun q hq => .tail _ hq) .nil)
  have f6 : ∀ (m : Str → Option Value) (h : Heap) (tk : Nat) (pv : Value) (b : Bool), St h₀ L gi m [(I, io), (nl, lstO nvs nn), (pl, lstO pvs pn)] g' h → m "pairs" = some (.ref pl) → m "names" = some (.ref nl) → m "place" = some pv → m "wild" = some wv → m "key" = some kv → m "count" = some cv → DL [] pv (plD b) → ((b && withinD p.2 1) = true ↔ okStock (R ++ [p])) →
      wpAny (model prog w) A (execs (stockTail 6) (eX (fdAt 26).name (fdAt 26).scope L a cd [])) (TurnEnd h₀ L gi (fun m u g'' => (∀ p ∈ G0, p ∈ g'') ∧ SJ (R ++ [p]) pl nl wv m u g'') I io s₀ Qf) (fun _ _ => False) { s₀ with heap := h, toks := tk } := by
    intro m h tk pv b S q1 q2 q3 q4 q5 q6 Db hb
    conv in (stockTail 6) => whnf
    refine wpAny_execs_cons (wpAny_If (isTrue_not (isTrue_plain (callU (o := o21) (fd := docF 21 pm21 cd21 dc21) (nmG S W e21 ⟨rfl, wpAny_items_cons (nmL S q6 (wpAny_items_cons (wpAny_Constant_int (wpAny_items_nil ⟨⟨S.fr.keep _ _ f21.at_, f21.d⟩, ?_⟩))))⟩)))))
    dsimp only
    refine law_within_spec (s := { s₀ with heap := h, toks := _ }) (hA'.less (by omega)) (W.keeps S.fr.keep) e21 (Dc.bare SP) SP fun h₂ tk₂ hx₂ => wpAny_truthy_bool ?_
    have S₂ := S.ext hx₂
    dsimp only
    cases hw : withinD p.2 1 with
    | true =>
      rw [hw, Bool.and_true] at hb
      exact wpAny_execs_nil (f7 _ _ _ _ _ S₂ q1 q2 q3 q4 q5 q6 Db hb)
    | false =>
      rw [hw, Bool.and_false] at hb
      refine wpAny_execs_cons (wpAny_Assign_Name (wpAny_Constant_str (stL S₂ fun h₃ S₃ => wpAny_execs_nil ?_)))
      exact f7 _ _ _ _ false S₃ (upd_ne (by decide) q1) (upd_ne (by decide) q2) upd_eq (upd_ne (by decide) q4) (upd_ne (by decide) q5) (upd_ne (by decide) q6) (.str _ _) hb
  have f5 : ∀ (m : Str → Option Value) (h : Heap) (tk : Nat) (pv : Value) (b : Bool), St h₀ L gi m [(I, io), (nl, lstO nvs nn), (pl, lstO pvs pn)] g' h → m "pairs" = some (.ref pl) → m "names" = some (.ref nl) → m "place" = some pv → m "wild" = some wv → m "key" = some kv → m "count" = some cv → DL [] pv (plD b) → (((b && !((R.map fun q => toP q.1).any fun y => PyData.eqv y (toP p.1))) && withinD p.2 1) = true ↔ okStock (R ++ [p])) →
      wpAny (model prog w) A (execs (stockTail 5) (eX (fdAt 26).name (fdAt 26).scope L a cd [])) (TurnEnd h₀ L gi (fun m u g'' => (∀ p ∈ G0, p ∈ g'') ∧ SJ (R ++ [p]) pl nl wv m u g'') I io s₀ Qf) (fun _ _ => False) { s₀ with heap := h, toks := tk } := by
    intro m h tk pv b S q1 q2 q3 q4 q5 q6 Db hb
    conv in (stockTail 5) => whnf
    have NR' : ∀ d ∈ R.map (·.1), NameR d := fun d hd => by obtain ⟨q, hq, rfl⟩ := List.mem_map.mp hd; exact NR q hq
    have em : (R.map fun q => toP q.1) = (R.map (·.1)).map toP := by simp
    rw [em] at hb
    refine wpAny_execs_cons (wpAny_If (wpAny_isTrue_Compare1 (nmL S q5 (nmL S q2 (inU (xs := (R.map (·.1)).map toP) (d := toP p.1) hA' S (.tail _ (.head _)) (by rw [ofPs_map NR']; exact Dn) (by rw [NP.back]; exact Dk) (lay_map NR') NP.lay NP.dep (wpAny_truthy_bool ?_))))))
    cases hw : (((R.map (·.1)).map toP).any fun y => PyData.eqv y (toP p.1)) with
    | false =>
      rw [hw, Bool.not_false, Bool.and_true] at hb
      exact wpAny_execs_nil (f6 _ _ _ _ _ S q1 q2 q3 q4 q5 q6 Db hb)
    | true =>
      rw [hw, Bool.not_true, Bool.and_false] at hb
      refine wpAny_execs_cons (wpAny_Assign_Name (wpAny_Constant_str (stL S fun h₃ S₃ => wpAny_execs_nil ?_)))
      exact f6 _ _ _ _ false S₃ (upd_ne (by decide) q1) (upd_ne (by decide) q2) upd_eq (upd_ne (by decide) q4) (upd_ne (by decide) q5) (upd_ne (by decide) q6) (.str _ _) hb
  have hst := ok_step (p := p) hb
  conv in (stockTail 4) => whnf
  refine wpAny_execs_cons (wpAny_If (isTrue_not (isTrue_plain (nmL S q7 (wpAny_truthy_bool ?_)))))
  cases hw : nameOk p.1 with
  | true =>
    rw [hw, Bool.and_true] at hst
    exact wpAny_execs_nil (f5 _ _ _ _ _ S q1 q2 q3 q4 q5 q6 Db hst)
  | false =>
    rw [hw, Bool.and_false] at hst
    refine wpAny_execs_cons (wpAny_Assign_Name (wpAny_Constant_str (stL S fun h₃ S₃ => wpAny_execs_nil ?_)))
    exact f5 _ _ _ _ false S₃ (upd_ne (by decide) q1) (upd_ne (by decide) q2) upd_eq (upd_ne (by decide) q4) (upd_ne (by decide) q5) (upd_ne (by decide) q6) (.str _ _) hst
end
end Mine
end
section
open PySem PyProof.Rows PySem.Calls PySem.W
set_option maxRecDepth 100000
namespace Mine
def mixKd : Dt → Sum Str Int
  | .str x => .inl x
  | .int n => .inr n
  | _ => .inl ""
theorem stored_len {K : Type} [DecidableEq K] (kvs : List (K × Value)) (k : K) (v : Value) : (stored kvs k v).length ≤ kvs.length + 1 := by
  unfold stored; split <;> simp
theorem FrP.keep {outer : List Env} {h₂ h₃ : Heap} (x : FrP outer h₂) (hk : ∀ b ∈ frs outer, ∀ o, h₂.get? b = some o → h₃.get? b = some o) : FrP outer h₃ := by
  obtain ⟨base, P⟩ := x
  refine ⟨hideAll h₃ (frs outer), ?_⟩
  have key : ∀ (l : List Env), (∀ b ∈ frs l, ∀ o, h₂.get? b = some o → h₃.get? b = some o) → h₂.FunFrames base l → ∀ B : Heap, (∀ b ∈ frs l, B.get? b = none) → h₃.FunFrames B l := by
    intro l
    induction l with
    | nil => intro _ _ _ _; trivial
    | cons env r ih =>
      intro hl P B hB
      obtain ⟨hk, ⟨L', o, hf, hn', ho', hd'⟩, hr⟩ := P
      have hm : L' ∈ frs (env :: r) := by simp [frs, hf]
      refine ⟨hk, ⟨L', o, hf, hB L' hm, hl L' hm o ho', hd'⟩, ih (fun b hb => hl b ?_) hr B fun b hb => hB b ?_⟩
      · simp only [frs, List.filterMap_cons, hf]; exact .tail _ hb
      · simp only [frs, List.filterMap_cons, hf]; exact .tail _ hb
  exact key outer hk P _ fun b hb => hideAll_none _ hb
/-- the frames around, held in the ledger -/
def frL (outer : List Env) (h : Heap) : Lg := (frs outer).filterMap fun b => (h.get? b).map (b, ·)
theorem St.frames {H h : Heap} {L : Addr} {gi g : Lg} {m : Str → Option Value} {outer : List Env} (S : St H L gi m [] g h) (hH : ∀ b ∈ frs outer, H.get? b = none) (hL : ∀ b ∈ frs outer, b ≠ L) : St H L gi m [] (frL outer h ++ g) h := by
  have key : ∀ p ∈ frL outer h, p.1 ∈ frs outer ∧ h.get? p.1 = some p.2 := fun p hp => by
    obtain ⟨b, hb, e⟩ := List.mem_filterMap.mp hp
    obtain ⟨o, ho, rfl⟩ := Option.map_eq_some_iff.mp e
    exact ⟨hb, ho⟩
  refine ⟨S.fr, S.un, fun p hp => ?_, (fun p hp q hq => nomatch hq), S.nd, fun p hp => ?_⟩
  · rcases List.mem_append.mp hp with hp | hp
    · exact ⟨(key p hp).2, hL _ (key p hp).1⟩
    · exact S.led p hp
  · rcases List.mem_append.mp hp with hp | hp
    · exact .inr (hH _ (key p hp).1)
    · exact S.prov p hp
theorem frL_mem {outer : List Env} {h : Heap} {b : Addr} {o : Obj} (hb : b ∈ frs outer) (ho : h.get? b = some o) : (b, o) ∈ frL outer h := List.mem_filterMap.mpr ⟨b, hb, by rw [ho]; rfl⟩

section
variable {prog : Program} {w : World} {A : Around} {E : Value → Shared → Prop} {s : Shared} {mg mb : Str → Option Value} {a : Addr} {Q : Value → Shared → Prop} {outer : List Env} {g : Lg} {rv wv : Value} {rows : List Row} {w0 w1 w2 : Nat}
set_option maxHeartbeats 4000000 in
theorem law_stock_spec (hA : OkA A 4) (X : Hx A outer s mg mb) (W : Wd mg mb s.heap) (ha : mg (fdAt 26).name = some (.ref a))
    (hg : ∀ p ∈ g, s.heap.get? p.1 = some p.2) (hgo : ∀ p ∈ g, p.1 ∉ frs outer) (hT : ∀ p ∈ tabL, ∃ v, mg p.1 = some v ∧ DL g v p.2) (DR : DL g rv (.list (rows.map rowQ))) (DW : DL g wv (.tuple [.int w0, .int w1, .int w2]))
    (hr : rows.length ≤ 4) (h1 : w1 ≤ 1) (h2 : w2 ≤ 1)
    (hk : ∀ h' tk, Aft outer s.heap h' → Q (.bool true) { s with heap := h', toks := tk }) :
    wpAny (model prog w) A (call (.ref a) [rv, wv]) Q E s := by
  obtain ⟨of, pm, cd, dc, fn⟩ := fn_of W (i := 26) (by decide) ha
  obtain ⟨a19, o19, pm19, cd19, dc19, e19, f19⟩ := W.fn 19 (by decide)
  obtain ⟨a24, o24, pm24, cd24, dc24, e24, f24⟩ := W.fn 24 (by decide)
  obtain ⟨a7, o7, pm7, cd7, dc7, e7, f7⟩ := W.fn 7 (by decide)
  obtain ⟨vC, eC, DC⟩ := hT _ tab_counts
  dsimp only at eC DC
  refine enterX (i := 26) (n := 3) (hb := s.heap) (u := []) (g := g) (binds := [("rows", rv), ("wild", wv)]) hA fn W.nolimit (Ext.refl _) (Nat.le_refl _)
    (fun _ h => nomatch h) hg (fun _ _ _ h => nomatch h) (by simp) rfl ?_
  intro L h₁ tk hL hx₁ S hA'
  conv in (fdAt 26).body => whnf
  have hfL : ∀ b ∈ frs outer, b ≠ L := fun b hb q => by
    have := X.fo b hb
    rw [q] at this
    exact this hL
  have restB : ∀ (m : Str → Option Value) (h : Heap) (tk : Nat) (gg : Lg) (pl wl : Addr) (vs : List Value) (k1 k2 : Nat) (ps : List (Dt × Dt)) (sd : Str) (t1 t2 : Tok), St (hideAll s.heap (frs outer)) L g m [] gg h → Aft outer s.heap h → (∀ p ∈ ps, NameR p.1) → ps.length ≤ 4 → (pl, lstO vs k1) ∈ gg → (wl, lstO vs k2) ∈ gg → DLs gg vs (ps.map pairQ) → m "pairs" = some (.ref pl) → m "want" = some (.ref wl) → m "got" = some .none → m "said" = some (.str sd t1) → m "place" = some (.str (Str.ofString "") t2) →
      wpAny (model prog w) (A.deeper (eX (fdAt 26).name (fdAt 26).scope L a cd [])) (execs ((fdAt 26).body.drop 8) (eX (fdAt 26).name (fdAt 26).scope L a cd []))
        (fun fl s' => Q (match fl with | .ret v => v | _ => .none) s') (LE (model prog w) (A.deeper (eX (fdAt 26).name (fdAt 26).scope L a cd [])) (eX (fdAt 26).name (fdAt 26).scope L a cd []) E) { s with heap := h, toks := tk } := by
    intro m h tk gg pl wl vs k1 k2 ps sd t1 t2 S₀ af NR hpl hm1 hm2 D q1 q2 q3 q4 q5
    have S' := S₀.frames (outer := outer) (fun b hb => hideAll_none _ hb) hfL
    have hsub : ∀ p ∈ gg, p ∈ frL outer h ++ gg := fun p hp => List.mem_append.mpr (.inr hp)
    conv in (List.drop 8 (fdAt 26).body) => whnf
    obtain ⟨o24', pm24', cd24', dc24', f24'⟩ := fn_of X.wd (i := 24) (by decide) e24
    refine wpAny_execs_cons (wpAny_If (wpAny_isTrue_Compare1 (nmL S' q1 (nmL S' q2 (cmpSame hA' (S'.led _ (hsub _ hm1)).1 (S'.led _ (hsub _ hm2)).1 (wpAny_truthy_bool ?_))))))
    refine wpAny_execs_nil ?_
    refine wpAny_execs_cons (wpAny_If (wpAny_isTrue_Compare1 (callU (o := o24') (fd := docF 24 pm24' cd24' dc24') (nmG S' X.wd e24 ⟨rfl, wpAny_items_cons (nmL S' q3 (wpAny_items_cons (nmL S' q4 (wpAny_items_cons (callT "dict" (nmB S' X.wd (X.wd.free _ (by decide)) rfl ⟨rfl, wpAny_items_cons (nmL S' q2 (wpAny_items_nil ?_))⟩))))))⟩))))
    refine dictOfG (s := { s with heap := h, toks := tk }) (knd := mixKind prog w) (kd := mixKd) (ps := ps) (fun i kvs => kvs.length ≤ i ∧ i ≤ ps.length) hA'.hd S' (.list (hsub _ hm2) (D.mono hsub)) (fun p hp v Dv => ?_) (fun i p kvs v1 v2 hp _ _ hP => ⟨?_, ?_⟩) (fun i kvs hP => by omega) ⟨Nat.le_refl 0, Nat.zero_le _⟩ fun h₂ tk₂ d2 o2 kvs2 hd2 S₂ Ho2 hP2 => ?_
    · have := (NR p hp).nd
      cases hq : p.1 with
      | str x => rw [hq] at Dv; cases Dv; simp [mixKind, mixKd, mixIs, Value.isStrOf]
      | int n => rw [hq] at Dv; cases Dv; simp [mixKind, mixKd, mixIs, Value.isInt]
      | _ => rw [hq] at this; exact this.elim
    · have := stored_len kvs (mixKd p.1) v2; omega
    · have := (List.getElem?_eq_some_iff.mp hp).1; omega
    dsimp only
    refine wpAny_items_cons (nmL S₂ q5 (wpAny_items_nil ⟨⟨S₂.fr.keep _ _ f24'.at_, f24'.d⟩, ?_⟩))
    refine law_judge_some (s := { s with heap := h₂, toks := tk₂ }) (hA'.less (by omega)) (X.wd.keeps S₂.fr.keep) e24 (by have := starts_app (Str.ofString "") sd; rw [show Str.ofString "" ++ sd = sd from empty_app sd] at this; exact this) fun h' tk' hx' => ?_
    have S'' := S₂.ext hx'
    dsimp only
    refine wpAny_Constant_bool (wpAny_isNot_self rfl (wpAny_truthy_bool ?_))
    refine wpAny_execs_nil ?_
    refine wpAny_execs_cons (wpAny_If (wpAny_isTrue_Compare1 (nmL S'' q5 (wpAny_Constant_none (wpAny_is_other rfl (by intro h; cases h) (wpAny_truthy_bool ?_))))))
    refine wpAny_execs_nil ?_
    refine wpAny_execs_cons (wpAny_Return_some (wpAny_Constant_bool (hk _ _ ?_)))
    have fk : ∀ b ∈ frs outer, ∀ o, h.get? b = some o → h'.get? b = some o := fun b hb o ho => (S''.led _ (List.mem_append.mpr (.inl (frL_mem hb ho)))).1
    refine ⟨fun b o hb hbn => S''.fr.keep b o (hideAll_get _ hb hbn), fun b hb o hbo hnf => ?_, af.fr.keep fk⟩
    obtain ⟨sl, q⟩ := af.up b hb o hbo hnf
    exact ⟨sl, fk b hb _ q⟩
  have restO : ∀ (m : Str → Option Value) (h : Heap) (tk : Nat) (gg : Lg) (pl wl d : Addr) (o : Obj) (kvs : List (Str × Value)) (vs : List Value) (k1 k2 : Nat) (ps : List (Dt × Dt)), St s.heap L g m [] gg h → (∀ p ∈ ps, NameR p.1) → ps.length ≤ 4 → okStock ps → (pl, lstO vs k1) ∈ gg → (wl, lstO vs k2) ∈ gg → DLs gg vs (ps.map pairQ) → (d, o) ∈ gg → (d == sysModules) = false → o.IsDictOf (strKind prog w) kvs → KQ kvs ps → m "pairs" = some (.ref pl) → m "want" = some (.ref wl) → m "got" = some (.ref d) → m "said" = some .none → m "place" = some .none →
      wpAny (model prog w) (A.deeper (eX (fdAt 26).name (fdAt 26).scope L a cd [])) (execs ((fdAt 26).body.drop 8) (eX (fdAt 26).name (fdAt 26).scope L a cd []))
        (fun fl s' => Q (match fl with | .ret v => v | _ => .none) s') (LE (model prog w) (A.deeper (eX (fdAt 26).name (fdAt 26).scope L a cd [])) (eX (fdAt 26).name (fdAt 26).scope L a cd []) E) { s with heap := h, toks := tk } := by
    intro m h tk gg pl wl d o kvs vs k1 k2 ps S' NR hpl hok hm1 hm2 D hd lo Ho K q1 q2 q3 q4 q5
    conv in (List.drop 8 (fdAt 26).body) => whnf
    refine wpAny_execs_cons (wpAny_If (wpAny_isTrue_Compare1 (nmL S' q1 (nmL S' q2 (cmpSame hA' (S'.led _ hm1).1 (S'.led _ hm2).1 (wpAny_truthy_bool ?_))))))
    refine wpAny_execs_nil ?_
    refine wpAny_execs_cons (wpAny_If (wpAny_isTrue_Compare1 (callU (o := o24) (fd := docF 24 pm24 cd24 dc24) (nmG S' W e24 ⟨rfl, wpAny_items_cons (nmL S' q3 (wpAny_items_cons (nmL S' q4 (wpAny_items_cons (callT "dict" (nmB S' W (W.free _ (by decide)) rfl ⟨rfl, wpAny_items_cons (nmL S' q2 (wpAny_items_nil ?_))⟩))))))⟩))))
    have okp : ∀ p ∈ ps, ∃ x n, p = (.str x, .int n) := fun p hp => by
      have h1 := hok.1 p hp
      simp only [okPair, Bool.and_eq_true] at h1
      obtain ⟨x, hx⟩ := ok_str h1.1
      cases hq : p.2 with
      | int n => exact ⟨x, n, Prod.ext hx hq⟩
      | _ => rw [hq] at h1; simp [chk] at h1
    refine dictOfG (s := { s with heap := h, toks := tk }) (knd := strKind prog w) (kd := keyD) (ps := ps) (fun i kvs => KQ kvs (ps.take i) ∧ i ≤ ps.length) hA'.hd S' (.list hm2 D) (fun p hp v Dv => ?_) (fun i p kvs v1 v2 hp _ D2 hP => ?_) (fun i kvs hP => by rw [hP.1.length, List.length_take]; omega) ⟨.nil, Nat.zero_le _⟩ fun h₂ tk₂ d2 o2 kvs2 hd2 S₂ Ho2 hP2 => ?_
    · obtain ⟨x, n, rfl⟩ := okp p hp
      cases Dv
      exact strKind_is prog w x _
    · have hlt := (List.getElem?_eq_some_iff.mp hp).1
      have htk : ps.take (i + 1) = ps.take i ++ [p] := by rw [List.take_add_one, hp]; rfl
      obtain ⟨x, n, rfl⟩ := okp p (List.mem_of_getElem? hp)
      cases D2
      have hno : valueAt kvs x = none := by
        cases hq : valueAt kvs x with
        | none => rfl
        | some y =>
          have h3 := (hP.1.has x).mp (by rw [hq]; rfl)
          have h4 := ok_take hok (i + 1)
          rw [htk, ok_snoc (ok_take hok i)] at h4
          exact absurd h3 h4.2
      refine ⟨?_, hlt⟩
      show KQ (stored kvs x _) _
      rw [stored_new hno, htk]
      exact hP.1.snoc
    have K2 : KQ kvs2 ps := by have := hP2.1; rw [List.take_length] at this; exact this
    have lo2 : (d2 == sysModules) = false := hd2 ▸ S'.fr.notModules (modules_low W.nolimit)
    have S₃ := S₂.freeze
    dsimp only
    refine wpAny_items_cons (nmL S₃ q5 (wpAny_items_nil ⟨⟨S₃.fr.keep _ _ f24.at_, f24.d⟩, ?_⟩))
    refine law_judge_none (s := { s with heap := h₂, toks := tk₂ }) (hA'.less (by omega)) (W.keeps S₃.fr.keep) e24 (fun A' E' Q' h' tk' hA₂ hx' hQ => ?_) fun h' tk' hx' => ?_
    · exact dictNe (s := { s with heap := h', toks := tk' }) (ps := ps) hA₂ (Heap.dictOf_iff.mpr ⟨o, hx' _ _ (S₃.led _ (.tail _ hd)).1, Ho⟩) (Heap.dictOf_iff.mpr ⟨o2, hx' _ _ (S₃.led _ (.head _)).1, Ho2⟩) lo lo2 K K2 hok.2 hQ
    have S₄ := S₃.ext hx'
    dsimp only
    refine wpAny_Constant_bool (wpAny_isNot_self rfl (wpAny_truthy_bool ?_))
    refine wpAny_execs_nil ?_
    refine wpAny_execs_cons (wpAny_If (wpAny_isTrue_Compare1 (nmL S₄ q5 (wpAny_Constant_none (wpAny_is_self rfl (wpAny_truthy_bool ?_))))))
    have hDd : ∀ {h'' : Heap} {m'' : Str → Option Value} {u'' g'' : Lg}, St s.heap L g m'' u'' g'' h'' → (d, o) ∈ g'' → h''.DictOf (strKind prog w) d kvs := fun S'' hm => Heap.dictOf_iff.mpr ⟨o, (S''.led _ hm).1, Ho⟩
    refine wpAny_execs_cons (wpAny_If (wpAny_isTrue_Compare1 (callT "list" (nmB S₄ W (W.free _ (by decide)) rfl ⟨rfl, wpAny_items_cons (wpAny_Call_items (knd := strKind prog w) (kvs := kvs) lo (hDd S₄ (.tail _ hd)) rfl rfl (fun Q' hq => nmL S₄ q3 hq) ?_)⟩))))
    have S₅ := S₄.pushG { cls := .type "dict_items", data := .fields #[.ref d] }
    dsimp only
    refine wpAny_items_nil (itemsL (s := { s with heap := _, toks := _ }) hA'.hd S₅ (.tail _ (.tail _ hd)) Ho K (by rw [K.length]; omega) (.head _) fun h₆ x g₆ tk₆ S₆ D₆ => ?_)
    dsimp only
    obtain ⟨e1, e2, e3, e4⟩ := pairs_ok hok.1 NR
    have hshp : PySem.SeqAt.shaped (.list (ps.map pairP)) = true := by simp [PySem.SeqAt.shaped, PyData.canLay0, e2, PyData.depth]; omega
    refine nmL S₆ q2 (cmpNeP (s := { s with heap := h₆, toks := tk₆ }) (p := .list (ps.map pairP)) hA' S₆.at (by rw [e1]; exact D₆) (by rw [e1]; exact .list (List.mem_append.mpr (.inr (.tail _ (.tail _ hm2)))) (D.mono fun p hp => List.mem_append.mpr (.inr (.tail _ (.tail _ hp))))) hshp (by simp only [PyData.eqv]; exact e4) (wpAny_truthy_bool ?_))
    refine wpAny_execs_nil ?_
    have hd6 : (d, o) ∈ g₆ ++ (h'.objs.size, ({ cls := .type "dict_items", data := .fields #[.ref d] } : Obj)) :: (d2, o2) :: gg := List.mem_append.mpr (.inr (.tail _ (.tail _ hd)))
    refine wpAny_execs_cons (wpAny_For (callM0 "dict" "dict.values" PySem.F.plainAttrs_dict PySem.F.slot_dict_values PySem.F.type_dict_values (nmL S₆ q3 ⟨(hDd S₆ hd6).typeIs, (hDd S₆ hd6).mapOf.noDict, call_meetsIn PySem.F.slot_dict_values (hDd S₆ hd6).typeIs PySem.F.entry_dict_values (PySem.F.args_dict_values_1 _) (meets_dict_values (strKind prog w) d lo) ⟨⟨kvs, hDd S₆ hd6⟩, ?_⟩⟩)))
    have S₇ := S₆.pushG { cls := .type "dict_values", data := .fields #[.ref d] }
    refine forVals (s := { s with heap := _, toks := tk₆ }) hA'.hd S₇ (.tail _ hd6) Ho (.head _) ?_ ?_
    · intro i k v m' h₈ tk₈ I io hkv S₈
      obtain ⟨n, t, rfl, _⟩ := K.get hkv
      refine wpAny_assign_Name (stL S₈ fun h₉ S₉ => ?_)
      dsimp only
      refine wpAny_execs_cons (wpAny_If (isTrue_not (wpAny_isTrue_Compare1 (callT "type" (nmB S₉ W (W.free _ (by decide)) rfl ⟨rfl, wpAny_items_cons (nmL S₉ upd_eq (wpAny_items_nil (call_type_of (Tx := "int") rfl rfl (nmB S₉ W (W.free _ (by decide)) rfl (wpAny_is_self rfl (wpAny_truthy_bool ?_))))))⟩)))))
      refine wpAny_execs_nil (wpAny_execs_nil ?_)
      exact TurnEnd.next ⟨rfl, rfl⟩ S₉
    · intro m' h₈ tk₈ S₈
      refine wpAny_execs_nil ?_
      exact wpAny_execs_cons (wpAny_Return_some (wpAny_Constant_bool (hk _ _ (Aft.of X.cx.ok S₈.fr.keep))))
  refine wpAny_execs_cons (wpAny_Assign_Name (List_ (wpAny_items_nil (mkLstU S (by simp) fun h₂ pl S₂ => stL S₂ fun h₃ S₃ => ?_))))
  dsimp only
  refine wpAny_execs_cons (wpAny_Assign_Name (List_ (wpAny_items_nil (mkLstU S₃ (by simp) fun h₄ nl S₄ => stL S₄ fun h₅ S₅ => ?_))))
  dsimp only
  refine wpAny_execs_cons (wpAny_Assign_Name (wpAny_Constant_none (stL S₅ fun h₆ S₆ => ?_)))
  dsimp only
  have nmlt : ∀ r : Row, fm r.2.1 (5 + 7 * w1) < 12 := fun r => by
    have h1 := Int.fmod_lt_of_pos r.2.1 (b := 5 + 7 * (w1 : Int)) (by omega)
    unfold fm; omega
  have chlt : ∀ r : Row, fm r.2.2.1 (3 + 9 * w2) < 12 := fun r => by
    have h1 := Int.fmod_lt_of_pos r.2.2.1 (b := 3 + 9 * (w2 : Int)) (by omega)
    unfold fm; omega
  have NRr : ∀ r : Row, NameR (stockR w1 w2 r).1 ∧ nameOk (stockR w1 w2 r).1 = (nameD (fm r.2.1 (5 + 7 * w1))).2 := fun r => name_r (nmlt r)
  have SCr : ∀ r : Row, Scalar (stockR w1 w2 r).2 := fun r => count_scalar (chlt r) _
  have mulok : ∀ (k : Int) (n : Nat), Builtin.Int.intBits k ≤ 64 → IntMulOk k (n : Int) := fun k n h => IntMulOk.of_left h
  refine wpAny_execs_cons (wpAny_For (nmL S₆ rfl (forL (fun i m u g' => SJ ((rows.take i).map (stockR w1 w2)) pl nl wv m u g')
    hA'.hd S₆ DR ⟨[], 0, [], 0, .none, true, rfl, rfl, rfl, rfl, rfl, .nil, .nil, .none, ⟨fun _ => ⟨(fun _ h => nomatch h), .nil⟩, fun _ => rfl⟩⟩ (lets_tuple _ _ _) ?_ ?_)))
  · rintro i d v m u g' h tk₁ I io hd hv hsub ⟨pvs, pn, nvs, nn, pv, b, rfl, m1, m2, m3, m4, Dp, Dn, Db, hb⟩ S₇
    have hi : i < rows.length := by have := (List.getElem?_eq_some_iff.mp hd).1; simpa using this
    obtain ⟨r, hr'⟩ : ∃ r, rows[i]? = some r := ⟨_, List.getElem?_eq_getElem hi⟩
    have hop : d = rowQ r := by rw [List.getElem?_map, hr'] at hd; exact (Option.some.inj hd).symm
    subst hop
    have htk : (rows.take (i + 1)).map (stockR w1 w2) = (rows.take i).map (stockR w1 w2) ++ [stockR w1 w2 r] := by rw [List.take_add_one, hr']; simp
    refine unT hA'.hd S₇ (hv.mono hsub) rfl fun vs₈ h₈ D₈ S₈ => ?_
    cases D₈ with | cons d1 D₈ => cases D₈ with | cons d2 D₈ => cases D₈ with | cons d3 D₈ => cases D₈ with | cons d4 D₈ => cases D₈ with | nil =>
    cases d1
    cases d2
    cases d3
    cases d4
    rename_i t1 t2 t3 t4
    refine assignInOrder_cons (wpAny_assign_Name (stL S₈ fun h₉ S₉ => assignInOrder_cons (wpAny_assign_Name (stL S₉ fun h₁₀ S₁₀ => assignInOrder_cons (wpAny_assign_Name (stL S₁₀ fun h₁₁ S₁₁ => assignInOrder_cons (wpAny_assign_Name (stL S₁₁ fun h₁₂ S₁₂ => assignInOrder_nil ?_))))))))
    dsimp only
    generalize hM : (upd (upd (upd (upd m "kind" _) "name" _) "pick" _) "size" _) = M at S₁₂
    have n4 : ∀ {x : Str} {v : Value}, m x = some v → x ≠ "kind" → x ≠ "name" → x ≠ "pick" → x ≠ "size" → M x = some v := fun h a b c d => by rw [← hM]; exact upd_ne d (upd_ne c (upd_ne b (upd_ne a h)))
    have k1 := n4 m1 (by decide) (by decide) (by decide) (by decide)
    have k2 := n4 m2 (by decide) (by decide) (by decide) (by decide)
    have k3 := n4 m3 (by decide) (by decide) (by decide) (by decide)
    have k4 := n4 m4 (by decide) (by decide) (by decide) (by decide)
    have k5 : M "name" = some (.int r.2.1 t2) := by rw [← hM]; exact upd_ne (by decide) (upd_ne (by decide) upd_eq)
    have k6 : M "pick" = some (.int r.2.2.1 t3) := by rw [← hM]; exact upd_ne (by decide) upd_eq
    have k7 : M "size" = some (.int r.2.2.2 t4) := by rw [← hM]; exact upd_eq
    clear hM n4
    refine wpAny_execs_cons (Assign_Tuple (callU (o := o19) (fd := docF 19 pm19 cd19 dc19) (nmG S₁₂ W e19 ⟨rfl, wpAny_items_cons (wpAny_BinOp (nmL S₁₂ k5 (wpAny_BinOp (wpAny_Constant_int (wpAny_BinOp (wpAny_Constant_int (Subscript_ (nmL S₁₂ k4 (wpAny_Constant_int (sbT (i := 1) (d := .int w1) S₁₂ (DW.mono hsub) rfl (by simp) fun v hv => ?_))))))))))⟩)))
    cases hv
    refine PySem.P.mul_int (PyProof.Rows.add_int (modN (n := fm r.2.1 (5 + 7 * w1)) (by omega) (fm_eq (by omega)) (wpAny_items_nil ⟨⟨S₁₂.fr.keep _ _ f19.at_, f19.d⟩, ?_⟩))) (mulok _ _ (by decide))
    dsimp only
    refine law_name_spec (s := { s with heap := h₁₂, toks := _ }) (hA'.less (by omega)) (W.keeps S₁₂.fr.keep) e19 (nmlt r) fun x o h₁₃ tk₁₃ hx₁₃ hxo hxn DN => ?_
    have S₁₃ := S₁₂.back (g' := [(x, o)]) hx₁₃ (fun p hp => by rw [List.mem_singleton.mp hp]; exact hxo) (fun p hp => .inr (by rw [List.mem_singleton.mp hp]; exact hxn))
    dsimp only
    obtain ⟨NP, hsnd⟩ := NRr r
    rw [← hsnd] at DN
    have SP := SCr r
    have eP : stockR w1 w2 r = ((nameD (fm r.2.1 (5 + 7 * w1))).1, countD (fm r.2.2.1 (3 + 9 * w2)) r.2.2.2) := rfl
    have eN : (stockR w1 w2 r).1 = (nameD (fm r.2.1 (5 + 7 * w1))).1 := rfl
    rw [← eN] at DN
    have eC2 : (stockR w1 w2 r).2 = countD (fm r.2.2.1 (3 + 9 * w2)) r.2.2.2 := rfl
    have NR' : ∀ q ∈ (rows.take i).map (stockR w1 w2), NameR q.1 := fun q hq => by obtain ⟨r', _, rfl⟩ := List.mem_map.mp hq; exact (NRr r').1
    have hRl : ((rows.take i).map (stockR w1 w2)).length ≤ 10 := by rw [List.length_map, List.length_take]; omega
    have hch := chlt r
    have hchq := fm_eq (x := r.2.2.1) (b := 3 + 9 * (w2 : Int)) (by omega)
    rw [htk]
    clear eN eP hsnd
    generalize stockR w1 w2 r = p at *
    generalize (rows.take i).map (stockR w1 w2) = R at *
    generalize fm r.2.2.1 (3 + 9 * w2) = ch at *
    refine unT hA'.hd S₁₃ (DN.mono (fun p hp => List.mem_append.mpr (.inl hp))) rfl fun vs₁₄ h₁₄ D₁₄ S₁₄ => ?_
    cases D₁₄ with | cons dk D₁₄ => cases D₁₄ with | cons ds D₁₄ => cases D₁₄ with | nil =>
    cases ds
    rename_i kv
    refine assignInOrder_cons (wpAny_assign_Name (stL S₁₄ fun h₁₅ S₁₅ => assignInOrder_cons (wpAny_assign_Name (stL S₁₅ fun h₁₆ S₁₆ => assignInOrder_nil ?_))))
    dsimp only
    have hsub' : ∀ p ∈ g, p ∈ [(x, o)] ++ g' := fun p hp => List.mem_append.mpr (.inr (hsub p hp))
    refine wpAny_execs_cons (wpAny_Assign_Name (wpAny_BinOp (nmL S₁₆ (upd_ne (by decide) (upd_ne (by decide) k6)) (wpAny_BinOp (wpAny_Constant_int (wpAny_BinOp (wpAny_Constant_int (Subscript_ (nmL S₁₆ (upd_ne (by decide) (upd_ne (by decide) k4)) (wpAny_Constant_int (sbT (i := 2) (d := .int w2) S₁₆ (DW.mono hsub') rfl (by simp) fun v hv => ?_)))))))))))
    cases hv
    refine PySem.P.mul_int (PyProof.Rows.add_int (modN (n := ch) (by omega) hchq (stL S₁₆ fun h₁₇ S₁₇ => ?_))) (mulok _ _ (by decide))
    dsimp only
    refine wpAny_execs_cons (wpAny_Assign_Name (nmL S₁₇ (upd_ne (by decide) (upd_ne (by decide) (upd_ne (by decide) k7))) (stL S₁₇ fun h₁₈ S₁₈ => ?_)))
    dsimp only
    refine wpAny_execs_cons (wpAny_If (wpAny_isTrue_Compare1 (nmL S₁₈ (upd_ne (by decide) upd_eq) (wpAny_Constant_int (PyProof.Rows.lt_int (wpAny_truthy_bool ?_))))))
    have Dp' : DLs ([(x, o)] ++ g') pvs (R.map pairQ) := Dp.mono fun p hp => List.mem_append.mpr (.inr hp)
    have Dn' : DLs ([(x, o)] ++ g') nvs (R.map (·.1)) := Dn.mono fun p hp => List.mem_append.mpr (.inr hp)
    by_cases c11 : ch < 11
    · rw [decide_eq_true (by omega : (ch : Int) < 11)]
      have hcnt : countsT[ch]? = some p.2 := by
        rw [eC2]
        unfold countD
        rw [if_pos c11]
        have h' : ch < countsT.length := c11
        simp [List.getD, List.getElem?_eq_getElem h']
      refine wpAny_execs_cons (wpAny_Assign_Name (Subscript_ (nmG S₁₈ W eC (nmL S₁₈ (upd_ne (by decide) upd_eq) (sbT (i := ch) (d := p.2) S₁₈ (DC.mono hsub') hcnt (by decide) fun cv Dc => stL S₁₈ fun h₁₉ S₁₉ => wpAny_execs_nil ?_)))))
      exact stock_turn (s₀ := { s with heap := h₆, toks := tk + 1 + 1 + 1 }) hA' W NR' NP SP hRl hsub' Dp' Dn' _ h₁₉ _ kv cv pv b S₁₉ (upd_ne (by decide) (upd_ne (by decide) (upd_ne (by decide) (upd_ne (by decide) (upd_ne (by decide) k1))))) (upd_ne (by decide) (upd_ne (by decide) (upd_ne (by decide) (upd_ne (by decide) (upd_ne (by decide) k2))))) (upd_ne (by decide) (upd_ne (by decide) (upd_ne (by decide) (upd_ne (by decide) (upd_ne (by decide) k3))))) (upd_ne (by decide) (upd_ne (by decide) (upd_ne (by decide) (upd_ne (by decide) (upd_ne (by decide) k4)))))
        (upd_ne (by decide) (upd_ne (by decide) (upd_ne (by decide) (upd_ne (by decide) upd_eq)))) upd_eq (upd_ne (by decide) (upd_ne (by decide) (upd_ne (by decide) upd_eq))) dk Dc Db hb
    · rw [decide_eq_false (by omega : ¬ (ch : Int) < 11)]
      have hcnt : p.2 = .int r.2.2.2 := by rw [eC2]; unfold countD; rw [if_neg c11]
      refine wpAny_execs_nil ?_
      exact stock_turn (s₀ := { s with heap := h₆, toks := tk + 1 + 1 + 1 }) hA' W NR' NP SP hRl hsub' Dp' Dn' _ h₁₈ _ kv (.int r.2.2.2 t4) pv b S₁₈ (upd_ne (by decide) (upd_ne (by decide) (upd_ne (by decide) (upd_ne (by decide) k1)))) (upd_ne (by decide) (upd_ne (by decide) (upd_ne (by decide) (upd_ne (by decide) k2)))) (upd_ne (by decide) (upd_ne (by decide) (upd_ne (by decide) (upd_ne (by decide) k3)))) (upd_ne (by decide) (upd_ne (by decide) (upd_ne (by decide) (upd_ne (by decide) k4))))
        (upd_ne (by decide) (upd_ne (by decide) (upd_ne (by decide) upd_eq))) upd_eq (upd_ne (by decide) (upd_ne (by decide) upd_eq)) dk (by rw [hcnt]; exact .int _ _) Db hb
  · rintro m u g' h tk₁ hsub ⟨pvs, pn, nvs, nn, pv, b, rfl, m1, m2, m3, m4, Dp, Dn, Db, hb⟩ S₇
    rw [List.length_map, List.take_length] at Dp Dn hb
    have NRp : ∀ p ∈ rows.map (stockR w1 w2), NameR p.1 := fun q hq => by obtain ⟨r', _, rfl⟩ := List.mem_map.mp hq; exact (NRr r').1
    have SCp : ∀ p ∈ rows.map (stockR w1 w2), Scalar p.2 := fun q hq => by obtain ⟨r', _, rfl⟩ := List.mem_map.mp hq; exact SCr r'
    have hpl : (rows.map (stockR w1 w2)).length ≤ 4 := by rw [List.length_map]; exact hr
    generalize rows.map (stockR w1 w2) = ps at *
    have hpv : pvs.length ≤ 4 := by rw [Dp.length, List.length_map]; exact hpl
    refine wpAny_execs_cons (wpAny_Assign_Name (callT "list" (nmB S₇ W (W.free _ (by decide)) rfl ⟨rfl, wpAny_items_cons (nmL S₇ m1 (wpAny_items_nil (lCopy S₇ (.tail _ (.head _)) (by omega) fun h₈ wl k2 S₈ => stL S₈ fun h₉ S₉ => ?_)))⟩)))
    dsimp only
    refine wpAny_execs_cons (wpAny_Assign_Name (wpAny_Constant_none (stL S₉ fun h₁₀ S₁₀ => ?_)))
    refine wpAny_execs_cons (wpAny_Assign_Name (wpAny_Constant_none (stL S₁₀ fun h₁₁ S₁₁ => ?_)))
    dsimp only
    have S₁₂ := S₁₁.freeze.freeze
    generalize hM : (upd (upd (upd m "want" _) "got" _) "said" _) = M at S₁₂
    have k1 : M "got" = some .none := by rw [← hM]; exact upd_ne (by decide) upd_eq
    have k2' : M "said" = some .none := by rw [← hM]; exact upd_eq
    have k3 : M "want" = some (.ref wl) := by rw [← hM]; exact upd_ne (by decide) (upd_ne (by decide) upd_eq)
    have k4 : M "place" = some pv := by rw [← hM]; exact upd_ne (by decide) (upd_ne (by decide) (upd_ne (by decide) m3))
    have k5 : M "pairs" = some (.ref pl) := by rw [← hM]; exact upd_ne (by decide) (upd_ne (by decide) (upd_ne (by decide) m1))
    clear hM
    have Dp' : DLs ((pl, lstO pvs pn) :: (nl, lstO nvs nn) :: (wl, lstO pvs k2) :: g') pvs (ps.map pairQ) := Dp.mono fun p hp => .tail _ (.tail _ (.tail _ hp))
    refine wpAny_execs_cons (wpAny_Try_except ?_)
    refine wpAny_execs_cons (wpAny_Assign_Name (callU (o := o7) (fd := docF 7 pm7 cd7 dc7) (nmG S₁₂ W e7 ⟨rfl, wpAny_items_cons (nmL S₁₂ k5 (wpAny_items_nil ⟨⟨S₁₂.fr.keep _ _ f7.at_, f7.d⟩, ?_⟩))⟩)))
    dsimp only
    refine check_stock_spec (s := { s with heap := h₁₁, toks := _ }) (ps := ps) hA' ((X.cx.ext S₁₂.fr.keep).push S₁₂) (W.keeps S₁₂.fr.keep) e7 (fun p hp => (S₁₂.led p hp).1) (.list (.head _) Dp') (by omega) (fun p hp => ⟨(NRp p hp).nd, SCp p hp⟩) (fun hok d o kvs h₁₃ tk₁₃ hx₁₃ hdn lo ho Ho K => ?_) (fun hno msg hmsg => ?_)
    · have hbt := hb.mpr hok
      subst hbt
      cases Db
      have S₁₃ := S₁₂.back (g' := [(d, o)]) hx₁₃ (fun p hp => by rw [List.mem_singleton.mp hp]; exact ho) (fun p hp => .inr (by rw [List.mem_singleton.mp hp]; exact hdn))
      dsimp only
      refine stL S₁₃ fun h₁₄ S₁₄ => wpAny_execs_nil (wpAny_execs_nil ?_)
      exact restO _ _ _ _ pl wl d o kvs pvs pn k2 ps S₁₄ NRp hpl hok (.tail _ (.head _)) (.tail _ (.tail _ (.tail _ (.head _)))) (Dp'.mono fun p hp => .tail _ hp) (.head _) lo Ho K (upd_ne (by decide) k5) (upd_ne (by decide) k3) upd_eq (upd_ne (by decide) k2') (upd_ne (by decide) k4)
    · have hbf : b = false := by
        cases b with
        | false => rfl
        | true => exact absurd (hb.mp rfl) hno
      subst hbf
      cases Db
      rename_i tp
      intro e h' tk' fl
      refine noteFly (s := { s with heap := h', toks := tk' }) (Around.frames_deeper X.cx.fr) rfl fl fun h₂ x => ?_
      refine catchV (s := { s with heap := h₂, toks := tk' }) S₁₂ X.wd X.fo hgo x fun h₃ tk₃ vs t S₃ hE hF hU hN hK g1 g3 => ?_
      obtain ⟨oe, tok, ho, hc, hd, hsz, hv0, hv2, hTt⟩ := hE
      have hun : ((A.deeper (eX (fdAt 26).name (fdAt 26).scope L a cd [])).mark (some (.ref e))).units + 2 < cLine := by
        have hu' := hA'.un
        exact (by omega : (A.deeper (eX (fdAt 26).name (fdAt 26).scope L a cd [])).units + 2 < cLine)
      refine wpAny_execs_cons (wpAny_Assign_Name (callT "str" (nmB S₃ X.wd (X.wd.free _ (by decide)) rfl ⟨rfl, wpAny_items_cons (nmL S₃ upd_eq (wpAny_items_nil (PySem.P.str_of_exc_one PySem.F.excStr_ValueError hun ⟨oe, vs, ho, hc, hd, hv0⟩ hTt ?_)))⟩)))
      refine wpAny_storeName_local rfl S₃.fr.ns (fun h₄ hn₄ hs₄ => ?_) (by rfl)
      refine wpAny_execs_nil ?_
      refine wpAny_nameGoes_keeps (s := { s with heap := h₄, toks := _ }) rfl hn₄ (by rfl) fun h₅ v₅ hn₅ hs₅ => ?_
      have S₅ := (S₃.store hn₄ hs₄).store hn₅ hs₅
      have af : Aft outer s.heap h₅ := by
        refine ⟨fun b o hb hbn => S₅.fr.keep b o (hideAll_get _ hb hbn), fun b hb o hbo hnf => ?_, (hF.same hs₄ hfL).same hs₅ hfL⟩
        obtain ⟨sl, q⟩ := hU b hb o (S₁₂.fr.keep b o hbo) hnf
        exact ⟨sl, (hs₅.2 b (hfL b hb)).trans ((hs₄.2 b (hfL b hb)).trans q)⟩
      have nm : ∀ {y : Str} {v : Value}, M y = some v → y ≠ "error" → y ≠ "said" → ∀ {v1 v2 : Value}, (if y = "error" then v₅ else upd (upd M "error" v1) "said" v2 y) = some v := fun h1 h2 h3 => by
        intro v1 v2
        rw [if_neg h2]; exact upd_ne h3 (upd_ne h2 h1)
      exact restB _ h₅ _ _ pl wl pvs pn k2 ps _ _ tp S₅ af NRp hpl (.head _) (.tail _ (.tail _ (.head _))) Dp' (nm k5 (by decide) (by decide)) (nm k3 (by decide) (by decide)) (nm k1 (by decide) (by decide)) (by
        show (if ("said" : Str) = "error" then v₅ else upd (upd M "error" _) "said" _ "said") = _
        rw [if_neg (by decide)]; exact upd_eq) (nm k4 (by decide) (by decide))
end
end Mine
end
section
open PySem PyProof.Rows PySem.Calls PySem.W
set_option maxRecDepth 100000
namespace Mine
def modesT : List (Nat × Nat × Nat) := [(0, 0, 0), (1, 0, 0), (0, 1, 0), (0, 0, 1)]
def modeD (p : Nat × Nat × Nat) : Dt := .tuple [.int p.1, .int p.2.1, .int p.2.2]
theorem tab_modes : (("_law_modes" : Str), Dt.tuple (modesT.map modeD)) ∈ tabL := by
  have : tabL[0]? = some (("_law_modes" : Str), Dt.tuple (modesT.map modeD)) := by with_unfolding_all rfl
  exact List.mem_of_getElem? this
theorem modes_ok : ∀ p ∈ modesT, p.1 ≤ 1 ∧ p.2.1 ≤ 1 ∧ p.2.2 ≤ 1 := by decide
section
variable {prog : Program} {w : World} {A : Around} {E : Value → Shared → Prop} {s : Shared} {h₀ : Heap} {L : Addr} {gi : Lg} {m : Str → Option Value} {u g : Lg} {env : Env} {body : List Stmt} {lv : Value} {ds : List Dt}
theorem forT {Q : Flow → Shared → Prop} {x : Str} {xp : Pos} (J : Nat → (Str → Option Value) → Lg → Lg → Prop) (hh : A.handled = none) (S : St h₀ L gi m u g s.heap) (D : DL g lv (.tuple ds)) (h0 : J 0 m u g)
    (turn : ∀ (i : Nat) d v m' u' g' h tk I io, ds[i]? = some d → DL g v d → (∀ p ∈ g, p ∈ g') → J i m' u' g' → St h₀ L gi m' ((I, io) :: u') g' h →
      wpAny (model prog w) A (assign (.Name x xp) env v) (fun _ s₂ => wpAny (model prog w) A (execs body env) (TurnEnd h₀ L gi (fun m u g'' => (∀ p ∈ g, p ∈ g'') ∧ J (i + 1) m u g'') I io s Q) (fun _ _ => False) s₂) (fun _ _ => False) { s with heap := h, toks := tk })
    (done : ∀ m' u' g' h tk, (∀ p ∈ g, p ∈ g') → J ds.length m' u' g' → St h₀ L gi m' u' g' h → Q .next { s with heap := h, toks := tk }) :
    wpAny (model prog w) A (pyIter lv) (fun it s₂ => codeAny (model prog w) A (.forLoop (.Name x xp) it body [] env) (fun r s' => match r with | .ok f => Q f s' | .error e => cameBackBy (model prog w) A env E e s') s₂) E s := by
  cases D with
  | @tuple l o n vs _ hl hc hd hD =>
    have hlen := hD.length
    have isl : ∀ {h' : Heap}, h'.get? l = some o → h'.IsTuple l vs.toArray := fun e => ⟨_, e, hc, _, hd⟩
    refine wpAny_pyIter_tuple (isl (S.led _ hl).1) ?_
    refine codeAny_forLoop_any (fun k s' => ∃ i m' u' g' h tk io, s' = { s with heap := h, toks := tk } ∧ i ≤ ds.length ∧ k = ds.length + 1 - i ∧ (∀ p ∈ g, p ∈ g') ∧ J i m' u' g' ∧ St h₀ L gi m' ((s.heap.objs.size, io) :: u') g' h ∧ h.IsTupleIter s.heap.objs.size l i)
      ?_ (ds.length + 1) ⟨0, m, u, g, _, s.toks, _, rfl, Nat.zero_le _, rfl, fun _ hp => hp, h0, S.pushU _, ⟨_, Heap.get?_push_size _ rfl, rfl, rfl⟩⟩
    rintro k s' ⟨i, m', u', g', h, tk, io, rfl, hi, rfl, hsub, hJ, S', hit⟩
    cases hx : vs[i]? with
    | none =>
      have hie : i = ds.length := by have := List.getElem?_eq_none_iff.mp hx; omega
      refine wpAny_pyNext_tuple_end hh hit (isl (S'.led _ (hsub _ hl)).1) (by simpa using hx) fun h₁ he => wpAny_execs_nil ?_
      exact done m' u' g' h₁ tk hsub (hie ▸ hJ) (S'.extBut he)
    | some v =>
      obtain ⟨d, hd', hDv⟩ := hD.getV hx
      have hlt : i < ds.length := (List.getElem?_eq_some_iff.mp hd').1
      refine wpAny_pyNext_tuple_item hit (isl (S'.led _ (hsub _ hl)).1) (by simpa using hx) fun h₁ hit₁ hs₁ => ?_
      obtain ⟨io₁, hio₁, hio₂⟩ := id hit₁
      have S₁ := S'.set .head hs₁ hio₁
      refine wpAny_pure (wpAny_mono (turn i d v m' u' g' h₁ tk _ io₁ hd' hDv hsub hJ S₁) (fun _ s₂ h₂ => wpAny_mono h₂ (fun f s₃ h₃ => ?_) fun _ _ e => e.elim) fun _ _ e => e.elim)
      cases f with
      | brk => exact h₃
      | ret v => exact h₃
      | next =>
        obtain ⟨m₂, u₂, g₂, hp₂, tk₂, rfl, ⟨hs₂, hJ₂⟩, S₂⟩ := h₃
        exact ⟨ds.length + 1 - (i + 1), by omega, i + 1, m₂, u₂, g₂, hp₂, tk₂, io₁, rfl, hlt, rfl, hs₂, hJ₂, S₂, ⟨io₁, (S₂.un _ (.head _)).1, hio₂⟩⟩
      | cont =>
        obtain ⟨m₂, u₂, g₂, hp₂, tk₂, rfl, ⟨hs₂, hJ₂⟩, S₂⟩ := h₃
        exact ⟨ds.length + 1 - (i + 1), by omega, i + 1, m₂, u₂, g₂, hp₂, tk₂, io₁, rfl, hlt, rfl, hs₂, hJ₂, S₂, ⟨io₁, (S₂.un _ (.head _)).1, hio₂⟩⟩
end
theorem ints_at {vs : List Value} {ns : List Int} (h : IntsAre vs ns) : ∀ {i : Nat}, i < ns.length → ∃ t, vs[i]? = some (.int (ns.getD i 0) t) := by
  induction h with
  | nil => intro i hi; simp at hi
  | cons n t h ih =>
    intro i hi
    cases i with
    | zero => exact ⟨t, rfl⟩
    | succ i => simpa using ih (i := i) (by simpa using hi)
theorem ints_len {vs : List Value} {ns : List Int} (h : IntsAre vs ns) : vs.length = ns.length := by induction h <;> simp_all
section
variable {prog : Program} {w : World} {A : Around} {E : Value → Shared → Prop} {s : Shared} {h₀ : Heap} {L a l : Addr} {gi : Lg} {m : Str → Option Value} {u g : Lg} {cn : Str} {cs : Scope} {cd : Value} {cl : List (Str × Addr)} {vs : List Value} {ns : List Int}
/-- the script's item -/
theorem scI {Q : Value → Shared → Prop} {p1 p2 p3 : Pos} {k i : Nat} (S : St h₀ L gi m u g s.heap) (hl : h₀.IsList l vs.toArray) (hI : IntsAre vs ns) (hm : m "script" = some (.ref l)) (hi : i < ns.length) (hz : ns.length ≤ 63)
    (h : ∀ t tk, Q (.int (ns.getD i 0) t) { s with toks := tk })
    (hk : cs.kind = .function := by rfl) (hx : (eX cn cs L a cd cl).kindOf "script" = some .local := by rfl) :
    wpAny (model prog w) A (eval (.Subscript (.Name "script" p1) (.Constant (.int i) k p2) p3) (eX cn cs L a cd cl)) Q E s := by
  obtain ⟨t, ht⟩ := ints_at hI hi
  refine Subscript_ (nmL S hm (wpAny_Constant_int ?_) hk hx)
  have hL : s.heap.IsList l vs.toArray := let ⟨o, ho, r⟩ := hl; ⟨o, S.fr.keep _ _ ho, r⟩
  exact tail_any hL.typeIs slot_list_getitem.lookup (wpAny_getItem_list hL (by omega) (by omega) (by simpa using ht) (h _ _)) (by with_unfolding_all rfl)
def rowAt (ns : List Int) (i : Nat) : Row := (ns.getD i 0, ns.getD (i + 1) 0, ns.getD (i + 2) 0, ns.getD (i + 3) 0)
/-- a row of the script -/
theorem rowE {Q : Value → Shared → Prop} {p1 p2 p3 p4 p5 p6 p7 p8 p9 p10 p11 p12 pt : Pos} {k1 k2 k3 k4 k5 i : Nat} (S : St h₀ L gi m u g s.heap) (hl : h₀.IsList l vs.toArray) (hI : IntsAre vs ns) (hm : m "script" = some (.ref l)) (hi : i + 3 < ns.length) (hz : ns.length ≤ 63)
    (h : ∀ h' b o tk, St h₀ L gi m u ((b, o) :: g) h' → DL ((b, o) :: g) (.ref b) (rowQ (rowAt ns i)) → Q (.ref b) { s with heap := h', toks := tk })
    (hk : cs.kind = .function := by rfl) (hx : (eX cn cs L a cd cl).kindOf "script" = some .local := by rfl) :
    wpAny (model prog w) A (eval (.Tuple [.Subscript (.Name "script" p1) (.Constant (.int i) k1 p2) p3, .Subscript (.Name "script" p4) (.Constant (.int (i + 1 : Nat)) k2 p5) p6, .Subscript (.Name "script" p7) (.Constant (.int (i + 2 : Nat)) k3 p8) p9, .Subscript (.Name "script" p10) (.Constant (.int (i + 3 : Nat)) k4 p11) p12] k5 pt) (eX cn cs L a cd cl)) Q E s := by
  refine Tuple_ (wpAny_items_cons (scI S hl hI hm (by omega) hz (fun t1 tk1 => wpAny_items_cons (scI S hl hI hm (by omega) hz (fun t2 tk2 => wpAny_items_cons (scI S hl hI hm (by omega) hz (fun t3 tk3 => wpAny_items_cons (scI S hl hI hm (by omega) hz (fun t4 tk4 => wpAny_items_nil (mkTup S (by simp) fun h' b S' => ?_)) hk hx)) hk hx)) hk hx)) hk hx))
  exact h _ _ _ _ S' (.tuple (.head _) rfl rfl (.cons (.int _ _) (.cons (.int _ _) (.cons (.int _ _) (.cons (.int _ _) .nil)))))
end
theorem line_all {w0 w1 w2 : Nat} (h0 : w0 ≤ 1) (h1 : w1 ≤ 1) (h2 : w2 ≤ 1) (r : Row) : LineOk (lineR w0 w1 w2 r) := by
  have q1 := Int.fmod_lt_of_pos r.1 (b := 6 + 6 * (w0 : Int)) (by omega)
  have q2 := Int.fmod_lt_of_pos r.2.1 (b := 5 + 2 * (w1 : Int)) (by omega)
  have q3 := Int.fmod_lt_of_pos r.2.2.1 (b := 4 + 8 * (w2 : Int)) (by omega)
  have q4 := Int.fmod_lt_of_pos r.2.2.2 (b := 6 + 3 * (w2 : Int)) (by omega)
  have q5 := Int.fmod_lt_of_pos r.2.2.2 (b := 8) (by omega)
  exact line_ok (by unfold fm; omega) (by unfold fm; omega) (by unfold fm; omega) (by unfold fm; omega) (by unfold fm; omega)
/-- the state behind a call in which an exception may have been caught -/
theorem St.after {h₀ h h' : Heap} {L : Addr} {gi : Lg} {m : Str → Option Value} {u g : Lg} {env : Env} (S : St h₀ L gi m u g h) (hf : env.frame = some L) (x : Aft [env] h h') : St h₀ L gi m u g h' := by
  have hfr : frs [env] = [L] := by simp [frs, hf]
  obtain ⟨o, es, ep, ho, hd, r⟩ := S.fr.ns
  obtain ⟨sl, q⟩ := x.up L (by rw [hfr]; exact .head _) o ho (fun vs e => by rw [hd] at e; cases e)
  exact S.move ⟨_, es, ep, q, hd, r⟩ fun b ob hb e => x.keep b ob e (by rw [hfr]; simpa using hb)
section
variable {prog : Program} {w : World} {A : Around} {E : Value → Shared → Prop} {s : Shared} {mg mb : Str → Option Value} {a l : Addr} {Q : Value → Shared → Prop} {vs : List Value} {ns : List Int}
set_option maxHeartbeats 4000000 in
theorem law_spec (hA : OkA A 7) (hfr : A.frames = some []) (W : Wd mg mb s.heap) (ha : mg (fdAt 27).name = some (.ref a)) (hl : s.heap.IsList l vs.toArray) (hI : IntsAre vs ns) (hz : ns.length ≤ 63)
    (hk : ∀ h' tk, Ext s.heap h' → Q (.bool true) { s with heap := h', toks := tk }) :
    wpAny (model prog w) A (call (.ref a) [.ref l]) Q E s := by
  obtain ⟨of, pm, cd, dc, fn⟩ := fn_of W (i := 27) (by decide) ha
  obtain ⟨a25, o25, pm25, cd25, dc25, e25, f25⟩ := W.fn 25 (by decide)
  obtain ⟨a26, o26, pm26, cd26, dc26, e26, f26⟩ := W.fn 26 (by decide)
  obtain ⟨gT, hgT, hT⟩ := W.tabs
  obtain ⟨vM, eM, DM⟩ := hT _ tab_modes
  dsimp only at eM DM
  refine enterX (i := 27) (n := 6) (hb := s.heap) (u := []) (g := gT) (binds := [("script", .ref l)]) hA fn W.nolimit (Ext.refl _) (Nat.le_refl _)
    (fun _ h => nomatch h) hgT (fun _ _ _ h => nomatch h) (by simp) rfl ?_
  intro L h₁ tk hL hx₁ S hA'
  have hlv := ints_len hI
  conv in (fdAt 27).body => whnf
  have isl : ∀ {h : Heap} {m : Str → Option Value} {u g : Lg}, St s.heap L gT m u g h → h.IsList l vs.toArray := fun S => let ⟨o, ho, r⟩ := hl; ⟨o, S.fr.keep _ _ ho, r⟩
  refine wpAny_execs_cons (wpAny_If (wpAny_isTrue_Compare1 (callB "len" (nmB S W (W.free _ (by decide)) rfl ⟨rfl, wpAny_items_cons (nmL S rfl (wpAny_items_nil (call_len_list (isl S) (by rw [List.size_toArray]; omega) (wpAny_Constant_int (PyProof.Rows.lt_int (wpAny_truthy_bool ?_))))))⟩))))
  rw [List.size_toArray, hlv]
  by_cases h18 : (ns.length : Int) < 18
  · rw [decide_eq_true h18]
    exact wpAny_execs_cons (wpAny_Return_some (wpAny_Constant_bool (hk _ _ S.fr.keep)))
  rw [decide_eq_false h18]
  have h18' : 18 ≤ ns.length := by omega
  refine wpAny_execs_nil ?_
  dsimp only
  have hm4 : fm (ns.getD 0 0) 4 < 4 := by
    have q5 := Int.fmod_lt_of_pos (ns.getD 0 0) (b := 4) (by omega)
    unfold fm; omega
  have hm5 : fm (ns.getD 1 0) 5 < 5 := by
    have q5 := Int.fmod_lt_of_pos (ns.getD 1 0) (b := 5) (by omega)
    unfold fm; omega
  obtain ⟨mo, hmo⟩ : ∃ mo, modesT[fm (ns.getD 0 0) 4]? = some mo := ⟨_, List.getElem?_eq_getElem (show _ < 4 from hm4)⟩
  obtain ⟨w0, w1, w2⟩ := mo
  obtain ⟨z0, z1, z2⟩ := modes_ok _ (List.mem_of_getElem? hmo)
  dsimp only at z0 z1 z2
  refine wpAny_execs_cons (wpAny_Assign_Name (Subscript_ (nmG S W eM (wpAny_BinOp (scI (i := 0) S hl hI rfl (by omega) hz fun t2 tk2 => wpAny_Constant_int (modN (n := fm (ns.getD 0 0) 4) (by decide) (fm_eq (by decide)) (sbT (i := fm (ns.getD 0 0) 4) (d := modeD (w0, w1, w2)) S DM (by rw [List.getElem?_map, hmo]; rfl) (by decide) fun wv DW => stL S fun h₂ S₂ => ?_))))))) 
  dsimp only
  have DW' : DL gT wv (.tuple [.int w0, .int w1, .int w2]) := DW
  refine wpAny_execs_cons (wpAny_Assign_Name (wpAny_BinOp (scI (i := 1) S₂ hl hI rfl (by omega) hz fun t3 tk3 => wpAny_Constant_int (modN (n := fm (ns.getD 1 0) 5) (by decide) (fm_eq (by decide)) (stL S₂ fun h₃ S₃ => ?_)))))
  dsimp only
  refine wpAny_execs_cons (wpAny_Assign_Name (List_ (wpAny_items_nil (mkLstU S₃ (by simp) fun h₄ rl S₄ => stL S₄ fun h₅ S₅ => ?_))))
  dsimp only
  refine wpAny_execs_cons (wpAny_For (Tuple_ (wpAny_items_cons (rowE (i := 2) S₅ hl hI rfl (by omega) hz fun hc1 b1 ob1 tk1 Sc1 Dc1 => ?_))))
  dsimp only
  refine wpAny_items_cons (rowE (i := 6) Sc1 hl hI rfl (by omega) hz fun hc2 b2 ob2 tk2 Sc2 Dc2 => ?_)
  dsimp only
  refine wpAny_items_cons (rowE (i := 10) Sc2 hl hI rfl (by omega) hz fun hc3 b3 ob3 tk3 Sc3 Dc3 => ?_)
  dsimp only
  refine wpAny_items_cons (rowE (i := 14) Sc3 hl hI rfl (by omega) hz fun hc4 b4 ob4 tk4 Sc4 Dc4 => ?_)
  dsimp only
  refine wpAny_items_nil (mkTup Sc4 (by simp) fun h₆ tt S₆ => ?_)
  obtain ⟨all, hall⟩ : ∃ all : List Row, all = [rowAt ns 2, rowAt ns 6, rowAt ns 10, rowAt ns 14] := ⟨_, rfl⟩
  have hal : all.length = 4 := by rw [hall]; rfl
  obtain ⟨G6, hG6⟩ : ∃ G6 : Lg, (tt, tupO [.ref b1, .ref b2, .ref b3, .ref b4] 0) :: (b4, ob4) :: (b3, ob3) :: (b2, ob2) :: (b1, ob1) :: gT = G6 := ⟨_, rfl⟩
  have D₆ : DL G6 (.ref tt) (.tuple (all.map rowQ)) := by
    rw [← hG6, hall]
    exact .tuple (.head _) rfl rfl (.cons (Dc1.mono fun p hp => .tail _ (.tail _ (.tail _ (.tail _ hp)))) (.cons (Dc2.mono fun p hp => .tail _ (.tail _ (.tail _ hp))) (.cons (Dc3.mono fun p hp => .tail _ (.tail _ hp)) (.cons (Dc4.mono fun p hp => .tail _ hp) .nil))))
  have hsubT : ∀ p ∈ gT, p ∈ G6 := fun p hp => by rw [← hG6]; exact .tail _ (.tail _ (.tail _ (.tail _ (.tail _ hp))))
  rw [hG6] at S₆
  clear hG6 Dc1 Dc2 Dc3 Dc4 Sc1 Sc2 Sc3 Sc4
  generalize hsz : fm (ns.getD 1 0) 5 = sz at *
  refine forT (fun i m u g' => ∃ vs n, u = [(rl, lstO vs n)] ∧ m "rows" = some (.ref rl) ∧ (∃ t, m "size" = some (.int sz t)) ∧ m "wild" = some wv ∧ DLs g' vs ((all.take (min i sz)).map rowQ))
    hA'.hd S₆ D₆ ⟨[], 0, rfl, rfl, ⟨_, rfl⟩, rfl, by simp; exact .nil⟩ ?_ ?_
  · rintro i d v m u g' h tk₁ I io hd hv hsub ⟨rs, n, rfl, m1, ⟨ts, m2⟩, m3, Dr⟩ S₇
    have hi : i < all.length := by have := (List.getElem?_eq_some_iff.mp hd).1; simpa using this
    obtain ⟨r, hr'⟩ : ∃ r, all[i]? = some r := ⟨_, List.getElem?_eq_getElem hi⟩
    have hop : d = rowQ r := by rw [List.getElem?_map, hr'] at hd; exact (Option.some.inj hd).symm
    subst hop
    have hrl : rs.length = min i sz := by rw [Dr.length, List.length_map, List.length_take]; omega
    refine wpAny_assign_Name (stL S₇ fun h₈ S₈ => ?_)
    dsimp only
    refine wpAny_execs_cons (wpAny_If (wpAny_isTrue_Compare1 (callB "len" (nmB S₈ W (W.free _ (by decide)) rfl ⟨rfl, wpAny_items_cons (nmL S₈ (upd_ne (by decide) m1) (wpAny_items_nil (lLenU S₈ (.tail _ (.head _)) (by omega) (nmL S₈ (upd_ne (by decide) m2) (PyProof.Rows.lt_int (wpAny_truthy_bool ?_))))))⟩))))
    rw [hrl]
    by_cases hlt : i < sz
    · rw [decide_eq_true (by omega : ((min i sz : Nat) : Int) < (sz : Int))]
      refine wpAny_execs_cons (wpAny_Expr (callM "list" "list.append" PySem.F.plainAttrs_list PySem.F.slot_list_append PySem.F.type_list_append (nmL S₈ (upd_ne (by decide) m1) ⟨⟨_, (S₈.un _ (.tail _ (.head _))).1, rfl⟩, fun b e => by cases e; exact ⟨_, (S₈.un _ (.tail _ (.head _))).1, rfl⟩,
        wpAny_items_cons (nmL S₈ upd_eq (wpAny_items_nil (lApp (U := fun n' => [(I, io), (rl, lstO (rs ++ [v]) n')]) S₈ (fun n' => .tail .head) (by omega) fun h₉ n₉ S₉ => ?_)))⟩)))
      dsimp only
      refine wpAny_execs_nil (wpAny_execs_nil ?_)
      refine TurnEnd.next ⟨hsub, rs ++ [v], n₉, rfl, upd_ne (by decide) m1, ⟨ts, upd_ne (by decide) m2⟩, upd_ne (by decide) m3, ?_⟩ S₉
      have e1 : min (i + 1) sz = i + 1 := by omega
      have e2 : min i sz = i := by omega
      rw [e1, List.take_add_one, hr', List.map_append]
      rw [e2] at Dr
      exact Dr.append (.cons (hv.mono hsub) .nil)
    · rw [decide_eq_false (by omega : ¬ ((min i sz : Nat) : Int) < (sz : Int))]
      refine wpAny_execs_nil (wpAny_execs_nil ?_)
      refine TurnEnd.next ⟨hsub, rs, n, rfl, upd_ne (by decide) m1, ⟨ts, upd_ne (by decide) m2⟩, upd_ne (by decide) m3, ?_⟩ S₈
      have e1 : min (i + 1) sz = min i sz := by omega
      rw [e1]; exact Dr
  · rintro m u g' h tk₁ hsub ⟨rs, n, rfl, m1, ⟨ts, m2⟩, m3, Dr⟩ S₇
    rw [List.length_map, hal] at Dr
    have hrows : (all.take (min 4 sz)).length ≤ 4 := by rw [List.length_take]; omega
    generalize all.take (min 4 sz) = rows at *
    have S₈ := S₇.freeze
    have hT' : ∀ p ∈ tabL, ∃ v, mg p.1 = some v ∧ DL ((rl, lstO rs n) :: g') v p.2 := fun p hp => let ⟨v, q1, q2⟩ := hT p hp; ⟨v, q1, q2.mono fun x hx => .tail _ (hsub _ (hsubT x hx))⟩
    have DR : DL ((rl, lstO rs n) :: g') (.ref rl) (.list (rows.map rowQ)) := .list (.head _) (Dr.mono fun p hp => .tail _ hp)
    have DW₂ : DL ((rl, lstO rs n) :: g') wv (.tuple [.int w0, .int w1, .int w2]) := DW'.mono fun x hx => .tail _ (hsub _ (hsubT x hx))
    have X : Hx A [] s mg mb := ⟨⟨hfr, ⟨s.heap, trivial⟩⟩, W⟩
    have hgo : ∀ {h : Heap} {m : Str → Option Value}, St s.heap L gT m [] ((rl, lstO rs n) :: g') h → ∀ p ∈ (rl, lstO rs n) :: g', p.1 ∉ frs [eX (fdAt 27).name (fdAt 27).scope L a cd []] := fun S' p hp hm => by
      have : p.1 = L := by simpa [frs] using hm
      exact (S'.led p hp).2 this
    refine wpAny_execs_cons (wpAny_If (wpAny_isTrue_Compare1 (callU (o := o25) (fd := docF 25 pm25 cd25 dc25) (nmG S₈ W e25 ⟨rfl, wpAny_items_cons (nmL S₈ m1 (wpAny_items_cons (nmL S₈ m3 (wpAny_items_nil ⟨⟨S₈.fr.keep _ _ f25.at_, f25.d⟩, ?_⟩))))⟩))))
    dsimp only
    refine law_trace_spec (s := { s with heap := h, toks := _ }) hA' (X.call hL S₈) (W.keeps S₈.fr.keep) e25 S₈.at (hgo S₈) hT' DR DW₂ hrows z0 z1 z2 (fun nf sz e8 q1 q2 q3 => num_ok q1 q2 q3) (line_all z0 z1 z2) fun h₉ tk₉ af => ?_
    have S₉ := S₈.after rfl af
    dsimp only
    refine wpAny_Constant_bool (wpAny_isNot_self rfl (wpAny_truthy_bool ?_))
    refine wpAny_execs_nil ?_
    refine wpAny_execs_cons (wpAny_If (wpAny_isTrue_Compare1 (callU (o := o26) (fd := docF 26 pm26 cd26 dc26) (nmG S₉ W e26 ⟨rfl, wpAny_items_cons (nmL S₉ m1 (wpAny_items_cons (nmL S₉ m3 (wpAny_items_nil ⟨⟨S₉.fr.keep _ _ f26.at_, f26.d⟩, ?_⟩))))⟩))))
    try dsimp only
    refine law_stock_spec (s := { s with heap := h₉, toks := _ }) (hA'.less (by omega)) (X.call hL S₉) (W.keeps S₉.fr.keep) e26 S₉.at (hgo S₉) hT' DR DW₂ hrows z1 z2 fun h₁₀ tk₁₀ af => ?_
    have S₁₀ := S₉.after rfl af
    dsimp only
    refine wpAny_Constant_bool (wpAny_isNot_self rfl (wpAny_truthy_bool ?_))
    refine wpAny_execs_nil ?_
    exact wpAny_execs_cons (wpAny_Return_some (wpAny_Constant_bool (hk _ _ S₁₀.fr.keep)))
end
end Mine
end
section
open PySem PySem.W PyProof.Rows
set_option maxRecDepth 100000
set_option maxHeartbeats 8000000
mutual
def Mine.litPlain : WData → Bool
  | .none => true
  | .bool _ => true
  | .int _ => true
  | .str _ => true
  | .float _ => true
  | .tuple xs => Mine.litPlains xs
  | _ => false
def Mine.litPlains : List WData → Bool
  | [] => true
  | x :: r => Mine.litPlain x && Mine.litPlains r
end
mutual
theorem Mine.dl_of {h : Heap} : ∀ (d : WData) {v : Value} {as : List Addr}, Mine.litPlain d = true → ReadsLit h v d as → ∃ g : Mine.Lg, (∀ p ∈ g, h.get? p.1 = some p.2) ∧ Mine.DL g v (Mine.ofW d)
  | .none, _, _, _, r => by cases r; exact ⟨[], (fun _ h => nomatch h), by simp only [Mine.ofW]; exact .none⟩
  | .bool _, _, _, _, r => by cases r; exact ⟨[], (fun _ h => nomatch h), by simp only [Mine.ofW]; exact .bool _⟩
  | .int _, _, _, _, r => by cases r; exact ⟨[], (fun _ h => nomatch h), by simp only [Mine.ofW]; exact .int _ _⟩
  | .str _, _, _, _, r => by cases r; exact ⟨[], (fun _ h => nomatch h), by simp only [Mine.ofW]; exact .str _ _⟩
  | .float _, _, _, _, r => by cases r; exact ⟨[], (fun _ h => nomatch h), by simp only [Mine.ofW]; exact .flt _ _⟩
  | .tuple xs, _, _, hp, r => by
    cases r with
    | @tuple a o vs n _ as h1 h2 h3 h4 =>
      obtain ⟨g, k1, k2⟩ := Mine.dls_of xs (by simpa [Mine.litPlain] using hp) h4
      refine ⟨(a, o) :: g, fun p hp => ?_, ?_⟩
      · rcases List.mem_cons.mp hp with rfl | hp
        · exact h1
        · exact k1 p hp
      · simp only [Mine.ofW]
        exact .tuple (.head _) h2 (by simpa using h3) (k2.mono fun p hp => .tail _ hp)
  | .list _, _, _, hp, _ => by simp [Mine.litPlain] at hp
  | .dict _, _, _, hp, _ => by simp [Mine.litPlain] at hp
  | .bytes _, _, _, hp, _ => by simp [Mine.litPlain] at hp
  | .bytearray _, _, _, hp, _ => by simp [Mine.litPlain] at hp
  | .set _, _, _, hp, _ => by simp [Mine.litPlain] at hp
  | .frozenset _, _, _, hp, _ => by simp [Mine.litPlain] at hp
  | .obj _ _, _, _, hp, _ => by simp [Mine.litPlain] at hp
theorem Mine.dls_of {h : Heap} : ∀ (ds : List WData) {vs : List Value} {as : List Addr}, Mine.litPlains ds = true → ReadsAllW [] (fun _ => none) h vs ds as → ∃ g : Mine.Lg, (∀ p ∈ g, h.get? p.1 = some p.2) ∧ Mine.DLs g vs (Mine.ofWs ds)
  | [], _, _, _, r => by cases r; exact ⟨[], (fun _ h => nomatch h), by simp only [Mine.ofWs]; exact .nil⟩
  | d :: ds, _, _, hp, r => by
    cases r with
    | cons r1 r2 =>
      simp only [Mine.litPlains, Bool.and_eq_true] at hp
      obtain ⟨g1, k1, q1⟩ := Mine.dl_of d hp.1 r1
      obtain ⟨g2, k2, q2⟩ := Mine.dls_of ds hp.2 r2
      refine ⟨g1 ++ g2, fun p hp => (List.mem_append.mp hp).elim (k1 p) (k2 p), ?_⟩
      simp only [Mine.ofWs]
      exact .cons (q1.mono fun p hp => List.mem_append.mpr (.inl hp)) (q2.mono fun p hp => List.mem_append.mpr (.inr hp))
end
theorem Mine.tabs_all {mg : Str → Option Value} {h : Heap} : ∀ (cs : List (Str × WData)), (∀ c ∈ cs, ∃ v, mg c.1 = some v ∧ ReadsLit h v c.2 []) → (cs.all fun c => Mine.litPlain c.2) = true → ∃ gT : Mine.Lg, (∀ p ∈ gT, h.get? p.1 = some p.2) ∧ ∀ c ∈ cs, ∃ v, mg c.1 = some v ∧ Mine.DL gT v (Mine.ofW c.2)
  | [], _, _ => ⟨[], (fun _ h => nomatch h), (fun _ h => nomatch h)⟩
  | c :: r, hc, hp => by
    simp only [List.all_cons, Bool.and_eq_true] at hp
    obtain ⟨g2, k2, q2⟩ := Mine.tabs_all r (fun x hx => hc x (.tail _ hx)) hp.2
    obtain ⟨v, hv, rd⟩ := hc c (.head _)
    obtain ⟨g1, k1, q1⟩ := Mine.dl_of c.2 hp.1 rd
    refine ⟨g1 ++ g2, fun p hp => (List.mem_append.mp hp).elim (k1 p) (k2 p), fun x hx => ?_⟩
    rcases List.mem_cons.mp hx with rfl | hx
    · exact ⟨v, hv, q1.mono fun p hp => List.mem_append.mpr (.inl hp)⟩
    · obtain ⟨v', hv', q'⟩ := q2 x hx
      exact ⟨v', hv', q'.mono fun p hp => List.mem_append.mpr (.inr hp)⟩
def Mine.freeOk (p : Program) (loose : List Str) : Bool := Mine.freeL.all fun x => !startupNames.contains x && !loose.contains x && !((recsOf p).map (·.name)).contains x && !((litsOf p).map (·.1)).contains x && !((clssOf p loose).map (·.name)).contains x
theorem Mine.wd_of {p : Program} {loose : List Str} {mean : ExcName → Option Value} {mg mb : Str → Option Value} {h : Heap} (T : Top p loose mean mg mb h) (TW : TopW p mg h) (V : LooseAre [(Str.ofString "MAX_NUMBER", WData.int 1000000000000000000)] mg h) (e : recsOf p = Mine.defIdx.map Mine.fdAt)
    (e2 : wlitsOf p = wlitsOf Mine.PP) (e4 : ((wlitsOf Mine.PP).all fun c => Mine.litPlain c.2) = true) (e3 : Mine.freeOk p loose = true) (e5 : valOf p "MAX_NAME" = some (.int 200)) (e6 : valOf p "_law_top" = some (.int 1000000000000000000)) : Mine.Wd mg mb h where
  g := T.g
  b := T.b
  nolimit := T.nolimit
  builtins := T.builtins
  fn := fun i hi => by
    obtain ⟨a, o, pm, cd, dc, h1, h2, h3, h4⟩ := T.fn (Mine.fdAt i) (by rw [e]; exact List.mem_map.mpr ⟨i, hi, rfl⟩)
    exact ⟨a, o, pm, cd, dc, h1, h2, h3, h4⟩
  free := fun x hx => by
    have := List.all_eq_true.mp e3 x hx
    simp only [Bool.and_eq_true, Bool.not_eq_eq_eq_not, Bool.not_true, List.contains_eq_mem, decide_eq_false_iff_not] at this
    obtain ⟨⟨⟨⟨h1, h2⟩, h3⟩, h4⟩, h5⟩ := this
    exact T.free x h1 h2 h3 h4 h5
  const := fun q hq => by
    simp only [Mine.constL, List.mem_cons, List.not_mem_nil, or_false] at hq
    rcases hq with rfl | rfl | rfl
    · obtain ⟨v, h1, h2⟩ := T.const _ _ e5
      have r := h2 h
      cases r
      exact ⟨_, h1⟩
    · obtain ⟨v, h1, h2⟩ := V.val _ (.head _)
      cases h2
      exact ⟨_, h1⟩
    · obtain ⟨v, h1, h2⟩ := T.const _ _ e6
      have r := h2 h
      cases r
      exact ⟨_, h1⟩
  tabs := by
    obtain ⟨gT, k1, k2⟩ := Mine.tabs_all (mg := mg) (h := h) (wlitsOf Mine.PP) (by rw [← e2]; exact TW.lits) e4
    refine ⟨gT, k1, fun q hq => ?_⟩
    obtain ⟨c, hc, rfl⟩ := List.mem_map.mp hq
    exact k2 c hc
/-- the text without its two rows that set __name__ -/
def Mine.view : Program := { Mine.PP with main := { Mine.PP.main with body := (Mine.PP.main.body.eraseIdx 10).eraseIdx 0 } }
abbrev Mine.seenV : List (Str × WData) := [(Str.ofString "MAX_NUMBER", WData.int 1000000000000000000)]
abbrev Mine.xt (s : Shared) : Bool := xlAt Mine.view Mine.seenV s && recOk (RowW.records PySem.Challenge.rw_wm_yst127_2.row.toRowW) s
theorem Mine.left : LeftO PySem.Challenge.rw_wm_yst127_2.row.toRowW.prog Mine.view [Str.ofString "MAX_NUMBER"] Mine.xt (Hook.obs Hook.none) (Hook.val Hook.none) 1808 := fun w => by kernel_rfl
theorem PySem.Challenge.cw_wm_yst127_2_holds : PySem.Challenge.rw_wm_yst127_2.Holds := by
  w_on; o_law
  refine holds_open (q := Mine.view) (loose := [Str.ofString "MAX_NUMBER"]) (Xt := Mine.xt) (XP := XL Mine.view Mine.seenV) (Yf := Hook.obs Hook.none) (Ya := Hook.val Hook.none) (YP := Hook.says Hook.none) (N := 1808) Mine.left (Hook.of Hook.none) (Hook.keeps Hook.none) (fun s e => xl_of s (Bool.and_eq_true_iff.mp e).1) XL.keeps (by rfl) (by rfl) (by rfl) (fun s e => recFacts_of (Bool.and_eq_true_iff.mp e).2) (by rfl) (by first | assumption | decide +kernel) (by decide +kernel) ⟨rfl, rfl, rfl, rfl, rfl, by decide +kernel⟩ ?hw ?hc
  case hw => w_witness2
  intro w s₀ s₁ mg mb G Y fa o pm cd doc dV kV ho hd hcd hD hmg hg args vals as hpre hlay hrd hwl hlo
  have V := (Ground.X G).2
  refine Ground.open G ?_
  intro T B D TE TW
  wrow_args hpre hlay hrd hwl hlo
  rename_i hL ra w1 r0 hI hr hc1 hc2
  have W := Mine.wd_of T TW V (by kernel_rfl) (by kernel_rfl) (by kernel_rfl) (by kernel_rfl) (by kernel_rfl) (by kernel_rfl)
  refine Mine.law_spec (A := callerA) ⟨rfl, by decide, by decide⟩ rfl W hmg hL hI (by omega) fun h' tk hx => GoodW.toG ⟨.inl ⟨_, .bool true, [], rfl, fun cls => ?_, ReadsW.bool true, ?_, fun h => ?_⟩, hx, rfl, hg⟩
  · rfl
  · first | with_unfolding_all rfl | kernel_rfl | (simp [OpenLaw.row, RowW.claim, WTm.eval]; done) | trace_state
  · exact ⟨.nil, fun _ h => nomatch h⟩
end
