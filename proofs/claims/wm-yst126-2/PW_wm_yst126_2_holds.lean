import PyProof.Rows.All
import Wide.All
import OpenK.AllK
import Wide.FinOn
import PyProof.DictStraight
import PyProof.DictItemsLoops
import PyProof.Rows.Many
import PyProof.Rows.Top
import PyProof.Rows.RowHeap
import PyProof.Rows.Tup
import PyProof.Rows.CellsNews
import PyProof.SliceList
import PyProof.Rows.Exc
import PyProof.Rows.TupSub
import PyProof.Rows.StrTemp
import PyProof.Rows.IntRules
import PyProof.Rows.RuleB_mod
import PyProof.Rows.DictMade
import PyProof.Rows.PlainStore
import PyProof.DictTruth
import PyProof.DelItemList
import PyProof.RulesDelMore
import PyProof.RulesDel
import PyProof.Rows.RuleC_int
import PyProof.ForAny
import PyProof.WalksPairs
import PyProof.Rows.TupAssign
import PyProof.Rows.SeqMore
import PyProof.Rows.SeqSlice
import PyProof.MakeMany
import PyProof.StrOps
import PyProof.CompFree
import PyProof.Rows.CellsFrame
import PyProof.EqLayable
import KE.KItemsList
import KE.KDictList
import PyProof.SeqI
import KE.KRevIter
import PyProof.P3In
import PyProof.IsRules
import PyProof.TypeOfCall
import KE.KDictOf
import PyProof.AttrMissHeap
import PySem.Challenge.RW_wm_yst126_2
set_option Elab.async false
section
open PySem PyProof.Rows PySem.Calls
namespace Mine

abbrev Lg := List (Addr × Obj)
abbrev tupO (vs : List Value) (n : Nat) : Obj := { cls := .type "tuple", data := .seq vs.toArray n }
abbrev lstO (vs : List Value) (n : Nat) : Obj := { cls := .type "list", data := .seq vs.toArray n }
abbrev celO (v : Option Value) : Obj := { cls := .type "cell", data := .cell v }

/-! data over a ledger of standing objects -/
mutual
inductive DL (g : Lg) : Value → PyData → Prop
  | none : DL g .none .none
  | bool (b : Bool) : DL g (.bool b) (.bool b)
  | int (i : Int) (t : Tok) : DL g (.int i t) (.int i)
  | str (x : Str) (t : Tok) : DL g (.str x t) (.str x)
  | list {a : Addr} {n : Nat} {vs : List Value} {ds : List PyData} : (a, lstO vs n) ∈ g → DLs g vs ds → DL g (.ref a) (.list ds)
  | tuple {a : Addr} {n : Nat} {vs : List Value} {ds : List PyData} : (a, tupO vs n) ∈ g → DLs g vs ds → DL g (.ref a) (.tuple ds)
inductive DLs (g : Lg) : List Value → List PyData → Prop
  | nil : DLs g [] []
  | cons {v : Value} {vs : List Value} {d : PyData} {ds : List PyData} : DL g v d → DLs g vs ds → DLs g (v :: vs) (d :: ds)
end
mutual
theorem DL.mono {g g' : Lg} (hs : ∀ p ∈ g, p ∈ g') : ∀ {v : Value} {d : PyData}, DL g v d → DL g' v d
  | _, _, .none => .none
  | _, _, .bool b => .bool b
  | _, _, .int i t => .int i t
  | _, _, .str x t => .str x t
  | _, _, .list h r => .list (hs _ h) (DLs.mono hs r)
  | _, _, .tuple h r => .tuple (hs _ h) (DLs.mono hs r)
theorem DLs.mono {g g' : Lg} (hs : ∀ p ∈ g, p ∈ g') : ∀ {vs : List Value} {ds : List PyData}, DLs g vs ds → DLs g' vs ds
  | _, _, .nil => .nil
  | _, _, .cons h r => .cons (DL.mono hs h) (DLs.mono hs r)
end
mutual
theorem DL.reads {g : Lg} {h : Heap} (hl : ∀ p ∈ g, h.get? p.1 = some p.2) : ∀ {v : Value} {d : PyData}, DL g v d → ∃ as, Reads h v d as
  | _, _, .none => ⟨_, .none⟩
  | _, _, .bool b => ⟨_, .bool b⟩
  | _, _, .int i t => ⟨_, .int i t⟩
  | _, _, .str x t => ⟨_, .str x t⟩
  | _, _, .list m r => let ⟨as, q⟩ := DLs.reads hl r; ⟨_, reads_list_at (hl _ m) rfl rfl (by simpa using q)⟩
  | _, _, .tuple m r => let ⟨as, q⟩ := DLs.reads hl r; ⟨_, reads_tuple_at (hl _ m) rfl rfl (by simpa using q)⟩
theorem DLs.reads {g : Lg} {h : Heap} (hl : ∀ p ∈ g, h.get? p.1 = some p.2) : ∀ {vs : List Value} {ds : List PyData}, DLs g vs ds → ∃ as, ReadsAll h vs ds as
  | _, _, .nil => ⟨_, .nil⟩
  | _, _, .cons a r => let ⟨as, q⟩ := DL.reads hl a; let ⟨bs, q'⟩ := DLs.reads hl r; ⟨as ++ bs, .cons q q'⟩
end
theorem DLs.length {g : Lg} : ∀ {vs : List Value} {ds : List PyData}, DLs g vs ds → vs.length = ds.length
  | _, _, .nil => rfl
  | _, _, .cons _ r => by simp [r.length]
theorem DLs.append {g : Lg} : ∀ {vs : List Value} {ds : List PyData}, DLs g vs ds → ∀ {ws : List Value} {es : List PyData}, DLs g ws es → DLs g (vs ++ ws) (ds ++ es)
  | _, _, .nil, _, _, k => k
  | _, _, .cons a r, _, _, k => .cons a (r.append k)
theorem DLs.get {g : Lg} : ∀ {vs : List Value} {ds : List PyData}, DLs g vs ds → ∀ {i : Nat} {d : PyData}, ds[i]? = some d → ∃ v, vs[i]? = some v ∧ DL g v d
  | _, _, .nil, i, d, h => by simp at h
  | _, _, .cons a r, 0, d, h => by simp at h; subst h; exact ⟨_, rfl, a⟩
  | _, _, .cons a r, i + 1, d, h => by simpa using r.get (by simpa using h)
theorem DLs.getV {g : Lg} : ∀ {vs : List Value} {ds : List PyData}, DLs g vs ds → ∀ {i : Nat} {v : Value}, vs[i]? = some v → ∃ d, ds[i]? = some d ∧ DL g v d
  | _, _, .nil, i, d, h => by simp at h
  | _, _, .cons a r, 0, d, h => by simp at h; subst h; exact ⟨_, rfl, a⟩
  | _, _, .cons a r, i + 1, d, h => by simpa using r.getV (by simpa using h)

/-! the state inside a def's body: the frame, what the call may still turn (u), what stands (g) -/
structure St (h₀ : Heap) (L : Addr) (gi : Lg) (m : Str → Option Value) (u g : Lg) (h : Heap) : Prop where
  fr : Fr h₀ L h m
  un : ∀ p ∈ u, h.get? p.1 = some p.2 ∧ p.1 ≠ L ∧ h₀.get? p.1 = none
  led : ∀ p ∈ g, h.get? p.1 = some p.2 ∧ p.1 ≠ L
  sep : ∀ p ∈ g, ∀ q ∈ u, p.1 ≠ q.1
  nd : (u.map (·.1)).Nodup
  prov : ∀ p ∈ g, p ∈ gi ∨ h₀.get? p.1 = none

def Ext (h h' : Heap) : Prop := ∀ b o, h.get? b = some o → h'.get? b = some o
theorem Ext.refl (h : Heap) : Ext h h := fun _ _ e => e
theorem Ext.trans {h h' h'' : Heap} (x : Ext h h') (y : Ext h' h'') : Ext h h'' := fun b o e => y b o (x b o e)

section
variable {h₀ h h' : Heap} {L : Addr} {gi : Lg} {m m' : Str → Option Value} {u g : Lg} {o : Obj} {a : Addr}
theorem St.at (S : St h₀ L gi m u g h) : ∀ p ∈ g, h.get? p.1 = some p.2 := fun p hp => (S.led p hp).1
theorem St.ext (S : St h₀ L gi m u g h) (hk : Ext h h') : St h₀ L gi m u g h' :=
  ⟨S.fr.after hk, fun p hp => ⟨hk _ _ (S.un p hp).1, (S.un p hp).2⟩, fun p hp => ⟨hk _ _ (S.led p hp).1, (S.led p hp).2⟩, S.sep, S.nd, S.prov⟩
theorem St.store (S : St h₀ L gi m u g h) (hn : h'.Ns L m') (hs : Heap.SameBut L h h') : St h₀ L gi m' u g h' :=
  ⟨S.fr.set hn hs, fun p hp => ⟨(hs.2 _ (S.un p hp).2.1).trans (S.un p hp).1, (S.un p hp).2⟩, fun p hp => ⟨(hs.2 _ (S.led p hp).2).trans (S.led p hp).1, (S.led p hp).2⟩, S.sep, S.nd, S.prov⟩
theorem St.fresh (S : St h₀ L gi m u g h) (ha : h.get? a = none) : h₀.get? a = none := by
  cases q : h₀.get? a with
  | none => rfl
  | some o => rw [S.fr.keep _ _ q] at ha; cases ha
theorem St.neL (S : St h₀ L gi m u g h) (ha : h.get? a = none) : a ≠ L := by
  rintro rfl
  obtain ⟨o, _, _, ho, _⟩ := S.fr.ns
  rw [ho] at ha; cases ha
theorem size_none (h : Heap) : h.get? h.objs.size = none := Heap.get?_none_of_le (Nat.le_refl _)
theorem St.pushG (S : St h₀ L gi m u g h) (o : Obj) (hf : o.isFreed = false := by rfl) : St h₀ L gi m u ((h.objs.size, o) :: g) (h.push o) := by
  have S' := S.ext (h' := h.push o) fun b o' e => Heap.get?_push_of_some _ e
  refine ⟨S'.fr, S'.un, fun p hp => ?_, fun p hp q hq => ?_, S.nd, fun p hp => ?_⟩
  · rcases List.mem_cons.mp hp with rfl | hp
    · exact ⟨Heap.get?_push_size _ hf, S.neL (size_none h)⟩
    · exact S'.led p hp
  · rcases List.mem_cons.mp hp with rfl | hp
    · exact Nat.ne_of_gt (Heap.lt_size (S.un q hq).1)
    · exact S.sep p hp q hq
  · rcases List.mem_cons.mp hp with rfl | hp
    · exact .inr (S.fresh (size_none h))
    · exact S.prov p hp
theorem St.pushU (S : St h₀ L gi m u g h) (o : Obj) (hf : o.isFreed = false := by rfl) : St h₀ L gi m ((h.objs.size, o) :: u) g (h.push o) := by
  have S' := S.ext (h' := h.push o) fun b o' e => Heap.get?_push_of_some _ e
  refine ⟨S'.fr, fun p hp => ?_, S'.led, fun p hp q hq => ?_, ?_, S.prov⟩
  · rcases List.mem_cons.mp hp with rfl | hp
    · exact ⟨Heap.get?_push_size _ hf, S.neL (size_none h), S.fresh (size_none h)⟩
    · exact S'.un p hp
  · rcases List.mem_cons.mp hq with rfl | hq
    · exact Nat.ne_of_lt (Heap.lt_size (S.led p hp).1)
    · exact S.sep p hp q hq
  · rw [List.map_cons, List.nodup_cons]
    refine ⟨fun hm => ?_, S.nd⟩
    obtain ⟨q, hq, e⟩ := List.mem_map.mp hm
    exact absurd (Heap.lt_size (S.un q hq).1) (e ▸ Nat.lt_irrefl _)
inductive Rep (a : Addr) (o o' : Obj) : Lg → Lg → Prop
  | head {r : Lg} : Rep a o o' ((a, o) :: r) ((a, o') :: r)
  | tail {p : Addr × Obj} {r r' : Lg} : Rep a o o' r r' → Rep a o o' (p :: r) (p :: r')
theorem Rep.mem {o' : Obj} {u u' : Lg} (R : Rep a o o' u u') : (a, o) ∈ u := by
  induction R with
  | head => exact .head _
  | tail _ ih => exact .tail _ ih
theorem Rep.keys {o' : Obj} {u u' : Lg} (R : Rep a o o' u u') : u'.map (·.1) = u.map (·.1) := by
  induction R with
  | head => rfl
  | tail _ ih => simp [ih]
theorem Rep.of {o' : Obj} {u u' : Lg} (R : Rep a o o' u u') : ∀ p ∈ u', p = (a, o') ∨ p ∈ u := by
  induction R with
  | head => intro p hp; rcases List.mem_cons.mp hp with h | h; exact .inl h; exact .inr (.tail _ h)
  | tail _ ih =>
    intro p hp
    rcases List.mem_cons.mp hp with h | h
    · exact .inr (h ▸ .head _)
    · exact (ih p h).imp id fun h => .tail _ h
theorem Rep.nodup {o' : Obj} {u u' : Lg} (R : Rep a o o' u u') (nd : (u.map (·.1)).Nodup) : ∀ p ∈ u', p = (a, o') ∨ (p ∈ u ∧ p.1 ≠ a) := by
  induction R with
  | head =>
    intro p hp
    rw [List.map_cons, List.nodup_cons] at nd
    rcases List.mem_cons.mp hp with h | h
    · exact .inl h
    · exact .inr ⟨.tail _ h, fun e => nd.1 (List.mem_map.mpr ⟨p, h, e⟩)⟩
  | @tail q r r' R ih =>
    intro p hp
    rw [List.map_cons, List.nodup_cons] at nd
    rcases List.mem_cons.mp hp with h | h
    · subst h
      exact .inr ⟨.head _, fun e => nd.1 (List.mem_map.mpr ⟨(a, o), R.mem, e.symm⟩)⟩
    · exact (ih nd.2 p h).imp id fun h => ⟨.tail _ h.1, h.2⟩
theorem St.set {o' : Obj} {u' : Lg} (S : St h₀ L gi m u g h) (R : Rep a o o' u u') (hs : Heap.SameBut a h h') (ho : h'.get? a = some o') : St h₀ L gi m u' g h' := by
  have ha := S.un _ R.mem
  have hL : L ≠ a := Ne.symm ha.2.1
  refine ⟨⟨S.fr.ns.sameBut hs hL, fun b x e => (hs.2 b fun q => ?_).trans (S.fr.keep b x e), S.fr.above⟩, fun p hp => ?_, fun p hp => ⟨(hs.2 _ (S.sep p hp _ R.mem)).trans (S.led p hp).1, (S.led p hp).2⟩, fun p hp q hq => ?_, R.keys ▸ S.nd, S.prov⟩
  · have := ha.2.2; rw [← q] at this; rw [this] at e; cases e
  · rcases R.nodup S.nd p hp with rfl | ⟨h1, h2⟩
    · exact ⟨ho, ha.2⟩
    · exact ⟨(hs.2 _ h2).trans (S.un p h1).1, (S.un p h1).2⟩
  · rcases R.of q hq with rfl | h1
    · exact S.sep p hp (a, o) R.mem
    · exact S.sep p hp q h1
theorem St.subG {g' : Lg} (S : St h₀ L gi m u g h) (hg : ∀ p ∈ g', p ∈ g) : St h₀ L gi m u g' h :=
  ⟨S.fr, S.un, fun p hp => S.led p (hg p hp), fun p hp => S.sep p (hg p hp), S.nd, fun p hp => S.prov p (hg p hp)⟩
theorem St.drop {p : Addr × Obj} (S : St h₀ L gi m (p :: u) g h) : St h₀ L gi m u g h :=
  ⟨S.fr, fun q hq => S.un q (.tail _ hq), S.led, fun q hq r hr => S.sep q hq r (.tail _ hr), (List.nodup_cons.mp S.nd).2, S.prov⟩
theorem St.swap {p q : Addr × Obj} (S : St h₀ L gi m (p :: q :: u) g h) : St h₀ L gi m (q :: p :: u) g h := by
  refine ⟨S.fr, fun r hr => S.un r ?_, S.led, fun r hr s hs => S.sep r hr s ?_, ?_, S.prov⟩
  · simp only [List.mem_cons] at hr ⊢; rcases hr with h | h | h <;> simp [h]
  · simp only [List.mem_cons] at hs ⊢; rcases hs with h | h | h <;> simp [h]
  · have := S.nd
    simp only [List.map_cons, List.nodup_cons, List.mem_cons, not_or] at this ⊢
    exact ⟨⟨Ne.symm this.1.1, this.2.1⟩, this.1.2, this.2.2⟩
theorem St.freeze {p : Addr × Obj} (S : St h₀ L gi m (p :: u) g h) : St h₀ L gi m u (p :: g) h := by
  have hp := S.un p (.head _)
  refine ⟨S.fr, S.drop.un, fun q hq => ?_, fun q hq r hr => ?_, S.drop.nd, fun q hq => ?_⟩
  · rcases List.mem_cons.mp hq with rfl | hq
    · exact ⟨hp.1, hp.2.1⟩
    · exact S.led q hq
  · rcases List.mem_cons.mp hq with rfl | hq
    · intro e
      exact (List.nodup_cons.mp S.nd).1 (List.mem_map.mpr ⟨r, hr, e.symm⟩)
    · exact S.sep q hq r (.tail _ hr)
  · rcases List.mem_cons.mp hq with rfl | hq
    · exact .inr hp.2.2
    · exact S.prov q hq
/-- behind a call that turned nothing: what it made, or was given, stands -/
theorem St.back {g' : Lg} (S : St h₀ L gi m u g h) (hk : Ext h h') (hg : ∀ p ∈ g', h'.get? p.1 = some p.2) (hn : ∀ p ∈ g', p ∈ g ∨ h.get? p.1 = none) : St h₀ L gi m u (g' ++ g) h' := by
  have S' := S.ext hk
  refine ⟨S'.fr, S'.un, fun p hp => ?_, fun p hp q hq => ?_, S.nd, fun p hp => ?_⟩
  · rcases List.mem_append.mp hp with hp | hp
    · rcases hn p hp with h1 | h1
      · exact S'.led p h1
      · exact ⟨hg p hp, S.neL h1⟩
    · exact S'.led p hp
  · rcases List.mem_append.mp hp with hp | hp
    · rcases hn p hp with h1 | h1
      · exact S.sep p h1 q hq
      · intro e; rw [e, (S.un q hq).1] at h1; cases h1
    · exact S.sep p hp q hq
  · rcases List.mem_append.mp hp with hp | hp
    · rcases hn p hp with h1 | h1
      · exact S.prov p h1
      · exact .inr (S.fresh h1)
    · exact S.prov p hp
end
end Mine
end
section
open PySem PyProof.Rows PySem.Calls
namespace Mine

abbrev eX (name : Str) (scope : Scope) (L a : Addr) (cd : Value) (cells : List (Str × Addr)) : Env :=
  { scope := scope, locals := L, globals := mainGlobals, cells := cells, qual := name ++ ".<locals>.", func := some a, code := cd, frame := some L, builtins := builtinsNs }

def upd (m : Str → Option Value) (x : Str) (v : Value) : Str → Option Value := fun y => if y = x then some v else m y
theorem upd_ne {m : Str → Option Value} {x y : Str} {v : Value} {r : Option Value} (h : y ≠ x) (hm : m y = r) : upd m x v y = r := by simp [upd, h, hm]
theorem upd_eq {m : Str → Option Value} {x : Str} {v : Value} : upd m x v x = some v := by simp [upd]

def fdAt (i : Nat) : DefRec := match Challenge.pw_wm_yst126_2.main.body[i]? with
  | some (.FunctionDef n a b _ _ _ sc _ _ pos) => ⟨n, a, b, sc, pos⟩
  | _ => ⟨Str.empty, default, [], default, default⟩
def defIdx : List Nat := [1, 2, 3, 4, 5, 6, 7, 8, 11, 12, 13, 14, 15, 16]
abbrev docF (i : Nat) (pm code doc : Value) : FuncData := docDef (fdAt i).name (fdAt i).params (fdAt i).body (fdAt i).scope pm code doc

structure FnAt (i : Nat) (h : Heap) (a : Addr) (o : Obj) (pm code doc : Value) : Prop where
  at_ : h.get? a = some o
  d : o.data = .func (docF i pm code doc)
  c : h.CodeRec code (fdAt i).name

structure Wd (mg mb : Str → Option Value) (h : Heap) : Prop where
  g : h.Ns mainGlobals mg
  b : h.Ns builtinsNs mb
  nolimit : h.NoLimit
  builtins : ∀ x : Str, x ≠ "__name__" → mb x = bootBuiltins x
  fn : ∀ i ∈ defIdx, ∃ a o pm code doc, mg (fdAt i).name = some (.ref a) ∧ FnAt i h a o pm code doc
  free : ∀ x ∈ (["len", "list", "dict", "reversed", "type", "int", "str"] : List Str), mg x = none
  keys : ∃ a o t1 t2 t3 t4 n, mg "_law_keys" = some (.ref a) ∧ h.get? a = some o ∧ o.cls = .type "tuple" ∧ o.data = .seq #[.str "a" t1, .str "b" t2, .str "c" t3, .str "d" t4] n

theorem Wd.keeps {mg mb : Str → Option Value} {h h' : Heap} (W : Wd mg mb h) (hk : Ext h h') : Wd mg mb h' where
  g := W.g.keeps hk
  b := W.b.keeps hk
  nolimit := W.nolimit.keeps hk
  builtins := W.builtins
  fn := fun i hi => let ⟨a, o, pm, cd, dc, h1, h2⟩ := W.fn i hi; ⟨a, o, pm, cd, dc, h1, hk _ _ h2.at_, h2.d, h2.c.keeps hk⟩
  free := W.free
  keys := let ⟨a, o, t1, t2, t3, t4, n, h1, h2, h3⟩ := W.keys; ⟨a, o, t1, t2, t3, t4, n, h1, hk _ _ h2, h3⟩

structure OkA (A : Around) (n : Nat) : Prop where
  hd : A.handled = none
  dp : A.depth + n < recursionLimit
  un : A.units + 4 * n + 80 < cLine
theorem OkA.deeper {A : Around} {n : Nat} {env : Env} (x : OkA A (n + 1)) : OkA (A.deeper env) n := by
  obtain ⟨h1, h2, h3⟩ := x
  refine ⟨h1, ?_, ?_⟩
  · show A.depth + 1 + n < _; omega
  · show A.units + 3 + 4 * n + 80 < _; omega
theorem OkA.less {A : Around} {n k : Nat} (x : OkA A n) (h : k ≤ n) : OkA A k := ⟨x.hd, by have := x.dp; omega, by have := x.un; omega⟩

section
variable {prog : Program} {w : World} {A : Around} {E : Value → Shared → Prop} {s : Shared} {h₀ : Heap} {L a : Addr} {gi : Lg} {m mg mb : Str → Option Value} {u g : Lg} {cn : Str} {cs : Scope} {cd : Value} {cl : List (Str × Addr)}
variable {x : Str} {pos : Pos} {v : Value}

theorem nmL {Q : Value → Shared → Prop} (S : St h₀ L gi m u g s.heap) (hv : m x = some v) (h : Q v s)
    (hk : cs.kind = .function := by rfl) (hx : (eX cn cs L a cd cl).kindOf x = some .local := by rfl) (hd : (x == ("__debug__" : Str)) = false := by decide) :
    wpAny (model prog w) A (eval (.Name x pos) (eX cn cs L a cd cl)) Q E s := wpAny_Name (wpAny_loadName_local hk hx S.fr.ns hv h) hd
theorem nmC {Q : Value → Shared → Prop} {c : Addr} (S : St h₀ L gi m u g s.heap) (hc : cl.lookup x = some c) (hm : (c, celO (some v)) ∈ u) (h : Q v s)
    (hk : cs.kind = .function := by rfl) (hx : (eX cn cs L a cd cl).kindOf x = some .cell := by rfl) (hd : (x == ("__debug__" : Str)) = false := by decide) :
    wpAny (model prog w) A (eval (.Name x pos) (eX cn cs L a cd cl)) Q E s := wpAny_Name (wpAny_loadName_cell hk hx hc ⟨_, (S.un _ hm).1, rfl⟩ h) hd
theorem nmG {Q : Value → Shared → Prop} (S : St h₀ L gi m u g s.heap) (W : Wd mg mb h₀) (hv : mg x = some v) (h : Q v s)
    (hk : cs.kind = .function := by rfl) (hx : (eX cn cs L a cd cl).kindOf x = some .globalImplicit := by rfl) (hd : (x == ("__debug__" : Str)) = false := by decide) :
    wpAny (model prog w) A (eval (.Name x pos) (eX cn cs L a cd cl)) Q E s :=
  Name_function_global hk hx (loadGlobal_global (env := eX cn cs L a cd cl) (W.g.keeps S.fr.keep) hv h) hd
theorem nmB {Q : Value → Shared → Prop} (S : St h₀ L gi m u g s.heap) (W : Wd mg mb h₀) (hf : mg x = none) (hv : bootBuiltins x = some v) (h : Q v s)
    (hn : x ≠ "__name__" := by decide) (hk : cs.kind = .function := by rfl) (hx : (eX cn cs L a cd cl).kindOf x = some .globalImplicit := by rfl) (hd : (x == ("__debug__" : Str)) = false := by decide) :
    wpAny (model prog w) A (eval (.Name x pos) (eX cn cs L a cd cl)) Q E s :=
  Name_function_global hk hx (loadGlobal_builtin (env := eX cn cs L a cd cl) (W.g.keeps S.fr.keep) hf (W.b.keeps S.fr.keep) ((W.builtins x hn).trans hv) h) hd
theorem stL {Q : Unit → Shared → Prop} (S : St h₀ L gi m u g s.heap) (h : ∀ h', St h₀ L gi (upd m x v) u g h' → Q () { s with heap := h', toks := s.toks + 1 })
    (hk : cs.kind = .function := by rfl) (hx : (eX cn cs L a cd cl).kindOf x = some .local := by rfl) : wpAny (model prog w) A (storeName (eX cn cs L a cd cl) x v) Q E s :=
  wpAny_storeName_local hx S.fr.ns (fun h' hn hs => h h' (S.store hn hs)) (by show (cs.kind == .class || (cs.kind == .module && L != mainGlobals)) = false; rw [hk]; rfl)
theorem stCell {Q : Unit → Shared → Prop} {c : Addr} {v₀ : Option Value} {u' : Lg} (S : St h₀ L gi m u g s.heap) (hc : cl.lookup x = some c) (R : Rep c (celO v₀) (celO (some v)) u u')
    (h : ∀ h', St h₀ L gi m u' g h' → Q () { s with heap := h' })
    (hk : cs.kind = .function := by rfl) (hx : (eX cn cs L a cd cl).kindOf x = some .cell := by rfl) : wpAny (model prog w) A (storeName (eX cn cs L a cd cl) x v) Q E s := by
  have hm := S.un _ R.mem
  unfold storeName
  simp only [hx, hk]
  refine wpAny_bind (wpAny_cellOf hc ?_)
  unfold cellSet
  refine wpAny_bind (wpAny_load hm.1 ?_)
  refine wpAny_update hm.1 (h _ (S.set R (Heap.SameBut.update ..) (Heap.get?_update_self _ hm.1 rfl)))
end

/-- entering a def without cells -/
theorem enterP {prog : Program} {w : World} {A : Around} {E : Value → Shared → Prop} {s : Shared} {hb : Heap} {i : Nat} {a : Addr} {o : Obj} {pm code doc : Value} {args : List Value} {binds : List (Str × Value)} {u g : Lg} {n : Nat} {Q : Value → Shared → Prop}
    (hA : OkA A (n + 1)) (fn : FnAt i s.heap a o pm code doc) (hlim : s.heap.NoLimit) (hk : Ext hb s.heap) (hsz : hb.objs.size ≤ s.heap.objs.size)
    (hu : ∀ p ∈ u, s.heap.get? p.1 = some p.2 ∧ hb.get? p.1 = none) (hg : ∀ p ∈ g, s.heap.get? p.1 = some p.2) (hs : ∀ p ∈ g, ∀ q ∈ u, p.1 ≠ q.1) (nd : (u.map (·.1)).Nodup)
    (hbind : bindArgs (docF i pm code doc) ⟨args, []⟩ = pure binds)
    (h : ∀ L h₁ tk, St hb L g (fun x => binds.reverse.lookup x) u g h₁ → OkA (A.deeper (eX (fdAt i).name (fdAt i).scope L a code [])) n →
      wpAny (model prog w) (A.deeper (eX (fdAt i).name (fdAt i).scope L a code [])) (execs (fdAt i).body (eX (fdAt i).name (fdAt i).scope L a code []))
        (fun fl s' => Q (match fl with | .ret v => v | _ => .none) s') (fun _ _ => False) { s with heap := h₁, toks := tk })
    (hloc : ∀ x ∈ binds, (fdAt i).scope.names.lookup x.1 = some .local := by exact locs rfl)
    (hco : (fdAt i).scope.isCoroutine = false := by rfl) (hgen : (fdAt i).scope.isGenerator = false := by rfl) (hkd : (fdAt i).scope.kind = .function := by rfl)
    (hcell : ∀ x ∈ (fdAt i).scope.names, x.2 ≠ .cell := by decide) :
    wpAny (model prog w) A (call (.ref a) args) Q E s := by
  refine wpAny_call (call_plain_ret (by have := hA.dp; omega) fn.at_ fn.d hlim fn.c hbind hloc (fun h₁ F₁ => ?_) hco hgen hkd hcell)
  refine h s.heap.objs.size h₁ _ ⟨⟨F₁.ns, fun b ob e => F₁.keep _ _ (hk _ _ e), hsz⟩, fun p hp => ⟨F₁.keep _ _ (hu p hp).1, Nat.ne_of_lt (Heap.lt_size (hu p hp).1), (hu p hp).2⟩, fun p hp => ⟨F₁.keep _ _ (hg p hp), Nat.ne_of_lt (Heap.lt_size (hg p hp))⟩, hs, nd, fun p hp => .inl hp⟩ hA.deeper
end Mine
end
section
open PySem PyProof.Rows PySem.Calls
namespace Mine

section
variable {prog : Program} {w : World} {A : Around} {E : Value → Shared → Prop} {s : Shared} {h₀ : Heap} {L d : Addr} {gi : Lg} {m : Str → Option Value} {u g : Lg} {o : Obj} {k : Str} {t : Tok} {kvs : List (Str × Value)}

theorem St.dict (S : St h₀ L gi m u g s.heap) (hm : (d, o) ∈ u) (Ho : o.IsDictOf (strKind prog w) kvs) : s.heap.DictOf (strKind prog w) d kvs := Heap.dictOf_iff.mpr ⟨o, (S.un _ hm).1, Ho⟩

theorem St.dictH {h : Heap} (S : St h₀ L gi m u g h) (hm : (d, o) ∈ u) (Ho : o.IsDictOf (strKind prog w) kvs) : h.DictOf (strKind prog w) d kvs := Heap.dictOf_iff.mpr ⟨o, (S.un _ hm).1, Ho⟩

theorem dIn {Q : Value → Shared → Prop} (S : St h₀ L gi m u g s.heap) (hm : (d, o) ∈ u) (Ho : o.IsDictOf (strKind prog w) kvs) (lo : (d == sysModules) = false)
    (h : Q (.bool (valueAt kvs k).isSome) { s with toks := s.toks + 1 }) : wpAny (model prog w) A (compareOp .In (.str k t) (.ref d)) Q E s :=
  wpAny_in_of (strKind_is prog w k t) lo (S.dict hm Ho).mapOf h
theorem dNotIn {Q : Value → Shared → Prop} (S : St h₀ L gi m u g s.heap) (hm : (d, o) ∈ u) (Ho : o.IsDictOf (strKind prog w) kvs) (lo : (d == sysModules) = false)
    (h : Q (.bool (!(valueAt kvs k).isSome)) { s with toks := s.toks + 1 }) : wpAny (model prog w) A (compareOp .NotIn (.str k t) (.ref d)) Q E s :=
  wpAny_notIn_of (strKind_is prog w k t) lo (S.dict hm Ho).mapOf h
theorem dSet {Q : Unit → Shared → Prop} {v : Value} {U : Obj → Lg} (S : St h₀ L gi m u g s.heap) (R : ∀ o', Rep d o o' u (U o')) (Ho : o.IsDictOf (strKind prog w) kvs) (hsz : kvs.length ≤ sizeLine)
    (h : ∀ h' o', St h₀ L gi m (U o') g h' → o'.IsDictOf (strKind prog w) (stored kvs k v) → Q () { s with heap := h', toks := s.toks + 1 }) :
    wpAny (model prog w) A (setItem (.ref d) (.str k t) v) Q E s :=
  wpAny_setItem_pairs (hsz := hsz) (strKind_is prog w k t) (S.dict (R o).mem Ho) fun h' hd hs => by
    obtain ⟨o', ho', Ho'⟩ := Heap.dictOf_iff.mp hd
    exact h h' o' (S.set (R o') hs ho') Ho'
theorem dPop {Q : Value → Shared → Prop} {v : Value} {U : Obj → Lg} (S : St h₀ L gi m u g s.heap) (R : ∀ o', Rep d o o' u (U o')) (Ho : o.IsDictOf (strKind prog w) kvs) (hsz : kvs.length ≤ sizeLine) (hv : valueAt kvs k = some v)
    (h : ∀ h' o', St h₀ L gi m (U o') g h' → o'.IsDictOf (strKind prog w) (without kvs k) → Q v { s with heap := h', toks := s.toks + 1 }) :
    wpAny (model prog w) A (call (.builtin "dict.pop") [.ref d, .str k t]) Q E s :=
  call_meetsIn PySem.F.slot_dict_pop (S.dict (R o).mem Ho).typeIs PySem.F.entry_dict_pop (PySem.F.args_dict_pop_2 _ _) (meets_dict_pop_there (strKind prog w) d (strKind_is prog w k t) [] (.inl rfl) rfl)
    ⟨kvs, v, S.dict (R o).mem Ho, hsz, hv, fun h' hd hs => by
      obtain ⟨o', ho', Ho'⟩ := Heap.dictOf_iff.mp hd
      exact h h' o' (S.set (R o') hs ho') Ho'⟩

/-- a method of a built-in type, called -/
theorem callM {env : Env} {ob : Expr} {name : Str} {apos pos : Pos} {args : List Expr} {Q : Value → Shared → Prop} (T id : String)
    (pa : PlainAttrs T) (slot : Slot T name id) (ty : typeOf (.builtin id) = pure (.type "method_descriptor"))
    (h : wpAny (model prog w) A (eval ob env) (fun ov s₁ => s₁.TypeIs ov T ∧ (∀ a, ov = .ref a → ∃ ob, s₁.heap.get? a = some ob ∧ ob.dict = none) ∧
      wpAny (model prog w) A (spliced (backTo pos (starEach args env))) (fun vs s₂ => wpAny (model prog w) A (call (.builtin id) (ov :: vs)) Q E s₂) E s₁) E s)
    (hne : args ≠ [] := by intro h; cases h)
    (hbase : attributeBase ob name env (eval ob env) = eval ob env := by rfl)
    (hfew : ((backTo pos (starEach args env)).all (fun x => !x.1) && (backToKw pos (keywordEach [] env)).all (fun x => x.1.isSome)
      && decide (args.length + ([] : List Keyword).length + (if ([] : List Keyword).isEmpty then 0 else 1) < 30)) = true := by rfl)
    (hline : (apos.endLine == pos.line) = true := by rfl) (hst : starEach args env = (match args with | e :: r => (false, eval e env) :: starEach r env | [] => []) := by rfl)
    (hplain : (backTo pos (starEach args env)).any (·.1) = false := by rfl) :
    wpAny (model prog w) A (eval (.Call (.Attribute ob name apos) args [] pos) env) Q E s := by
  refine wpAny_Call_method_late hbase hfew hline rfl (wpAny_mono h (fun ov s₁ h₁ => ?_) fun _ _ x => x)
  obtain ⟨hT, hd, hc⟩ := h₁
  refine ⟨T, id, pa, slot, ty, hT, hd, callWith_builtin hplain ?_⟩
  cases args with
  | nil => exact absurd rfl hne
  | cons e r =>
    simp only at hst
    rw [hst] at hc ⊢
    exact evalArgs_plain hc
end

section
variable {K : Type} [DecidableEq K]
theorem valueAt_eq (kvs : List (K × Value)) (k : K) : valueAt kvs k = (kvs.find? fun kv => decide (kv.1 = k)).map (·.2) := by first | rfl | (unfold valueAt; rfl)
end
end Mine
end
section
open PySem PyProof.Rows PySem.Calls
namespace Mine

section
variable {prog : Program} {w : World} {M : Model} {A : Around} {E : Value → Shared → Prop} {s : Shared} {env : Env} {x : Str} {p pos : Pos} {e : Expr} {r : List Expr} {Q : Value → Shared → Prop}

/-- a built-in function, a built-in type, a def of the text called by its name with one argument or more -/
theorem callB (id : String) (h : wpAny M A (eval (.Name x p) env) (fun f s₁ => f = .builtin id ∧ wpAny M A (spliced (backTo pos (starEach (e :: r) env))) (fun vs s₂ => wpAny M A (call (.builtin id) vs) Q E s₂) E s₁) E s)
    (he : starEach (e :: r) env = (false, eval e env) :: starEach r env := by rfl) (hp : (backTo pos (starEach r env)).any (·.1) = false := by rfl) :
    wpAny M A (eval (.Call (.Name x p) (e :: r) [] pos) env) Q E s := by
  refine Call_Name rfl (wpAny_mono h (fun f s₁ h₁ => ?_) fun _ _ q => q)
  obtain ⟨rfl, h₁⟩ := h₁
  rw [he] at h₁ ⊢
  refine callWith_builtin (by show (false || (backTo pos (starEach r env)).any (·.1)) = false; rw [hp]; rfl) (evalArgs_plain ?_)
  exact wpAny_mono h₁ (fun vs s₂ h₂ => h₂) fun _ _ q => q
theorem callT (T : String) (h : wpAny M A (eval (.Name x p) env) (fun f s₁ => f = .type T ∧ wpAny M A (spliced (backTo pos (starEach (e :: r) env))) (fun vs s₂ => wpAny M A (call (.type T) vs) Q E s₂) E s₁) E s)
    (he : starEach (e :: r) env = (false, eval e env) :: starEach r env := by rfl) (hp : (backTo pos (starEach r env)).any (·.1) = false := by rfl) :
    wpAny M A (eval (.Call (.Name x p) (e :: r) [] pos) env) Q E s := by
  refine Call_Name rfl (wpAny_mono h (fun f s₁ h₁ => ?_) fun _ _ q => q)
  obtain ⟨rfl, h₁⟩ := h₁
  exact callWith_type1 h₁ he hp
theorem callU {a : Addr} {o : Obj} {fd : FuncData} (h : wpAny M A (eval (.Name x p) env) (fun f s₁ => f = .ref a ∧ wpAny M A (spliced (backTo pos (starEach (e :: r) env))) (fun vs s₂ => (s₂.heap.get? a = some o ∧ o.data = .func fd) ∧ wpAny M A (call (.ref a) vs) Q E s₂) E s₁) E s)
    (he : starEach (e :: r) env = (false, eval e env) :: starEach r env := by rfl) :
    wpAny M A (eval (.Call (.Name x p) (e :: r) [] pos) env) Q E s := by
  refine Call_Name rfl (wpAny_mono h (fun f s₁ h₁ => ?_) fun _ _ q => q)
  obtain ⟨rfl, h₁⟩ := h₁
  rw [he] at h₁ ⊢
  exact callWith_function (o := o) (fd := fd) (evalArgs_plain (wpAny_mono h₁ (fun vs s₂ h₂ => h₂) fun _ _ q => q))
end

section
variable {prog : Program} {w : World} {A : Around} {E : Value → Shared → Prop} {s : Shared} {h₀ : Heap} {L d : Addr} {gi : Lg} {m : Str → Option Value} {u g : Lg} {o : Obj} {k : Str} {t : Tok} {kvs : List (Str × Value)}
theorem dDel {Q : Unit → Shared → Prop} {U : Obj → Lg} (S : St h₀ L gi m u g s.heap) (R : ∀ o', Rep d o o' u (U o')) (Ho : o.IsDictOf (strKind prog w) kvs) (hsz : kvs.length ≤ sizeLine) (hv : (valueAt kvs k).isSome = true)
    (h : ∀ h' o', St h₀ L gi m (U o') g h' → o'.IsDictOf (strKind prog w) (without kvs k) → Q () { s with heap := h', toks := s.toks + 1 }) :
    wpAny (model prog w) A (delItem (.ref d) (.str k t)) Q E s :=
  wpAny_delItem_slot (S.dict (R o).mem Ho).typeIs (by decide) PySem.F.slot_dict_delitem (call_meetsIn PySem.F.slot_dict_delitem (S.dict (R o).mem Ho).typeIs PySem.F.entry_dict_delitem (PySem.F.args_dict_delitem_2 _ _)
    (meets_dict_delitem_pairs (strKind prog w) d (strKind_is prog w k t)) ⟨kvs, S.dict (R o).mem Ho, hsz, hv, fun h' hd hs => by
      obtain ⟨o', ho', Ho'⟩ := Heap.dictOf_iff.mp hd
      exact h h' o' (S.set (R o') hs ho') Ho'⟩)
theorem dLen {Q : Value → Shared → Prop} (S : St h₀ L gi m u g s.heap) (hm : (d, o) ∈ u) (Ho : o.IsDictOf (strKind prog w) kvs) (lo : (d == sysModules) = false) (hsz : kvs.length ≤ 1000)
    (h : Q (.int kvs.length (s.toks + 1)) { s with toks := s.toks + 1 + 1 }) : wpAny (model prog w) A (call (.builtin "len") [.ref d]) Q E s :=
  call_len_dict lo (S.dict hm Ho) (by omega) h
end
end Mine
end
section
open PySem PyProof.Rows PySem.Calls
namespace Mine
section
variable {prog : Program} {w : World} {A : Around} {E : Value → Shared → Prop} {s : Shared} {mg mb : Str → Option Value} {a d : Addr} {o : Obj} {k : Str} {t : Tok} {kvs : List (Str × Value)} {Q : Value → Shared → Prop}

theorem fn_of {h : Heap} {i : Nat} (W : Wd mg mb h) (hi : i ∈ defIdx) (ha : mg (fdAt i).name = some (.ref a)) : ∃ o pm code doc, FnAt i h a o pm code doc := by
  obtain ⟨a', o, pm, cd, dc, e, f⟩ := W.fn i hi
  rw [ha] at e
  cases e
  exact ⟨o, pm, cd, dc, f⟩
theorem ext_hide (h : Heap) (d : Addr) : Ext (h.hide d) h := fun _ _ e => Heap.of_hide e
theorem FnAt.up {h h' : Heap} {i : Nat} {o : Obj} {pm cd dc : Value} (f : FnAt i h a o pm cd dc) (hk : Ext h h') : FnAt i h' a o pm cd dc := ⟨hk _ _ f.at_, f.d, f.c.keeps hk⟩

/-- what a caller learns of a call that may turn the one object d -/
structure Turned (h h' : Heap) (d : Addr) (o' : Obj) : Prop where
  keep : ∀ b x, b ≠ d → h.get? b = some x → h'.get? b = some x
  at_ : h'.get? d = some o'
theorem turned_of {h h' : Heap} {L : Addr} {gi g : Lg} {m : Str → Option Value} {o' : Obj} (S : St (h.hide d) L gi m [(d, o')] g h') : Turned h h' d o' :=
  ⟨fun b x hb e => S.fr.keep b x ((Heap.hide_ne h hb).trans e), (S.un _ (.head _)).1⟩

def afterGet (kvs : List (Str × Value)) (k : Str) : List (Str × Value) := match valueAt kvs k with
  | none => kvs
  | some v => stored (without kvs k) k v

theorem cache_get_spec (hA : OkA A 1) (W : Wd mg mb (s.heap.hide d)) (ha : mg (fdAt 1).name = some (.ref a)) (hd : s.heap.get? d = some o) (Ho : o.IsDictOf (strKind prog w) kvs) (lo : (d == sysModules) = false) (hsz : kvs.length ≤ 1000)
    (hnr : ∀ v, valueAt kvs k = some v → ∀ b, v ≠ .ref b)
    (hk : ∀ o' h' tk, Turned s.heap h' d o' → o'.IsDictOf (strKind prog w) (afterGet kvs k) → Q ((valueAt kvs k).getD .none) { s with heap := h', toks := tk }) :
    wpAny (model prog w) A (call (.ref a) [.ref d, .str k t]) Q E s := by
  have hz : ∀ n : Nat, n ≤ 1000 → n ≤ sizeLine := fun n h => Nat.le_trans h (by decide)
  obtain ⟨of, pm, cd, dc, fn⟩ := fn_of W (i := 1) (by decide) ha
  refine enterP (i := 1) (n := 0) (hb := s.heap.hide d) (u := [(d, o)]) (g := []) hA (fn.up (ext_hide _ _)) (W.nolimit.keeps (ext_hide _ _)) (ext_hide _ _) (Nat.le_of_eq (Heap.hide_size _ _))
    (fun p hp => by rw [List.mem_singleton.mp hp]; exact ⟨hd, Heap.hide_self _ _⟩) (fun _ h => nomatch h) (fun _ h => nomatch h) (by simp) rfl ?_
  intro L h₁ tk S hA'
  conv in (fdAt 1).body => whnf
  refine wpAny_execs_cons (wpAny_If (wpAny_isTrue_Compare1 (nmL S rfl (nmL S rfl (dNotIn S (.head _) Ho lo (wpAny_truthy_bool ?_))))))
  cases hv : valueAt kvs k with
  | none =>
    simp only [hv, afterGet] at hk
    refine wpAny_execs_cons (wpAny_Return_some (wpAny_Constant_none ?_))
    exact hk o _ _ (turned_of S) Ho
  | some v =>
    simp only [hv, afterGet] at hk
    refine wpAny_execs_nil ?_
    refine wpAny_execs_cons (wpAny_Assign_Name (callM "dict" "dict.pop" PySem.F.plainAttrs_dict PySem.F.slot_dict_pop PySem.F.type_dict_pop
      (nmL S rfl ⟨(S.dict (.head _) Ho).typeIs, (S.dict (.head _) Ho).mapOf.noDict, wpAny_items_cons (nmL S rfl (wpAny_items_nil (dPop (U := fun o' => [(d, o')]) S (fun o' => .head) Ho (hz _ hsz) hv fun h₂ o₂ S₂ Ho₂ => stL S₂ fun h₃ S₃ => ?_)))⟩)))
    refine wpAny_execs_cons (wpAny_Assign_Subscript (nmL S₃ rfl (nmL S₃ rfl (nmL S₃ rfl (dSet (U := fun o' => [(d, o')]) S₃ (fun o' => .head) Ho₂ (hz _ (Nat.le_trans (List.length_filter_le _ _) hsz)) fun h₄ o₄ S₄ Ho₄ => ?_)))))
    refine wpAny_execs_cons (wpAny_Return_some (nmL S₄ rfl ?_))
    exact hk o₄ _ _ (turned_of S₄) Ho₄
end
end Mine
end
section
open PySem PyProof.Rows PySem.Calls
namespace Mine
section
variable {prog : Program} {w : World} {A : Around} {E : Value → Shared → Prop} {s : Shared} {mg mb : Str → Option Value} {a d : Addr} {o : Obj} {k : Str} {t t' : Tok} {kvs : List (Str × Value)} {Q : Value → Shared → Prop} {v : Value} {cap : Int}

def putRes (kvs : List (Str × Value)) (k : Str) (v : Value) (cap : Int) : Str × List (Str × Value) :=
  if (valueAt kvs k).isSome then ("", stored (without kvs k) k v)
  else if (kvs.length : Int) ≥ cap then match kvs with
    | [] => ("", [])
    | (k0, _) :: _ => (k0, stored (without kvs k0) k v)
  else ("", stored kvs k v)

theorem strKind_inv {prog : Program} {w : World} {k : Str} {key : Value} (h : (strKind prog w).is k key = true) : ∃ t, key = .str k t := Value.isStrOf_shape h

theorem cache_put_fast_spec (hA : OkA A 1) (W : Wd mg mb (s.heap.hide d)) (ha : mg (fdAt 3).name = some (.ref a)) (hd : s.heap.get? d = some o) (Ho : o.IsDictOf (strKind prog w) kvs) (lo : (d == sysModules) = false) (hsz : kvs.length ≤ 1000)
    (hint : ∀ x, valueAt kvs k = some x → ∃ n t, x = .int n t) (hcap : 1 ≤ cap)
    (hk : ∀ o' h' tk t₁, Turned s.heap h' d o' → o'.IsDictOf (strKind prog w) (putRes kvs k v cap).2 → Q (.str (putRes kvs k v cap).1 t₁) { s with heap := h', toks := tk }) :
    wpAny (model prog w) A (call (.ref a) [.ref d, .str k t, v, .int cap t']) Q E s := by
  have hz : ∀ n : Nat, n ≤ 1000 → n ≤ sizeLine := fun n h => Nat.le_trans h (by decide)
  have hzw : ∀ k, (without kvs k).length ≤ sizeLine := fun k => hz _ (Nat.le_trans (List.length_filter_le _ _) hsz)
  obtain ⟨of, pm, cd, dc, fn⟩ := fn_of W (i := 3) (by decide) ha
  refine enterP (i := 3) (n := 0) (binds := [("cache", .ref d), ("key", .str k t), ("value", v), ("capacity", .int cap t')]) (hb := s.heap.hide d) (u := [(d, o)]) (g := []) hA (fn.up (ext_hide _ _)) (W.nolimit.keeps (ext_hide _ _)) (ext_hide _ _) (Nat.le_of_eq (Heap.hide_size _ _))
    (fun p hp => by rw [List.mem_singleton.mp hp]; exact ⟨hd, Heap.hide_self _ _⟩) (fun _ h => nomatch h) (fun _ h => nomatch h) (by simp) rfl ?_
  intro L h₁ tk S hA'
  conv in (fdAt 3).body => whnf
  refine wpAny_execs_cons (wpAny_Assign_Name (wpAny_Constant_str (stL S fun h₂ S₂ => ?_)))
  refine wpAny_execs_cons (wpAny_If (wpAny_isTrue_Compare1 (nmL S₂ rfl (nmL S₂ rfl (dIn S₂ (.head _) Ho lo (wpAny_truthy_bool ?_))))))
  have fin : ∀ (m : Str → Option Value) (kv' : List (Str × Value)) (h₃ : Heap) (tk₃ : Nat) (o₃ : Obj) (g₃ : Lg) (x : Str) (tx : Tok), St (s.heap.hide d) L [] m [(d, o₃)] g₃ h₃ → o₃.IsDictOf (strKind prog w) kv' → kv'.length ≤ sizeLine → m "cache" = some (.ref d) → m "key" = some (.str k t) → m "value" = some v → m "dropped" = some (.str x tx) →
      x = (putRes kvs k v cap).1 → stored kv' k v = (putRes kvs k v cap).2 →
      wpAny (model prog w) (A.deeper (eX (fdAt 3).name (fdAt 3).scope L a cd [])) (execs ((fdAt 3).body.drop 2) (eX (fdAt 3).name (fdAt 3).scope L a cd []))
        (fun fl s' => Q (match fl with | .ret v => v | _ => .none) s') (fun _ _ => False) { s with heap := h₃, toks := tk₃ } := by
    intro m kv' h₃ tk₃ o₃ g₃ x tx S₃ Ho₃ hl m1 m2 m3 m4 e1 e2
    conv in (List.drop 2 (fdAt 3).body) => whnf
    refine wpAny_execs_cons (wpAny_Assign_Subscript (nmL S₃ m3 (nmL S₃ m1 (nmL S₃ m2 (dSet (U := fun o' => [(d, o')]) S₃ (fun o' => .head) Ho₃ hl fun h₄ o₄ S₄ Ho₄ => ?_)))))
    refine wpAny_execs_cons (wpAny_Return_some (nmL S₄ m4 ?_))
    subst e1
    exact hk o₄ _ _ _ (turned_of S₄) (e2 ▸ Ho₄)
  cases hv : valueAt kvs k with
  | some x =>
    obtain ⟨n, tn, rfl⟩ := hint x hv
    refine wpAny_execs_cons (wpAny_Expr (callM "dict" "dict.pop" PySem.F.plainAttrs_dict PySem.F.slot_dict_pop PySem.F.type_dict_pop
      (nmL S₂ rfl ⟨(S₂.dict (.head _) Ho).typeIs, (S₂.dict (.head _) Ho).mapOf.noDict, wpAny_items_cons (nmL S₂ rfl (wpAny_items_nil (dPop (U := fun o' => [(d, o')]) S₂ (fun o' => .head) Ho (hz _ hsz) hv fun h₃ o₃ S₃ Ho₃ => ?_)))⟩)))
    refine wpAny_execs_nil ?_
    exact fin _ _ _ _ _ _ _ _ S₃ Ho₃ (hzw _) rfl rfl rfl rfl (by simp [putRes, hv]) (by simp [putRes, hv])
  | none =>
    have lem : (valueAt kvs k).isSome = false := by rw [hv]; rfl
    refine wpAny_execs_cons (wpAny_If (wpAny_isTrue_Compare1 (callB "len" (nmB S₂ W (W.free _ (by decide)) rfl ⟨rfl, wpAny_items_cons (nmL S₂ rfl (wpAny_items_nil (dLen S₂ (.head _) Ho lo hsz (nmL S₂ rfl (PyProof.Rows.ge_int (wpAny_truthy_bool ?_))))))⟩))))
    by_cases hc : (kvs.length : Int) ≥ cap
    · rw [decide_eq_true hc]
      obtain ⟨⟨k0, v0⟩, r, rfl⟩ : ∃ p r, kvs = p :: r := by
        cases kvs with
        | nil => simp at hc; omega
        | cons p r => exact ⟨p, r, rfl⟩
      obtain ⟨ep, hD⟩ := (S₂.dictH (.head _) Ho).dictAt
      refine wpAny_execs_cons (wpAny_For (nmL S₂ rfl (wpAny_pyIter_dict (knd := strKind prog w) (ep := ep) lo hD ?_)))
      have S₃ := S₂.pushU { cls := .type "dict_keyiterator", data := .fields #[.ref d, .int 0 0, .int ((k0, v0) :: r).length 0, .int ep 0] }
      refine codeAny_forLoop (fun n s' => n = 1 ∧ ∃ tk', s' = { s with heap := _, toks := tk' }) (fun n s' hs => ?_) 1 ⟨rfl, _, rfl⟩
      obtain ⟨rfl, tk', rfl⟩ := hs
      refine wpAny_pyNext_dict_item (knd := strKind prog w) (k := k0) (v := v0) ⟨_, (S₃.un _ (.head _)).1, rfl, rfl⟩ (hD.push _) rfl fun key h₄ hkey hit hs₄ => ?_
      obtain ⟨tk0, rfl⟩ := strKind_inv hkey
      obtain ⟨oi, hoi, hoi2⟩ := hit
      have S₄ := S₃.set .head hs₄ hoi
      refine wpAny_assign_Name (stL S₄ fun h₅ S₅ => ?_)
      refine wpAny_execs_cons (wpAny_Assign_Name (nmL S₅ rfl (stL S₅ fun h₆ S₆ => ?_)))
      refine wpAny_execs_cons (wpAny_Break ?_)
      have S₇ := S₆.drop
      refine wpAny_execs_cons (wpAny_Delete (wpAny_deleteEach_cons (wpAny_delete_Subscript (nmL S₇ rfl (nmL S₇ rfl (dDel (U := fun o' => [(d, o')]) S₇ (fun o' => .head) Ho (hz _ hsz) (by simp [valueAt]) fun h₈ o₈ S₈ Ho₈ => wpAny_deleteEach_nil ?_))))))
      refine wpAny_execs_nil ?_
      dsimp only
      refine wpAny_execs_nil ?_
      dsimp only
      refine fin _ _ _ _ _ _ _ _ S₈ Ho₈ (hzw _) rfl rfl rfl rfl ?_ ?_
      · simp only [putRes, lem, Bool.false_eq_true, if_false, if_pos hc]
      · simp only [putRes, lem, Bool.false_eq_true, if_false, if_pos hc]
    · rw [decide_eq_false hc]
      refine wpAny_execs_nil ?_
      dsimp only
      refine wpAny_execs_nil ?_
      dsimp only
      exact fin _ _ _ _ _ _ _ _ S₂ Ho (hz _ hsz) rfl rfl rfl rfl (by simp only [putRes, lem, Bool.false_eq_true, if_false, if_neg hc]) (by simp only [putRes, lem, Bool.false_eq_true, if_false, if_neg hc])
end
end Mine
end
section
open PySem PyProof.Rows PySem.Calls
namespace Mine

def Lets (tg : Expr) : Prop := ∀ {prog : Program} {w : World} {A : Around} {E : Value → Shared → Prop} {s : Shared} {I l : Addr} {i : Nat} {v : Value} {Q : Unit → Shared → Prop}, s.heap.IsListIter I l i → Q () s → wpAny (model prog w) A (letOwnedTupleGo tg (.ref I) v) Q E s
theorem lets_name (x : Str) (p : Pos) : Lets (.Name x p) := fun _ h => wpAny_pure h
theorem lets_tuple (es : List Expr) (k : Nat) (p : Pos) : Lets (.Tuple es k p) := fun {_ _ _ _ _ _ _ _ v _} hit h => by
  cases v with
  | ref T => exact wpAny_letOwnedTupleGo_listiter hit h
  | _ => exact wpAny_pure h

section
variable {h₀ h h' : Heap} {L I : Addr} {gi : Lg} {m : Str → Option Value} {u g : Lg} {io : Obj}
theorem St.extBut (S : St h₀ L gi m ((I, io) :: u) g h) (hx : Heap.ExtBut I h h') : St h₀ L gi m u g h' := by
  have hI := S.un _ (.head _)
  have hne : ∀ p ∈ u, p.1 ≠ I := fun p hp e => (List.nodup_cons.mp S.nd).1 (List.mem_map.mpr ⟨p, hp, e⟩)
  refine ⟨⟨S.fr.ns.extBut hx (Ne.symm hI.2.1), fun b o e => hx b o (fun q => ?_) (S.fr.keep b o e), S.fr.above⟩, fun p hp => ⟨hx _ _ (hne p hp) (S.un p (.tail _ hp)).1, (S.un p (.tail _ hp)).2⟩,
    fun p hp => ⟨hx _ _ (S.sep p hp _ (.head _)) (S.led p hp).1, (S.led p hp).2⟩, fun p hp q hq => S.sep p hp q (.tail _ hq), S.drop.nd, S.prov⟩
  have := hI.2.2; rw [← q, e] at this; cases this
end

section
variable {prog : Program} {w : World} {A : Around} {E : Value → Shared → Prop} {s : Shared} {h₀ : Heap} {L : Addr} {gi : Lg} {m : Str → Option Value} {u g : Lg} {env : Env} {tg : Expr} {body : List Stmt} {lv : Value} {ds : List PyData}

/-- what a turn's end must show -/
def TurnEnd (h₀ : Heap) (L : Addr) (gi : Lg) (J : (Str → Option Value) → Lg → Lg → Prop) (I : Addr) (io : Obj) (s : Shared) (Q : Flow → Shared → Prop) (f : Flow) (s₃ : Shared) : Prop := match f with
  | .next | .cont => ∃ m' u' g' h' tk', s₃ = { s with heap := h', toks := tk' } ∧ J m' u' g' ∧ St h₀ L gi m' ((I, io) :: u') g' h'
  | .brk => Q .next s₃
  | .ret v => Q (.ret v) s₃
theorem TurnEnd.next {J : (Str → Option Value) → Lg → Lg → Prop} {I : Addr} {io : Obj} {Q : Flow → Shared → Prop} {m' : Str → Option Value} {u' g' : Lg} {h' : Heap} {tk' : Nat} (j : J m' u' g') (S : St h₀ L gi m' ((I, io) :: u') g' h') :
    TurnEnd h₀ L gi J I io s Q .next { s with heap := h', toks := tk' } := ⟨m', u', g', h', tk', rfl, j, S⟩

theorem forL {Q : Flow → Shared → Prop} (J : Nat → (Str → Option Value) → Lg → Lg → Prop) (hh : A.handled = none) (S : St h₀ L gi m u g s.heap) (D : DL g lv (.list ds)) (h0 : J 0 m u g) (lets : Lets tg)
    (turn : ∀ i d v m' u' g' h tk I io, ds[i]? = some d → DL g v d → (∀ p ∈ g, p ∈ g') → J i m' u' g' → St h₀ L gi m' ((I, io) :: u') g' h →
      wpAny (model prog w) A (assign tg env v) (fun _ s₂ => wpAny (model prog w) A (execs body env) (TurnEnd h₀ L gi (fun m u g'' => (∀ p ∈ g, p ∈ g'') ∧ J (i + 1) m u g'') I io s Q) (fun _ _ => False) s₂) (fun _ _ => False) { s with heap := h, toks := tk })
    (done : ∀ m' u' g' h tk, (∀ p ∈ g, p ∈ g') → J ds.length m' u' g' → St h₀ L gi m' u' g' h → Q .next { s with heap := h, toks := tk }) :
    wpAny (model prog w) A (pyIter lv) (fun it s₂ => codeAny (model prog w) A (.forLoop tg it body [] env) (fun r s' => match r with | .ok f => Q f s' | .error e => cameBackBy (model prog w) A env E e s') s₂) E s := by
  cases D with
  | @list l n vs _ hl hD =>
    have hlen := hD.length
    have isl : ∀ {h' : Heap}, h'.get? l = some (lstO vs n) → h'.IsList l vs.toArray := fun e => ⟨_, e, rfl, _, rfl⟩
    refine wpAny_pyIter_list (isl (S.led _ hl).1) ?_
    refine codeAny_forLoop_any (fun k s' => ∃ i m' u' g' h tk io, s' = { s with heap := h, toks := tk } ∧ i ≤ ds.length ∧ k = ds.length + 1 - i ∧ (∀ p ∈ g, p ∈ g') ∧ J i m' u' g' ∧ St h₀ L gi m' ((s.heap.objs.size, io) :: u') g' h ∧ h.IsListIter s.heap.objs.size l i)
      ?_ (ds.length + 1) ⟨0, m, u, g, _, s.toks, _, rfl, Nat.zero_le _, rfl, fun _ hp => hp, h0, S.pushU _, ⟨_, Heap.get?_push_size _ rfl, rfl, rfl⟩⟩
    rintro k s' ⟨i, m', u', g', h, tk, io, rfl, hi, rfl, hsub, hJ, S', hit⟩
    cases hx : vs[i]? with
    | none =>
      have hie : i = ds.length := by have := List.getElem?_eq_none_iff.mp hx; omega
      refine wpAny_pyNext_list_end hh hit (isl (S'.led _ (hsub _ hl)).1) (by simpa using hx) fun h₁ he => wpAny_execs_nil ?_
      exact done m' u' g' h₁ tk hsub (hie ▸ hJ) (S'.extBut he)
    | some v =>
      obtain ⟨d, hd, hDv⟩ := hD.getV hx
      have hlt : i < ds.length := (List.getElem?_eq_some_iff.mp hd).1
      refine wpAny_pyNext_list_item hit (isl (S'.led _ (hsub _ hl)).1) (by simpa using hx) fun h₁ hit₁ hs₁ => ?_
      obtain ⟨io₁, hio₁, hio₂⟩ := id hit₁
      have S₁ := S'.set .head hs₁ hio₁
      refine lets (l := l) (i := i + 1) hit₁ (wpAny_mono (turn i d v m' u' g' h₁ tk _ io₁ hd hDv hsub hJ S₁) (fun _ s₂ h₂ => wpAny_mono h₂ (fun f s₃ h₃ => ?_) fun _ _ e => e.elim) fun _ _ e => e.elim)
      cases f with
      | brk => exact h₃
      | ret v => exact h₃
      | next =>
        obtain ⟨m₂, u₂, g₂, h₂, tk₂, rfl, ⟨hs₂, hJ₂⟩, S₂⟩ := h₃
        exact ⟨ds.length + 1 - (i + 1), by omega, i + 1, m₂, u₂, g₂, h₂, tk₂, io₁, rfl, hlt, rfl, hs₂, hJ₂, S₂, ⟨io₁, (S₂.un _ (.head _)).1, hio₂⟩⟩
      | cont =>
        obtain ⟨m₂, u₂, g₂, h₂, tk₂, rfl, ⟨hs₂, hJ₂⟩, S₂⟩ := h₃
        exact ⟨ds.length + 1 - (i + 1), by omega, i + 1, m₂, u₂, g₂, h₂, tk₂, io₁, rfl, hlt, rfl, hs₂, hJ₂, S₂, ⟨io₁, (S₂.un _ (.head _)).1, hio₂⟩⟩

/-- an item of a tuple, of a list, at a place in it -/
theorem sbT {Q : Value → Shared → Prop} {value slice : Expr} {ov : Value} {i : Nat} {t : Tok} {d : PyData} (S : St h₀ L gi m u g s.heap) (D : DL g ov (.tuple ds)) (hi : ds[i]? = some d) (hz : ds.length ≤ 1000) (h : ∀ x, DL g x d → Q x s)
    (hs : ∀ l, subscripted slice false (.ref l) (.int i t) = operate [.ref l, .int i t] (getItem (.ref l) (.int i t)) := by intro l; with_unfolding_all rfl) :
    wpAny (model prog w) A (subscriptTail value slice ov (.int i t)) Q E s := by
  cases D with
  | @tuple a n vs _ hl hD =>
    obtain ⟨x, hx, hD'⟩ := hD.get hi
    have hlt : i < vs.length := (List.getElem?_eq_some_iff.mp hx).1
    have hlen := hD.length
    exact item_tupleT ⟨_, (S.led _ hl).1, rfl, _, rfl⟩ (by omega) (by omega) (by simp [seqIndex?]; omega) hx (h x hD') (hs a)
theorem sbL {Q : Value → Shared → Prop} {value slice : Expr} {ov : Value} {i : Nat} {t : Tok} {d : PyData} (S : St h₀ L gi m u g s.heap) (D : DL g ov (.list ds)) (hi : ds[i]? = some d) (hz : ds.length ≤ 1000) (h : ∀ x, DL g x d → Q x s)
    (hs : ∀ l, subscripted slice false (.ref l) (.int i t) = operate [.ref l, .int i t] (getItem (.ref l) (.int i t)) := by intro l; with_unfolding_all rfl) :
    wpAny (model prog w) A (subscriptTail value slice ov (.int i t)) Q E s := by
  cases D with
  | @list a n vs _ hl hD =>
    obtain ⟨x, hx, hD'⟩ := hD.get hi
    have hlt : i < vs.length := (List.getElem?_eq_some_iff.mp hx).1
    have hlen := hD.length
    have hL : s.heap.IsList a vs.toArray := ⟨_, (S.led _ hl).1, rfl, _, rfl⟩
    exact tail_any hL.typeIs slot_list_getitem.lookup (wpAny_getItem_list hL (by omega) (by omega) (by simpa using hx) (h x hD')) (hs a)
/-- append to a list of the call's own -/
theorem lApp {Q : Value → Shared → Prop} {l : Addr} {vs : List Value} {n : Nat} {x : Value} {U : Nat → Lg} (S : St h₀ L gi m u g s.heap) (R : ∀ n', Rep l (lstO vs n) (lstO (vs ++ [x]) n') u (U n')) (hz : vs.length ≤ 1000)
    (h : ∀ h' n', St h₀ L gi m (U n') g h' → Q .none { s with heap := h' }) : wpAny (model prog w) A (call (.builtin "list.append") [.ref l, x]) Q E s := by
  refine wpAny_list_append_plain ⟨n, (S.un _ (R 0).mem).1⟩ (fun h' hp hs => ?_) (by simp; exact Nat.le_trans hz (by decide))
  obtain ⟨n', e⟩ := hp
  refine h h' n' (S.set (R n') hs ?_)
  rw [e]; simp
theorem mkTup {Q : Value → Shared → Prop} {vs : List Value} (S : St h₀ L gi m u g s.heap) (hz : vs.length ≤ 1000) (h : ∀ h' a, St h₀ L gi m u ((a, tupO vs 0) :: g) h' → Q (.ref a) { s with heap := h' }) : wpAny (model prog w) A (newTuple vs) Q E s :=
  wpAny_newTuple (h _ _ (S.pushG _)) (Nat.le_trans hz (by decide))
theorem mkLst {Q : Value → Shared → Prop} {vs : List Value} (S : St h₀ L gi m u g s.heap) (hz : vs.length ≤ 1000) (h : ∀ h' a, St h₀ L gi m u ((a, lstO vs 0) :: g) h' → Q (.ref a) { s with heap := h' }) : wpAny (model prog w) A (newList vs) Q E s :=
  wpAny_newList (h _ _ (S.pushG _)) (Nat.le_trans hz (by decide))
theorem mkLstU {Q : Value → Shared → Prop} {vs : List Value} (S : St h₀ L gi m u g s.heap) (hz : vs.length ≤ 1000) (h : ∀ h' a, St h₀ L gi m ((a, lstO vs 0) :: u) g h' → Q (.ref a) { s with heap := h' }) : wpAny (model prog w) A (newList vs) Q E s :=
  wpAny_newList (h _ _ (S.pushU _)) (Nat.le_trans hz (by decide))
/-- two lists added -/
theorem addL {Q : Value → Shared → Prop} {a b : Value} {es : List PyData} (S : St h₀ L gi m u g s.heap) (Da : DL g a (.list ds)) (Db : DL g b (.list es)) (hz : ds.length + es.length ≤ 1000)
    (h : ∀ h' x o, St h₀ L gi m u ((x, o) :: g) h' → DL ((x, o) :: g) (.ref x) (.list (ds ++ es)) → Q (.ref x) { s with heap := h' }) : wpAny (model prog w) A (binaryOp .Add a b) Q E s := by
  cases Da with
  | @list la na vs _ hla hDa =>
    cases Db with
    | @list lb nb ws _ hlb hDb =>
      have e1 := hDa.length
      have e2 := hDb.length
      obtain ⟨ho, ho2⟩ := And.intro (S.led _ hla).1 (S.led _ hlb).1
      have e : vs.toArray ++ ws.toArray = (vs ++ ws).toArray := by simp
      have hzz : vs.length + ws.length ≤ sizeLine := Nat.le_trans (by omega : _ ≤ 1000) (by decide)
      refine concat_meets ⟨_, ho, rfl⟩ ⟨_, ho2, rfl⟩ noFill_list_add seq_list_add PySem.F.slot_list_add PySem.F.entry_list_add (PySem.F.args_list_add_2 _ _) (list_addW la lb vs.toArray ws.toArray na nb none none #[] #[] (by simpa using hzz)) ⟨ho, ho2, ?_⟩
      rw [e]
      exact h _ _ _ (S.pushG (lstO (vs ++ ws) 0)) (.list (n := 0) (.head _) (((hDa.append hDb)).mono fun _ hp => .tail _ hp))
/-- unpacking a tuple into names -/
theorem unT {Q : Unit → Shared → Prop} {elts : List Expr} {k : Nat} {pos : Pos} {v : Value} (hh : A.handled = none) (S : St h₀ L gi m u g s.heap) (D : DL g v (.tuple ds)) (hn : (assignEach elts env).length = ds.length)
    (h : ∀ vs h', DLs g vs ds → St h₀ L gi m u g h' → wpAny (model prog w) A (assignInOrder ((assignEach elts env).map (·.2)) vs) Q E { s with heap := h' })
    (hstar : (assignEach elts env).findIdx? (·.1) = none := by rfl) : wpAny (model prog w) A (assign (.Tuple elts k pos) env v) Q E s := by
  cases D with
  | @tuple a n vs _ hl hD =>
    have hlen := hD.length
    refine assign_Tuple_tuple hh ⟨_, (S.led _ hl).1, rfl, _, rfl⟩ (by rw [hn, List.size_toArray, hlen]) hstar fun h' he => ?_
    refine h vs h' hD (S.ext fun b o e => he b o (Nat.ne_of_lt (Heap.lt_size e)) e)
end
end Mine
end
section
open PySem PyProof.Rows PySem.Calls
namespace Mine

abbrev Ps := List (Str × Int)
inductive KV : List (Str × Value) → Ps → Prop
  | nil : KV [] []
  | cons {k : Str} {n : Int} {t : Tok} {kvs : List (Str × Value)} {ps : Ps} : KV kvs ps → KV ((k, .int n t) :: kvs) ((k, n) :: ps)
theorem KV.length {kvs : List (Str × Value)} {ps : Ps} (h : KV kvs ps) : kvs.length = ps.length := by induction h <;> simp_all
theorem KV.append {kvs kws : List (Str × Value)} {ps qs : Ps} (h : KV kvs ps) (h' : KV kws qs) : KV (kvs ++ kws) (ps ++ qs) := by
  induction h with
  | nil => exact h'
  | cons _ ih => exact .cons ih
theorem KV.keys {kvs : List (Str × Value)} {ps : Ps} (h : KV kvs ps) : kvs.map (·.1) = ps.map (·.1) := by induction h <;> simp_all
def look (ps : Ps) (k : Str) : Option Int := (ps.find? fun p => decide (p.1 = k)).map (·.2)
def drop (ps : Ps) (k : Str) : Ps := ps.filter fun p => decide (p.1 ≠ k)
theorem KV.look {kvs : List (Str × Value)} {ps : Ps} (h : KV kvs ps) (k : Str) : (look ps k = none ∧ valueAt kvs k = none) ∨ ∃ n t, look ps k = some n ∧ valueAt kvs k = some (.int n t) := by
  induction h with
  | nil => exact .inl ⟨rfl, rfl⟩
  | @cons k' n t kvs ps _ ih =>
    by_cases e : k' = k
    · subst e; exact .inr ⟨n, t, by simp [Mine.look], by simp [valueAt]⟩
    · simpa [Mine.look, valueAt, List.find?_cons, e] using ih
theorem KV.drop {kvs : List (Str × Value)} {ps : Ps} (h : KV kvs ps) (k : Str) : KV (without kvs k) (drop ps k) := by
  induction h with
  | nil => exact .nil
  | @cons k' n t kvs ps _ ih =>
    by_cases e : k' = k
    · simpa [Mine.drop, without, List.filter_cons, e] using ih
    · simpa [Mine.drop, without, List.filter_cons, e] using KV.cons ih
theorem stored_new {kvs : List (Str × Value)} {k : Str} {v : Value} (h : valueAt kvs k = none) : stored kvs k v = kvs ++ [(k, v)] := by
  have : (kvs.any fun kv => decide (kv.1 = k)) = false := by
    rw [List.any_eq_false]
    intro kv hkv e
    have : (kvs.find? fun kv => decide (kv.1 = k)) = none := by simpa [valueAt] using h
    exact List.find?_eq_none.mp this kv hkv e
  simp [stored, this]
theorem valueAt_without {kvs : List (Str × Value)} {k k' : Str} (h : k' = k ∨ valueAt kvs k = none) : valueAt (without kvs k') k = none := by
  simp only [valueAt, without, Option.map_eq_none_iff, List.find?_eq_none, List.mem_filter, decide_eq_true_eq] at h ⊢
  rintro kv ⟨hkv, hne⟩ e
  rcases h with rfl | h
  · exact hne e
  · exact h kv hkv e

def kget (ps : Ps) (k : Str) : PyData × Ps := match look ps k with
  | none => (.none, ps)
  | some n => (.int n, drop ps k ++ [(k, n)])
def kput (ps : Ps) (k : Str) (v : Int) (cap : Int) : Str × Ps :=
  if (look ps k).isSome then ("", drop ps k ++ [(k, v)])
  else if (ps.length : Int) ≥ cap then match ps with
    | [] => ("", [])
    | (k0, _) :: _ => (k0, drop ps k0 ++ [(k, v)])
  else ("", ps ++ [(k, v)])

theorem KV.get {kvs : List (Str × Value)} {ps : Ps} (h : KV kvs ps) (k : Str) : KV (afterGet kvs k) (kget ps k).2 ∧ ∀ g, DL g ((valueAt kvs k).getD .none) (kget ps k).1 := by
  rcases h.look k with ⟨h1, h2⟩ | ⟨n, t, h1, h2⟩
  · simp only [afterGet, kget, h1, h2]; exact ⟨h, fun g => .none⟩
  · simp only [afterGet, kget, h1, h2]
    rw [stored_new (valueAt_without (.inl rfl))]
    exact ⟨(h.drop k).append (.cons .nil), fun g => .int _ _⟩
theorem KV.put {kvs : List (Str × Value)} {ps : Ps} (h : KV kvs ps) (k : Str) (v : Int) (t : Tok) (cap : Int) : (putRes kvs k (.int v t) cap).1 = (kput ps k v cap).1 ∧ KV (putRes kvs k (.int v t) cap).2 (kput ps k v cap).2 := by
  have hl := h.length
  rcases h.look k with ⟨h1, h2⟩ | ⟨n, t, h1, h2⟩
  · simp only [putRes, kput, h1, h2, Option.isSome_none, Bool.false_eq_true, if_false, hl]
    split
    · cases h with
      | nil => exact ⟨rfl, .nil⟩
      | @cons k0 n0 t0 kvs ps h =>
        refine ⟨rfl, ?_⟩
        dsimp only
        rw [stored_new (valueAt_without (.inr h2))]
        exact ((KV.cons h).drop k0).append (.cons .nil)
    · rw [stored_new h2]
      exact ⟨rfl, h.append (.cons .nil)⟩
  · simp only [putRes, kput, h1, h2, Option.isSome_some, if_true]
    rw [stored_new (valueAt_without (.inl rfl))]
    exact ⟨trivial, (h.drop k).append (.cons .nil)⟩
theorem drop_length_le (ps : Ps) (k : Str) : (drop ps k).length ≤ ps.length := List.length_filter_le _ _
theorem kget_length (ps : Ps) (k : Str) : (kget ps k).2.length ≤ ps.length + 1 := by
  unfold kget; split
  · simp
  · have := drop_length_le ps k; simp; omega
theorem kput_length (ps : Ps) (k : Str) (v cap : Int) : (kput ps k v cap).2.length ≤ ps.length + 1 := by
  unfold kput
  have h1 := drop_length_le ps k
  split
  · simp; omega
  · split
    · split
      · simp
      · rename_i k0 _ r _ _; have := drop_length_le ((k0, ‹_›) :: r) k0; simp at *; omega
    · simp

inductive Op where
  | get (k : Str)
  | put (k : Str) (v : Int)
def Op.d : Op → PyData
  | .get k => .tuple [.str "get", .str k, .int 0]
  | .put k v => .tuple [.str "put", .str k, .int v]
def pairD (p : Str × Int) : PyData := .tuple [.str p.1, .int p.2]
def step (cap : Int) (ps : Ps) : Op → PyData × Ps
  | .get k => kget ps k
  | .put k v => (.str (kput ps k v cap).1, (kput ps k v cap).2)
theorem step_length (cap : Int) (ps : Ps) (o : Op) : (step cap ps o).2.length ≤ ps.length + 1 := by cases o; exact kget_length ..; exact kput_length ..
def play (cap : Int) : Ps → List Op → List PyData × Ps
  | ps, [] => ([], ps)
  | ps, o :: r => let q := step cap ps o; let z := play cap q.2 r; (q.1 :: z.1, z.2)
theorem play_snoc (cap : Int) (ps : Ps) (l : List Op) (o : Op) : play cap ps (l ++ [o]) = ((play cap ps l).1 ++ [(step cap (play cap ps l).2 o).1], (step cap (play cap ps l).2 o).2) := by
  induction l generalizing ps with
  | nil => simp [play]
  | cons x r ih => simp only [List.cons_append, play, ih]
theorem play_length (cap : Int) (ps : Ps) (l : List Op) : (play cap ps l).1.length = l.length ∧ (play cap ps l).2.length ≤ ps.length + l.length := by
  induction l generalizing ps with
  | nil => simp [play]
  | cons x r ih =>
    have h1 := ih (step cap ps x).2
    have h2 := step_length cap ps x
    simp only [play, List.length_cons]
    omega
end Mine
end
section
open PySem PyProof.Rows PySem.Calls
namespace Mine
section
variable {h₀ h h' : Heap} {L d : Addr} {gi : Lg} {m : Str → Option Value} {u u' g : Lg} {o o' : Obj} {mg mb : Str → Option Value}
theorem St.turn (S : St h₀ L gi m u g h) (R : Rep d o o' u u') (T : Turned h h' d o') : St h₀ L gi m u' g h' := by
  have ha := S.un _ R.mem
  refine ⟨⟨S.fr.ns.extBut (b := d) (fun b x hb e => T.keep b x hb e) (Ne.symm ha.2.1), fun b x e => T.keep b x (fun q => ?_) (S.fr.keep b x e), S.fr.above⟩, fun p hp => ?_, fun p hp => ⟨T.keep _ _ (S.sep p hp _ R.mem) (S.led p hp).1, (S.led p hp).2⟩, fun p hp q hq => ?_, R.keys ▸ S.nd, S.prov⟩
  · have := ha.2.2; rw [← q] at this; rw [this] at e; cases e
  · rcases R.nodup S.nd p hp with rfl | ⟨h1, h2⟩
    · exact ⟨T.at_, ha.2⟩
    · exact ⟨T.keep _ _ h2 (S.un p h1).1, (S.un p h1).2⟩
  · rcases R.of q hq with rfl | h1
    · exact S.sep p hp (d, o) R.mem
    · exact S.sep p hp q h1
theorem St.hideW (S : St h₀ L gi m u g h) (W : Wd mg mb h₀) (hm : (d, o) ∈ u) : Wd mg mb (h.hide d) := W.keeps fun b x e => by
  refine (Heap.hide_ne h fun q => ?_).trans (S.fr.keep b x e)
  have := (S.un _ hm).2.2; rw [← q, e] at this; cases this
end

theorem eqs {x y : Str} : (x.cps.toList == y.cps.toList) = decide (x = y) := by
  by_cases h : x = y
  · subst h; simp
  · have : x.cps ≠ y.cps := fun e => h (by cases x; cases y; simp only at e; rw [e])
    simp [h, this]

end Mine
end
section
open PySem PyProof.Rows PySem.Calls
namespace Mine

theorem led_inj {g : Lg} {h : Heap} (hl : ∀ p ∈ g, h.get? p.1 = some p.2) {a : Addr} {o o' : Obj} (m : (a, o) ∈ g) (m' : (a, o') ∈ g) : o = o' := by
  have e1 := hl _ m
  have e2 := hl _ m'
  simp only at e1 e2
  rw [e1] at e2
  exact Option.some.inj e2
mutual
theorem DL.uniq {g : Lg} {h : Heap} (hl : ∀ p ∈ g, h.get? p.1 = some p.2) : ∀ {v : Value} {d d' : PyData}, DL g v d → DL g v d' → d = d'
  | _, _, _, .none, h' => by cases h'; rfl
  | _, _, _, .bool b, h' => by cases h'; rfl
  | _, _, _, .int i t, h' => by cases h'; rfl
  | _, _, _, .str x t, h' => by cases h'; rfl
  | _, _, _, .list m r, h' => by
    cases h' with
    | list m' r' =>
      have e := led_inj hl m m'
      simp only [Obj.mk.injEq, Data.seq.injEq] at e
      obtain ⟨_, _, ⟨e, _⟩, _⟩ := e
      have e := List.toArray_inj e
      subst e
      rw [DLs.uniq hl r r']
    | tuple m' r' =>
      have e := led_inj hl m m'
      simp at e
  | _, _, _, .tuple m r, h' => by
    cases h' with
    | tuple m' r' =>
      have e := led_inj hl m m'
      simp only [Obj.mk.injEq, Data.seq.injEq] at e
      obtain ⟨_, _, ⟨e, _⟩, _⟩ := e
      have e := List.toArray_inj e
      subst e
      rw [DLs.uniq hl r r']
    | list m' r' =>
      have e := led_inj hl m m'
      simp at e
theorem DLs.uniq {g : Lg} {h : Heap} (hl : ∀ p ∈ g, h.get? p.1 = some p.2) : ∀ {vs : List Value} {ds ds' : List PyData}, DLs g vs ds → DLs g vs ds' → ds = ds'
  | _, _, _, .nil, h' => by cases h'; rfl
  | _, _, _, .cons a r, h' => by
    cases h' with
    | cons a' r' => rw [DL.uniq hl a a', DLs.uniq hl r r']
end

section
variable {h₀ h h' : Heap} {L : Addr} {gi : Lg} {m m' : Str → Option Value} {u g : Lg}
theorem St.move (S : St h₀ L gi m u g h) (hn : h'.Ns L m') (hk : ∀ b o, b ≠ L → h.get? b = some o → h'.get? b = some o) : St h₀ L gi m' u g h' :=
  ⟨⟨hn, fun b o e => hk b o (Nat.ne_of_lt (Nat.lt_of_lt_of_le (Heap.lt_size e) S.fr.above)) (S.fr.keep b o e), S.fr.above⟩, fun p hp => ⟨hk _ _ (S.un p hp).2.1 (S.un p hp).1, (S.un p hp).2⟩,
    fun p hp => ⟨hk _ _ (S.led p hp).2 (S.led p hp).1, (S.led p hp).2⟩, S.sep, S.nd, S.prov⟩
/-- a thing that was not there before stands now -/
theorem St.add {a : Addr} {o : Obj} (S : St h₀ L gi m u g h) (ha : h.get? a = none) (S' : St h₀ L gi m' u g h') (ho : h'.get? a = some o) : St h₀ L gi m' u ((a, o) :: g) h' := by
  refine ⟨S'.fr, S'.un, fun p hp => ?_, fun p hp q hq => ?_, S'.nd, fun p hp => ?_⟩
  · rcases List.mem_cons.mp hp with rfl | hp
    · exact ⟨ho, S.neL ha⟩
    · exact S'.led p hp
  · rcases List.mem_cons.mp hp with rfl | hp
    · intro e
      have e' : a = q.1 := e
      rw [e', (S.un q hq).1] at ha; cases ha
    · exact S'.sep p hp q hq
  · rcases List.mem_cons.mp hp with rfl | hp
    · exact .inr (S.fresh ha)
    · exact S'.prov p hp
end

section
variable {prog : Program} {w : World} {A : Around} {E : Value → Shared → Prop} {s : Shared} {h₀ : Heap} {L a : Addr} {gi : Lg} {m : Str → Option Value} {u g : Lg} {cn : Str} {cs : Scope} {cd : Value} {cl : List (Str × Addr)}

/-- cells of the frame -/
theorem nmC' {Q : Value → Shared → Prop} {x : Str} {pos : Pos} {v : Value} {c : Addr} {o : Obj} (S : St h₀ L gi m u g s.heap) (hc : cl.lookup x = some c) (hm : (c, o) ∈ u) (hd : o.data = .cell (some v)) (h : Q v s)
    (hk : cs.kind = .function := by rfl) (hx : (eX cn cs L a cd cl).kindOf x = some .cell := by rfl) (hdb : (x == ("__debug__" : Str)) = false := by decide) :
    wpAny (model prog w) A (eval (.Name x pos) (eX cn cs L a cd cl)) Q E s := wpAny_Name (wpAny_loadName_cell hk hx hc ⟨_, (S.un _ hm).1, hd⟩ h) hdb
theorem stC' {Q : Unit → Shared → Prop} {x : Str} {v : Value} {c : Addr} {o : Obj} {v₀ : Option Value} {U : Obj → Lg} (S : St h₀ L gi m u g s.heap) (hc : cl.lookup x = some c) (R : ∀ o', Rep c o o' u (U o')) (hd : o.data = .cell v₀)
    (h : ∀ h' o', St h₀ L gi m (U o') g h' → o'.data = .cell (some v) → Q () { s with heap := h' })
    (hk : cs.kind = .function := by rfl) (hx : (eX cn cs L a cd cl).kindOf x = some .cell := by rfl) : wpAny (model prog w) A (storeName (eX cn cs L a cd cl) x v) Q E s :=
  wpAny_storeName_cell hk hx hc ⟨_, (S.un _ (R o).mem).1, hd⟩ fun h' hv hs => by
    obtain ⟨o', ho', hd'⟩ := hv
    exact h h' o' (S.set (R o') hs ho') hd'

/-- a list comprehension with one source, set down in a local name -/
theorem compA {Q : Flow → Shared → Prop} {x y : Str} {elt iter : Expr} {px py : Pos} {ifs : List Expr} {scope : Scope} {ccl : List (Str × Addr)} {pos spos : Pos} {lv : Value} {ds : List PyData} (q : PyData → Bool) (f : PyData → PyData)
    (hh : A.handled = none) (S : St h₀ L gi m u g s.heap) (D : DL g lv (.list ds)) (hz : ds.length ≤ 1000)
    (hit : ∀ Q' : Value → Shared → Prop, Q' lv s → wpAny (model prog w) A (eval iter (eX cn cs L a cd cl)) Q' E s)
    (hclos : closureFor scope (eX cn cs L a cd cl) = pure ccl)
    (tests : ∀ C v d s₃ m₃ (E' : Value → Shared → Prop), d ∈ ds → DL g v d → s₃.heap.Ns C m₃ → m₃ x = some v → Ext s.heap s₃.heap →
      wpAny (model prog w) A (forIn ifs true fun c r => if r = true then do let ok ← PySem.isTrue c (compEnvC scope ccl C (eX cn cs L a cd cl)) (eval c (compEnvC scope ccl C (eX cn cs L a cd cl))); pure (ForInStep.yield ok) else pure (ForInStep.yield r))
        (fun ok s₄ => ok = q d ∧ Keeps s₃ s₄) E' s₃)
    (elts : ∀ C v d s₃ m₃ (E' : Value → Shared → Prop), d ∈ ds → DL g v d → s₃.heap.Ns C m₃ → m₃ x = some v → Ext s.heap s₃.heap →
      wpAny (model prog w) A (eval elt (compEnvC scope ccl C (eX cn cs L a cd cl))) (fun y s₄ => DL g y (f d) ∧ Keeps s₃ s₄) E' s₃)
    (h : ∀ h' tk b o, St h₀ L gi (upd m y (.ref b)) u ((b, o) :: g) h' → DL ((b, o) :: g) (.ref b) (.list ((ds.filter q).map f)) → Q .next { s with heap := h', toks := tk })
    (hsw : swapsWith (.ListComp elt [⟨.Name x px, iter, ifs, 0⟩] scope pos) (some (.Name y py)) spos.line (eX cn cs L a cd cl) = pure true := by rfl)
    (hcell : ∀ z ∈ scope.names, z.2 ≠ .cell := by decide) (hkind : scope.kind = .function := by rfl)
    (hnames : ∀ z ∈ scope.names, z.2 = .local → scope.names.lookup z.1 = some .local := by decide) (hx : scope.names.lookup x = some .local := by rfl)
    (hy : (eX cn cs L a cd cl).kindOf y = some .local := by rfl) (hp : cs.kind = .function := by rfl)
    (hs : ∀ x, foldedSetIterable iter (eX cn cs L a cd cl) x = pure x := by intro _; rfl) :
    wpAny (model prog w) A (exec (.Assign [.Name y py] (.ListComp elt [⟨.Name x px, iter, ifs, 0⟩] scope pos) spos) (eX cn cs L a cd cl)) Q E s := by
  cases D with
  | @list l n vs _ hl hD =>
    have hlen := hD.length
    have hL : s.heap.IsList l vs.toArray := ⟨_, (S.led _ hl).1, rfl, _, rfl⟩
    have hne : l ≠ s.heap.objs.size := Nat.ne_of_lt (Heap.lt_size (S.led _ hl).1)
    let p : Value → Bool := fun v => @decide (∃ d, DL g v d ∧ q d = true) (Classical.propDecidable _)
    have hp' : ∀ {v d}, DL g v d → p v = q d := by
      intro v d hd
      cases hq : q d with
      | true => exact @decide_eq_true _ (Classical.propDecidable _) ⟨d, hd, hq⟩
      | false =>
        refine @decide_eq_false _ (Classical.propDecidable _) ?_
        rintro ⟨d', hd', hq'⟩
        rw [DL.uniq S.at hd hd', hq'] at hq
        cases hq
    have old : ∀ b o, s.heap.get? b = some o → b ∉ [s.heap.objs.size] := fun b o e hb => Nat.lt_irrefl _ ((List.mem_singleton.mp hb) ▸ Heap.lt_size e)
    refine wpAny_Assign_ListComp_free p (fun v y => ∃ d, DL g v d ∧ DL g y (f d)) hsw hclos hcell hkind hnames hx hy (by show (cs.kind == .class || (cs.kind == .module && L != mainGlobals)) = false; rw [hp]; rfl)
      (hit _ (wpAny_pyIter_list hL ⟨_, _, _, _, _, _, m, rfl, Walks.list hh s.heap.objs.size l hne vs.toArray, ?_, ⟨⟨_, Heap.get?_push_size _ rfl, rfl, rfl⟩, hL.push _⟩, ?_, ?_, ?_, ?_, ?_⟩)) hs
    · rw [List.size_toArray]; exact Nat.le_trans (by omega : vs.length ≤ 1000) (by decide)
    · intro b hb
      rw [Heap.size_push]
      rcases List.mem_cons.mp hb with rfl | hb
      · exact Nat.lt_succ_self _
      · rw [List.mem_singleton.mp hb]; exact Nat.lt_succ_of_lt (Heap.lt_size (S.led _ hl).1)
    · intro hb
      exact absurd S.fr.ns.lt ((List.mem_singleton.mp hb) ▸ Nat.lt_irrefl _)
    · exact S.fr.ns.push _
    · refine ⟨fun C i v s₃ m₃ E' _ hv hn hm hk _ => ?_, fun C i v s₃ m₃ E' _ hv _ hn hm hk _ => ?_⟩
      · obtain ⟨d, hd, hDv⟩ := hD.getV (by simpa using hv)
        refine wpAny_mono (tests C v d s₃ m₃ E' (List.mem_of_getElem? hd) hDv hn hm fun b o e => hk b o (old b o e) (Heap.get?_push_of_some _ e)) (fun ok s₄ h₄ => ⟨h₄.1.trans (hp' hDv).symm, h₄.2⟩) fun _ _ e => e
      · obtain ⟨d, hd, hDv⟩ := hD.getV (by simpa using hv)
        exact wpAny_mono (elts C v d s₃ m₃ E' (List.mem_of_getElem? hd) hDv hn hm fun b o e => hk b o (old b o e) (Heap.get?_push_of_some _ e)) (fun y s₄ h₄ => ⟨⟨d, hDv, h₄.1⟩, h₄.2⟩) fun _ _ e => e
    · intro b h' tk ys us hb _ hpl hul hus hF hn hk
      obtain ⟨n', hpl⟩ := hpl
      have hb' : s.heap.get? b = none := by
        cases e : s.heap.get? b with
        | none => rfl
        | some o => rw [Heap.get?_push_of_some _ e] at hb; cases hb
      have S' := S.move hn fun c o hc e => hk c o hc (old c o e) (Heap.get?_push_of_some _ e)
      have e1 : us = vs := by
        apply List.ext_getElem?
        intro j
        cases hj : us[j]? with
        | none => have := List.getElem?_eq_none_iff.mp hj; rw [List.size_toArray] at hul; exact (List.getElem?_eq_none_iff.mpr (by omega)).symm
        | some v => have := hus j v hj; simpa using this.symm
      subst e1
      have key : ∀ {us : List Value} {ds : List PyData}, DLs g us ds → ∀ {ys : List Value}, Paired (fun v y => ∃ d, DL g v d ∧ DL g y (f d)) (us.filter p) ys → DLs g ys ((ds.filter q).map f) := by
        intro us
        induction us with
        | nil => intro ds hd ys hp; cases hd; cases hp; exact .nil
        | cons v us ih =>
          intro ds hd ys hp
          cases hd with
          | @cons _ _ d ds hd hr =>
            cases hq : q d with
            | true =>
              rw [List.filter_cons, if_pos ((hp' hd).trans hq)] at hp
              cases hp with
              | cons hF hp =>
                obtain ⟨d', hd', hy⟩ := hF
                rw [← DL.uniq S.at hd hd'] at hy
                rw [List.filter_cons, if_pos hq]
                exact .cons hy (ih hr hp)
            | false =>
              rw [List.filter_cons, if_neg (by rw [hp' hd, hq]; decide)] at hp
              rw [List.filter_cons, if_neg (by rw [hq]; decide)]
              exact ih hr hp
      have hDy := key hD hF
      refine h h' tk b (lstO ys.toList n') (S.add hb' S' ?_) (.list (n := n') (.head _) (hDy.mono fun _ hp => .tail _ hp))
      rw [hpl]
end

/-- entering a def with cells -/
theorem enterC {prog : Program} {w : World} {A : Around} {E : Value → Shared → Prop} {s : Shared} {i : Nat} {a : Addr} {o : Obj} {pm code doc : Value} {args : List Value} {binds : List (Str × Value)} {g : Lg} {n : Nat} {Q : Value → Shared → Prop}
    (hA : OkA A (n + 1)) (fn : FnAt i s.heap a o pm code doc) (hlim : s.heap.NoLimit) (hg : ∀ p ∈ g, s.heap.get? p.1 = some p.2)
    (hbind : bindArgs (docF i pm code doc) ⟨args, []⟩ = pure binds)
    (h : ∀ L h₁ tk cells, St s.heap L g (bindL (eX (fdAt i).name (fdAt i).scope L a code (cellsFrom (L + 1) (fdAt i).scope.names [])).kindOf binds fun _ => none) cells g h₁ →
      CellsAre (bindC (eX (fdAt i).name (fdAt i).scope L a code (cellsFrom (L + 1) (fdAt i).scope.names [])).kindOf binds fun _ => none) (cellsFrom (L + 1) (fdAt i).scope.names []) cells →
      OkA (A.deeper (eX (fdAt i).name (fdAt i).scope L a code (cellsFrom (L + 1) (fdAt i).scope.names []))) n →
      wpAny (model prog w) (A.deeper (eX (fdAt i).name (fdAt i).scope L a code (cellsFrom (L + 1) (fdAt i).scope.names []))) (execs (fdAt i).body (eX (fdAt i).name (fdAt i).scope L a code (cellsFrom (L + 1) (fdAt i).scope.names [])))
        (fun fl s' => Q (match fl with | .ret v => v | _ => .none) s') (fun _ _ => False) { s with heap := h₁, toks := tk })
    (hkind : ∀ x ∈ binds, (fdAt i).scope.names.lookup x.1 = some .local ∨ ((fdAt i).scope.names.lookup x.1 = some .cell ∧ ((cellsFrom (s.heap.objs.size + 1) (fdAt i).scope.names []).lookup x.1).isSome = true))
    (hnd : ((cellsFrom 0 (fdAt i).scope.names []).map (·.1)).Nodup := by decide)
    (hco : (fdAt i).scope.isCoroutine = false := by rfl) (hgen : (fdAt i).scope.isGenerator = false := by rfl) (hkd : (fdAt i).scope.kind = .function := by rfl) :
    wpAny (model prog w) A (call (.ref a) args) Q E s := by
  refine wpAny_call (call_cells_ret (by have := hA.dp; omega) fn.at_ fn.d hlim fn.c hbind hkind (fun h₁ tk F₁ X => ?_) hco hgen hkd)
  obtain ⟨cells, N, Y⟩ := Cl.news (h₀ := s.heap) (Nat.le_refl _) fun n c hm => ⟨X.cell n c (lookup_of_mem_nodup (cellsFrom_names (fdAt i).scope.names 0 (s.heap.objs.size + 1) [] [] rfl ▸ hnd) hm), X.above n c hm⟩
  have hcn : ∀ {cm : Str → Option Value} {cs : List (Str × Addr)} {cells : List (Addr × Obj)}, CellsAre cm cs cells → cells.map (·.1) = cs.map (·.2) := by
    intro cm cs cells Y
    induction Y with
    | nil => rfl
    | cons _ _ ih => simp [ih]
  refine h s.heap.objs.size h₁ tk cells ⟨F₁, N, fun p hp => ⟨F₁.keep _ _ (hg p hp), Nat.ne_of_lt (Heap.lt_size (hg p hp))⟩, fun p hp q hq e => ?_, ?_, fun p hp => .inl hp⟩ Y hA.deeper
  · have := (N q hq).2.2; rw [← e, hg p hp] at this; cases this
  · rw [hcn Y]
    exact List.pairwise_map.mpr X.apart
end Mine
end
section
open PySem PyProof.Rows PySem.Calls
namespace Mine
section
variable {prog : Program} {w : World} {A : Around} {E : Value → Shared → Prop} {s : Shared} {g : Lg} {ds : List PyData}
theorem sbTh {Q : Value → Shared → Prop} {value slice : Expr} {ov : Value} {i : Nat} {t : Tok} {d : PyData} (hl : ∀ p ∈ g, s.heap.get? p.1 = some p.2) (D : DL g ov (.tuple ds)) (hi : ds[i]? = some d) (hz : ds.length ≤ 1000) (h : ∀ x, DL g x d → Q x s)
    (hs : ∀ l, subscripted slice false (.ref l) (.int i t) = operate [.ref l, .int i t] (getItem (.ref l) (.int i t)) := by intro l; with_unfolding_all rfl) :
    wpAny (model prog w) A (subscriptTail value slice ov (.int i t)) Q E s := by
  cases D with
  | @tuple a n vs _ hm hD =>
    obtain ⟨x, hx, hD'⟩ := hD.get hi
    have hlt : i < vs.length := (List.getElem?_eq_some_iff.mp hx).1
    have hlen := hD.length
    exact item_tupleT ⟨_, hl _ hm, rfl, _, rfl⟩ (by omega) (by omega) (by simp [seqIndex?]; omega) hx (h x hD') (hs a)
theorem test1 {c : Expr} {env : Env} {P : Bool → Shared → Prop} (h : wpAny (model prog w) A (PySem.isTrue c env (eval c env)) P E s) :
    wpAny (model prog w) A (forIn [c] true fun c r => if r = true then do let ok ← PySem.isTrue c env (eval c env); pure (ForInStep.yield ok) else pure (ForInStep.yield r)) P E s := by
  rw [List.forIn_cons]
  refine wpAny_bind ?_
  simp only [if_true]
  exact wpAny_bind (wpAny_mono h (fun ok s' h' => wpAny_pure (by dsimp only; rw [List.forIn_nil]; exact wpAny_pure h')) fun _ _ e => e)
theorem test0 {env : Env} {P : Bool → Shared → Prop} (h : P true s) :
    wpAny (model prog w) A (forIn ([] : List Expr) true fun c r => if r = true then do let ok ← PySem.isTrue c env (eval c env); pure (ForInStep.yield ok) else pure (ForInStep.yield r)) P E s := by
  rw [List.forIn_nil]; exact wpAny_pure h
theorem keeps_toks (s : Shared) (n : Nat) : Keeps s { s with toks := n } := ⟨s.heap, n, rfl, fun _ _ e => e⟩
theorem keeps_self (s : Shared) : Keeps s s := ⟨s.heap, s.toks, rfl, fun _ _ e => e⟩
theorem cvL {Q : Value → Shared → Prop} {env : Env} {scope : Scope} {ccl : List (Str × Addr)} {C : Addr} {x : Str} {pos : Pos} {v : Value} {m : Str → Option Value} (hn : s.heap.Ns C m) (hm : m x = some v) (h : Q v s)
    (hk : scope.kind = .function := by rfl) (hx : scope.names.lookup x = some .local := by rfl) (hd : (x == ("__debug__" : Str)) = false := by decide) :
    wpAny (model prog w) A (eval (.Name x pos) (compEnvC scope ccl C env)) Q E s :=
  wpAny_Name (wpAny_loadName_local (env := compEnvC scope ccl C env) hk (lookup_relabel_local hx) hn hm h) hd
theorem cvC {Q : Value → Shared → Prop} {env : Env} {scope : Scope} {ccl : List (Str × Addr)} {C : Addr} {x : Str} {pos : Pos} {v : Value} {c : Addr} {o : Obj} (hc : ccl.lookup x = some c) (ho : s.heap.get? c = some o) (hd : o.data = .cell (some v)) (h : Q v s)
    (hx : (compEnvC scope ccl C env).kindOf x = some .cell := by rfl) (hk : scope.kind = .function := by rfl) (hdb : (x == ("__debug__" : Str)) = false := by decide) :
    wpAny (model prog w) A (eval (.Name x pos) (compEnvC scope ccl C env)) Q E s :=
  wpAny_Name (wpAny_loadName_cell (env := compEnvC scope ccl C env) hk hx hc ⟨_, ho, hd⟩ h) hdb
theorem cmpEq {Q : Value → Shared → Prop} {h₀ : Heap} {L : Addr} {gi : Lg} {m : Str → Option Value} {u : Lg} {a b : Value} {da db : PyData} {n : Nat} (hA : OkA A n) (S : St h₀ L gi m u g s.heap) (Da : DL g a da) (Db : DL g b db) (ha : PySem.SeqAt.shaped da = true) (hb : PySem.SeqAt.shaped db = true)
    (h : Q (.bool (PyData.eqv da db)) s) : wpAny (model prog w) A (compareOp .Eq a b) Q E s := by
  obtain ⟨_, ra⟩ := Da.reads S.at
  obtain ⟨_, rb⟩ := Db.reads S.at
  exact PySem.SeqAt.compareEq_shaped ra rb ha hb (by have := hA.un; omega) h
theorem cmpNe {Q : Value → Shared → Prop} {h₀ : Heap} {L : Addr} {gi : Lg} {m : Str → Option Value} {u : Lg} {a b : Value} {da db : PyData} {n : Nat} (hA : OkA A n) (S : St h₀ L gi m u g s.heap) (Da : DL g a da) (Db : DL g b db) (ha : PySem.SeqAt.shaped da = true) (hb : PySem.SeqAt.shaped db = true)
    (h : Q (.bool (!PyData.eqv da db)) s) : wpAny (model prog w) A (compareOp .NotEq a b) Q E s := by
  obtain ⟨_, ra⟩ := Da.reads S.at
  obtain ⟨_, rb⟩ := Db.reads S.at
  exact PySem.SeqAt.compareNe_shaped ra rb ha hb (by have := hA.un; omega) h
end

def OkPs (ps : Ps) : Prop := ∀ p ∈ ps, PyData.strOk p.1 = true
theorem lay_pairs {ps : Ps} (h : OkPs ps) : PyData.canLayAll0 (ps.map pairD) = true := by
  induction ps with
  | nil => simp [PyData.canLayAll0]
  | cons p r ih =>
    have h1 := h p (.head _)
    have h2 := ih fun q hq => h q (.tail _ hq)
    simp [PyData.canLayAll0, pairD, PyData.canLay0, h1] at h2 ⊢
    exact h2
theorem depth_pairs (ps : Ps) : PyData.depthAll (ps.map pairD) ≤ 3 := by
  induction ps with
  | nil => simp [PyData.depthAll]
  | cons p r ih => simp [PyData.depthAll, pairD, PyData.depth] at ih ⊢; omega
theorem shaped_pairs {ps : Ps} (h : OkPs ps) : PySem.SeqAt.shaped (.list (ps.map pairD)) = true := by
  have := depth_pairs ps
  simp [PySem.SeqAt.shaped, PyData.canLay0, lay_pairs h, PyData.depth]; omega
theorem eqv_nil (xs : List PyData) : PyData.eqv (.list xs) (.list []) = xs.isEmpty := by cases xs <;> simp [PyData.eqv, PyData.eqvAll]
section
variable {prog : Program} {w : World} {A : Around} {E : Value → Shared → Prop} {s : Shared} {mg mb : Str → Option Value} {a : Addr} {g : Lg} {pv : Value} {k : Str} {t : Tok} {Q : Value → Shared → Prop} {ps : Ps}

def mget (ps : Ps) (k : Str) : PyData × Ps := match ps.filter fun p => decide (p.1 = k) with
  | [] => (.none, drop ps k)
  | p :: r => (.int p.2, drop ps k ++ p :: r)

theorem filter_pairs (ps : Ps) (q : PyData → Bool) (q' : Str × Int → Bool) (h : ∀ p, q (pairD p) = q' p) : ((ps.map pairD).filter q).map id = (ps.filter q').map pairD := by
  rw [List.map_id, List.filter_map]
  congr 1
  exact List.filter_congr fun p _ => h p

def isKey (k : Str) : PyData → Bool
  | .tuple (.str x :: _) => decide (x = k)
  | _ => false

theorem isKey_pair (k : Str) (p : Str × Int) : isKey k (pairD p) = decide (p.1 = k) := rfl
theorem isKey_filter (ps : Ps) (k : Str) : (((ps.map pairD).filter (isKey k)).map id) = (ps.filter fun p => decide (p.1 = k)).map pairD := filter_pairs ps _ _ fun p => rfl
theorem notKey_filter (ps : Ps) (k : Str) : (((ps.map pairD).filter (fun d => !isKey k d)).map id) = (drop ps k).map pairD := filter_pairs ps _ _ fun p => by simp [isKey_pair]

set_option maxHeartbeats 1000000 in
theorem plain_get_spec (hA : OkA A 1) (W : Wd mg mb s.heap) (ha : mg (fdAt 4).name = some (.ref a)) (hg : ∀ p ∈ g, s.heap.get? p.1 = some p.2) (D : DL g pv (.list (ps.map pairD))) (hlen : ps.length ≤ 100) (hkk : PyData.strOk k = true)
    (hk : ∀ r g' h' tk, Ext s.heap h' → (∀ p ∈ g', h'.get? p.1 = some p.2) → (∀ p ∈ g', p ∈ g ∨ s.heap.get? p.1 = none) → DL g' r (.tuple [.list ((mget ps k).2.map pairD), (mget ps k).1]) → Q r { s with heap := h', toks := tk }) :
    wpAny (model prog w) A (call (.ref a) [pv, .str k t]) Q E s := by
  obtain ⟨of, pm, cd, dc, fn⟩ := fn_of W (i := 4) (by decide) ha
  refine enterC (i := 4) (n := 0) (g := g) (binds := [("pairs", pv), ("key", .str k t)]) hA fn W.nolimit hg rfl ?_ ?_
  · intro L h₁ tk cells S Y hA'
    obtain ⟨oc, rfl, hoc⟩ := CellsAre.one (n := "key") (c := L + 1) Y
    conv in (fdAt 4).body => whnf
    have hoc' : oc.data = .cell (some (.str k t)) := hoc
    refine wpAny_execs_cons (compA (isKey k) id hA'.hd S D (by simp; omega) (fun Q' hq => nmL S rfl hq) rfl (fun C v d s₃ m₃ E' hd hv hn hm hx => ?_) (fun C v d s₃ m₃ E' hd hv hn hm hx => ?_) fun h₂ tk₂ b₂ o₂ S₂ D₂ => ?_)
    · obtain ⟨p, hp, rfl⟩ := List.mem_map.mp hd
      refine test1 (wpAny_isTrue_Compare1 (Subscript_ (cvL hn hm (wpAny_Constant_int (sbTh (i := 0) (fun p hp => hx _ _ (S.at p hp)) hv rfl (by simp) fun x hx' => ?_)))))
      cases hx'
      refine cvC rfl (hx _ _ (S.un _ (.head _)).1) hoc' (PySem.P.eq_str (wpAny_truthy_bool ⟨?_, keeps_toks _ _⟩))
      rw [eqs]; rfl
    · exact cvL hn hm ⟨hv, keeps_self _⟩
    rw [isKey_filter] at D₂
    dsimp only
    have D' := D.mono (g' := (b₂, o₂) :: g) fun _ hp => .tail _ hp
    refine wpAny_execs_cons (compA (fun d => !isKey k d) id hA'.hd S₂ D' (by simp; omega) (fun Q' hq => nmL S₂ rfl hq) rfl (fun C v d s₃ m₃ E' hd hv hn hm hx => ?_) (fun C v d s₃ m₃ E' hd hv hn hm hx => ?_) fun h₃ tk₃ b₃ o₃ S₃ D₃ => ?_)
    · obtain ⟨p, hp, rfl⟩ := List.mem_map.mp hd
      refine test1 (wpAny_isTrue_Compare1 (Subscript_ (cvL hn hm (wpAny_Constant_int (sbTh (i := 0) (fun p hp => hx _ _ (S₂.at p hp)) hv rfl (by simp) fun x hx' => ?_)))))
      cases hx'
      refine cvC rfl (hx _ _ (S₂.un _ (.head _)).1) hoc' (PySem.P.ne_str (wpAny_truthy_bool ⟨?_, keeps_toks _ _⟩))
      rw [bne, eqs]; rfl
    · exact cvL hn hm ⟨hv, keeps_self _⟩
    rw [notKey_filter] at D₃
    dsimp only
    have D₂' := D₂.mono (g' := (b₃, o₃) :: (b₂, o₂) :: g) fun _ hp => .tail _ hp
    refine wpAny_execs_cons (wpAny_If (wpAny_isTrue_Compare1 (nmL S₃ rfl (List_ (wpAny_items_nil (mkLst S₃ (Nat.zero_le _) fun h₄ a₄ S₄ => ?_))))))
    have D₂'' := D₂'.mono (g' := (a₄, lstO [] 0) :: (b₃, o₃) :: (b₂, o₂) :: g) fun _ hp => .tail _ hp
    have D₃' := D₃.mono (g' := (a₄, lstO [] 0) :: (b₃, o₃) :: (b₂, o₂) :: g) fun _ hp => .tail _ hp
    refine cmpEq hA' S₄ D₂'' (.list (.head _) .nil) (shaped_pairs fun p hp => ?_) (by rfl) (wpAny_truthy_bool ?_)
    · have := (List.mem_filter.mp hp).2
      rw [of_decide_eq_true this]; exact hkk
    rw [eqv_nil, List.isEmpty_map]
    have hl1 : (ps.filter fun p => decide (p.1 = k)).length ≤ ps.length := List.length_filter_le _ _
    have hl2 := drop_length_le ps k
    cases hf : ps.filter fun p => decide (p.1 = k) with
    | nil =>
      simp only [mget, hf] at hk
      refine wpAny_execs_cons (wpAny_Return_some (Tuple_ (wpAny_items_cons (nmL S₄ rfl (wpAny_items_cons (wpAny_Constant_none (wpAny_items_nil (mkTup S₄ (by simp) fun h₅ a₅ S₅ => ?_))))))))
      exact hk _ _ _ _ S₅.fr.keep S₅.at S₅.prov (.tuple (.head _) (.cons (D₃'.mono fun _ hp => .tail _ hp) (.cons .none .nil)))
    | cons p r =>
      simp only [mget, hf] at hk
      rw [hf] at D₂'' hl1
      refine wpAny_execs_nil ?_
      dsimp only
      refine wpAny_execs_cons (wpAny_Return_some (Tuple_ (wpAny_items_cons (wpAny_BinOp (nmL S₄ rfl (nmL S₄ rfl (addL S₄ D₃' D₂'' (by simp at hl1 ⊢; omega) fun h₅ x₅ o₅ S₅ D₅ => ?_)))))))
      refine wpAny_items_cons (Subscript_ (Subscript_ (nmL S₅ rfl (wpAny_Constant_int (sbL (i := 0) S₅ (D₂''.mono fun _ hp => .tail _ hp) rfl (by simp at hl1 ⊢; omega) fun y hy => wpAny_Constant_int (sbT (i := 1) S₅ hy rfl (by simp) fun z hz => ?_))))))
      refine wpAny_items_nil (mkTup S₅ (by simp) fun h₆ a₆ S₆ => ?_)
      refine hk _ _ _ _ S₆.fr.keep S₆.at S₆.prov (.tuple (.head _) (.cons ?_ (.cons (hz.mono fun _ hp => .tail _ hp) .nil)))
      rw [List.map_append]
      exact D₅.mono fun _ hp => .tail _ hp
  · intro x hx
    simp only [List.mem_cons, List.not_mem_nil, or_false] at hx
    rcases hx with rfl | rfl
    · exact .inl rfl
    · exact .inr ⟨rfl, rfl⟩
end
end Mine
end
section
open PySem PyProof.Rows PySem.Calls
namespace Mine

section
variable {prog : Program} {w : World} {A : Around} {E : Value → Shared → Prop} {s : Shared} {h₀ : Heap} {L d : Addr} {gi : Lg} {m : Str → Option Value} {u g : Lg} {o : Obj} {kvs : List (Str × Value)} {ps : Ps} {ds : List PyData}

/-- a method of a built-in type, called with nothing -/
theorem callM0 {env : Env} {ob : Expr} {name : Str} {apos pos : Pos} {Q : Value → Shared → Prop} (T id : String)
    (pa : PlainAttrs T) (slot : Slot T name id) (ty : typeOf (.builtin id) = pure (.type "method_descriptor"))
    (h : wpAny (model prog w) A (eval ob env) (fun ov s₁ => s₁.TypeIs ov T ∧ (∀ a, ov = .ref a → ∃ ob, s₁.heap.get? a = some ob ∧ ob.dict = none) ∧
      wpAny (model prog w) A (call (.builtin id) [ov]) Q E s₁) E s)
    (hbase : attributeBase ob name env (eval ob env) = eval ob env := by rfl)
    (hline : (apos.endLine == pos.line) = true := by rfl) :
    wpAny (model prog w) A (eval (.Call (.Attribute ob name apos) [] [] pos) env) Q E s := by
  refine wpAny_Call_method_late hbase (by rfl) hline rfl (wpAny_mono h (fun ov s₁ h₁ => ?_) fun _ _ x => x)
  obtain ⟨hT, hd, hc⟩ := h₁
  exact ⟨T, id, pa, slot, ty, hT, hd, callWith_builtin (by rfl) (evalArgs_nil3 hc)⟩

abbrev itvO (d : Addr) : Obj := { cls := .type "dict_items", data := .fields #[.ref d] }
abbrev kyvO (d : Addr) : Obj := { cls := .type "dict_keys", data := .fields #[.ref d] }
theorem dItems {Q : Value → Shared → Prop} (S : St h₀ L gi m u g s.heap) (hm : (d, o) ∈ u) (Ho : o.IsDictOf (strKind prog w) kvs) (lo : (d == sysModules) = false)
    (h : ∀ h' a, St h₀ L gi m u ((a, itvO d) :: g) h' → Q (.ref a) { s with heap := h' }) : wpAny (model prog w) A (call (.builtin "dict.items") [.ref d]) Q E s :=
  have hD := S.dict hm Ho
  call_meetsIn PySem.F.slot_dict_items hD.typeIs PySem.F.entry_dict_items (PySem.F.args_dict_items_1 _) (meets_dict_items (strKind prog w) d lo) ⟨⟨kvs, hD⟩, h _ _ (S.pushG _)⟩
theorem dKeys {Q : Value → Shared → Prop} (S : St h₀ L gi m u g s.heap) (hm : (d, o) ∈ u) (Ho : o.IsDictOf (strKind prog w) kvs) (lo : (d == sysModules) = false)
    (h : ∀ h' a, St h₀ L gi m u ((a, kyvO d) :: g) h' → Q (.ref a) { s with heap := h' }) : wpAny (model prog w) A (call (.builtin "dict.keys") [.ref d]) Q E s :=
  have hD := S.dict hm Ho
  call_meetsIn PySem.F.slot_dict_keys hD.typeIs PySem.F.entry_dict_keys (PySem.F.args_dict_keys_1 _) (PySem.W.kdl_meets_keys (strKind prog w) d lo) ⟨⟨kvs, hD⟩, h _ _ (S.pushG _)⟩

theorem pairs_led {h : Heap} {lo : Addr} {kvs : List (Str × Value)} {ps : Ps} (K : KV kvs ps) : ∀ (as : List Addr), as.length = kvs.length → (∀ a ∈ as, lo < a) →
    (∀ (j : Nat) (a : Addr), as[j]? = some a → ∃ key k x, kvs[j]? = some (k, x) ∧ (strKind prog w).is k key = true ∧ h.get? a = some { cls := .type "tuple", data := .seq #[key, x] }) →
    ∃ gg : Lg, (∀ p ∈ gg, h.get? p.1 = some p.2 ∧ lo < p.1) ∧ DLs gg (as.map Value.ref) (ps.map pairD) := by
  induction K with
  | nil => intro as hl _ _; cases as with | nil => exact ⟨[], (fun _ h => nomatch h), .nil⟩ | cons _ _ => cases hl
  | @cons k n t kvs ps K ih =>
    intro as hl hlo hp
    cases as with
    | nil => cases hl
    | cons a as =>
      obtain ⟨gg, h1, h2⟩ := ih as (by simpa using hl) (fun b hb => hlo b (.tail _ hb)) fun j b hj => by simpa using hp (j + 1) b (by simpa using hj)
      obtain ⟨key, k', x, e1, e2, e3⟩ := hp 0 a rfl
      simp only [List.getElem?_cons_zero, Option.some.injEq, Prod.mk.injEq] at e1
      obtain ⟨rfl, rfl⟩ := e1
      obtain ⟨tk, rfl⟩ := strKind_inv e2
      refine ⟨(a, tupO [.str k tk, .int n t] 0) :: gg, fun p hp => ?_, .cons (.tuple (.head _) (.cons (.str _ _) (.cons (.int _ _) .nil))) (h2.mono fun _ hp => .tail _ hp)⟩
      rcases List.mem_cons.mp hp with rfl | hp
      · exact ⟨e3, hlo a (.head _)⟩
      · exact h1 p hp

theorem lItems {Q : Value → Shared → Prop} {v : Addr} (hh : A.handled = none) (S : St h₀ L gi m u g s.heap) (hv : (v, itvO d) ∈ g) (hm : (d, o) ∈ u) (Ho : o.IsDictOf (strKind prog w) kvs) (K : KV kvs ps) (hz : kvs.length ≤ 1000)
    (h : ∀ h' tk a gg, St h₀ L gi m u (gg ++ g) h' → DL (gg ++ g) (.ref a) (.list (ps.map pairD)) → Q (.ref a) { s with heap := h', toks := tk }) : wpAny (model prog w) A (call (.type "list") [.ref v]) Q E s := by
  obtain ⟨ep, hD⟩ := (S.dictH hm Ho).dictAt
  refine PySem.W.kdx_call (knd := strKind prog w) (kvs := kvs) (ep := ep) hh ⟨_, (S.led _ hv).1, rfl, rfl⟩ hD (Nat.le_trans hz (by decide)) fun h' tk acc c as hk hS hl hG hacc => ?_
  obtain ⟨gg, h1, h2⟩ := pairs_led K as hl hG.above hG.pairs
  have ea : acc = (as.map Value.ref).toArray := by rw [← hacc, Array.toArray_toList]
  refine h h' tk s.heap.objs.size ((s.heap.objs.size, lstO (as.map Value.ref) c) :: gg) (S.back hk (fun p hp => ?_) fun p hp => ?_) (.list (.head _) (h2.mono fun p hp => .tail _ (List.mem_append_left _ hp)))
  · rcases List.mem_cons.mp hp with rfl | hp
    · rw [hS, ea]
    · exact (h1 p hp).1
  · rcases List.mem_cons.mp hp with rfl | hp
    · exact .inr (size_none _)
    · exact .inr (Heap.get?_none_of_le (Nat.le_of_lt (h1 p hp).2))

theorem lKeys {Q : Value → Shared → Prop} {v : Addr} (hh : A.handled = none) (S : St h₀ L gi m u g s.heap) (hv : (v, kyvO d) ∈ g) (hm : (d, o) ∈ u) (Ho : o.IsDictOf (strKind prog w) kvs) (hz : kvs.length ≤ 1000)
    (h : ∀ h' tk a o, St h₀ L gi m u ((a, o) :: g) h' → DL ((a, o) :: g) (.ref a) (.list (kvs.map fun p => .str p.1)) → Q (.ref a) { s with heap := h', toks := tk }) : wpAny (model prog w) A (call (.type "list") [.ref v]) Q E s := by
  obtain ⟨ep, hD⟩ := (S.dictH hm Ho).dictAt
  refine PySem.W.kdl_call (PySem.W.kdl_keys (knd := strKind prog w) (kvs := kvs) (ep := ep) (r := v) (d := d)) hh ⟨⟨_, (S.led _ hv).1, rfl, rfl⟩, hD⟩ (Nat.le_trans hz (by decide)) fun h' tk acc c hk hS hI => ?_
  have hb := S.back (g' := [(s.heap.objs.size, lstO acc.toList c)]) hk (fun p hp => by rw [List.mem_singleton.mp hp, hS]) (fun p hp => by rw [List.mem_singleton.mp hp]; exact .inr (size_none _))
  refine h h' tk s.heap.objs.size _ hb (.list (.head _) ?_)
  obtain ⟨hn, hP⟩ := hI
  have key : ∀ (vs : List Value) (kvs : List (Str × Value)), vs.length = kvs.length → (∀ (i : Nat) v, vs[i]? = some v → ∃ k x, kvs[i]? = some (k, x) ∧ (strKind prog w).is k v = true) → ∀ g, DLs g vs (kvs.map fun p => .str p.1) := by
    intro vs
    induction vs with
    | nil => intro kvs hl _ g; cases kvs with | nil => exact .nil | cons _ _ => cases hl
    | cons v vs ih =>
      intro kvs hl hp g
      cases kvs with
      | nil => cases hl
      | cons p kvs =>
        obtain ⟨k, x, e1, e2⟩ := hp 0 v rfl
        simp only [List.getElem?_cons_zero, Option.some.injEq] at e1
        subst e1
        obtain ⟨tk, rfl⟩ := strKind_inv e2
        exact .cons (.str _ _) (ih kvs (by simpa using hl) (fun i w hi => by simpa using hp (i + 1) w (by simpa using hi)) g)
  exact key _ _ (by simpa using hn) (fun i v hi => hP i v (by simpa using hi)) _

def SlEnd (Q : Value → Shared → Prop) (ov vl vu : Value) (s : Shared) : Prop :=
  ∃ l items lo hi, ov = .ref l ∧ s.heap.IsList l items ∧ items.size ≤ sizeLine ∧ IsPart vl lo ∧ IsPart vu hi ∧
        Q (.ref (s.heap.objs.size + 1)) { s with heap := (s.heap.push { cls := .type "slice", data := .fields #[vl, vu, .none] }).push { cls := .type "list", data := .seq (slicePick items lo hi none) } }
theorem slE {Q : Value → Shared → Prop} {env : Env} {value : Expr} {lower upper : Option Expr} {p pos : Pos}
    (h : wpAny (model prog w) A (eval value env) (fun o s₁ => wpAny (model prog w) A (evalPart lower env) (fun vl s₂ => wpAny (model prog w) A (evalPart upper env) (fun vu s₃ => SlEnd Q o vl vu s₃) E s₂) E s₁) E s)
    (ht : ∀ o r, letTemporaryGo value o r = pure () := by intro _ _; rfl) :
    wpAny (model prog w) A (eval (.Subscript value (.Slice lower upper none p) pos) env) Q E s := wpAny_Subscript_list_slice h ht
/-- the end of a list's slice -/
theorem slK {Q : Value → Shared → Prop} {ov vl vu : Value} {lo hi : Option Int} {es : List PyData} (S : St h₀ L gi m u g s.heap) (D : DL g ov (.list ds)) (hz : ds.length ≤ 1000) (pl : IsPart vl lo) (pu : IsPart vu hi)
    (he : ∀ vs : List Value, DLs g vs ds → ∃ ws : List Value, slicePick vs.toArray lo hi none = ws.toArray ∧ DLs g ws es)
    (h : ∀ h' x, ∀ gg, St h₀ L gi m u (gg ++ g) h' → DL (gg ++ g) (.ref x) (.list es) → Q (.ref x) { s with heap := h' }) :
    SlEnd Q ov vl vu s := by
  cases D with
  | @list l n vs _ hl hD =>
    have hlen := hD.length
    obtain ⟨ws, e1, e2⟩ := he vs hD
    refine ⟨l, vs.toArray, lo, hi, rfl, ⟨_, (S.led _ hl).1, rfl, _, rfl⟩, by rw [List.size_toArray]; exact Nat.le_trans (by omega : vs.length ≤ 1000) (by decide), pl, pu, ?_⟩
    have S' := (S.pushG { cls := .type "slice", data := .fields #[vl, vu, .none] }).pushG (lstO ws 0)
    rw [Heap.size_push] at S'
    rw [e1]
    exact h _ _ [(s.heap.objs.size + 1, lstO ws 0), _] S' (.list (.head _) (e2.mono fun _ hp => .tail _ (.tail _ hp)))
theorem DLs.drop {g : Lg} : ∀ {vs : List Value} {ds : List PyData}, DLs g vs ds → ∀ k, DLs g (vs.drop k) (ds.drop k)
  | _, _, h, 0 => h
  | _, _, .nil, _ + 1 => .nil
  | _, _, .cons _ h, k + 1 => h.drop k
theorem DLs.take {g : Lg} : ∀ {vs : List Value} {ds : List PyData}, DLs g vs ds → ∀ k, DLs g (vs.take k) (ds.take k)
  | _, _, _, 0 => .nil
  | _, _, .nil, _ + 1 => .nil
  | _, _, .cons a h, k + 1 => .cons a (h.take k)
theorem pick_from {ds : List PyData} (a : Nat) (ha : a ≤ ds.length) (vs : List Value) (hD : DLs g vs ds) : ∃ ws : List Value, slicePick vs.toArray (some (a : Int)) none none = ws.toArray ∧ DLs g ws (ds.drop a) :=
  ⟨vs.drop a, by rw [slicePick_from _ _ (by rw [List.size_toArray, hD.length]; exact ha)], hD.drop a⟩
theorem pick_upto {ds : List PyData} (a : Nat) (ha : a ≤ ds.length) (vs : List Value) (hD : DLs g vs ds) : ∃ ws : List Value, slicePick vs.toArray none (some (a : Int)) none = ws.toArray ∧ DLs g ws (ds.take a) :=
  ⟨vs.take a, by rw [slicePick_upto _ _ (by rw [List.size_toArray, hD.length]; exact ha)], hD.take a⟩
end
end Mine
end
section
open PySem PyProof.Rows PySem.Calls
namespace Mine
section
variable {prog : Program} {w : World} {A : Around} {E : Value → Shared → Prop} {s : Shared} {mg mb : Str → Option Value} {a d : Addr} {o : Obj} {k : Str} {t t' : Tok} {kvs : List (Str × Value)} {Q : Value → Shared → Prop} {v : Value} {cap : Int}

theorem cache_put_spec (hA : OkA A 1) (W : Wd mg mb (s.heap.hide d)) (ha : mg (fdAt 2).name = some (.ref a)) (hd : s.heap.get? d = some o) (Ho : o.IsDictOf (strKind prog w) kvs) (lo : (d == sysModules) = false) (hsz : kvs.length ≤ 1000)
    (hint : ∀ x, valueAt kvs k = some x → ∃ n t, x = .int n t) (hcap : 1 ≤ cap)
    (hk : ∀ o' h' tk t₁, Turned s.heap h' d o' → o'.IsDictOf (strKind prog w) (putRes kvs k v cap).2 → Q (.str (putRes kvs k v cap).1 t₁) { s with heap := h', toks := tk }) :
    wpAny (model prog w) A (call (.ref a) [.ref d, .str k t, v, .int cap t']) Q E s := by
  have hz : ∀ n : Nat, n ≤ 1000 → n ≤ sizeLine := fun n h => Nat.le_trans h (by decide)
  have hzw : ∀ k, (without kvs k).length ≤ sizeLine := fun k => hz _ (Nat.le_trans (List.length_filter_le _ _) hsz)
  obtain ⟨of, pm, cd, dc, fn⟩ := fn_of W (i := 2) (by decide) ha
  refine enterP (i := 2) (n := 0) (binds := [("cache", .ref d), ("key", .str k t), ("value", v), ("capacity", .int cap t')]) (hb := s.heap.hide d) (u := [(d, o)]) (g := []) hA (fn.up (ext_hide _ _)) (W.nolimit.keeps (ext_hide _ _)) (ext_hide _ _) (Nat.le_of_eq (Heap.hide_size _ _))
    (fun p hp => by rw [List.mem_singleton.mp hp]; exact ⟨hd, Heap.hide_self _ _⟩) (fun _ h => nomatch h) (fun _ h => nomatch h) (by simp) rfl ?_
  intro L h₁ tk S hA'
  conv in (fdAt 2).body => whnf
  refine wpAny_execs_cons (wpAny_Assign_Name (wpAny_Constant_str (stL S fun h₂ S₂ => ?_)))
  refine wpAny_execs_cons (wpAny_If (wpAny_isTrue_Compare1 (nmL S₂ rfl (nmL S₂ rfl (dIn S₂ (.head _) Ho lo (wpAny_truthy_bool ?_))))))
  have fin : ∀ (m : Str → Option Value) (kv' : List (Str × Value)) (h₃ : Heap) (tk₃ : Nat) (o₃ : Obj) (g₃ : Lg) (x : Str) (tx : Tok), St (s.heap.hide d) L [] m [(d, o₃)] g₃ h₃ → o₃.IsDictOf (strKind prog w) kv' → kv'.length ≤ sizeLine → m "cache" = some (.ref d) → m "key" = some (.str k t) → m "value" = some v → m "dropped" = some (.str x tx) →
      x = (putRes kvs k v cap).1 → stored kv' k v = (putRes kvs k v cap).2 →
      wpAny (model prog w) (A.deeper (eX (fdAt 2).name (fdAt 2).scope L a cd [])) (execs ((fdAt 2).body.drop 2) (eX (fdAt 2).name (fdAt 2).scope L a cd []))
        (fun fl s' => Q (match fl with | .ret v => v | _ => .none) s') (fun _ _ => False) { s with heap := h₃, toks := tk₃ } := by
    intro m kv' h₃ tk₃ o₃ g₃ x tx S₃ Ho₃ hl m1 m2 m3 m4 e1 e2
    conv in (List.drop 2 (fdAt 2).body) => whnf
    refine wpAny_execs_cons (wpAny_Assign_Subscript (nmL S₃ m3 (nmL S₃ m1 (nmL S₃ m2 (dSet (U := fun o' => [(d, o')]) S₃ (fun o' => .head) Ho₃ hl fun h₄ o₄ S₄ Ho₄ => ?_)))))
    refine wpAny_execs_cons (wpAny_Return_some (nmL S₄ m4 ?_))
    subst e1
    exact hk o₄ _ _ _ (turned_of S₄) (e2 ▸ Ho₄)
  cases hv : valueAt kvs k with
  | some x =>
    obtain ⟨n, tn, rfl⟩ := hint x hv
    refine wpAny_execs_cons (wpAny_Expr (callM "dict" "dict.pop" PySem.F.plainAttrs_dict PySem.F.slot_dict_pop PySem.F.type_dict_pop
      (nmL S₂ rfl ⟨(S₂.dict (.head _) Ho).typeIs, (S₂.dict (.head _) Ho).mapOf.noDict, wpAny_items_cons (nmL S₂ rfl (wpAny_items_nil (dPop (U := fun o' => [(d, o')]) S₂ (fun o' => .head) Ho (hz _ hsz) hv fun h₃ o₃ S₃ Ho₃ => ?_)))⟩)))
    refine wpAny_execs_nil ?_
    exact fin _ _ _ _ _ _ _ _ S₃ Ho₃ (hzw _) rfl rfl rfl rfl (by simp [putRes, hv]) (by simp [putRes, hv])
  | none =>
    have lem : (valueAt kvs k).isSome = false := by rw [hv]; rfl
    refine wpAny_execs_cons (wpAny_If (wpAny_isTrue_Compare1 (callB "len" (nmB S₂ W (W.free _ (by decide)) rfl ⟨rfl, wpAny_items_cons (nmL S₂ rfl (wpAny_items_nil (dLen S₂ (.head _) Ho lo hsz (nmL S₂ rfl (PyProof.Rows.ge_int (wpAny_truthy_bool ?_))))))⟩))))
    by_cases hc : (kvs.length : Int) ≥ cap
    · rw [decide_eq_true hc]
      obtain ⟨⟨k0, v0⟩, r, rfl⟩ : ∃ p r, kvs = p :: r := by
        cases kvs with
        | nil => simp at hc; omega
        | cons p r => exact ⟨p, r, rfl⟩
      refine wpAny_execs_cons (wpAny_Assign_Name (Subscript_ (callT "list" (nmB S₂ W (W.free _ (by decide)) rfl ⟨rfl, wpAny_items_cons (callM0 "dict" "dict.keys" PySem.F.plainAttrs_dict PySem.F.slot_dict_keys PySem.F.type_dict_keys
        (nmL S₂ rfl ⟨(S₂.dict (.head _) Ho).typeIs, (S₂.dict (.head _) Ho).mapOf.noDict, dKeys S₂ (.head _) Ho lo fun h₃ v₃ S₃ => wpAny_items_nil (lKeys hA'.hd S₃ (.head _) (.head _) Ho hsz fun h₄ tk₄ a₄ o₄ S₄ D₄ =>
          wpAny_Constant_int (sbL (i := 0) S₄ D₄ rfl (by simpa using hsz) fun x hx => ?_))⟩))⟩))))
      cases hx
      refine stL S₄ fun h₇ S₇ => ?_
      refine wpAny_execs_cons (wpAny_Delete (wpAny_deleteEach_cons (wpAny_delete_Subscript (nmL S₇ rfl (nmL S₇ rfl (dDel (U := fun o' => [(d, o')]) S₇ (fun o' => .head) Ho (hz _ hsz) (by simp [valueAt]) fun h₈ o₈ S₈ Ho₈ => wpAny_deleteEach_nil ?_))))))
      refine wpAny_execs_nil ?_
      dsimp only
      refine wpAny_execs_nil ?_
      dsimp only
      refine fin _ _ _ _ _ _ _ _ S₈ Ho₈ (hzw _) rfl rfl rfl rfl ?_ ?_
      · simp only [putRes, lem, Bool.false_eq_true, if_false, if_pos hc]
      · simp only [putRes, lem, Bool.false_eq_true, if_false, if_pos hc]
    · rw [decide_eq_false hc]
      refine wpAny_execs_nil ?_
      dsimp only
      refine wpAny_execs_nil ?_
      dsimp only
      exact fin _ _ _ _ _ _ _ _ S₂ Ho (hz _ hsz) rfl rfl rfl rfl (by simp only [putRes, lem, Bool.false_eq_true, if_false, if_neg hc]) (by simp only [putRes, lem, Bool.false_eq_true, if_false, if_neg hc])
end
end Mine
end
section
open PySem PyProof.Rows PySem.Calls
namespace Mine
section
variable {prog : Program} {w : World} {A : Around} {E : Value → Shared → Prop} {s : Shared} {mg mb : Str → Option Value} {a : Addr} {g : Lg} {ov : Value} {cap : Int} {t : Tok} {Q : Value → Shared → Prop} {ops : List Op}

theorem play_cache_fast_spec (hA : OkA A 2) (W : Wd mg mb s.heap) (ha : mg (fdAt 7).name = some (.ref a)) (hg : ∀ p ∈ g, s.heap.get? p.1 = some p.2) (D : DL g ov (.list (ops.map Op.d))) (hlen : ops.length ≤ 100) (hcap : 1 ≤ cap)
    (hk : ∀ r g' h' tk, Ext s.heap h' → (∀ p ∈ g', h'.get? p.1 = some p.2) → (∀ p ∈ g', p ∈ g ∨ s.heap.get? p.1 = none) → DL g' r (.tuple [.list (play cap [] ops).1, .list ((play cap [] ops).2.map pairD)]) → Q r { s with heap := h', toks := tk }) :
    wpAny (model prog w) A (call (.ref a) [ov, .int cap t]) Q E s := by
  obtain ⟨of, pm, cd, dc, fn⟩ := fn_of W (i := 7) (by decide) ha
  refine enterP (i := 7) (n := 1) (hb := s.heap) (u := []) (g := g) (binds := [("ops", ov), ("capacity", .int cap t)]) hA fn W.nolimit (Ext.refl _) (Nat.le_refl _)
    (fun _ h => nomatch h) hg (fun _ _ _ h => nomatch h) (by simp) rfl ?_
  intro L h₁ tk S hA'
  conv in (fdAt 7).body => whnf
  refine wpAny_execs_cons (wpAny_Assign_Name (wpAny_Dict_empty ?_))
  have S₁ := S.pushU { cls := .type "dict", data := .dict #[] }
  generalize hd : h₁.objs.size = d at S₁
  have Hd : Obj.IsDictOf (strKind prog w) { cls := .type "dict", data := .dict #[] } [] := by
    obtain ⟨o', ho', r⟩ := Heap.dictOf_iff.mp (Heap.DictOf.new (knd := strKind prog w) h₁)
    rw [Heap.get?_push_size _ rfl] at ho'
    cases ho'; exact r
  have lo : (d == sysModules) = false := hd ▸ S.fr.notModules (modules_low W.nolimit)
  refine stL S₁ fun h₂ S₂ => ?_
  refine wpAny_execs_cons (wpAny_Assign_Name (List_ (wpAny_items_nil (mkLstU S₂ (Nat.zero_le _) fun h₃ lg S₃ => stL S₃ fun h₄ S₄ => ?_))))
  refine wpAny_execs_cons (wpAny_For (nmL S₄ rfl (forL
    (fun i m u g' => ∃ vs n o kvs, u = [(lg, lstO vs n), (d, o)] ∧ m "cache" = some (.ref d) ∧ m "gave" = some (.ref lg) ∧ m "capacity" = some (.int cap t) ∧ (∀ g, DLs g vs (play cap [] (ops.take i)).1) ∧
      o.IsDictOf (strKind prog w) kvs ∧ KV kvs (play cap [] (ops.take i)).2)
    hA'.hd S₄ D ⟨[], 0, _, [], rfl, rfl, rfl, rfl, fun _ => .nil, Hd, .nil⟩ (lets_name _ _) ?_ ?_)))
  · rintro i d' v m u g' h tk₁ I io hd' hv hsub ⟨vs, n, o, kvs, rfl, m1, m2, m3, hvs, Ho, hKV⟩ S₅
    have hi : i < ops.length := by have := (List.getElem?_eq_some_iff.mp hd').1; simpa using this
    have hop : d' = (ops[i]).d := by simp [List.getElem?_map, List.getElem?_eq_getElem hi] at hd'; exact hd'.symm
    have htk : ops.take (i + 1) = ops.take i ++ [ops[i]] := by rw [List.take_add_one, List.getElem?_eq_getElem hi]; rfl
    have hl1 := play_length cap [] (ops.take i)
    have hl2 := hKV.length
    have hl3 := (hvs []).length
    have hl4 : (ops.take i).length ≤ 100 := by rw [List.length_take]; omega
    have hkz : kvs.length ≤ 1000 := by simp at hl1; omega
    have hvz : vs.length ≤ 1000 := by omega
    refine wpAny_assign_Name (stL S₅ fun h₆ S₆ => ?_)
    subst hop
    have hv' := hv.mono hsub
    cases hO : ops[i] with
    | get k =>
      rw [hO] at hv' htk
      refine wpAny_execs_cons (wpAny_If (wpAny_isTrue_Compare1 (Subscript_ (nmL S₆ upd_eq (wpAny_Constant_int (sbT (i := 0) S₆ hv' rfl (by simp) fun x hx => ?_))))))
      cases hx
      refine wpAny_Constant_str (PySem.P.eq_str (wpAny_truthy_bool ?_))
      rw [eqs, decide_eq_true rfl]
      obtain ⟨ag, og, pmg, cdg, dcg, eg, fg⟩ := W.fn 1 (by decide)
      refine wpAny_execs_cons (wpAny_Expr (callM "list" "list.append" PySem.F.plainAttrs_list PySem.F.slot_list_append PySem.F.type_list_append (nmL S₆ (upd_ne (by decide) m2) ⟨⟨_, (S₆.un _ (.tail _ (.head _))).1, rfl⟩, fun b e => by cases e; exact ⟨_, (S₆.un _ (.tail _ (.head _))).1, rfl⟩,
        wpAny_items_cons (callU (o := og) (fd := docF 1 pmg cdg dcg) (nmG S₆ W eg ⟨rfl, wpAny_items_cons (nmL S₆ (upd_ne (by decide) m1) (wpAny_items_cons (Subscript_ (nmL S₆ upd_eq (wpAny_Constant_int (sbT (i := 1) S₆ hv' rfl (by simp) fun y hy => ?_))))))⟩))⟩)))
      cases hy
      refine wpAny_items_nil ⟨⟨S₆.fr.keep _ _ fg.at_, fg.d⟩, ?_⟩
      refine cache_get_spec hA' (S₆.hideW W (.tail _ (.tail _ (.head _)))) eg (S₆.un _ (.tail _ (.tail _ (.head _)))).1 Ho lo hkz (fun v hv b e => ?_) fun o' h₇ tk₇ T Ho' => ?_
      · rcases hKV.look k with ⟨_, h2⟩ | ⟨n, t, _, h2⟩ <;> rw [h2] at hv <;> cases hv
        cases e
      have S₇ := S₆.turn (.tail (.tail .head)) T
      have hG := hKV.get k
      refine wpAny_items_nil (lApp (U := fun n' => [(I, io), (lg, lstO (vs ++ [_]) n'), (d, o')]) S₇ (fun n' => .tail .head) hvz fun h₈ n₈ S₈ => ?_)
      refine wpAny_execs_nil (wpAny_execs_nil (TurnEnd.next ⟨hsub, _, n₈, o', _, rfl, upd_ne (by decide) m1, upd_ne (by decide) m2, upd_ne (by decide) m3, fun g => ?_, Ho', ?_⟩ S₈))
      · rw [htk, play_snoc]; exact (hvs g).append (.cons (hG.2 g) .nil)
      · rw [htk, play_snoc]; exact hG.1
    | put k v0 =>
      rw [hO] at hv' htk
      refine wpAny_execs_cons (wpAny_If (wpAny_isTrue_Compare1 (Subscript_ (nmL S₆ upd_eq (wpAny_Constant_int (sbT (i := 0) S₆ hv' rfl (by simp) fun x hx => ?_))))))
      cases hx
      refine wpAny_Constant_str (PySem.P.eq_str (wpAny_truthy_bool ?_))
      rw [eqs, decide_eq_false (by decide)]
      obtain ⟨ag, og, pmg, cdg, dcg, eg, fg⟩ := W.fn 3 (by decide)
      refine wpAny_execs_cons (wpAny_Expr (callM "list" "list.append" PySem.F.plainAttrs_list PySem.F.slot_list_append PySem.F.type_list_append (nmL S₆ (upd_ne (by decide) m2) ⟨⟨_, (S₆.un _ (.tail _ (.head _))).1, rfl⟩, fun b e => by cases e; exact ⟨_, (S₆.un _ (.tail _ (.head _))).1, rfl⟩,
        wpAny_items_cons (callU (o := og) (fd := docF 3 pmg cdg dcg) (nmG S₆ W eg ⟨rfl, wpAny_items_cons (nmL S₆ (upd_ne (by decide) m1) (wpAny_items_cons (Subscript_ (nmL S₆ upd_eq (wpAny_Constant_int (sbT (i := 1) S₆ hv' rfl (by simp) fun y hy => ?_))))))⟩))⟩)))
      cases hy
      refine wpAny_items_cons (Subscript_ (nmL S₆ upd_eq (wpAny_Constant_int (sbT (i := 2) S₆ hv' rfl (by simp) fun z hz => ?_))))
      cases hz
      refine wpAny_items_cons (nmL S₆ (upd_ne (by decide) m3) (wpAny_items_nil ⟨⟨S₆.fr.keep _ _ fg.at_, fg.d⟩, ?_⟩))
      refine cache_put_fast_spec hA' (S₆.hideW W (.tail _ (.tail _ (.head _)))) eg (S₆.un _ (.tail _ (.tail _ (.head _)))).1 Ho lo hkz (fun v hv => ?_) hcap fun o' h₇ tk₇ t₇ T Ho' => ?_
      · rcases hKV.look k with ⟨_, h2⟩ | ⟨n, t, _, h2⟩ <;> rw [h2] at hv <;> cases hv
        exact ⟨_, _, rfl⟩
      have S₇ := S₆.turn (.tail (.tail .head)) T
      refine wpAny_items_nil (lApp (U := fun n' => [(I, io), (lg, lstO (vs ++ [_]) n'), (d, o')]) S₇ (fun n' => .tail .head) hvz fun h₈ n₈ S₈ => ?_)
      refine wpAny_execs_nil (wpAny_execs_nil (TurnEnd.next ⟨hsub, _, n₈, o', _, rfl, upd_ne (by decide) m1, upd_ne (by decide) m2, upd_ne (by decide) m3, fun g => ?_, Ho', ?_⟩ S₈))
      · rw [htk, play_snoc]
        refine (hvs g).append (.cons ?_ .nil)
        rw [(hKV.put k v0 _ cap).1]
        exact .str _ _
      · rw [htk, play_snoc]; exact (hKV.put k v0 _ cap).2
  · rintro m u g' h tk₁ hsub ⟨vs, n, o, kvs, rfl, m1, m2, m3, hvs, Ho, hKV⟩ S₅
    have hl1 := play_length cap [] (ops.take (ops.map Op.d).length)
    have hl2 := hKV.length
    have htk : ops.take (ops.map Op.d).length = ops := by rw [List.length_map, List.take_length]
    rw [htk] at hvs hKV hl1 hl2
    have hkz : kvs.length ≤ 1000 := by simp at hl1; omega
    refine wpAny_execs_cons (wpAny_Return_some (Tuple_ (wpAny_items_cons (nmL S₅ m2 (wpAny_items_cons (callT "list" (nmB S₅ W (W.free _ (by decide)) rfl ⟨rfl, wpAny_items_cons (callM0 "dict" "dict.items" PySem.F.plainAttrs_dict PySem.F.slot_dict_items PySem.F.type_dict_items
      (nmL S₅ m1 ⟨(S₅.dict (.tail _ (.head _)) Ho).typeIs, (S₅.dict (.tail _ (.head _)) Ho).mapOf.noDict, dItems S₅ (.tail _ (.head _)) Ho lo fun h₆ v₆ S₆ => wpAny_items_nil (lItems hA'.hd S₆ (.head _) (.tail _ (.head _)) Ho hKV hkz fun h₇ tk₇ a₇ g₇ S₇ D₇ => ?_)⟩))⟩)))))))
    have S₈ := S₇.freeze
    refine wpAny_items_nil (mkTup S₈ (by simp) fun h₉ a₉ S₉ => ?_)
    exact hk _ _ _ _ S₉.fr.keep S₉.at S₉.prov (.tuple (.head _) (.cons (.list (n := n) (.tail _ (.head _)) (hvs _)) (.cons (D₇.mono fun _ hp => .tail _ (.tail _ hp)) .nil)))
theorem play_cache_spec (hA : OkA A 2) (W : Wd mg mb s.heap) (ha : mg (fdAt 6).name = some (.ref a)) (hg : ∀ p ∈ g, s.heap.get? p.1 = some p.2) (D : DL g ov (.list (ops.map Op.d))) (hlen : ops.length ≤ 100) (hcap : 1 ≤ cap)
    (hk : ∀ r g' h' tk, Ext s.heap h' → (∀ p ∈ g', h'.get? p.1 = some p.2) → (∀ p ∈ g', p ∈ g ∨ s.heap.get? p.1 = none) → DL g' r (.tuple [.list (play cap [] ops).1, .list ((play cap [] ops).2.map pairD)]) → Q r { s with heap := h', toks := tk }) :
    wpAny (model prog w) A (call (.ref a) [ov, .int cap t]) Q E s := by
  obtain ⟨of, pm, cd, dc, fn⟩ := fn_of W (i := 6) (by decide) ha
  refine enterP (i := 6) (n := 1) (hb := s.heap) (u := []) (g := g) (binds := [("ops", ov), ("capacity", .int cap t)]) hA fn W.nolimit (Ext.refl _) (Nat.le_refl _)
    (fun _ h => nomatch h) hg (fun _ _ _ h => nomatch h) (by simp) rfl ?_
  intro L h₁ tk S hA'
  conv in (fdAt 6).body => whnf
  refine wpAny_execs_cons (wpAny_Assign_Name (wpAny_Dict_empty ?_))
  have S₁ := S.pushU { cls := .type "dict", data := .dict #[] }
  generalize hd : h₁.objs.size = d at S₁
  have Hd : Obj.IsDictOf (strKind prog w) { cls := .type "dict", data := .dict #[] } [] := by
    obtain ⟨o', ho', r⟩ := Heap.dictOf_iff.mp (Heap.DictOf.new (knd := strKind prog w) h₁)
    rw [Heap.get?_push_size _ rfl] at ho'
    cases ho'; exact r
  have lo : (d == sysModules) = false := hd ▸ S.fr.notModules (modules_low W.nolimit)
  refine stL S₁ fun h₂ S₂ => ?_
  refine wpAny_execs_cons (wpAny_Assign_Name (List_ (wpAny_items_nil (mkLstU S₂ (Nat.zero_le _) fun h₃ lg S₃ => stL S₃ fun h₄ S₄ => ?_))))
  refine wpAny_execs_cons (wpAny_For (nmL S₄ rfl (forL
    (fun i m u g' => ∃ vs n o kvs, u = [(lg, lstO vs n), (d, o)] ∧ m "cache" = some (.ref d) ∧ m "gave" = some (.ref lg) ∧ m "capacity" = some (.int cap t) ∧ (∀ g, DLs g vs (play cap [] (ops.take i)).1) ∧
      o.IsDictOf (strKind prog w) kvs ∧ KV kvs (play cap [] (ops.take i)).2)
    hA'.hd S₄ D ⟨[], 0, _, [], rfl, rfl, rfl, rfl, fun _ => .nil, Hd, .nil⟩ (lets_name _ _) ?_ ?_)))
  · rintro i d' v m u g' h tk₁ I io hd' hv hsub ⟨vs, n, o, kvs, rfl, m1, m2, m3, hvs, Ho, hKV⟩ S₅
    have hi : i < ops.length := by have := (List.getElem?_eq_some_iff.mp hd').1; simpa using this
    have hop : d' = (ops[i]).d := by simp [List.getElem?_map, List.getElem?_eq_getElem hi] at hd'; exact hd'.symm
    have htk : ops.take (i + 1) = ops.take i ++ [ops[i]] := by rw [List.take_add_one, List.getElem?_eq_getElem hi]; rfl
    have hl1 := play_length cap [] (ops.take i)
    have hl2 := hKV.length
    have hl3 := (hvs []).length
    have hl4 : (ops.take i).length ≤ 100 := by rw [List.length_take]; omega
    have hkz : kvs.length ≤ 1000 := by simp at hl1; omega
    have hvz : vs.length ≤ 1000 := by omega
    refine wpAny_assign_Name (stL S₅ fun h₆ S₆ => ?_)
    subst hop
    have hv' := hv.mono hsub
    cases hO : ops[i] with
    | get k =>
      rw [hO] at hv' htk
      refine wpAny_execs_cons (wpAny_If (wpAny_isTrue_Compare1 (Subscript_ (nmL S₆ upd_eq (wpAny_Constant_int (sbT (i := 0) S₆ hv' rfl (by simp) fun x hx => ?_))))))
      cases hx
      refine wpAny_Constant_str (PySem.P.eq_str (wpAny_truthy_bool ?_))
      rw [eqs, decide_eq_true rfl]
      obtain ⟨ag, og, pmg, cdg, dcg, eg, fg⟩ := W.fn 1 (by decide)
      refine wpAny_execs_cons (wpAny_Expr (callM "list" "list.append" PySem.F.plainAttrs_list PySem.F.slot_list_append PySem.F.type_list_append (nmL S₆ (upd_ne (by decide) m2) ⟨⟨_, (S₆.un _ (.tail _ (.head _))).1, rfl⟩, fun b e => by cases e; exact ⟨_, (S₆.un _ (.tail _ (.head _))).1, rfl⟩,
        wpAny_items_cons (callU (o := og) (fd := docF 1 pmg cdg dcg) (nmG S₆ W eg ⟨rfl, wpAny_items_cons (nmL S₆ (upd_ne (by decide) m1) (wpAny_items_cons (Subscript_ (nmL S₆ upd_eq (wpAny_Constant_int (sbT (i := 1) S₆ hv' rfl (by simp) fun y hy => ?_))))))⟩))⟩)))
      cases hy
      refine wpAny_items_nil ⟨⟨S₆.fr.keep _ _ fg.at_, fg.d⟩, ?_⟩
      refine cache_get_spec hA' (S₆.hideW W (.tail _ (.tail _ (.head _)))) eg (S₆.un _ (.tail _ (.tail _ (.head _)))).1 Ho lo hkz (fun v hv b e => ?_) fun o' h₇ tk₇ T Ho' => ?_
      · rcases hKV.look k with ⟨_, h2⟩ | ⟨n, t, _, h2⟩ <;> rw [h2] at hv <;> cases hv
        cases e
      have S₇ := S₆.turn (.tail (.tail .head)) T
      have hG := hKV.get k
      refine wpAny_items_nil (lApp (U := fun n' => [(I, io), (lg, lstO (vs ++ [_]) n'), (d, o')]) S₇ (fun n' => .tail .head) hvz fun h₈ n₈ S₈ => ?_)
      refine wpAny_execs_nil (wpAny_execs_nil (TurnEnd.next ⟨hsub, _, n₈, o', _, rfl, upd_ne (by decide) m1, upd_ne (by decide) m2, upd_ne (by decide) m3, fun g => ?_, Ho', ?_⟩ S₈))
      · rw [htk, play_snoc]; exact (hvs g).append (.cons (hG.2 g) .nil)
      · rw [htk, play_snoc]; exact hG.1
    | put k v0 =>
      rw [hO] at hv' htk
      refine wpAny_execs_cons (wpAny_If (wpAny_isTrue_Compare1 (Subscript_ (nmL S₆ upd_eq (wpAny_Constant_int (sbT (i := 0) S₆ hv' rfl (by simp) fun x hx => ?_))))))
      cases hx
      refine wpAny_Constant_str (PySem.P.eq_str (wpAny_truthy_bool ?_))
      rw [eqs, decide_eq_false (by decide)]
      obtain ⟨ag, og, pmg, cdg, dcg, eg, fg⟩ := W.fn 2 (by decide)
      refine wpAny_execs_cons (wpAny_Expr (callM "list" "list.append" PySem.F.plainAttrs_list PySem.F.slot_list_append PySem.F.type_list_append (nmL S₆ (upd_ne (by decide) m2) ⟨⟨_, (S₆.un _ (.tail _ (.head _))).1, rfl⟩, fun b e => by cases e; exact ⟨_, (S₆.un _ (.tail _ (.head _))).1, rfl⟩,
        wpAny_items_cons (callU (o := og) (fd := docF 2 pmg cdg dcg) (nmG S₆ W eg ⟨rfl, wpAny_items_cons (nmL S₆ (upd_ne (by decide) m1) (wpAny_items_cons (Subscript_ (nmL S₆ upd_eq (wpAny_Constant_int (sbT (i := 1) S₆ hv' rfl (by simp) fun y hy => ?_))))))⟩))⟩)))
      cases hy
      refine wpAny_items_cons (Subscript_ (nmL S₆ upd_eq (wpAny_Constant_int (sbT (i := 2) S₆ hv' rfl (by simp) fun z hz => ?_))))
      cases hz
      refine wpAny_items_cons (nmL S₆ (upd_ne (by decide) m3) (wpAny_items_nil ⟨⟨S₆.fr.keep _ _ fg.at_, fg.d⟩, ?_⟩))
      refine cache_put_spec hA' (S₆.hideW W (.tail _ (.tail _ (.head _)))) eg (S₆.un _ (.tail _ (.tail _ (.head _)))).1 Ho lo hkz (fun v hv => ?_) hcap fun o' h₇ tk₇ t₇ T Ho' => ?_
      · rcases hKV.look k with ⟨_, h2⟩ | ⟨n, t, _, h2⟩ <;> rw [h2] at hv <;> cases hv
        exact ⟨_, _, rfl⟩
      have S₇ := S₆.turn (.tail (.tail .head)) T
      refine wpAny_items_nil (lApp (U := fun n' => [(I, io), (lg, lstO (vs ++ [_]) n'), (d, o')]) S₇ (fun n' => .tail .head) hvz fun h₈ n₈ S₈ => ?_)
      refine wpAny_execs_nil (wpAny_execs_nil (TurnEnd.next ⟨hsub, _, n₈, o', _, rfl, upd_ne (by decide) m1, upd_ne (by decide) m2, upd_ne (by decide) m3, fun g => ?_, Ho', ?_⟩ S₈))
      · rw [htk, play_snoc]
        refine (hvs g).append (.cons ?_ .nil)
        rw [(hKV.put k v0 _ cap).1]
        exact .str _ _
      · rw [htk, play_snoc]; exact (hKV.put k v0 _ cap).2
  · rintro m u g' h tk₁ hsub ⟨vs, n, o, kvs, rfl, m1, m2, m3, hvs, Ho, hKV⟩ S₅
    have hl1 := play_length cap [] (ops.take (ops.map Op.d).length)
    have hl2 := hKV.length
    have htk : ops.take (ops.map Op.d).length = ops := by rw [List.length_map, List.take_length]
    rw [htk] at hvs hKV hl1 hl2
    have hkz : kvs.length ≤ 1000 := by simp at hl1; omega
    refine wpAny_execs_cons (wpAny_Return_some (Tuple_ (wpAny_items_cons (nmL S₅ m2 (wpAny_items_cons (callT "list" (nmB S₅ W (W.free _ (by decide)) rfl ⟨rfl, wpAny_items_cons (callM0 "dict" "dict.items" PySem.F.plainAttrs_dict PySem.F.slot_dict_items PySem.F.type_dict_items
      (nmL S₅ m1 ⟨(S₅.dict (.tail _ (.head _)) Ho).typeIs, (S₅.dict (.tail _ (.head _)) Ho).mapOf.noDict, dItems S₅ (.tail _ (.head _)) Ho lo fun h₆ v₆ S₆ => wpAny_items_nil (lItems hA'.hd S₆ (.head _) (.tail _ (.head _)) Ho hKV hkz fun h₇ tk₇ a₇ g₇ S₇ D₇ => ?_)⟩))⟩)))))))
    have S₈ := S₇.freeze
    refine wpAny_items_nil (mkTup S₈ (by simp) fun h₉ a₉ S₉ => ?_)
    exact hk _ _ _ _ S₉.fr.keep S₉.at S₉.prov (.tuple (.head _) (.cons (.list (n := n) (.tail _ (.head _)) (hvs _)) (.cons (D₇.mono fun _ hp => .tail _ (.tail _ hp)) .nil)))
end
end Mine
end
section
open PySem PyProof.Rows PySem.Calls
namespace Mine
section
variable {prog : Program} {w : World} {A : Around} {E : Value → Shared → Prop} {s : Shared} {h₀ : Heap} {L : Addr} {gi : Lg} {m : Str → Option Value} {u g : Lg} {ds : List PyData} {ov : Value}
theorem lLen {Q : Value → Shared → Prop} (S : St h₀ L gi m u g s.heap) (D : DL g ov (.list ds)) (hz : ds.length ≤ 1000) (h : Q (.int ds.length (s.toks + 1)) { s with toks := s.toks + 1 + 1 }) : wpAny (model prog w) A (call (.builtin "len") [ov]) Q E s := by
  cases D with
  | @list l n vs _ hl hD =>
    have hlen := hD.length
    refine call_len_list ⟨_, (S.led _ hl).1, rfl, _, rfl⟩ (by rw [List.size_toArray]; omega) ?_
    rw [List.size_toArray, hlen]; exact h
end

section
variable {prog : Program} {w : World} {A : Around} {E : Value → Shared → Prop} {s : Shared} {mg mb : Str → Option Value} {a : Addr} {g : Lg} {pv : Value} {k : Str} {t tv tc : Tok} {Q : Value → Shared → Prop} {ps : Ps} {v cap : Int}

def mput (ps : Ps) (k : Str) (v cap : Int) : Str × Ps :=
  if ((drop ps k).length : Int) ≥ cap then match drop ps k with
    | [] => ("", [])
    | p :: r => (p.1, r ++ [(k, v)])
  else ("", drop ps k ++ [(k, v)])

set_option maxHeartbeats 1000000 in
theorem plain_put_spec (hA : OkA A 1) (W : Wd mg mb s.heap) (ha : mg (fdAt 5).name = some (.ref a)) (hg : ∀ p ∈ g, s.heap.get? p.1 = some p.2) (D : DL g pv (.list (ps.map pairD))) (hlen : ps.length ≤ 100) (hcap : 1 ≤ cap)
    (hk : ∀ r g' h' tk, Ext s.heap h' → (∀ p ∈ g', h'.get? p.1 = some p.2) → (∀ p ∈ g', p ∈ g ∨ s.heap.get? p.1 = none) → DL g' r (.tuple [.list ((mput ps k v cap).2.map pairD), .str (mput ps k v cap).1]) → Q r { s with heap := h', toks := tk }) :
    wpAny (model prog w) A (call (.ref a) [pv, .str k t, .int v tv, .int cap tc]) Q E s := by
  obtain ⟨of, pm, cd, dc, fn⟩ := fn_of W (i := 5) (by decide) ha
  refine enterC (i := 5) (n := 0) (g := g) (binds := [("pairs", pv), ("key", .str k t), ("value", .int v tv), ("capacity", .int cap tc)]) hA fn W.nolimit hg rfl ?_ ?_
  · intro L h₁ tk cells S Y hA'
    obtain ⟨oc, rfl, hoc⟩ := CellsAre.one (n := "key") (c := L + 1) Y
    conv in (fdAt 5).body => whnf
    have hoc' : oc.data = .cell (some (.str k t)) := hoc
    refine wpAny_execs_cons (compA (fun d => !isKey k d) id hA'.hd S D (by simp; omega) (fun Q' hq => nmL S rfl hq) rfl (fun C v d s₃ m₃ E' hd hv hn hm hx => ?_) (fun C v d s₃ m₃ E' hd hv hn hm hx => ?_) fun h₃ tk₃ b₃ o₃ S₃ D₃ => ?_)
    · obtain ⟨p, hp, rfl⟩ := List.mem_map.mp hd
      refine test1 (wpAny_isTrue_Compare1 (Subscript_ (cvL hn hm (wpAny_Constant_int (sbTh (i := 0) (fun p hp => hx _ _ (S.at p hp)) hv rfl (by simp) fun x hx' => ?_)))))
      cases hx'
      refine cvC rfl (hx _ _ (S.un _ (.head _)).1) hoc' (PySem.P.ne_str (wpAny_truthy_bool ⟨?_, keeps_toks _ _⟩))
      rw [bne, eqs]; rfl
    · exact cvL hn hm ⟨hv, keeps_self _⟩
    rw [notKey_filter] at D₃
    dsimp only
    have hl2 := drop_length_le ps k
    refine wpAny_execs_cons (wpAny_Assign_Name (wpAny_Constant_str (stL S₃ fun h₄ S₄ => ?_)))
    have fin : ∀ (m : Str → Option Value) (rs : Ps) (h₃ : Heap) (tk₃ : Nat) (g₃ : Lg) (x : Str) (tx : Tok) (rv : Value), St s.heap L g m [(L + 1, oc)] g₃ h₃ → DL g₃ rv (.list (rs.map pairD)) → rs.length ≤ 100 → m "rest" = some rv → m "value" = some (.int v tv) → m "dropped" = some (.str x tx) →
        x = (mput ps k v cap).1 → rs ++ [(k, v)] = (mput ps k v cap).2 →
        wpAny (model prog w) (A.deeper (eX (fdAt 5).name (fdAt 5).scope L a cd (cellsFrom (L + 1) (fdAt 5).scope.names []))) (execs ((fdAt 5).body.drop 3) (eX (fdAt 5).name (fdAt 5).scope L a cd (cellsFrom (L + 1) (fdAt 5).scope.names [])))
          (fun fl s' => Q (match fl with | .ret v => v | _ => .none) s') (fun _ _ => False) { s with heap := h₃, toks := tk₃ } := by
      intro m rs h₃ tk₃ g₃ x tx rv S₃ D₃ hl m1 m3 m4 e1 e2
      conv in (List.drop 3 (fdAt 5).body) => whnf
      refine wpAny_execs_cons (wpAny_Return_some (Tuple_ (wpAny_items_cons (wpAny_BinOp (nmL S₃ m1 (List_ (wpAny_items_cons (Tuple_ (wpAny_items_cons (nmC' S₃ rfl (.head _) hoc' (wpAny_items_cons (nmL S₃ m3 (wpAny_items_nil (mkTup S₃ (by simp) fun h₄ a₄ S₄ => ?_)))))))))))))) 
      refine wpAny_items_nil (mkLst S₄ (by simp) fun h₅ a₅ S₅ => ?_)
      have Dn : DL ((a₅, lstO [.ref a₄] 0) :: (a₄, tupO [.str k t, .int v tv] 0) :: g₃) (.ref a₅) (.list ([(k, v)].map pairD)) := .list (.head _) (.cons (.tuple (.tail _ (.head _)) (.cons (.str _ _) (.cons (.int _ _) .nil))) .nil)
      refine addL S₅ (D₃.mono fun _ hp => .tail _ (.tail _ hp)) Dn (by simp; omega) fun h₆ x₆ o₆ S₆ D₆ => ?_
      refine wpAny_items_cons (nmL S₆ m4 (wpAny_items_nil (mkTup S₆ (by simp) fun h₇ a₇ S₇ => ?_)))
      rw [← List.map_append, e2] at D₆
      refine hk _ _ _ _ S₇.fr.keep S₇.at S₇.prov (.tuple (.head _) (.cons (D₆.mono fun _ hp => .tail _ hp) (.cons ?_ .nil)))
      rw [← e1]
      exact .str _ _
    refine wpAny_execs_cons (wpAny_If (wpAny_isTrue_Compare1 (callB "len" (nmB S₄ W (W.free _ (by decide)) rfl ⟨rfl, wpAny_items_cons (nmL S₄ rfl (wpAny_items_nil (lLen S₄ D₃ (by simp; omega) (nmL S₄ rfl (PyProof.Rows.ge_int (wpAny_truthy_bool ?_))))))⟩))))
    rw [List.length_map]
    by_cases hc : ((drop ps k).length : Int) ≥ cap
    · rw [decide_eq_true hc]
      have fin' := fin
      simp only [mput, if_pos hc] at fin'
      cases hr : drop ps k with
      | nil => rw [hr] at hc; simp at hc; omega
      | cons p r =>
        rw [hr] at D₃ hl2
        simp only [hr] at fin'
        simp only [List.length_cons] at hl2
        refine wpAny_execs_cons (wpAny_Assign_Name (Subscript_ (Subscript_ (nmL S₄ rfl (wpAny_Constant_int (sbL (i := 0) S₄ D₃ rfl (by simp; omega) fun y hy => wpAny_Constant_int (sbT (i := 0) S₄ hy rfl (by simp) fun z hz => ?_)))))))
        cases hz
        refine stL S₄ fun h₅ S₅ => ?_
        refine wpAny_execs_cons (wpAny_Assign_Name (slE (nmL S₅ rfl (wpAny_evalPart_some (wpAny_Constant_int (wpAny_evalPart_none ?_))))))
        refine slK S₅ D₃ (by simp; omega) (.int _ _) .none (pick_from 1 (by simp)) fun h₆ x₆ g₆ S₆ D₆ => ?_
        refine stL S₆ fun h₇ S₇ => ?_
        refine wpAny_execs_nil ?_
        dsimp only
        refine fin' _ r _ _ _ _ _ _ S₇ ?_ (by omega) rfl rfl rfl rfl rfl
        simpa using D₆
    · rw [decide_eq_false hc]
      refine wpAny_execs_nil ?_
      dsimp only
      refine fin _ (drop ps k) _ _ _ _ _ _ S₄ D₃ (by omega) rfl rfl rfl ?_ ?_ <;> simp only [mput, if_neg hc]
  · intro x hx
    simp only [List.mem_cons, List.not_mem_nil, or_false] at hx
    rcases hx with rfl | rfl | rfl | rfl
    · exact .inl rfl
    · exact .inr ⟨rfl, rfl⟩
    · exact .inl rfl
    · exact .inl rfl
end
end Mine
end
section
open PySem PyProof.Rows PySem.Calls
namespace Mine
section
variable {prog : Program} {w : World} {A : Around} {E : Value → Shared → Prop} {s : Shared} {mg mb : Str → Option Value} {a : Addr} {g : Lg} {ov : Value} {cap : Int} {t : Tok} {Q : Value → Shared → Prop} {ops : List Op}

def mstep (cap : Int) (ps : Ps) : Op → PyData × Ps
  | .get k => mget ps k
  | .put k v => (.str (mput ps k v cap).1, (mput ps k v cap).2)
def mplay (cap : Int) : Ps → List Op → List PyData × Ps
  | ps, [] => ([], ps)
  | ps, o :: r => let q := mstep cap ps o; let z := mplay cap q.2 r; (q.1 :: z.1, z.2)
theorem mplay_snoc (cap : Int) (ps : Ps) (l : List Op) (o : Op) : mplay cap ps (l ++ [o]) = ((mplay cap ps l).1 ++ [(mstep cap (mplay cap ps l).2 o).1], (mstep cap (mplay cap ps l).2 o).2) := by
  induction l generalizing ps with
  | nil => simp [mplay]
  | cons x r ih => simp only [List.cons_append, mplay, ih]
theorem filter_both (ps : Ps) (k : Str) : (ps.filter fun p => decide (p.1 = k)).length + (drop ps k).length = ps.length := by
  induction ps with
  | nil => rfl
  | cons p r ih => by_cases e : p.1 = k <;> simp [drop, List.filter_cons, e] at ih ⊢ <;> omega
theorem mstep_length (cap : Int) (ps : Ps) (o : Op) : (mstep cap ps o).2.length ≤ ps.length + 1 := by
  cases o with
  | get k =>
    have h := filter_both ps k
    simp only [mstep, mget]
    split
    · rename_i e; rw [e] at h; simp at h ⊢; omega
    · rename_i e; rw [e] at h; simp at h ⊢; omega
  | put k v =>
    have h := drop_length_le ps k
    simp only [mstep, mput]
    split
    · split
      · simp
      · rename_i e; rw [e] at h; simp at h ⊢; omega
    · simp; omega
theorem mplay_length (cap : Int) (ps : Ps) (l : List Op) : (mplay cap ps l).1.length = l.length ∧ (mplay cap ps l).2.length ≤ ps.length + l.length := by
  induction l generalizing ps with
  | nil => simp [mplay]
  | cons x r ih =>
    have h1 := ih (mstep cap ps x).2
    have h2 := mstep_length cap ps x
    simp only [mplay, List.length_cons]
    omega
def Op.key : Op → Str
  | .get k => k
  | .put k _ => k
def OkOps (ops : List Op) : Prop := ∀ o ∈ ops, PyData.strOk o.key = true

set_option maxHeartbeats 1000000 in
theorem play_model_spec (hA : OkA A 2) (W : Wd mg mb s.heap) (ha : mg (fdAt 8).name = some (.ref a)) (hg : ∀ p ∈ g, s.heap.get? p.1 = some p.2) (D : DL g ov (.list (ops.map Op.d))) (hlen : ops.length ≤ 90) (hcap : 1 ≤ cap) (hok : OkOps ops)
    (hk : ∀ r g' h' tk, Ext s.heap h' → (∀ p ∈ g', h'.get? p.1 = some p.2) → (∀ p ∈ g', p ∈ g ∨ s.heap.get? p.1 = none) → DL g' r (.tuple [.list (mplay cap [] ops).1, .list ((mplay cap [] ops).2.map pairD)]) → Q r { s with heap := h', toks := tk }) :
    wpAny (model prog w) A (call (.ref a) [ov, .int cap t]) Q E s := by
  obtain ⟨of, pm, cd, dc, fn⟩ := fn_of W (i := 8) (by decide) ha
  refine enterP (i := 8) (n := 1) (hb := s.heap) (u := []) (g := g) (binds := [("ops", ov), ("capacity", .int cap t)]) hA fn W.nolimit (Ext.refl _) (Nat.le_refl _)
    (fun _ h => nomatch h) hg (fun _ _ _ h => nomatch h) (by simp) rfl ?_
  intro L h₁ tk S hA'
  conv in (fdAt 8).body => whnf
  refine wpAny_execs_cons (wpAny_Assign_Name (List_ (wpAny_items_nil (mkLst S (Nat.zero_le _) fun h₁ lp S₁ => stL S₁ fun h₂ S₂ => ?_))))
  refine wpAny_execs_cons (wpAny_Assign_Name (List_ (wpAny_items_nil (mkLstU S₂ (Nat.zero_le _) fun h₃ lg S₃ => stL S₃ fun h₄ S₄ => ?_))))
  have D' := D.mono (g' := (lp, lstO [] 0) :: g) fun _ hp => .tail _ hp
  refine wpAny_execs_cons (wpAny_For (nmL S₄ rfl (forL
    (fun i m u g' => ∃ vs n pv, u = [(lg, lstO vs n)] ∧ m "pairs" = some pv ∧ m "gave" = some (.ref lg) ∧ m "capacity" = some (.int cap t) ∧ DLs g' vs (mplay cap [] (ops.take i)).1 ∧
      DL g' pv (.list ((mplay cap [] (ops.take i)).2.map pairD)))
    hA'.hd S₄ D' ⟨[], 0, _, rfl, rfl, rfl, rfl, .nil, .list (.head _) .nil⟩ (lets_name _ _) ?_ ?_)))
  · rintro i d' v m u g' h tk₁ I io hd' hv hsub ⟨vs, n, pv, rfl, m1, m2, m3, hvs, hpv⟩ S₅
    have hi : i < ops.length := by have := (List.getElem?_eq_some_iff.mp hd').1; simpa using this
    have hop : d' = (ops[i]).d := by simp [List.getElem?_map, List.getElem?_eq_getElem hi] at hd'; exact hd'.symm
    have htk : ops.take (i + 1) = ops.take i ++ [ops[i]] := by rw [List.take_add_one, List.getElem?_eq_getElem hi]; rfl
    have hoki := hok _ (List.getElem_mem hi)
    have hl1 := mplay_length cap [] (ops.take i)
    have hl3 := hvs.length
    have hl4 : (ops.take i).length ≤ 90 := by rw [List.length_take]; omega
    have hvz : vs.length ≤ 1000 := by omega
    have hpz : (mplay cap [] (ops.take i)).2.length ≤ 100 := by simp at hl1; omega
    refine wpAny_assign_Name (stL S₅ fun h₆ S₆ => ?_)
    subst hop
    have hv' := hv.mono hsub
    cases hO : ops[i] with
    | get k =>
      rw [hO] at hv' htk hoki
      refine wpAny_execs_cons (wpAny_If (wpAny_isTrue_Compare1 (Subscript_ (nmL S₆ upd_eq (wpAny_Constant_int (sbT (i := 0) S₆ hv' rfl (by simp) fun x hx => ?_))))))
      cases hx
      refine wpAny_Constant_str (PySem.P.eq_str (wpAny_truthy_bool ?_))
      rw [eqs, decide_eq_true rfl]
      obtain ⟨ag, og, pmg, cdg, dcg, eg, fg⟩ := W.fn 4 (by decide)
      refine wpAny_execs_cons (Assign_Tuple (callU (o := og) (fd := docF 4 pmg cdg dcg) (nmG S₆ W eg ⟨rfl, wpAny_items_cons (nmL S₆ (upd_ne (by decide) m1) (wpAny_items_cons (Subscript_ (nmL S₆ upd_eq (wpAny_Constant_int (sbT (i := 1) S₆ hv' rfl (by simp) fun y hy => ?_))))))⟩)))
      cases hy
      refine wpAny_items_nil ⟨⟨S₆.fr.keep _ _ fg.at_, fg.d⟩, ?_⟩
      refine plain_get_spec hA' (W.keeps S₆.fr.keep) eg S₆.at hpv hpz hoki fun r g₇ h₇ tk₇ hx₇ ha₇ hn₇ D₇ => ?_
      have S₇ := S₆.back hx₇ ha₇ hn₇
      refine unT hA'.hd S₇ (D₇.mono fun _ hp => List.mem_append_left _ hp) rfl fun vs₈ h₈ D₈ S₈ => ?_
      cases D₈ with | cons dp D₈ => cases D₈ with | cons da D₈ => cases D₈ with | nil =>
      refine assignInOrder_cons (wpAny_assign_Name (stL S₈ fun h₉ S₉ => assignInOrder_cons (wpAny_assign_Name (stL S₉ fun h₁₀ S₁₀ => assignInOrder_nil ?_))))
      refine wpAny_execs_nil ?_
      dsimp only
      refine wpAny_execs_cons (wpAny_Expr (callM "list" "list.append" PySem.F.plainAttrs_list PySem.F.slot_list_append PySem.F.type_list_append (nmL S₁₀ (upd_ne (by decide) (upd_ne (by decide) (upd_ne (by decide) m2))) ⟨⟨_, (S₁₀.un _ (.tail _ (.head _))).1, rfl⟩, fun b e => by cases e; exact ⟨_, (S₁₀.un _ (.tail _ (.head _))).1, rfl⟩,
        wpAny_items_cons (nmL S₁₀ upd_eq (wpAny_items_nil (lApp (U := fun n' => [(I, io), (lg, lstO (vs ++ [_]) n')]) S₁₀ (fun n' => .tail .head) hvz fun h₁₁ n₁₁ S₁₁ => ?_)))⟩)))
      refine wpAny_execs_nil (TurnEnd.next ⟨fun p hp => List.mem_append_right _ (hsub p hp), _, n₁₁, _, rfl, upd_ne (by decide) upd_eq, upd_ne (by decide) (upd_ne (by decide) (upd_ne (by decide) m2)), upd_ne (by decide) (upd_ne (by decide) (upd_ne (by decide) m3)), ?_, ?_⟩ S₁₁)
      · rw [htk, mplay_snoc]; exact (hvs.mono fun p hp => List.mem_append_right _ hp).append (.cons da .nil)
      · rw [htk, mplay_snoc]; exact dp
    | put k v0 =>
      rw [hO] at hv' htk hoki
      refine wpAny_execs_cons (wpAny_If (wpAny_isTrue_Compare1 (Subscript_ (nmL S₆ upd_eq (wpAny_Constant_int (sbT (i := 0) S₆ hv' rfl (by simp) fun x hx => ?_))))))
      cases hx
      refine wpAny_Constant_str (PySem.P.eq_str (wpAny_truthy_bool ?_))
      rw [eqs, decide_eq_false (by decide)]
      obtain ⟨ag, og, pmg, cdg, dcg, eg, fg⟩ := W.fn 5 (by decide)
      refine wpAny_execs_cons (Assign_Tuple (callU (o := og) (fd := docF 5 pmg cdg dcg) (nmG S₆ W eg ⟨rfl, wpAny_items_cons (nmL S₆ (upd_ne (by decide) m1) (wpAny_items_cons (Subscript_ (nmL S₆ upd_eq (wpAny_Constant_int (sbT (i := 1) S₆ hv' rfl (by simp) fun y hy => ?_))))))⟩)))
      cases hy
      refine wpAny_items_cons (Subscript_ (nmL S₆ upd_eq (wpAny_Constant_int (sbT (i := 2) S₆ hv' rfl (by simp) fun z hz => ?_))))
      cases hz
      refine wpAny_items_cons (nmL S₆ (upd_ne (by decide) m3) (wpAny_items_nil ⟨⟨S₆.fr.keep _ _ fg.at_, fg.d⟩, ?_⟩))
      refine plain_put_spec hA' (W.keeps S₆.fr.keep) eg S₆.at hpv hpz hcap fun r g₇ h₇ tk₇ hx₇ ha₇ hn₇ D₇ => ?_
      have S₇ := S₆.back hx₇ ha₇ hn₇
      refine unT hA'.hd S₇ (D₇.mono fun _ hp => List.mem_append_left _ hp) rfl fun vs₈ h₈ D₈ S₈ => ?_
      cases D₈ with | cons dp D₈ => cases D₈ with | cons da D₈ => cases D₈ with | nil =>
      refine assignInOrder_cons (wpAny_assign_Name (stL S₈ fun h₉ S₉ => assignInOrder_cons (wpAny_assign_Name (stL S₉ fun h₁₀ S₁₀ => assignInOrder_nil ?_))))
      refine wpAny_execs_nil ?_
      dsimp only
      refine wpAny_execs_cons (wpAny_Expr (callM "list" "list.append" PySem.F.plainAttrs_list PySem.F.slot_list_append PySem.F.type_list_append (nmL S₁₀ (upd_ne (by decide) (upd_ne (by decide) (upd_ne (by decide) m2))) ⟨⟨_, (S₁₀.un _ (.tail _ (.head _))).1, rfl⟩, fun b e => by cases e; exact ⟨_, (S₁₀.un _ (.tail _ (.head _))).1, rfl⟩,
        wpAny_items_cons (nmL S₁₀ upd_eq (wpAny_items_nil (lApp (U := fun n' => [(I, io), (lg, lstO (vs ++ [_]) n')]) S₁₀ (fun n' => .tail .head) hvz fun h₁₁ n₁₁ S₁₁ => ?_)))⟩)))
      refine wpAny_execs_nil (TurnEnd.next ⟨fun p hp => List.mem_append_right _ (hsub p hp), _, n₁₁, _, rfl, upd_ne (by decide) upd_eq, upd_ne (by decide) (upd_ne (by decide) (upd_ne (by decide) m2)), upd_ne (by decide) (upd_ne (by decide) (upd_ne (by decide) m3)), ?_, ?_⟩ S₁₁)
      · rw [htk, mplay_snoc]; exact (hvs.mono fun p hp => List.mem_append_right _ hp).append (.cons da .nil)
      · rw [htk, mplay_snoc]; exact dp
  · rintro m u g' h tk₁ hsub ⟨vs, n, pv, rfl, m1, m2, m3, hvs, hpv⟩ S₅
    have htk : ops.take (ops.map Op.d).length = ops := by rw [List.length_map, List.take_length]
    rw [htk] at hvs hpv
    refine wpAny_execs_cons (wpAny_Return_some (Tuple_ (wpAny_items_cons (nmL S₅ m2 (wpAny_items_cons (nmL S₅ m1 (wpAny_items_nil (mkTup S₅.freeze (by simp) fun h₉ a₉ S₉ => ?_))))))))
    exact hk _ _ _ _ S₉.fr.keep S₉.at S₉.prov (.tuple (.head _) (.cons (.list (n := n) (.tail _ (.head _)) (hvs.mono fun _ hp => .tail _ (.tail _ hp))) (.cons (hpv.mono fun _ hp => .tail _ (.tail _ hp)) .nil)))
end
end Mine
end
section
open PySem PyProof.Rows PySem.Calls
namespace Mine
section
variable {prog : Program} {w : World} {A : Around} {E : Value → Shared → Prop} {s : Shared} {h₀ : Heap} {L : Addr} {gi : Lg} {m : Str → Option Value} {u g : Lg} {env : Env} {tg : Expr} {body : List Stmt} {lv : Value} {ds : List PyData}

def RevAt (g : Lg) (io : Obj) (ds : List PyData) : Prop := ∃ l n vs, (l, lstO vs n) ∈ g ∧ DLs g vs ds ∧ io = revObj l ((ds.length : Int) - 1)
theorem rvL {Q : Value → Shared → Prop} (S : St h₀ L gi m u g s.heap) (D : DL g lv (.list ds)) (h : ∀ h' I io, RevAt g io ds → St h₀ L gi m ((I, io) :: u) g h' → Q (.ref I) { s with heap := h' }) : wpAny (model prog w) A (call (.type "reversed") [lv]) Q E s := by
  cases D with
  | @list l n vs _ hl hD =>
    have hlen := hD.length
    refine call_reversed_list (items := vs.toArray) ⟨_, (S.led _ hl).1, rfl, _, rfl⟩ ?_
    have e : (vs.toArray.size : Int) - 1 = (ds.length : Int) - 1 := by simp [hlen]
    rw [e]
    exact h _ _ _ ⟨l, n, vs, hl, hD, rfl⟩ (S.pushU _)

theorem forR {Q : Flow → Shared → Prop} {I : Addr} {io₀ : Obj} (J : Nat → (Str → Option Value) → Lg → Lg → Prop) (hh : A.handled = none) (S : St h₀ L gi m ((I, io₀) :: u) g s.heap) (R : RevAt g io₀ ds) (h0 : J 0 m u g) (lets : ∀ it v, letOwnedTupleGo tg it v = pure ())
    (turn : ∀ i d v m' u' g' h tk io, ds.reverse[i]? = some d → DL g v d → (∀ p ∈ g, p ∈ g') → J i m' u' g' → St h₀ L gi m' ((I, io) :: u') g' h →
      wpAny (model prog w) A (assign tg env v) (fun _ s₂ => wpAny (model prog w) A (execs body env) (TurnEnd h₀ L gi (fun m u g'' => (∀ p ∈ g, p ∈ g'') ∧ J (i + 1) m u g'') I io s Q) (fun _ _ => False) s₂) (fun _ _ => False) { s with heap := h, toks := tk })
    (done : ∀ m' u' g' h tk, (∀ p ∈ g, p ∈ g') → J ds.length m' u' g' → St h₀ L gi m' u' g' h → Q .next { s with heap := h, toks := tk }) :
    wpAny (model prog w) A (pyIter (.ref I)) (fun it s₂ => codeAny (model prog w) A (.forLoop tg it body [] env) (fun r s' => match r with | .ok f => Q f s' | .error e => cameBackBy (model prog w) A env E e s') s₂) E s := by
  obtain ⟨l, n, vs, hl, hD, rfl⟩ := R
  have hlen := hD.length
  have isl : ∀ {h' : Heap}, h'.get? l = some (lstO vs n) → h'.IsList l vs.toArray := fun e => ⟨_, e, rfl, _, rfl⟩
  refine wpAny_pyIter_revIter (l := l) ⟨_, (S.un _ (.head _)).1, rfl, rfl⟩ ?_
  refine codeAny_forLoop_any (fun k s' => ∃ i m' u' g' h tk io, s' = { s with heap := h, toks := tk } ∧ i ≤ ds.length ∧ k = ds.length + 1 - i ∧ (∀ p ∈ g, p ∈ g') ∧ J i m' u' g' ∧ St h₀ L gi m' ((I, io) :: u') g' h ∧ h.IsRevIter I l ((ds.length : Int) - 1 - (i : Int)))
    ?_ (ds.length + 1) ⟨0, m, u, g, _, s.toks, _, rfl, Nat.zero_le _, rfl, fun _ hp => hp, h0, S, ⟨_, (S.un _ (.head _)).1, rfl, by show (revObj l _).data = _; simp [revObj]⟩⟩
  rintro k s' ⟨i, m', u', g', h, tk, io, rfl, hi, rfl, hsub, hJ, S', hit⟩
  by_cases hlt : i < ds.length
  · have e : (ds.length : Int) - 1 - (i : Int) = ((ds.length - 1 - i : Nat) : Int) := by omega
    rw [e] at hit
    obtain ⟨d, hd⟩ : ∃ d, ds[ds.length - 1 - i]? = some d := ⟨_, List.getElem?_eq_getElem (by omega)⟩
    obtain ⟨v, hx, hDv⟩ := hD.get hd
    refine wpAny_pyNext_rev_item hit (isl (S'.led _ (hsub _ hl)).1) (by simpa using hx) fun h₁ hit₁ hs₁ => ?_
    have e2 : ((ds.length - 1 - i : Nat) : Int) - 1 = (ds.length : Int) - 1 - ((i + 1 : Nat) : Int) := by omega
    rw [e2] at hit₁
    obtain ⟨io₁, hio₁, hio₂⟩ := id hit₁
    have S₁ := S'.set .head hs₁ hio₁
    have hdr : ds.reverse[i]? = some d := by rw [List.getElem?_reverse hlt]; exact hd
    refine wpAny_of_eq (lets _ _) (wpAny_mono (turn i d v m' u' g' h₁ tk io₁ hdr hDv hsub hJ S₁) (fun _ s₂ h₂ => wpAny_mono h₂ (fun f s₃ h₃ => ?_) fun _ _ e => e.elim) fun _ _ e => e.elim)
    cases f with
    | brk => exact h₃
    | ret v => exact h₃
    | next =>
      obtain ⟨m₂, u₂, g₂, h₂, tk₂, rfl, ⟨hs₂, hJ₂⟩, S₂⟩ := h₃
      exact ⟨ds.length + 1 - (i + 1), by omega, i + 1, m₂, u₂, g₂, h₂, tk₂, io₁, rfl, hlt, rfl, hs₂, hJ₂, S₂, ⟨io₁, (S₂.un _ (.head _)).1, hio₂⟩⟩
    | cont =>
      obtain ⟨m₂, u₂, g₂, h₂, tk₂, rfl, ⟨hs₂, hJ₂⟩, S₂⟩ := h₃
      exact ⟨ds.length + 1 - (i + 1), by omega, i + 1, m₂, u₂, g₂, h₂, tk₂, io₁, rfl, hlt, rfl, hs₂, hJ₂, S₂, ⟨io₁, (S₂.un _ (.head _)).1, hio₂⟩⟩
  · have hie : i = ds.length := by omega
    subst hie
    have e : (ds.length : Int) - 1 - (ds.length : Int) = -1 := by omega
    rw [e] at hit
    refine wpAny_pyNext_rev_end hh hit fun h₁ he => wpAny_execs_nil ?_
    exact done m' u' g' h₁ tk hsub hJ (S'.extBut he)
end
end Mine
end
section
open PySem PyProof.Rows PySem.Calls
namespace Mine
def lstep (cap : Int) (st : List Str × Ps) (p : Str × Int) : List Str × Ps :=
  if st.1.any (fun x => decide (x = p.1)) then st else if (st.1.length : Int) < cap then (st.1 ++ [p.1], p :: st.2) else st
def livS (cap : Int) (us : Ps) : List Str × Ps := us.foldl (lstep cap) ([], [])
def live (cap : Int) (uses : Ps) : Ps := (livS cap uses.reverse).2
theorem lstep_length (cap : Int) (st : List Str × Ps) (p : Str × Int) : (lstep cap st p).1.length ≤ st.1.length + 1 ∧ (lstep cap st p).2.length ≤ st.2.length + 1 := by
  unfold lstep
  split
  · simp
  · split <;> simp
theorem livS_snoc (cap : Int) (us : Ps) (p : Str × Int) : livS cap (us ++ [p]) = lstep cap (livS cap us) p := by simp [livS]
theorem fold_length (cap : Int) (us : Ps) : ∀ st, (us.foldl (lstep cap) st).1.length ≤ st.1.length + us.length ∧ (us.foldl (lstep cap) st).2.length ≤ st.2.length + us.length := by
  induction us with
  | nil => simp
  | cons p r ih => intro st; have h1 := ih (lstep cap st p); have h2 := lstep_length cap st p; simp at h1 ⊢; omega
theorem livS_length (cap : Int) (us : Ps) : (livS cap us).1.length ≤ us.length ∧ (livS cap us).2.length ≤ us.length := by
  have := fold_length cap us ([], []); simpa [livS] using this
theorem lstep_ok {cap : Int} {st : List Str × Ps} {p : Str × Int} (h1 : ∀ x ∈ st.1, PyData.strOk x = true) (h2 : OkPs st.2) (hp : PyData.strOk p.1 = true) : (∀ x ∈ (lstep cap st p).1, PyData.strOk x = true) ∧ OkPs (lstep cap st p).2 := by
  unfold lstep
  split
  · exact ⟨h1, h2⟩
  · split
    · refine ⟨fun x hx => ?_, fun q hq => ?_⟩
      · rcases List.mem_append.mp hx with hx | hx
        · exact h1 x hx
        · rw [List.mem_singleton.mp hx]; exact hp
      · rcases List.mem_cons.mp hq with rfl | hq
        · exact hp
        · exact h2 q hq
    · exact ⟨h1, h2⟩
theorem fold_ok {cap : Int} {us : Ps} (h : OkPs us) : ∀ st : List Str × Ps, (∀ x ∈ st.1, PyData.strOk x = true) → OkPs st.2 → (∀ x ∈ (us.foldl (lstep cap) st).1, PyData.strOk x = true) ∧ OkPs (us.foldl (lstep cap) st).2 := by
  induction us with
  | nil => intro st h1 h2; exact ⟨h1, h2⟩
  | cons p r ih =>
    intro st h1 h2
    have := lstep_ok (cap := cap) h1 h2 (h p (.head _))
    exact ih (fun q hq => h q (.tail _ hq)) _ this.1 this.2
theorem livS_ok {cap : Int} {us : Ps} (h : OkPs us) : (∀ x ∈ (livS cap us).1, PyData.strOk x = true) ∧ OkPs (livS cap us).2 := fold_ok h _ (fun _ h => nomatch h) (fun _ h => nomatch h)
theorem lay_strs {ss : List Str} (h : ∀ x ∈ ss, PyData.strOk x = true) : PyData.canLayAll0 (ss.map .str) = true := by
  induction ss with
  | nil => simp [PyData.canLayAll0]
  | cons x r ih => simp [PyData.canLayAll0, PyData.canLay0, h x (.head _), ih fun y hy => h y (.tail _ hy)]
theorem any_strs (ss : List Str) (k : Str) : ((ss.map PyData.str).any fun y => PyData.eqv y (.str k)) = ss.any fun x => decide (x = k) := by
  rw [List.any_map]
  have e : ((fun y => PyData.eqv y (.str k)) ∘ PyData.str) = fun x => decide (x = k) := by
    funext x
    by_cases e : x = k <;> simp [PyData.eqv, e]
  rw [e]
theorem room1 {A : Around} {n k : Nat} {d : PyData} (hA : OkA A n) (hd : d.depth ≤ 10) : A.units + 1 + min k d.depth < cLine := by
  have := hA.un
  have := Nat.min_le_right k d.depth
  omega

section
variable {prog : Program} {w : World} {A : Around} {E : Value → Shared → Prop} {s : Shared} {mg mb : Str → Option Value} {a : Addr} {g : Lg} {uv : Value} {cap : Int} {t : Tok} {Q : Value → Shared → Prop} {us : Ps}

set_option maxHeartbeats 1000000 in
theorem law_live_spec (hA : OkA A 1) (W : Wd mg mb s.heap) (ha : mg (fdAt 12).name = some (.ref a)) (hg : ∀ p ∈ g, s.heap.get? p.1 = some p.2) (D : DL g uv (.list (us.map pairD))) (hlen : us.length ≤ 100) (hok : OkPs us)
    (hk : ∀ r g' h' tk, Ext s.heap h' → (∀ p ∈ g', h'.get? p.1 = some p.2) → (∀ p ∈ g', p ∈ g ∨ s.heap.get? p.1 = none) → DL g' r (.list ((live cap us).map pairD)) → Q r { s with heap := h', toks := tk }) :
    wpAny (model prog w) A (call (.ref a) [uv, .int cap t]) Q E s := by
  obtain ⟨of, pm, cd, dc, fn⟩ := fn_of W (i := 12) (by decide) ha
  refine enterP (i := 12) (n := 0) (hb := s.heap) (u := []) (g := g) (binds := [("uses", uv), ("capacity", .int cap t)]) hA fn W.nolimit (Ext.refl _) (Nat.le_refl _)
    (fun _ h => nomatch h) hg (fun _ _ _ h => nomatch h) (by simp) rfl ?_
  intro L h₁ tk S hA'
  conv in (fdAt 12).body => whnf
  refine wpAny_execs_cons (wpAny_Assign_Name (List_ (wpAny_items_nil (mkLst S (Nat.zero_le _) fun h₁ lp S₁ => stL S₁ fun h₂ S₂ => ?_))))
  refine wpAny_execs_cons (wpAny_Assign_Name (List_ (wpAny_items_nil (mkLstU S₂ (Nat.zero_le _) fun h₃ lg S₃ => stL S₃ fun h₄ S₄ => ?_))))
  have D' := D.mono (g' := (lp, lstO [] 0) :: g) fun _ hp => .tail _ hp
  refine wpAny_execs_cons (wpAny_For (callT "reversed" (nmB S₄ W (W.free _ (by decide)) rfl ⟨rfl, wpAny_items_cons (nmL S₄ rfl (wpAny_items_nil (rvL S₄ D' fun h₅ I₅ io₅ R₅ S₅ => ?_)))⟩)))
  refine forR (fun i m u g' => ∃ vs n lv, u = [(lg, lstO vs n)] ∧ m "live" = some lv ∧ m "seen" = some (.ref lg) ∧ m "capacity" = some (.int cap t) ∧ DLs g' vs ((livS cap (us.reverse.take i)).1.map .str) ∧
      DL g' lv (.list ((livS cap (us.reverse.take i)).2.map pairD)))
    hA'.hd S₅ R₅ ⟨[], 0, _, rfl, rfl, rfl, rfl, .nil, .list (.head _) .nil⟩ (fun _ _ => rfl) ?_ ?_
  · rintro i d' v m u g' h tk₁ io hd' hv hsub ⟨vs, n, lv, rfl, m1, m2, m3, hvs, hlv⟩ S₅
    rw [← List.map_reverse] at hd'
    have hi : i < us.reverse.length := by have := (List.getElem?_eq_some_iff.mp hd').1; simpa using this
    have hop : d' = pairD (us.reverse[i]) := by rw [List.getElem?_map, List.getElem?_eq_getElem hi] at hd'; simpa using hd'.symm
    have htk : us.reverse.take (i + 1) = us.reverse.take i ++ [us.reverse[i]] := by rw [List.take_add_one, List.getElem?_eq_getElem hi]; rfl
    have hl1 := livS_length cap (us.reverse.take i)
    have hl3 := hvs.length
    have hl4 : (us.reverse.take i).length ≤ 100 := by rw [List.length_take, List.length_reverse]; omega
    rw [List.length_map] at hl3
    have hvz : vs.length ≤ 1000 := by omega
    have hks := livS_ok (cap := cap) (us := us.reverse.take i) fun q hq => hok q (by simpa using List.mem_of_mem_take hq)
    have hkp : PyData.strOk us.reverse[i].1 = true := hok _ (List.mem_reverse.mp (List.getElem_mem hi))
    generalize us.reverse[i] = p at hop htk hkp
    rw [htk, livS_snoc]
    generalize livS cap (us.reverse.take i) = st at *
    refine wpAny_assign_Name (stL S₅ fun h₆ S₆ => ?_)
    subst hop
    have hv' := hv.mono hsub
    refine wpAny_execs_cons (wpAny_If (isTrue_and (wpAny_isTrue_Compare1 (Subscript_ (nmL S₆ upd_eq (wpAny_Constant_int (sbT (i := 0) S₆ hv' rfl (by simp) fun x hx => ?_)))))))
    cases hx
    obtain ⟨_, rs⟩ := DLs.reads (h := h₆) S₆.at hvs
    refine nmL S₆ (upd_ne (by decide) m2) (PySem.SeqAt.notIn_list_reads (reads_list_at (S₆.un _ (.tail _ (.head _))).1 rfl rfl (by simpa using rs)) (.str _ _) (lay_strs hks.1) hkp (room1 hA' (by simp [PyData.depth])) (wpAny_truthy_bool ?_))
    rw [any_strs]
    by_cases hc : (st.1.any fun x => decide (x = p.1)) = true
    · have e : lstep cap st p = st := by simp only [lstep, if_pos hc]
      rw [hc, e]
      refine wpAny_execs_nil (wpAny_execs_nil (TurnEnd.next ⟨hsub, _, n, _, rfl, upd_ne (by decide) m1, upd_ne (by decide) m2, upd_ne (by decide) m3, hvs, hlv⟩ S₆))
    · rw [Bool.eq_false_iff.mpr hc]
      refine isTrue_and (wpAny_isTrue_Compare1 (callB "len" (nmB S₆ W (W.free _ (by decide)) rfl ⟨rfl, wpAny_items_cons (nmL S₆ (upd_ne (by decide) m2) (wpAny_items_nil (call_len_list (items := vs.toArray) ⟨_, (S₆.un _ (.tail _ (.head _))).1, rfl, _, rfl⟩ (by rw [List.size_toArray]; omega) (nmL S₆ (upd_ne (by decide) m3) (PyProof.Rows.lt_int (wpAny_truthy_bool ?_))))))⟩)))
      rw [List.size_toArray, hl3]
      by_cases hc2 : (st.1.length : Int) < cap
      · have e : lstep cap st p = (st.1 ++ [p.1], p :: st.2) := by simp only [lstep, if_neg hc, if_pos hc2]
        rw [decide_eq_true hc2, e]
        refine isTrue_and_nil ?_
        refine wpAny_execs_cons (wpAny_Expr (callM "list" "list.append" PySem.F.plainAttrs_list PySem.F.slot_list_append PySem.F.type_list_append (nmL S₆ (upd_ne (by decide) m2) ⟨⟨_, (S₆.un _ (.tail _ (.head _))).1, rfl⟩, fun b e => by cases e; exact ⟨_, (S₆.un _ (.tail _ (.head _))).1, rfl⟩,
          wpAny_items_cons (Subscript_ (nmL S₆ upd_eq (wpAny_Constant_int (sbT (i := 0) S₆ hv' rfl (by simp) fun x hx => ?_))))⟩)))
        cases hx
        refine wpAny_items_nil (lApp (U := fun n' => [(I₅, io), (lg, lstO (vs ++ [_]) n')]) S₆ (fun n' => .tail .head) hvz fun h₇ n₇ S₇ => ?_)
        refine wpAny_execs_cons (wpAny_Assign_Name (wpAny_BinOp (List_ (wpAny_items_cons (nmL S₇ upd_eq (wpAny_items_nil (mkLst S₇ (by simp) fun h₈ a₈ S₈ => nmL S₈ (upd_ne (by decide) m1) ?_)))))))
        refine addL S₈ (ds := [pairD p]) (.list (.head _) (.cons (hv'.mono fun _ hp => .tail _ hp) .nil)) (hlv.mono fun _ hp => .tail _ hp) (by simp; omega) fun h₉ x₉ o₉ S₉ D₉ => ?_
        refine stL S₉ fun h₁₀ S₁₀ => ?_
        refine wpAny_execs_nil (wpAny_execs_nil (TurnEnd.next ⟨fun p hp => .tail _ (.tail _ (hsub p hp)), _, n₇, _, rfl, upd_eq, upd_ne (by decide) (upd_ne (by decide) m2), upd_ne (by decide) (upd_ne (by decide) m3), ?_, D₉⟩ S₁₀))
        rw [List.map_append]
        exact (hvs.mono fun p hp => .tail _ (.tail _ hp)).append (.cons (.str _ _) .nil)
      · have e : lstep cap st p = st := by simp only [lstep, if_neg hc, if_neg hc2]
        rw [decide_eq_false hc2, e]
        refine wpAny_execs_nil (wpAny_execs_nil (TurnEnd.next ⟨hsub, _, n, _, rfl, upd_ne (by decide) m1, upd_ne (by decide) m2, upd_ne (by decide) m3, hvs, hlv⟩ S₆))
  · rintro m u g' h tk₁ hsub ⟨vs, n, lv, rfl, m1, m2, m3, hvs, hlv⟩ S₅
    have htk : us.reverse.take (us.map pairD).length = us.reverse := by rw [List.length_map, ← List.length_reverse, List.take_length]
    rw [htk] at hlv
    exact wpAny_execs_cons (wpAny_Return_some (nmL S₅ m1 (hk _ _ _ _ S₅.fr.keep S₅.at S₅.prov hlv)))
end
end Mine
end
section
open PySem PyProof.Rows PySem.Calls
namespace Mine
theorem filter_all {α : Type} (l : List α) : l.filter (fun _ => true) = l := by induction l with | nil => rfl | cons x r ih => simp [ih]
def fstD : PyData → PyData
  | .tuple (x :: _) => x
  | _ => .none
def ansOf (hits : Ps) : PyData := hits.foldl (fun _ p => .int p.2) .none
def goneOf (stay : List Str) (before : Ps) : Str := before.foldl (fun acc p => if stay.any (fun x => decide (x = p.1)) then acc else p.1) ""
def rstep (cap : Int) (uses : Ps) : Op → PyData × Ps
  | .get k => let hits := (live cap uses).filter fun p => decide (p.1 = k); (ansOf hits, uses ++ hits)
  | .put k v => (.str (goneOf ((live cap (uses ++ [(k, v)])).map (·.1)) (live cap uses)), uses ++ [(k, v)])
def rplay (cap : Int) : Ps → List Op → List PyData × Ps
  | ps, [] => ([], ps)
  | ps, o :: r => let q := rstep cap ps o; let z := rplay cap q.2 r; (q.1 :: z.1, z.2)
theorem rplay_snoc (cap : Int) (ps : Ps) (l : List Op) (o : Op) : rplay cap ps (l ++ [o]) = ((rplay cap ps l).1 ++ [(rstep cap (rplay cap ps l).2 o).1], (rstep cap (rplay cap ps l).2 o).2) := by
  induction l generalizing ps with
  | nil => simp [rplay]
  | cons x r ih => simp only [List.cons_append, rplay, ih]

section
variable {prog : Program} {w : World} {A : Around} {E : Value → Shared → Prop} {s : Shared} {h₀ : Heap} {L : Addr} {gi : Lg} {m : Str → Option Value} {u g : Lg} {ds : List PyData}
theorem eqS {Q : Value → Shared → Prop} {x y : Str} {t u : Tok} (b : Bool) (hb : decide (x = y) = b) (h : Q (.bool b) s) : wpAny (model prog w) A (compareOp .Eq (.str x t) (.str y u)) Q E s :=
  PySem.P.eq_str (by rw [eqs, hb]; exact h)
theorem neS {Q : Value → Shared → Prop} {x y : Str} {t u : Tok} (b : Bool) (hb : (!decide (x = y)) = b) (h : Q (.bool b) s) : wpAny (model prog w) A (compareOp .NotEq (.str x t) (.str y u)) Q E s :=
  PySem.P.ne_str (by rw [bne, eqs, hb]; exact h)
theorem notInL {Q : Value → Shared → Prop} {n : Nat} {x c : Value} {d : PyData} (hA : OkA A n) (S : St h₀ L gi m u g s.heap) (Dc : DL g c (.list ds)) (Dx : DL g x d) (h1 : PyData.canLayAll0 ds = true) (h2 : d.canLay0 = true) (h3 : d.depth ≤ 10)
    (h : Q (.bool (!ds.any fun y => PyData.eqv y d)) s) : wpAny (model prog w) A (compareOp .NotIn x c) Q E s := by
  obtain ⟨_, rc⟩ := Dc.reads S.at
  obtain ⟨_, rx⟩ := Dx.reads S.at
  exact PySem.SeqAt.notIn_list_reads rc rx h1 h2 (room1 hA h3) h
end

theorem live_length (cap : Int) (us : Ps) : (live cap us).length ≤ us.length := by have := (livS_length cap us.reverse).2; simpa [live] using this
theorem live_ok {cap : Int} {us : Ps} (h : OkPs us) : OkPs (live cap us) := (livS_ok (cap := cap) (us := us.reverse) fun q hq => h q (List.mem_reverse.mp hq)).2

section
variable {prog : Program} {w : World} {A : Around} {E : Value → Shared → Prop} {s : Shared} {mg mb : Str → Option Value} {a : Addr} {g : Lg} {ov : Value} {cap : Int} {t : Tok} {Q : Value → Shared → Prop} {ops : List Op}

def rlen (cap : Int) (ops : List Op) : Prop := ∀ i, (rplay cap [] (ops.take i)).2.length ≤ 99 ∧ OkPs (rplay cap [] (ops.take i)).2

set_option maxHeartbeats 2000000 in
theorem law_reckon_spec (hA : OkA A 2) (W : Wd mg mb s.heap) (ha : mg (fdAt 13).name = some (.ref a)) (hg : ∀ p ∈ g, s.heap.get? p.1 = some p.2) (D : DL g ov (.list (ops.map Op.d))) (hlen : ops.length ≤ 90) (hok : OkOps ops) (hr : rlen cap ops)
    (hk : ∀ r g' h' tk, Ext s.heap h' → (∀ p ∈ g', h'.get? p.1 = some p.2) → (∀ p ∈ g', p ∈ g ∨ s.heap.get? p.1 = none) → DL g' r (.tuple [.list (rplay cap [] ops).1, .list ((live cap (rplay cap [] ops).2).map pairD)]) → Q r { s with heap := h', toks := tk }) :
    wpAny (model prog w) A (call (.ref a) [ov, .int cap t]) Q E s := by
  obtain ⟨of, pm, cd, dc, fn⟩ := fn_of W (i := 13) (by decide) ha
  refine enterC (i := 13) (n := 1) (g := g) (binds := [("ops", ov), ("capacity", .int cap t)]) hA fn W.nolimit hg rfl ?_ ?_
  · intro L h₁ tk cells S Y hA'
    obtain ⟨oc, rfl, hoc⟩ := CellsAre.one (n := "key") (c := L + 1) Y
    conv in (fdAt 13).body => whnf
    have hoc' : oc.data = .cell none := hoc
    obtain ⟨al, ol, pml, cdl, dcl, el, fl⟩ := W.fn 12 (by decide)
    refine wpAny_execs_cons (wpAny_Assign_Name (List_ (wpAny_items_nil (mkLst S (Nat.zero_le _) fun h₁ lp S₁ => stL S₁ fun h₂ S₂ => ?_))))
    try dsimp only
    refine wpAny_execs_cons (wpAny_Assign_Name (List_ (wpAny_items_nil (mkLstU S₂ (Nat.zero_le _) fun h₃ lg S₃ => stL S₃ fun h₄ S₄ => ?_))))
    try dsimp only
    have D' := D.mono (g' := (lp, lstO [] 0) :: g) fun _ hp => .tail _ hp
    refine wpAny_execs_cons (wpAny_For (nmL S₄ rfl (forL
      (fun i m u g' => ∃ vs n oc kv uv, u = [(lg, lstO vs n), (L + 1, oc)] ∧ oc.data = .cell kv ∧ m "uses" = some uv ∧ m "gave" = some (.ref lg) ∧ m "capacity" = some (.int cap t) ∧ DLs g' vs (rplay cap [] (ops.take i)).1 ∧
        DL g' uv (.list ((rplay cap [] (ops.take i)).2.map pairD)))
      hA'.hd S₄ D' ⟨[], 0, oc, none, _, rfl, hoc', rfl, rfl, rfl, .nil, .list (.head _) .nil⟩ (lets_tuple _ _ _) ?_ ?_)))
    · rintro i d' v m u g' h tk₁ I io hd' hv hsub ⟨vs, n, oc, kv, uv, rfl, hoc, m1, m2, m3, hvs, huv⟩ S₅
      have hi : i < ops.length := by have := (List.getElem?_eq_some_iff.mp hd').1; simpa using this
      have hop : d' = (ops[i]).d := by simp [List.getElem?_map, List.getElem?_eq_getElem hi] at hd'; exact hd'.symm
      have htk : ops.take (i + 1) = ops.take i ++ [ops[i]] := by rw [List.take_add_one, List.getElem?_eq_getElem hi]; rfl
      have hoki := hok _ (List.getElem_mem hi)
      have hri := hr i
      have hri1 := hr (i + 1)
      have hl3 : vs.length ≤ 1000 := by
        have e1 := hvs.length
        have e2 : ∀ l ps, (rplay cap ps l).1.length = l.length := by intro l; induction l with | nil => intro ps; rfl | cons x r ih => intro ps; simp [rplay, ih]
        rw [e2, List.length_take] at e1; omega
      subst hop
      have hv' := hv.mono hsub
      obtain ⟨st, hst⟩ : ∃ st, rplay cap [] (ops.take i) = st := ⟨_, rfl⟩
      have hend : rplay cap [] (ops.take (i + 1)) = (st.1 ++ [(rstep cap st.2 ops[i]).1], (rstep cap st.2 ops[i]).2) := by rw [htk, rplay_snoc, hst]
      rw [hst] at hri hvs huv
      rw [hend] at hri1
      cases hO : ops[i] with
      | get k =>
        rw [hO] at hv' hoki hri1 hend
        refine unT hA'.hd S₅ hv' rfl fun vs₆ h₆ D₆ S₆ => ?_
        try dsimp only
        cases D₆ with | cons d1 D₆ => cases D₆ with | cons d2 D₆ => cases D₆ with | cons d3 D₆ => cases D₆ with | nil =>
        cases d1; cases d2; cases d3
        refine assignInOrder_cons (wpAny_assign_Name (stL S₆ fun h₇ S₇ => assignInOrder_cons (wpAny_assign_Name (stC' (U := fun o' => [(I, io), (lg, lstO vs n), (L + 1, o')]) S₇ rfl (fun o' => .tail (.tail .head)) hoc fun h₈ oc₈ S₈ hoc₈ => assignInOrder_cons (wpAny_assign_Name (stL S₈ fun h₉ S₉ => assignInOrder_nil ?_))))))
        try dsimp only
        refine wpAny_execs_cons (wpAny_Assign_Name (callU (o := ol) (fd := docF 12 pml cdl dcl) (nmG S₉ W el ⟨rfl, wpAny_items_cons (nmL S₉ (upd_ne (by decide) (upd_ne (by decide) m1)) (wpAny_items_cons (nmL S₉ (upd_ne (by decide) (upd_ne (by decide) m3)) (wpAny_items_nil ⟨⟨S₉.fr.keep _ _ fl.at_, fl.d⟩, ?_⟩))))⟩)))
        try dsimp only
        refine law_live_spec hA' (W.keeps S₉.fr.keep) el S₉.at huv (by omega) hri.2 fun r g₁₀ h₁₀ tk₁₀ hx₁₀ ha₁₀ hn₁₀ D₁₀ => ?_
        try dsimp only
        have S₁₀ := S₉.back hx₁₀ ha₁₀ hn₁₀
        have D₁₀' := D₁₀.mono (g' := g₁₀ ++ g') fun _ hp => List.mem_append_left _ hp
        have hlb := live_length cap st.2
        have hob := live_ok (cap := cap) hri.2
        refine stL S₁₀ fun h₁₁ S₁₁ => ?_
        try dsimp only
        obtain ⟨mm, S₁₁, n1, n2, n3, n4, n5, n6⟩ : ∃ mm : Str → Option Value, St s.heap L g mm [(I, io), (lg, lstO vs n), (L + 1, oc₈)] (g₁₀ ++ g') h₁₁ ∧ mm "uses" = some uv ∧ mm "gave" = some (.ref lg) ∧ mm "capacity" = some (.int cap t) ∧ (∃ tk, mm "kind" = some (.str "get" tk)) ∧ mm "before" = some r ∧ ∃ tv, mm "value" = some (.int 0 tv) :=
          ⟨_, S₁₁, upd_ne (by decide) (upd_ne (by decide) (upd_ne (by decide) m1)), upd_ne (by decide) (upd_ne (by decide) (upd_ne (by decide) m2)), upd_ne (by decide) (upd_ne (by decide) (upd_ne (by decide) m3)), ⟨_, rfl⟩, upd_eq, _, rfl⟩
        obtain ⟨tkk, n4⟩ := n4
        obtain ⟨tvv, n6⟩ := n6
        refine wpAny_execs_cons (wpAny_If (wpAny_isTrue_Compare1 (nmL S₁₁ n4 (wpAny_Constant_str (eqS true rfl (wpAny_truthy_bool ?_))))))
        try dsimp only
        refine wpAny_execs_cons (compA (isKey k) id hA'.hd S₁₁ D₁₀' (by simp; omega) (fun Q' hq => nmL S₁₁ n5 hq) rfl (fun C v d s₃ m₃ E' hd hv hn hm hx => ?_) (fun C v d s₃ m₃ E' hd hv hn hm hx => ?_) fun h₁₂ tk₁₂ b₁₂ o₁₂ S₁₂ D₁₂ => ?_)
        · obtain ⟨p, hp, rfl⟩ := List.mem_map.mp hd
          refine test1 (wpAny_isTrue_Compare1 (Subscript_ (cvL hn hm (wpAny_Constant_int (sbTh (i := 0) (fun p hp => hx _ _ (S₁₁.at p hp)) hv rfl (by simp) fun x hx' => ?_)))))
          cases hx'
          refine cvC rfl (hx _ _ (S₁₁.un _ (.tail _ (.tail _ (.head _)))).1) hoc₈ (eqS _ rfl (wpAny_truthy_bool ⟨rfl, keeps_toks _ _⟩))
        · exact cvL hn hm ⟨hv, keeps_self _⟩
        rw [isKey_filter] at D₁₂
        have hlh : ((live cap st.2).filter fun p => decide (p.1 = k)).length ≤ (live cap st.2).length := List.length_filter_le _ _
        have hst2 : rstep cap st.2 (.get k) = (ansOf ((live cap st.2).filter fun p => decide (p.1 = k)), st.2 ++ (live cap st.2).filter fun p => decide (p.1 = k)) := rfl
        rw [hst2] at hri1 hend
        obtain ⟨hits, hH⟩ : ∃ hits, (live cap st.2).filter (fun p => decide (p.1 = k)) = hits := ⟨_, rfl⟩
        rw [hH] at hri1 hend D₁₂ hlh
        dsimp only
        refine wpAny_execs_cons (wpAny_Assign_Name (wpAny_Constant_none (stL S₁₂ fun h₁₃ S₁₃ => ?_)))
        try dsimp only
        refine wpAny_execs_cons (wpAny_For (nmL S₁₃ rfl (forL
          (fun j m' u' g'' => u' = [(I, io), (lg, lstO vs n), (L + 1, oc₈)] ∧ m' "uses" = some uv ∧ m' "gave" = some (.ref lg) ∧ m' "capacity" = some (.int cap t) ∧ (∃ hv, m' "hits" = some hv ∧ DL ((b₁₂, o₁₂) :: (g₁₀ ++ g')) hv (.list (hits.map pairD))) ∧ ∃ av, m' "answer" = some av ∧ DL g'' av (ansOf (hits.take j)))
          hA'.hd S₁₃ D₁₂ ⟨rfl, upd_ne (by decide) (upd_ne (by decide) n1), upd_ne (by decide) (upd_ne (by decide) n2), upd_ne (by decide) (upd_ne (by decide) n3), ⟨_, rfl, D₁₂⟩, _, rfl, .none⟩ (lets_name _ _) ?_ ?_)))
        · rintro j d' v m' u' g'' h tk₂ I₂ io₂ hd' hv hsub₂ ⟨rfl, q1, q2, q3, q4, q5⟩ S₁₄
          have hj : j < hits.length := by have := (List.getElem?_eq_some_iff.mp hd').1; simpa using this
          have hop : d' = pairD (hits[j]) := by simp [List.getElem?_map, List.getElem?_eq_getElem hj] at hd'; exact hd'.symm
          have htk : hits.take (j + 1) = hits.take j ++ [hits[j]] := by rw [List.take_add_one, List.getElem?_eq_getElem hj]; rfl
          subst hop
          refine wpAny_assign_Name (stL S₁₄ fun h₁₅ S₁₅ => ?_)
          refine wpAny_execs_cons (wpAny_Assign_Name (Subscript_ (nmL S₁₅ upd_eq (wpAny_Constant_int (sbT (i := 1) S₁₅ (hv.mono hsub₂) rfl (by simp) fun x hx => stL S₁₅ fun h₁₆ S₁₆ => ?_)))))
          try dsimp only
          obtain ⟨hv4, q4, q4'⟩ := q4
          refine wpAny_execs_nil (TurnEnd.next ⟨hsub₂, rfl, upd_ne (by decide) (upd_ne (by decide) q1), upd_ne (by decide) (upd_ne (by decide) q2), upd_ne (by decide) (upd_ne (by decide) q3), ⟨hv4, upd_ne (by decide) (upd_ne (by decide) q4), q4'⟩, _, upd_eq, ?_⟩ S₁₆)
          rw [htk, ansOf, List.foldl_append]
          exact hx
        · rintro m' u' g'' h tk₂ hsub₂ ⟨rfl, q1, q2, q3, ⟨hv4, q4, q4'⟩, av, q5, q5'⟩ S₁₄
          rw [List.length_map, List.take_length] at q5'
          dsimp only
          refine wpAny_execs_cons (wpAny_Assign_Name (wpAny_BinOp (nmL S₁₄ q1 (nmL S₁₄ q4 (addL S₁₄ (huv.mono fun p hp => hsub₂ _ (.tail _ (List.mem_append_right _ hp))) (q4'.mono hsub₂) (by simp; omega) fun h₁₅ x₁₅ o₁₅ S₁₅ D₁₅ => stL S₁₅ fun h₁₆ S₁₆ => ?_)))))
          try dsimp only
          refine wpAny_execs_nil ?_
          dsimp only
          refine wpAny_execs_cons (wpAny_Expr (callM "list" "list.append" PySem.F.plainAttrs_list PySem.F.slot_list_append PySem.F.type_list_append (nmL S₁₆ (upd_ne (by decide) q2) ⟨⟨_, (S₁₆.un _ (.tail _ (.head _))).1, rfl⟩, fun b e => by cases e; exact ⟨_, (S₁₆.un _ (.tail _ (.head _))).1, rfl⟩,
            wpAny_items_cons (nmL S₁₆ (upd_ne (by decide) q5) (wpAny_items_nil (lApp (U := fun n' => [(I, io), (lg, lstO (vs ++ [_]) n'), (L + 1, oc₈)]) S₁₆ (fun n' => .tail .head) hl3 fun h₁₇ n₁₇ S₁₇ => ?_)))⟩)))
          refine wpAny_execs_nil (TurnEnd.next ⟨fun p hp => .tail _ (hsub₂ _ (.tail _ (List.mem_append_right _ (hsub p hp)))), _, n₁₇, oc₈, _, _, rfl, hoc₈, upd_eq, upd_ne (by decide) q2, upd_ne (by decide) q3, ?_, ?_⟩ S₁₇)
          · rw [hend]; exact (hvs.mono fun p hp => .tail _ (hsub₂ _ (.tail _ (List.mem_append_right _ hp)))).append (.cons (q5'.mono fun _ hp => .tail _ hp) .nil)
          · rw [hend, List.map_append]; exact D₁₅
      | put k v0 =>
        rw [hO] at hv' hoki hri1 hend
        refine unT hA'.hd S₅ hv' rfl fun vs₆ h₆ D₆ S₆ => ?_
        try dsimp only
        cases D₆ with | cons d1 D₆ => cases D₆ with | cons d2 D₆ => cases D₆ with | cons d3 D₆ => cases D₆ with | nil =>
        cases d1; cases d2; cases d3
        refine assignInOrder_cons (wpAny_assign_Name (stL S₆ fun h₇ S₇ => assignInOrder_cons (wpAny_assign_Name (stC' (U := fun o' => [(I, io), (lg, lstO vs n), (L + 1, o')]) S₇ rfl (fun o' => .tail (.tail .head)) hoc fun h₈ oc₈ S₈ hoc₈ => assignInOrder_cons (wpAny_assign_Name (stL S₈ fun h₉ S₉ => assignInOrder_nil ?_))))))
        try dsimp only
        refine wpAny_execs_cons (wpAny_Assign_Name (callU (o := ol) (fd := docF 12 pml cdl dcl) (nmG S₉ W el ⟨rfl, wpAny_items_cons (nmL S₉ (upd_ne (by decide) (upd_ne (by decide) m1)) (wpAny_items_cons (nmL S₉ (upd_ne (by decide) (upd_ne (by decide) m3)) (wpAny_items_nil ⟨⟨S₉.fr.keep _ _ fl.at_, fl.d⟩, ?_⟩))))⟩)))
        try dsimp only
        refine law_live_spec hA' (W.keeps S₉.fr.keep) el S₉.at huv (by omega) hri.2 fun r g₁₀ h₁₀ tk₁₀ hx₁₀ ha₁₀ hn₁₀ D₁₀ => ?_
        try dsimp only
        have S₁₀ := S₉.back hx₁₀ ha₁₀ hn₁₀
        have D₁₀' := D₁₀.mono (g' := g₁₀ ++ g') fun _ hp => List.mem_append_left _ hp
        have hlb := live_length cap st.2
        have hob := live_ok (cap := cap) hri.2
        refine stL S₁₀ fun h₁₁ S₁₁ => ?_
        try dsimp only
        obtain ⟨mm, S₁₁, n1, n2, n3, n4, n5, n6⟩ : ∃ mm : Str → Option Value, St s.heap L g mm [(I, io), (lg, lstO vs n), (L + 1, oc₈)] (g₁₀ ++ g') h₁₁ ∧ mm "uses" = some uv ∧ mm "gave" = some (.ref lg) ∧ mm "capacity" = some (.int cap t) ∧ (∃ tk, mm "kind" = some (.str "put" tk)) ∧ mm "before" = some r ∧ ∃ tv, mm "value" = some (.int v0 tv) :=
          ⟨_, S₁₁, upd_ne (by decide) (upd_ne (by decide) (upd_ne (by decide) m1)), upd_ne (by decide) (upd_ne (by decide) (upd_ne (by decide) m2)), upd_ne (by decide) (upd_ne (by decide) (upd_ne (by decide) m3)), ⟨_, rfl⟩, upd_eq, _, rfl⟩
        obtain ⟨tkk, n4⟩ := n4
        obtain ⟨tvv, n6⟩ := n6
        refine wpAny_execs_cons (wpAny_If (wpAny_isTrue_Compare1 (nmL S₁₁ n4 (wpAny_Constant_str (eqS false (by decide) (wpAny_truthy_bool ?_))))))
        try dsimp only
        refine wpAny_execs_cons (wpAny_Assign_Name (wpAny_BinOp (nmL S₁₁ n1 (List_ (wpAny_items_cons (Tuple_ (wpAny_items_cons (nmC' S₁₁ rfl (.tail _ (.tail _ (.head _))) hoc₈ (wpAny_items_cons (nmL S₁₁ n6 (wpAny_items_nil (mkTup S₁₁ (by simp) fun h₁₂ a₁₂ S₁₂ => ?_)))))))))))) 
        try dsimp only
        refine wpAny_items_nil (mkLst S₁₂ (by simp) fun h₁₃ a₁₃ S₁₃ => ?_)
        refine addL S₁₃ (huv.mono fun p hp => .tail _ (.tail _ (List.mem_append_right _ hp))) (es := [(k, v0)].map pairD) (.list (.head _) (.cons (.tuple (.tail _ (.head _)) (.cons (.str _ _) (.cons (.int _ _) .nil))) .nil)) (by simp; omega) fun h₁₄ x₁₄ o₁₄ S₁₄ D₁₄ => stL S₁₄ fun h₁₅ S₁₅ => ?_
        rw [← List.map_append] at D₁₄
        have hst2 : rstep cap st.2 (.put k v0) = (.str (goneOf ((live cap (st.2 ++ [(k, v0)])).map (·.1)) (live cap st.2)), st.2 ++ [(k, v0)]) := rfl
        rw [hst2] at hri1 hend
        refine wpAny_execs_cons (wpAny_Assign_Name (callU (o := ol) (fd := docF 12 pml cdl dcl) (nmG S₁₅ W el ⟨rfl, wpAny_items_cons (nmL S₁₅ rfl (wpAny_items_cons (nmL S₁₅ (upd_ne (by decide) n3) (wpAny_items_nil ⟨⟨S₁₅.fr.keep _ _ fl.at_, fl.d⟩, ?_⟩))))⟩)))
        try dsimp only
        refine law_live_spec hA' (W.keeps S₁₅.fr.keep) el S₁₅.at D₁₄ (by have := hri1.1; simp at this ⊢; omega) hri1.2 fun r₂ g₁₆ h₁₆ tk₁₆ hx₁₆ ha₁₆ hn₁₆ D₁₆ => ?_
        try dsimp only
        have S₁₆ := S₁₅.back hx₁₆ ha₁₆ hn₁₆
        have hla := live_length cap (st.2 ++ [(k, v0)])
        have hoa := live_ok (cap := cap) hri1.2
        obtain ⟨aft, hA₁⟩ : ∃ aft, live cap (st.2 ++ [(k, v0)]) = aft := ⟨_, rfl⟩
        obtain ⟨bef, hB₁⟩ : ∃ bef, live cap st.2 = bef := ⟨_, rfl⟩
        rw [hA₁] at hla hoa hend D₁₆
        rw [hB₁] at hlb hob hend D₁₀'
        refine stL S₁₆ fun h₁₇ S₁₇ => ?_
        try dsimp only
        refine wpAny_execs_cons (compA (fun _ => true) fstD hA'.hd S₁₇ (D₁₆.mono fun _ hp => List.mem_append_left _ hp) (by have := hri1.1; simp at this hla ⊢; omega) (fun Q' hq => nmL S₁₇ rfl hq) rfl (fun C v d s₃ m₃ E' hd hv hn hm hx => test0 ⟨rfl, keeps_self _⟩) (fun C v d s₃ m₃ E' hd hv hn hm hx => ?_) fun h₁₈ tk₁₈ b₁₈ o₁₈ S₁₈ D₁₈ => ?_)
        · obtain ⟨p, hp, rfl⟩ := List.mem_map.mp hd
          exact Subscript_ (cvL hn hm (wpAny_Constant_int (sbTh (i := 0) (fun p hp => hx _ _ (S₁₇.at p hp)) hv rfl (by simp) fun x hx' => ⟨hx', keeps_toks _ _⟩)))
        rw [filter_all, List.map_map, show fstD ∘ pairD = fun p => PyData.str p.1 from rfl] at D₁₈
        dsimp only
        refine wpAny_execs_cons (wpAny_Assign_Name (wpAny_Constant_str (stL S₁₈ fun h₁₉ S₁₉ => ?_)))
        try dsimp only
        refine wpAny_execs_cons (wpAny_For (nmL S₁₉ (upd_ne (by decide) (upd_ne (by decide) (upd_ne (by decide) (upd_ne (by decide) n5)))) (forL
          (fun j m' u' g'' => u' = [(I, io), (lg, lstO vs n), (L + 1, oc₈)] ∧ m' "uses" = some (.ref x₁₄) ∧ m' "gave" = some (.ref lg) ∧ m' "capacity" = some (.int cap t) ∧ m' "stay" = some (.ref b₁₈) ∧ ∃ av, m' "answer" = some av ∧ DL g'' av (.str (goneOf (aft.map (·.1)) (bef.take j))))
          hA'.hd S₁₉ (D₁₀'.mono fun p hp => .tail _ (List.mem_append_right _ (.tail _ (.tail _ (.tail _ hp))))) ⟨rfl, rfl, upd_ne (by decide) (upd_ne (by decide) (upd_ne (by decide) (upd_ne (by decide) n2))), upd_ne (by decide) (upd_ne (by decide) (upd_ne (by decide) (upd_ne (by decide) n3))), rfl, _, rfl, .str _ _⟩ (lets_name _ _) ?_ ?_)))
        · rintro j d' v m' u' g'' h tk₂ I₂ io₂ hd' hv hsub₂ ⟨rfl, q1, q2, q3, q4, av, q5, q5'⟩ S₂₀
          have hj : j < bef.length := by have := (List.getElem?_eq_some_iff.mp hd').1; simpa using this
          have hop : d' = pairD (bef[j]) := by simp [List.getElem?_map, List.getElem?_eq_getElem hj] at hd'; exact hd'.symm
          have htk : bef.take (j + 1) = bef.take j ++ [bef[j]] := by rw [List.take_add_one, List.getElem?_eq_getElem hj]; rfl
          have hkp := hob _ (List.getElem_mem hj)
          subst hop
          have hv' := hv.mono hsub₂
          have hgo : goneOf (aft.map (·.1)) (bef.take (j + 1)) = if (aft.map (·.1)).any (fun x => decide (x = bef[j].1)) then goneOf (aft.map (·.1)) (bef.take j) else bef[j].1 := by
            rw [htk, goneOf, List.foldl_append]; rfl
          refine wpAny_assign_Name (stL S₂₀ fun h₂₁ S₂₁ => ?_)
          refine wpAny_execs_cons (wpAny_If (wpAny_isTrue_Compare1 (Subscript_ (nmL S₂₁ upd_eq (wpAny_Constant_int (sbT (i := 0) S₂₁ hv' rfl (by simp) fun x hx => ?_))))))
          try dsimp only
          have D₁₈' : DL g'' (.ref b₁₈) (.list ((aft.map (·.1)).map .str)) := by rw [List.map_map]; exact D₁₈.mono hsub₂
          refine nmL S₂₁ (upd_ne (by decide) q4) (notInL hA' S₂₁ D₁₈' hx (lay_strs fun x hx => ?_) hkp (by simp [PyData.depth]) (wpAny_truthy_bool ?_))
          · obtain ⟨p, hp, rfl⟩ := List.mem_map.mp hx; exact hoa p hp
          cases hc : (aft.map (·.1)).any fun x => decide (x = bef[j].1) with
          | true =>
            rw [hc, if_pos rfl] at hgo
            rw [show ((aft.map (·.1)).map PyData.str).any (fun y => PyData.eqv y (.str bef[j].1)) = true from (any_strs _ _).trans hc]
            refine wpAny_execs_nil (wpAny_execs_nil (TurnEnd.next ⟨hsub₂, rfl, upd_ne (by decide) q1, upd_ne (by decide) q2, upd_ne (by decide) q3, upd_ne (by decide) q4, _, upd_ne (by decide) q5, hgo.symm ▸ q5'⟩ S₂₁))
          | false =>
            rw [hc, if_neg (by decide)] at hgo
            rw [show ((aft.map (·.1)).map PyData.str).any (fun y => PyData.eqv y (.str bef[j].1)) = false from (any_strs _ _).trans hc]
            refine wpAny_execs_cons (wpAny_Assign_Name (Subscript_ (nmL S₂₁ upd_eq (wpAny_Constant_int (sbT (i := 0) S₂₁ hv' rfl (by simp) fun x hx => stL S₂₁ fun h₂₂ S₂₂ => ?_)))))
            try dsimp only
            refine wpAny_execs_nil (wpAny_execs_nil (TurnEnd.next ⟨hsub₂, rfl, upd_ne (by decide) (upd_ne (by decide) q1), upd_ne (by decide) (upd_ne (by decide) q2), upd_ne (by decide) (upd_ne (by decide) q3), upd_ne (by decide) (upd_ne (by decide) q4), _, upd_eq, hgo.symm ▸ hx⟩ S₂₂))
        · rintro m' u' g'' h tk₂ hsub₂ ⟨rfl, q1, q2, q3, q4, av, q5, q5'⟩ S₂₀
          rw [List.length_map, List.take_length] at q5'
          dsimp only
          refine wpAny_execs_nil ?_
          dsimp only
          refine wpAny_execs_cons (wpAny_Expr (callM "list" "list.append" PySem.F.plainAttrs_list PySem.F.slot_list_append PySem.F.type_list_append (nmL S₂₀ q2 ⟨⟨_, (S₂₀.un _ (.tail _ (.head _))).1, rfl⟩, fun b e => by cases e; exact ⟨_, (S₂₀.un _ (.tail _ (.head _))).1, rfl⟩,
            wpAny_items_cons (nmL S₂₀ q5 (wpAny_items_nil (lApp (U := fun n' => [(I, io), (lg, lstO (vs ++ [_]) n'), (L + 1, oc₈)]) S₂₀ (fun n' => .tail .head) hl3 fun h₂₁ n₂₁ S₂₁ => ?_)))⟩)))
          refine wpAny_execs_nil (TurnEnd.next ⟨fun p hp => hsub₂ _ (.tail _ (List.mem_append_right _ (.tail _ (.tail _ (.tail _ (List.mem_append_right _ (hsub p hp))))))), _, n₂₁, oc₈, _, _, rfl, hoc₈, q1, q2, q3, ?_, ?_⟩ S₂₁)
          · rw [hend]; exact (hvs.mono fun p hp => hsub₂ _ (.tail _ (List.mem_append_right _ (.tail _ (.tail _ (.tail _ (List.mem_append_right _ hp))))))).append (.cons q5' .nil)
          · rw [hend]; exact D₁₄.mono fun p hp => hsub₂ _ (.tail _ (List.mem_append_right _ hp))
    · rintro m u g' h tk₁ hsub ⟨vs, n, oc, kv, uv, rfl, hoc, m1, m2, m3, hvs, huv⟩ S₅
      have hri := hr (ops.map Op.d).length
      have htk : ops.take (ops.map Op.d).length = ops := by rw [List.length_map, List.take_length]
      rw [htk] at hvs huv hri
      refine wpAny_execs_cons (wpAny_Return_some (Tuple_ (wpAny_items_cons (nmL S₅ m2 (wpAny_items_cons (callU (o := ol) (fd := docF 12 pml cdl dcl) (nmG S₅ W el ⟨rfl, wpAny_items_cons (nmL S₅ m1 (wpAny_items_cons (nmL S₅ m3 (wpAny_items_nil ⟨⟨S₅.fr.keep _ _ fl.at_, fl.d⟩, ?_⟩))))⟩)))))))
      try dsimp only
      refine law_live_spec hA' (W.keeps S₅.fr.keep) el S₅.at huv (by omega) hri.2 fun r g₁₀ h₁₀ tk₁₀ hx₁₀ ha₁₀ hn₁₀ D₁₀ => ?_
      try dsimp only
      have S₁₀ := S₅.back hx₁₀ ha₁₀ hn₁₀
      refine wpAny_items_nil (mkTup S₁₀.freeze (by simp) fun h₁₁ a₁₁ S₁₁ => ?_)
      exact hk _ _ _ _ S₁₁.fr.keep S₁₁.at S₁₁.prov (.tuple (.head _) (.cons (.list (n := n) (.tail _ (.head _)) (hvs.mono fun _ hp => .tail _ (.tail _ (List.mem_append_right _ hp)))) (.cons (D₁₀.mono fun _ hp => .tail _ (.tail _ (List.mem_append_left _ hp))) .nil)))
  · intro x hx
    simp only [List.mem_cons, List.not_mem_nil, or_false] at hx
    rcases hx with rfl | rfl
    · exact .inl rfl
    · exact .inl rfl
end
end Mine
end
section
open PySem PyProof.Rows PySem.Calls
namespace Mine
def keyOf (c : Int) : Str := match (c.fmod 4).toNat with
  | 0 => "a" | 1 => "b" | 2 => "c" | _ => "d"
def opOf (p : Int × Int) : Op := if p.1.fmod 12 < 4 then .get (keyOf p.1) else .put (keyOf p.1) p.2
def cellD (p : Int × Int) : PyData := .tuple [.int p.1, .int p.2]
theorem keyOf_at (c : Int) (t1 t2 t3 t4 : Tok) : (∃ t, ([.str "a" t1, .str "b" t2, .str "c" t3, .str "d" t4] : List Value)[(c.fmod 4).toNat]? = some (.str (keyOf c) t)) ∧ 0 ≤ c.fmod 4 ∧ c.fmod 4 < 4 := by
  have h1 := Int.fmod_nonneg_of_pos c (show (0 : Int) < 4 by decide)
  have h2 := Int.fmod_lt_of_pos c (show (0 : Int) < 4 by decide)
  refine ⟨?_, h1, h2⟩
  unfold keyOf
  have h3 : (c.fmod 4).toNat < 4 := by omega
  generalize (c.fmod 4).toNat = n at h3
  match n, h3 with
  | 0, _ => exact ⟨_, rfl⟩
  | 1, _ => exact ⟨_, rfl⟩
  | 2, _ => exact ⟨_, rfl⟩
  | 3, _ => exact ⟨_, rfl⟩
theorem keyOf_ok (c : Int) : PyData.strOk (keyOf c) = true := by
  unfold keyOf; split <;> decide +kernel
theorem opOf_ok (p : Int × Int) : PyData.strOk (opOf p).key = true := by
  unfold opOf; split <;> exact keyOf_ok _

section
variable {prog : Program} {w : World} {A : Around} {E : Value → Shared → Prop} {s : Shared} {g : Lg} {ds : List PyData}
theorem keyT {Q : Value → Shared → Prop} {value slice : Expr} {a : Addr} {o : Obj} {c : Int} {t t1 t2 t3 t4 : Tok} {n : Nat} (ho : s.heap.get? a = some o) (hc : o.cls = .type "tuple") (hd : o.data = .seq #[.str "a" t1, .str "b" t2, .str "c" t3, .str "d" t4] n)
    (h : ∀ t, Q (.str (keyOf c) t) s)
    (hs : ∀ l, subscripted slice false (.ref l) (.int (c.fmod 4) t) = operate [.ref l, .int (c.fmod 4) t] (getItem (.ref l) (.int (c.fmod 4) t)) := by intro l; with_unfolding_all rfl) :
    wpAny (model prog w) A (subscriptTail value slice (.ref a) (.int (c.fmod 4) t)) Q E s := by
  obtain ⟨⟨tk, hk⟩, h1, h2⟩ := keyOf_at c t1 t2 t3 t4
  exact item_tupleT (l := [.str "a" t1, .str "b" t2, .str "c" t3, .str "d" t4]) (j := (c.fmod 4).toNat) ⟨_, ho, hc, _, hd⟩ (by omega) (by omega) (by simp [seqIndex?]; omega) (by simpa using hk) (h tk) (hs a)
end

section
variable {prog : Program} {w : World} {A : Around} {E : Value → Shared → Prop} {s : Shared} {mg mb : Str → Option Value} {a : Addr} {g : Lg} {cv : Value} {t : Tok} {Q : Value → Shared → Prop} {cs : List (Int × Int)} {n : Nat}

set_option maxHeartbeats 1000000 in
theorem law_ops_spec (hA : OkA A 1) (W : Wd mg mb s.heap) (ha : mg (fdAt 11).name = some (.ref a)) (hg : ∀ p ∈ g, s.heap.get? p.1 = some p.2) (D : DL g cv (.list (cs.map cellD))) (hlen : cs.length ≤ 100) (hn : n ≤ cs.length)
    (hk : ∀ r g' h' tk, Ext s.heap h' → (∀ p ∈ g', h'.get? p.1 = some p.2) → (∀ p ∈ g', p ∈ g ∨ s.heap.get? p.1 = none) → DL g' r (.list (((cs.take n).map opOf).map Op.d)) → Q r { s with heap := h', toks := tk }) :
    wpAny (model prog w) A (call (.ref a) [cv, .int n t]) Q E s := by
  obtain ⟨of, pm, cd, dc, fn⟩ := fn_of W (i := 11) (by decide) ha
  obtain ⟨ak, ok, t1, t2, t3, t4, nk, ek, hkk, hkc, hkd⟩ := W.keys
  refine enterP (i := 11) (n := 0) (hb := s.heap) (u := []) (g := g) (binds := [("cells", cv), ("size", .int n t)]) hA fn W.nolimit (Ext.refl _) (Nat.le_refl _)
    (fun _ h => nomatch h) hg (fun _ _ _ h => nomatch h) (by simp) rfl ?_
  intro L h₁ tk S hA'
  conv in (fdAt 11).body => whnf
  refine wpAny_execs_cons (wpAny_Assign_Name (List_ (wpAny_items_nil (mkLstU S (Nat.zero_le _) fun h₃ lg S₃ => stL S₃ fun h₄ S₄ => ?_))))
  dsimp only
  refine wpAny_execs_cons (wpAny_For (slE (nmL S₄ rfl (wpAny_evalPart_none (wpAny_evalPart_some (nmL S₄ rfl ?_))))))
  refine slK S₄ D (by simp; omega) .none (.int _ _) (pick_upto n (by simpa using hn)) fun h₅ x₅ g₅ S₅ D₅ => ?_
  rw [← List.map_take] at D₅
  dsimp only
  refine forL
    (fun i m u g' => ∃ vs k, u = [(lg, lstO vs k)] ∧ m "ops" = some (.ref lg) ∧ DLs g' vs ((((cs.take n).take i).map opOf).map Op.d))
    hA'.hd S₅ D₅ ⟨[], 0, rfl, rfl, .nil⟩ (lets_tuple _ _ _) ?_ ?_
  · rintro i d' v m u g' h tk₁ I io hd' hv hsub ⟨vs, nn, rfl, m2, hvs⟩ S₅
    have hi : i < (cs.take n).length := by have := (List.getElem?_eq_some_iff.mp hd').1; simpa using this
    have hop : d' = cellD ((cs.take n)[i]) := by rw [List.getElem?_map, List.getElem?_eq_getElem hi] at hd'; exact (Option.some.inj hd').symm
    have htk : (cs.take n).take (i + 1) = (cs.take n).take i ++ [(cs.take n)[i]] := by rw [List.take_add_one, List.getElem?_eq_getElem hi]; rfl
    have hvz : vs.length ≤ 1000 := by have := hvs.length; simp only [List.length_map, List.length_take] at this; omega
    subst hop
    have hv' := hv.mono hsub
    obtain ⟨c, hc⟩ : ∃ c, (cs.take n)[i] = c := ⟨_, rfl⟩
    rw [hc] at hv' htk
    refine unT hA'.hd S₅ hv' rfl fun vs₆ h₆ D₆ S₆ => ?_
    cases D₆ with | cons d1 D₆ => cases D₆ with | cons d2 D₆ => cases D₆ with | nil =>
    cases d1; cases d2
    refine assignInOrder_cons (wpAny_assign_Name (stL S₆ fun h₇ S₇ => assignInOrder_cons (wpAny_assign_Name (stL S₇ fun h₉ S₉ => assignInOrder_nil ?_))))
    dsimp only
    refine wpAny_execs_cons (wpAny_Assign_Name (Subscript_ (nmG S₉ W ek (wpAny_BinOp (nmL S₉ rfl (wpAny_Constant_int (PyProof.Rows.mod_int' (by decide) ?_)))))))
    refine keyT (S₉.fr.keep _ _ hkk) hkc hkd fun tkk => ?_
    refine stL S₉ fun h₁₀ S₁₀ => ?_
    dsimp only
    refine wpAny_execs_cons (wpAny_If (wpAny_isTrue_Compare1 (wpAny_BinOp (nmL S₁₀ rfl (wpAny_Constant_int (PyProof.Rows.mod_int' (by decide) (wpAny_Constant_int (PyProof.Rows.lt_int (wpAny_truthy_bool ?_)))))))))
    dsimp only
    by_cases hc4 : c.1.fmod 12 < 4
    · have ho : opOf c = .get (keyOf c.1) := by unfold opOf; rw [if_pos hc4]
      rw [decide_eq_true hc4]
      refine wpAny_execs_cons (wpAny_Expr (callM "list" "list.append" PySem.F.plainAttrs_list PySem.F.slot_list_append PySem.F.type_list_append (nmL S₁₀ (upd_ne (by decide) (upd_ne (by decide) (upd_ne (by decide) m2))) ⟨⟨_, (S₁₀.un _ (.tail _ (.head _))).1, rfl⟩, fun b e => by cases e; exact ⟨_, (S₁₀.un _ (.tail _ (.head _))).1, rfl⟩,
        wpAny_items_cons (Tuple_ (wpAny_items_cons (wpAny_Constant_str (wpAny_items_cons (nmL S₁₀ upd_eq (wpAny_items_cons (wpAny_Constant_int (wpAny_items_nil (mkTup S₁₀ (by simp) fun h₁₁ a₁₁ S₁₁ => wpAny_items_nil (lApp (U := fun n' => [(I, io), (lg, lstO (vs ++ [_]) n')]) S₁₁ (fun n' => .tail .head) hvz fun h₁₂ n₁₂ S₁₂ => ?_))))))))))⟩)))
      dsimp only
      refine wpAny_execs_nil (wpAny_execs_nil (TurnEnd.next ⟨fun p hp => .tail _ (hsub p hp), _, n₁₂, rfl, upd_ne (by decide) (upd_ne (by decide) (upd_ne (by decide) m2)), ?_⟩ S₁₂))
      rw [htk, List.map_append, List.map_append]
      refine (hvs.mono fun _ hp => .tail _ hp).append (.cons ?_ .nil)
      rw [ho]
      exact .tuple (.head _) (.cons (.str _ _) (.cons (.str _ _) (.cons (.int _ _) .nil)))
    · have ho : opOf c = .put (keyOf c.1) c.2 := by unfold opOf; rw [if_neg hc4]
      rw [decide_eq_false hc4]
      refine wpAny_execs_cons (wpAny_Expr (callM "list" "list.append" PySem.F.plainAttrs_list PySem.F.slot_list_append PySem.F.type_list_append (nmL S₁₀ (upd_ne (by decide) (upd_ne (by decide) (upd_ne (by decide) m2))) ⟨⟨_, (S₁₀.un _ (.tail _ (.head _))).1, rfl⟩, fun b e => by cases e; exact ⟨_, (S₁₀.un _ (.tail _ (.head _))).1, rfl⟩,
        wpAny_items_cons (Tuple_ (wpAny_items_cons (wpAny_Constant_str (wpAny_items_cons (nmL S₁₀ upd_eq (wpAny_items_cons (nmL S₁₀ rfl (wpAny_items_nil (mkTup S₁₀ (by simp) fun h₁₁ a₁₁ S₁₁ => wpAny_items_nil (lApp (U := fun n' => [(I, io), (lg, lstO (vs ++ [_]) n')]) S₁₁ (fun n' => .tail .head) hvz fun h₁₂ n₁₂ S₁₂ => ?_))))))))))⟩)))
      dsimp only
      refine wpAny_execs_nil (wpAny_execs_nil (TurnEnd.next ⟨fun p hp => .tail _ (hsub p hp), _, n₁₂, rfl, upd_ne (by decide) (upd_ne (by decide) (upd_ne (by decide) m2)), ?_⟩ S₁₂))
      rw [htk, List.map_append, List.map_append]
      refine (hvs.mono fun _ hp => .tail _ hp).append (.cons ?_ .nil)
      rw [ho]
      exact .tuple (.head _) (.cons (.str _ _) (.cons (.str _ _) (.cons (.int _ _) .nil)))
  · rintro m u g' h tk₁ hsub ⟨vs, nn, rfl, m2, hvs⟩ S₅
    rw [List.length_map, List.take_length] at hvs
    have S₆ := S₅.freeze
    exact wpAny_execs_cons (wpAny_Return_some (nmL S₆ m2 (hk _ _ _ _ S₆.fr.keep S₆.at S₆.prov (.list (.head _) (hvs.mono fun _ hp => .tail _ hp)))))
end
end Mine
end
section
open PySem PyProof.Rows PySem.Calls
namespace Mine
def dueOf (ps : Ps) (k : Str) (v room : Int) : Str × Ps :=
  if (drop ps k).length = ps.length ∧ (ps.length : Int) ≥ room then match ps with
    | [] => ("", [])
    | p :: r => (p.1, r ++ [(k, v)])
  else ("", drop ps k ++ [(k, v)])

section
variable {prog : Program} {w : World} {A : Around} {E : Value → Shared → Prop} {s : Shared} {mg mb : Str → Option Value} {a : Addr} {g : Lg} {pv : Value} {k : Str} {t tv tc : Tok} {Q : Value → Shared → Prop} {ps : Ps} {v room : Int}

set_option maxHeartbeats 1000000 in
theorem law_put_due_spec (hA : OkA A 1) (W : Wd mg mb s.heap) (ha : mg (fdAt 14).name = some (.ref a)) (hg : ∀ p ∈ g, s.heap.get? p.1 = some p.2) (D : DL g pv (.list (ps.map pairD))) (hlen : ps.length ≤ 100) (hroom : 1 ≤ room)
    (hk : ∀ r g' h' tk, Ext s.heap h' → (∀ p ∈ g', h'.get? p.1 = some p.2) → (∀ p ∈ g', p ∈ g ∨ s.heap.get? p.1 = none) → DL g' r (.tuple [.str (dueOf ps k v room).1, .list ((dueOf ps k v room).2.map pairD)]) → Q r { s with heap := h', toks := tk }) :
    wpAny (model prog w) A (call (.ref a) [pv, .str k t, .int v tv, .int room tc]) Q E s := by
  obtain ⟨of, pm, cd, dc, fn⟩ := fn_of W (i := 14) (by decide) ha
  refine enterC (i := 14) (n := 0) (g := g) (binds := [("pairs", pv), ("key", .str k t), ("value", .int v tv), ("room", .int room tc)]) hA fn W.nolimit hg rfl ?_ ?_
  · intro L h₁ tk cells S Y hA'
    obtain ⟨oc, rfl, hoc⟩ := CellsAre.one (n := "key") (c := L + 1) Y
    conv in (fdAt 14).body => whnf
    have hoc' : oc.data = .cell (some (.str k t)) := hoc
    refine wpAny_execs_cons (compA (fun d => !isKey k d) id hA'.hd S D (by simp; omega) (fun Q' hq => nmL S rfl hq) rfl (fun C v d s₃ m₃ E' hd hv hn hm hx => ?_) (fun C v d s₃ m₃ E' hd hv hn hm hx => ?_) fun h₃ tk₃ b₃ o₃ S₃ D₃ => ?_)
    · obtain ⟨p, hp, rfl⟩ := List.mem_map.mp hd
      refine test1 (wpAny_isTrue_Compare1 (Subscript_ (cvL hn hm (wpAny_Constant_int (sbTh (i := 0) (fun p hp => hx _ _ (S.at p hp)) hv rfl (by simp) fun x hx' => ?_)))))
      cases hx'
      exact cvC rfl (hx _ _ (S.un _ (.head _)).1) hoc' (neS _ rfl (wpAny_truthy_bool ⟨rfl, keeps_toks _ _⟩))
    · exact cvL hn hm ⟨hv, keeps_self _⟩
    rw [notKey_filter] at D₃
    have hl2 := drop_length_le ps k
    have D' := D.mono (g' := (b₃, o₃) :: g) fun _ hp => .tail _ hp
    dsimp only
    have last : ∀ tk₄, dueOf ps k v room = (("" : Str), drop ps k ++ [(k, v)]) →
        wpAny (model prog w) (A.deeper (eX (fdAt 14).name (fdAt 14).scope L a cd (cellsFrom (L + 1) (fdAt 14).scope.names []))) (execs ((fdAt 14).body.drop 2) (eX (fdAt 14).name (fdAt 14).scope L a cd (cellsFrom (L + 1) (fdAt 14).scope.names [])))
          (fun fl s' => Q (match fl with | .ret v => v | _ => .none) s') (fun _ _ => False) { s with heap := h₃, toks := tk₄ } := by
      intro tk₄ e
      conv in (List.drop 2 (fdAt 14).body) => whnf
      refine wpAny_execs_cons (wpAny_Return_some (Tuple_ (wpAny_items_cons (wpAny_Constant_str (wpAny_items_cons (wpAny_BinOp (nmL S₃ rfl (List_ (wpAny_items_cons (Tuple_ (wpAny_items_cons (nmC' S₃ rfl (.head _) hoc' (wpAny_items_cons (nmL S₃ rfl (wpAny_items_nil (mkTup S₃ (by simp) fun h₄ a₄ S₄ => ?_))))))))))))))))
      refine wpAny_items_nil (mkLst S₄ (by simp) fun h₅ a₅ S₅ => ?_)
      refine addL S₅ (D₃.mono fun _ hp => .tail _ (.tail _ hp)) (es := [(k, v)].map pairD) (.list (.head _) (.cons (.tuple (.tail _ (.head _)) (.cons (.str _ _) (.cons (.int _ _) .nil))) .nil)) (by simp; omega) fun h₆ x₆ o₆ S₆ D₆ => ?_
      rw [← List.map_append] at D₆
      refine wpAny_items_nil (mkTup S₆ (by simp) fun h₇ a₇ S₇ => ?_)
      refine hk _ _ _ _ S₇.fr.keep S₇.at S₇.prov ?_
      rw [e]
      exact .tuple (.head _) (.cons (.str _ _) (.cons (D₆.mono fun _ hp => .tail _ hp) .nil))
    refine wpAny_execs_cons (wpAny_If (isTrue_and (wpAny_isTrue_Compare1 (callB "len" (nmB S₃ W (W.free _ (by decide)) rfl ⟨rfl, wpAny_items_cons (nmL S₃ rfl (wpAny_items_nil (lLen S₃ D₃ (by simp; omega) (callB "len" (nmB S₃ W (W.free _ (by decide)) rfl ⟨rfl, wpAny_items_cons (nmL S₃ rfl (wpAny_items_nil (lLen S₃ D' (by simp; omega) (PyProof.Rows.eq_int (wpAny_truthy_bool ?_)))))⟩)))))⟩)))))
    dsimp only
    rw [List.length_map, List.length_map]
    by_cases hc : (drop ps k).length = ps.length
    · rw [show (((drop ps k).length : Int) == (ps.length : Int)) = true by rw [hc]; simp]
      refine isTrue_and (wpAny_isTrue_Compare1 (callB "len" (nmB S₃ W (W.free _ (by decide)) rfl ⟨rfl, wpAny_items_cons (nmL S₃ rfl (wpAny_items_nil (lLen S₃ D' (by simp; omega) (nmL S₃ rfl (PyProof.Rows.ge_int (wpAny_truthy_bool ?_))))))⟩)))
      dsimp only
      rw [List.length_map]
      by_cases hc2 : (ps.length : Int) ≥ room
      · rw [decide_eq_true hc2]
        refine isTrue_and_nil ?_
        obtain ⟨p, r, rfl⟩ : ∃ p r, ps = p :: r := by
          cases ps with
          | nil => simp at hc2; omega
          | cons p r => exact ⟨p, r, rfl⟩
        · have hdue : dueOf (p :: r) k v room = (p.1, r ++ [(k, v)]) := by unfold dueOf; rw [if_pos ⟨hc, hc2⟩]
          rw [hdue] at hk
          simp only [List.length_cons] at hlen
          refine wpAny_execs_cons (wpAny_Return_some (Tuple_ (wpAny_items_cons (Subscript_ (Subscript_ (nmL S₃ rfl (wpAny_Constant_int (sbL (i := 0) S₃ D' rfl (by simp; omega) fun y hy => wpAny_Constant_int (sbT (i := 0) S₃ hy rfl (by simp) fun z hz => ?_)))))))))
          cases hz
          refine wpAny_items_cons (wpAny_BinOp (slE (nmL S₃ rfl (wpAny_evalPart_some (wpAny_Constant_int (wpAny_evalPart_none ?_))))))
          refine slK S₃ D' (by simp; omega) (.int _ _) .none (pick_from 1 (by simp)) fun h₆ x₆ g₆ S₆ D₆ => ?_
          dsimp only
          refine List_ (wpAny_items_cons (Tuple_ (wpAny_items_cons (nmC' S₆ rfl (.head _) hoc' (wpAny_items_cons (nmL S₆ rfl (wpAny_items_nil (mkTup S₆ (by simp) fun h₇ a₇ S₇ => ?_))))))))
          refine wpAny_items_nil (mkLst S₇ (by simp) fun h₈ a₈ S₈ => ?_)
          rw [← List.map_drop] at D₆
          refine addL S₈ (D₆.mono fun _ hp => .tail _ (.tail _ hp)) (es := [(k, v)].map pairD) (.list (.head _) (.cons (.tuple (.tail _ (.head _)) (.cons (.str _ _) (.cons (.int _ _) .nil))) .nil)) (by simp; omega) fun h₉ x₉ o₉ S₉ D₉ => ?_
          rw [← List.map_append] at D₉
          refine wpAny_items_nil (mkTup S₉ (by simp) fun h₁₀ a₁₀ S₁₀ => ?_)
          refine hk _ _ _ _ S₁₀.fr.keep S₁₀.at S₁₀.prov ?_
          exact .tuple (.head _) (.cons (.str _ _) (.cons (D₉.mono fun _ hp => .tail _ hp) .nil))
      · rw [decide_eq_false hc2]
        refine wpAny_execs_nil ?_
        dsimp only
        exact last _ (by unfold dueOf; rw [if_neg fun h => hc2 h.2])
    · rw [show (((drop ps k).length : Int) == (ps.length : Int)) = false by simp; omega]
      refine wpAny_execs_nil ?_
      dsimp only
      exact last _ (by unfold dueOf; rw [if_neg fun h => hc h.1])
  · intro x hx
    simp only [List.mem_cons, List.not_mem_nil, or_false] at hx
    rcases hx with rfl | rfl | rfl | rfl
    · exact .inl rfl
    · exact .inr ⟨rfl, rfl⟩
    · exact .inl rfl
    · exact .inl rfl

def Atom : PyData → Prop
  | .none => True
  | .int _ => True
  | .str x => PyData.strOk x = true
  | _ => False
theorem lay_atoms {as : List PyData} (h : ∀ x ∈ as, Atom x) : PyData.canLayAll0 as = true ∧ PyData.depthAll as ≤ 1 := by
  induction as with
  | nil => simp [PyData.canLayAll0, PyData.depthAll]
  | cons x r ih =>
    have h1 := h x (.head _)
    have h2 := ih fun y hy => h y (.tail _ hy)
    cases x <;> simp [Atom] at h1 <;> simp [PyData.canLayAll0, PyData.canLay0, PyData.depthAll, PyData.depth, h1, h2] <;> omega
theorem shaped_res {as : List PyData} {ps : Ps} (h : ∀ x ∈ as, Atom x) (hp : OkPs ps) : PySem.SeqAt.shaped (.tuple [.list as, .list (ps.map pairD)]) = true := by
  have h1 := lay_atoms h
  have h2 := depth_pairs ps
  simp [PySem.SeqAt.shaped, PyData.canLay0, PyData.canLayAll0, lay_pairs hp, h1.1, PyData.depth, PyData.depthAll]; omega

theorem canLay_of_sh {d : PyData} (h : PySem.SeqAt.shaped d = true) : d.canLay0 = true := PySem.SeqAt.canLay_of_shaped h

set_option maxHeartbeats 1000000 in
theorem law_same_spec {gv wv : Value} {as : List PyData} (hA : OkA A 1) (W : Wd mg mb s.heap) (ha : mg (fdAt 15).name = some (.ref a)) (hg : ∀ p ∈ g, s.heap.get? p.1 = some p.2) (D : DL g gv (.tuple [.list as, .list (ps.map pairD)])) (Dw : DL g wv (.tuple [.list as, .list (ps.map pairD)]))
    (hat : ∀ x ∈ as, Atom x) (hp : OkPs ps) (hl1 : as.length ≤ 100) (hl2 : ps.length ≤ 100)
    (hk : ∀ h' tk, Ext s.heap h' → Q (.bool true) { s with heap := h', toks := tk }) :
    wpAny (model prog w) A (call (.ref a) [gv, wv]) Q E s := by
  obtain ⟨of, pm, cd, dc, fn⟩ := fn_of W (i := 15) (by decide) ha
  refine enterP (i := 15) (n := 0) (hb := s.heap) (u := []) (g := g) (binds := [("got", gv), ("want", wv)]) hA fn W.nolimit (Ext.refl _) (Nat.le_refl _)
    (fun _ h => nomatch h) hg (fun _ _ _ h => nomatch h) (by simp) rfl ?_
  intro L h₁ tk S hA'
  conv in (fdAt 15).body => whnf
  have hsh := shaped_res hat hp
  refine wpAny_execs_cons (wpAny_If (wpAny_isTrue_Compare1 (nmL S rfl (nmL S rfl (cmpNe hA' S D Dw hsh hsh (wpAny_truthy_bool ?_))))))
  rw [PySem.SeqAt.eqv_refl _ (canLay_of_sh hsh)]
  refine wpAny_execs_nil ?_
  dsimp only
  refine wpAny_execs_cons (wpAny_For (Subscript_ (nmL S rfl (wpAny_Constant_int (sbT (i := 0) S D rfl (by simp) fun x hx => ?_)))))
  refine forL (fun i m u g' => u = [] ∧ m "got" = some gv) hA'.hd S hx ⟨rfl, rfl⟩ (lets_name _ _) ?_ ?_
  · rintro i d' v m u g' h tk₁ I io hd' hv hsub ⟨rfl, m1⟩ S₅
    have hatd := hat _ (List.mem_of_getElem? hd')
    refine wpAny_assign_Name (stL S₅ fun h₆ S₆ => ?_)
    dsimp only
    cases d' with
    | none =>
      cases hv
      refine wpAny_execs_cons (wpAny_If (isTrue_and (wpAny_isTrue_Compare1 (nmL S₆ upd_eq (wpAny_Constant_none (wpAny_isNot_self rfl (wpAny_truthy_bool ?_)))))))
      exact wpAny_execs_nil (wpAny_execs_nil (TurnEnd.next ⟨hsub, rfl, upd_ne (by decide) m1⟩ S₆))
    | int z =>
      cases hv
      refine wpAny_execs_cons (wpAny_If (isTrue_and (wpAny_isTrue_Compare1 (nmL S₆ upd_eq (wpAny_Constant_none (wpAny_isNot_other rfl (by intro h; cases h) (wpAny_truthy_bool ?_)))))))
      refine isTrue_and (isTrue_not (wpAny_isTrue_Compare1 (callT "type" (nmB S₆ W (W.free _ (by decide)) rfl ⟨rfl, wpAny_items_cons (nmL S₆ upd_eq (wpAny_items_nil (call_type_of (Tx := "int") rfl rfl (nmB S₆ W (W.free _ (by decide)) rfl (wpAny_is_self rfl (wpAny_truthy_bool ?_))))))⟩))))
      exact wpAny_execs_nil (wpAny_execs_nil (TurnEnd.next ⟨hsub, rfl, upd_ne (by decide) m1⟩ S₆))
    | str z =>
      cases hv
      refine wpAny_execs_cons (wpAny_If (isTrue_and (wpAny_isTrue_Compare1 (nmL S₆ upd_eq (wpAny_Constant_none (wpAny_isNot_other rfl (by intro h; cases h) (wpAny_truthy_bool ?_)))))))
      refine isTrue_and (isTrue_not (wpAny_isTrue_Compare1 (callT "type" (nmB S₆ W (W.free _ (by decide)) rfl ⟨rfl, wpAny_items_cons (nmL S₆ upd_eq (wpAny_items_nil (call_type_of (Tx := "str") rfl rfl (nmB S₆ W (W.free _ (by decide)) rfl (wpAny_is_other rfl (fun h => absurd (Value.type.inj h) (by decide)) (wpAny_truthy_bool ?_))))))⟩))))
      refine isTrue_and (isTrue_not (wpAny_isTrue_Compare1 (callT "type" (nmB S₆ W (W.free _ (by decide)) rfl ⟨rfl, wpAny_items_cons (nmL S₆ upd_eq (wpAny_items_nil (call_type_of (Tx := "str") rfl rfl (nmB S₆ W (W.free _ (by decide)) rfl (wpAny_is_self rfl (wpAny_truthy_bool ?_))))))⟩))))
      exact wpAny_execs_nil (wpAny_execs_nil (TurnEnd.next ⟨hsub, rfl, upd_ne (by decide) m1⟩ S₆))
    | bool _ => exact hatd.elim
    | list _ => exact hatd.elim
    | tuple _ => exact hatd.elim
    | dict _ => exact hatd.elim
  · rintro m u g' h tk₁ hsub ⟨rfl, m1⟩ S₅
    have D' := D.mono hsub
    dsimp only
    refine wpAny_execs_cons (wpAny_For (Subscript_ (nmL S₅ m1 (wpAny_Constant_int (sbT (i := 1) S₅ D' rfl (by simp) fun x hx => ?_)))))
    refine forL (fun i m u g' => u = []) hA'.hd S₅ hx rfl (lets_name _ _) ?_ ?_
    · rintro i d' v m u g'' h tk₁ I io hd' hv hsub₂ rfl S₆
      obtain ⟨p, hp, rfl⟩ := List.mem_map.mp (List.mem_of_getElem? hd')
      refine wpAny_assign_Name (stL S₆ fun h₇ S₇ => ?_)
      dsimp only
      refine wpAny_execs_cons (wpAny_If (isTrue_not (wpAny_isTrue_Compare1 (callT "type" (nmB S₇ W (W.free _ (by decide)) rfl ⟨rfl, wpAny_items_cons (Subscript_ (nmL S₇ upd_eq (wpAny_Constant_int (sbT (i := 1) S₇ (hv.mono hsub₂) rfl (by simp) fun z hz => ?_))))⟩)))))
      cases hz
      refine wpAny_items_nil (call_type_of (Tx := "int") rfl rfl (nmB S₇ W (W.free _ (by decide)) rfl (wpAny_is_self rfl (wpAny_truthy_bool ?_))))
      exact wpAny_execs_nil (wpAny_execs_nil (TurnEnd.next ⟨hsub₂, rfl⟩ S₇))
    · rintro m u g'' h tk₁ hsub₂ rfl S₆
      dsimp only
      exact wpAny_execs_cons (wpAny_Return_some (wpAny_Constant_bool (hk _ _ S₆.fr.keep)))
end
end Mine
end
section
open PySem PyProof.Rows PySem.Calls
set_option maxRecDepth 100000
namespace Mine
theorem list_keys_none : typeLookup (.type "list") "keys" = pure none := am_miss_of_fast (by kernel_rfl)
theorem entry_update_loop : entryFor table "dict.update.loop" = some Builtin.«dict.update.loop» := entryFor_of_tree (by kernel_rfl)
theorem plain_update_loop : plainId "dict.update.loop" = true := by decide +kernel

section
variable {prog : Program} {w : World} {A : Around} {E : Value → Shared → Prop}
theorem keys_none {s : Shared} {a : Addr} {xs : Array Value} {k : Nat} {Q : Option Value → Shared → Prop}
    (hx : s.heap.get? a = some { cls := .type "list", data := .seq xs k }) (hA : A.handled = none)
    (h : ∀ h' tk, Ext s.heap h' → Q none { s with heap := h', toks := tk }) :
    wpAny (model prog w) A (getAttr? (.ref a) "keys") Q E s := by
  obtain ⟨hp, g, d, tk, os⟩ := s
  have hT : ∀ tk', (⟨hp, g, d, tk', os⟩ : Shared).TypeIs (.ref a) "list" := fun _ => ⟨_, hx, rfl⟩
  have f1 := sub_AttributeError
  have f3 := F.slot_list_getattribute.lookup
  have f4 := F.slot_list_getattribute.bind (.ref a)
  have f5 := am_list_getattr_none
  unfold getAttr? getAttrBy? getAttrBy
  repeat (any_goals (first | assumption | exact hT _ | ((with_reducible show wpAny _ _ (call (Value.builtin "list.__getattribute__") _ _) _ _ _); refine call_meets F.slot_list_getattribute (hT _) am_entry_list_getattribute (F.args_list_getattribute_2 _ _) (meets_getattribute_miss_list a xs k #[] "keys" _ list_keys_none (by decide) (by decide)) ⟨hx, hA, fun h' tk' e hx' => ?_⟩) | wp_step))
  obtain ⟨t', u', he⟩ := hx'.there
  show wpAny _ _ (getattributeRaised _ _ _ _ _ _ _) _ _ _
  unfold getattributeRaised
  repeat (any_goals (first | assumption | wp_step))
  exact h _ _ hx'.keeps

variable {s : Shared} {h₀ : Heap} {L : Addr} {gi : Lg} {m : Str → Option Value} {u g : Lg} {ps : Ps}
theorem look_none {ps : Ps} {k : Str} (h : k ∉ ps.map (·.1)) : look ps k = none := by
  simp only [look, Option.map_eq_none_iff, List.find?_eq_none, decide_eq_true_eq]
  intro p hp e
  exact h (List.mem_map.mpr ⟨p, hp, e⟩)
theorem update_loop {d I l : Addr} {n : Nat} {vs : List Value} {R : Result → Shared → Prop} (hh : A.handled = none) (hl : (l, lstO vs n) ∈ g) (hD : DLs g vs (ps.map pairD)) (hz : ps.length ≤ 1000) (nd : (ps.map (·.1)).Nodup)
    (hR : ∀ h' tk o kvs, St h₀ L gi m ((d, o) :: u) g h' → o.IsDictOf (strKind prog w) kvs → KV kvs ps → R (.ok (.ret .none)) { s with heap := h', toks := tk }) :
    ∀ (j i : Nat) (h : Heap) (tk : Nat) (io o : Obj) (kvs : List (Str × Value)), ps.length - i = j → i ≤ ps.length → St h₀ L gi m ((I, io) :: (d, o) :: u) g h → h.IsListIter I l i → o.IsDictOf (strKind prog w) kvs → KV kvs (ps.take i) →
      codeAny (model prog w) A (.builtin "dict.update.loop" ⟨[.ref d, .ref I, rawInt i, .none], []⟩) R { s with heap := h, toks := tk } := by
  have hlen := hD.length
  rw [List.length_map] at hlen
  have isl : ∀ {h' : Heap}, h'.get? l = some (lstO vs n) → h'.IsList l vs.toArray := fun e => ⟨_, e, rfl, _, rfl⟩
  intro j
  induction j with
  | zero =>
    intro i h tk io o kvs hj hi S hit Ho K
    have hie : i = ps.length := by omega
    refine codeAny_builtin entry_update_loop ?_
    rw [Around.under_plainId plain_update_loop _]
    show wpAny _ A.in1 (pyNext (.ref I) >>= _) _ _ _
    refine wpAny_bind (wpAny_pyNext_list_end hh hit (isl (S.led _ hl).1) (by simp; omega) fun h₁ he => ?_)
    show wpAny _ _ (Builtin.Dict.addKeywords d [] >>= _) _ _ _
    refine wpAny_bind (wpAny_pure (wpAny_pure ?_))
    exact hR _ _ o kvs (S.extBut he) Ho (by rw [hie, List.take_length] at K; exact K)
  | succ j ih =>
    intro i h tk io o kvs hj hi S hit Ho K
    have hlt : i < ps.length := by omega
    obtain ⟨v, hv, hDv⟩ := hD.get (i := i) (d := pairD ps[i]) (by rw [List.getElem?_map, List.getElem?_eq_getElem hlt]; rfl)
    refine codeAny_builtin entry_update_loop ?_
    rw [Around.under_plainId plain_update_loop _]
    show wpAny _ A.in1 (pyNext (.ref I) >>= _) _ _ _
    refine wpAny_bind (wpAny_pyNext_list_item hit (isl (S.led _ hl).1) (by simpa using hv) fun h₁ hit₁ hs₁ => ?_)
    obtain ⟨io₁, hio₁, hio₂⟩ := id hit₁
    have S₁ := S.set .head hs₁ hio₁
    cases hDv with
    | @tuple t nt ws _ ht hDt =>
      cases hDt with | cons d1 hDt => cases hDt with | cons d2 hDt => cases hDt with | nil =>
      cases d1; cases d2
      rename_i tk1 tk2
      refine wpAny_bind (wpAny_holding ?_)
      refine wpAny_bind (wpAny_tryCatch ?_)
      have hto := (S₁.led _ ht).1
      unfold Builtin.Dict.pairItems
      refine wpAny_bind (wpAny_typeOf (T := "tuple") ⟨_, hto, rfl⟩ ?_)
      rw [if_pos (by decide)]
      refine wpAny_bind (wpAny_seqItems hto rfl (wpAny_pure ?_))
      show wpAny _ _ (holding [.str ps[i].fst tk1, .int ps[i].snd tk2] (dictSet d (.str ps[i].fst tk1) (.int ps[i].snd tk2))) _ _ _
      refine wpAny_holding (wpAny_dictSet_pairs (strKind_is prog w _ tk1) (S₁.dictH (.tail _ (.head _)) Ho) (fun h₂ hd₂ hs₂ => ?_) (Nat.le_trans (by rw [K.length, List.length_take]; omega : _ ≤ 1000) (by decide)))
      obtain ⟨o₂, ho₂, Ho₂⟩ := Heap.dictOf_iff.mp hd₂
      have S₂ := S₁.set (.tail .head) hs₂ ho₂
      have hnk : valueAt kvs ps[i].1 = none := by
        have hlk : look (ps.take i) ps[i].1 = none := look_none fun hm => by
          obtain ⟨q, hq, e⟩ := List.mem_map.mp hm
          obtain ⟨j', hj', rfl⟩ := List.mem_iff_getElem.mp hq
          rw [List.length_take] at hj'
          have hj2 : j' < i := by omega
          have := (List.pairwise_iff_getElem.mp nd) j' i (by rw [List.length_map]; omega) (by rw [List.length_map]; exact hlt) hj2
          simp only [List.getElem_map, List.getElem_take] at this e
          exact this e
        rcases K.look ps[i].1 with ⟨_, h2⟩ | ⟨n, t, h1, _⟩
        · exact h2
        · rw [hlk] at h1; cases h1
      rw [stored_new hnk] at Ho₂
      refine wpAny_pure ⟨plainId_quiet plain_update_loop _, ?_⟩
      have e1 : rawInt ((i : Int) + 1) = rawInt ((i + 1 : Nat) : Int) := by rw [Int.natCast_add]; rfl
      rw [e1]
      refine ih (i + 1) h₂ _ io₁ o₂ _ (by omega) hlt S₂ ⟨io₁, (S₂.un _ (.head _)).1, hio₂⟩ Ho₂ ?_
      rw [List.take_add_one, List.getElem?_eq_getElem hlt]
      exact K.append (.cons .nil)

theorem dictOfL {Q : Value → Shared → Prop} {lv : Value} (hh : A.handled = none) (S : St h₀ L gi m u g s.heap) (D : DL g lv (.list (ps.map pairD))) (hz : ps.length ≤ 1000) (nd : (ps.map (·.1)).Nodup)
    (h : ∀ h' tk d o kvs, s.heap.objs.size = d → St h₀ L gi m ((d, o) :: u) g h' → o.IsDictOf (strKind prog w) kvs → KV kvs ps → Q (.ref d) { s with heap := h', toks := tk }) : wpAny (model prog w) A (call (.type "dict") [lv]) Q E s := by
  cases D with
  | @list l n vs _ hl hD =>
  refine callType_codes (Q₁ := fun obj s₁ => obj = .ref s.heap.objs.size ∧ s₁ = { s with heap := s.heap.push { cls := .type "dict", data := .dict #[] } }) F.kt_called_dict (F.kt_typeCall_dict_1 _) F.entry_dict_init (kt_code_dict_new _ ⟨rfl, rfl⟩) ?_
  rintro obj s₁ ⟨rfl, rfl⟩
  have hnew : (s.heap.push { cls := .type "dict", data := .dict #[] }).DictOf (strKind prog w) s.heap.objs.size [] := Heap.DictOf.new s.heap
  have S₁ := S.pushU { cls := .type "dict", data := .dict #[] }
  have Hd : Obj.IsDictOf (strKind prog w) { cls := .type "dict", data := .dict #[] } [] := by
    obtain ⟨o', ho', r⟩ := Heap.dictOf_iff.mp hnew
    rw [Heap.get?_push_size _ rfl] at ho'
    cases ho'; exact r
  refine ⟨hnew.typeIs, F.args_dict_init_2 _ _, ?_⟩
  unfold Builtin.«dict.__init__»
  refine wpAny_bind ?_
  unfold Builtin.Dict.selfAndRest
  refine wpAny_bind (wpAny_notOrdered_dict hnew.typeIs ?_)
  show wpAny _ _ (pure (s.heap.objs.size, [Value.ref l])) _ _ _
  refine wpAny_pure ?_
  show wpAny _ _ (Builtin.Dict.updateFrom "dict.__init__" s.heap.objs.size (.ref l) [] .none) _ _ _
  unfold Builtin.Dict.updateFrom
  refine wpAny_bind (wpAny_typeOf (T := "list") ⟨_, (S₁.led _ hl).1, rfl⟩ ?_)
  rw [if_pos (by decide)]
  refine wpAny_bind (keys_none (S₁.led _ hl).1 hh fun h₂ tk₂ hx₂ => ?_)
  have S₂ := S₁.ext hx₂
  refine wpAny_bind (wpAny_rule ?_)
  refine wpAny_bind (wpAny_pyIter_list ⟨_, (S₂.led _ hl).1, rfl, _, rfl⟩ ?_)
  dsimp only
  have S₃ := S₂.pushU { cls := .type "list_iterator", data := .fields #[.ref l, .int 0 0] }
  refine wpAny_pure ⟨plainId_quiet plain_update_loop _, ?_⟩
  exact update_loop (s := s) (A := A.in1) hh hl hD hz nd (fun h' tk o kvs S' Ho K => ⟨rfl, h h' tk _ o kvs rfl S' Ho K⟩) ps.length 0 _ _ _ _ [] (by omega) (Nat.zero_le _) S₃ ⟨_, (S₃.un _ (.head _)).1, rfl, rfl⟩ Hd .nil
end
end Mine
end
section
open PySem PyProof.Rows PySem.Calls
namespace Mine
def firsts : Ps → Ps
  | [] => []
  | p :: r => p :: (firsts r).filter (fun q => decide (q.1 ≠ p.1))
def fresh (seen : List Str) (ps : Ps) : Ps := ps.filter fun q => !seen.any (fun x => decide (x = q.1))
theorem fresh_drop_in {seen : List Str} {k : Str} (h : seen.any (fun x => decide (x = k)) = true) (ps : Ps) : fresh seen (ps.filter fun q => decide (q.1 ≠ k)) = fresh seen ps := by
  unfold fresh
  rw [List.filter_filter]
  refine List.filter_congr fun q _ => ?_
  by_cases e : q.1 = k
  · rw [e, h]; simp
  · simp [e]
theorem fresh_snoc {seen : List Str} {k : Str} (ps : Ps) : fresh seen (ps.filter fun q => decide (q.1 ≠ k)) = fresh (seen ++ [k]) ps := by
  unfold fresh
  rw [List.filter_filter]
  refine List.filter_congr fun q _ => ?_
  rw [List.any_append]
  by_cases e : q.1 = k
  · simp [e]
  · have : k ≠ q.1 := fun h => e h.symm
    simp [e, this]
theorem fold_firsts {cap : Int} {N : Nat} (hN : cap = (N : Int)) : ∀ (us : Ps) (seen : List Str) (acc : Ps), us.foldl (lstep cap) (seen, acc) =
    (seen ++ ((fresh seen (firsts us)).take (N - seen.length)).map (·.1), ((fresh seen (firsts us)).take (N - seen.length)).reverse ++ acc) := by
  intro us
  induction us with
  | nil => intro seen acc; simp [firsts, fresh]
  | cons p r ih =>
    intro seen acc
    rw [List.foldl_cons]
    by_cases h : seen.any (fun x => decide (x = p.1)) = true
    · have e1 : lstep cap (seen, acc) p = (seen, acc) := by simp only [lstep, if_pos h]
      rw [e1, ih]
      have e2 : fresh seen (firsts (p :: r)) = fresh seen (firsts r) := by
        rw [firsts, ← fresh_drop_in h (firsts r)]
        unfold fresh
        rw [List.filter_cons, if_neg (by rw [h]; decide)]
      rw [e2]
    · have hf : seen.any (fun x => decide (x = p.1)) = false := Bool.eq_false_iff.mpr h
      have e2 : fresh seen (firsts (p :: r)) = p :: fresh (seen ++ [p.1]) (firsts r) := by
        rw [firsts, ← fresh_snoc]
        unfold fresh
        rw [List.filter_cons, if_pos (by rw [hf]; rfl)]
      rw [e2]
      by_cases h2 : (seen.length : Int) < cap
      · have e1 : lstep cap (seen, acc) p = (seen ++ [p.1], p :: acc) := by simp only [lstep, if_neg h, if_pos h2]
        rw [e1, ih]
        have e3 : N - seen.length = (N - (seen ++ [p.1]).length) + 1 := by simp; omega
        rw [e3, List.take_succ_cons]
        simp
      · have e1 : lstep cap (seen, acc) p = (seen, acc) := by simp only [lstep, if_neg h, if_neg h2]
        have e3 : N - seen.length = 0 := by omega
        rw [e1, ih, e3]
        simp
theorem fresh_nil (ps : Ps) : fresh [] ps = ps := by unfold fresh; exact filter_all ps
theorem live_eq {cap : Int} {N : Nat} (hN : cap = (N : Int)) (U : Ps) : live cap U = ((firsts U.reverse).take N).reverse := by
  unfold live livS
  rw [fold_firsts hN, fresh_nil]
  simp
theorem firsts_nodup (us : Ps) : ((firsts us).map (·.1)).Nodup := by
  induction us with
  | nil => simp [firsts]
  | cons p r ih =>
    rw [firsts, List.map_cons, List.nodup_cons]
    refine ⟨fun hm => ?_, ?_⟩
    · obtain ⟨q, hq, e⟩ := List.mem_map.mp hm
      have := (List.mem_filter.mp hq).2
      simp only [ne_eq, decide_not, Bool.not_eq_eq_eq_not, Bool.not_true, decide_eq_false_iff_not] at this
      exact this e
    · exact List.Nodup.sublist (List.Sublist.map _ List.filter_sublist) ih
theorem live_snoc {cap : Int} {N : Nat} (hN : cap = (N : Int)) (h1 : 1 ≤ N) (U : Ps) (p : Str × Int) : live cap (U ++ [p]) = (((firsts U.reverse).filter (fun q => decide (q.1 ≠ p.1))).take (N - 1)).reverse ++ [p] := by
  rw [live_eq hN, List.reverse_append, List.reverse_singleton, List.singleton_append, firsts]
  obtain ⟨M, rfl⟩ : ∃ M, N = M + 1 := ⟨N - 1, by omega⟩
  rw [List.take_succ_cons]
  simp

def NdK (c : Ps) : Prop := (c.map (·.1)).Nodup
theorem NdK.reverse {c : Ps} (h : NdK c) : NdK c.reverse := by unfold NdK; rw [List.map_reverse]; exact List.pairwise_reverse.mpr (h.imp fun e => Ne.symm e)
theorem look_some_mem {c : Ps} {k : Str} {n : Int} (h : look c k = some n) : (k, n) ∈ c := by
  simp only [look, Option.map_eq_some_iff] at h
  obtain ⟨p, hp, rfl⟩ := h
  have h1 := List.mem_of_find?_eq_some hp
  have h2 := List.find?_some hp
  simp only [decide_eq_true_eq] at h2
  rw [← h2]; exact h1
theorem look_none_iff {c : Ps} {k : Str} : look c k = none ↔ ∀ p ∈ c, p.1 ≠ k := by
  simp only [look, Option.map_eq_none_iff, List.find?_eq_none, decide_eq_true_eq]
theorem drop_of_none {c : Ps} {k : Str} (h : look c k = none) : drop c k = c := by
  unfold drop
  rw [List.filter_eq_self]
  intro p hp
  simpa using look_none_iff.mp h p hp
theorem hits_of_none {c : Ps} {k : Str} (h : look c k = none) : (c.filter fun p => decide (p.1 = k)) = [] := by
  rw [List.filter_eq_nil_iff]
  intro p hp
  simpa using look_none_iff.mp h p hp
theorem nd_split {c : Ps} {k : Str} {n : Int} (nd : NdK c) (h : look c k = some n) : ∃ a b, c = a ++ (k, n) :: b ∧ look a k = none ∧ look b k = none := by
  obtain ⟨a, b, rfl⟩ := List.append_of_mem (look_some_mem h)
  refine ⟨a, b, rfl, ?_, ?_⟩
  · rw [look_none_iff]
    intro p hp e
    unfold NdK at nd
    rw [List.map_append, List.map_cons] at nd
    have := (List.nodup_append.mp nd).2.2 p.1 (List.mem_map.mpr ⟨p, hp, rfl⟩) k (.head _)
    exact this e
  · rw [look_none_iff]
    intro p hp e
    unfold NdK at nd
    rw [List.map_append, List.map_cons] at nd
    have := (List.nodup_cons.mp (List.nodup_append.mp nd).2.1).1
    exact this (List.mem_map.mpr ⟨p, hp, e⟩)
theorem drop_split {a b : Ps} {k : Str} {n : Int} (ha : look a k = none) (hb : look b k = none) : drop (a ++ (k, n) :: b) k = a ++ b := by
  have h1 := drop_of_none ha
  have h2 := drop_of_none hb
  unfold drop at h1 h2 ⊢
  rw [List.filter_append, List.filter_cons, h1, h2]
  simp
theorem hits_split {a b : Ps} {k : Str} {n : Int} (ha : look a k = none) (hb : look b k = none) : ((a ++ (k, n) :: b).filter fun p => decide (p.1 = k)) = [(k, n)] := by
  rw [List.filter_append, List.filter_cons, hits_of_none ha, hits_of_none hb]
  simp
theorem drop_reverse (c : Ps) (k : Str) : drop c.reverse k = (drop c k).reverse := by unfold drop; rw [List.filter_reverse]
theorem look_reverse_none {c : Ps} {k : Str} : look c.reverse k = none ↔ look c k = none := by simp [look_none_iff]
theorem nd_drop_head {p : Str × Int} {r : Ps} (nd : NdK (p :: r)) : drop (p :: r) p.1 = r := by
  have h : look r p.1 = none := look_none_iff.mpr fun q hq e => (List.nodup_cons.mp nd).1 (List.mem_map.mpr ⟨q, hq, e⟩)
  have := drop_split (a := []) (n := p.2) rfl h
  simpa using this

/-- what a use does to the cache, against the list of all -/
theorem take_filter {F : Ps} {N : Nat} {k : Str} {v : Int} {cap : Int} (hN : cap = (N : Int)) (h1 : 1 ≤ N) (nd : NdK F) :
    ((F.filter (fun q => decide (q.1 ≠ k))).take (N - 1)).reverse ++ [(k, v)] = (kput ((F.take N).reverse) k v cap).2 := by
  have ndT : NdK (F.take N) := by unfold NdK at nd ⊢; rw [List.map_take]; exact nd.sublist (List.take_sublist _ _)
  have hF : F.filter (fun q => decide (q.1 ≠ k)) = drop (F.take N) k ++ drop (F.drop N) k := by
    show drop F k = _
    conv => lhs; rw [← List.take_append_drop N F]
    unfold drop; rw [List.filter_append]
  have hlT : (F.take N).length = min N F.length := List.length_take
  rw [hF]
  cases hl : look (F.take N) k with
  | some n =>
    obtain ⟨a, b, e, ha, hb⟩ := nd_split ndT hl
    have hd : drop (F.take N) k = a ++ b := by rw [e]; exact drop_split ha hb
    have hlen : (a ++ b).length + 1 = (F.take N).length := by rw [e]; simp; omega
    have hk : kput (F.take N).reverse k v cap = (("" : Str), drop (F.take N).reverse k ++ [(k, v)]) := by
      unfold kput
      have : (look (F.take N).reverse k).isSome = true := by
        cases hh : look (F.take N).reverse k with
        | none => rw [look_reverse_none] at hh; rw [hl] at hh; cases hh
        | some _ => rfl
      rw [if_pos this]
    rw [hk, drop_reverse, hd]
    show (List.take (N - 1) (a ++ b ++ drop (F.drop N) k)).reverse ++ _ = (a ++ b).reverse ++ _
    congr 2
    by_cases hs : F.length ≤ N
    · have : F.drop N = [] := List.drop_eq_nil_iff.mpr hs
      rw [this]
      show List.take _ (a ++ b ++ []) = _
      rw [List.append_nil, List.take_of_length_le (by omega)]
    · have : (a ++ b).length = N - 1 := by omega
      rw [List.take_append_of_le_length (by omega), List.take_of_length_le (by omega)]
  | none =>
    have hd := drop_of_none hl
    rw [hd]
    have hlr : look (F.take N).reverse k = none := look_reverse_none.mpr hl
    by_cases hs : F.length < N
    · have e0 : F.drop N = [] := List.drop_eq_nil_iff.mpr (by omega)
      have hk : kput (F.take N).reverse k v cap = (("" : Str), (F.take N).reverse ++ [(k, v)]) := by
        unfold kput
        rw [if_neg (by rw [hlr]; decide), if_neg (by rw [List.length_reverse, hlT]; omega)]
      rw [hk, e0]
      show (List.take _ (F.take N ++ [])).reverse ++ _ = _
      rw [List.append_nil, List.take_of_length_le (by omega)]
    · have hlen : (F.take N).length = N := by omega
      obtain ⟨p, r, hpr⟩ : ∃ p r, (F.take N).reverse = p :: r := by
        cases hh : (F.take N).reverse with
        | nil => have := congrArg List.length hh; rw [List.length_reverse, hlen] at this; simp at this; omega
        | cons p r => exact ⟨p, r, rfl⟩
      have hk : kput (F.take N).reverse k v cap = (p.1, r ++ [(k, v)]) := by
        have nd2 : NdK (p :: r) := hpr ▸ ndT.reverse
        unfold kput
        rw [if_neg (by rw [hlr]; decide), if_pos (by rw [List.length_reverse, hlen]; omega), hpr]
        show (p.1, drop (p :: r) p.1 ++ _) = _
        rw [nd_drop_head nd2]
      rw [hk]
      have hT : F.take N = r.reverse ++ [p] := by have := congrArg List.reverse hpr; simpa using this
      have hlr2 : r.length = N - 1 := by have := congrArg List.length hpr; rw [List.length_reverse, hlen] at this; simp at this; omega
      rw [hT, List.append_assoc, List.take_append_of_le_length (by simp; omega), List.take_of_length_le (by simp; omega)]
      simp

theorem live_nd {cap : Int} {N : Nat} (hN : cap = (N : Int)) (U : Ps) : NdK (live cap U) := by
  rw [live_eq hN]
  refine NdK.reverse ?_
  have := firsts_nodup U.reverse
  unfold NdK
  rw [List.map_take]
  exact this.sublist (List.take_sublist _ _)
theorem live_len {cap : Int} {N : Nat} (hN : cap = (N : Int)) (U : Ps) : ((live cap U).length : Int) ≤ cap := by
  rw [live_eq hN, List.length_reverse, List.length_take]; omega
theorem live_put {cap : Int} {N : Nat} (hN : cap = (N : Int)) (h1 : 1 ≤ N) (U : Ps) (k : Str) (v : Int) : live cap (U ++ [(k, v)]) = (kput (live cap U) k v cap).2 := by
  rw [live_snoc hN h1, live_eq hN]
  exact take_filter hN h1 (firsts_nodup _)
theorem kput_some {c : Ps} {k : Str} {v n cap : Int} (h : look c k = some n) : kput c k v cap = (("" : Str), drop c k ++ [(k, v)]) := by
  unfold kput; rw [if_pos (by rw [h]; rfl)]
theorem kput_room {c : Ps} {k : Str} {v cap : Int} (h : look c k = none) (hl : ¬ (c.length : Int) ≥ cap) : kput c k v cap = (("" : Str), c ++ [(k, v)]) := by
  unfold kput; rw [if_neg (by rw [h]; decide), if_neg hl]
theorem kput_full {p : Str × Int} {r : Ps} {k : Str} {v cap : Int} (nd : NdK (p :: r)) (h : look (p :: r) k = none) (hl : ((p :: r).length : Int) ≥ cap) : kput (p :: r) k v cap = (p.1, r ++ [(k, v)]) := by
  unfold kput
  rw [if_neg (by rw [h]; decide), if_pos hl]
  show (p.1, drop (p :: r) p.1 ++ _) = _
  rw [nd_drop_head nd]
theorem gone_all {stay : List Str} : ∀ {c : Ps} (acc : Str), (∀ p ∈ c, stay.any (fun x => decide (x = p.1)) = true) → c.foldl (fun acc p => if stay.any (fun x => decide (x = p.1)) then acc else p.1) acc = acc := by
  intro c
  induction c with
  | nil => intro acc _; rfl
  | cons p r ih =>
    intro acc h
    rw [List.foldl_cons, if_pos (h p (.head _))]
    exact ih acc fun q hq => h q (.tail _ hq)
theorem any_keys {c : Ps} {k : Str} : (c.map (·.1)).any (fun x => decide (x = k)) = true ↔ ∃ p ∈ c, p.1 = k := by
  rw [List.any_eq_true]
  constructor
  · rintro ⟨x, hx, e⟩
    obtain ⟨p, hp, rfl⟩ := List.mem_map.mp hx
    exact ⟨p, hp, of_decide_eq_true e⟩
  · rintro ⟨p, hp, e⟩
    exact ⟨p.1, List.mem_map.mpr ⟨p, hp, rfl⟩, decide_eq_true e⟩
theorem gone_put {c : Ps} {k : Str} {v cap : Int} (nd : NdK c) (hcap : 1 ≤ cap) : goneOf ((kput c k v cap).2.map (·.1)) c = (kput c k v cap).1 := by
  cases hl : look c k with
  | some n =>
    rw [kput_some hl]
    refine gone_all _ fun p hp => any_keys.mpr ?_
    by_cases e : p.1 = k
    · exact ⟨(k, v), List.mem_append_right _ (.head _), e.symm⟩
    · exact ⟨p, List.mem_append_left _ (List.mem_filter.mpr ⟨hp, by simpa using e⟩), rfl⟩
  | none =>
    by_cases hf : (c.length : Int) ≥ cap
    · cases c with
      | nil => simp at hf; omega
      | cons p r =>
        rw [kput_full nd hl hf]
        unfold goneOf
        rw [List.foldl_cons, if_neg]
        · exact gone_all _ fun q hq => any_keys.mpr ⟨q, List.mem_append_left _ hq, rfl⟩
        · intro ha
          obtain ⟨q, hq, e⟩ := any_keys.mp ha
          rcases List.mem_append.mp hq with hq | hq
          · exact (List.nodup_cons.mp nd).1 (List.mem_map.mpr ⟨q, hq, e⟩)
          · rw [List.mem_singleton.mp hq] at e
            exact look_none_iff.mp hl p (.head _) e.symm
    · rw [kput_room hl hf]
      exact gone_all _ fun p hp => any_keys.mpr ⟨p, List.mem_append_left _ hp, rfl⟩

theorem rstep_step {cap : Int} {N : Nat} (hN : cap = (N : Int)) (h1 : 1 ≤ N) (U : Ps) (o : Op) : (rstep cap U o).1 = (step cap (live cap U) o).1 ∧ live cap (rstep cap U o).2 = (step cap (live cap U) o).2 := by
  have nd := live_nd hN U
  cases o with
  | get k =>
    show ansOf ((live cap U).filter fun p => decide (p.1 = k)) = (kget (live cap U) k).1 ∧ live cap (U ++ (live cap U).filter fun p => decide (p.1 = k)) = (kget (live cap U) k).2
    cases hl : look (live cap U) k with
    | none =>
      rw [hits_of_none hl, List.append_nil]
      simp only [kget, hl]
      exact ⟨rfl, trivial⟩
    | some n =>
      obtain ⟨a, b, e, ha, hb⟩ := nd_split nd hl
      have hh : ((live cap U).filter fun p => decide (p.1 = k)) = [(k, n)] := by rw [e]; exact hits_split ha hb
      rw [hh, live_put hN h1, kput_some hl]
      simp only [kget, hl]
      exact ⟨rfl, trivial⟩
  | put k v =>
    refine ⟨?_, live_put hN h1 U k v⟩
    show PyData.str (goneOf ((live cap (U ++ [(k, v)])).map (·.1)) (live cap U)) = .str (kput (live cap U) k v cap).1
    rw [live_put hN h1, gone_put nd (by omega)]
theorem mstep_step {cap : Int} {c : Ps} (nd : NdK c) (hl : (c.length : Int) ≤ cap) (h1 : 1 ≤ cap) (o : Op) : mstep cap c o = step cap c o := by
  cases o with
  | get k =>
    show mget c k = kget c k
    cases hk : look c k with
    | none => unfold mget kget; simp only [hits_of_none hk, hk, drop_of_none hk]
    | some n =>
      obtain ⟨a, b, e, ha, hb⟩ := nd_split nd hk
      have hh : (c.filter fun p => decide (p.1 = k)) = [(k, n)] := by rw [e]; exact hits_split ha hb
      unfold mget kget
      simp only [hh, hk]
  | put k v =>
    have : mput c k v cap = kput c k v cap := by
      cases hk : look c k with
      | some n =>
        obtain ⟨a, b, e, ha, hb⟩ := nd_split nd hk
        have hd : drop c k = a ++ b := by rw [e]; exact drop_split ha hb
        have hlen : (a ++ b).length + 1 = c.length := by rw [e]; simp; omega
        rw [kput_some hk]
        unfold mput
        rw [if_neg (by rw [hd]; omega)]
      | none =>
        have hd := drop_of_none hk
        by_cases hf : (c.length : Int) ≥ cap
        · cases c with
          | nil => simp at hf; omega
          | cons p r =>
            rw [kput_full nd hk hf]
            unfold mput
            rw [hd, if_pos hf]
        · rw [kput_room hk hf]
          unfold mput
          rw [hd, if_neg hf]
    show (PyData.str (mput c k v cap).1, (mput c k v cap).2) = (.str (kput c k v cap).1, (kput c k v cap).2)
    rw [this]
theorem due_put {c : Ps} {k : Str} {v room : Int} (nd : NdK c) (h1 : 1 ≤ room) : dueOf c k v room = kput c k v room := by
  cases hk : look c k with
  | some n =>
    obtain ⟨a, b, e, ha, hb⟩ := nd_split nd hk
    have hd : drop c k = a ++ b := by rw [e]; exact drop_split ha hb
    have hlen : (a ++ b).length + 1 = c.length := by rw [e]; simp; omega
    rw [kput_some hk]
    unfold dueOf
    rw [if_neg (by rw [hd]; omega)]
  | none =>
    have hd := drop_of_none hk
    by_cases hf : (c.length : Int) ≥ room
    · cases c with
      | nil => simp at hf; omega
      | cons p r =>
        rw [kput_full nd hk hf]
        unfold dueOf
        rw [if_pos ⟨by rw [hd], hf⟩]
    · rw [kput_room hk hf]
      unfold dueOf
      rw [if_neg (fun h => hf h.2), hd]
theorem rplay_play {cap : Int} {N : Nat} (hN : cap = (N : Int)) (h1 : 1 ≤ N) : ∀ (ops : List Op) (U : Ps), (rplay cap U ops).1 = (play cap (live cap U) ops).1 ∧ live cap (rplay cap U ops).2 = (play cap (live cap U) ops).2 := by
  intro ops
  induction ops with
  | nil => intro U; exact ⟨rfl, rfl⟩
  | cons o r ih =>
    intro U
    have h := rstep_step hN h1 U o
    have h2 := ih (rstep cap U o).2
    simp only [rplay, play]
    rw [← h.2]
    exact ⟨by rw [h.1, h2.1], h2.2⟩
theorem mplay_rplay {cap : Int} {N : Nat} (hN : cap = (N : Int)) (h1 : 1 ≤ N) : ∀ (ops : List Op) (U : Ps), mplay cap (live cap U) ops = play cap (live cap U) ops := by
  intro ops
  induction ops with
  | nil => intro U; rfl
  | cons o r ih =>
    intro U
    have h := rstep_step hN h1 U o
    simp only [mplay, play]
    rw [mstep_step (live_nd hN U) (live_len hN U) (by omega), ← h.2, ih]
theorem live_nil (cap : Int) : live cap [] = [] := rfl
theorem rplay_eq {cap : Int} {N : Nat} (hN : cap = (N : Int)) (h1 : 1 ≤ N) (ops : List Op) : (rplay cap [] ops).1 = (play cap [] ops).1 ∧ live cap (rplay cap [] ops).2 = (play cap [] ops).2 := by
  have := rplay_play hN h1 ops []
  rwa [live_nil] at this
theorem mplay_eq {cap : Int} {N : Nat} (hN : cap = (N : Int)) (h1 : 1 ≤ N) (ops : List Op) : mplay cap [] ops = play cap [] ops := by
  have := mplay_rplay hN h1 ops []
  rwa [live_nil] at this
theorem play_nd {cap : Int} {N : Nat} (hN : cap = (N : Int)) (h1 : 1 ≤ N) (ops : List Op) : NdK (play cap [] ops).2 := by
  rw [← (rplay_eq hN h1 ops).2]; exact live_nd hN _
/-- bounds and texts -/
theorem rstep_bound {cap : Int} {N : Nat} (hN : cap = (N : Int)) {U : Ps} {o : Op} (hU : OkPs U) (ho : PyData.strOk o.key = true) : (rstep cap U o).2.length ≤ U.length + 1 ∧ OkPs (rstep cap U o).2 ∧ Atom (rstep cap U o).1 := by
  have nd := live_nd hN U
  have hO := live_ok (cap := cap) hU
  cases o with
  | get k =>
    show (U ++ (live cap U).filter fun p => decide (p.1 = k)).length ≤ _ ∧ OkPs (U ++ (live cap U).filter fun p => decide (p.1 = k)) ∧ Atom (ansOf ((live cap U).filter fun p => decide (p.1 = k)))
    cases hl : look (live cap U) k with
    | none =>
      rw [hits_of_none hl, List.append_nil]
      exact ⟨by omega, hU, trivial⟩
    | some n =>
      obtain ⟨a, b, e, ha, hb⟩ := nd_split nd hl
      have hh : ((live cap U).filter fun p => decide (p.1 = k)) = [(k, n)] := by rw [e]; exact hits_split ha hb
      rw [hh]
      refine ⟨by simp, fun q hq => ?_, trivial⟩
      rcases List.mem_append.mp hq with hq | hq
      · exact hU q hq
      · rw [List.mem_singleton.mp hq]; exact ho
  | put k v =>
    refine ⟨by show (U ++ [(k, v)]).length ≤ _; simp, ?_, ?_⟩
    · intro q hq
      rcases List.mem_append.mp hq with hq | hq
      · exact hU q hq
      · rw [List.mem_singleton.mp hq]; exact ho
    · show PyData.strOk (goneOf _ (live cap U)) = true
      have key : ∀ (c : Ps) (stay : List Str) (acc : Str), OkPs c → PyData.strOk acc = true → PyData.strOk (c.foldl (fun acc p => if stay.any (fun x => decide (x = p.1)) then acc else p.1) acc) = true := by
        intro c
        induction c with
        | nil => intro stay acc _ h; exact h
        | cons p r ih =>
          intro stay acc hc ha
          rw [List.foldl_cons]
          refine ih _ _ (fun q hq => hc q (.tail _ hq)) ?_
          split
          · exact ha
          · exact hc p (.head _)
      exact key _ _ _ hO (by decide +kernel)
theorem rplay_bound {cap : Int} {N : Nat} (hN : cap = (N : Int)) : ∀ (ops : List Op) (U : Ps), OkPs U → OkOps ops → (rplay cap U ops).2.length ≤ U.length + ops.length ∧ OkPs (rplay cap U ops).2 ∧ (∀ x ∈ (rplay cap U ops).1, Atom x) ∧ (rplay cap U ops).1.length = ops.length := by
  intro ops
  induction ops with
  | nil => intro U hU _; exact ⟨by simp [rplay], hU, (fun _ h => nomatch h), rfl⟩
  | cons o r ih =>
    intro U hU hO
    have h := rstep_bound hN (U := U) (o := o) hU (hO o (.head _))
    have h2 := ih (rstep cap U o).2 h.2.1 fun q hq => hO q (.tail _ hq)
    simp only [rplay]
    refine ⟨?_, h2.2.1, fun x hx => ?_, by simp [h2.2.2.2]⟩
    · have := h.1; have := h2.1; simp only [List.length_cons]; omega
    · rcases List.mem_cons.mp hx with rfl | hx
      · exact h.2.2
      · exact h2.2.2.1 x hx
theorem rlen_of {cap : Int} {N : Nat} (hN : cap = (N : Int)) {ops : List Op} (hO : OkOps ops) (hl : ops.length ≤ 90) : rlen cap ops := by
  intro i
  have h := rplay_bound hN (ops.take i) [] (fun _ h => nomatch h) fun q hq => hO q (List.mem_of_mem_take hq)
  have : (ops.take i).length ≤ ops.length := by rw [List.length_take]; omega
  have h1 := h.1
  simp only [List.length_nil] at h1
  exact ⟨by omega, h.2.1⟩
end Mine
end
section
open PySem PyProof.Rows PySem.Calls
namespace Mine
section
variable {prog : Program} {w : World} {A : Around} {E : Value → Shared → Prop} {s : Shared} {h₀ : Heap} {L a l : Addr} {gi : Lg} {m : Str → Option Value} {u g : Lg} {cn : Str} {cs : Scope} {cd : Value} {cl : List (Str × Addr)} {vs : List Value} {ns : List Int}
theorem ints_at {vs : List Value} {ns : List Int} (h : IntsAre vs ns) : ∀ {i : Nat}, i < ns.length → ∃ t, vs[i]? = some (.int (ns.getD i 0) t) := by
  induction h with
  | nil => intro i hi; simp at hi
  | cons n t h ih =>
    intro i hi
    cases i with
    | zero => exact ⟨t, rfl⟩
    | succ i => simpa using ih (i := i) (by simpa using hi)
theorem ints_len {vs : List Value} {ns : List Int} (h : IntsAre vs ns) : vs.length = ns.length := by induction h <;> simp_all
/-- the script's item -/
theorem scI {Q : Value → Shared → Prop} {p1 p2 p3 : Pos} {k i : Nat} (S : St h₀ L gi m u g s.heap) (hl : h₀.IsList l vs.toArray) (hI : IntsAre vs ns) (hm : m "script" = some (.ref l)) (hi : i < ns.length) (hz : ns.length ≤ 63)
    (h : ∀ t tk, Q (.int (ns.getD i 0) t) { s with toks := tk })
    (hk : cs.kind = .function := by rfl) (hx : (eX cn cs L a cd cl).kindOf "script" = some .local := by rfl) :
    wpAny (model prog w) A (eval (.Subscript (.Name "script" p1) (.Constant (.int i) k p2) p3) (eX cn cs L a cd cl)) Q E s := by
  obtain ⟨t, ht⟩ := ints_at hI hi
  refine Subscript_ (nmL S hm (wpAny_Constant_int ?_) hk hx)
  have hL : s.heap.IsList l vs.toArray := let ⟨o, ho, r⟩ := hl; ⟨o, S.fr.keep _ _ ho, r⟩
  exact tail_any hL.typeIs slot_list_getitem.lookup (wpAny_getItem_list hL (by omega) (by omega) (by simpa using ht) (h _ _)) (by with_unfolding_all rfl)
theorem cellE {Q : Value → Shared → Prop} {p1 p2 p3 p4 p5 p6 p7 : Pos} {k1 k2 k3 i j : Nat} (S : St h₀ L gi m u g s.heap) (hl : h₀.IsList l vs.toArray) (hI : IntsAre vs ns) (hm : m "script" = some (.ref l)) (hi : i < ns.length) (hj : j < ns.length) (hz : ns.length ≤ 63)
    (h : ∀ h' b o tk, St h₀ L gi m u ((b, o) :: g) h' → DL ((b, o) :: g) (.ref b) (cellD (ns.getD i 0, ns.getD j 0)) → Q (.ref b) { s with heap := h', toks := tk })
    (hk : cs.kind = .function := by rfl) (hx : (eX cn cs L a cd cl).kindOf "script" = some .local := by rfl) :
    wpAny (model prog w) A (eval (.Tuple [.Subscript (.Name "script" p1) (.Constant (.int i) k1 p2) p3, .Subscript (.Name "script" p4) (.Constant (.int j) k2 p5) p6] k3 p7) (eX cn cs L a cd cl)) Q E s := by
  refine Tuple_ (wpAny_items_cons (scI S hl hI hm hi hz (fun t1 tk1 => wpAny_items_cons (scI S hl hI hm hj hz (fun t2 tk2 => wpAny_items_nil (mkTup S (by simp) fun h' b S' => ?_)) hk hx)) hk hx))
  exact h _ _ _ _ S' (.tuple (.head _) (.cons (.int _ _) (.cons (.int _ _) .nil)))
end
def cellsOf (ns : List Int) : List (Int × Int) := [(ns.getD 2 0, ns.getD 3 0), (ns.getD 4 0, ns.getD 5 0), (ns.getD 6 0, ns.getD 7 0), (ns.getD 8 0, ns.getD 9 0), (ns.getD 10 0, ns.getD 11 0), (ns.getD 12 0, ns.getD 13 0), (ns.getD 14 0, ns.getD 15 0), (ns.getD 16 0, ns.getD 17 0)]
theorem lay_ops {ops : List Op} (h : OkOps ops) : PyData.canLayAll0 (ops.map Op.d) = true ∧ PyData.depthAll (ops.map Op.d) ≤ 3 := by
  have hg : PyData.strOk "get" = true := by decide +kernel
  have hp : PyData.strOk "put" = true := by decide +kernel
  induction ops with
  | nil => simp [PyData.canLayAll0, PyData.depthAll]
  | cons o r ih =>
    have h1 := h o (.head _)
    have h2 := ih fun q hq => h q (.tail _ hq)
    cases o <;> simp [Op.key] at h1 <;> simp [PyData.canLayAll0, PyData.depthAll, Op.d, PyData.canLay0, PyData.depth, h1, h2, hg, hp] <;> omega
theorem shaped_ops {ops : List Op} (h : OkOps ops) : PySem.SeqAt.shaped (.list (ops.map Op.d)) = true := by
  have := lay_ops h
  simp [PySem.SeqAt.shaped, PyData.canLay0, this.1, PyData.depth]; omega
theorem shaped_due {k : Str} {ps : Ps} (hk : PyData.strOk k = true) (h : OkPs ps) : PySem.SeqAt.shaped (.tuple [.str k, .list (ps.map pairD)]) = true := by
  have h2 := depth_pairs ps
  simp [PySem.SeqAt.shaped, PyData.canLay0, PyData.canLayAll0, lay_pairs h, hk, PyData.depth, PyData.depthAll]; omega
theorem kput_ok {c : Ps} {k : Str} {v cap : Int} (hk : PyData.strOk k = true) (h : OkPs c) : PyData.strOk (kput c k v cap).1 = true ∧ OkPs (kput c k v cap).2 := by
  have hd : ∀ k', OkPs (drop c k') := fun k' q hq => h q (List.mem_filter.mp hq).1
  have hs : ∀ {ps : Ps}, OkPs ps → OkPs (ps ++ [(k, v)]) := fun hp q hq => by
    rcases List.mem_append.mp hq with hq | hq
    · exact hp q hq
    · rw [List.mem_singleton.mp hq]; exact hk
  have he : PyData.strOk "" = true := by decide +kernel
  unfold kput
  split
  · exact ⟨he, hs (hd k)⟩
  · split
    · split
      · exact ⟨he, fun _ h => nomatch h⟩
      · exact ⟨h _ (.head _), hs (hd _)⟩
    · exact ⟨he, hs h⟩
theorem fmod_nat (x : Int) (n : Nat) (h : 0 < n) : ∃ k : Nat, x.fmod n = (k : Int) ∧ k < n := by
  have h1 := Int.fmod_nonneg_of_pos x (show (0 : Int) < n by omega)
  have h2 := Int.fmod_lt_of_pos x (show (0 : Int) < n by omega)
  exact ⟨(x.fmod n).toNat, by omega, by omega⟩

section
variable {prog : Program} {w : World} {A : Around} {E : Value → Shared → Prop} {s : Shared} {mg mb : Str → Option Value} {a l : Addr} {Q : Value → Shared → Prop} {vs : List Value} {ns : List Int}
set_option maxHeartbeats 4000000 in
theorem law_spec (hA : OkA A 3) (W : Wd mg mb s.heap) (ha : mg (fdAt 16).name = some (.ref a)) (hl : s.heap.IsList l vs.toArray) (hI : IntsAre vs ns) (hz : ns.length ≤ 63)
    (hk : ∀ h' tk, Ext s.heap h' → Q (.bool true) { s with heap := h', toks := tk }) :
    wpAny (model prog w) A (call (.ref a) [.ref l]) Q E s := by
  obtain ⟨of, pm, cd, dc, fn⟩ := fn_of W (i := 16) (by decide) ha
  refine enterP (i := 16) (n := 2) (hb := s.heap) (u := []) (g := []) (binds := [("script", .ref l)]) hA fn W.nolimit (Ext.refl _) (Nat.le_refl _)
    (fun _ h => nomatch h) (fun _ h => nomatch h) (fun _ h => nomatch h) (by simp) rfl ?_
  intro L h₁ tk S hA'
  have hA1 := hA'.less (k := 1) (by omega)
  obtain ⟨a11, o11, pm11, cd11, dc11, e11, f11⟩ := W.fn 11 (by decide)
  obtain ⟨a13, o13, pm13, cd13, dc13, e13, f13⟩ := W.fn 13 (by decide)
  obtain ⟨a15, o15, pm15, cd15, dc15, e15, f15⟩ := W.fn 15 (by decide)
  obtain ⟨a6, o6, pm6, cd6, dc6, e6, f6⟩ := W.fn 6 (by decide)
  obtain ⟨a7, o7, pm7, cd7, dc7, e7, f7⟩ := W.fn 7 (by decide)
  obtain ⟨a8, o8, pm8, cd8, dc8, e8, f8⟩ := W.fn 8 (by decide)
  obtain ⟨a14, o14, pm14, cd14, dc14, e14, f14⟩ := W.fn 14 (by decide)
  obtain ⟨a2, o2, pm2, cd2, dc2, e2, f2⟩ := W.fn 2 (by decide)
  obtain ⟨a3, o3, pm3, cd3, dc3, e3, f3⟩ := W.fn 3 (by decide)
  obtain ⟨ak, ok, t1, t2, t3, t4, nk, ek, hkk, hkc, hkd⟩ := W.keys
  have hlv := ints_len hI
  conv in (fdAt 16).body => whnf
  have isl : ∀ {h : Heap} {m : Str → Option Value} {u g : Lg}, St s.heap L [] m u g h → h.IsList l vs.toArray := fun S => let ⟨o, ho, r⟩ := hl; ⟨o, S.fr.keep _ _ ho, r⟩
  refine wpAny_execs_cons (wpAny_If (wpAny_isTrue_Compare1 (callB "len" (nmB S W (W.free _ (by decide)) rfl ⟨rfl, wpAny_items_cons (nmL S rfl (wpAny_items_nil (call_len_list (isl S) (by rw [List.size_toArray]; omega) (wpAny_Constant_int (PyProof.Rows.lt_int (wpAny_truthy_bool ?_))))))⟩))))
  rw [List.size_toArray, hlv]
  by_cases h21 : (ns.length : Int) < 21
  · rw [decide_eq_true h21]
    exact wpAny_execs_cons (wpAny_Return_some (wpAny_Constant_bool (hk _ _ S.fr.keep)))
  rw [decide_eq_false h21]
  have h21' : 21 ≤ ns.length := by omega
  refine wpAny_execs_nil ?_
  dsimp only
  obtain ⟨kc, hkc1, hkc2⟩ := fmod_nat (ns.getD 0 0) 3 (by decide)
  obtain ⟨n, hn1, hn2⟩ := fmod_nat (ns.getD 1 0) 9 (by decide)
  obtain ⟨kr, hkr1, hkr2⟩ := fmod_nat (ns.getD 18 0) 3 (by decide)
  obtain ⟨cap, hcap⟩ : ∃ cap : Int, cap = (ns.getD 0 0).fmod 3 + 1 := ⟨_, rfl⟩
  obtain ⟨room, hroom⟩ : ∃ room : Int, room = (ns.getD 18 0).fmod 3 + 1 := ⟨_, rfl⟩
  have hkc1' : (ns.getD 0 0).fmod 3 = (kc : Int) := hkc1
  have hkr1' : (ns.getD 18 0).fmod 3 = (kr : Int) := hkr1
  have hN : cap = ((kc + 1 : Nat) : Int) := by rw [hcap]; omega
  have hN1 : 1 ≤ kc + 1 := by omega
  have hcap1 : 1 ≤ cap := by omega
  have hroom1 : 1 ≤ room := by omega
  refine wpAny_execs_cons (wpAny_Assign_Name (wpAny_BinOp (wpAny_BinOp (scI (i := 0) S hl hI rfl (by omega) hz fun tx tkx => wpAny_Constant_int (PyProof.Rows.mod_int' (by decide) (wpAny_Constant_int (PyProof.Rows.add_int (stL S fun h₂ S₂ => ?_)))))))) 
  rw [← hcap] at S₂
  dsimp only
  refine wpAny_execs_cons (wpAny_Assign_Name (wpAny_BinOp (scI (i := 1) S₂ hl hI rfl (by omega) hz fun tx tkx => wpAny_Constant_int (PyProof.Rows.mod_int' (by decide) (stL S₂ fun h₃ S₃ => ?_)))))
  rw [show (ns.getD 1 0).fmod 9 = (n : Int) from hn1] at S₃
  dsimp only
  refine wpAny_execs_cons (wpAny_Assign_Name (List_ (wpAny_items_cons (cellE (i := 2) (j := 3) S₃ hl hI rfl (by omega) (by omega) hz fun hc1 b1 ob1 tkc1 Sc1 Dc1 => ?_))))
  dsimp only
  refine wpAny_items_cons (cellE (i := 4) (j := 5) Sc1 hl hI rfl (by omega) (by omega) hz fun hc2 b2 ob2 tkc2 Sc2 Dc2 => ?_)
  dsimp only
  refine wpAny_items_cons (cellE (i := 6) (j := 7) Sc2 hl hI rfl (by omega) (by omega) hz fun hc3 b3 ob3 tkc3 Sc3 Dc3 => ?_)
  dsimp only
  refine wpAny_items_cons (cellE (i := 8) (j := 9) Sc3 hl hI rfl (by omega) (by omega) hz fun hc4 b4 ob4 tkc4 Sc4 Dc4 => ?_)
  dsimp only
  refine wpAny_items_cons (cellE (i := 10) (j := 11) Sc4 hl hI rfl (by omega) (by omega) hz fun hc5 b5 ob5 tkc5 Sc5 Dc5 => ?_)
  dsimp only
  refine wpAny_items_cons (cellE (i := 12) (j := 13) Sc5 hl hI rfl (by omega) (by omega) hz fun hc6 b6 ob6 tkc6 Sc6 Dc6 => ?_)
  dsimp only
  refine wpAny_items_cons (cellE (i := 14) (j := 15) Sc6 hl hI rfl (by omega) (by omega) hz fun hc7 b7 ob7 tkc7 Sc7 Dc7 => ?_)
  dsimp only
  refine wpAny_items_cons (cellE (i := 16) (j := 17) Sc7 hl hI rfl (by omega) (by omega) hz fun hc8 b8 ob8 tkc8 Sc8 Dc8 => ?_)
  dsimp only
  refine wpAny_items_nil (mkLst Sc8 (by simp) fun h₄ lc S₄ => stL S₄ fun h₅ S₅ => ?_)
  dsimp only
  have Dcl : DL ((lc, lstO [.ref b1, .ref b2, .ref b3, .ref b4, .ref b5, .ref b6, .ref b7, .ref b8] 0) :: (b8, ob8) :: (b7, ob7) :: (b6, ob6) :: (b5, ob5) :: (b4, ob4) :: (b3, ob3) :: (b2, ob2) :: (b1, ob1) :: []) (.ref lc) (.list ((cellsOf ns).map cellD)) :=
    .list (.head _) (.cons (Dc1.mono fun _ hp => .tail _ (.tail _ (.tail _ (.tail _ (.tail _ (.tail _ (.tail _ (.tail _ hp)))))))) (.cons (Dc2.mono fun _ hp => .tail _ (.tail _ (.tail _ (.tail _ (.tail _ (.tail _ (.tail _ hp))))))) (.cons (Dc3.mono fun _ hp => .tail _ (.tail _ (.tail _ (.tail _ (.tail _ (.tail _ hp)))))) (.cons (Dc4.mono fun _ hp => .tail _ (.tail _ (.tail _ (.tail _ (.tail _ hp))))) (.cons (Dc5.mono fun _ hp => .tail _ (.tail _ (.tail _ (.tail _ hp)))) (.cons (Dc6.mono fun _ hp => .tail _ (.tail _ (.tail _ hp))) (.cons (Dc7.mono fun _ hp => .tail _ (.tail _ hp)) (.cons (Dc8.mono fun _ hp => .tail _ hp) (.nil)))))))))
  have hcl : (cellsOf ns).length = 8 := rfl
  obtain ⟨ops, hops⟩ : ∃ ops, ((cellsOf ns).take n).map opOf = ops := ⟨_, rfl⟩
  have hoplen : ops.length ≤ 8 := by rw [← hops, List.length_map, List.length_take]; omega
  have hok : OkOps ops := by rw [← hops]; intro o ho; obtain ⟨c, _, rfl⟩ := List.mem_map.mp ho; exact opOf_ok c
  refine wpAny_execs_cons (wpAny_Assign_Name (callU (o := o11) (fd := docF 11 pm11 cd11 dc11) (nmG S₅ W e11 ⟨rfl, wpAny_items_cons (nmL S₅ rfl (wpAny_items_cons (nmL S₅ rfl (wpAny_items_nil ⟨⟨S₅.fr.keep _ _ f11.at_, f11.d⟩, ?_⟩))))⟩)))
  refine law_ops_spec hA1 (W.keeps S₅.fr.keep) e11 S₅.at Dcl (by omega) (by omega) fun ov g₆ h₆ tk₆ hx₆ ha₆ hn₆ D₆ => ?_
  rw [hops] at D₆
  have S₆ := S₅.back hx₆ ha₆ hn₆
  dsimp only
  refine stL S₆ fun h₇ S₇ => ?_
  dsimp only
  refine wpAny_execs_cons (wpAny_Assign_Name (callU (o := o11) (fd := docF 11 pm11 cd11 dc11) (nmG S₇ W e11 ⟨rfl, wpAny_items_cons (nmL S₇ rfl (wpAny_items_cons (nmL S₇ rfl (wpAny_items_nil ⟨⟨S₇.fr.keep _ _ f11.at_, f11.d⟩, ?_⟩))))⟩)))
  refine law_ops_spec hA1 (W.keeps S₇.fr.keep) e11 S₇.at (Dcl.mono fun _ hp => List.mem_append_right _ hp) (by omega) (by omega) fun kv g₈ h₈ tk₈ hx₈ ha₈ hn₈ D₈ => ?_
  rw [hops] at D₈
  have S₈ := S₇.back hx₈ ha₈ hn₈
  dsimp only
  refine stL S₈ fun h₉ S₉ => ?_
  dsimp only
  refine wpAny_execs_cons (wpAny_Assign_Name (callU (o := o13) (fd := docF 13 pm13 cd13 dc13) (nmG S₉ W e13 ⟨rfl, wpAny_items_cons (nmL S₉ rfl (wpAny_items_cons (nmL S₉ rfl (wpAny_items_nil ⟨⟨S₉.fr.keep _ _ f13.at_, f13.d⟩, ?_⟩))))⟩)))
  refine law_reckon_spec hA' (W.keeps S₉.fr.keep) e13 S₉.at (D₈.mono fun _ hp => List.mem_append_left _ hp) (by omega) hok (rlen_of hN hok (by omega)) fun wv g₁₀ h₁₀ tk₁₀ hx₁₀ ha₁₀ hn₁₀ D₁₀ => ?_
  have hrp := rplay_eq hN hN1 ops
  have hrb := rplay_bound hN ops [] (fun _ h => nomatch h) hok
  have hat : ∀ x ∈ (play cap [] ops).1, Atom x := by rw [← hrp.1]; exact hrb.2.2.1
  have hpl := play_length cap [] ops
  have hpo : OkPs (play cap [] ops).2 := by rw [← hrp.2]; exact live_ok hrb.2.1
  have hnd := play_nd hN hN1 ops
  rw [hrp.1, hrp.2] at D₁₀
  obtain ⟨as, has⟩ : ∃ as, (play cap [] ops).1 = as := ⟨_, rfl⟩
  obtain ⟨ps, hps⟩ : ∃ ps, (play cap [] ops).2 = ps := ⟨_, rfl⟩
  rw [has] at hat hpl D₁₀
  rw [hps] at hpl hpo hnd D₁₀
  simp only [List.length_nil] at hpl
  have S₁₀ := S₉.back hx₁₀ ha₁₀ hn₁₀
  dsimp only
  refine stL S₁₀ fun h₁₁ S₁₁ => ?_
  dsimp only
  obtain ⟨G, mG, S₁₂, q1, q2, q3, q4, q5, Do, Dk, Dw⟩ : ∃ (G : Lg) (mG : Str → Option Value), St s.heap L [] mG [] G h₁₁ ∧ mG "script" = some (.ref l) ∧ (∃ tc, mG "capacity" = some (.int cap tc)) ∧ mG "ops" = some ov ∧ mG "kept" = some kv ∧ mG "want" = some wv ∧
      DL G ov (.list (ops.map Op.d)) ∧ DL G kv (.list (ops.map Op.d)) ∧ DL G wv (.tuple [.list as, .list (ps.map pairD)]) :=
    ⟨_, _, S₁₁, rfl, ⟨_, rfl⟩, rfl, rfl, rfl, D₆.mono fun _ hp => List.mem_append_right _ (List.mem_append_right _ (List.mem_append_left _ hp)), D₈.mono fun _ hp => List.mem_append_right _ (List.mem_append_left _ hp), D₁₀.mono fun _ hp => List.mem_append_left _ hp⟩
  obtain ⟨tc, q2⟩ := q2
  clear S₁₁ S₁₀ S₉ S₈ S₇ S₆ S₅ S₄ S₃ S₂
  refine wpAny_execs_cons (wpAny_Assign_Name (callU (o := o6) (fd := docF 6 pm6 cd6 dc6) (nmG S₁₂ W e6 ⟨rfl, wpAny_items_cons (nmL S₁₂ q3 (wpAny_items_cons (nmL S₁₂ q2 (wpAny_items_nil ⟨⟨S₁₂.fr.keep _ _ f6.at_, f6.d⟩, ?_⟩))))⟩)))
  refine play_cache_spec hA' (W.keeps S₁₂.fr.keep) e6 S₁₂.at Do (by omega) hcap1 fun rvp1 gp1 hp1 tkp1 hxp1 hap1 hnp1 Dp1 => ?_
  rw [has, hps] at Dp1
  have Sp1 := S₁₂.back hxp1 hap1 hnp1
  dsimp only
  refine stL Sp1 fun hp1' Sp1' => ?_
  dsimp only
  refine wpAny_execs_cons (wpAny_If (isTrue_not (isTrue_plain (callU (o := o15) (fd := docF 15 pm15 cd15 dc15) (nmG Sp1' W e15 ⟨rfl, wpAny_items_cons (nmL Sp1' upd_eq (wpAny_items_cons (nmL Sp1' (upd_ne (by decide) q5) (wpAny_items_nil ⟨⟨Sp1'.fr.keep _ _ f15.at_, f15.d⟩, ?_⟩))))⟩)))))
  refine law_same_spec hA1 (W.keeps Sp1'.fr.keep) e15 Sp1'.at (Dp1.mono fun _ hp => List.mem_append_left _ hp) (Dw.mono fun _ hp => List.mem_append_right _ hp) hat hpo (by omega) (by omega) fun hp12 tkp12 hxp12 => wpAny_truthy_bool ?_
  have Sp12 := Sp1'.ext hxp12
  dsimp only
  refine wpAny_execs_nil ?_
  dsimp only
  refine wpAny_execs_cons (wpAny_If (wpAny_isTrue_Compare1 (nmL Sp12 (upd_ne (by decide) q3) (nmL Sp12 (upd_ne (by decide) q4) (cmpNe hA' Sp12 (Do.mono fun _ hp => List.mem_append_right _ hp) (Dk.mono fun _ hp => List.mem_append_right _ hp) (shaped_ops hok) (shaped_ops hok) (wpAny_truthy_bool ?_))))))
  rw [PySem.SeqAt.eqv_refl _ (canLay_of_sh (shaped_ops hok))]
  refine wpAny_execs_nil ?_
  dsimp only
  replace q1 : upd mG "plain" rvp1 "script" = _ := upd_ne (by decide) q1
  replace q2 : upd mG "plain" rvp1 "capacity" = _ := upd_ne (by decide) q2
  replace q3 : upd mG "plain" rvp1 "ops" = _ := upd_ne (by decide) q3
  replace q4 : upd mG "plain" rvp1 "kept" = _ := upd_ne (by decide) q4
  replace q5 : upd mG "plain" rvp1 "want" = _ := upd_ne (by decide) q5
  replace Do := Do.mono (g' := gp1 ++ G) fun _ hp => List.mem_append_right _ hp
  replace Dk := Dk.mono (g' := gp1 ++ G) fun _ hp => List.mem_append_right _ hp
  replace Dw := Dw.mono (g' := gp1 ++ G) fun _ hp => List.mem_append_right _ hp
  clear Sp1 Sp1' Dp1 hnp1 hap1
  generalize upd mG "plain" rvp1 = mG at q1 q2 q3 q4 q5 Sp12
  generalize gp1 ++ G = G at Do Dk Dw Sp12
  refine wpAny_execs_cons (wpAny_Assign_Name (callU (o := o7) (fd := docF 7 pm7 cd7 dc7) (nmG Sp12 W e7 ⟨rfl, wpAny_items_cons (nmL Sp12 q3 (wpAny_items_cons (nmL Sp12 q2 (wpAny_items_nil ⟨⟨Sp12.fr.keep _ _ f7.at_, f7.d⟩, ?_⟩))))⟩)))
  refine play_cache_fast_spec hA' (W.keeps Sp12.fr.keep) e7 Sp12.at Do (by omega) hcap1 fun rvp2 gp2 hp2 tkp2 hxp2 hap2 hnp2 Dp2 => ?_
  rw [has, hps] at Dp2
  have Sp2 := Sp12.back hxp2 hap2 hnp2
  dsimp only
  refine stL Sp2 fun hp2' Sp2' => ?_
  dsimp only
  refine wpAny_execs_cons (wpAny_If (isTrue_not (isTrue_plain (callU (o := o15) (fd := docF 15 pm15 cd15 dc15) (nmG Sp2' W e15 ⟨rfl, wpAny_items_cons (nmL Sp2' upd_eq (wpAny_items_cons (nmL Sp2' (upd_ne (by decide) q5) (wpAny_items_nil ⟨⟨Sp2'.fr.keep _ _ f15.at_, f15.d⟩, ?_⟩))))⟩)))))
  refine law_same_spec hA1 (W.keeps Sp2'.fr.keep) e15 Sp2'.at (Dp2.mono fun _ hp => List.mem_append_left _ hp) (Dw.mono fun _ hp => List.mem_append_right _ hp) hat hpo (by omega) (by omega) fun hp22 tkp22 hxp22 => wpAny_truthy_bool ?_
  have Sp22 := Sp2'.ext hxp22
  dsimp only
  refine wpAny_execs_nil ?_
  dsimp only
  refine wpAny_execs_cons (wpAny_If (wpAny_isTrue_Compare1 (nmL Sp22 (upd_ne (by decide) q3) (nmL Sp22 (upd_ne (by decide) q4) (cmpNe hA' Sp22 (Do.mono fun _ hp => List.mem_append_right _ hp) (Dk.mono fun _ hp => List.mem_append_right _ hp) (shaped_ops hok) (shaped_ops hok) (wpAny_truthy_bool ?_))))))
  rw [PySem.SeqAt.eqv_refl _ (canLay_of_sh (shaped_ops hok))]
  refine wpAny_execs_nil ?_
  dsimp only
  replace q1 : upd mG "fast" rvp2 "script" = _ := upd_ne (by decide) q1
  replace q2 : upd mG "fast" rvp2 "capacity" = _ := upd_ne (by decide) q2
  replace q3 : upd mG "fast" rvp2 "ops" = _ := upd_ne (by decide) q3
  replace q4 : upd mG "fast" rvp2 "kept" = _ := upd_ne (by decide) q4
  replace q5 : upd mG "fast" rvp2 "want" = _ := upd_ne (by decide) q5
  replace Do := Do.mono (g' := gp2 ++ G) fun _ hp => List.mem_append_right _ hp
  replace Dk := Dk.mono (g' := gp2 ++ G) fun _ hp => List.mem_append_right _ hp
  replace Dw := Dw.mono (g' := gp2 ++ G) fun _ hp => List.mem_append_right _ hp
  clear Sp2 Sp2' Dp2 hnp2 hap2
  generalize upd mG "fast" rvp2 = mG at q1 q2 q3 q4 q5 Sp22
  generalize gp2 ++ G = G at Do Dk Dw Sp22
  refine wpAny_execs_cons (wpAny_Assign_Name (callU (o := o8) (fd := docF 8 pm8 cd8 dc8) (nmG Sp22 W e8 ⟨rfl, wpAny_items_cons (nmL Sp22 q3 (wpAny_items_cons (nmL Sp22 q2 (wpAny_items_nil ⟨⟨Sp22.fr.keep _ _ f8.at_, f8.d⟩, ?_⟩))))⟩)))
  refine play_model_spec hA' (W.keeps Sp22.fr.keep) e8 Sp22.at Do (by omega) hcap1 hok fun rvp3 gp3 hp3 tkp3 hxp3 hap3 hnp3 Dp3 => ?_
  rw [mplay_eq hN hN1 ops] at Dp3
  rw [has, hps] at Dp3
  have Sp3 := Sp22.back hxp3 hap3 hnp3
  dsimp only
  refine stL Sp3 fun hp3' Sp3' => ?_
  dsimp only
  refine wpAny_execs_cons (wpAny_If (isTrue_not (isTrue_plain (callU (o := o15) (fd := docF 15 pm15 cd15 dc15) (nmG Sp3' W e15 ⟨rfl, wpAny_items_cons (nmL Sp3' upd_eq (wpAny_items_cons (nmL Sp3' (upd_ne (by decide) q5) (wpAny_items_nil ⟨⟨Sp3'.fr.keep _ _ f15.at_, f15.d⟩, ?_⟩))))⟩)))))
  refine law_same_spec hA1 (W.keeps Sp3'.fr.keep) e15 Sp3'.at (Dp3.mono fun _ hp => List.mem_append_left _ hp) (Dw.mono fun _ hp => List.mem_append_right _ hp) hat hpo (by omega) (by omega) fun hp32 tkp32 hxp32 => wpAny_truthy_bool ?_
  have Sp32 := Sp3'.ext hxp32
  dsimp only
  refine wpAny_execs_nil ?_
  dsimp only
  refine wpAny_execs_cons (wpAny_If (wpAny_isTrue_Compare1 (nmL Sp32 (upd_ne (by decide) q3) (nmL Sp32 (upd_ne (by decide) q4) (cmpNe hA' Sp32 (Do.mono fun _ hp => List.mem_append_right _ hp) (Dk.mono fun _ hp => List.mem_append_right _ hp) (shaped_ops hok) (shaped_ops hok) (wpAny_truthy_bool ?_))))))
  rw [PySem.SeqAt.eqv_refl _ (canLay_of_sh (shaped_ops hok))]
  refine wpAny_execs_nil ?_
  dsimp only
  replace q1 : upd mG "model" rvp3 "script" = _ := upd_ne (by decide) q1
  replace q2 : upd mG "model" rvp3 "capacity" = _ := upd_ne (by decide) q2
  replace q3 : upd mG "model" rvp3 "ops" = _ := upd_ne (by decide) q3
  replace q4 : upd mG "model" rvp3 "kept" = _ := upd_ne (by decide) q4
  replace q5 : upd mG "model" rvp3 "want" = _ := upd_ne (by decide) q5
  replace Do := Do.mono (g' := gp3 ++ G) fun _ hp => List.mem_append_right _ hp
  replace Dk := Dk.mono (g' := gp3 ++ G) fun _ hp => List.mem_append_right _ hp
  replace Dw := Dw.mono (g' := gp3 ++ G) fun _ hp => List.mem_append_right _ hp
  clear Sp3 Sp3' Dp3 hnp3 hap3
  generalize upd mG "model" rvp3 = mG at q1 q2 q3 q4 q5 Sp32
  generalize gp3 ++ G = G at Do Dk Dw Sp32
  have R₀ := Sp32
  clear Sp32
  refine wpAny_execs_cons (wpAny_Assign_Name (wpAny_BinOp (wpAny_BinOp (scI (i := 18) R₀ hl hI q1 (by omega) hz fun tx tkx => wpAny_Constant_int (PyProof.Rows.mod_int' (by decide) (wpAny_Constant_int (PyProof.Rows.add_int (stL R₀ fun r₁ R₁ => ?_)))))))) 
  rw [← hroom] at R₁
  dsimp only
  refine wpAny_execs_cons (wpAny_Assign_Name (Subscript_ (nmG R₁ W ek (wpAny_BinOp (scI (i := 19) R₁ hl hI (upd_ne (by decide) q1) (by omega) hz fun tx tkx => wpAny_Constant_int (PyProof.Rows.mod_int' (by decide) ?_))))))
  refine keyT (R₁.fr.keep _ _ hkk) hkc hkd fun tkk => ?_
  dsimp only
  obtain ⟨key, hkey⟩ : ∃ key, keyOf (ns.getD 19 0) = key := ⟨_, rfl⟩
  have hkok : PyData.strOk key = true := by rw [← hkey]; exact keyOf_ok _
  rw [hkey]
  refine stL R₁ fun r₂ R₂ => ?_
  dsimp only
  refine wpAny_execs_cons (wpAny_Assign_Name (scI (i := 20) R₂ hl hI (upd_ne (by decide) (upd_ne (by decide) q1)) (by omega) hz fun tv tkv => stL R₂ fun r₃ R₃ => ?_))
  dsimp only
  obtain ⟨v, hv⟩ : ∃ v, ns.getD 20 0 = v := ⟨_, rfl⟩
  rw [hv] at R₃
  obtain ⟨mR, R₃, w1, w2, w3, w4⟩ : ∃ mR : Str → Option Value, St s.heap L [] mR [] G r₃ ∧ mR "want" = some wv ∧ (∃ t, mR "room" = some (.int room t)) ∧ (∃ t, mR "key" = some (.str key t)) ∧ ∃ t, mR "value" = some (.int v t) :=
    ⟨_, R₃, upd_ne (by decide) (upd_ne (by decide) (upd_ne (by decide) q5)), ⟨_, rfl⟩, ⟨_, rfl⟩, _, rfl⟩
  obtain ⟨tr, w2⟩ := w2
  obtain ⟨tk', w3⟩ := w3
  obtain ⟨tv', w4⟩ := w4
  have hpsz : ps.length ≤ 100 := by omega
  refine wpAny_execs_cons (wpAny_Assign_Name (callU (o := o14) (fd := docF 14 pm14 cd14 dc14) (nmG R₃ W e14 ⟨rfl, wpAny_items_cons (Subscript_ (nmL R₃ w1 (wpAny_Constant_int (sbT (i := 1) R₃ Dw rfl (by simp) fun pv hpv => wpAny_items_cons (nmL R₃ w3 (wpAny_items_cons (nmL R₃ w4 (wpAny_items_cons (nmL R₃ w2 (wpAny_items_nil ⟨⟨R₃.fr.keep _ _ f14.at_, f14.d⟩, ?_⟩))))))))))⟩)))
  refine law_put_due_spec hA1 (W.keeps R₃.fr.keep) e14 R₃.at hpv hpsz hroom1 fun dv g₄ r₄ tk₄ hx₄ ha₄ hn₄ D₄ => ?_
  rw [due_put hnd hroom1] at D₄
  have hko := kput_ok (c := ps) (k := key) (v := v) (cap := room) hkok hpo
  have hsd := shaped_due hko.1 hko.2
  have R₄ := R₃.back hx₄ ha₄ hn₄
  have D₄' := D₄.mono (g' := g₄ ++ G) fun _ hp => List.mem_append_left _ hp
  dsimp only
  refine stL R₄ fun r₅ R₅ => ?_
  dsimp only
  replace Dw := Dw.mono (g' := g₄ ++ G) fun _ hp => List.mem_append_right _ hp
  obtain ⟨mR, R₅, w1, w2, w3, w4, w5⟩ : ∃ mR' : Str → Option Value, St s.heap L [] mR' [] (g₄ ++ G) r₅ ∧ mR' "want" = some wv ∧ mR' "room" = some (.int room tr) ∧ mR' "key" = some (.str key tk') ∧ mR' "value" = some (.int v tv') ∧ mR' "due" = some dv :=
    ⟨_, R₅, upd_ne (by decide) w1, upd_ne (by decide) w2, upd_ne (by decide) w3, upd_ne (by decide) w4, upd_eq⟩
  generalize g₄ ++ G = G at Dw D₄' R₅
  refine wpAny_execs_cons (wpAny_Assign_Name (callT "dict" (nmB R₅ W (W.free _ (by decide)) rfl ⟨rfl, wpAny_items_cons (Subscript_ (nmL R₅ w1 (wpAny_Constant_int (sbT (i := 1) R₅ Dw rfl (by simp) fun pvs1 hpvs1 => wpAny_items_nil ?_))))⟩)))
  refine dictOfL hA'.hd R₅ hpvs1 (by omega) hnd fun hs1 tks1 ds1 os1 kvss1 hds1 Ss1 Hs1 Ks1 => ?_
  have los1 : (ds1 == sysModules) = false := hds1 ▸ R₅.fr.notModules (modules_low W.nolimit)
  dsimp only
  refine stL Ss1 fun hs11 Ss11 => ?_
  dsimp only
  have kzs1 : kvss1.length ≤ 1000 := by rw [Ks1.length]; omega
  refine wpAny_execs_cons (wpAny_Assign_Name (callU (o := o2) (fd := docF 2 pm2 cd2 dc2) (nmG Ss11 W e2 ⟨rfl, wpAny_items_cons (nmL Ss11 upd_eq (wpAny_items_cons (nmL Ss11 (upd_ne (by decide) w3) (wpAny_items_cons (nmL Ss11 (upd_ne (by decide) w4) (wpAny_items_cons (nmL Ss11 (upd_ne (by decide) w2) (wpAny_items_nil ⟨⟨Ss11.fr.keep _ _ f2.at_, f2.d⟩, ?_⟩))))))))⟩)))
  refine cache_put_spec hA1 (Ss11.hideW W (.head _)) e2 (Ss11.un _ (.head _)).1 Hs1 los1 kzs1 (fun x hx => ?_) hroom1 fun os1' hs12 tks12 ts12 Ts1 Hs1' => ?_
  · rcases Ks1.look key with ⟨_, h2⟩ | ⟨n, t, _, h2⟩ <;> rw [h2] at hx <;> cases hx
    exact ⟨_, _, rfl⟩
  have Ps1 := Ks1.put key v tv' room
  rw [Ps1.1]
  have Ss12 := Ss11.turn .head Ts1
  dsimp only
  refine stL Ss12 fun hs13 Ss13 => ?_
  dsimp only
  have kzs1' : (putRes kvss1 key (.int v tv') room).2.length ≤ 1000 := by rw [Ps1.2.length]; have := kput_length ps key v room; omega
  refine wpAny_execs_cons (wpAny_If (wpAny_isTrue_Compare1 (Tuple_ (wpAny_items_cons (nmL Ss13 upd_eq (wpAny_items_cons (callT "list" (nmB Ss13 W (W.free _ (by decide)) rfl ⟨rfl, wpAny_items_cons (callM0 "dict" "dict.items" PySem.F.plainAttrs_dict PySem.F.slot_dict_items PySem.F.type_dict_items
    (nmL Ss13 (upd_ne (by decide) upd_eq) ⟨(Ss13.dict (.head _) Hs1').typeIs, (Ss13.dict (.head _) Hs1').mapOf.noDict, dItems Ss13 (.head _) Hs1' los1 fun hs14 vs14 Ss14 => wpAny_items_nil (lItems hA'.hd Ss14 (.head _) (.head _) Hs1' Ps1.2 kzs1' fun hs15 tks15 as15 gs15 Ss15 Ds15 => ?_)⟩))⟩))))))))
  dsimp only
  refine wpAny_items_nil (mkTup Ss15 (by simp) fun hs16 as16 Ss16 => ?_)
  dsimp only
  refine nmL Ss16 (upd_ne (by decide) (upd_ne (by decide) w5)) (cmpNe hA' Ss16 (da := .tuple [.str (kput ps key v room).1, .list ((kput ps key v room).2.map pairD)]) (.tuple (.head _) (.cons (.str _ _) (.cons (Ds15.mono fun _ hp => .tail _ hp) .nil))) (D₄'.mono fun _ hp => .tail _ (List.mem_append_right _ (.tail _ hp))) hsd hsd (wpAny_truthy_bool ?_))
  rw [PySem.SeqAt.eqv_refl _ (canLay_of_sh hsd)]
  refine wpAny_execs_nil ?_
  dsimp only
  have R₆ := Ss16.drop.subG (g' := G) fun _ hp => .tail _ (List.mem_append_right _ (.tail _ hp))
  obtain ⟨mR, R₆, w1, w2, w3, w4, w5⟩ : ∃ mR' : Str → Option Value, St s.heap L [] mR' [] G hs16 ∧ mR' "want" = some wv ∧ mR' "room" = some (.int room tr) ∧ mR' "key" = some (.str key tk') ∧ mR' "value" = some (.int v tv') ∧ mR' "due" = some dv :=
    ⟨_, R₆, upd_ne (by decide) (upd_ne (by decide) w1), upd_ne (by decide) (upd_ne (by decide) w2), upd_ne (by decide) (upd_ne (by decide) w3), upd_ne (by decide) (upd_ne (by decide) w4), upd_ne (by decide) (upd_ne (by decide) w5)⟩
  refine wpAny_execs_cons (wpAny_Assign_Name (callT "dict" (nmB R₆ W (W.free _ (by decide)) rfl ⟨rfl, wpAny_items_cons (Subscript_ (nmL R₆ w1 (wpAny_Constant_int (sbT (i := 1) R₆ Dw rfl (by simp) fun pvs2 hpvs2 => wpAny_items_nil ?_))))⟩)))
  refine dictOfL hA'.hd R₆ hpvs2 (by omega) hnd fun hs2 tks2 ds2 os2 kvss2 hds2 Ss2 Hs2 Ks2 => ?_
  have los2 : (ds2 == sysModules) = false := hds2 ▸ R₆.fr.notModules (modules_low W.nolimit)
  dsimp only
  refine stL Ss2 fun hs21 Ss21 => ?_
  dsimp only
  have kzs2 : kvss2.length ≤ 1000 := by rw [Ks2.length]; omega
  refine wpAny_execs_cons (wpAny_Assign_Name (callU (o := o3) (fd := docF 3 pm3 cd3 dc3) (nmG Ss21 W e3 ⟨rfl, wpAny_items_cons (nmL Ss21 upd_eq (wpAny_items_cons (nmL Ss21 (upd_ne (by decide) w3) (wpAny_items_cons (nmL Ss21 (upd_ne (by decide) w4) (wpAny_items_cons (nmL Ss21 (upd_ne (by decide) w2) (wpAny_items_nil ⟨⟨Ss21.fr.keep _ _ f3.at_, f3.d⟩, ?_⟩))))))))⟩)))
  refine cache_put_fast_spec hA1 (Ss21.hideW W (.head _)) e3 (Ss21.un _ (.head _)).1 Hs2 los2 kzs2 (fun x hx => ?_) hroom1 fun os2' hs22 tks22 ts22 Ts2 Hs2' => ?_
  · rcases Ks2.look key with ⟨_, h2⟩ | ⟨n, t, _, h2⟩ <;> rw [h2] at hx <;> cases hx
    exact ⟨_, _, rfl⟩
  have Ps2 := Ks2.put key v tv' room
  rw [Ps2.1]
  have Ss22 := Ss21.turn .head Ts2
  dsimp only
  refine stL Ss22 fun hs23 Ss23 => ?_
  dsimp only
  have kzs2' : (putRes kvss2 key (.int v tv') room).2.length ≤ 1000 := by rw [Ps2.2.length]; have := kput_length ps key v room; omega
  refine wpAny_execs_cons (wpAny_If (wpAny_isTrue_Compare1 (Tuple_ (wpAny_items_cons (nmL Ss23 upd_eq (wpAny_items_cons (callT "list" (nmB Ss23 W (W.free _ (by decide)) rfl ⟨rfl, wpAny_items_cons (callM0 "dict" "dict.items" PySem.F.plainAttrs_dict PySem.F.slot_dict_items PySem.F.type_dict_items
    (nmL Ss23 (upd_ne (by decide) upd_eq) ⟨(Ss23.dict (.head _) Hs2').typeIs, (Ss23.dict (.head _) Hs2').mapOf.noDict, dItems Ss23 (.head _) Hs2' los2 fun hs24 vs24 Ss24 => wpAny_items_nil (lItems hA'.hd Ss24 (.head _) (.head _) Hs2' Ps2.2 kzs2' fun hs25 tks25 as25 gs25 Ss25 Ds25 => ?_)⟩))⟩))))))))
  dsimp only
  refine wpAny_items_nil (mkTup Ss25 (by simp) fun hs26 as26 Ss26 => ?_)
  dsimp only
  refine nmL Ss26 (upd_ne (by decide) (upd_ne (by decide) w5)) (cmpNe hA' Ss26 (da := .tuple [.str (kput ps key v room).1, .list ((kput ps key v room).2.map pairD)]) (.tuple (.head _) (.cons (.str _ _) (.cons (Ds25.mono fun _ hp => .tail _ hp) .nil))) (D₄'.mono fun _ hp => .tail _ (List.mem_append_right _ (.tail _ hp))) hsd hsd (wpAny_truthy_bool ?_))
  rw [PySem.SeqAt.eqv_refl _ (canLay_of_sh hsd)]
  refine wpAny_execs_nil ?_
  dsimp only
  exact wpAny_execs_cons (wpAny_Return_some (wpAny_Constant_bool (hk _ _ Ss26.fr.keep)))
end
end Mine
end
section
open PySem PySem.W PyProof.Rows
set_option maxRecDepth 100000
set_option maxHeartbeats 8000000
theorem Mine.reads_keys {h : Heap} {v : Value} {as : List Addr} (r : ReadsLit h v (.tuple [.str "a", .str "b", .str "c", .str "d"]) as) : ∃ a o t1 t2 t3 t4 n, v = .ref a ∧ h.get? a = some o ∧ o.cls = .type "tuple" ∧ o.data = .seq #[.str "a" t1, .str "b" t2, .str "c" t3, .str "d" t4] n := by
  cases r with
  | @tuple a o vs n xs as h1 h2 h3 h4 =>
    obtain ⟨l⟩ := vs
    cases h4 with | cons a1 h4 => cases h4 with | cons a2 h4 => cases h4 with | cons a3 h4 => cases h4 with | cons a4 h4 => cases h4 with | nil =>
    cases a1; cases a2; cases a3; cases a4
    exact ⟨_, _, _, _, _, _, _, rfl, h1, h2, h3⟩
def Mine.freeNames : List Str := ["len", "list", "dict", "reversed", "type", "int", "str"]
def Mine.freeOk (p : Program) (loose : List Str) : Bool := Mine.freeNames.all fun x => !startupNames.contains x && !loose.contains x && !((recsOf p).map (·.name)).contains x && !((litsOf p).map (·.1)).contains x && !((clssOf p loose).map (·.name)).contains x
theorem Mine.wd_of {p : Program} {loose : List Str} {mean : ExcName → Option Value} {mg mb : Str → Option Value} {h : Heap} (T : Top p loose mean mg mb h) (TW : TopW p mg h) (e : recsOf p = Mine.defIdx.map Mine.fdAt)
    (e2 : (wlitsOf p)[0]? = some (("_law_keys" : Str), WData.tuple [.str "a", .str "b", .str "c", .str "d"])) (e3 : Mine.freeOk p loose = true) : Mine.Wd mg mb h where
  g := T.g
  b := T.b
  nolimit := T.nolimit
  builtins := T.builtins
  fn := fun i hi => by
    obtain ⟨a, o, pm, cd, dc, h1, h2, h3, h4⟩ := T.fn (Mine.fdAt i) (by rw [e]; exact List.mem_map.mpr ⟨i, hi, rfl⟩)
    exact ⟨a, o, pm, cd, dc, h1, h2, h3, h4⟩
  free := fun x hx => by
    have := List.all_eq_true.mp e3 x hx
    simp only [Bool.and_eq_true, Bool.not_eq_eq_eq_not, Bool.not_true, List.contains_eq_mem, decide_eq_false_iff_not] at this
    obtain ⟨⟨⟨⟨h1, h2⟩, h3⟩, h4⟩, h5⟩ := this
    exact T.free x h1 h2 h3 h4 h5
  keys := by
    obtain ⟨v, h1, h2⟩ := TW.lits _ (List.mem_of_getElem? e2)
    obtain ⟨a, o, t1, t2, t3, t4, n, rfl, r⟩ := Mine.reads_keys h2
    exact ⟨a, o, t1, t2, t3, t4, n, h1, r⟩
theorem PySem.Challenge.cw_wm_yst126_2_holds : PySem.Challenge.rw_wm_yst126_2.Holds := by
  w_on; o_law; k_head
  case hw => w_witness2
  k_fill
  intro w s₀ s₁ mg mb G Y fa o pm cd doc dV kV ho hd hcd hD hmg hg args vals as hpre hlay hrd hwl hlo
  refine Ground.open G ?_
  intro T B D TE TW
  wrow_args hpre hlay hrd hwl hlo
  rename_i hL ra w1 r0 hI hr hc1 hc2
  have W := Mine.wd_of T TW (by kernel_rfl) (by kernel_rfl) (by kernel_rfl)
  refine Mine.law_spec (A := callerA) ⟨rfl, by decide, by decide⟩ W hmg hL hI (by omega) fun h' tk hx => GoodW.toG ⟨.inl ⟨_, .bool true, [], rfl, fun cls => ?_, ReadsW.bool true, ?_, fun h => ?_⟩, hx, rfl, hg⟩
  · rfl
  · first | with_unfolding_all rfl | kernel_rfl | (simp [OpenLaw.row, RowW.claim, WTm.eval]; done) | trace_state
  · exact ⟨.nil, fun _ h => nomatch h⟩
end
