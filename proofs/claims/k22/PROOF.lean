import PyProof.Rows.All
import Wide.All
import OpenK.AllK
import Wide.FinOn
import HandS.ForMost
import HandS.ForExc
import HandS.Wide
import HandS.TupAny
import HandS.TupMul
import HandS.Rev
import HandS.Zip
import HandS.IsInst
import HandS.AnyAll
import HandS.Deep
import HandS.RaiseMore
import HandS.Flow
import HandS.ExcInit
import HandS.ExcSuper
import HandS.Lambda
import HandS.CallSlots
import HandS.Defaults
import HandS.Style
import HandS.TryMany
import HandS.ExcField
import HandS.FStr
import HandS.ExcOwn
import KE.KExcSuper
import KE.KExcInit
import HandS.Nested
import HandS.EndTab
import HandS.NestedK
import PySem.Challenge.RW_payroads_k22_errors_and_judges_of_number
import HandS.HeadHook4
set_option Elab.async false
set_option linter.all false
set_option maxRecDepth 100000
set_option maxHeartbeats 4000000
/-! Fx: values as plain data; what an expression, a statement, a def comes to, as a Lean function. -/
namespace Fx
open PySem PySem.Spec PyProof.Rows L2

/-! ### what code comes to -/
/-- an exception: its class by name, what it keeps -/
structure Ex where
  cls : Str
  kept : List (Str × PyData)
/-- a slot: nothing, a value, an own list (no one else knows it), a list lent by the caller -/
inductive Sl where
  | no | va (d : PyData) | ow (ds : List PyData) | bo (ds : List PyData) | xc
abbrev Vn := List Sl
inductive Res (α : Type) where
  | ok (a : α) | ex (x : Ex) (e : Vn) | bad
abbrev M (α : Type) := Vn → Res (α × Vn)

/-! ### a value and the data that it is: lists are tracked; the script, or what else is read alone, bears a mark -/
def scrD (ds : List PyData) : PyData := .dict [(.str "script", .list ds)]
mutual
inductive Dq (K : PySem.W.Frag) (H : Hp) : V → PyData → Prop
  | non : Dq K H .non .none
  | bl (b : Bool) : Dq K H (.bl b) (.bool b)
  | int (i : Int) : Dq K H (.int i) (.int i)
  | str (x : Str) : Dq K H (.str x) (.str x)
  | lst {a : Addr} {xs : List V} {ds : List PyData} : H a = some (.lst xs) → DqAll K H xs ds → Dq K H (.ref a) (.list ds)
  | tup {a : Addr} {xs : List V} {ds : List PyData} : SqT K H a xs → DqAll K H xs ds → Dq K H (.ref a) (.tuple ds)
  | scr {a : Addr} {xs : List V} {ds : List PyData} : SqL K H a xs → DqAll K H xs ds → Dq K H (.ref a) (.dict [(.str "script", .list ds)])
  | dct0 {a : Addr} : H a = some (.dK []) → Dq K H (.ref a) (.dict [])
  | dct1 {a : Addr} {i j : Int} {k : Key} : kV k = .int i → H a = some (.dK [(k, .int j)]) → Dq K H (.ref a) (.dict [(.int i, .int j)])
inductive DqAll (K : PySem.W.Frag) (H : Hp) : List V → List PyData → Prop
  | nil : DqAll K H [] []
  | cons {v : V} {vs : List V} {d : PyData} {ds : List PyData} : Dq K H v d → DqAll K H vs ds → DqAll K H (v :: vs) (d :: ds)
end

/-! ### heaps with something hidden -/
open Classical in
noncomputable def hid (H : Hp) (O : Addr → Prop) : Hp := fun a => if O a then none else H a
theorem hid_some {H : Hp} {O : Addr → Prop} {a : Addr} {o : HO} : hid H O a = some o ↔ ¬ O a ∧ H a = some o := by
  unfold hid
  constructor
  · intro h
    split at h
    · cases h
    · rename_i n
      exact ⟨n, h⟩
  · rintro ⟨n, h⟩
    rw [if_neg n, h]
theorem hid_up {H H' : Hp} {O O' : Addr → Prop} (h : ∀ a o, ¬ O a → H a = some o → ¬ O' a ∧ H' a = some o) : Same (hid H O) (hid H' O') := fun a o e =>
  hid_some.mpr (h a o (hid_some.mp e).1 (hid_some.mp e).2)
theorem hid_sub {H : Hp} {O : Addr → Prop} : Same (hid H O) H := fun _ _ e => (hid_some.mp e).2
theorem hid_less {H : Hp} {O O' : Addr → Prop} (h : ∀ a, O' a → O a) : Same (hid H O) (hid H O') := hid_up fun a o n e => ⟨fun z => n (h a z), e⟩
theorem seqL_up {K : PySem.W.Frag} {H H' : Hp} {a : Addr} {xs : List V} (e : Same H H') (h : SqL K H a xs) : SqL K H' a xs := e.seq h
theorem seqT_up {K : PySem.W.Frag} {H H' : Hp} {a : Addr} {xs : List V} (e : Same H H') (h : SqT K H a xs) : SqT K H' a xs := by
  rcases h with (h | ⟨o, h⟩) | h
  · exact .inl (.inl (e _ _ h))
  · exact .inl (.inr ⟨o, e _ _ h⟩)
  · exact .inr h
mutual
theorem dpUp {K : PySem.W.Frag} {H H' : Hp} (e : Same H H') : ∀ {v : V} {d : PyData}, Dq K H v d → Dq K H' v d
  | _, _, .non => .non
  | _, _, .bl b => .bl b
  | _, _, .int i => .int i
  | _, _, .str x => .str x
  | _, _, .lst h a => .lst (e _ _ h) (dpAllUp e a)
  | _, _, .scr h a => .scr (seqL_up e h) (dpAllUp e a)
  | _, _, .dct0 h => .dct0 (e _ _ h)
  | _, _, .dct1 q h => .dct1 q (e _ _ h)
  | _, _, .tup h a => .tup (seqT_up e h) (dpAllUp e a)
theorem dpAllUp {K : PySem.W.Frag} {H H' : Hp} (e : Same H H') : ∀ {v : List V} {d : List PyData}, DqAll K H v d → DqAll K H' v d
  | _, _, .nil => .nil
  | _, _, .cons h a => .cons (dpUp e h) (dpAllUp e a)
end
mutual
/-- without the mark: the library's own reading -/
theorem dqDp {K : PySem.W.Frag} {H : Hp} : ∀ {v : V} {d : PyData}, Dq K H v d → d.canLay0 = true → Dp K H v d
  | _, _, .non, _ => .non
  | _, _, .bl b, _ => .bl b
  | _, _, .int i, _ => .int i
  | _, _, .str x, _ => .str x
  | _, _, .lst h a, c => .lst (.inl (.inl h)) (dqDpAll a (by simpa [PyData.canLay0] using c))
  | _, _, .tup h a, c => .tup h (dqDpAll a (by simpa [PyData.canLay0] using c))
  | _, _, .scr h a, c => by simp [PyData.canLay0] at c
  | _, _, .dct0 h, c => by simp [PyData.canLay0] at c
  | _, _, .dct1 _ h, c => by simp [PyData.canLay0] at c
theorem dqDpAll {K : PySem.W.Frag} {H : Hp} : ∀ {v : List V} {d : List PyData}, DqAll K H v d → PyData.canLayAll0 d = true → DpAll K H v d
  | _, _, .nil, _ => .nil
  | _, _, .cons h a, c => by
    rw [PyData.canLayAll0, Bool.and_eq_true] at c
    exact .cons (dqDp h c.1) (dqDpAll a c.2)
end
theorem dpAll_get {K : PySem.W.Frag} {H : Hp} : ∀ {xs : List V} {ds : List PyData} {i : Nat} {d : PyData}, DqAll K H xs ds → ds[i]? = some d → ∃ x, xs[i]? = some x ∧ Dq K H x d
  | _, _, i, d, .nil, e => by simp at e
  | _, _, 0, d, .cons h a, e => by
    simp at e
    subst e
    exact ⟨_, rfl, h⟩
  | _, _, i + 1, d, .cons h a, e => by
    obtain ⟨x, q, r⟩ := dpAll_get (i := i) a (by simpa using e)
    exact ⟨x, by simpa using q, r⟩
theorem dpAll_len {K : PySem.W.Frag} {H : Hp} : ∀ {xs : List V} {ds : List PyData}, DqAll K H xs ds → xs.length = ds.length
  | _, _, .nil => rfl
  | _, _, .cons _ a => by rw [List.length_cons, List.length_cons, dpAll_len a]
theorem dpAll_app {K : PySem.W.Frag} {H : Hp} : ∀ {xs ys : List V} {ds es : List PyData}, DqAll K H xs ds → DqAll K H ys es → DqAll K H (xs ++ ys) (ds ++ es)
  | _, _, _, _, .nil, b => b
  | _, _, _, _, .cons h a, b => .cons h (dpAll_app a b)
theorem dpAll_set {K : PySem.W.Frag} {H : Hp} {v : V} {d : PyData} (h : Dq K H v d) : ∀ {xs : List V} {ds : List PyData} (i : Nat), DqAll K H xs ds → DqAll K H (xs.set i v) (ds.set i d)
  | _, _, _, .nil => .nil
  | _, _, 0, .cons _ a => .cons h a
  | _, _, i + 1, .cons q a => .cons q (dpAll_set h i a)
theorem dpAll_take {K : PySem.W.Frag} {H : Hp} : ∀ {xs : List V} {ds : List PyData} (n : Nat), DqAll K H xs ds → DqAll K H (xs.take n) (ds.take n)
  | _, _, 0, _ => .nil
  | _, _, _ + 1, .nil => .nil
  | _, _, n + 1, .cons q a => .cons q (dpAll_take n a)
theorem dpAll_drop {K : PySem.W.Frag} {H : Hp} : ∀ {xs : List V} {ds : List PyData} (n : Nat), DqAll K H xs ds → DqAll K H (xs.drop n) (ds.drop n)
  | _, _, 0, h => h
  | _, _, _ + 1, .nil => .nil
  | _, _, n + 1, .cons q a => dpAll_drop n a
theorem dpAll_rev {K : PySem.W.Frag} {H : Hp} : ∀ {xs : List V} {ds : List PyData}, DqAll K H xs ds → DqAll K H xs.reverse ds.reverse
  | _, _, .nil => .nil
  | _, _, .cons q a => by
    rw [List.reverse_cons, List.reverse_cons]
    exact dpAll_app (dpAll_rev a) (.cons q .nil)

/-! ### tables of code objects: hidden from all readings, kept as such -/
/-- the tables and the names of the code objects that they hold -/
class Tb where
  C : List (Addr × Str)
abbrev CA [Tb] : List Addr := Tb.C.map (·.1)
abbrev TbOk [Tb] (H : Hp) : Prop := LamX.Tabs Tb.C H
theorem TbOk.at [Tb] {H : Hp} (t : TbOk H) {p : Addr} (h : p ∈ CA) : ∃ ps, H p = some (.tbl ps) := by
  obtain ⟨c, hc, rfl⟩ := List.mem_map.mp h
  obtain ⟨ps, e, _⟩ := t c hc
  exact ⟨ps, e⟩
/-- a list is changed: the tables stay -/
theorem TbOk.put [Tb] {H H' : Hp} (t : TbOk H) {p : Addr} {xs : List V} (e : H p = some (.lst xs)) (k : ∀ b o, b ≠ p → H b = some o → H' b = some o) : TbOk H' := fun c hc => by
  obtain ⟨ps, h1, h2, h3⟩ := t c hc
  refine ⟨ps, k _ _ (fun z => ?_) h1, h2, fun pos cv hcv => ?_⟩
  · rw [z, e] at h1
    cases h1
  · obtain ⟨a, e1, e2⟩ := h3 pos cv hcv
    refine ⟨a, e1, k _ _ (fun z => ?_) e2⟩
    rw [z, e] at e2
    unfold LamX.CodeO at e2
    cases e2
theorem TbOk.noL [Tb] {H : Hp} (t : TbOk H) {p : Addr} {xs : List V} (e : H p = some (.lst xs)) : p ∉ CA := fun z => by
  obtain ⟨ps, e'⟩ := t.at z
  rw [e] at e'
  cases e'
theorem TbOk.noN [Tb] {H : Hp} (t : TbOk H) {p : Addr} (e : H p = none) : p ∉ CA := fun z => by
  obtain ⟨ps, e'⟩ := t.at z
  rw [e] at e'
  cases e'
/-- all but the tables stays -/
structure SameC [Tb] (H H' : Hp) : Prop where
  same : ∀ b o, H b = some o → b ∉ CA → H' b = some o
  tab : TbOk H'
theorem SameC.of [Tb] {H H' : Hp} (t : TbOk H) (e : Same H H') : SameC H H' := ⟨fun b o q _ => e b o q, t.ext e⟩
theorem SameC.there [Tb] {H H' : Hp} (e : SameC H H') {b : Addr} (h : H b ≠ none) : H' b ≠ none := by
  by_cases z : b ∈ CA
  · obtain ⟨ps, q⟩ := e.tab.at z
    rw [q]
    exact fun z => nomatch z
  · cases q : H b with
    | none => exact absurd q h
    | some o =>
      rw [e.same b o q z]
      exact fun z => nomatch z
theorem SameC.refl [Tb] {H : Hp} (t : TbOk H) : SameC H H := ⟨fun _ _ q _ => q, t⟩
theorem SameC.trans [Tb] {H H1 H2 : Hp} (a : SameC H H1) (b : SameC H1 H2) : SameC H H2 := ⟨fun c o q n => b.same c o (a.same c o q n) n, b.tab⟩

/-- what a frame knows beside its slots: slots that keep a told value, and what is so from now on -/
class Fr where
  sl : List (Nat × V)
  inv : Hp → Prop
  up : ∀ {H H' : Hp}, Same H H' → inv H → inv H'
@[reducible] def fr0 : Fr := ⟨[], fun _ => True, fun _ _ => trivial⟩

/-! ### slots and what they tell -/
variable [Tb] [Fr]
def isOw : Sl → Prop
  | .ow _ => True
  | .bo _ => True
  | _ => False
inductive SlR (K : PySem.W.Frag) (H : Hp) (O : Addr → Prop) : Option (Option V) → Sl → Prop
  | no (o : Option (Option V)) : SlR K H O o .no
  | va {v : V} {d : PyData} : Dq K (hid H O) v d → SlR K H O (some (some v)) (.va d)
  | ow {p : Addr} {xs : List V} {ds : List PyData} : H p = some (.lst xs) → DqAll K (hid H O) xs ds → SlR K H O (some (some (.ref p))) (.ow ds)
  | bo {p : Addr} {xs : List V} {ds : List PyData} : H p = some (.lst xs) → DqAll K (hid H O) xs ds → SlR K H O (some (some (.ref p))) (.bo ds)
  | xc (o : Option (Option V)) : SlR K H O o .xc
def OwnAt (σ : L2.St) (env : Vn) (i : Nat) (p : Addr) : Prop := ∃ s, env[i]? = some s ∧ isOw s ∧ σ[i]? = some (some (.ref p))
abbrev ThA (T : List (Addr × HO)) : List Addr := T.map (·.1) ++ CA
def Hd (T : List (Addr × HO)) (σ : L2.St) (env : Vn) (p : Addr) : Prop := p ∈ ThA T ∨ ∃ i, OwnAt σ env i p
structure Rel (K : PySem.W.Frag) (H0 : Hp) (B : List (Nat × Addr)) (T : List (Addr × HO)) (σ : L2.St) (H : Hp) (env : Vn) : Prop where
  len : σ.length = env.length
  sl : ∀ (i : Nat) (s : Sl), env[i]? = some s → SlR K H (Hd T σ env) (σ[i]?) s
  inj : ∀ (i j : Nat) (p : Addr), OwnAt σ env i p → OwnAt σ env j p → i = j
  dis : ∀ (i : Nat) (p : Addr), OwnAt σ env i p → p ∉ ThA T
  th : ∀ t ∈ T, H t.1 = some t.2
  own : ∀ (i : Nat) (p : Addr), OwnAt σ env i p → p ∈ B.map (·.2) ∨ H0 p = none
  keep : ∀ b o, H0 b = some o → b ∉ B.map (·.2) → b ∉ CA → H b = some o
  bor : ∀ b ∈ B, (∃ ds, env[b.1]? = some (.bo ds)) ∧ σ[b.1]? = some (some (.ref b.2))
  tab : TbOk H
  tnc : ∀ t ∈ T, t.1 ∉ CA
  fsl : ∀ c ∈ Fr.sl, σ[c.1]? = some (some c.2) ∧ env[c.1]? = some .xc
  finv : Fr.inv (hid H (Hd T σ env))
/-- what was to be read stays so -/
structure Lat (O : Addr → Prop) (H : Hp) (O' : Addr → Prop) (H' : Hp) : Prop where
  same : Same (hid H O) (hid H' O')
  there : ∀ b, H b ≠ none → H' b ≠ none
theorem Lat.refl {O : Addr → Prop} {H : Hp} : Lat O H O H := ⟨Same.refl _, fun _ h => h⟩
theorem Lat.trans {O O1 O2 : Addr → Prop} {H H1 H2 : Hp} (a : Lat O H O1 H1) (b : Lat O1 H1 O2 H2) : Lat O H O2 H2 := ⟨a.same.trans b.same, fun x h => b.there x (a.there x h)⟩
theorem Lat.dp {K : PySem.W.Frag} {O O' : Addr → Prop} {H H' : Hp} {v : V} {d : PyData} (l : Lat O H O' H') (h : Dq K (hid H O) v d) : Dq K (hid H' O') v d := dpUp l.same h
theorem Lat.dpA {K : PySem.W.Frag} {O O' : Addr → Prop} {H H' : Hp} {v : List V} {d : List PyData} (l : Lat O H O' H') (h : DqAll K (hid H O) v d) : DqAll K (hid H' O') v d := dpAllUp l.same h
theorem Lat.of {O : Addr → Prop} {H H' : Hp} (e : Same H H') : Lat O H O H' := ⟨hid_up fun a o n q => ⟨n, e a o q⟩, fun b h z => by
  cases q : H b with
  | none => exact h q
  | some o => rw [e b o q] at z; cases z⟩
theorem Lat.less {O O' : Addr → Prop} {H : Hp} (h : ∀ a, O' a → O a) : Lat O H O' H := ⟨hid_less h, fun _ q => q⟩
theorem SlR.up {K : PySem.W.Frag} {H H' : Hp} {O O' : Addr → Prop} {o : Option (Option V)} {s : Sl} (h : SlR K H O o s) (l : Lat O H O' H') (k : ∀ p xs, o = some (some (.ref p)) → isOw s → H p = some (.lst xs) → H' p = some (.lst xs)) : SlR K H' O' o s := by
  cases h with
  | no => exact .no _
  | va h => exact .va (l.dp h)
  | ow e h => exact .ow (k _ _ rfl trivial e) (l.dpA h)
  | bo e h => exact .bo (k _ _ rfl trivial e) (l.dpA h)
  | xc => exact .xc _
section
variable {K : PySem.W.Frag} {H0 H H' : Hp} {B : List (Nat × Addr)} {T : List (Addr × HO)} {σ : L2.St} {env : Vn}
theorem Rel.ownThere (R : Rel K H0 B T σ H env) {i : Nat} {p : Addr} (h : OwnAt σ env i p) : ∃ xs, H p = some (.lst xs) := by
  obtain ⟨s, e, w, q⟩ := h
  have z := R.sl i s e
  rw [q] at z
  cases z with
  | no => exact w.elim
  | va => exact w.elim
  | ow e1 _ => exact ⟨_, e1⟩
  | bo e1 _ => exact ⟨_, e1⟩
  | xc => exact w.elim
theorem Rel.hdThere (R : Rel K H0 B T σ H env) {p : Addr} (h : Hd T σ env p) : H p ≠ none := by
  rcases h with h | ⟨i, h⟩
  · rcases List.mem_append.mp h with h | h
    · obtain ⟨t, ht, rfl⟩ := List.mem_map.mp h
      rw [R.th t ht]
      exact fun z => nomatch z
    · obtain ⟨ps, e⟩ := R.tab.at h
      rw [e]
      exact fun z => nomatch z
  · obtain ⟨xs, e⟩ := R.ownThere h
    rw [e]
    exact fun z => nomatch z
theorem Rel.new0 (R : Rel K H0 B T σ H env) {p : Addr} (h : H p = none) : H0 p = none := by
  cases q : H0 p with
  | none => rfl
  | some o =>
    by_cases hb : p ∈ B.map (·.2)
    · obtain ⟨b, hb, e⟩ := List.mem_map.mp hb
      obtain ⟨⟨ds, q1⟩, q2⟩ := R.bor b hb
      subst e
      obtain ⟨xs, e⟩ := R.ownThere (i := b.1) (p := b.2) ⟨_, q1, trivial, q2⟩
      rw [e] at h
      cases h
    · rw [R.keep p o q hb (R.tab.noN h)] at h
      cases h
/-- the heap has grown -/
theorem Rel.grow (R : Rel K H0 B T σ H env) (e : Same H H') : Rel K H0 B T σ H' env where
  len := R.len
  sl := fun i s q => (R.sl i s q).up (Lat.of e) fun p xs _ _ z => e _ _ z
  inj := R.inj
  dis := R.dis
  th := fun t h => e _ _ (R.th t h)
  own := R.own
  keep := fun b o q h n => e _ _ (R.keep b o q h n)
  bor := R.bor
  tab := R.tab.ext e
  tnc := R.tnc
  fsl := R.fsl
  finv := Fr.up (Lat.of e).same R.finv
/-- .. but for the tables -/
theorem Rel.growC (R : Rel K H0 B T σ H env) (e : SameC H H') : Rel K H0 B T σ H' env ∧ Lat (Hd T σ env) H (Hd T σ env) H' := by
  have l : Lat (Hd T σ env) H (Hd T σ env) H' := ⟨hid_up fun a o n q => ⟨n, e.same a o q fun z => n (.inl (List.mem_append_right _ z))⟩, fun b h => e.there h⟩
  exact ⟨⟨R.len, fun i s q => (R.sl i s q).up l fun p xs _ _ z => e.same _ _ z (R.tab.noL z), R.inj, R.dis, fun t h => e.same _ _ (R.th t h) (R.tnc t h), R.own, fun b o q h n => e.same _ _ (R.keep b o q h n) n, R.bor, e.tab, R.tnc, R.fsl, Fr.up l.same R.finv⟩, l⟩
/-- one more is hidden, that was not there before -/
theorem Rel.hideC (R : Rel K H0 B T σ H env) {p : Addr} {o : HO} (e : SameC H H') (h : H p = none) (h' : H' p = some o) : Rel K H0 B ((p, o) :: T) σ H' env ∧ Lat (Hd T σ env) H (Hd ((p, o) :: T) σ env) H' := by
  have l : Lat (Hd T σ env) H (Hd ((p, o) :: T) σ env) H' := ⟨hid_up fun a o n q => ⟨fun z => by
    rcases z with z | z
    · rcases List.mem_cons.mp z with z | z
      · have z2 : a = p := z
        rw [z2, h] at q
        cases q
      · exact n (.inl z)
    · exact n (.inr z), e.same _ _ q fun z => n (.inl (List.mem_append_right _ z))⟩, fun b hb => e.there hb⟩
  refine ⟨⟨R.len, fun i s q => (R.sl i s q).up l fun p xs _ _ z => e.same _ _ z (R.tab.noL z), R.inj, fun i q w z => ?_, fun t z => ?_, R.own, fun b o q z n => e.same _ _ (R.keep b o q z n) n, R.bor, e.tab, fun t z => ?_, R.fsl, Fr.up l.same R.finv⟩, l⟩
  · rcases List.mem_cons.mp z with z | z
    · have z2 : q = p := z
      obtain ⟨xs, e⟩ := R.ownThere w
      rw [z2, h] at e
      cases e
    · exact R.dis i q w z
  · rcases List.mem_cons.mp z with z | z
    · subst z; exact h'
    · exact e.same _ _ (R.th t z) (R.tnc t z)
  · rcases List.mem_cons.mp z with z | z
    · subst z; exact R.tab.noN h
    · exact R.tnc t z
theorem Rel.hide (R : Rel K H0 B T σ H env) {p : Addr} {o : HO} (e : Same H H') (h : H p = none) (h' : H' p = some o) : Rel K H0 B ((p, o) :: T) σ H' env ∧ Lat (Hd T σ env) H (Hd ((p, o) :: T) σ env) H' := R.hideC (.of R.tab e) h h'
theorem Rel.unhide {p : Addr × HO} (R : Rel K H0 B (p :: T) σ H env) : Rel K H0 B T σ H env ∧ Lat (Hd (p :: T) σ env) H (Hd T σ env) H := by
  have l : Lat (Hd (p :: T) σ env) H (Hd T σ env) H := Lat.less fun a z => z.elim (fun z => .inl (List.mem_cons_of_mem _ z)) .inr
  exact ⟨⟨R.len, fun i s q => (R.sl i s q).up l fun p xs _ _ z => z, R.inj, fun i q w z => R.dis i q w (List.mem_cons_of_mem _ z), fun q z => R.th q (List.mem_cons_of_mem _ z), R.own, R.keep, R.bor, R.tab, fun q z => R.tnc q (List.mem_cons_of_mem _ z), R.fsl, Fr.up l.same R.finv⟩, l⟩
/-- what is hidden is changed -/
theorem Rel.retop {p : Addr} {xs : List V} {o' : HO} (R : Rel K H0 B ((p, .lst xs) :: T) σ H env) (hT : p ∉ ThA T) (h0 : H0 p = none) : Rel K H0 B ((p, o') :: T) σ (upd H p o') env ∧ Lat (Hd ((p, .lst xs) :: T) σ env) H (Hd ((p, o') :: T) σ env) (upd H p o') := by
  have hd : Hd ((p, .lst xs) :: T) σ env = Hd ((p, o') :: T) σ env := rfl
  have l : Lat (Hd ((p, .lst xs) :: T) σ env) H (Hd ((p, o') :: T) σ env) (upd H p o') := ⟨hid_up fun a u n q => ⟨n, by
    rw [upd_ne]
    · exact q
    · rintro rfl
      exact n (.inl List.mem_cons_self)⟩, fun b hb => by
    by_cases e : b = p
    · subst e; rw [upd_same]; exact fun z => nomatch z
    · rw [upd_ne e]; exact hb⟩
  refine ⟨⟨R.len, fun i s q => (R.sl i s q).up l fun c xs e w z => ?_, R.inj, R.dis, fun t z => ?_, R.own, fun b u q z n => ?_, R.bor, R.tab.put (R.th _ List.mem_cons_self) fun b u n q => by rw [upd_ne n]; exact q, fun t z => ?_, R.fsl, Fr.up l.same R.finv⟩, l⟩
  · rw [upd_ne]
    · exact z
    · rintro rfl
      exact R.dis i c ⟨s, q, w, e⟩ List.mem_cons_self
  · rcases List.mem_cons.mp z with z | z
    · subst z; exact upd_same
    · rw [upd_ne]
      · exact R.th t (List.mem_cons_of_mem _ z)
      · intro e
        exact hT (List.mem_append_left _ (e ▸ List.mem_map.mpr ⟨t, z, rfl⟩))
  · rw [upd_ne]
    · exact R.keep b u q z n
    · rintro rfl
      rw [h0] at q
      cases q
  · rcases List.mem_cons.mp z with z | z
    · subst z; exact R.tnc (p, .lst xs) List.mem_cons_self
    · exact R.tnc t (List.mem_cons_of_mem _ z)
theorem Rel.fne (R : Rel K H0 B T σ H env) {i : Nat} {s : Sl} (hi : env[i]? = some s) (hs : s ≠ .xc) : ∀ c ∈ Fr.sl, i ≠ c.1 := fun c hc z => by
  have e := (R.fsl c hc).2
  rw [← z, hi] at e
  exact hs (Option.some.inj e)
theorem Rel.fset1 (R : Rel K H0 B T σ H env) {i : Nat} {s s' : Sl} (hi : env[i]? = some s) (hs : s ≠ .xc) : ∀ c ∈ Fr.sl, σ[c.1]? = some (some c.2) ∧ (env.set i s')[c.1]? = some .xc := fun c hc =>
  ⟨(R.fsl c hc).1, by rw [List.getElem?_set_ne (R.fne hi hs c hc)]; exact (R.fsl c hc).2⟩
theorem Rel.fset2 (R : Rel K H0 B T σ H env) {i : Nat} {s s' : Sl} {o : Option V} (hi : env[i]? = some s) (hs : s ≠ .xc) : ∀ c ∈ Fr.sl, (σ.set i o)[c.1]? = some (some c.2) ∧ (env.set i s')[c.1]? = some .xc := fun c hc =>
  ⟨by rw [List.getElem?_set_ne (R.fne hi hs c hc)]; exact (R.fsl c hc).1, by rw [List.getElem?_set_ne (R.fne hi hs c hc)]; exact (R.fsl c hc).2⟩
/-- the own list at a slot has other items -/
theorem Rel.put {i : Nat} {p : Addr} {s s' : Sl} {ys : List V} {ds : List PyData} (R : Rel K H0 B T σ H env) (hi : env[i]? = some s) (hp : σ[i]? = some (some (.ref p)))
    (hs : (∃ es, s = .ow es ∧ s' = .ow ds) ∨ ∃ es, s = .bo es ∧ s' = .bo ds) (k : ∀ b o, b ≠ p → b ∉ CA → H b = some o → H' b = some o) (tb : TbOk H') (hy : H' p = some (.lst ys)) (h : DqAll K (hid H' (Hd T σ env)) ys ds) :
    Rel K H0 B T σ H' (env.set i s') ∧ Lat (Hd T σ env) H (Hd T σ (env.set i s')) H' ∧ ∀ q, Hd T σ (env.set i s') q ↔ Hd T σ env q := by
  have il : i < env.length := (List.getElem?_eq_some_iff.mp hi).1
  have w : isOw s ∧ isOw s' := by
    rcases hs with ⟨es, rfl, rfl⟩ | ⟨es, rfl, rfl⟩ <;> exact ⟨trivial, trivial⟩
  have ow : OwnAt σ env i p := ⟨s, hi, w.1, hp⟩
  have at' : ∀ j q, OwnAt σ (env.set i s') j q ↔ OwnAt σ env j q := fun j q => by
    constructor
    · rintro ⟨t, e, wt, hq⟩
      by_cases hj : j = i
      · subst hj; exact ⟨s, hi, w.1, hq⟩
      · rw [List.getElem?_set_ne (Ne.symm hj)] at e
        exact ⟨t, e, wt, hq⟩
    · rintro ⟨t, e, wt, hq⟩
      by_cases hj : j = i
      · subst hj; exact ⟨s', by rw [List.getElem?_set_self il], w.2, hq⟩
      · exact ⟨t, by rw [List.getElem?_set_ne (Ne.symm hj)]; exact e, wt, hq⟩
  have hd : ∀ q, Hd T σ (env.set i s') q ↔ Hd T σ env q := fun q => by
    unfold Hd
    constructor
    · rintro (z | ⟨j, z⟩)
      · exact .inl z
      · exact .inr ⟨j, (at' j q).mp z⟩
    · rintro (z | ⟨j, z⟩)
      · exact .inl z
      · exact .inr ⟨j, (at' j q).mpr z⟩
  have l : Lat (Hd T σ env) H (Hd T σ (env.set i s')) H' := ⟨hid_up fun a o n q => ⟨fun z => n ((hd a).mp z), k a o (by
      rintro rfl
      exact n (.inr ⟨i, ow⟩)) (fun z => n (.inl (List.mem_append_right _ z))) q⟩, fun b hb => by
    by_cases e : b = p
    · subst e; rw [hy]; exact fun z => nomatch z
    · by_cases zc : b ∈ CA
      · obtain ⟨ps, q⟩ := tb.at zc
        rw [q]
        exact fun z => nomatch z
      · cases q : H b with
        | none => exact absurd q hb
        | some o => rw [k b o e zc q]; exact fun z => nomatch z⟩
  refine ⟨⟨by rw [List.length_set]; exact R.len, fun j t e => ?_, fun j m q a b => R.inj j m q ((at' j q).mp a) ((at' m q).mp b), fun j q a => R.dis j q ((at' j q).mp a), fun t z => k _ _ (by
      rintro e
      exact R.dis i p ow (List.mem_append_left _ (e ▸ List.mem_map.mpr ⟨t, z, rfl⟩))) (R.tnc t z) (R.th t z),
    fun j q a => R.own j q ((at' j q).mp a), fun b o e n nc => ?_, fun b hb => ?_, tb, R.tnc, R.fset1 hi (fun z => by rw [z] at w; exact w.1), Fr.up l.same R.finv⟩, l, hd⟩
  · by_cases hj : j = i
    · subst hj
      rw [List.getElem?_set_self il] at e
      cases e
      rw [hp]
      have h2 : DqAll K (hid H' (Hd T σ (env.set j s'))) ys ds := dpAllUp (hid_less fun q z => (hd q).mp z) h
      rcases hs with ⟨es, rfl, rfl⟩ | ⟨es, rfl, rfl⟩
      · exact .ow hy h2
      · exact .bo hy h2
    · rw [List.getElem?_set_ne (Ne.symm hj)] at e
      refine (R.sl j t e).up l fun q us e2 wt z => k q _ ?_ (R.tab.noL z) z
      rintro rfl
      exact hj (R.inj j i _ ⟨t, e, wt, e2⟩ ow)
  · refine k b o ?_ nc (R.keep b o e n nc)
    rintro rfl
    rcases R.own i _ ow with z | z
    · exact n z
    · rw [z] at e; cases e
  · obtain ⟨⟨es, e1⟩, e2⟩ := R.bor b hb
    refine ⟨?_, e2⟩
    by_cases hj : b.1 = i
    · rw [hj, List.getElem?_set_self il]
      rw [hj, hi] at e1
      rcases hs with ⟨fs, rfl, rfl⟩ | ⟨fs, rfl, rfl⟩
      · cases e1
      · exact ⟨_, rfl⟩
    · exact ⟨es, by rw [List.getElem?_set_ne (Ne.symm hj)]; exact e1⟩
/-- an own list is given away: from now on it is a value -/
theorem Rel.frost {i : Nat} {ds : List PyData} (R : Rel K H0 B T σ H env) (hi : env[i]? = some (.ow ds)) :
    Rel K H0 B T σ H (env.set i (.va (.list ds))) ∧ Lat (Hd T σ env) H (Hd T σ (env.set i (.va (.list ds)))) H ∧ ∃ v, σ[i]? = some (some v) ∧ Dq K (hid H (Hd T σ (env.set i (.va (.list ds))))) v (.list ds) := by
  have il : i < env.length := (List.getElem?_eq_some_iff.mp hi).1
  have at' : ∀ j q, OwnAt σ (env.set i (.va (.list ds))) j q → OwnAt σ env j q ∧ j ≠ i := fun j q => by
    rintro ⟨t, e, wt, hq⟩
    by_cases hj : j = i
    · subst hj
      rw [List.getElem?_set_self il] at e
      cases e
      exact wt.elim
    · rw [List.getElem?_set_ne (Ne.symm hj)] at e
      exact ⟨⟨t, e, wt, hq⟩, hj⟩
  have hd : ∀ q, Hd T σ (env.set i (.va (.list ds))) q → Hd T σ env q := fun q => by
    rintro (z | ⟨j, z⟩)
    · exact .inl z
    · exact .inr ⟨j, (at' j q z).1⟩
  have l : Lat (Hd T σ env) H (Hd T σ (env.set i (.va (.list ds)))) H := Lat.less hd
  have key : ∃ v, σ[i]? = some (some v) ∧ Dq K (hid H (Hd T σ (env.set i (.va (.list ds))))) v (.list ds) := by
    have z := R.sl i _ hi
    cases e0 : σ[i]? with
    | none => rw [e0] at z; cases z
    | some o =>
      rw [e0] at z
      cases z with
      | @ow p xs _ e h =>
        have ow : OwnAt σ env i p := ⟨_, hi, trivial, e0⟩
        refine ⟨_, rfl, .lst (hid_some.mpr ⟨?_, e⟩) (l.dpA h)⟩
        rintro (z | ⟨j, z⟩)
        · exact R.dis i p ow z
        · exact (at' j p z).2 (R.inj j i p (at' j p z).1 ow)
  refine ⟨⟨by rw [List.length_set]; exact R.len, fun j t e => ?_, fun j k q a b => R.inj j k q (at' j q a).1 (at' k q b).1, fun j q a => R.dis j q (at' j q a).1, R.th, fun j q a => R.own j q (at' j q a).1, R.keep, fun b hb => ?_, R.tab, R.tnc, R.fset1 hi (fun z => nomatch z), Fr.up l.same R.finv⟩, l, key⟩
  · by_cases hj : j = i
    · subst hj
      rw [List.getElem?_set_self il] at e
      cases e
      obtain ⟨v, e, h⟩ := key
      rw [e]
      exact .va h
    · rw [List.getElem?_set_ne (Ne.symm hj)] at e
      exact (R.sl j t e).up l fun q ys _ _ z => z
  · obtain ⟨⟨es, e1⟩, e2⟩ := R.bor b hb
    refine ⟨⟨es, ?_⟩, e2⟩
    have hj : b.1 ≠ i := by
      rintro z
      rw [z, hi] at e1
      cases e1
    rw [List.getElem?_set_ne (Ne.symm hj)]
    exact e1
/-- a slot that no one has lent is stored anew: a value -/
theorem Rel.store {i : Nat} {s : Sl} {v : V} {d : PyData} (R : Rel K H0 B T σ H env) (hi : env[i]? = some s) (hs : ∀ ds, s ≠ .bo ds) (hx : s ≠ .xc) (h : Dq K (hid H (Hd T σ env)) v d) :
    Rel K H0 B T (σ.set i (some v)) H (env.set i (.va d)) ∧ Lat (Hd T σ env) H (Hd T (σ.set i (some v)) (env.set i (.va d))) H := by
  have il : i < env.length := (List.getElem?_eq_some_iff.mp hi).1
  have is : i < σ.length := by rw [R.len]; exact il
  have at' : ∀ j q, OwnAt (σ.set i (some v)) (env.set i (.va d)) j q → OwnAt σ env j q ∧ j ≠ i := fun j q => by
    rintro ⟨t, e, wt, hq⟩
    by_cases hj : j = i
    · subst hj
      rw [List.getElem?_set_self il] at e
      cases e
      exact wt.elim
    · rw [List.getElem?_set_ne (Ne.symm hj)] at e hq
      exact ⟨⟨t, e, wt, hq⟩, hj⟩
  have hd : ∀ q, Hd T (σ.set i (some v)) (env.set i (.va d)) q → Hd T σ env q := fun q => by
    rintro (z | ⟨j, z⟩)
    · exact .inl z
    · exact .inr ⟨j, (at' j q z).1⟩
  have l : Lat (Hd T σ env) H (Hd T (σ.set i (some v)) (env.set i (.va d))) H := Lat.less hd
  refine ⟨⟨by rw [List.length_set, List.length_set]; exact R.len, fun j t e => ?_, fun j k q a b => R.inj j k q (at' j q a).1 (at' k q b).1, fun j q a => R.dis j q (at' j q a).1, R.th, fun j q a => R.own j q (at' j q a).1, R.keep, fun b hb => ?_, R.tab, R.tnc, R.fset2 hi hx, Fr.up l.same R.finv⟩, l⟩
  · by_cases hj : j = i
    · subst hj
      rw [List.getElem?_set_self il] at e
      cases e
      rw [List.getElem?_set_self is]
      exact .va (l.dp h)
    · rw [List.getElem?_set_ne (Ne.symm hj)] at e ⊢
      exact (R.sl j t e).up l fun q ys _ _ z => z
  · obtain ⟨⟨es, e1⟩, e2⟩ := R.bor b hb
    have hj : b.1 ≠ i := by
      rintro z
      rw [z, hi] at e1
      exact hs es (Option.some.inj e1)
    rw [List.getElem?_set_ne (Ne.symm hj), List.getElem?_set_ne (Ne.symm hj)]
    exact ⟨⟨es, e1⟩, e2⟩
/-- .. an own list, that was hidden so far -/
theorem Rel.storeF {i : Nat} {s : Sl} {p : Addr} {xs : List V} {ds : List PyData} {o : HO} (R : Rel K H0 B ((p, o) :: T) σ H env) (hi : env[i]? = some s) (hs : ∀ ds, s ≠ .bo ds) (hx : s ≠ .xc) (hp : H p = some (.lst xs)) (h0 : H0 p = none) (hT : p ∉ ThA T) (h : DqAll K (hid H (Hd ((p, o) :: T) σ env)) xs ds) :
    Rel K H0 B T (σ.set i (some (.ref p))) H (env.set i (.ow ds)) ∧ Lat (Hd ((p, o) :: T) σ env) H (Hd T (σ.set i (some (.ref p))) (env.set i (.ow ds))) H := by
  have il : i < env.length := (List.getElem?_eq_some_iff.mp hi).1
  have is : i < σ.length := by rw [R.len]; exact il
  have at' : ∀ j q, OwnAt (σ.set i (some (.ref p))) (env.set i (.ow ds)) j q → (OwnAt σ env j q ∧ j ≠ i ∧ q ≠ p) ∨ (j = i ∧ q = p) := fun j q => by
    rintro ⟨t, e, wt, hq⟩
    by_cases hj : j = i
    · subst hj
      rw [List.getElem?_set_self is] at hq
      cases hq
      exact .inr ⟨rfl, rfl⟩
    · rw [List.getElem?_set_ne (Ne.symm hj)] at e hq
      have w : OwnAt σ env j q := ⟨t, e, wt, hq⟩
      exact .inl ⟨w, hj, fun z => R.dis j q w (by rw [z]; exact List.mem_cons_self)⟩
  have hd : ∀ q, Hd T (σ.set i (some (.ref p))) (env.set i (.ow ds)) q → Hd ((p, o) :: T) σ env q := fun q => by
    rintro (z | ⟨j, z⟩)
    · exact .inl (List.mem_cons_of_mem _ z)
    · rcases at' j q z with ⟨z, _⟩ | ⟨_, z⟩
      · exact .inr ⟨j, z⟩
      · exact .inl (by rw [z]; exact List.mem_cons_self)
  have l : Lat (Hd ((p, o) :: T) σ env) H (Hd T (σ.set i (some (.ref p))) (env.set i (.ow ds))) H := Lat.less hd
  refine ⟨⟨by rw [List.length_set, List.length_set]; exact R.len, fun j t e => ?_, fun j k q a b => ?_, fun j q a => ?_, fun q z => R.th q (List.mem_cons_of_mem _ z), fun j q a => ?_, R.keep, fun b hb => ?_, R.tab, fun q z => R.tnc q (List.mem_cons_of_mem _ z), R.fset2 hi hx, Fr.up l.same R.finv⟩, l⟩
  · by_cases hj : j = i
    · subst hj
      rw [List.getElem?_set_self il] at e
      cases e
      rw [List.getElem?_set_self is]
      exact .ow hp (l.dpA h)
    · rw [List.getElem?_set_ne (Ne.symm hj)] at e ⊢
      exact (R.sl j t e).up l fun q ys _ _ z => z
  · rcases at' j q a with ⟨a1, a2, a3⟩ | ⟨a1, a2⟩
    · rcases at' k q b with ⟨b1, b2, b3⟩ | ⟨b1, b2⟩
      · exact R.inj j k q a1 b1
      · exact absurd b2 a3
    · rcases at' k q b with ⟨b1, b2, b3⟩ | ⟨b1, b2⟩
      · exact absurd a2 b3
      · rw [a1, b1]
  · rcases at' j q a with ⟨a1, a2, a3⟩ | ⟨a1, a2⟩
    · exact fun z => R.dis j q a1 (List.mem_cons_of_mem _ z)
    · rw [a2]; exact hT
  · rcases at' j q a with ⟨a1, a2, a3⟩ | ⟨a1, a2⟩
    · exact R.own j q a1
    · rw [a2]; exact .inr h0
  · obtain ⟨⟨es, e1⟩, e2⟩ := R.bor b hb
    have hj : b.1 ≠ i := by
      rintro z
      rw [z, hi] at e1
      exact hs es (Option.some.inj e1)
    rw [List.getElem?_set_ne (Ne.symm hj), List.getElem?_set_ne (Ne.symm hj)]
    exact ⟨⟨es, e1⟩, e2⟩
/-- a slot that is no own list: forgotten -/
theorem Rel.forget {i : Nat} {s : Sl} (R : Rel K H0 B T σ H env) (hi : env[i]? = some s) (hs : ¬ isOw s) (hx : s ≠ .xc) (o : Option V) :
    Rel K H0 B T (σ.set i o) H (env.set i .no) ∧ ∀ q, Hd T (σ.set i o) (env.set i .no) q ↔ Hd T σ env q := by
  have il : i < env.length := (List.getElem?_eq_some_iff.mp hi).1
  have is : i < σ.length := by rw [R.len]; exact il
  have at' : ∀ j q, OwnAt (σ.set i o) (env.set i .no) j q ↔ OwnAt σ env j q := fun j q => by
    constructor
    · rintro ⟨t, e, wt, hq⟩
      by_cases hj : j = i
      · subst hj
        rw [List.getElem?_set_self il] at e
        cases e
        exact wt.elim
      · rw [List.getElem?_set_ne (Ne.symm hj)] at e hq
        exact ⟨t, e, wt, hq⟩
    · rintro ⟨t, e, wt, hq⟩
      by_cases hj : j = i
      · subst hj
        rw [hi] at e
        cases e
        exact (hs wt).elim
      · exact ⟨t, by rw [List.getElem?_set_ne (Ne.symm hj)]; exact e, wt, by rw [List.getElem?_set_ne (Ne.symm hj)]; exact hq⟩
  have hd : ∀ q, Hd T (σ.set i o) (env.set i .no) q ↔ Hd T σ env q := fun q => by
    unfold Hd
    constructor
    · rintro (z | ⟨j, z⟩)
      · exact .inl z
      · exact .inr ⟨j, (at' j q).mp z⟩
    · rintro (z | ⟨j, z⟩)
      · exact .inl z
      · exact .inr ⟨j, (at' j q).mpr z⟩
  have l : Lat (Hd T σ env) H (Hd T (σ.set i o) (env.set i .no)) H := Lat.less fun q z => (hd q).mp z
  refine ⟨⟨by rw [List.length_set, List.length_set]; exact R.len, fun j t e => ?_, fun j k q a b => R.inj j k q ((at' j q).mp a) ((at' k q).mp b), fun j q a => R.dis j q ((at' j q).mp a), R.th, fun j q a => R.own j q ((at' j q).mp a), R.keep, fun b hb => ?_, R.tab, R.tnc, R.fset2 hi hx, Fr.up l.same R.finv⟩, hd⟩
  · by_cases hj : j = i
    · subst hj
      rw [List.getElem?_set_self il] at e
      cases e
      exact .no _
    · rw [List.getElem?_set_ne (Ne.symm hj)] at e ⊢
      exact (R.sl j t e).up l fun q ys _ _ z => z
  · obtain ⟨⟨es, e1⟩, e2⟩ := R.bor b hb
    have hj : b.1 ≠ i := by
      rintro z
      rw [z, hi] at e1
      cases e1
      exact hs trivial
    rw [List.getElem?_set_ne (Ne.symm hj), List.getElem?_set_ne (Ne.symm hj)]
    exact ⟨⟨es, e1⟩, e2⟩
theorem Rel.hidden (R : Rel K H0 B T σ H env) : ∃ O : List Addr, ∀ a, a ∈ O ↔ Hd T σ env a := by
  refine ⟨ThA T ++ (List.range env.length).filterMap (fun (i : Nat) => match (env[i]? : Option Sl), (σ[i]? : Option (Option V)) with
    | some (Sl.ow _), some (some (V.ref p)) => some p
    | some (Sl.bo _), some (some (V.ref p)) => some p
    | _, _ => none), fun a => ?_⟩
  rw [List.mem_append, List.mem_filterMap]
  constructor
  · rintro (z | ⟨i, hi, e⟩)
    · exact .inl z
    · refine .inr ⟨i, ?_⟩
      split at e
      · rename_i e1 e2
        cases e
        exact ⟨_, e1, trivial, e2⟩
      · rename_i e1 e2
        cases e
        exact ⟨_, e1, trivial, e2⟩
      · cases e
  · rintro (z | ⟨i, s, e, w, q⟩)
    · exact .inl z
    · refine .inr ⟨i, List.mem_range.mpr (List.getElem?_eq_some_iff.mp e).1, ?_⟩
      rw [e, q]
      cases s with
      | no => exact w.elim
      | va d => exact w.elim
      | ow ds => rfl
      | bo ds => rfl
      | xc => exact w.elim
theorem hid_list {H : Hp} {O : List Addr} {P : Addr → Prop} (h : ∀ a, a ∈ O ↔ P a) : hid H (fun a => a ∈ O) = hid H P := by
  have e : (fun a => a ∈ O) = P := funext fun a => propext (h a)
  rw [e]
end
end Fx
namespace Fx
open PySem PySem.Spec PyProof.Rows L2

/-! ### defs whose callers run under no guard: their promise, their call, the law's own call -/
structure FnG (P : Program) (w : World) (K : PySem.W.Frag) (mg : Str → Option Value) (base : Heap) (k : Nat) (f : Addr) (fd : FuncData) (ps : List Str) (sp : Sp) : Prop where
  ln : ∀ vs H Q E, sp vs H Q E → vs.length = ps.length
  go : ∀ (A : Around) (outer : List Env) (s : Shared) (H : Hp) (args : Args) (us : List Value) (vs : List V) (Q : VK) (E : XK), Room k A → A.guards = some [] → Env0 P w K mg base A outer s H →
    BindsTo s fd args (ps.zip us) → Vals vs us → sp vs H Q E → codeAny (model P w) A (.call (.ref f) args) (CR (L2.CX P w) outer P w H s Q E) s
theorem FnG.mono {P : Program} {w : World} {K : PySem.W.Frag} {mg : Str → Option Value} {base : Heap} {j k : Nat} {f : Addr} {fd : FuncData} {ps : List Str} {sp : Sp} (F : FnG P w K mg base j f fd ps sp) (h : j ≤ k) : FnG P w K mg base k f fd ps sp :=
  ⟨F.ln, fun A o s H args us vs Q E hr hg => F.go A o s H args us vs Q E (hr.mono h) hg⟩
theorem FnG.imp {P : Program} {w : World} {K : PySem.W.Frag} {mg : Str → Option Value} {base : Heap} {k : Nat} {f : Addr} {fd : FuncData} {ps : List Str} {sp sp' : Sp} (F : FnG P w K mg base k f fd ps sp)
    (h : ∀ vs H Q E, sp' vs H Q E → sp vs H Q E) : FnG P w K mg base k f fd ps sp' :=
  ⟨fun vs H Q E q => F.ln vs H Q E (h _ _ _ _ q), fun A o s H args us vs Q E hr hg e hb hv q => F.go A o s H args us vs Q E hr hg e hb hv (h _ _ _ _ q)⟩

/-- a def of the text as it stands behind the top, with or without defaults -/
structure FunX (K : PySem.W.Frag) (x qual : Str) (st : Stmt) (f : Addr) (fd : FuncData) : Prop where
  ex : ∃ (oc : Value) (od : Option Addr) (dV kV doc pm : Value) (an : Option Addr) (cdv ct : Value) (osl : Array (Option Value)),
    fd = PySem.W.fnOf x qual (defArgs st) (defBody st) (defScope st) dV kV doc pm an cdv ct ∧ K.lookup f = some ⟨oc, od, .func fd, osl⟩ ∧ PySem.W.codeIn K cdv qual = true
  kp : PySem.W.keepIn K (.ref f) = true
theorem FunX.of {K : PySem.W.Frag} {x qual : Str} {st : Stmt} {f : Addr} {fd : FuncData} (F : Fun K x qual st f fd) : FunX K x qual st f fd :=
  let ⟨oc, od, kV, doc, pm, an, cdv, ct, osl, h⟩ := F.ex
  ⟨⟨oc, od, .none, kV, doc, pm, an, cdv, ct, osl, h⟩, F.kp⟩
theorem FunX.ofD {K : PySem.W.Frag} {x qual : Str} {st : Stmt} {f : Addr} {fd : FuncData} {dvs : List V} {kws : List (Str × V)} (F : FunD K x qual (defArgs st) (defBody st) (defScope st) dvs kws f fd) : FunX K x qual st f fd :=
  let ⟨oc, od, dV, kV, doc, pm, an, cdv, ct, osl, h1, h2, h3, _⟩ := F.ex
  ⟨⟨oc, od, dV, kV, doc, pm, an, cdv, ct, osl, h1, h2, h3⟩, F.kp⟩
section
variable {P : Program} {w : World} {K : PySem.W.Frag} {mg : Str → Option Value} {base : Heap}
/-- a def of the text, by its body -/
theorem fnG_of {x qual : Str} {st : Stmt} {f : Addr} {fd : FuncData} {N ps : List Str} {k : Nat} {sp : Sp} (F : FunX K x qual st f fd) (S : FnScope N ps (defScope st)) (ln : ∀ vs H Q E, sp vs H Q E → vs.length = ps.length)
    (hbody : ∀ (A : Around) (outer : List Env) (s : Shared) (H : Hp) (vs : List V) (Q : VK) (E : XK), Room k (A.deeper (envOfC qual (defScope st) s.heap.objs.size f fd.code)) → A.guards = some [] → sp vs H Q E →
      ∃ t, PSs (cxOf (L2.CX P w) P w K mg base N qual (defScope st) f fd.code A outer s H E) (defBody st) t ∧ t { nx := fun _ H' => Q .non H', rt := Q } (start N vs) H) :
    FnG P w K mg base (k + 1) f fd ps sp := by
  obtain ⟨oc, od, dV, kV, doc, pm, an, cdv, ct, osl, rfl, lk, hcd⟩ := F.ex
  refine ⟨ln, ?_⟩
  intro A outer s H args us vs Q E hr hg e0 hb r hsp
  have hl := ln _ _ _ _ hsp
  have stays := fun b o e => (e0.bs b o e).1
  have inK : K.In s.heap := e0.mod.kin.keeps stays
  have limit := e0.mod.nolimit.keeps stays
  refine codeAny_call_function hr.depth (inK _ _ lk) rfl S.co S.gen rfl (PySem.W.codeRec_of inK hcd) (hb _ _ _ _ ?_)
  refine wpAny_newFunctionEnv_cells S.kind (fun y hy => ?_) fun env he s1 ic => ?_
  · obtain ⟨n, v⟩ := y
    have hn := (List.of_mem_zip hy).1
    exact (S.par n hn).elim .inl fun q => .inr ⟨q, PySem.W.cellsFrom_some _ _ _ (.inl q)⟩
  · subst he
    refine ⟨limit.keeps ic.toInCall.keep, codeAny_func ?_⟩
    obtain ⟨t, ht, hq⟩ := hbody A outer s H vs Q E (hr.deeper _) hg hsp
    have I := inv_start (CX := L2.CX P w) (E := E) S hr.hd e0 hl r ic
    refine wpAny_mono (ht.run [] s1 _ H _ I hq) (fun fl s' hs => ?_) fun _ _ z => z
    cases fl with
    | ret u =>
      obtain ⟨v, σ', H', J, rv, q⟩ := hs
      exact ⟨v, H', J.os, J.bare, J.base, J.hok, rv, q⟩
    | next =>
      obtain ⟨σ', H', J, q⟩ := hs
      exact ⟨V.non, H', J.os, J.bare, J.base, J.hok, rfl, q⟩
    | brk => exact hs.elim fun _ z => z.elim fun _ z => z.2.elim
    | cont => exact hs.elim fun _ z => z.elim fun _ z => z.2.elim
end

section
variable {X : Cx} {k : Nat} {f : Addr} {fd : FuncData} {ps : List Str} {sp : Sp} {dvs : List V} {ds : List Value} {E : L2.St → XK} {x : Str} {p pos : Pos} {e : Expr} {es : List Expr} {t : TA}
theorem runG {pins : List (Addr × Obj)} {σ : L2.St} {H : Hp} {s : Shared} {Q : VK} {us : List Value} {vs : List V} (F : FnG X.prog X.w X.K X.mg X.base k f fd ps sp) (hr : Room k X.A) (hgu : X.A.guards = some []) (hb : Binds X.K fd ps ds) (hd : Vals dvs ds)
    (hx : PassesAt (L2.CX X.prog X.w) X σ (E σ)) (I : Inv X pins σ H s) (r : Vals vs us) (h : sp (vs ++ dvs) H Q (E σ)) : wpAny (model X.prog X.w) X.A (call (.ref f) us) (EP X pins σ Q) X.xe s := by
  have rr := r.append hd
  have len : (us ++ ds).length = ps.length := rr.length.symm.trans (F.ln _ _ _ _ h)
  refine wpAny_call (codeAny_mono (F.go X.A X.stack s H ⟨us, []⟩ _ _ Q (E σ) hr hgu I.env0 (hb s us I.kIn len) rr h) fun res s' hq => ?_)
  cases res with
  | error er => exact hx pins H s er s' I hq
  | ok fl =>
    cases fl with
    | ret u => exact I.after hq
    | next => exact hq.elim
    | brk => exact hq.elim
    | cont => exact hq.elim
theorem pe_callG (F : FnG X.prog X.w X.K X.mg X.base k f fd ps sp) (hr : Room k X.A) (hgu : X.A.guards = some []) (hg : Gl X x) (hm : X.mg x = some (.ref f)) (hk : PySem.W.keepIn X.K (.ref f) = true) (hb : Binds X.K fd ps ds) (hd : Vals dvs ds)
    (hx : ∀ σ, PassesAt (L2.CX X.prog X.w) X σ (E σ)) (ha : PA X (e :: es) t) (hdb : (x == ("__debug__" : Str)) = false := by decide)
    (he : starEach (e :: es) X.env = (false, eval e X.env) :: starEach es X.env := by rfl) (hpl : (backTo pos (starEach es X.env)).any (·.1) = false := by rfl) : PE X (.Call (.Name x p) (e :: es) [] pos) (tCallSD sp dvs E t) := by
  constructor
  intro pins s σ H Q I h
  refine wpAny_Call_Name_kw (ld_glob I hg hm ?_ hdb)
  exact PySem.W.callWith_K (h₀ := X.base) I.ok.mod.kin hk (thn (ha.run pos pins s σ H _ I h) fun us s1 ⟨vs, H1, I1, r, q⟩ => ⟨I1.kIn, runG F hr hgu hb hd (hx σ) I1 r q⟩) he hpl
theorem pe_callG0 (F : FnG X.prog X.w X.K X.mg X.base k f fd ps sp) (hr : Room k X.A) (hgu : X.A.guards = some []) (hg : Gl X x) (hm : X.mg x = some (.ref f)) (hk : PySem.W.keepIn X.K (.ref f) = true) (hb : Binds X.K fd ps ds) (hd : Vals dvs ds)
    (hx : ∀ σ, PassesAt (L2.CX X.prog X.w) X σ (E σ)) (hdb : (x == ("__debug__" : Str)) = false := by decide) : PE X (.Call (.Name x p) [] [] pos) (tCallSD sp dvs E tNil) := by
  constructor
  intro pins s σ H Q I h
  exact wpAny_Call_Name_kw (ld_glob I hg hm (PySem.W.callWith_K0 I.kIn hk (runG (us := []) F hr hgu hb hd (hx σ) I .nil h)) hdb)
end

/-- the law is called, with nothing tracked but the script -/
theorem lawG {P : Program} {w : World} {K : PySem.W.Frag} {mg mb : Str → Option Value} {k : Nat} {fa a : Addr} {fd : FuncData} {x : Str} {sp : Sp} {s1 : Shared} {vs : List Value} {ns : List Int}
    (KX : K.In s1.heap) (hns : s1.heap.Ns mainGlobals mg) (hb : s1.heap.Ns builtinsNs mb) (hbb : ∀ x : Str, x ≠ "__name__" → mb x = bootBuiltins x) (hlim : s1.heap.NoLimit) (hg : s1.gens = #[])
    (ha : s1.heap.get? a = some { cls := .type "list", data := .seq vs.toArray }) (hi : IntsAre vs ns) (hl : ns.length ≤ sizeLine) (hr : Room k callerA)
    (F : ∀ base : Heap, K.In base → base.Ns mainGlobals mg → FnG P w K mg base k fa fd [x] sp) (hbind : ∀ (s : Shared) (u : Value), BindsTo s fd ⟨[u], []⟩ [(x, u)])
    (hsp : ∀ H : Hp, Only H → SqL K H a (ns.map V.int) → sp [.ref a] H (fun v _ => v = .bl true) fun _ _ _ => False) :
    codeAny (model P w) callerA (.call (.ref fa) ⟨[.ref a], []⟩) (fun r s' => r = .ok (.ret (.bool true)) ∧ OldK s1.heap s'.heap ∧ s'.os = s1.os ∧ AllBare s'.gens) s1 := by
  have rv := vals_ints hi
  have lenV := hi.length
  have core : ∀ H : Hp, Only H → SqL K H a (ns.map V.int) → HOk P w H s1.heap → (∀ b, H b ≠ none → b = a) → (H a ≠ none → K.lookup a = none) →
      codeAny (model P w) callerA (.call (.ref fa) ⟨[.ref a], []⟩) (fun r s' => r = .ok (.ret (.bool true)) ∧ OldK s1.heap s'.heap ∧ s'.os = s1.os ∧ AllBare s'.gens) s1 := by
    intro H hO hS hok hA hK
    have only : ∀ b u, H b = some u → b = a := fun b u q => hA b (by rw [q]; exact fun z => nomatch z)
    have untr : ∀ {b : Addr} {o : Obj} {es : Array DictEntry} {ep : Nat}, s1.heap.get? b = some o → o.data = .dict es ep → H b = none := by
      intro b o es ep e d
      cases q : H b with
      | none => rfl
      | some u =>
        have eb := only b u q
        subst eb
        rw [ha] at e
        cases e
        exact nomatch (show Data.seq vs.toArray _ = Data.dict es ep from d)
    have ns' : ∀ {b : Addr} {m : Str → Option Value}, s1.heap.Ns b m → (hidT s1.heap H).Ns b m := by
      rintro b m ⟨o, es, ep, e, d, r⟩
      exact ⟨o, es, ep, hidT_get e (untr e d), d, r⟩
    have hKb : K.In (hidT s1.heap H) := by
      intro b o e
      refine hidT_get (KX b o e) ?_
      cases q : H b with
      | none => rfl
      | some u =>
        have eb := only b u q
        subst eb
        rw [hK (by rw [q]; exact fun z => nomatch z)] at e
        cases e
    obtain ⟨mc, l1, l2⟩ := hlim
    have md : Mod K mg (hidT s1.heap H) := ⟨hKb, ns' hns, ⟨mb, ns' hb, hbb⟩, ⟨mc, ns' l1, l2⟩⟩
    have e0 : Env0 P w K mg (hidT s1.heap H) callerA [] s1 H := ⟨rfl, md, fun b o e => of_hidT e, Nat.le_of_eq (hidT_size _ _), trivial, (fun _ z => nomatch z), hok, .of_eq hg⟩
    refine codeAny_mono ((F _ hKb (ns' hns)).go callerA [] s1 H ⟨[.ref a], []⟩ [.ref a] [.ref a] _ _ hr rfl e0 (hbind s1 (.ref a)) (.cons rfl .nil) (hsp H hO hS)) fun r s' h => ?_
    cases r with
    | error e =>
      obtain ⟨_, _, _, _, _, _, _, _, _, _, _, _, z⟩ := h
      exact z.elim
    | ok fl =>
      cases fl with
      | next => exact h.elim
      | brk => exact h.elim
      | cont => exact h.elim
      | ret u =>
        obtain ⟨v, H', os, bare, un, hok', r', q⟩ := h
        have q1 : v = .bl true := q
        subst q1
        have r1 : u = Value.bool true := r'
        subst r1
        refine ⟨rfl, OldK.of_keep fun b o e => ?_, os, bare⟩
        cases q2 : H b with
        | none => exact un.keep b o e q2 (fun z => (nomatch z)) (fun z => (nomatch z))
        | some u2 =>
          rcases hO b with z | ⟨ob, xs, z⟩
          · rw [q2] at z
            cases z
          · have e1 := (hok b _ z).1
            have e2 := (hok' b _ (un.frzs b ob _ z)).1
            rw [e] at e1
            cases e1
            exact e2
  cases hk : K.lookup a with
  | some o =>
    have e := KX a o hk
    rw [ha] at e
    cases e
    exact core (fun _ => none) (fun _ => .inl rfl) (.inr ⟨_, vs.toArray, _, hk, rfl, rfl, rfl, by rw [List.size_toArray, lenV]; exact hl, by simpa using rv⟩) (fun b u z => nomatch (show (none : Option HO) = some u from z)) (fun b z => absurd rfl z) fun z => absurd rfl z
  | none =>
    let ob : Obj := { cls := .type "list", data := .seq vs.toArray }
    refine core (fun b => if b = a then some (.frz ob (.lst (ns.map V.int))) else none) (fun b => ?_) (.inl (.inr ⟨ob, if_pos rfl⟩)) (fun b u z => ?_) (fun b z => ?_) fun _ => hk
    · by_cases eb : b = a
      · exact .inr ⟨_, _, if_pos eb⟩
      · exact .inl (if_neg eb)
    · by_cases eb : b = a
      · have z1 := (if_pos eb).symm.trans z
        cases z1
        subst eb
        exact ⟨ha, by rw [List.length_map]; exact hl, vs, _, rv, ha⟩
      · have z1 := (if_neg eb).symm.trans z
        cases z1
    · by_cases eb : b = a
      · exact eb
      · exact absurd (if_neg eb) z
/-- what k_head leaves of the law's walk -/
theorem walkG {l : PySem.W.OpenLaw} {n k : Nat} {q : Program} {loose : List Str} {XP : (Str → Option Value) → Heap → Prop} {YP : World → Heap → Prop} {d : DefRec} {K : Params → PySem.W.Frag} {sp : PySem.W.Frag → (Str → Option Value) → Sp} {x : Str}
    (hn : l.most = some n) (hn2 : n ≤ sizeLine) (hdf : d.params.defaults = []) (hr : Room k callerA) (hY : ∀ (w : World) (h : Heap), YP w h → (K w.params).In h)
    (F : ∀ (w : World) (mg : Str → Option Value) (fa : Addr) (h : Heap), (K w.params).In h → h.Ns mainGlobals mg → mg d.name = some (.ref fa) →
      ∃ fd : FuncData, (∀ (s : Shared) (u : Value), BindsTo s fd ⟨[u], []⟩ [(x, u)]) ∧
        ∀ base : Heap, (K w.params).In base → base.Ns mainGlobals mg → FnG l.prog w (K w.params) mg base k fa fd [x] (sp (K w.params) mg))
    (hsp : ∀ (K : PySem.W.Frag) (mg : Str → Option Value) (H : Hp) (a : Addr) (ns : List Int), ns.length ≤ n → Only H → SqL K H a (ns.map V.int) → sp K mg [.ref a] H (fun v _ => v = .bl true) fun _ _ _ => False) :
    PySem.W.WalkO q loose XP YP l.row.toRowW d [] (fun f vs => PySem.call f vs) := by
  refine Att.attach_call hn hdf fun w s₀ s1 mg mb fa o pm cd doc a vs ns G Y ho hd hcd hmg hobj hints hlen hg => ?_
  have KX := hY w _ Y
  obtain ⟨fd, hb, hF⟩ := F w mg fa _ KX G.T.g hmg
  exact lawG KX G.T.g G.T.b G.T.builtins G.T.nolimit hg hobj hints (Nat.le_trans hlen hn2) hr hF hb fun H hO hS => hsp _ mg H a ns hlen hO hS
end Fx
namespace Fx
open PySem PySem.Spec PyProof.Rows L2
variable [Tb] [Fr]

/-- an exception as it lies -/
def ExR (mg : Str → Option Value) (K : PySem.W.Frag) (Hh H : Hp) (x : Ex) (cls : Value) (dd : Option Addr) : Prop :=
  ∃ C, mg x.cls = some (.ref C) ∧ cls = .ref C ∧ (x.kept ≠ [] → ∃ a vs, dd = some a ∧ Hh a = some (.xd ((x.kept.map (·.1)).zip vs)) ∧ DqAll K Hh vs (x.kept.map (·.2)))
abbrev Tr (γ : Type) := L2.St → Hp → (γ → Hp → Prop) → Prop
def PostX (X : Cx) (W : WX) (H0 : Hp) (B : List (Nat × Addr)) (T : List (Addr × HO)) (σ : L2.St) (H : Hp) (env : Vn) (x : Ex) (env' : Vn) : Prop :=
  ∀ cls dd H', Rel X.K H0 B T σ H' env' → Lat (Hd T σ env) H (Hd T σ env') H' → ExR X.mg X.K (hid H' (Hd T σ env')) H' x cls dd → W cls dd σ H'
def Post {γ α : Type} (rep : Hp → γ → α → Prop) (X : Cx) (W : WX) (H0 : Hp) (B : List (Nat × Addr)) (T : List (Addr × HO)) (σ : L2.St) (H : Hp) (env : Vn) (Q : γ → Hp → Prop) : Res (α × Vn) → Prop
  | .bad => False
  | .ok (a, env') => ∀ g H', Rel X.K H0 B T σ H' env' → Lat (Hd T σ env) H (Hd T σ env') H' → rep (hid H' (Hd T σ env')) g a → Q g H'
  | .ex x env' => PostX X W H0 B T σ H env x env'
def Does {γ α : Type} (rep : Hp → γ → α → Prop) (X : Cx) (W : WX) (t : Tr γ) (m : M α) : Prop :=
  ∀ H0 B T σ H env Q, Rel X.K H0 B T σ H env → Post rep X W H0 B T σ H env Q (m env) → t σ H Q
structure Ev (X : Cx) (W : WX) (e : Expr) (m : M PyData) : Prop where
  ex : ∃ t, PE X e t ∧ Does (Dq X.K) X W t m
abbrev eqRep {α : Type} : Hp → α → α → Prop := fun _ a b => a = b
structure EvT (X : Cx) (W : WX) (e : Expr) (m : M Bool) : Prop where
  ex : ∃ t, PT X e t ∧ Does eqRep X W t m
structure EvW (X : Cx) (W : WX) (e : Expr) (m : M Bool) : Prop where
  ex : ∃ t, PW X e t ∧ Does eqRep X W t m
structure EvA (X : Cx) (W : WX) (es : List Expr) (m : M (List PyData)) : Prop where
  ex : ∃ t, PA X es t ∧ Does (DqAll X.K) X W t m

namespace M
@[simp] def ret {α : Type} (a : α) : M α := fun e => .ok (a, e)
def bind {α β : Type} (m : M α) (f : α → M β) : M β := fun e =>
  match m e with
  | .ok (a, e') => f a e'
  | .ex x e' => .ex x e'
  | .bad => .bad
def opt {α : Type} (o : Option α) : M α := fun e =>
  match o with
  | some a => .ok (a, e)
  | none => .bad
end M

section
variable {X : Cx} {W : WX} {H0 H H1 : Hp} {B : List (Nat × Addr)} {T : List (Addr × HO)} {σ : L2.St} {env env1 : Vn} {γ δ α β : Type} {rep : Hp → γ → α → Prop} {rep' : Hp → δ → β → Prop}
theorem Post.later {Q : γ → Hp → Prop} {r : Res (α × Vn)} (l : Lat (Hd T σ env) H (Hd T σ env1) H1) (h : Post rep X W H0 B T σ H env Q r) : Post rep X W H0 B T σ H1 env1 Q r := by
  cases r with
  | bad => exact h
  | ok a => exact fun g H' R' l' r => h g H' R' (l.trans l') r
  | ex x e => exact fun c d H' R' l' r => h c d H' R' (l.trans l') r
theorem Does.bind {t : Tr γ} {m : M α} {f : α → M β} {k : γ → Tr δ} (A : Does rep X W t m)
    (F : ∀ H0 B T σ H env Q g a, Rel X.K H0 B T σ H env → rep (hid H (Hd T σ env)) g a → Post rep' X W H0 B T σ H env Q (f a env) → k g σ H Q) :
    Does rep' X W (fun σ H Q => t σ H fun g H1 => k g σ H1 Q) (m.bind f) := by
  intro H0 B T σ H env Q R P
  refine A H0 B T σ H env _ R ?_
  unfold M.bind at P
  cases e : m env with
  | bad => rw [e] at P; exact P
  | ex x e' => rw [e] at P; exact P
  | ok p =>
    obtain ⟨a, e'⟩ := p
    rw [e] at P
    exact fun g H' R' l r => F H0 B T σ H' e' Q g a R' r (P.later l)
/-- from the left: two parts, then a step -/
theorem Does.bind2 {γ1 γ2 α1 α2 : Type} {rep1 : Hp → γ1 → α1 → Prop} {rep2 : Hp → γ2 → α2 → Prop} {t1 : Tr γ1} {t2 : Tr γ2} {m1 : M α1} {m2 : M α2} {f : α1 → α2 → M β} {k : γ1 → γ2 → Tr δ}
    (up : ∀ (H H' : Hp) (g : γ1) (a : α1), Same H H' → rep1 H g a → rep1 H' g a) (A : Does rep1 X W t1 m1) (C : Does rep2 X W t2 m2)
    (F : ∀ H0 B T σ H env Q g a g2 a2, Rel X.K H0 B T σ H env → rep1 (hid H (Hd T σ env)) g a → rep2 (hid H (Hd T σ env)) g2 a2 → Post rep' X W H0 B T σ H env Q (f a a2 env) → k g g2 σ H Q) :
    Does rep' X W (fun σ H Q => t1 σ H fun g H1 => t2 σ H1 fun g2 H2 => k g g2 σ H2 Q) (m1.bind fun a => m2.bind fun b => f a b) := by
  refine A.bind (k := fun g σ H1 Q => t2 σ H1 fun g2 H2 => k g g2 σ H2 Q) fun H0 B T σ H env Q g a R r P => ?_
  refine C H0 B T σ H env _ R ?_
  unfold M.bind at P
  cases e : m2 env with
  | bad => rw [e] at P; exact P
  | ex x e' => rw [e] at P; exact P
  | ok p =>
    obtain ⟨b, e'⟩ := p
    rw [e] at P
    exact fun g2 H' R' l r2 => F H0 B T σ H' e' Q g a g2 b R' (up _ _ _ _ l.same r) r2 (P.later l)
end

/-! ### new objects -/
theorem same_new {H : Hp} {p : Addr} {o : HO} (h : H p = none) : Same H (upd H p o) := fun b x e => by
  rw [upd_ne (ne_of_none e h)]
  exact e
section
variable {K : PySem.W.Frag} {H : Hp} {O : Addr → Prop} {p : Addr} {xs : List V} {ds : List PyData}
theorem tup_new (hO : ∀ q, O q → H q ≠ none) (h : H p = none) (a : DqAll K (hid H O) xs ds) : Dq K (hid (upd H p (.tup xs)) O) (.ref p) (.tuple ds) :=
  .tup (.inl (.inl (hid_some.mpr ⟨fun z => hO p z h, upd_same⟩))) (dpAllUp (Lat.of (same_new h)).same a)
theorem lst_new (hO : ∀ q, O q → H q ≠ none) (h : H p = none) (a : DqAll K (hid H O) xs ds) : Dq K (hid (upd H p (.lst xs)) O) (.ref p) (.list ds) :=
  .lst (hid_some.mpr ⟨fun z => hO p z h, upd_same⟩) (dpAllUp (Lat.of (same_new h)).same a)
end

/-! ### names, constants -/
def mName (i : Nat) : M PyData := fun env =>
  match env[i]? with
  | some (.va d) => .ok (d, env)
  | some (.ow ds) => .ok (.list ds, env.set i (.va (.list ds)))
  | _ => .bad
section
variable {X : Cx} {W : WX} {pos : Pos} {k : Nat}
theorem ev_name (i : Nat) {x : Str} (hN : X.N[i]? = some x := by rfl) (hv : Vis X.env.scope x := by first | exact Or.inl rfl | exact Or.inr (Or.inl rfl) | exact Or.inr (Or.inr rfl)) (hd : (x == ("__debug__" : Str)) = false := by decide)
    (hcd : (x == ("__classdict__" : Str)) = false := by decide) : Ev X W (.Name x pos) (mName i) := by
  refine ⟨_, pe_var hN hv hd hcd, fun H0 B T σ H env Q R P => ?_⟩
  unfold mName at P
  cases e : env[i]? with
  | none => rw [e] at P; exact P.elim
  | some s =>
    rw [e] at P
    have z := R.sl i s e
    cases s with
    | no => exact P.elim
    | xc => exact P.elim
    | bo ds => exact P.elim
    | va d =>
      cases q : σ[i]? with
      | none => rw [q] at z; cases z
      | some o =>
        rw [q] at z
        cases z with
        | va h => exact ⟨_, q, P _ H R .refl h⟩
    | ow ds =>
      obtain ⟨R2, l, v, q, h⟩ := R.frost e
      exact ⟨v, q, P v H R2 l h⟩
theorem ev_int {i : Int} : Ev X W (.Constant (.int i) k pos) (M.ret (.int i)) := ⟨_, pe_int, fun H0 B T σ H env Q R P => P _ H R .refl (.int i)⟩
theorem ev_bl {b : Bool} : Ev X W (.Constant (.bool b) k pos) (M.ret (.bool b)) := ⟨_, pe_bl, fun H0 B T σ H env Q R P => P _ H R .refl (.bl b)⟩
theorem ev_non : Ev X W (.Constant .none k pos) (M.ret .none) := ⟨_, pe_non, fun H0 B T σ H env Q R P => P _ H R .refl .non⟩
theorem ev_str {x : Str} : Ev X W (.Constant (.str x) k pos) (M.ret (.str x)) := ⟨_, pe_str, fun H0 B T σ H env Q R P => P _ H R .refl (.str x)⟩
/-- a constant of the module -/
def GlD (K : PySem.W.Frag) (mg : Str → Option Value) (x : Str) (d : PyData) : Prop := ∃ v u, mg x = some u ∧ RelV v u ∧ ∀ H, Dq K H v d
theorem ev_glob {x : Str} {d : PyData} (h : GlD X.K X.mg x d) (hg : Gl X x := by rfl) (hd : (x == ("__debug__" : Str)) = false := by decide) : Ev X W (.Name x pos) (M.ret d) := by
  obtain ⟨v, u, hm, r, q⟩ := h
  exact ⟨_, pe_glob hg hm r hd, fun H0 B T σ H env Q R P => P _ H R .refl (q _)⟩
end

/-! ### operators -/
structure OpV (X : Cx) (f : Value → Value → Sem Value) (g : PyData → PyData → Option PyData) : Prop where
  ex : ∃ r, OpR X f r ∧ ∀ (O : Addr → Prop) (H : Hp) (x y : V) (a b d : PyData) (Q : VK), (∀ q, O q → H q ≠ none) → Dq X.K (hid H O) x a → Dq X.K (hid H O) y b → g a b = some d →
    (∀ v H', Same H H' → Dq X.K (hid H' O) v d → Q v H') → r x y H Q
def mOp (g : PyData → PyData → Option PyData) (ma mb : M PyData) : M PyData := ma.bind fun a => mb.bind fun b => M.opt (g a b)
section
variable {X : Cx} {W : WX} {pos : Pos} {a b : Expr} {ma mb : M PyData}
theorem post_opt {γ α : Type} {rep : Hp → γ → α → Prop} {H0 H : Hp} {B : List (Nat × Addr)} {T : List (Addr × HO)} {σ : L2.St} {env env' : Vn} {Q : γ → Hp → Prop} {o : Option α} (P : Post rep X W H0 B T σ H env Q (M.opt o env')) :
    ∃ d, o = some d ∧ ∀ g H', Rel X.K H0 B T σ H' env' → Lat (Hd T σ env) H (Hd T σ env') H' → rep (hid H' (Hd T σ env')) g d → Q g H' := by
  cases o with
  | none => exact P.elim
  | some d => exact ⟨d, rfl, P⟩
theorem does_op {f : Value → Value → Sem Value} {g : PyData → PyData → Option PyData} {ta tb : TE} {r : R2} (A : Does (Dq X.K) X W ta ma) (C : Does (Dq X.K) X W tb mb)
    (hr : ∀ (O : Addr → Prop) (H : Hp) (x y : V) (a b d : PyData) (Q : VK), (∀ q, O q → H q ≠ none) → Dq X.K (hid H O) x a → Dq X.K (hid H O) y b → g a b = some d → (∀ v H', Same H H' → Dq X.K (hid H' O) v d → Q v H') → r x y H Q) :
    Does (Dq X.K) X W (tOp r ta tb) (mOp g ma mb) :=
  Does.bind2 (rep1 := Dq X.K) (rep2 := Dq X.K) (fun _ _ _ _ e h => dpUp e h) A C (k := fun x y σ H Q => r x y H Q) fun H0 B T σ H env Q x da y db R h1 h2 P => by
    obtain ⟨d, e, P⟩ := post_opt P
    exact hr (Hd T σ env) H x y da db d Q (fun q z => R.hdThere z) h1 h2 e fun v H' s q => P v H' (R.grow s) (.of s) q
theorem ev_op {op : Operator} {g : PyData → PyData → Option PyData} (ho : OpV X (binaryOp op) g) (ha : Ev X W a ma) (hb : Ev X W b mb) : Ev X W (.BinOp a op b pos) (mOp g ma mb) := by
  obtain ⟨r, h1, h2⟩ := ho.ex
  obtain ⟨ta, p1, A⟩ := ha.ex
  obtain ⟨tb, p2, C⟩ := hb.ex
  exact ⟨_, pe_op h1 p1 p2, does_op (f := binaryOp op) A C h2⟩
theorem ev_cmp {op : CmpOp} {g : PyData → PyData → Option PyData} (ho : OpV X (compareOp op) g) (ha : Ev X W a ma) (hb : Ev X W b mb) (hm : behindInMarks op b = false := by first | exact nomark _ | rfl) : Ev X W (.Compare a [op] [b] pos) (mOp g ma mb) := by
  obtain ⟨r, h1, h2⟩ := ho.ex
  obtain ⟨ta, p1, A⟩ := ha.ex
  obtain ⟨tb, p2, C⟩ := hb.ex
  exact ⟨_, pe_cmpR h1 p1 p2 hm, does_op (f := compareOp op) A C h2⟩
/-- a comparison's answer, as a test -/
def mBool (m : M PyData) : M Bool := m.bind fun d =>
  match d with
  | .bool b => M.ret b
  | _ => fun _ => .bad
theorem does_bool {t : TE} {m : M PyData} (A : Does (Dq X.K) X W t m) : Does eqRep X W (tTest t) (mBool m) :=
  A.bind (k := fun x σ H Q => ∃ k, x = .bl k ∧ Q k H) fun H0 B T σ H env Q g a R r P => by
    cases a with
    | bool b =>
      cases r
      exact ⟨b, rfl, P b H R .refl rfl⟩
    | _ => exact P.elim
theorem evt_cmp {op : CmpOp} {g : PyData → PyData → Option PyData} (ho : OpV X (compareOp op) g) (ha : Ev X W a ma) (hb : Ev X W b mb) (hm : behindInMarks op b = false := by first | exact nomark _ | rfl) : EvT X W (.Compare a [op] [b] pos) (mBool (mOp g ma mb)) := by
  obtain ⟨r, h1, h2⟩ := ho.ex
  obtain ⟨ta, p1, A⟩ := ha.ex
  obtain ⟨tb, p2, C⟩ := hb.ex
  exact ⟨_, pt_cmpR h1 p1 p2 hm, does_bool (does_op (f := compareOp op) A C h2)⟩
/-- a <= b < c -/
def mChain (g g' : PyData → PyData → Option PyData) (ma mb mc : M PyData) : M PyData := ma.bind fun a => mb.bind fun b => (M.opt (g a b)).bind fun d =>
  match d with
  | .bool true => mc.bind fun c => M.opt (g' b c)
  | .bool false => M.ret (.bool false)
  | _ => fun _ => .bad
theorem does_chain {f f' : Value → Value → Sem Value} {g g' : PyData → PyData → Option PyData} {ta tb tc : TE} {mc : M PyData} {r r' : R2} (A : Does (Dq X.K) X W ta ma) (C : Does (Dq X.K) X W tb mb) (D : Does (Dq X.K) X W tc mc)
    (hr : ∀ (O : Addr → Prop) (H : Hp) (x y : V) (a b d : PyData) (Q : VK), (∀ q, O q → H q ≠ none) → Dq X.K (hid H O) x a → Dq X.K (hid H O) y b → g a b = some d → (∀ v H', Same H H' → Dq X.K (hid H' O) v d → Q v H') → r x y H Q)
    (hr' : ∀ (O : Addr → Prop) (H : Hp) (x y : V) (a b d : PyData) (Q : VK), (∀ q, O q → H q ≠ none) → Dq X.K (hid H O) x a → Dq X.K (hid H O) y b → g' a b = some d → (∀ v H', Same H H' → Dq X.K (hid H' O) v d → Q v H') → r' x y H Q) :
    Does (Dq X.K) X W (tChain r r' ta tb tc) (mChain g g' ma mb mc) :=
  Does.bind2 (rep1 := Dq X.K) (rep2 := Dq X.K) (fun _ _ _ _ e h => dpUp e h) A C (k := fun x y σ H2 Q => r x y H2 fun z H3 => ∃ k, z = .bl k ∧ (if k = true then tc σ H3 fun w' H4 => r' y w' H4 Q else Q (.bl false) H3)) fun H0 B T σ H env Q x da y db R h1 h2 P => by
    unfold M.bind M.opt at P
    cases e : g da db with
    | none => rw [e] at P; exact P.elim
    | some d =>
      rw [e] at P
      refine hr (Hd T σ env) H x y da db d _ (fun q z => R.hdThere z) h1 h2 e fun v H' s q => ?_
      have R' := R.grow s
      have l : Lat (Hd T σ env) H (Hd T σ env) H' := .of s
      cases d with
      | bool k =>
        cases q
        refine ⟨k, rfl, ?_⟩
        cases k with
        | false =>
          rw [if_neg (by decide)]
          exact P _ H' R' l (.bl false)
        | true =>
          rw [if_pos rfl]
          refine D H0 B T σ H' env _ R' ?_
          cases e2 : mc env with
          | bad => simp only [e2] at P; exact P
          | ex x e' => simp only [e2] at P; exact P.later (rep := Dq X.K) l
          | ok pr =>
            obtain ⟨c, e'⟩ := pr
            simp only [e2] at P
            intro z H4 R4 l4 q4
            obtain ⟨d2, e3, P⟩ := post_opt (rep := Dq X.K) P
            exact hr' (Hd T σ e') H4 y z db c d2 Q (fun q z => R4.hdThere z) (l4.dp (l.dp h2)) q4 e3 fun v H5 s5 q5 => P v H5 (R4.grow s5) ((l.trans l4).trans (.of s5)) q5
      | _ => exact P.elim
theorem ev_chain {c : Expr} {mc : M PyData} {op op' : CmpOp} {g g' : PyData → PyData → Option PyData} (ho : OpV X (compareOp op) g) (ho' : OpV X (compareOp op') g') (ha : Ev X W a ma) (hb : Ev X W b mb) (hc : Ev X W c mc)
    (hm : lastMarks [op, op'] [b, c] = false := by with_unfolding_all rfl) : Ev X W (.Compare a [op, op'] [b, c] pos) (mChain g g' ma mb mc) := by
  obtain ⟨r, h1, h2⟩ := ho.ex
  obtain ⟨r', h3, h4⟩ := ho'.ex
  obtain ⟨ta, p1, A⟩ := ha.ex
  obtain ⟨tb, p2, C⟩ := hb.ex
  obtain ⟨tc, p3, D⟩ := hc.ex
  exact ⟨_, pe_chain h1 h3 p1 p2 p3 hm, does_chain (f := compareOp op) (f' := compareOp op') A C D h2 h4⟩
theorem evt_chain {c : Expr} {mc : M PyData} {op op' : CmpOp} {g g' : PyData → PyData → Option PyData} (ho : OpV X (compareOp op) g) (ho' : OpV X (compareOp op') g') (ha : Ev X W a ma) (hb : Ev X W b mb) (hc : Ev X W c mc)
    (hm : lastMarks [op, op'] [b, c] = false := by with_unfolding_all rfl) : EvT X W (.Compare a [op, op'] [b, c] pos) (mBool (mChain g g' ma mb mc)) := by
  obtain ⟨r, h1, h2⟩ := ho.ex
  obtain ⟨r', h3, h4⟩ := ho'.ex
  obtain ⟨ta, p1, A⟩ := ha.ex
  obtain ⟨tb, p2, C⟩ := hb.ex
  obtain ⟨tc, p3, D⟩ := hc.ex
  exact ⟨_, pt_chain h1 h3 p1 p2 p3 hm, does_bool (does_chain (f := compareOp op) (f' := compareOp op') A C D h2 h4)⟩
end
end Fx
namespace Fx
open PySem PySem.Spec PyProof.Rows L2
variable [Tb] [Fr]

/-! ### tests -/
def mAnd (m n : M Bool) : M Bool := m.bind fun c => if c = true then n else M.ret false
def mOr (m n : M Bool) : M Bool := m.bind fun c => if c = true then M.ret true else n
def mNot (m : M Bool) : M Bool := m.bind fun c => M.ret (!c)
def mIf {α : Type} (c : M Bool) (a b : M α) : M α := c.bind fun k => if k = true then a else b
def truthD : PyData → Option Bool
  | .none => some false
  | .bool b => some b
  | .int i => some (i != 0)
  | .str s => if s.length ≤ 1000000 then some (s.length != 0) else none
  | .list xs => some (!xs.isEmpty)
  | .tuple xs => some (!xs.isEmpty)
  | .dict _ => none
def mTruth (m : M PyData) : M Bool := m.bind fun d => M.opt (truthD d)
def mAndV (m n : M PyData) : M PyData := m.bind fun d =>
  match d with
  | .bool true => n
  | .bool false => M.ret (.bool false)
  | _ => fun _ => .bad
def mOrV (m n : M PyData) : M PyData := m.bind fun d =>
  match d with
  | .bool true => M.ret (.bool true)
  | .bool false => n
  | _ => fun _ => .bad
def mNotV (m : M PyData) : M PyData := m.bind fun d =>
  match d with
  | .bool b => M.ret (.bool (!b))
  | _ => fun _ => .bad
section
variable {X : Cx} {W : WX} {pos : Pos} {a b c : Expr} {rest : List Expr} {ma mb mc : M Bool} {va vb : M PyData}
theorem does_if {γ α : Type} {rep : Hp → γ → α → Prop} {tc : TT} {ta tb : Tr γ} {mc : M Bool} {ma mb : M α} (C : Does eqRep X W tc mc) (A : Does rep X W ta ma) (D : Does rep X W tb mb) :
    Does rep X W (fun σ H Q => tc σ H fun k H1 => if k = true then ta σ H1 Q else tb σ H1 Q) (mIf mc ma mb) :=
  C.bind (k := fun k σ H1 Q => if k = true then ta σ H1 Q else tb σ H1 Q) fun H0 B T σ H env Q g k R r P => by
    cases r
    cases g with
    | true =>
      rw [if_pos rfl] at P ⊢
      exact A H0 B T σ H env Q R P
    | false =>
      rw [if_neg (by decide)] at P ⊢
      exact D H0 B T σ H env Q R P
theorem does_ret {γ α : Type} {rep : Hp → γ → α → Prop} {g : γ} {d : α} (h : ∀ H, rep H g d) : Does rep X W (fun _ H Q => Q g H) (M.ret d) := fun H0 B T σ H env Q R P => P g H R .refl (h _)
theorem evt_and1 (ha : EvT X W a ma) : EvW X W (.BoolOp .And [a] pos) ma := let ⟨t, p, A⟩ := ha.ex; ⟨t, pw_and1 p, A⟩
theorem evt_or1 (ha : EvT X W a ma) : EvW X W (.BoolOp .Or [a] pos) ma := let ⟨t, p, A⟩ := ha.ex; ⟨t, pw_or1 p, A⟩
theorem evt_andC (ha : EvT X W a ma) (hb : EvW X W (.BoolOp .And (b :: rest) pos) mb) : EvW X W (.BoolOp .And (a :: b :: rest) pos) (mAnd ma mb) :=
  let ⟨_, p, A⟩ := ha.ex
  let ⟨_, q, C⟩ := hb.ex
  ⟨_, pw_and p q, does_if A C (does_ret fun _ => rfl)⟩
theorem evt_orC (ha : EvT X W a ma) (hb : EvW X W (.BoolOp .Or (b :: rest) pos) mb) : EvW X W (.BoolOp .Or (a :: b :: rest) pos) (mOr ma mb) :=
  let ⟨_, p, A⟩ := ha.ex
  let ⟨_, q, C⟩ := hb.ex
  ⟨_, pw_or p q, does_if A (does_ret fun _ => rfl) C⟩
theorem evt_w (h : EvW X W a ma) : EvT X W a ma := let ⟨t, p, A⟩ := h.ex; ⟨t, p.pt, A⟩
theorem evt_not (ha : EvT X W a ma) : EvT X W (.UnaryOp .Not a pos) (mNot ma) :=
  let ⟨_, p, A⟩ := ha.ex
  ⟨_, pt_not p, A.bind (k := fun c σ H1 Q => Q (!c) H1) fun H0 B T σ H env Q g k R r P => by
    cases r
    exact P _ H R .refl rfl⟩
theorem mil : 1000000 ≤ sizeLine := by
  rw [sizeLine_eq]
  decide
theorem truth_ok {K : PySem.W.Frag} {H H' : Hp} {v : V} {d : PyData} {k : Bool} (s : Same H' H) (h : Dq K H' v d) (e : truthD d = some k) : TruV K v H k := by
  cases h with
  | non => cases e; rfl
  | bl b => cases e; rfl
  | int i => cases e; rfl
  | str x =>
    simp only [truthD] at e
    split at e
    · rename_i hx
      cases e
      refine ⟨Nat.le_trans hx mil, ?_⟩
      cases x.length <;> rfl
    · cases e
  | lst h a =>
    cases e
    refine .inl ⟨_, .inl (.inl (s _ _ h)), ?_⟩
    cases a <;> rfl
  | tup h a =>
    cases e
    refine .inr (.inl ⟨_, seqT_up s h, ?_⟩)
    cases a <;> rfl
  | scr h a => cases e
  | dct0 _ => cases e
  | dct1 _ _ => cases e
theorem evt_truth {va : M PyData} (ha : Ev X W a va) (he : ∀ whole, isTrue a X.env whole = (do let v ← whole; standAt a.pos; holding [v] (truthy v)) := by intro _; rfl) : EvT X W a (mTruth va) :=
  let ⟨_, p, A⟩ := ha.ex
  ⟨_, pt_truth p he, A.bind (k := fun x σ H1 Q => ∃ k, TruV X.K x H1 k ∧ Q k H1) fun H0 B T σ H env Q g k R r P => by
    obtain ⟨b, e, P⟩ := post_opt (rep := eqRep) P
    exact ⟨b, truth_ok hid_sub r e, P b H R .refl rfl⟩⟩
/-- a test that is a call of a def of our own, that answers with a bool -/
theorem evt_val {va : M PyData} (ha : Ev X W a va) (he : ∀ whole, isTrue a X.env whole = (do let v ← whole; standAt a.pos; holding [v] (truthy v)) := by intro _; rfl) : EvT X W a (mBool va) :=
  let ⟨_, p, A⟩ := ha.ex
  ⟨_, pt_val p he, does_bool A⟩
theorem ev_ifExp {va vb : M PyData} (hc : EvT X W c mc) (ha : Ev X W a va) (hb : Ev X W b vb) : Ev X W (.IfExp c a b pos) (mIf mc va vb) :=
  let ⟨_, p, C⟩ := hc.ex
  let ⟨_, q, A⟩ := ha.ex
  let ⟨_, r, D⟩ := hb.ex
  ⟨_, pe_ifExp p q r, does_if C A D⟩
theorem ev_one {op} (ha : Ev X W a va) : Ev X W (.BoolOp op [a] pos) va := let ⟨t, p, A⟩ := ha.ex; ⟨t, pe_one p, A⟩
theorem ev_and (ha : Ev X W a va) (hb : Ev X W (.BoolOp .And (b :: rest) pos) vb) : Ev X W (.BoolOp .And (a :: b :: rest) pos) (mAndV va vb) :=
  let ⟨_, p, A⟩ := ha.ex
  let ⟨tb, q, C⟩ := hb.ex
  ⟨_, pe_and p q, A.bind (k := fun x σ H1 Q => ∃ c, x = .bl c ∧ if c = true then tb σ H1 Q else Q (.bl false) H1) fun H0 B T σ H env Q g k R r P => by
    cases k with
    | bool b =>
      cases r
      refine ⟨b, rfl, ?_⟩
      cases b with
      | true =>
        rw [if_pos rfl]
        exact C H0 B T σ H env Q R P
      | false =>
        rw [if_neg (by decide)]
        exact P _ H R .refl (.bl false)
    | _ => exact P.elim⟩
theorem ev_or (ha : Ev X W a va) (hb : Ev X W (.BoolOp .Or (b :: rest) pos) vb) : Ev X W (.BoolOp .Or (a :: b :: rest) pos) (mOrV va vb) :=
  let ⟨_, p, A⟩ := ha.ex
  let ⟨tb, q, C⟩ := hb.ex
  ⟨_, pe_or p q, A.bind (k := fun x σ H1 Q => ∃ c, x = .bl c ∧ if c = true then Q (.bl true) H1 else tb σ H1 Q) fun H0 B T σ H env Q g k R r P => by
    cases k with
    | bool b =>
      cases r
      refine ⟨b, rfl, ?_⟩
      cases b with
      | true =>
        rw [if_pos rfl]
        exact P _ H R .refl (.bl true)
      | false =>
        rw [if_neg (by decide)]
        exact C H0 B T σ H env Q R P
    | _ => exact P.elim⟩
theorem ev_not (ha : Ev X W a va) : Ev X W (.UnaryOp .Not a pos) (mNotV va) :=
  let ⟨_, p, A⟩ := ha.ex
  ⟨_, pe_not p, A.bind (rep' := Dq X.K) (k := fun (x : V) (σ : L2.St) (H1 : Hp) (Q : VK) => ∃ c, x = .bl c ∧ Q (.bl (!c)) H1) fun H0 B T σ H env Q g k R r P => by
    cases k with
    | bool b =>
      cases r
      exact ⟨b, rfl, P _ H R .refl (.bl _)⟩
    | _ => exact P.elim⟩
end

/-! ### several parts, displays -/
def mNil : M (List PyData) := M.ret []
def mCons (m : M PyData) (ms : M (List PyData)) : M (List PyData) := m.bind fun d => ms.bind fun ds => M.ret (d :: ds)
def mTup (ms : M (List PyData)) : M PyData := ms.bind fun ds => M.opt (if ds.length ≤ 100000 then some (.tuple ds) else none)
def mLstD (ms : M (List PyData)) : M (List PyData) := ms.bind fun ds => M.opt (if ds.length ≤ 100000 then some ds else none)
/-- a new list as a value -/
def mLst (m : M (List PyData)) : M PyData := m.bind fun ds => M.ret (.list ds)
/-- what is wanted of an expression that makes a list -/
def PostF (X : Cx) (W : WX) (H0 : Hp) (B : List (Nat × Addr)) (T : List (Addr × HO)) (σ : L2.St) (H : Hp) (env : Vn) (Q : VK) : Res (List PyData × Vn) → Prop
  | .bad => False
  | .ok (ds, env') => ∀ p xs H', H p = none → H' p = some (.lst xs) → Rel X.K H0 B ((p, .lst xs) :: T) σ H' env' → Lat (Hd T σ env) H (Hd ((p, .lst xs) :: T) σ env') H' → DqAll X.K (hid H' (Hd ((p, .lst xs) :: T) σ env')) xs ds → Q (.ref p) H'
  | .ex x env' => PostX X W H0 B T σ H env x env'
def DoesF (X : Cx) (W : WX) (t : TE) (m : M (List PyData)) : Prop := ∀ H0 B T σ H env Q, Rel X.K H0 B T σ H env → PostF X W H0 B T σ H env Q (m env) → t σ H Q
structure EvF (X : Cx) (W : WX) (e : Expr) (m : M (List PyData)) : Prop where
  ex : ∃ t, PE X e t ∧ DoesF X W t m
section
variable {X : Cx} {W : WX} {pos : Pos} {e : Expr} {es : List Expr} {m : M PyData} {ms : M (List PyData)}
theorem eva_nil : EvA X W [] mNil := ⟨_, pa_nil, fun H0 B T σ H env Q R P => P _ H R .refl .nil⟩
theorem eva_cons (h : Ev X W e m) (hs : EvA X W es ms) (hst : starEach (e :: es) X.env = (false, eval e X.env) :: starEach es X.env := by rfl) : EvA X W (e :: es) (mCons m ms) :=
  let ⟨_, p, A⟩ := h.ex
  let ⟨_, q, C⟩ := hs.ex
  ⟨_, pa_cons p q hst, Does.bind2 (rep1 := Dq X.K) (rep2 := DqAll X.K) (fun _ _ _ _ e h => dpUp e h) A C (k := fun x xs σ H Q => Q (x :: xs) H) fun H0 B T σ H env Q g a g2 a2 R r1 r2 P => P _ H R .refl (.cons r1 r2)⟩
theorem ev_tup {k : Nat} (h : EvA X W es ms) : Ev X W (.Tuple es k pos) (mTup ms) :=
  let ⟨_, p, A⟩ := h.ex
  ⟨_, pe_tup p, A.bind (rep' := Dq X.K) (k := fun (xs : List V) (σ : L2.St) (H1 : Hp) (Q : VK) => xs.length ≤ sizeLine ∧ ∀ p, H1 p = none → Q (.ref p) (upd H1 p (.tup xs))) fun H0 B T σ H env Q g ds R r P => by
    obtain ⟨d, e, P⟩ := post_opt (rep := Dq X.K) P
    split at e
    · rename_i hz
      cases e
      refine ⟨by rw [dpAll_len r, sizeLine_eq]; omega, fun p hp => ?_⟩
      exact P _ _ (R.grow (same_new hp)) (.of (same_new hp)) (tup_new (fun q z => R.hdThere z) hp r)
    · cases e⟩
theorem evf_lst (h : EvA X W es ms) : EvF X W (.List es pos) (mLstD ms) := by
  obtain ⟨t, p, A⟩ := h.ex
  refine ⟨_, pe_lst p, fun H0 B T σ H env Q R P => ?_⟩
  refine A H0 B T σ H env _ R ?_
  unfold mLstD M.bind at P
  cases q : ms env with
  | bad => rw [q] at P; exact P
  | ex x e' => rw [q] at P; exact P
  | ok pr =>
    obtain ⟨ds, e'⟩ := pr
    rw [q] at P
    intro xs H' R' l r
    show xs.length ≤ sizeLine ∧ ∀ p, H' p = none → Q (.ref p) (upd H' p (.lst xs))
    dsimp only at P
    split at P
    · rename_i hz
      refine ⟨by rw [dpAll_len r, sizeLine_eq]; omega, fun p hp => ?_⟩
      have hp0 : H p = none := by
        cases z : H p with
        | none => rfl
        | some o => exact absurd hp (l.there p (by rw [z]; exact fun z => nomatch z))
      obtain ⟨R2, l2⟩ := R'.hide (same_new (o := .lst xs) hp) hp upd_same
      exact P p xs _ hp0 upd_same R2 (l.trans l2) (l2.dpA r)
    · exact P.elim
theorem fresh_val {K : PySem.W.Frag} {H0 H : Hp} {B : List (Nat × Addr)} {T : List (Addr × HO)} {σ : L2.St} {env env' : Vn} {H' : Hp} {p : Addr} {xs : List V} {ds : List PyData} (R0 : Rel K H0 B T σ H env) (hp : H p = none) (e : H' p = some (.lst xs)) (R : Rel K H0 B ((p, .lst xs) :: T) σ H' env')
    (l : Lat (Hd T σ env) H (Hd ((p, .lst xs) :: T) σ env') H') (r : DqAll K (hid H' (Hd ((p, .lst xs) :: T) σ env')) xs ds) : Rel K H0 B T σ H' env' ∧ Lat (Hd T σ env) H (Hd T σ env') H' ∧ Dq K (hid H' (Hd T σ env')) (.ref p) (.list ds) := by
  obtain ⟨R2, l2⟩ := R.unhide
  refine ⟨R2, l.trans l2, .lst (hid_some.mpr ⟨?_, e⟩) (l2.dpA r)⟩
  rintro (z | ⟨i, z⟩)
  · exact R0.hdThere (.inl z) hp
  · exact R.dis i p z List.mem_cons_self
theorem does_lst {t : TE} {m : M (List PyData)} (A : DoesF X W t m) : Does (Dq X.K) X W t (mLst m) := fun H0 B T σ H env Q R P => by
  refine A H0 B T σ H env Q R ?_
  unfold mLst M.bind at P
  cases q : m env with
  | bad => rw [q] at P; exact P
  | ex x e' => rw [q] at P; exact P
  | ok pr =>
    obtain ⟨ds, e'⟩ := pr
    rw [q] at P
    intro p xs H' hp e R' l r
    obtain ⟨R2, l2, h⟩ := fresh_val R hp e R' l r
    exact P _ H' R2 l2 h
theorem ev_lst {m : M (List PyData)} (h : EvF X W e m) : Ev X W e (mLst m) := let ⟨_, p, A⟩ := h.ex; ⟨_, p, does_lst A⟩
end

/-! ### a[i] -/
def gIx : PyData → PyData → Option PyData
  | .list xs, .int i => atI xs i
  | .tuple xs, .int i => atI xs i
  | .str z, .int i => if z.length ≤ 1000000 then (atI z.cps.toList i).map fun c => .str ⟨#[c]⟩ else none
  | .dict [(.str "script", .list xs)], .int i => atI xs i
  | _, _ => none
theorem atI_dq {K : PySem.W.Frag} {H : Hp} {xs : List V} {ds : List PyData} {i : Int} {d : PyData} (a : DqAll K H xs ds) (e : atI ds i = some d) : ∃ v, atI xs i = some v ∧ Dq K H v d := by
  unfold atI at e ⊢
  rw [dpAll_len a]
  cases q : ixN ds.length i with
  | none => rw [q] at e; cases e
  | some j =>
    rw [q] at e
    exact dpAll_get a e
def mIx (ma mb : M PyData) : M PyData := mOp gIx ma mb
def slLst : Option Sl → Option (List PyData)
  | some (.ow ds) => some ds
  | some (.bo ds) => some ds
  | _ => none
/-- of an own list -/
def mIxO (i : Nat) (mb : M PyData) : M PyData := fun env =>
  match slLst env[i]? with
  | none => .bad
  | some _ => (mb.bind fun b env' =>
    match slLst env'[i]? with
    | none => .bad
    | some ds => M.opt (gIx (.list ds) b) env') env
def mLenO (i : Nat) : M PyData := fun env =>
  match slLst env[i]? with
  | none => .bad
  | some ds => .ok (.int ds.length, env)
theorem Rel.own_at {K : PySem.W.Frag} {H0 H : Hp} {B : List (Nat × Addr)} {T : List (Addr × HO)} {σ : L2.St} {env : Vn} (R : Rel K H0 B T σ H env) {i : Nat} {ds : List PyData} (h : slLst env[i]? = some ds) :
    ∃ p xs s, env[i]? = some s ∧ σ[i]? = some (some (.ref p)) ∧ H p = some (.lst xs) ∧ DqAll K (hid H (Hd T σ env)) xs ds ∧ (s = .ow ds ∨ s = .bo ds) ∧ OwnAt σ env i p := by
  cases e : env[i]? with
  | none => rw [e] at h; cases h
  | some s =>
    rw [e] at h
    have z := R.sl i s e
    cases s with
    | no => cases h
    | xc => cases h
    | va d => cases h
    | ow es =>
      cases h
      cases q : σ[i]? with
      | none => rw [q] at z; cases z
      | some o =>
        rw [q] at z
        cases z with
        | ow e2 a => exact ⟨_, _, _, rfl, rfl, e2, a, .inl rfl, ⟨_, e, trivial, q⟩⟩
    | bo es =>
      cases h
      cases q : σ[i]? with
      | none => rw [q] at z; cases z
      | some o =>
        rw [q] at z
        cases z with
        | bo e2 a => exact ⟨_, _, _, rfl, rfl, e2, a, .inr rfl, ⟨_, e, trivial, q⟩⟩
section
variable {X : Cx} {W : WX} {pos p0 : Pos} {a b : Expr} {ma mb : M PyData}
theorem ix_ok {K : PySem.W.Frag} {H H' : Hp} {x y : V} {a b d : PyData} {Q : VK} (e : Same H' H) (h1 : Dq K H' x a) (h2 : Dq K H' y b) (g : gIx a b = some d) (q : ∀ v, Dq K H' v d → Q v H) : rIx K x y H Q := by
  cases h2 with
  | int i =>
    cases h1 with
    | non => cases g
    | bl _ => cases g
    | int _ => cases g
    | str z =>
      simp only [gIx] at g
      split at g
      · rename_i hz
        obtain ⟨c, e1, rfl⟩ := Option.map_eq_some_iff.mp g
        exact .inr (.inr ⟨z, i, c, rfl, rfl, Nat.le_trans hz mil, e1, q _ (.str _)⟩)
      · cases g
    | lst h a =>
      obtain ⟨v, e1, r⟩ := atI_dq a g
      exact .inl ⟨_, _, i, v, rfl, rfl, .inl (.inl (e _ _ h)), e1, q v r⟩
    | tup h a =>
      obtain ⟨v, e1, r⟩ := atI_dq a g
      exact .inr (.inl ⟨_, _, i, v, rfl, rfl, seqT_up e h, e1, q v r⟩)
    | scr h a =>
      obtain ⟨v, e1, r⟩ := atI_dq a g
      exact .inl ⟨_, _, i, v, rfl, rfl, seqL_up e h, e1, q v r⟩
    | dct0 _ => cases g
    | dct1 _ _ => cases g
  | non => cases h1 <;> cases g
  | bl _ => cases h1 <;> cases g
  | str _ => cases h1 <;> cases g
  | lst _ _ => cases h1 <;> cases g
  | tup _ _ => cases h1 <;> cases g
  | scr _ _ => cases h1 <;> cases g
  | dct0 _ => cases h1 <;> cases g
  | dct1 _ _ => cases h1 <;> cases g
theorem ev_ix (ha : Ev X W a ma) (hb : Ev X W b mb) (hs : PlainIx b := by exact fun _ _ => rfl) : Ev X W (.Subscript a b pos) (mIx ma mb) :=
  let ⟨_, p, A⟩ := ha.ex
  let ⟨_, q, C⟩ := hb.ex
  ⟨_, pe_ix ix_seq p q hs, does_op (f := fun _ _ => pure .none) A C fun O H x y a b d Q hO h1 h2 g w => ix_ok hid_sub h1 h2 g fun v r => w v H (Same.refl H) r⟩
theorem ev_ixO (i : Nat) {x : Str} (hb : Ev X W b mb) (hs : PlainIx b := by exact fun _ _ => rfl) (hN : X.N[i]? = some x := by rfl)
    (hv : Vis X.env.scope x := by first | exact Or.inl rfl | exact Or.inr (Or.inl rfl) | exact Or.inr (Or.inr rfl)) (hd : (x == ("__debug__" : Str)) = false := by decide) (hcd : (x == ("__classdict__" : Str)) = false := by decide) :
    Ev X W (.Subscript (.Name x p0) b pos) (mIxO i mb) := by
  obtain ⟨t, q, C⟩ := hb.ex
  refine ⟨_, pe_ix ix_seq (pe_var hN hv hd hcd) q hs, fun H0 B T σ H env Q R P => ?_⟩
  unfold mIxO at P
  cases e : slLst env[i]? with
  | none => rw [e] at P; exact P.elim
  | some ds0 =>
    rw [e] at P
    obtain ⟨p, xs, s, e1, e2, _⟩ := R.own_at e
    refine ⟨_, e2, ?_⟩
    refine C H0 B T σ H env _ R ?_
    unfold M.bind at P
    cases e3 : mb env with
    | bad => simp only [e3] at P; exact P
    | ex x e' => simp only [e3] at P; exact P
    | ok pr =>
      obtain ⟨k, e'⟩ := pr
      simp only [e3] at P
      intro y H' R' l r
      cases e4 : slLst e'[i]? with
      | none => rw [e4] at P; exact P.elim
      | some ds =>
        rw [e4] at P
        obtain ⟨p', xs', s', f1, f2, f3, f4, _⟩ := R'.own_at e4
        rw [e2] at f2
        cases f2
        dsimp only at P
        obtain ⟨d, g, P2⟩ := post_opt (rep := Dq X.K) P
        clear P
        cases r with
        | int j =>
          obtain ⟨v, e5, r5⟩ := atI_dq f4 g
          exact .inl ⟨_, _, j, v, rfl, rfl, .inl (.inl f3), e5, P2 v H' R' l r5⟩
        | _ => cases g
end
end Fx
namespace Fx
open PySem PySem.Spec PyProof.Rows L2
variable [Tb] [Fr]

/-! ### built-in functions -/
structure CallV (X : Cx) (f : Value) (g : List PyData → Option PyData) : Prop where
  ex : ∃ r, CallR X f r ∧ ∀ (O : Addr → Prop) (H : Hp) (vs : List V) (ds : List PyData) (d : PyData) (Q : VK), (∀ q, O q → H q ≠ none) → DqAll X.K (hid H O) vs ds → g ds = some d → (∀ v H', Same H H' → Dq X.K (hid H' O) v d → Q v H') → r vs H Q
def mCallV (g : List PyData → Option PyData) (ms : M (List PyData)) : M PyData := ms.bind fun ds => M.opt (g ds)
section
variable {X : Cx} {W : WX} {p pos : Pos} {e : Expr} {es : List Expr} {ms : M (List PyData)} {x : Str} {id T : String} {g : List PyData → Option PyData}
theorem does_callV {f : Value} {t : TA} {r : List V → Hp → VK → Prop} (A : Does (DqAll X.K) X W t ms)
    (hr : ∀ (O : Addr → Prop) (H : Hp) (vs : List V) (ds : List PyData) (d : PyData) (Q : VK), (∀ q, O q → H q ≠ none) → DqAll X.K (hid H O) vs ds → g ds = some d → (∀ v H', Same H H' → Dq X.K (hid H' O) v d → Q v H') → r vs H Q) : Does (Dq X.K) X W (tCB r t) (mCallV g ms) :=
  A.bind (rep' := Dq X.K) (k := fun (vs : List V) (σ : L2.St) (H1 : Hp) (Q : VK) => r vs H1 Q) fun H0 B T σ H env Q vs ds R q P => by
    obtain ⟨d, e, P⟩ := post_opt (rep := Dq X.K) P
    exact hr (Hd T σ env) H vs ds d Q (fun q z => R.hdThere z) q e fun v H' s q => P v H' (R.grow s) (.of s) q
theorem ev_callB (hc : CallV X (.builtin id) g) (hm : X.mg x = none) (hv : bootBuiltins x = some (.builtin id)) (ha : EvA X W (e :: es) ms) (hg : Gl X x := by rfl) (hn : x ≠ "__name__" := by decide) (hdb : (x == ("__debug__" : Str)) = false := by decide)
    (he : starEach (e :: es) X.env = (false, eval e X.env) :: starEach es X.env := by rfl) (hpl : (backTo pos (starEach es X.env)).any (·.1) = false := by rfl) : Ev X W (.Call (.Name x p) (e :: es) [] pos) (mCallV g ms) :=
  let ⟨_, h1, h2⟩ := hc.ex
  let ⟨_, q, A⟩ := ha.ex
  ⟨_, pe_callB h1 hg hm hv q hn hdb he hpl, does_callV (f := .builtin id) A h2⟩
theorem ev_callTy (hc : CallV X (.type T) g) (hm : X.mg x = none) (hv : bootBuiltins x = some (.type T)) (ha : EvA X W (e :: es) ms) (hg : Gl X x := by rfl) (hn : x ≠ "__name__" := by decide) (hdb : (x == ("__debug__" : Str)) = false := by decide)
    (he : starEach (e :: es) X.env = (false, eval e X.env) :: starEach es X.env := by rfl) (hpl : (backTo pos (starEach es X.env)).any (·.1) = false := by rfl) : Ev X W (.Call (.Name x p) (e :: es) [] pos) (mCallV g ms) :=
  let ⟨_, h1, h2⟩ := hc.ex
  let ⟨_, q, A⟩ := ha.ex
  ⟨_, pe_callTy h1 hg hm hv q hn hdb he hpl, does_callV (f := .type T) A h2⟩
end
def gLen : List PyData → Option PyData
  | [.list xs] => some (.int xs.length)
  | [.tuple xs] => some (.int xs.length)
  | [.str z] => if z.length ≤ 1000000 then some (.int z.length) else none
  | [.dict [(.str "script", .list xs)]] => some (.int xs.length)
  | _ => none
def gAbs : List PyData → Option PyData
  | [.int i] => some (.int (if i < 0 then -i else i))
  | _ => none
def gMax : List PyData → Option PyData
  | [.int i, .int j] => some (.int (if j > i then j else i))
  | _ => none
def gMin : List PyData → Option PyData
  | [.int i, .int j] => some (.int (if j < i then j else i))
  | _ => none
def gInt : List PyData → Option PyData
  | [.int i] => some (.int i)
  | [.bool k] => some (.int (if k then 1 else 0))
  | _ => none
def gTuple : List PyData → Option PyData
  | [.list xs] => some (.tuple xs)
  | [.tuple xs] => some (.tuple xs)
  | _ => none
def boolsD : List PyData → Option (List Bool)
  | [] => some []
  | .bool b :: r => (boolsD r).map (b :: ·)
  | _ => none
def gAll : List PyData → Option PyData
  | [.list xs] => (boolsD xs).map fun bs => .bool (bs.all id)
  | _ => none
def gAny : List PyData → Option PyData
  | [.list xs] => (boolsD xs).map fun bs => .bool (bs.any id)
  | _ => none
theorem bools_ok {K : PySem.W.Frag} {H : Hp} : ∀ {xs : List V} {ds : List PyData} {bs : List Bool}, DqAll K H xs ds → boolsD ds = some bs → xs = bs.map V.bl
  | _, _, _, .nil, e => by cases e; rfl
  | _, _, _, .cons h a, e => by
    cases h with
    | bl b =>
      simp only [boolsD] at e
      obtain ⟨cs, e1, rfl⟩ := Option.map_eq_some_iff.mp e
      rw [bools_ok a e1]
      rfl
    | _ => cases e
section
variable {X : Cx}
theorem cv_len : CallV X (.builtin "len") gLen := ⟨_, call_len, fun O H vs ds d Q hO a e q => by
  cases a with
  | nil => cases e
  | cons h a =>
    cases a with
    | cons => cases h <;> cases e
    | nil =>
      cases h with
      | str z =>
        simp only [gLen] at e
        split at e
        · rename_i hz
          cases e
          exact ⟨_, _, rfl, ⟨Nat.le_trans hz mil, rfl⟩, q _ H (Same.refl H) (.int _)⟩
        · cases e
      | lst h a => cases e; exact ⟨_, _, rfl, .inl ⟨_, .inl (.inl (hid_sub _ _ h)), rfl⟩, q _ H (Same.refl H) (by rw [dpAll_len a]; exact .int _)⟩
      | tup h a => cases e; exact ⟨_, _, rfl, .inr ⟨_, seqT_up hid_sub h, rfl⟩, q _ H (Same.refl H) (by rw [dpAll_len a]; exact .int _)⟩
      | scr h a => cases e; exact ⟨_, _, rfl, .inl ⟨_, seqL_up hid_sub h, rfl⟩, q _ H (Same.refl H) (by rw [dpAll_len a]; exact .int _)⟩
      | _ => cases e⟩
theorem cv_abs : CallV X (.builtin "abs") gAbs := ⟨_, call_abs, fun O H vs ds d Q hO a e q => by
  cases a with
  | nil => cases e
  | cons h a =>
    cases a with
    | cons => cases h <;> cases e
    | nil =>
      cases h with
      | int i => cases e; exact ⟨_, rfl, q _ H (Same.refl H) (.int _)⟩
      | _ => cases e⟩
theorem cv_int : CallV X (.type "int") gInt := ⟨_, call_int1, fun O H vs ds d Q hO a e q => by
  cases a with
  | nil => cases e
  | cons h a =>
    cases a with
    | cons => cases h <;> cases e
    | nil =>
      cases h with
      | int i => cases e; exact .inl ⟨_, rfl, q _ H (Same.refl H) (.int _)⟩
      | bl k => cases e; exact .inr ⟨_, rfl, q _ H (Same.refl H) (.int _)⟩
      | _ => cases e⟩
theorem cv_max (hc : X.calm = true) : CallV X (.builtin "max") gMax := ⟨_, call_max2 hc, fun O H vs ds d Q hO a e q => by
  cases a with
  | nil => cases e
  | cons h a =>
    cases h with
    | int i =>
      cases a with
      | nil => cases e
      | cons h a =>
        cases h with
        | int j =>
          cases a with
          | nil => cases e; exact ⟨_, _, rfl, q _ H (Same.refl H) (.int _)⟩
          | cons => cases e
        | _ => cases e
    | _ => cases e⟩
theorem cv_min (hc : X.calm = true) : CallV X (.builtin "min") gMin := ⟨_, call_min2 hc, fun O H vs ds d Q hO a e q => by
  cases a with
  | nil => cases e
  | cons h a =>
    cases h with
    | int i =>
      cases a with
      | nil => cases e
      | cons h a =>
        cases h with
        | int j =>
          cases a with
          | nil => cases e; exact ⟨_, _, rfl, q _ H (Same.refl H) (.int _)⟩
          | cons => cases e
        | _ => cases e
    | _ => cases e⟩
theorem cv_tuple : CallV X (.type "tuple") gTuple := ⟨_, call_tuple_of, fun O H vs ds d Q hO a e q => by
  cases a with
  | nil => cases e
  | cons h a =>
    cases a with
    | cons => cases h <;> cases e
    | nil =>
      cases h with
      | lst h a => cases e; exact ⟨_, _, rfl, .inl ⟨.inl (.inl (hid_sub _ _ h)), fun l hl => q _ _ (same_new hl) (tup_new hO hl a)⟩⟩
      | tup h a => cases e; exact ⟨_, _, rfl, .inr ⟨seqT_up hid_sub h, q _ H (Same.refl H) (.tup h a)⟩⟩
      | _ => cases e⟩
theorem cv_all (hc : X.calm = true) : CallV X (.builtin "all") gAll := ⟨_, cr_all hc, fun O H vs ds d Q hO a e q => by
  cases a with
  | nil => cases e
  | cons h a =>
    cases a with
    | cons => cases h <;> cases e
    | nil =>
      cases h with
      | lst h a =>
        obtain ⟨bs, e1, rfl⟩ := Option.map_eq_some_iff.mp e
        have e2 := bools_ok a e1
        subst e2
        exact ⟨_, bs, rfl, .inl (.inl (hid_sub _ _ h)), q _ H (Same.refl H) (.bl _)⟩
      | _ => cases e⟩
theorem cv_any (hc : X.calm = true) : CallV X (.builtin "any") gAny := ⟨_, cr_any hc, fun O H vs ds d Q hO a e q => by
  cases a with
  | nil => cases e
  | cons h a =>
    cases a with
    | cons => cases h <;> cases e
    | nil =>
      cases h with
      | lst h a =>
        obtain ⟨bs, e1, rfl⟩ := Option.map_eq_some_iff.mp e
        have e2 := bools_ok a e1
        subst e2
        exact ⟨_, bs, rfl, .inl (.inl (hid_sub _ _ h)), q _ H (Same.refl H) (.bl _)⟩
      | _ => cases e⟩
/-- repr of data -/
def isD : PyData → Bool
  | .dict [] => true
  | .dict [(.int _, .int _)] => true
  | _ => false
def layQ (d : PyData) : Bool := d.canLay0 || isD d
inductive Rq (K : PySem.W.Frag) (H : Hp) : V → PyData → Prop
  | dp {v : V} {d : PyData} : Dp K H v d → d.canLay0 = true → Rq K H v d
  | d0 {a : Addr} : H a = some (.dK []) → Rq K H (.ref a) (.dict [])
  | d1 {a : Addr} {i j : Int} {k : Key} : kV k = .int i → H a = some (.dK [(k, .int j)]) → Rq K H (.ref a) (.dict [(.int i, .int j)])
theorem rq_of {K : PySem.W.Frag} {H : Hp} {v : V} {d : PyData} (h : Dq K H v d) (e : layQ d = true) : Rq K H v d := by
  unfold layQ at e
  cases c : d.canLay0 with
  | true => exact .dp (dqDp h c) c
  | false =>
    rw [c, Bool.false_or] at e
    cases h with
    | dct0 h => exact .d0 h
    | dct1 k h => exact .d1 k h
    | scr h a => cases e
    | _ => cases e
/-- a dict is read -/
theorem rq_reads {X : Cx} {pins : List (Addr × Obj)} {σ : L2.St} {H : Hp} {s : Shared} (I : Inv X pins σ H s) {a : Addr} {d : PyData} (h : Rq X.K H (.ref a) d) : ∃ as, Reads s.heap (.ref a) d as ∧ (d.hasDict = true → sysModules ∉ as) := by
  cases h with
  | dp h c =>
    obtain ⟨as, rr⟩ := Dp.reads I _ _ _ h (show RelV (.ref a) (.ref a) from rfl)
    refine ⟨as, rr, fun z => ?_⟩
    rw [PyData.hasDict_of_canLay d c] at z
    cases z
  | d0 h =>
    obtain ⟨_, ns, vs, kv, o, es, ep, h1, h2, h3, h4, h5, h6⟩ := dk_of I.hok h
    cases kv
    cases h5' : es.toList with
    | cons e r => rw [h5'] at h5; cases h5
    | nil =>
      refine ⟨a :: [] ++ [], .dict h1 h2.1 h3 (by rw [h5']; exact .nil) (by rw [h5']; exact .nil), fun _ z => ?_⟩
      simp only [List.append_nil, List.mem_singleton] at z
      rw [z] at ns
      simp at ns
  | @d1 _ i j k hk h =>
    obtain ⟨_, ns, vs, kv, o, es, ep, h1, h2, h3, h4, h5, h6⟩ := dk_of I.hok h
    cases kv with
    | @cons _ kv1 _ _ q kv =>
      cases kv
      obtain ⟨q1, q2⟩ := q
      cases h5' : es.toList with
      | nil => rw [h5'] at h5; cases h5
      | cons e r =>
        rw [h5'] at h5
        cases h5 with
        | cons g1 g2 g3 =>
          cases g3
          obtain ⟨t, ht⟩ := q2
          have q1' := q1.symm
          simp only at q1'
          have gi : keyIs kv1.1 e.key = true := g1
          rw [q1'] at gi
          cases k with
          | inr x => cases hk
          | inl i2 =>
            cases hk
            have ek : ∃ t2, e.key = .int i t2 := by
              revert gi
              show Value.isInt i e.key = true → _
              intro gi
              cases ev : e.key <;> rw [ev] at gi <;> simp [Value.isInt] at gi
              rename_i i3 t3
              exact ⟨t3, by rw [gi]⟩
            obtain ⟨t2, ek⟩ := ek
            refine ⟨a :: ([] ++ []) ++ ([] ++ []), .dict h1 h2.1 h3 (by rw [h5']; show ReadsAll _ [e.key] _ _; rw [ek]; exact .cons (.int _ _) .nil) (by rw [h5']; show ReadsAll _ [e.val] _ _; rw [g2, ht]; exact .cons (.int _ _) .nil), fun _ z => ?_⟩
            simp only [List.append_nil, List.mem_singleton] at z
            rw [z] at ns
            simp at ns
def gRepr : List PyData → Option PyData
  | [d] => if layQ d = true ∧ d.showable = true ∧ d.shown.length ≤ 1000000 ∧ d.depth ≤ 60 then some (.str d.shown) else none
  | _ => none
theorem call_reprD (hgu : X.A.guards = some []) (hu : X.A.units + 200 < cLine) : CallR X (.builtin "repr") (fun xs H Q => ∃ v d, xs = [v] ∧ Rq X.K H v d ∧ d.showable = true ∧ d.shown.length ≤ 1000000 ∧ d.depth ≤ 60 ∧ Q (.str d.shown) H) := by
  intro pins s σ H xs us Q I r h
  obtain ⟨v, d, rfl, hd, h2, h3, h4, q⟩ := h
  obtain ⟨u, rfl, ru⟩ := vals1 r
  have hz : d.shown.length ≤ sizeLine := Nat.le_trans h3 mil
  have isR : ∀ a, v = .ref a → wpAny (model X.prog X.w) X.A (call (.builtin "repr") [u]) (EP X pins σ Q) X.xe s := by
    rintro a rfl
    obtain ⟨as, rr, nd⟩ := rq_reads I hd
    cases ru
    exact PySem.repr_of_reads' rr h2 nd hgu (by omega) (fun _ _ e => e) (fun h' u tk hk => ⟨.str _, H, I.kept hk, ⟨_, rfl⟩, q⟩) hz
  cases hd with
  | d0 h => exact isR _ rfl
  | d1 k h => exact isR _ rfl
  | dp hp h1 =>
    cases hp with
    | non =>
      cases ru
      exact PySem.P.repr_of_none ⟨.str _, H, I.tok _, ⟨_, rfl⟩, q⟩
    | bl b =>
      cases ru
      exact PySem.P.repr_of_bool ⟨.str _, H, I.tok _, ⟨_, rfl⟩, q⟩
    | int i =>
      obtain ⟨t, rfl⟩ := ru
      exact PySem.P.repr_of_int (by simpa [PyData.showable] using h2) ⟨.str _, H, I.tok _, ⟨_, rfl⟩, q⟩
    | str x =>
      obtain ⟨t, rfl⟩ := ru
      exact PySem.P.repr_of_str ⟨.str _, H, I.tok _, ⟨_, rfl⟩, q⟩ (by simpa [PyData.shown] using hz)
    | lst hs ha => exact isR _ rfl
    | tup hs ha => exact isR _ rfl
theorem cv_reprU (hgu : X.A.guards = some []) (hu : X.A.units + 200 < cLine) : CallV X (.builtin "repr") gRepr := ⟨_, call_reprD hgu hu, fun O H vs ds d Q hO a e q => by
  cases a with
  | nil => cases e
  | cons h a =>
    cases a with
    | cons => cases e
    | nil =>
      simp only [gRepr] at e
      split at e
      · rename_i hz
        cases e
        obtain ⟨z1, z2, z3, z4⟩ := hz
        exact ⟨_, _, rfl, rq_of (dpUp hid_sub h) z1, z2, z3, z4, q _ H (Same.refl H) (.str _)⟩
      · cases e⟩
theorem cv_repr (hgu : X.A.guards = some []) {k : Nat} (hr : Room k X.A) : CallV X (.builtin "repr") gRepr := cv_reprU hgu (by have := hr.un; omega)
end

/-! ### isinstance with a built-in type -/
def tyName : PyData → String
  | .none => "NoneType"
  | .bool _ => "bool"
  | .int _ => "int"
  | .str _ => "str"
  | .list _ => "list"
  | .tuple _ => "tuple"
  | .dict [(.str "script", _)] => "list"
  | .dict _ => "dict"
/-- the answers for a type -/
def IsTab (K : PySem.W.Frag) (T : String) (b : String → Bool) : Prop := ∀ d : PyData, PySem.W.kitOne K (.type (tyName d)) (.type T) = some (b (tyName d))
theorem isTab {K : PySem.W.Frag} {T : String} {b : String → Bool} (h1 : kitB "NoneType" T = some (b "NoneType")) (h2 : kitB "bool" T = some (b "bool")) (h3 : kitB "int" T = some (b "int")) (h4 : kitB "str" T = some (b "str")) (h5 : kitB "list" T = some (b "list")) (h6 : kitB "tuple" T = some (b "tuple")) (h7 : kitB "dict" T = some (b "dict")) : IsTab K T b := fun d => by
  unfold tyName
  split
  · exact kit_ty h1
  · exact kit_ty h2
  · exact kit_ty h3
  · exact kit_ty h4
  · exact kit_ty h5
  · exact kit_ty h6
  · exact kit_ty h5
  · exact kit_ty h7
def isIntT (n : String) : Bool := n == "int" || n == "bool"
def isBoolT (n : String) : Bool := n == "bool"
def isStrT (n : String) : Bool := n == "str"
def isTupleT (n : String) : Bool := n == "tuple"
def isListT (n : String) : Bool := n == "list"
theorem tab_int {K : PySem.W.Frag} : IsTab K "int" isIntT := isTab (by decide +kernel) (by decide +kernel) (by decide +kernel) (by decide +kernel) (by decide +kernel) (by decide +kernel) (by decide +kernel)
theorem tab_bool {K : PySem.W.Frag} : IsTab K "bool" isBoolT := isTab (by decide +kernel) (by decide +kernel) (by decide +kernel) (by decide +kernel) (by decide +kernel) (by decide +kernel) (by decide +kernel)
theorem tab_str {K : PySem.W.Frag} : IsTab K "str" isStrT := isTab (by decide +kernel) (by decide +kernel) (by decide +kernel) (by decide +kernel) (by decide +kernel) (by decide +kernel) (by decide +kernel)
theorem tab_tuple {K : PySem.W.Frag} : IsTab K "tuple" isTupleT := isTab (by decide +kernel) (by decide +kernel) (by decide +kernel) (by decide +kernel) (by decide +kernel) (by decide +kernel) (by decide +kernel)
theorem tab_list {K : PySem.W.Frag} : IsTab K "list" isListT := isTab (by decide +kernel) (by decide +kernel) (by decide +kernel) (by decide +kernel) (by decide +kernel) (by decide +kernel) (by decide +kernel)
theorem tyx_of {K : PySem.W.Frag} {H H' : Hp} {v : V} {d : PyData} (s : Same H' H) (h : Dq K H' v d) : TyX K H v (.type (tyName d)) := by
  cases h with
  | non => exact .base .non
  | bl b => exact .base (.bl b)
  | int i => exact .base (.int i)
  | str x => exact .base (.str x)
  | lst h a => exact .base (.lst (s _ _ h))
  | tup h a =>
    rcases h with (h | ⟨o, h⟩) | ⟨o, its, n, h, c, _⟩
    · exact .base (.tup (s _ _ h))
    · exact .fTuple (s _ _ h)
    · exact .kTuple h c
  | scr h a =>
    rcases h with (h | ⟨o, h⟩) | ⟨o, its, n, h, c, _⟩
    · exact .base (.lst (s _ _ h))
    · exact .base (.frz (s _ _ h))
    · exact .kList h c
  | dct0 h => exact .base (.dK (s _ _ h))
  | dct1 _ h => exact .base (.dK (s _ _ h))
def mIsi (b : String → Bool) (m : M PyData) : M PyData := m.bind fun d => M.ret (.bool (b (tyName d)))
section
variable {X : Cx} {W : WX} {p p1 pos : Pos} {e : Expr} {m : M PyData} {T : String} {b : String → Bool}
theorem ev_isi {y : Str} (ha : Ev X W e m) (tb : IsTab X.K T b) (hmi : X.mg "isinstance" = none) (hmy : X.mg y = none) (hvy : bootBuiltins y = some (.type T)) (hgi : Gl X "isinstance" := by rfl) (hgy : Gl X y := by rfl)
    (hn : y ≠ "__name__" := by decide) (hd : (y == ("__debug__" : Str)) = false := by decide)
    (h1 : starEach [e, .Name y p1] X.env = (false, eval e X.env) :: starEach [.Name y p1] X.env := by rfl) (h2 : starEach [.Name y p1] X.env = (false, eval (.Name y p1) X.env) :: starEach [] X.env := by rfl)
    (hpl : (backTo pos (starEach [.Name y p1] X.env)).any (·.1) = false := by rfl) : Ev X W (.Call (.Name "isinstance" p) [e, .Name y p1] [] pos) (mIsi b m) := by
  obtain ⟨t, q, A⟩ := ha.ex
  refine ⟨_, pe_callB call_isi hgi hmi (by decide +kernel) (pa_cons q (pa_cons (pe_bltn (v := .ty T) hgy hmy hvy rfl hn hd) pa_nil h2) h1) (by decide) (by decide) h1 hpl, ?_⟩
  exact A.bind (rep' := Dq X.K) (k := fun (x : V) (σ : L2.St) (H1 : Hp) (Q : VK) => rIsi X.K [x, .ty T] H1 Q) fun H0 B T' σ H env Q v d R r P =>
    ⟨v, .ty T, _, _, _, rfl, .ty T, tyx_of hid_sub r, tb d, P _ H R .refl (.bl _)⟩
end

/-! ### defs of our own -/
inductive Rv where
  | v (d : PyData) | f (ds : List PyData)
@[simp] def Rv.d : Rv → PyData
  | .v d => d
  | .f ds => .list ds
inductive Out (α : Type) where
  | ok (a : α) | ex (x : Ex) | bad
def retOk (K : PySem.W.Frag) (O : Addr → Prop) (H : Hp) (r : Rv) (v : V) (H' : Hp) : Prop :=
  match r with
  | .v d => Dq K (hid H' O) v d
  | .f ds => ∃ p xs, v = .ref p ∧ H p = none ∧ H' p = some (.lst xs) ∧ DqAll K (hid H' (fun a => a = p ∨ O a)) xs ds
/-- values in, a value out -/
def spP (K : PySem.W.Frag) (mg : Str → Option Value) (F : List PyData → Out Rv) : Sp := fun vs H Q E => ∃ (O : List Addr) (ds : List PyData), (∀ p ∈ O, H p ≠ none) ∧ TbOk H ∧ (∀ p ∈ CA, p ∈ O) ∧ DqAll K (hid H (· ∈ O)) vs ds ∧
  match F ds with
  | .bad => False
  | .ok r => ∀ v H', SameC H H' → retOk K (· ∈ O) H r v H' → Q v H'
  | .ex x => ∀ cls dd H', SameC H H' → ExR mg K (hid H' (· ∈ O)) H' x cls dd → E cls dd H'
def retB (K : PySem.W.Frag) (O : Addr → Prop) (H : Hp) (r : Rv) (v : V) (H' : Hp) (ys : List V) (cs : List PyData) : Prop :=
  match r with
  | .v d => DqAll K (hid H' O) ys cs ∧ Dq K (hid H' O) v d
  | .f ds => ∃ q us, v = .ref q ∧ H q = none ∧ H' q = some (.lst us) ∧ DqAll K (hid H' (fun a => a = q ∨ O a)) ys cs ∧ DqAll K (hid H' (fun a => a = q ∨ O a)) us ds
/-- a list lent, and values in; the list changed, a value out -/
def spB (K : PySem.W.Frag) (F : List PyData → List PyData → Out (Rv × List PyData)) : Sp := fun vs H Q _ => ∃ (O : List Addr) (p : Addr) (xs : List V) (cs : List PyData) (rest : List V) (ds : List PyData),
  vs = .ref p :: rest ∧ (∀ q ∈ O, H q ≠ none) ∧ TbOk H ∧ (∀ q ∈ CA, q ∈ O) ∧ p ∉ O ∧ H p = some (.lst xs) ∧ DqAll K (hid H (fun a => a = p ∨ a ∈ O)) xs cs ∧ DqAll K (hid H (fun a => a = p ∨ a ∈ O)) rest ds ∧
  match F cs ds with
  | .ok (r, cs') => ∀ v H' ys, (∀ b o, b ≠ p → b ∉ CA → H b = some o → H' b = some o) → TbOk H' → H' p = some (.lst ys) → retB K (fun a => a = p ∨ a ∈ O) H r v H' ys cs' → Q v H'
  | _ => False
def M.out (o : Out Rv) : M PyData := fun e =>
  match o with
  | .ok r => .ok (r.d, e)
  | .ex x => .ex x e
  | .bad => .bad
def mCall (F : List PyData → Out Rv) (dds : List PyData) (ms : M (List PyData)) : M PyData := ms.bind fun ds => M.out (F (ds ++ dds))
def M.outF (o : Out Rv) : M (List PyData) := fun e =>
  match o with
  | .ok (.f ds) => .ok (ds, e)
  | .ok (.v _) => .bad
  | .ex x => .ex x e
  | .bad => .bad
def mCallF (F : List PyData → Out Rv) (dds : List PyData) (ms : M (List PyData)) : M (List PyData) := ms.bind fun ds => M.outF (F (ds ++ dds))
theorem retOk_val {K : PySem.W.Frag} {O : Addr → Prop} {H H' : Hp} {r : Rv} {v : V} (hO : ∀ p, O p → H p ≠ none) (h : retOk K O H r v H') : Dq K (hid H' O) v r.d := by
  cases r with
  | v d => exact h
  | f ds =>
    obtain ⟨p, xs, rfl, e, e', a⟩ := h
    exact .lst (hid_some.mpr ⟨fun z => hO p z e, e'⟩) (dpAllUp (hid_less fun a z => .inr z) a)
section
variable {X : Cx} {W : WX} {p pos : Pos} {e : Expr} {es : List Expr} {ms : M (List PyData)} {x : Str} {k : Nat} {f : Addr} {fd : FuncData} {ps : List Str} {F : List PyData → Out Rv} {dvs : List V} {dds : List PyData} {dfs : List Value}
theorem exR_less {mg : Str → Option Value} {K : PySem.W.Frag} {O O' : Addr → Prop} {H : Hp} {x : Ex} {cls : Value} {dd : Option Addr} (h : ∀ a, O' a → O a) (e : ExR mg K (hid H O) H x cls dd) : ExR mg K (hid H O') H x cls dd := by
  obtain ⟨C, h1, h2, h3⟩ := e
  refine ⟨C, h1, h2, fun z => ?_⟩
  obtain ⟨a, vs, e1, e2, e3⟩ := h3 z
  exact ⟨a, vs, e1, hid_less h _ _ e2, dpAllUp (hid_less h) e3⟩
theorem does_call {t : TA} (A : Does (DqAll X.K) X W t ms) (hd : ∀ H, DqAll X.K H dvs dds) : Does (Dq X.K) X W (tCallSD (spP X.K X.mg F) dvs (WE W) t) (mCall F dds ms) :=
  A.bind (rep' := Dq X.K) (k := fun (vs : List V) (σ : L2.St) (H1 : Hp) (Q : VK) => spP X.K X.mg F (vs ++ dvs) H1 Q (WE W σ)) fun H0 B T σ H env Q vs ds R r P => by
    obtain ⟨O, hO⟩ := R.hidden
    have eO := hid_list (H := H) hO
    refine ⟨O, ds ++ dds, fun p hp => R.hdThere ((hO p).mp hp), R.tab, fun p hp => (hO p).mpr (.inl (List.mem_append_right _ hp)), by rw [eO]; exact dpAll_app r (hd _), ?_⟩
    unfold M.out at P
    cases q : F (ds ++ dds) with
    | bad => rw [q] at P; exact P
    | ex x =>
      rw [q] at P
      intro cls dd H' s ex
      refine P cls dd H' (R.growC s).1 (R.growC s).2 ?_
      rw [hid_list hO] at ex
      exact ex
    | ok rv =>
      rw [q] at P
      intro v H' s h
      refine P v H' (R.growC s).1 (R.growC s).2 ?_
      have z := retOk_val (fun p hp => R.hdThere ((hO p).mp hp)) h
      rw [hid_list hO] at z
      exact z
theorem ev_call (G : FnG X.prog X.w X.K X.mg X.base k f fd ps (spP X.K X.mg F)) (hr : Room k X.A) (hgu : X.A.guards = some []) (tk : Takes X W) (hm : X.mg x = some (.ref f)) (hk : PySem.W.keepIn X.K (.ref f) = true) (hb : Binds X.K fd ps dfs) (hv : Vals dvs dfs)
    (hd : ∀ H, DqAll X.K H dvs dds) (ha : EvA X W (e :: es) ms) (hg : Gl X x := by rfl) (hdb : (x == ("__debug__" : Str)) = false := by decide)
    (he : starEach (e :: es) X.env = (false, eval e X.env) :: starEach es X.env := by rfl) (hpl : (backTo pos (starEach es X.env)).any (·.1) = false := by rfl) : Ev X W (.Call (.Name x p) (e :: es) [] pos) (mCall F dds ms) :=
  let ⟨_, q, A⟩ := ha.ex
  ⟨_, pe_callG G hr hgu hg hm hk hb hv (passAt tk) q hdb he hpl, does_call A hd⟩
theorem evf_call (G : FnG X.prog X.w X.K X.mg X.base k f fd ps (spP X.K X.mg F)) (hr : Room k X.A) (hgu : X.A.guards = some []) (tk : Takes X W) (hm : X.mg x = some (.ref f)) (hk : PySem.W.keepIn X.K (.ref f) = true) (hb : Binds X.K fd ps dfs) (hv : Vals dvs dfs)
    (hd : ∀ H, DqAll X.K H dvs dds) (ha : EvA X W (e :: es) ms) (hg : Gl X x := by rfl) (hdb : (x == ("__debug__" : Str)) = false := by decide)
    (he : starEach (e :: es) X.env = (false, eval e X.env) :: starEach es X.env := by rfl) (hpl : (backTo pos (starEach es X.env)).any (·.1) = false := by rfl) : EvF X W (.Call (.Name x p) (e :: es) [] pos) (mCallF F dds ms) := by
  obtain ⟨t, q, A⟩ := ha.ex
  refine ⟨_, pe_callG G hr hgu hg hm hk hb hv (passAt tk) q hdb he hpl, fun H0 B T σ H env Q R P => ?_⟩
  refine A H0 B T σ H env _ R ?_
  unfold mCallF M.bind at P
  cases q1 : ms env with
  | bad => rw [q1] at P; exact P
  | ex x e' => rw [q1] at P; exact P
  | ok pr =>
    obtain ⟨ds, e'⟩ := pr
    rw [q1] at P
    intro vs H1 R1 l1 r
    obtain ⟨O, hO⟩ := R1.hidden
    refine ⟨O, ds ++ dds, fun p hp => R1.hdThere ((hO p).mp hp), R1.tab, fun p hp => (hO p).mpr (.inl (List.mem_append_right _ hp)), by rw [hid_list hO]; exact dpAll_app r (hd _), ?_⟩
    simp only [M.outF] at P
    cases q2 : F (ds ++ dds) with
    | bad => rw [q2] at P; exact P
    | ex x =>
      rw [q2] at P
      intro cls dd H' s ex
      rw [hid_list hO] at ex
      exact P cls dd H' (R1.growC s).1 (l1.trans (R1.growC s).2) ex
    | ok rv =>
      rw [q2] at P
      intro v H' s h
      cases rv with
      | v d => exact P.elim
      | f us =>
        obtain ⟨p, xs, rfl, ep, ep', a⟩ := h
        have hp0 : H p = none := by
          cases z : H p with
          | none => rfl
          | some o => exact absurd ep (l1.there p (by rw [z]; exact fun z => nomatch z))
        obtain ⟨R2, l2⟩ := R1.hideC s ep ep'
        refine P p xs H' hp0 ep' R2 (l1.trans l2) (dpAllUp (hid_less fun a z => ?_) a)
        rcases z with z | z
        · rcases List.mem_cons.mp z with z | z
          · exact .inl z
          · exact .inr ((hO a).mpr (.inl z))
        · exact .inr ((hO a).mpr (.inr z))
end
end Fx
namespace Fx
open PySem PySem.Spec PyProof.Rows L2
variable [Tb] [Fr]

/-! ### a list lent to a def -/
def setOwn (env : Vn) (i : Nat) (cs : List PyData) : Vn :=
  match env[i]? with
  | some (.ow _) => env.set i (.ow cs)
  | some (.bo _) => env.set i (.bo cs)
  | _ => env
def mLend (F : List PyData → List PyData → Out (Rv × List PyData)) (i : Nat) (dds : List PyData) (ms : M (List PyData)) : M PyData := fun env =>
  match slLst env[i]? with
  | none => .bad
  | some _ => (ms.bind fun ds env' =>
    match slLst env'[i]? with
    | none => .bad
    | some cs =>
      match F cs (ds ++ dds) with
      | .ok (r, cs') => .ok (r.d, setOwn env' i cs')
      | _ => .bad) env
section
variable {X : Cx} {W : WX} {p p1 pos : Pos} {es : List Expr} {ms : M (List PyData)} {x y : Str} {k : Nat} {f : Addr} {fd : FuncData} {ps : List Str} {F : List PyData → List PyData → Out (Rv × List PyData)} {dvs : List V} {dds : List PyData} {dfs : List Value}
theorem ev_lend (i : Nat) (G : FnG X.prog X.w X.K X.mg X.base k f fd ps (spB X.K F)) (hr : Room k X.A) (hgu : X.A.guards = some []) (tk : Takes X W) (hm : X.mg x = some (.ref f)) (hk : PySem.W.keepIn X.K (.ref f) = true) (hb : Binds X.K fd ps dfs) (hv : Vals dvs dfs)
    (hd : ∀ H, DqAll X.K H dvs dds) (ha : EvA X W es ms) (hg : Gl X x := by rfl) (hN : X.N[i]? = some y := by rfl) (hvi : Vis X.env.scope y := by first | exact Or.inl rfl | exact Or.inr (Or.inl rfl) | exact Or.inr (Or.inr rfl))
    (hdb : (x == ("__debug__" : Str)) = false := by decide) (hdy : (y == ("__debug__" : Str)) = false := by decide) (hcd : (y == ("__classdict__" : Str)) = false := by decide)
    (he : starEach (.Name y p1 :: es) X.env = (false, eval (.Name y p1) X.env) :: starEach es X.env := by rfl) (hpl : (backTo pos (starEach es X.env)).any (·.1) = false := by rfl) :
    Ev X W (.Call (.Name x p) (.Name y p1 :: es) [] pos) (mLend F i dds ms) := by
  obtain ⟨t, q, A⟩ := ha.ex
  refine ⟨_, pe_callG G hr hgu hg hm hk hb hv (passAt tk) (pa_cons (pe_var hN hvi hdy hcd) q he) hdb he hpl, fun H0 B T σ H env Q R P => ?_⟩
  unfold mLend at P
  cases e : slLst env[i]? with
  | none => rw [e] at P; exact P.elim
  | some ds0 =>
    rw [e] at P
    obtain ⟨pa, _, _, _, e2, _⟩ := R.own_at e
    refine ⟨_, e2, ?_⟩
    refine A H0 B T σ H env _ R ?_
    unfold M.bind at P
    cases e3 : ms env with
    | bad => simp only [e3] at P; exact P
    | ex x e' => simp only [e3] at P; exact P
    | ok pr =>
      obtain ⟨ds, e'⟩ := pr
      simp only [e3] at P
      intro vs H1 R1 l1 r
      cases e4 : slLst e'[i]? with
      | none => rw [e4] at P; exact P.elim
      | some cs =>
        rw [e4] at P
        obtain ⟨p', xs, s, f1, f2, f3, f4, f5, f6⟩ := R1.own_at e4
        rw [e2] at f2
        cases f2
        obtain ⟨L, hL⟩ := R1.hidden
        have hO : ∀ a, (a = pa ∨ a ∈ L.filter (fun z => decide (z ≠ pa))) ↔ Hd T σ e' a := fun a => by
          rw [List.mem_filter, ← hL a]
          constructor
          · rintro (z | ⟨z, _⟩)
            · rw [z]; exact (hL pa).mpr (.inr ⟨i, f6⟩)
            · exact z
          · intro z
            by_cases h : a = pa
            · exact .inl h
            · exact .inr ⟨z, decide_eq_true h⟩
        have eO : ∀ H : Hp, hid H (fun a => a = pa ∨ a ∈ L.filter (fun z => decide (z ≠ pa))) = hid H (Hd T σ e') := fun H => by
          rw [show (fun a => a = pa ∨ a ∈ L.filter (fun z => decide (z ≠ pa))) = Hd T σ e' from funext fun a => propext (hO a)]
        refine ⟨L.filter (fun z => decide (z ≠ pa)), pa, xs, cs, vs ++ dvs, ds ++ dds, rfl, fun q hq => R1.hdThere ((hO q).mp (.inr hq)), R1.tab, fun q hq => List.mem_filter.mpr ⟨(hL q).mpr (.inl (List.mem_append_right _ hq)), decide_eq_true fun z => R1.tab.noL f3 (z ▸ hq)⟩, fun z => ?_, f3, by rw [eO]; exact f4, by rw [eO]; exact dpAll_app r (hd _), ?_⟩
        · exact absurd rfl (of_decide_eq_true (List.mem_filter.mp z).2)
        · cases e5 : F cs (ds ++ dds) with
          | bad => simp only [e5] at P; exact P
          | ex x => simp only [e5] at P; exact P.elim
          | ok pr2 =>
            obtain ⟨rv, cs'⟩ := pr2
            simp only [e5] at P
            intro v H' ys hk' tb' hy hret
            have hret2 : DqAll X.K (hid H' (Hd T σ e')) ys cs' ∧ Dq X.K (hid H' (Hd T σ e')) v rv.d := by
              cases rv with
              | v d =>
                obtain ⟨z1, z2⟩ := hret
                rw [eO] at z1 z2
                exact ⟨z1, z2⟩
              | f us =>
                obtain ⟨q, us', rfl, z0, z1, z2, z3⟩ := hret
                have less : Same (hid H' (fun a => a = q ∨ (a = pa ∨ a ∈ L.filter (fun z => decide (z ≠ pa))))) (hid H' (Hd T σ e')) := hid_less fun a z => .inr ((hO a).mpr z)
                exact ⟨dpAllUp less z2, .lst (hid_some.mpr ⟨fun z => R1.hdThere z z0, z1⟩) (dpAllUp less z3)⟩
            have hs : (∃ es, s = .ow es ∧ setOwn e' i cs' = e'.set i (.ow cs')) ∨ (∃ es, s = .bo es ∧ setOwn e' i cs' = e'.set i (.bo cs')) := by
              unfold setOwn
              rw [f1]
              rcases f5 with z | z
              · subst z; exact .inl ⟨_, rfl, rfl⟩
              · subst z; exact .inr ⟨_, rfl, rfl⟩
            rcases hs with ⟨es', hs1, hs2⟩ | ⟨es', hs1, hs2⟩
            · obtain ⟨R2, l2, h2⟩ := R1.put f1 e2 (.inl ⟨es', hs1, rfl⟩) hk' tb' hy hret2.1
              rw [hs2] at P
              exact P v H' R2 (l1.trans l2) (dpUp (hid_less fun q z => (h2 q).mp z) hret2.2)
            · obtain ⟨R2, l2, h2⟩ := R1.put f1 e2 (.inr ⟨es', hs1, rfl⟩) hk' tb' hy hret2.1
              rw [hs2] at P
              exact P v H' R2 (l1.trans l2) (dpUp (hid_less fun q z => (h2 q).mp z) hret2.2)
end

/-! ### targets -/
theorem wipe_get (σ : L2.St) (j : Nat) : ∀ vs : List Nat, (wipe σ vs)[j]? = if j ∈ vs then (if j < σ.length then some none else none) else σ[j]?
  | [] => by rw [if_neg List.not_mem_nil]; rfl
  | v :: vs => by
    unfold wipe
    by_cases h : j = v
    · subst h
      rw [if_pos List.mem_cons_self]
      by_cases hl : j < σ.length
      · rw [List.getElem?_set_self (by rw [wipe_length]; exact hl), if_pos hl]
      · rw [List.getElem?_eq_none (by rw [List.length_set, wipe_length]; omega), if_neg hl]
    · rw [List.getElem?_set_ne (Ne.symm h), wipe_get σ j vs]
      by_cases hm : j ∈ vs
      · rw [if_pos hm, if_pos (List.mem_cons_of_mem _ hm)]
      · rw [if_neg hm, if_neg fun z => (List.mem_cons.mp z).elim h hm]
theorem wipe_set {σ : L2.St} {i : Nat} {o : Option V} {vs : List Nat} (h : i ∈ vs) : wipe (σ.set i o) vs = wipe σ vs := by
  apply List.ext_getElem?
  intro j
  rw [wipe_get, wipe_get, List.length_set]
  by_cases hj : j ∈ vs
  · rw [if_pos hj, if_pos hj]
  · rw [if_neg hj, if_neg hj, List.getElem?_set_ne]
    rintro rfl
    exact hj h
theorem wipe_wipe (σ : L2.St) (vs : List Nat) : wipe (wipe σ vs) vs = wipe σ vs := by
  apply List.ext_getElem?
  intro j
  rw [wipe_get, wipe_get, wipe_length]
  by_cases hj : j ∈ vs
  · rw [if_pos hj, if_pos hj]
  · rw [if_neg hj, if_neg hj]
structure EvG (X : Cx) (sl : List Nat) (tg : Expr) (g : PyData → Vn → Option Vn) : Prop where
  ex : ∃ t, PG X tg t ∧ ∀ H0 B T σ H env v d env' (Q : L2.St → Hp → Prop), Rel X.K H0 B T σ H env → Dq X.K (hid H (Hd T σ env)) v d → g d env = some env' →
    (∀ σ', Rel X.K H0 B T σ' H env' → Lat (Hd T σ env) H (Hd T σ' env') H → (∀ vs : List Nat, (∀ i ∈ sl, i ∈ vs) → wipe σ' vs = wipe σ vs) → Q σ' H) → t v σ H Q
structure EvGs (X : Cx) (sl : List Nat) (ts : List Expr) (g : List PyData → Vn → Option Vn) : Prop where
  ex : ∃ t, PGs X ts t ∧ ∀ H0 B T σ H env vs ds env' (Q : L2.St → Hp → Prop), Rel X.K H0 B T σ H env → DqAll X.K (hid H (Hd T σ env)) vs ds → g ds env = some env' →
    (∀ σ', Rel X.K H0 B T σ' H env' → Lat (Hd T σ env) H (Hd T σ' env') H → (∀ vs : List Nat, (∀ i ∈ sl, i ∈ vs) → wipe σ' vs = wipe σ vs) → Q σ' H) → t vs σ H Q
def gSet (i : Nat) (d : PyData) (env : Vn) : Option Vn :=
  match env[i]? with
  | some (.bo _) => none
  | some .xc => none
  | some _ => some (env.set i (.va d))
  | none => none
def gsNil (ds : List PyData) (env : Vn) : Option Vn :=
  match ds with
  | [] => some env
  | _ => none
def gsCons (g : PyData → Vn → Option Vn) (gs : List PyData → Vn → Option Vn) (ds : List PyData) (env : Vn) : Option Vn :=
  match ds with
  | d :: r => (g d env).bind (gs r)
  | [] => none
def gUnp (gs : List PyData → Vn → Option Vn) (n : Nat) (d : PyData) (env : Vn) : Option Vn :=
  match d with
  | .tuple ds => if ds.length = n then gs ds env else none
  | _ => none
section
variable {X : Cx} {pos : Pos}
theorem evg_name (i : Nat) {x : Str} (hN : X.N.Nodup) (hi : X.N[i]? = some x := by rfl) (hx : Loc X.env.scope x := by first | exact Or.inl rfl | exact Or.inr rfl) (hf : X.fn x = true ∨ X.env.scope.names.lookup x = some .local := by first | exact .inl rfl | exact .inr rfl) : EvG X [i] (.Name x pos) (gSet i) := by
  refine ⟨_, pg_name hN hi hx hf, fun H0 B T σ H env v d env' Q R h e q => ?_⟩
  unfold gSet at e
  cases e1 : env[i]? with
  | none => rw [e1] at e; cases e
  | some s =>
    rw [e1] at e
    have hs : ∀ ds, s ≠ .bo ds := fun ds z => by rw [z] at e; cases e
    have hx' : s ≠ .xc := fun z => by rw [z] at e; cases e
    have e2 : env' = env.set i (.va d) := by cases s <;> first | (cases e; rfl) | exact absurd rfl (hs _) | exact absurd rfl hx'
    subst e2
    obtain ⟨R2, l⟩ := R.store e1 hs hx' h
    exact q _ R2 l fun vs hv => wipe_set (hv i (by simp))
theorem evgs_nil : EvGs X [] [] gsNil := by
  refine ⟨_, pgs_nil, fun H0 B T σ H env vs ds env' Q R h e q => ?_⟩
  cases h with
  | nil => cases e; exact ⟨rfl, q σ R .refl fun _ _ => rfl⟩
  | cons => cases e
theorem evgs_cons {t : Expr} {ts : List Expr} {sl sl2 : List Nat} {g : PyData → Vn → Option Vn} {gs : List PyData → Vn → Option Vn} (h1 : EvG X sl t g) (h2 : EvGs X sl2 ts gs)
    (hs : (assignEach (t :: ts) X.env).map (·.2) = assign t X.env :: (assignEach ts X.env).map (·.2) := by rfl) : EvGs X (sl ++ sl2) (t :: ts) (gsCons g gs) := by
  obtain ⟨t1, p1, A⟩ := h1.ex
  obtain ⟨t2, p2, C⟩ := h2.ex
  refine ⟨_, pgs_cons p1 p2 hs, fun H0 B T σ H env vs ds env' Q R h e q => ?_⟩
  cases h with
  | nil => cases e
  | cons h a =>
    simp only [gsCons] at e
    obtain ⟨env1, e1, e2⟩ := Option.bind_eq_some_iff.mp e
    refine ⟨_, _, rfl, ?_⟩
    refine A H0 B T σ H env _ _ env1 _ R h e1 fun σ1 R1 l1 w1 => ?_
    exact C H0 B T σ1 H env1 _ _ env' _ R1 (l1.dpA a) e2 fun σ2 R2 l2 w2 => q σ2 R2 (l1.trans l2) fun us hu => (w2 us fun i hi => hu i (List.mem_append_right _ hi)).trans (w1 us fun i hi => hu i (List.mem_append_left _ hi))
theorem evg_tup {es : List Expr} {kk : Nat} {sl : List Nat} {gs : List PyData → Vn → Option Vn} {n : Nat} (hc : X.calm = true) (h : EvGs X sl es gs) (hn : (assignEach es X.env).length = n := by rfl) (hst : (assignEach es X.env).findIdx? (·.1) = none := by rfl) :
    EvG X sl (.Tuple es kk pos) (gUnp gs n) := by
  obtain ⟨t, p, A⟩ := h.ex
  refine ⟨_, pg_tup hc p hn hst, fun H0 B T σ H env v d env' Q R h e q => ?_⟩
  cases h with
  | tup h a =>
    simp only [gUnp] at e
    split at e
    · rename_i hz
      exact ⟨_, _, rfl, seqT_up hid_sub h, (dpAll_len a).trans hz, A H0 B T σ H env _ _ env' Q R a e q⟩
    · cases e
  | _ => cases e
end

/-! ### what is walked -/
structure Yields (K : PySem.W.Frag) (J : It) (ds : List PyData) (O : Addr → Prop) (H : Hp) : Prop where
  go : ∀ (O' : Addr → Prop) (H' : Hp) (i : Nat), Lat O H O' H' → i < ds.length → J.go i H'
  yl : ∀ (O' : Addr → Prop) (H' : Hp) (i : Nat) (d : PyData) (x : V) (H2 : Hp), Lat O H O' H' → (∀ q, O' q → H' q ≠ none) → ds[i]? = some d → J.yld i H' x H2 → Same H' H2 ∧ Dq K (hid H2 O') x d
  st : ∀ (O' : Addr → Prop) (H' : Hp) (i : Nat), Lat O H O' H' → ds.length ≤ i → J.stop i H'
def PostI (X : Cx) (W : WX) (H0 : Hp) (B : List (Nat × Addr)) (T : List (Addr × HO)) (σ : L2.St) (H : Hp) (env : Vn) (R : It → Hp → Prop) : Res (List PyData × Vn) → Prop
  | .bad => False
  | .ok (ds, env') => ∀ J H', Rel X.K H0 B T σ H' env' → Lat (Hd T σ env) H (Hd T σ env') H' → Yields X.K J ds (Hd T σ env') H' → R J H'
  | .ex x env' => PostX X W H0 B T σ H env x env'
structure EvI (X : Cx) (W : WX) (tg e : Expr) (m : M (List PyData)) : Prop where
  ex : ∃ wi, PI X tg e wi ∧ ∀ H0 B T σ H env R, Rel X.K H0 B T σ H env → PostI X W H0 B T σ H env R (m env) → wi σ H R
def itemsD : PyData → Option (List PyData)
  | .list xs => some xs
  | .tuple xs => some xs
  | .dict [(.str "script", .list xs)] => some xs
  | .str z => some (z.cps.toList.map fun c => .str ⟨#[c]⟩)
  | _ => none
def mItems (m : M PyData) : M (List PyData) := m.bind fun d => M.opt (itemsD d)
theorem yields_list {K : PySem.W.Frag} {O : Addr → Prop} {H : Hp} {a : Addr} {xs : List V} {ds : List PyData} (h : SqL K (hid H O) a xs) (r : DqAll K (hid H O) xs ds) : Yields K (Itl K a) ds O H where
  go := fun O' H' i l hi => ⟨xs, xs[i]'(by rw [dpAll_len r]; exact hi), seqL_up (l.same.trans hid_sub) h, by simp⟩
  yl := fun O' H' i d x H2 l ho e y => by
    obtain ⟨rfl, y⟩ := y
    obtain ⟨v, e1, q⟩ := dpAll_get r e
    have z := y xs (seqL_up (l.same.trans hid_sub) h)
    rw [e1] at z
    cases z
    exact ⟨Same.refl _, l.dp q⟩
  st := fun O' H' i l hi => ⟨xs, seqL_up (l.same.trans hid_sub) h, by rw [dpAll_len r]; exact hi⟩
theorem yields_tup {K : PySem.W.Frag} {O : Addr → Prop} {H : Hp} {a : Addr} {xs : List V} {ds : List PyData} (h : SqT K (hid H O) a xs) (r : DqAll K (hid H O) xs ds) : Yields K (Itt K a) ds O H where
  go := fun O' H' i l hi => ⟨xs, xs[i]'(by rw [dpAll_len r]; exact hi), seqT_up (l.same.trans hid_sub) h, by simp⟩
  yl := fun O' H' i d x H2 l ho e y => by
    obtain ⟨rfl, y⟩ := y
    obtain ⟨v, e1, q⟩ := dpAll_get r e
    have z := y xs (seqT_up (l.same.trans hid_sub) h)
    rw [e1] at z
    cases z
    exact ⟨Same.refl _, l.dp q⟩
  st := fun O' H' i l hi => ⟨xs, seqT_up (l.same.trans hid_sub) h, by rw [dpAll_len r]; exact hi⟩
theorem yields_str {K : PySem.W.Frag} {O : Addr → Prop} {H : Hp} {z : Str} : Yields K (Its z) (z.cps.toList.map fun c => .str ⟨#[c]⟩) O H where
  go := fun O' H' i l hi => by
    show i < z.cps.size
    simpa using hi
  yl := fun O' H' i d x H2 l ho e y => by
    obtain ⟨rfl, c, ec, rfl⟩ := y
    rw [List.getElem?_map, Array.getElem?_toList, ec] at e
    cases e
    exact ⟨Same.refl _, .str _⟩
  st := fun O' H' i l hi => by
    show z.cps.size ≤ i
    simpa using hi
def rngD (lo : Int) (n : Nat) : List PyData := (List.range n).map fun i => .int (lo + (i : Nat))
theorem yields_rng {K : PySem.W.Frag} {O : Addr → Prop} {H : Hp} {lo : Int} {n : Nat} : Yields K (Itr lo n) (rngD lo n) O H where
  go := fun O' H' i l hi => by
    show i < n
    simpa [rngD] using hi
  yl := fun O' H' i d x H2 l ho e y => by
    obtain ⟨rfl, rfl⟩ := y
    unfold rngD at e
    rw [List.getElem?_map] at e
    obtain ⟨j, e1, rfl⟩ := Option.map_eq_some_iff.mp e
    obtain ⟨hj, e2⟩ := List.getElem?_eq_some_iff.mp e1
    rw [List.getElem_range] at e2
    subst e2
    exact ⟨Same.refl _, .int _⟩
  st := fun O' H' i l hi => by
    show n ≤ i
    simpa [rngD] using hi
def mRng1 (m : M PyData) : M (List PyData) := m.bind fun d =>
  match d with
  | .int j => if -1000000 ≤ j ∧ j ≤ 1000000 then M.ret (rngD 0 j.toNat) else fun _ => .bad
  | _ => fun _ => .bad
def zipD : List PyData → List PyData → List PyData
  | x :: xs, y :: ys => .tuple [x, y] :: zipD xs ys
  | _, _ => []
def gZip : List PyData → Option (List PyData)
  | [.list xs, .list ys] => some (zipD xs ys)
  | [.tuple xs, .tuple ys] => some (zipD xs ys)
  | _ => none
theorem zipD_len : ∀ (xs ys : List PyData), (zipD xs ys).length = min xs.length ys.length
  | [], _ => by simp [zipD]
  | _ :: _, [] => by simp [zipD]
  | x :: xs, y :: ys => by simp only [zipD, List.length_cons, zipD_len xs ys]; omega
theorem zipD_get : ∀ (xs ys : List PyData) (i : Nat), (zipD xs ys)[i]? = (xs[i]?).bind fun x => (ys[i]?).map fun y => .tuple [x, y]
  | [], _, i => by simp [zipD]
  | x :: _, [], i => by simp [zipD]
  | x :: xs, y :: ys, 0 => by simp [zipD]
  | x :: xs, y :: ys, i + 1 => by simp only [zipD, List.getElem?_cons_succ]; exact zipD_get xs ys i
section
variable {X : Cx} {W : WX} {tg e e2 : Expr} {p pos tpos : Pos} {m : M PyData} {elts : List Expr} {kk : Nat}
theorem evi_val (h : Ev X W e m) : EvI X W tg e (mItems m) := by
  obtain ⟨t, q, A⟩ := h.ex
  refine ⟨fun σ H R => iList X.K t σ H R ∨ iTup X.K t σ H R ∨ iStr t σ H R, ⟨fun pins s σ H R I h => h.elim (fun h => (pi_list q).run pins s σ H R I h) fun h => h.elim (fun h => (pi_tup q).run pins s σ H R I h) fun h => (pi_str q).run pins s σ H R I h⟩, fun H0 B T σ H env R0 R P => ?_⟩
  unfold mItems M.bind at P
  cases e1 : m env with
  | bad => rw [e1] at P; exact P.elim
  | ex x e' =>
    rw [e1] at P
    exact .inl (A H0 B T σ H env _ R (by rw [e1]; exact P))
  | ok pr =>
    obtain ⟨d, e'⟩ := pr
    rw [e1] at P
    simp only [M.opt] at P
    cases d with
    | list ds =>
      refine .inl (A H0 B T σ H env _ R ?_)
      rw [e1]
      intro v H' R' l r
      cases r with
      | lst h a => exact ⟨_, rfl, ⟨_, .inl (.inl (hid_sub _ _ h))⟩, P _ H' R' l (yields_list (.inl (.inl h)) a)⟩
    | tuple ds =>
      refine .inr (.inl (A H0 B T σ H env _ R ?_))
      rw [e1]
      intro v H' R' l r
      cases r with
      | tup h a => exact ⟨_, rfl, ⟨_, seqT_up hid_sub h⟩, P _ H' R' l (yields_tup h a)⟩
    | str z =>
      refine .inr (.inr (A H0 B T σ H env _ R ?_))
      rw [e1]
      intro v H' R' l r
      cases r
      exact ⟨_, rfl, P _ H' R' l yields_str⟩
    | dict kvs =>
      refine .inl (A H0 B T σ H env _ R ?_)
      rw [e1]
      intro v H' R' l r
      cases r with
      | scr h a => exact ⟨_, rfl, ⟨_, seqL_up hid_sub h⟩, P _ H' R' l (yields_list h a)⟩
      | dct0 h => exact P.elim
      | dct1 _ h => exact P.elim
    | _ => exact P.elim
theorem evi_rng1 (hm : X.mg "range" = none) (h : Ev X W e m) (hg : Gl X "range" := by rfl) (hs : starEach [e] X.env = [(false, eval e X.env)] := by rfl) : EvI X W tg (.Call (.Name "range" p) [e] [] pos) (mRng1 m) := by
  obtain ⟨t, q, A⟩ := h.ex
  refine ⟨_, pi_range1 hg hm (pa_cons q pa_nil hs) hs, fun H0 B T σ H env R0 R P => ?_⟩
  refine A H0 B T σ H env _ R ?_
  unfold mRng1 M.bind at P
  cases e1 : m env with
  | bad => rw [e1] at P; exact P.elim
  | ex x e' => rw [e1] at P; exact P
  | ok pr =>
    obtain ⟨d, e'⟩ := pr
    rw [e1] at P
    intro v H' R' l r
    cases d with
    | int j =>
      cases r
      simp only at P
      split at P
      · rename_i hj
        exact ⟨j, rfl, by omega, by omega, P _ H' R' l yields_rng⟩
      · exact P.elim
    | _ => exact P.elim
theorem evi_zip {ms : M (List PyData)} (hm : X.mg "zip" = none) (h : EvA X W [e, e2] ms) (hg : Gl X "zip" := by rfl) (hs : starEach [e, e2] X.env = (false, eval e X.env) :: starEach [e2] X.env := by rfl)
    (hpl : (backTo pos (starEach [e2] X.env)).any (·.1) = false := by rfl) : EvI X W (.Tuple elts kk tpos) (.Call (.Name "zip" p) [e, e2] [] pos) (ms.bind fun ds => M.opt (gZip ds)) := by
  obtain ⟨t, q, A⟩ := h.ex
  refine ⟨_, RZ.pi_zipA hg hm q hs hpl, fun H0 B T σ H env R0 R P => ?_⟩
  refine A H0 B T σ H env _ R ?_
  unfold M.bind at P
  cases e1 : ms env with
  | bad => rw [e1] at P; exact P.elim
  | ex x e' => rw [e1] at P; exact P
  | ok pr =>
    obtain ⟨ds, e'⟩ := pr
    rw [e1] at P
    intro vs H' R' l r
    simp only [M.opt] at P
    have pair : ∀ {O2 : Addr → Prop} {H2 : Hp} {T2 : Addr} {x y : V} {d1 d2 : PyData}, (∀ q, O2 q → H2 q ≠ none) → H2 T2 = none → Dq X.K (hid H2 O2) x d1 → Dq X.K (hid H2 O2) y d2 → Same H2 (upd H2 T2 (.tup [x, y])) ∧ Dq X.K (hid (upd H2 T2 (.tup [x, y])) O2) (.ref T2) (.tuple [d1, d2]) := fun ho hn h1 h2 =>
      ⟨same_new hn, tup_new ho hn (.cons h1 (.cons h2 .nil))⟩
    cases r with
    | nil => exact P.elim
    | cons h1 r =>
      cases r with
      | nil => cases h1 <;> exact P.elim
      | cons h2 r =>
        cases r with
        | cons => cases h1 <;> cases h2 <;> exact P.elim
        | nil =>
          cases h1 with
          | @lst a xs d1 ha a1 =>
            cases h2 with
            | @lst b ys d2 hb a2 =>
              refine ⟨_, _, _, _, rfl, .inl ⟨.inl (.inl (hid_sub _ _ ha)), .inl (.inl (hid_sub _ _ hb)), P _ H' R' l ⟨fun O' H2 i l2 hi => ?_, fun O' H2 i d x H3 l2 ho e y => ?_, fun O' H2 i l2 hi => ?_⟩⟩⟩
              · rw [zipD_len] at hi
                exact ⟨xs, ys, xs[i]'(by rw [dpAll_len a1]; omega), ys[i]'(by rw [dpAll_len a2]; omega), .inl (.inl (hid_sub _ _ (l2.same _ _ ha))), .inl (.inl (hid_sub _ _ (l2.same _ _ hb))), by simp, by simp⟩
              · obtain ⟨T2, x1, x2, rfl, hn, rfl, y1, y2⟩ := y
                rw [zipD_get] at e
                obtain ⟨d3, e3, e4⟩ := Option.bind_eq_some_iff.mp e
                obtain ⟨d4, e5, rfl⟩ := Option.map_eq_some_iff.mp e4
                obtain ⟨v1, f1, g1⟩ := dpAll_get a1 e3
                obtain ⟨v2, f2, g2⟩ := dpAll_get a2 e5
                have z1 := y1 xs (.inl (.inl (hid_sub _ _ (l2.same _ _ ha))))
                have z2 := y2 ys (.inl (.inl (hid_sub _ _ (l2.same _ _ hb))))
                rw [f1] at z1
                rw [f2] at z2
                cases z1
                cases z2
                exact pair ho hn (l2.dp g1) (l2.dp g2)
              · rw [zipD_len] at hi
                exact ⟨xs, ys, .inl (.inl (hid_sub _ _ (l2.same _ _ ha))), .inl (.inl (hid_sub _ _ (l2.same _ _ hb))), by rw [dpAll_len a1, dpAll_len a2]; omega⟩
            | _ => exact P.elim
          | @tup a xs d1 ha a1 =>
            cases h2 with
            | @tup b ys d2 hb a2 =>
              have up : ∀ {O' : Addr → Prop} {H2 : Hp} {c : Addr} {zs : List V}, Lat (Hd T σ e') H' O' H2 → SqT X.K (hid H' (Hd T σ e')) c zs → SqT X.K H2 c zs := fun l2 h => seqT_up (l2.same.trans hid_sub) h
              refine ⟨_, _, _, _, rfl, .inr ⟨seqT_up hid_sub ha, seqT_up hid_sub hb, P _ H' R' l ⟨fun O' H2 i l2 hi => ?_, fun O' H2 i d x H3 l2 ho e y => ?_, fun O' H2 i l2 hi => ?_⟩⟩⟩
              · rw [zipD_len] at hi
                exact ⟨xs, ys, xs[i]'(by rw [dpAll_len a1]; omega), ys[i]'(by rw [dpAll_len a2]; omega), up l2 ha, up l2 hb, by simp, by simp⟩
              · obtain ⟨T2, x1, x2, rfl, hn, rfl, y1, y2⟩ := y
                rw [zipD_get] at e
                obtain ⟨d3, e3, e4⟩ := Option.bind_eq_some_iff.mp e
                obtain ⟨d4, e5, rfl⟩ := Option.map_eq_some_iff.mp e4
                obtain ⟨v1, f1, g1⟩ := dpAll_get a1 e3
                obtain ⟨v2, f2, g2⟩ := dpAll_get a2 e5
                have z1 := y1 xs (up l2 ha)
                have z2 := y2 ys (up l2 hb)
                rw [f1] at z1
                rw [f2] at z2
                cases z1
                cases z2
                exact pair ho hn (l2.dp g1) (l2.dp g2)
              · rw [zipD_len] at hi
                exact ⟨xs, ys, up l2 ha, up l2 hb, by rw [dpAll_len a1, dpAll_len a2]; omega⟩
            | _ => exact P.elim
          | _ => cases h2 <;> exact P.elim
end
end Fx
namespace Fx
open PySem PySem.Spec PyProof.Rows L2
variable [Tb] [Fr]

/-! ### one reading for all contexts of the same written part -/
abbrev WN : WX := fun _ _ _ _ => False
theorem takes_no {X : Cx} : Takes X WN := fun u s' ⟨_, _, _, _, _, _, _, _, _, _, _, _, _, _, _, _, z⟩ => z.elim
def canon {γ α : Type} (rep : Hp → γ → α → Prop) (X : Cx) (W : WX) (m : M α) : Tr γ := fun σ H Q => ∃ H0 B T env, Rel X.K H0 B T σ H env ∧ Post rep X W H0 B T σ H env Q (m env)
theorem Ev.pe {X : Cx} {W : WX} {e : Expr} {m : M PyData} (h : Ev X W e m) : PE X e (canon (Dq X.K) X W m) :=
  let ⟨_, p, A⟩ := h.ex
  ⟨fun pins s σ H Q I ⟨H0, B, T, env, R, P⟩ => p.run pins s σ H Q I (A H0 B T σ H env Q R P)⟩
def canonG (X : Cx) (sl : List Nat) (g : PyData → Vn → Option Vn) : TG := fun v σ H Q => ∃ H0 B T env d env', Rel X.K H0 B T σ H env ∧ Dq X.K (hid H (Hd T σ env)) v d ∧ g d env = some env' ∧
  ∀ σ', Rel X.K H0 B T σ' H env' → Lat (Hd T σ env) H (Hd T σ' env') H → (∀ vs : List Nat, (∀ i ∈ sl, i ∈ vs) → wipe σ' vs = wipe σ vs) → Q σ' H
theorem EvG.pg {X : Cx} {sl : List Nat} {tg : Expr} {g : PyData → Vn → Option Vn} (h : EvG X sl tg g) : PG X tg (canonG X sl g) :=
  let ⟨_, p, A⟩ := h.ex
  ⟨fun pins s σ H v u Q I r ⟨H0, B, T, env, d, env', R, q, e, f⟩ => p.run pins s σ H v u Q I r (A H0 B T σ H env v d env' Q R q e f)⟩
structure EvTs (X : Cx) (W : WX) (ifs : List Expr) (m : M Bool) : Prop where
  pts : PTs X ifs (canon eqRep X W m)
theorem evts_nil {X : Cx} {W : WX} : EvTs X W [] (M.ret true) := ⟨⟨fun pins s σ H Q I ⟨H0, B, T, env, R, P⟩ => pts_nil.run pins s σ H Q I (P _ H R .refl rfl)⟩⟩
theorem evts_one {X : Cx} {W : WX} {c : Expr} {m : M Bool} (h : EvT X W c m) : EvTs X W [c] m :=
  let ⟨_, p, A⟩ := h.ex
  ⟨⟨fun pins s σ H Q I ⟨H0, B, T, env, R, P⟩ => (pts_one p).run pins s σ H Q I (A H0 B T σ H env Q R P)⟩⟩

/-! ### a comprehension's own names -/
def ownFree (env : Vn) (vs : List Nat) : Bool := vs.all fun i =>
  match env[i]? with
  | some (.va _) => true
  | some .no => true
  | _ => false
def wipeE (env : Vn) : List Nat → Vn
  | [] => env
  | v :: vs => (wipeE env vs).set v .no
def backE (env0 env : Vn) : List Nat → Vn
  | [] => env
  | v :: vs => (backE env0 env vs).set v ((env0[v]?).getD .no)
theorem ownFree_at {env : Vn} {vs : List Nat} (h : ownFree env vs = true) {i : Nat} (hi : i ∈ vs) : ∃ s, env[i]? = some s ∧ ¬ isOw s ∧ s ≠ .xc := by
  have z := List.all_eq_true.mp h i hi
  cases e : env[i]? with
  | none => rw [e] at z; cases z
  | some s =>
    rw [e] at z
    cases s with
    | no => exact ⟨_, rfl, id, fun z => nomatch z⟩
    | va d => exact ⟨_, rfl, id, fun z => nomatch z⟩
    | xc => cases z
    | ow ds => cases z
    | bo ds => cases z
theorem wipeE_len (env : Vn) : ∀ vs : List Nat, (wipeE env vs).length = env.length
  | [] => rfl
  | v :: vs => by unfold wipeE; rw [List.length_set, wipeE_len env vs]
theorem wipeE_in {env : Vn} {j : Nat} (hl : j < env.length) : ∀ {vs : List Nat}, j ∈ vs → (wipeE env vs)[j]? = some .no
  | [], h => by cases h
  | v :: vs, h => by
    unfold wipeE
    by_cases e : j = v
    · subst e
      rw [List.getElem?_set_self (by rw [wipeE_len]; exact hl)]
    · rw [List.getElem?_set_ne (Ne.symm e)]
      exact wipeE_in hl ((List.mem_cons.mp h).resolve_left e)
theorem wipeE_out {env : Vn} {j : Nat} : ∀ {vs : List Nat}, j ∉ vs → (wipeE env vs)[j]? = env[j]?
  | [], _ => rfl
  | v :: vs, h => by
    unfold wipeE
    rw [List.getElem?_set_ne (fun e => h (by rw [← e]; exact List.mem_cons_self))]
    exact wipeE_out fun z => h (List.mem_cons_of_mem _ z)
theorem backE_len (env0 env : Vn) : ∀ vs : List Nat, (backE env0 env vs).length = env.length
  | [] => rfl
  | v :: vs => by unfold backE; rw [List.length_set, backE_len env0 env vs]
theorem backE_in {env0 env : Vn} {j : Nat} (hl : j < env.length) : ∀ {vs : List Nat}, j ∈ vs → (backE env0 env vs)[j]? = some ((env0[j]?).getD .no)
  | [], h => by cases h
  | v :: vs, h => by
    unfold backE
    by_cases e : j = v
    · subst e
      rw [List.getElem?_set_self (by rw [backE_len]; exact hl)]
    · rw [List.getElem?_set_ne (Ne.symm e)]
      exact backE_in hl ((List.mem_cons.mp h).resolve_left e)
theorem backE_out {env0 env : Vn} {j : Nat} : ∀ {vs : List Nat}, j ∉ vs → (backE env0 env vs)[j]? = env[j]?
  | [], _ => rfl
  | v :: vs, h => by
    unfold backE
    rw [List.getElem?_set_ne (fun e => h (by rw [← e]; exact List.mem_cons_self))]
    exact backE_out fun z => h (List.mem_cons_of_mem _ z)
section
variable {K : PySem.W.Frag} {H0 H H' : Hp} {B : List (Nat × Addr)} {T T' : List (Addr × HO)} {σ : L2.St} {env env0 : Vn}
/-- the own names' slots are taken out -/
theorem Rel.wipes (R : Rel K H0 B T σ H env) {vs : List Nat} (h : ownFree env vs = true) : Rel K H0 B T (wipe σ vs) H (wipeE env vs) ∧ ∀ q, Hd T (wipe σ vs) (wipeE env vs) q ↔ Hd T σ env q := by
  induction vs with
  | nil => exact ⟨R, fun q => Iff.rfl⟩
  | cons v vs ih =>
    have h1 : ownFree env vs = true := by
      unfold ownFree at h ⊢
      rw [List.all_cons, Bool.and_eq_true] at h
      exact h.2
    obtain ⟨s, e, w, wx⟩ := ownFree_at h (i := v) List.mem_cons_self
    obtain ⟨R1, hd1⟩ := ih h1
    have e2 : ∃ t, (wipeE env vs)[v]? = some t ∧ ¬ isOw t ∧ t ≠ .xc := by
      by_cases hv : v ∈ vs
      · exact ⟨_, wipeE_in (List.getElem?_eq_some_iff.mp e).1 hv, id, fun z => nomatch z⟩
      · exact ⟨s, by rw [wipeE_out hv]; exact e, w, wx⟩
    obtain ⟨t, e3, w3, x3⟩ := e2
    obtain ⟨R2, hd2⟩ := R1.forget e3 w3 x3 none
    exact ⟨R2, fun q => (hd2 q).trans (hd1 q)⟩
/-- .. and put back -/
theorem Rel.back {vs : List Nat} (R0 : Rel K H0 B T σ H env0) (h0 : ownFree env0 vs = true) (hl : env.length = env0.length) (R : Rel K H0 B T' (wipe σ vs) H' (wipeE env vs)) (L : Lat (Hd T σ env0) H (Hd T' (wipe σ vs) (wipeE env vs)) H') :
    Rel K H0 B T' σ H' (backE env0 env vs) ∧ ∀ q, Hd T' σ (backE env0 env vs) q ↔ Hd T' (wipe σ vs) (wipeE env vs) q := by
  have at' : ∀ j q, OwnAt σ (backE env0 env vs) j q ↔ OwnAt (wipe σ vs) (wipeE env vs) j q := fun j q => by
    by_cases hj : j ∈ vs
    · obtain ⟨s, e, w, wx⟩ := ownFree_at h0 hj
      have lj : j < env.length := by rw [hl]; exact (List.getElem?_eq_some_iff.mp e).1
      constructor
      · rintro ⟨t, e1, wt, _⟩
        rw [backE_in lj hj, e] at e1
        cases e1
        exact (w wt).elim
      · rintro ⟨t, e1, wt, _⟩
        rw [wipeE_in lj hj] at e1
        cases e1
        exact wt.elim
    · unfold OwnAt
      rw [backE_out hj, wipeE_out hj, wipe_get, if_neg hj]
  have hd : ∀ q, Hd T' σ (backE env0 env vs) q ↔ Hd T' (wipe σ vs) (wipeE env vs) q := fun q => by
    unfold Hd
    constructor
    · rintro (z | ⟨j, z⟩)
      · exact .inl z
      · exact .inr ⟨j, (at' j q).mp z⟩
    · rintro (z | ⟨j, z⟩)
      · exact .inl z
      · exact .inr ⟨j, (at' j q).mpr z⟩
  have eh : Hd T' σ (backE env0 env vs) = Hd T' (wipe σ vs) (wipeE env vs) := funext fun q => propext (hd q)
  have lw := wipe_length σ vs
  refine ⟨⟨by rw [backE_len, hl]; exact R0.len, fun j s e => ?_, fun j k q a b => R.inj j k q ((at' j q).mp a) ((at' k q).mp b), fun j q a => R.dis j q ((at' j q).mp a), R.th, fun j q a => R.own j q ((at' j q).mp a), R.keep, fun b hb => ?_, R.tab, R.tnc, fun c hc => ⟨(R0.fsl c hc).1, ?_⟩, by rw [eh]; exact R.finv⟩, hd⟩
  · rw [eh]
    by_cases hj : j ∈ vs
    · obtain ⟨t, e1, w, wx⟩ := ownFree_at h0 hj
      have lj : j < env.length := by rw [hl]; exact (List.getElem?_eq_some_iff.mp e1).1
      rw [backE_in lj hj, e1] at e
      cases e
      exact (R0.sl j t e1).up L fun p xs e2 wt z => (w wt).elim
    · rw [backE_out hj] at e
      have z := R.sl j s (by rw [wipeE_out hj]; exact e)
      rw [wipe_get, if_neg hj] at z
      exact z
  · obtain ⟨⟨es, e1⟩, e2⟩ := R.bor b hb
    have hj : b.1 ∉ vs := fun hj => by
      obtain ⟨t, e3, w⟩ := ownFree_at h0 hj
      rw [wipeE_in (by rw [hl]; exact (List.getElem?_eq_some_iff.mp e3).1) hj] at e1
      cases e1
    rw [wipeE_out hj] at e1
    rw [wipe_get, if_neg hj] at e2
    rw [backE_out hj]
    exact ⟨⟨es, e1⟩, e2⟩
  · have hj : c.1 ∉ vs := fun hj => by
      obtain ⟨s, e, w, wx⟩ := ownFree_at h0 hj
      rw [(R0.fsl c hc).2] at e
      exact wx (Option.some.inj e).symm
    have z := (R.fsl c hc).2
    rw [wipeE_out hj] at z
    rw [backE_out hj]
    exact z
end

/-! ### comprehensions -/
def turnC (vs : List Nat) (g : PyData → Vn → Option Vn) (tt : M Bool) (el : M PyData) (d : PyData) : M (Option PyData) := fun env =>
  if ownFree env vs = true then
    match g d (wipeE env vs) with
    | none => .bad
    | some e1 => (tt.bind fun b => if b = true then el.bind fun y => M.ret (some y) else M.ret none) e1
  else .bad
def loopC (vs : List Nat) (g : PyData → Vn → Option Vn) (tt : M Bool) (el : M PyData) : List PyData → M (List PyData)
  | [] => M.ret []
  | d :: ds => (turnC vs g tt el d).bind fun o => (loopC vs g tt el ds).bind fun ys => M.ret (o.toList ++ ys)
def mComp (vs : List Nat) (g : PyData → Vn → Option Vn) (tt : M Bool) (el : M PyData) (its : M (List PyData)) : M (List PyData) := its.bind fun ds env1 =>
  match loopC vs g tt el ds env1 with
  | .ok (ys, e2) => if ds.length ≤ 100000 ∧ ownFree env1 vs = true ∧ ownFree e2 vs = true ∧ e2.length = env1.length then .ok (ys, backE env1 e2 vs) else .bad
  | _ => .bad
theorem M.bind_ok {α β : Type} {m : M α} {f : α → M β} {env : Vn} {r : β × Vn} (h : M.bind m f env = .ok r) : ∃ a e, m env = .ok (a, e) ∧ f a e = .ok r := by
  unfold M.bind at h
  cases q : m env with
  | bad => rw [q] at h; cases h
  | ex x e => rw [q] at h; cases h
  | ok p => obtain ⟨a, e⟩ := p; rw [q] at h; exact ⟨a, e, rfl, h⟩
section
variable {X : Cx} {W : WX}
theorem does_comp {wi : TI} {vs sl : List Nat} {g : PyData → Vn → Option Vn} {tt : M Bool} {el : M PyData} {its : M (List PyData)} (hsl : ∀ i ∈ sl, i ∈ vs)
    (A : ∀ H0 B T σ H env R, Rel X.K H0 B T σ H env → PostI X W H0 B T σ H env R (its env) → wi σ H R) :
    DoesF X W (tLc wi (canonG X sl g) (canon eqRep X WN tt) (canon (Dq X.K) X WN el) vs) (mComp vs g tt el its) := by
  intro H0 B T σ H env Q R P
  refine A H0 B T σ H env _ R ?_
  unfold mComp M.bind at P
  cases q0 : its env with
  | bad => rw [q0] at P; exact P
  | ex x e' => rw [q0] at P; exact P
  | ok pr =>
    obtain ⟨ds, e1⟩ := pr
    rw [q0] at P
    simp only at P
    cases q1 : loopC vs g tt el ds e1 with
    | bad => rw [q1] at P; exact P.elim
    | ex x e' => rw [q1] at P; exact P.elim
    | ok pr2 =>
      obtain ⟨total, eF⟩ := pr2
      rw [q1] at P
      simp only at P
      by_cases hz : ds.length ≤ 100000 ∧ ownFree e1 vs = true ∧ ownFree eF vs = true ∧ eF.length = e1.length
      · rw [if_pos hz] at P
        obtain ⟨hz1, hz2, hz3, hz4⟩ := hz
        intro J H1 R1 l1 Y D hD
        have h0D := R1.new0 hD
        have hDT : D ∉ ThA T := fun z => R1.hdThere (.inl z) hD
        have hDo : H D = none := by
          cases z : H D with
          | none => rfl
          | some o => exact absurd hD (l1.there D (by rw [z]; exact fun z => nomatch z))
        obtain ⟨R2, l2⟩ := R1.hide (same_new (o := .lst []) hD) hD upd_same
        let Iv : Nat → Hp → Prop := fun i H' => ∃ (en : Vn) (av : List V) (ad ys : List PyData), ownFree en vs = true ∧ Rel X.K H0 B ((D, .lst av) :: T) (wipe σ vs) H' (wipeE en vs) ∧ Lat (Hd T σ e1) H1 (Hd ((D, .lst av) :: T) (wipe σ vs) (wipeE en vs)) H' ∧
            DqAll X.K (hid H' (Hd ((D, .lst av) :: T) (wipe σ vs) (wipeE en vs))) av ad ∧ ad.length ≤ i ∧ loopC vs g tt el (ds.drop i) en = .ok (ys, eF) ∧ ad ++ ys = total
        refine ⟨fun i m H' => m = ds.length - i ∧ i ≤ ds.length ∧ Iv i H', ⟨ds.length, rfl, Nat.zero_le _, e1, [], [], total, hz2, ?_⟩, ?_⟩
        · obtain ⟨R3, h3⟩ := R2.wipes hz2
          exact ⟨R3, l2.trans (Lat.less fun a z => (h3 a).mp z), .nil, Nat.zero_le _, by simpa using q1, rfl⟩
        · rintro i m H' ⟨rfl, hi, en, av, ad, ys, w1, R3, l3, hdq, hlen, hlo, htot⟩
          by_cases hlt : i < ds.length
          · refine .inr ⟨Y.go _ _ i l3 hlt, Iv (i + 1), fun H4 n4 => ⟨ds.length - (i + 1), by omega, rfl, hlt, n4⟩, fun x H4 hy => ?_⟩
            have ed : ds.drop i = ds[i] :: ds.drop (i + 1) := (List.drop_eq_getElem_cons hlt)
            rw [ed] at hlo
            obtain ⟨s4, q4⟩ := Y.yl _ _ i ds[i] x H4 l3 (fun q z => R3.hdThere z) (by simp) hy
            have R4 := R3.grow s4
            have l4 : Lat (Hd ((D, .lst av) :: T) (wipe σ vs) (wipeE en vs)) H' (Hd ((D, .lst av) :: T) (wipe σ vs) (wipeE en vs)) H4 := .of s4
            obtain ⟨o, e5, t5, r5⟩ := M.bind_ok hlo
            obtain ⟨ys', e6, t6, r6⟩ := M.bind_ok r5
            cases r6
            have free5 : ownFree e5 vs = true := by
              cases q9 : ds.drop (i + 1) with
              | nil =>
                rw [q9] at t6
                cases t6
                exact hz3
              | cons d9 r9 =>
                rw [q9] at t6
                obtain ⟨o9, e10, t10, _⟩ := M.bind_ok t6
                unfold turnC at t10
                split at t10
                · assumption
                · cases t10
            unfold turnC at t5
            rw [if_pos w1] at t5
            cases q5 : g ds[i] (wipeE en vs) with
            | none => rw [q5] at t5; cases t5
            | some e7 =>
              rw [q5] at t5
              refine ⟨H0, B, (D, .lst av) :: T, wipeE en vs, ds[i], e7, R4, q4, q5, fun σ7 R7 l7 w7 => ?_⟩
              have hw7 : wipe σ7 vs = wipe σ vs := (w7 vs hsl).trans (wipe_wipe σ vs)
              refine ⟨hw7.trans (wipe_wipe σ vs).symm |>.trans (wipe_wipe σ vs), ?_⟩
              obtain ⟨b, e8, t8, r8⟩ := M.bind_ok t5
              refine ⟨H0, B, (D, .lst av) :: T, e7, R7, ?_⟩
              rw [t8]
              intro b' H8 R8 l8 eb
              have eb' : b' = b := eb
              subst eb'
              have l38 := ((l3.trans l4).trans l7).trans l8
              have l8' := (l4.trans l7).trans l8
              cases b' with
              | false =>
                rw [if_neg (by decide)] at r8 ⊢
                cases r8
                obtain ⟨R10, h10⟩ := R8.wipes free5
                rw [hw7] at R10 h10
                have l10 : Lat (Hd ((D, .lst av) :: T) σ7 e5) H8 (Hd ((D, .lst av) :: T) (wipe σ vs) (wipeE e5 vs)) H8 := Lat.less fun a z => (h10 a).mp z
                exact ⟨e5, av, ad, ys', free5, R10, l38.trans l10, (l8'.trans l10).dpA hdq, Nat.le_succ_of_le hlen, t6, by simpa using htot⟩
              | true =>
                rw [if_pos rfl] at r8 ⊢
                obtain ⟨y, e9, t9, r9⟩ := M.bind_ok r8
                cases r9
                refine ⟨H0, B, (D, .lst av) :: T, e8, R8, ?_⟩
                rw [t9]
                intro yv H9 R9 l9 ry
                refine ⟨av, R9.th _ List.mem_cons_self, by rw [dpAll_len hdq, sizeLine_eq]; omega, ?_⟩
                obtain ⟨R11, l11⟩ := R9.retop (o' := .lst (av ++ [yv])) hDT h0D
                obtain ⟨R10, h10⟩ := R11.wipes free5
                rw [hw7] at R10 h10
                have l10 : Lat (Hd ((D, .lst (av ++ [yv])) :: T) σ7 e5) (upd H9 D (.lst (av ++ [yv]))) (Hd ((D, .lst (av ++ [yv])) :: T) (wipe σ vs) (wipeE e5 vs)) (upd H9 D (.lst (av ++ [yv]))) := Lat.less fun a z => (h10 a).mp z
                have l12 := l11.trans l10
                exact ⟨e5, av ++ [yv], ad ++ [y], ys', free5, R10, (l38.trans l9).trans l12, dpAll_app (((l8'.trans l9).trans l12).dpA hdq) (l12.dpA (.cons ry .nil)), by rw [List.length_append]; exact Nat.succ_le_succ hlen, t6, by rw [List.append_assoc]; exact htot⟩
          · have ei : i = ds.length := by omega
            refine .inl ⟨Y.st _ _ i l3 (by omega), ?_⟩
            rw [ei, List.drop_length] at hlo
            cases hlo
            rw [List.append_nil] at htot
            obtain ⟨R5, h5⟩ := Rel.back R1 hz2 hz4 R3 l3
            have l5 : Lat (Hd ((D, .lst av) :: T) (wipe σ vs) (wipeE eF vs)) H' (Hd ((D, .lst av) :: T) σ (backE e1 eF vs)) H' := Lat.less fun a z => (h5 a).mp z
            rw [← htot] at P
            exact P D av H' hDo (R3.th _ List.mem_cons_self) R5 ((l1.trans l3).trans l5) (l5.dpA hdq)
      · rw [if_neg hz] at P
        exact P.elim
theorem evf_lc {tg iter elt : Expr} {ifs : List Expr} {scope : Scope} {own : List (Str × Nat)} {pos : Pos} {sl : List Nat} {g : PyData → Vn → Option Vn} {tt : M Bool} {el : M PyData} {its : M (List PyData)} (hc : X.calm = true) (hN : X.N.Nodup) (hi : EvI X W tg iter its) (ok : BlkOk X.N X.env.scope scope own)
    (hg : ∀ (s : Shared) (H : Hp) (C : Addr) (cl : List (Str × Addr)) (fp : List Addr), EvG (X.blk s H scope (compEnvC scope cl C X.env) fp) sl tg g) (ht : ∀ (s : Shared) (H : Hp) (C : Addr) (cl : List (Str × Addr)) (fp : List Addr), EvTs (X.blk s H scope (compEnvC scope cl C X.env) fp) WN ifs tt)
    (he : ∀ (s : Shared) (H : Hp) (C : Addr) (cl : List (Str × Addr)) (fp : List Addr), Ev (X.blk s H scope (compEnvC scope cl C X.env) fp) WN elt el) (hsl : ∀ i ∈ sl, i ∈ own.map (·.2) := by decide) (hs : ∀ x, foldedSetIterable iter X.env x = pure x := by intro _; rfl) :
    EvF X W (.ListComp elt [⟨tg, iter, ifs, 0⟩] scope pos) (mComp (own.map (·.2)) g tt el its) :=
  let ⟨_, p, A⟩ := hi.ex
  ⟨_, pe_lc hc hN p ok (fun s H C cl fp => (hg s H C cl fp).pg) (fun s H C cl fp => (ht s H C cl fp).pts) (fun s H C cl fp => (he s H C cl fp).pe) hs, does_comp hsl A⟩
end
end Fx
namespace Fx
open PySem PySem.Spec PyProof.Rows L2
variable [Tb] [Fr]

/-! ### statements -/
inductive Fl where
  | nx | br | ct | rt (r : Rv)
def PostS (X : Cx) (W : WX) (H0 : Hp) (B : List (Nat × Addr)) (T : List (Addr × HO)) (σ : L2.St) (H : Hp) (env : Vn) (D : Ends) : Res (Fl × Vn) → Prop
  | .bad => False
  | .ok (.nx, env') => ∀ σ' H', Rel X.K H0 B T σ' H' env' → Lat (Hd T σ env) H (Hd T σ' env') H' → D.nx σ' H'
  | .ok (.br, env') => ∀ σ' H', Rel X.K H0 B T σ' H' env' → Lat (Hd T σ env) H (Hd T σ' env') H' → D.bk σ' H'
  | .ok (.ct, env') => ∀ σ' H', Rel X.K H0 B T σ' H' env' → Lat (Hd T σ env) H (Hd T σ' env') H' → D.ct σ' H'
  | .ok (.rt (.v d), env') => ∀ v σ' H', Rel X.K H0 B T σ' H' env' → Lat (Hd T σ env) H (Hd T σ' env') H' → Dq X.K (hid H' (Hd T σ' env')) v d → D.rt v H'
  | .ok (.rt (.f ds), env') => ∀ p xs σ' H', H0 p = none → H' p = some (.lst xs) → Rel X.K H0 B ((p, .lst xs) :: T) σ' H' env' → Lat (Hd T σ env) H (Hd ((p, .lst xs) :: T) σ' env') H' → DqAll X.K (hid H' (Hd ((p, .lst xs) :: T) σ' env')) xs ds → D.rt (.ref p) H'
  | .ex x env' => ∀ cls dd σ' H', Rel X.K H0 B T σ' H' env' → Lat (Hd T σ env) H (Hd T σ' env') H' → ExR X.mg X.K (hid H' (Hd T σ' env')) H' x cls dd → W cls dd σ' H'
def DoesS (X : Cx) (W : WX) (t : TS) (m : M Fl) : Prop := ∀ H0 B T σ H env D, Rel X.K H0 B T σ H env → PostS X W H0 B T σ H env D (m env) → t D σ H
structure EvS (X : Cx) (W : WX) (st : Stmt) (m : M Fl) : Prop where
  ex : ∃ t, PS X st t ∧ DoesS X W t m
structure EvSs (X : Cx) (W : WX) (st : List Stmt) (m : M Fl) : Prop where
  ex : ∃ t, PSs X st t ∧ DoesS X W t m
def mSeq (m n : M Fl) : M Fl := fun env =>
  match m env with
  | .ok (.nx, e) => n e
  | r => r
def mSkip : M Fl := M.ret .nx
def mG (g : PyData → Vn → Option Vn) (m : M PyData) : M Fl := m.bind fun d env =>
  match g d env with
  | some e => .ok (.nx, e)
  | none => .bad
def mSetF (i : Nat) (m : M (List PyData)) : M Fl := m.bind fun ds env =>
  match env[i]? with
  | none => .bad
  | some (.bo _) => .bad
  | some .xc => .bad
  | some _ => .ok (.nx, env.set i (.ow ds))
def mPar2 (i j : Nat) (ms : M (List PyData)) : M Fl := ms.bind fun ds env =>
  match ds with
  | [a, b] =>
    match (gSet i a env).bind (gSet j b) with
    | some e => .ok (.nx, e)
    | none => .bad
  | _ => .bad
def mPar3 (i j l : Nat) (ms : M (List PyData)) : M Fl := ms.bind fun ds env =>
  match ds with
  | [a, b, c] =>
    match (gSet i a env).bind fun e => (gSet j b e).bind (gSet l c) with
    | some e => .ok (.nx, e)
    | none => .bad
  | _ => .bad
def mRet (m : M PyData) : M Fl := m.bind fun d => M.ret (.rt (.v d))
def mRetF (m : M (List PyData)) : M Fl := m.bind fun ds => M.ret (.rt (.f ds))
def mDo (m : M PyData) : M Fl := m.bind fun _ => M.ret .nx
def mBad : M Fl := fun _ => .bad
section
variable {X : Cx} {W : WX} {H0 H H1 : Hp} {B : List (Nat × Addr)} {T : List (Addr × HO)} {σ σ1 : L2.St} {env env1 : Vn} {pos pos' : Pos} {st : Stmt} {rest : List Stmt} {m n : M Fl} {e : Expr}
theorem PostS.later {D : Ends} {r : Res (Fl × Vn)} (l : Lat (Hd T σ env) H (Hd T σ1 env1) H1) (h : PostS X W H0 B T σ H env D r) : PostS X W H0 B T σ1 H1 env1 D r := by
  cases r with
  | bad => exact h
  | ex x e => exact fun c d s H' R' l' r => h c d s H' R' (l.trans l') r
  | ok p =>
    obtain ⟨f, e⟩ := p
    cases f with
    | nx => exact fun s H' R' l' => h s H' R' (l.trans l')
    | br => exact fun s H' R' l' => h s H' R' (l.trans l')
    | ct => exact fun s H' R' l' => h s H' R' (l.trans l')
    | rt r =>
      cases r with
      | v d => exact fun v s H' R' l' q => h v s H' R' (l.trans l') q
      | f ds => exact fun p xs s H' h0 hp R' l' q => h p xs s H' h0 hp R' (l.trans l') q
/-- an expression, then a step -/
theorem does_then {γ α : Type} {rep : Hp → γ → α → Prop} {t : Tr γ} {m : M α} {f : α → M Fl} {k : γ → TS} (A : Does rep X W t m)
    (F : ∀ H0 B T σ H env D g a, Rel X.K H0 B T σ H env → rep (hid H (Hd T σ env)) g a → PostS X W H0 B T σ H env D (f a env) → k g D σ H) : DoesS X W (fun D σ H => t σ H fun g H1 => k g D σ H1) (m.bind f) := by
  intro H0 B T σ H env D R P
  refine A H0 B T σ H env _ R ?_
  unfold M.bind at P
  cases e : m env with
  | bad => rw [e] at P; exact P
  | ex x e' =>
    rw [e] at P
    exact fun c d H' R' l r => P c d σ H' R' l r
  | ok p =>
    obtain ⟨a, e'⟩ := p
    rw [e] at P
    exact fun g H' R' l r => F H0 B T σ H' e' D g a R' r (P.later l)
theorem evss_nil : EvSs X W [] mSkip := ⟨_, pss_nil, fun H0 B T σ H env D R P => P σ H R .refl⟩
theorem does_seq {t u : TS} (A : DoesS X W t m) (C : DoesS X W u n) : DoesS X W (tSeq t u) (mSeq m n) := by
  intro H0 B T σ H env D R P
  refine A H0 B T σ H env { D with nx := u D } R ?_
  unfold mSeq at P
  cases q : m env with
  | bad => rw [q] at P; exact P
  | ex x e => rw [q] at P; exact P
  | ok p =>
    obtain ⟨f, e⟩ := p
    rw [q] at P
    cases f with
    | nx => exact fun s H' R' l => C H0 B T s H' e D R' (P.later l)
    | br => exact P
    | ct => exact P
    | rt r =>
      cases r with
      | v d => exact P
      | f ds => exact P
theorem evss_cons (h : EvS X W st m) (hs : EvSs X W rest n) : EvSs X W (st :: rest) (mSeq m n) :=
  let ⟨_, p, A⟩ := h.ex
  let ⟨_, q, C⟩ := hs.ex
  ⟨_, pss_cons p q, does_seq A C⟩
theorem evss_one (h : EvS X W st m) : EvSs X W [st] m := let ⟨_, p, A⟩ := h.ex; ⟨_, pss_one p, A⟩
theorem evs_pass : EvS X W (.Pass pos) mSkip := ⟨_, ps_pass, fun H0 B T σ H env D R P => P σ H R .refl⟩
theorem evs_break : EvS X W (.Break pos) (M.ret .br) := ⟨_, ps_break, fun H0 B T σ H env D R P => P σ H R .refl⟩
theorem evs_continue : EvS X W (.Continue pos) (M.ret .ct) := ⟨_, ps_continue, fun H0 B T σ H env D R P => P σ H R .refl⟩
theorem evs_never : EvS X W st mBad := ⟨_, ps_never, fun H0 B T σ H env D R P => P⟩
theorem evss_never : EvSs X W rest mBad := ⟨_, pss_never, fun H0 B T σ H env D R P => P⟩
theorem evs_doc {x j pos pos'} : EvS X W (.Expr (.Constant (.str x) j pos) pos') mSkip := ⟨_, ps_doc, fun H0 B T σ H env D R P => P σ H R .refl⟩
theorem does_retS {t : TE} {m : M PyData} (A : Does (Dq X.K) X W t m) : DoesS X W (tRet t) (mRet m) :=
  does_then A (k := fun (v : V) (D : Ends) (σ : L2.St) (H : Hp) => D.rt v H) fun H0 B T σ H env D g a R r P => P g σ H R .refl r
theorem evs_ret {m : M PyData} (h : Ev X W e m) : EvS X W (.Return (some e) pos) (mRet m) := let ⟨_, p, A⟩ := h.ex; ⟨_, ps_ret p, does_retS A⟩
theorem evs_retF {m : M (List PyData)} (h : EvF X W e m) : EvS X W (.Return (some e) pos) (mRetF m) := by
  obtain ⟨t, p, A⟩ := h.ex
  refine ⟨_, ps_ret p, fun H0 B T σ H env D R P => ?_⟩
  refine A H0 B T σ H env _ R ?_
  unfold mRetF M.bind at P
  cases q : m env with
  | bad => rw [q] at P; exact P
  | ex x e' => rw [q] at P; exact fun c d H' R' l r => P c d σ H' R' l r
  | ok pr =>
    obtain ⟨ds, e'⟩ := pr
    rw [q] at P
    exact fun p xs H' hp e R' l r => P p xs σ H' (R.new0 hp) e R' l r
theorem evs_retN : EvS X W (.Return none pos) (M.ret (.rt (.v .none))) := ⟨_, ps_retN, fun H0 B T σ H env D R P => P .non σ H R .refl .non⟩
theorem evs_expr {m : M PyData} (h : Ev X W e m) (hs : swapsWith e none pos.line X.env = pure false := by rfl) : EvS X W (.Expr e pos) (mDo m) :=
  let ⟨_, p, A⟩ := h.ex
  ⟨_, ps_expr p hs, does_then A (k := fun (v : V) (D : Ends) (σ : L2.St) (H : Hp) => D.nx σ H) fun H0 B T σ H env D g a R r P => P σ H R .refl⟩
theorem evs_if {c : Expr} {a b : List Stmt} {mc : M Bool} (hc : EvT X W c mc) (ha : EvSs X W a m) (hb : EvSs X W b n) : EvS X W (.If c a b pos) (mIf mc m n) :=
  let ⟨_, p, C⟩ := hc.ex
  let ⟨ta, q, A⟩ := ha.ex
  let ⟨tb, r, D⟩ := hb.ex
  ⟨_, ps_if p q r, does_then C (k := fun (k : Bool) (D : Ends) (σ : L2.St) (H : Hp) => if k = true then ta D σ H else tb D σ H) fun H0 B T σ H env D' g a R r P => by
    cases r
    cases g with
    | true =>
      rw [if_pos rfl] at P ⊢
      exact A H0 B T σ H env D' R P
    | false =>
      rw [if_neg (by decide)] at P ⊢
      exact D H0 B T σ H env D' R P⟩
theorem gSet_ok {i : Nat} {d : PyData} {env env' : Vn} (e : gSet i d env = some env') : ∃ s, env[i]? = some s ∧ (∀ ds, s ≠ .bo ds) ∧ s ≠ .xc ∧ env' = env.set i (.va d) := by
  unfold gSet at e
  cases e1 : env[i]? with
  | none => rw [e1] at e; cases e
  | some s =>
    rw [e1] at e
    have hs : ∀ ds, s ≠ .bo ds := fun ds z => by rw [z] at e; cases e
    have hx' : s ≠ .xc := fun z => by rw [z] at e; cases e
    exact ⟨s, rfl, hs, hx', by cases s <;> first | (cases e; rfl) | exact absurd rfl (hs _) | exact absurd rfl hx'⟩
theorem evs_set (i : Nat) {x : Str} {m : M PyData} (h : Ev X W e m) (hN : X.N.Nodup) (hi : X.N[i]? = some x := by rfl) (hx : Loc X.env.scope x := by first | exact Or.inl rfl | exact Or.inr rfl) (hs : swapsWith e (some (.Name x pos')) pos.line X.env = pure false := by rfl)
    (hf : X.fn x = true ∨ X.env.scope.names.lookup x = some .local := by first | exact .inl rfl | exact .inr rfl) : EvS X W (.Assign [.Name x pos'] e pos) (mG (gSet i) m) :=
  let ⟨_, p, A⟩ := h.ex
  ⟨_, ps_set hN hi hx p hs hf, does_then A (k := fun (v : V) (D : Ends) (σ : L2.St) (H : Hp) => D.nx (σ.set i (some v)) H) fun H0 B T σ H env D g a R r P => by
    cases q : gSet i a env with
    | none => simp only [q] at P; exact P.elim
    | some e' =>
      simp only [q] at P
      obtain ⟨s, e1, hs, hx, rfl⟩ := gSet_ok q
      obtain ⟨R2, l⟩ := R.store e1 hs hx r
      exact P _ H R2 l⟩
theorem does_setF {i : Nat} {t : TE} {m : M (List PyData)} (A : DoesF X W t m) : DoesS X W (tAsg t (gName i)) (mSetF i m) := by
  intro H0 B T σ H env D R P
  refine A H0 B T σ H env _ R ?_
  unfold mSetF M.bind at P
  cases q : m env with
  | bad => rw [q] at P; exact P
  | ex x e' => rw [q] at P; exact fun c d H' R' l r => P c d σ H' R' l r
  | ok pr =>
    obtain ⟨ds, e'⟩ := pr
    rw [q] at P
    simp only at P
    intro p xs H' hp e R' l r
    have hT : p ∉ ThA T := fun z => R.hdThere (.inl z) hp
    cases q2 : e'[i]? with
    | none => rw [q2] at P; exact P.elim
    | some s =>
      rw [q2] at P
      cases s with
      | bo cs => exact P.elim
      | xc => exact P.elim
      | no =>
        obtain ⟨R2, l2⟩ := R'.storeF q2 (fun _ z => (nomatch z)) (fun z => nomatch z) e (R.new0 hp) hT r
        exact P _ H' R2 (l.trans l2)
      | va d =>
        obtain ⟨R2, l2⟩ := R'.storeF q2 (fun _ z => (nomatch z)) (fun z => nomatch z) e (R.new0 hp) hT r
        exact P _ H' R2 (l.trans l2)
      | ow cs =>
        obtain ⟨R2, l2⟩ := R'.storeF q2 (fun _ z => (nomatch z)) (fun z => nomatch z) e (R.new0 hp) hT r
        exact P _ H' R2 (l.trans l2)
theorem evs_setF (i : Nat) {x : Str} {m : M (List PyData)} (h : EvF X W e m) (hN : X.N.Nodup) (hi : X.N[i]? = some x := by rfl) (hx : Loc X.env.scope x := by first | exact Or.inl rfl | exact Or.inr rfl) (hs : swapsWith e (some (.Name x pos')) pos.line X.env = pure false := by rfl)
    (hf : X.fn x = true ∨ X.env.scope.names.lookup x = some .local := by first | exact .inl rfl | exact .inr rfl) : EvS X W (.Assign [.Name x pos'] e pos) (mSetF i m) :=
  let ⟨_, p, A⟩ := h.ex
  ⟨_, ps_set hN hi hx p hs hf, does_setF A⟩
theorem evs_setLc (i : Nat) {y : Str} {py : Pos} {tg iter elt : Expr} {ifs : List Expr} {scope : Scope} {own : List (Str × Nat)} {spos : Pos} {sl : List Nat} {g : PyData → Vn → Option Vn} {tt : M Bool} {el : M PyData} {its : M (List PyData)} (hc : X.calm = true) (hN : X.N.Nodup) (hi : EvI X W tg iter its) (ok : BlkOk X.N X.env.scope scope own)
    (hg : ∀ (s : Shared) (H : Hp) (C : Addr) (cl : List (Str × Addr)) (fp : List Addr), EvG (X.blk s H scope (compEnvC scope cl C X.env) fp) sl tg g) (ht : ∀ (s : Shared) (H : Hp) (C : Addr) (cl : List (Str × Addr)) (fp : List Addr), EvTs (X.blk s H scope (compEnvC scope cl C X.env) fp) WN ifs tt)
    (he : ∀ (s : Shared) (H : Hp) (C : Addr) (cl : List (Str × Addr)) (fp : List Addr), Ev (X.blk s H scope (compEnvC scope cl C X.env) fp) WN elt el) (hsw : swapsWith (.ListComp elt [⟨tg, iter, ifs, 0⟩] scope pos) (some (.Name y py)) spos.line X.env = pure true)
    (hy : X.N[i]? = some y := by rfl) (hyl : X.env.scope.names.lookup y = some .local := by rfl) (hsl : ∀ i ∈ sl, i ∈ own.map (·.2) := by decide) (hs : ∀ x, foldedSetIterable iter X.env x = pure x := by intro _; rfl) :
    EvS X W (.Assign [.Name y py] (.ListComp elt [⟨tg, iter, ifs, 0⟩] scope pos) spos) (mSetF i (mComp (own.map (·.2)) g tt el its)) :=
  let ⟨_, p, A⟩ := hi.ex
  ⟨_, ps_setLc hc hN hy hyl hsw p ok (fun s H C cl fp => (hg s H C cl fp).pg) (fun s H C cl fp => (ht s H C cl fp).pts) (fun s H C cl fp => (he s H C cl fp).pe) hs, does_setF (does_comp hsl A)⟩
theorem evs_asg {tg : Expr} {sl : List Nat} {g : PyData → Vn → Option Vn} {m : M PyData} (h : Ev X W e m) (hg : EvG X sl tg g) (hs : swapsWithSole [tg] e pos.line X.env = pure false := by rfl) (hw : swappedStores [tg] e X.env = pure none := by rfl)
    (h1 : (assignEach [tg] X.env).map (·.2) = [assign tg X.env] := by rfl) : EvS X W (.Assign [tg] e pos) (mG g m) := by
  obtain ⟨t, p, A⟩ := h.ex
  obtain ⟨u, q, C⟩ := hg.ex
  refine ⟨_, ps_asg p q hs hw h1, does_then A (k := fun (v : V) (D : Ends) (σ : L2.St) (H : Hp) => u v σ H D.nx) fun H0 B T σ H env D v a R r P => ?_⟩
  cases q2 : g a env with
  | none => simp only [q2] at P; exact P.elim
  | some e' =>
    simp only [q2] at P
    exact C H0 B T σ H env v a e' _ R r q2 fun σ' R' l _ => P σ' H R' l
theorem evs_par2 (i j : Nat) {x y : Str} {a b : Expr} {ms : M (List PyData)} {px py pt : Pos} {kt k2 pt2} (hc : X.calm = true) (hN : X.N.Nodup) (ha : EvA X W [a, b] ms) (hi : X.N[i]? = some x := by rfl) (hj : X.N[j]? = some y := by rfl) (hij : i ≠ j := by decide)
    (hx : X.env.scope.names.lookup x = some .local := by rfl) (hy : X.env.scope.names.lookup y = some .local := by rfl) (hw : swappedStores [.Tuple [.Name x px, .Name y py] kt pt] (.Tuple [a, b] k2 pt2) X.env = pure (some [x, y]) := by rfl)
    (hs : swapsWithSole [.Tuple [.Name x px, .Name y py] kt pt] (.Tuple [a, b] k2 pt2) pos.line X.env = pure false := by rfl) : EvS X W (.Assign [.Tuple [.Name x px, .Name y py] kt pt] (.Tuple [a, b] k2 pt2) pos) (mPar2 i j ms) :=
  let ⟨_, p, A⟩ := ha.ex
  ⟨_, ps_par hc hN hi hj hij hx hy p hw hs, does_then A (k := fun (vs : List V) (D : Ends) (σ : L2.St) (H : Hp) => ∃ v w, vs = [v, w] ∧ D.nx ((σ.set i (some v)).set j (some w)) H) fun H0 B T σ H env D vs ds R r P => by
    cases r with
    | nil => exact P.elim
    | cons h1 r =>
      cases r with
      | nil => exact P.elim
      | cons h2 r =>
        cases r with
        | cons => exact P.elim
        | nil =>
          rename_i v1 d1 v2 d2
          simp only at P
          cases q : (gSet i d1 env).bind (gSet j d2) with
          | none => rw [q] at P; exact P.elim
          | some e' =>
            rw [q] at P
            obtain ⟨e1, q1, q2⟩ := Option.bind_eq_some_iff.mp q
            obtain ⟨s, z1, hs1, xhs1, rfl⟩ := gSet_ok q1
            obtain ⟨R2, l⟩ := R.store z1 hs1 xhs1 h1
            obtain ⟨s2, z2, hs2, xhs2, rfl⟩ := gSet_ok q2
            obtain ⟨R3, l3⟩ := R2.store z2 hs2 xhs2 (l.dp h2)
            exact ⟨v1, v2, rfl, P _ H R3 (l.trans l3)⟩⟩
theorem evs_par3 (i j l : Nat) {x y z : Str} {a b c : Expr} {ms : M (List PyData)} {px py pz pt : Pos} {kt k2 pt2} (hc : X.calm = true) (hN : X.N.Nodup) (ha : EvA X W [a, b, c] ms) (hi : X.N[i]? = some x := by rfl) (hj : X.N[j]? = some y := by rfl) (hl : X.N[l]? = some z := by rfl) (hij : i ≠ j := by decide) (hil : i ≠ l := by decide) (hjl : j ≠ l := by decide)
    (hx : X.env.scope.names.lookup x = some .local := by rfl) (hy : X.env.scope.names.lookup y = some .local := by rfl) (hz : X.env.scope.names.lookup z = some .local := by rfl)
    (hw : swappedStores [.Tuple [.Name x px, .Name y py, .Name z pz] kt pt] (.Tuple [a, b, c] k2 pt2) X.env = pure (some [x, y, z]) := by rfl)
    (hs : swapsWithSole [.Tuple [.Name x px, .Name y py, .Name z pz] kt pt] (.Tuple [a, b, c] k2 pt2) pos.line X.env = pure false := by rfl) : EvS X W (.Assign [.Tuple [.Name x px, .Name y py, .Name z pz] kt pt] (.Tuple [a, b, c] k2 pt2) pos) (mPar3 i j l ms) :=
  let ⟨_, p, A⟩ := ha.ex
  ⟨_, ps_par3 hc hN hi hj hl hij hil hjl hx hy hz p hw hs, does_then A (k := fun (vs : List V) (D : Ends) (σ : L2.St) (H : Hp) => ∃ u v w, vs = [u, v, w] ∧ D.nx (((σ.set i (some u)).set j (some v)).set l (some w)) H) fun H0 B T σ H env D vs ds R r P => by
    cases r with
    | nil => exact P.elim
    | cons h1 r =>
      cases r with
      | nil => exact P.elim
      | cons h2 r =>
        cases r with
        | nil => exact P.elim
        | cons h3 r =>
          cases r with
          | cons => exact P.elim
          | nil =>
            rename_i v1 d1 v2 d2 v3 d3
            simp only at P
            cases q : ((gSet i d1 env).bind fun e => (gSet j d2 e).bind (gSet l d3)) with
            | none => rw [q] at P; exact P.elim
            | some e' =>
              rw [q] at P
              obtain ⟨e1, q1, q2⟩ := Option.bind_eq_some_iff.mp q
              obtain ⟨e2, q3, q4⟩ := Option.bind_eq_some_iff.mp q2
              obtain ⟨s, z1, hs1, xhs1, rfl⟩ := gSet_ok q1
              obtain ⟨R2, l2⟩ := R.store z1 hs1 xhs1 h1
              obtain ⟨s2, z2, hs2, xhs2, rfl⟩ := gSet_ok q3
              obtain ⟨R3, l3⟩ := R2.store z2 hs2 xhs2 (l2.dp h2)
              obtain ⟨s3, z3, hs3, xhs3, rfl⟩ := gSet_ok q4
              obtain ⟨R4, l4⟩ := R3.store z3 hs3 xhs3 (l3.dp (l2.dp h3))
              exact ⟨v1, v2, v3, rfl, P _ H R4 ((l2.trans l3).trans l4)⟩⟩
end

/-! ### own lists written -/
/-- xs.append(e) -/
def mApp (i : Nat) (m : M PyData) : M Fl := fun env =>
  match slLst env[i]? with
  | none => .bad
  | some _ => (m.bind fun d env' =>
    match slLst env'[i]? with
    | none => .bad
    | some ds => if ds.length ≤ 1000000 then .ok (.nx, setOwn env' i (ds ++ [d])) else .bad) env
/-- xs[k] = e -/
def mPut (i : Nat) (mk m : M PyData) : M Fl := fun env =>
  match slLst env[i]? with
  | none => .bad
  | some _ => (m.bind fun d => mk.bind fun k env' =>
    match slLst env'[i]?, k with
    | some ds, .int z =>
      match ixN ds.length z with
      | some j => .ok (.nx, setOwn env' i (ds.set j d))
      | none => .bad
    | _, _ => .bad) env
section
variable {X : Cx} {W : WX} {pos pos' p0 p1 : Pos} {a b e : Expr} {m mk : M PyData}
theorem Rel.putOwn {K : PySem.W.Frag} {H0 H H' : Hp} {B : List (Nat × Addr)} {T : List (Addr × HO)} {σ : L2.St} {env : Vn} (R : Rel K H0 B T σ H env) {i : Nat} {p : Addr} {s : Sl} {ds cs : List PyData} {ys : List V} (f1 : env[i]? = some s) (f2 : σ[i]? = some (some (.ref p))) (f5 : s = .ow ds ∨ s = .bo ds)
    (k : ∀ b o, b ≠ p → H b = some o → H' b = some o) (hy : H' p = some (.lst ys)) (h : DqAll K (hid H' (Hd T σ env)) ys cs) : Rel K H0 B T σ H' (setOwn env i cs) ∧ Lat (Hd T σ env) H (Hd T σ (setOwn env i cs)) H' := by
  have tb : TbOk H' := by
    obtain ⟨xs, e⟩ := R.ownThere (i := i) (p := p) ⟨s, f1, by rcases f5 with z | z <;> subst z <;> trivial, f2⟩
    exact R.tab.put e k
  unfold setOwn
  rw [f1]
  rcases f5 with z | z
  · subst z
    obtain ⟨R2, l, _⟩ := R.put f1 f2 (.inl ⟨_, rfl, rfl⟩) (fun b o n _ => k b o n) tb hy h
    exact ⟨R2, l⟩
  · subst z
    obtain ⟨R2, l, _⟩ := R.put f1 f2 (.inr ⟨_, rfl, rfl⟩) (fun b o n _ => k b o n) tb hy h
    exact ⟨R2, l⟩
theorem hid_put {K : PySem.W.Frag} {H : Hp} {O : Addr → Prop} {p : Addr} {o : HO} (h : O p) : Same (hid H O) (hid (upd H p o) O) := hid_up fun a u n q => ⟨n, by
  rw [upd_ne]
  · exact q
  · rintro rfl; exact n h⟩
theorem evs_put (i : Nat) {x : Str} (hv : Ev X W e m) (hk : Ev X W b mk) (hN : X.N[i]? = some x := by rfl) (hvi : Vis X.env.scope x := by first | exact Or.inl rfl | exact Or.inr (Or.inl rfl) | exact Or.inr (Or.inr rfl)) (hd : (x == ("__debug__" : Str)) = false := by decide) (hcd : (x == ("__classdict__" : Str)) = false := by decide)
    (hs : swapsWithSole [.Subscript (.Name x p0) b p1] e pos.line X.env = pure false := by rfl) (hw : swappedStores [.Subscript (.Name x p0) b p1] e X.env = pure none := by rfl)
    (h1 : (assignEach [.Subscript (.Name x p0) b p1] X.env).map (·.2) = [assign (.Subscript (.Name x p0) b p1) X.env] := by rfl)
    (ha : ∀ v, assign (.Subscript (.Name x p0) b p1) X.env v = (do
      let ov ← holding [v] (eval (.Name x p0) X.env)
      let iv ← holding [v, ov] (eval b X.env)
      standAt p1
      holding [v, ov, iv] (setItem ov iv v)
      release [v, ov, iv] []) := by intro _; rfl) : EvS X W (.Assign [.Subscript (.Name x p0) b p1] e pos) (mPut i mk m) := by
  obtain ⟨t, q, C⟩ := hk.ex
  obtain ⟨u, p, A⟩ := hv.ex
  refine ⟨_, ps_asg p (pg_sub (pe_var hN hvi hd hcd) q set_list ha) hs hw h1, fun H0 B T σ H env D R P => ?_⟩
  unfold mPut at P
  cases e0 : slLst env[i]? with
  | none => rw [e0] at P; exact P.elim
  | some ds0 =>
    rw [e0] at P
    obtain ⟨pa, _, _, _, e2, _⟩ := R.own_at e0
    refine A H0 B T σ H env _ R ?_
    unfold M.bind at P
    cases e3 : m env with
    | bad => simp only [e3] at P; exact P
    | ex x e' => simp only [e3] at P; exact fun c d H' R' l r => P c d σ H' R' l r
    | ok pr =>
      obtain ⟨d, e'⟩ := pr
      simp only [e3] at P
      intro v H1 R1 l1 r1
      refine ⟨_, e2, ?_⟩
      refine C H0 B T σ H1 e' _ R1 ?_
      cases e4 : mk e' with
      | bad => simp only [e4] at P; exact P
      | ex x e5 => simp only [e4] at P; exact fun c d H' R' l r => P c d σ H' R' (l1.trans l) r
      | ok pr2 =>
        obtain ⟨kd, e5⟩ := pr2
        simp only [e4] at P
        intro kv H2 R2 l2 r2
        cases e6 : slLst e5[i]? with
        | none => rw [e6] at P; exact P.elim
        | some ds =>
          rw [e6] at P
          cases r2 with
          | int z =>
            simp only at P
            cases e7 : ixN ds.length z with
            | none => rw [e7] at P; exact P.elim
            | some j =>
              rw [e7] at P
              obtain ⟨p', xs, s, f1, f2, f3, f4, f5, f6⟩ := R2.own_at e6
              rw [e2] at f2
              cases f2
              refine ⟨pa, xs, z, j, rfl, rfl, f3, by rw [dpAll_len f4]; exact e7, ?_⟩
              have hp : Hd T σ e5 pa := .inr ⟨i, f6⟩
              obtain ⟨R3, l3⟩ := R2.putOwn f1 e2 f5 (H' := upd H2 pa (.lst (xs.set j v))) (fun b o nb q => by rw [upd_ne nb]; exact q) upd_same (dpAll_set (dpUp (hid_put (K := X.K) hp) (l2.dp r1)) j (dpAllUp (hid_put (K := X.K) hp) f4))
              exact P σ _ R3 ((l1.trans l2).trans l3)
          | _ => exact P.elim
theorem evs_app (i : Nat) {x : Str} (hv : Ev X W e m) (hN : X.N[i]? = some x := by rfl) (hvi : Vis X.env.scope x := by first | exact Or.inl rfl | exact Or.inr (Or.inl rfl) | exact Or.inr (Or.inr rfl)) (hd : (x == ("__debug__" : Str)) = false := by decide) (hcd : (x == ("__classdict__" : Str)) = false := by decide)
    {apos cpos : Pos} (hbase : attributeBase (.Name x p0) "append" X.env (eval (.Name x p0) X.env) = eval (.Name x p0) X.env := by rfl)
    (hfew : ((backTo cpos (starEach [e] X.env)).all (fun x => !x.1) && (backToKw cpos (keywordEach [] X.env)).all (fun x => x.1.isSome) && decide ([e].length + ([] : List Keyword).length + (if ([] : List Keyword).isEmpty then 0 else 1) < 30)) = true := by rfl)
    (hline : (apos.endLine == cpos.line) = true := by rfl) (hst : starEach [e] X.env = (false, eval e X.env) :: starEach [] X.env := by rfl) (hplain : (backTo cpos (starEach [] X.env)).any (·.1) = false := by rfl)
    (hs : swapsWith (.Call (.Attribute (.Name x p0) "append" apos) [e] [] cpos) none pos.line X.env = pure false := by rfl) : EvS X W (.Expr (.Call (.Attribute (.Name x p0) "append" apos) [e] [] cpos) pos) (mApp i m) := by
  obtain ⟨t, q, A⟩ := hv.ex
  refine ⟨_, ps_expr (pe_bm PySem.F.plainAttrs_list PySem.F.slot_list_append PySem.F.type_list_append mt_append (pe_var hN hvi hd hcd) (pa_cons q pa_nil hst) hbase hfew hline hst hplain) hs, fun H0 B T σ H env D R P => ?_⟩
  unfold mApp at P
  cases e0 : slLst env[i]? with
  | none => rw [e0] at P; exact P.elim
  | some ds0 =>
    rw [e0] at P
    obtain ⟨pa, xs0, _, _, e2, e9, _⟩ := R.own_at e0
    refine ⟨_, e2, .inl ⟨rfl, _, .inl (.inl e9)⟩, ?_⟩
    refine A H0 B T σ H env _ R ?_
    unfold M.bind at P
    cases e3 : m env with
    | bad => simp only [e3] at P; exact P
    | ex x e' => simp only [e3] at P; exact fun c d H' R' l r => P c d σ H' R' l r
    | ok pr =>
      obtain ⟨d, e'⟩ := pr
      simp only [e3] at P
      intro v H1 R1 l1 r1
      cases e6 : slLst e'[i]? with
      | none => rw [e6] at P; exact P.elim
      | some ds =>
        rw [e6] at P
        simp only at P
        split at P
        · rename_i hz
          obtain ⟨p', xs, s, f1, f2, f3, f4, f5, f6⟩ := R1.own_at e6
          rw [e2] at f2
          cases f2
          have hp : Hd T σ e' pa := .inr ⟨i, f6⟩
          refine ⟨pa, xs, v, rfl, rfl, f3, by rw [dpAll_len f4, sizeLine_eq]; omega, ?_⟩
          obtain ⟨R3, l3⟩ := R1.putOwn f1 e2 f5 (H' := upd H1 pa (.lst (xs ++ [v]))) (fun b o nb q => by rw [upd_ne nb]; exact q) upd_same (dpAll_app (dpAllUp (hid_put (K := X.K) hp) f4) (.cons (dpUp (hid_put (K := X.K) hp) r1) .nil))
          exact P σ _ R3 (l1.trans l3)
        · exact P.elim
end
end Fx
namespace Fx
open PySem PySem.Spec PyProof.Rows L2
section
variable [Tb] [Fr]

/-! ### loops -/
def forM (g : PyData → Vn → Option Vn) (body : M Fl) : List PyData → M Fl
  | [] => M.ret .nx
  | d :: ds => fun env =>
    match g d env with
    | none => .bad
    | some e1 =>
      match body e1 with
      | .ok (.nx, e2) => forM g body ds e2
      | .ok (.ct, e2) => forM g body ds e2
      | .ok (.br, e2) => .ok (.nx, e2)
      | r => r
def mFor (g : PyData → Vn → Option Vn) (body : M Fl) (its : M (List PyData)) : M Fl := its.bind fun ds => forM g body ds
def whileM (c : M Bool) (body : M Fl) : Nat → M Fl
  | 0 => fun _ => .bad
  | n + 1 => c.bind fun k =>
    if k = true then fun env =>
      match body env with
      | .ok (.nx, e2) => whileM c body n e2
      | .ok (.ct, e2) => whileM c body n e2
      | .ok (.br, e2) => .ok (.nx, e2)
      | r => r
    else M.ret .nx
/-- the size of an int in a slot, and one -/
def muAbs (i : Nat) (env : Vn) : Nat :=
  match (env[i]? : Option Sl) with
  | some (.va (.int k)) => k.natAbs + 1
  | _ => 0
def mWhile (μ : Vn → Nat) (c : M Bool) (body : M Fl) : M Fl := fun env => whileM c body (μ env) env
section
variable {X : Cx} {W : WX} {pos : Pos}
theorem evs_for {tg iter : Expr} {body : List Stmt} {sl : List Nat} {g : PyData → Vn → Option Vn} {mb : M Fl} {its : M (List PyData)} (hp : PassesOwn (model X.prog X.w) X.A X.env X.xe) (hc : X.calm = true) (hi : EvI X W tg iter its) (hg : EvG X sl tg g) (hb : EvSs X W body mb)
    (hs : ∀ x, foldedSetIterable iter X.env x = pure x := by intro _; rfl) : EvS X W (.For tg iter body [] pos) (mFor g mb its) := by
  obtain ⟨wi, p, A⟩ := hi.ex
  obtain ⟨tb, q, C⟩ := hb.ex
  refine ⟨_, ps_for hp hc p hg.pg q hs, fun H0 B T σ H env D R P => ?_⟩
  refine A H0 B T σ H env _ R ?_
  unfold mFor M.bind at P
  cases q0 : its env with
  | bad => rw [q0] at P; exact P
  | ex x e' => rw [q0] at P; exact fun c d H' R' l r => P c d σ H' R' l r
  | ok pr =>
    obtain ⟨ds, e1⟩ := pr
    rw [q0] at P
    intro J H1 R1 l1 Y
    refine ⟨fun i m σ' H' => m = ds.length - i ∧ i ≤ ds.length ∧ ∃ en, Rel X.K H0 B T σ' H' en ∧ Lat (Hd T σ e1) H1 (Hd T σ' en) H' ∧ PostS X W H0 B T σ' H' en D (forM g mb (ds.drop i) en), ⟨ds.length, rfl, Nat.zero_le _, e1, R1, .refl, by simpa using P.later l1⟩, ?_⟩
    rintro i m σ' H' ⟨rfl, hi, en, R2, l2, P2⟩
    by_cases hlt : i < ds.length
    · refine .inr ⟨Y.go _ _ i l2 hlt, fun σ3 H3 => ∃ en, Rel X.K H0 B T σ3 H3 en ∧ Lat (Hd T σ e1) H1 (Hd T σ3 en) H3 ∧ PostS X W H0 B T σ3 H3 en D (forM g mb (ds.drop (i + 1)) en), fun σ3 H3 n => ⟨ds.length - (i + 1), by omega, rfl, hlt, n⟩, fun x H3 hy => ?_⟩
      have ed : ds.drop i = ds[i] :: ds.drop (i + 1) := List.drop_eq_getElem_cons hlt
      rw [ed] at P2
      obtain ⟨s3, q3⟩ := Y.yl _ _ i ds[i] x H3 l2 (fun q z => R2.hdThere z) (by simp) hy
      have R3 := R2.grow s3
      have l3 : Lat (Hd T σ' en) H' (Hd T σ' en) H3 := .of s3
      simp only [forM] at P2
      cases q5 : g ds[i] en with
      | none => rw [q5] at P2; exact P2.elim
      | some e5 =>
        rw [q5] at P2
        simp only at P2
        refine ⟨H0, B, T, en, ds[i], e5, R3, q3, q5, fun σ6 R6 l6 _ => ?_⟩
        refine C H0 B T σ6 H3 e5 _ R6 ?_
        cases q7 : mb e5 with
        | bad => rw [q7] at P2; exact P2
        | ex x e6 => rw [q7] at P2; exact fun c d s H4 R' l r => P2 c d s H4 R' ((l3.trans l6).trans l) r
        | ok pr =>
          obtain ⟨f, e6⟩ := pr
          rw [q7] at P2
          cases f with
          | nx => exact fun s H4 R' l => ⟨e6, R', ((l2.trans l3).trans l6).trans l, P2.later ((l3.trans l6).trans l)⟩
          | ct => exact fun s H4 R' l => ⟨e6, R', ((l2.trans l3).trans l6).trans l, P2.later ((l3.trans l6).trans l)⟩
          | br => exact fun s H4 R' l => P2 s H4 R' ((l3.trans l6).trans l)
          | rt r =>
            cases r with
            | v d => exact fun v s H4 R' l r => P2 v s H4 R' ((l3.trans l6).trans l) r
            | f us => exact fun p xs s H4 h0 hp R' l r => P2 p xs s H4 h0 hp R' ((l3.trans l6).trans l) r
    · refine .inl ⟨Y.st _ _ i l2 (by omega), ?_⟩
      rw [show ds.drop i = [] from List.drop_eq_nil_of_le (by omega)] at P2
      exact P2 σ' H' R2 .refl
theorem evs_while {c : Expr} {body : List Stmt} {mc : M Bool} {mb : M Fl} (μ : Vn → Nat) (hp : PassesOwn (model X.prog X.w) X.A X.env X.xe) (hc : EvT X W c mc) (hb : EvSs X W body mb) : EvS X W (.While c body [] pos) (mWhile μ mc mb) := by
  obtain ⟨tc, p, A⟩ := hc.ex
  obtain ⟨tb, q, C⟩ := hb.ex
  refine ⟨_, ps_while hp p q, fun H0 B T σ H env D R P => ?_⟩
  refine ⟨fun m σ' H' => ∃ en, Rel X.K H0 B T σ' H' en ∧ Lat (Hd T σ env) H (Hd T σ' en) H' ∧ PostS X W H0 B T σ' H' en D (whileM mc mb m en), ⟨μ env, env, R, .refl, P⟩, ?_⟩
  rintro m σ' H' ⟨en, R2, l2, P2⟩
  cases m with
  | zero => exact P2.elim
  | succ n =>
    refine A H0 B T σ' H' en _ R2 ?_
    simp only [whileM, M.bind] at P2
    cases q1 : mc en with
    | bad => rw [q1] at P2; exact P2
    | ex x e' => rw [q1] at P2; exact fun c d H4 R' l r => P2 c d σ' H4 R' l r
    | ok pr =>
      obtain ⟨k, e3⟩ := pr
      rw [q1] at P2
      intro k' H3 R3 l3 ek
      have ek' : k' = k := ek
      subst ek'
      cases k' with
      | false =>
        rw [if_neg (by decide)]
        simp only [Bool.false_eq_true, if_false] at P2
        exact P2 σ' H3 R3 l3
      | true =>
        rw [if_pos rfl]
        simp only [if_true] at P2
        refine ⟨fun σ5 H5 => ∃ en, Rel X.K H0 B T σ5 H5 en ∧ Lat (Hd T σ env) H (Hd T σ5 en) H5 ∧ PostS X W H0 B T σ5 H5 en D (whileM mc mb n en), fun σ5 H5 z => ⟨n, Nat.lt_succ_self n, z⟩, ?_⟩
        refine C H0 B T σ' H3 e3 _ R3 ?_
        cases q7 : mb e3 with
        | bad => rw [q7] at P2; exact P2
        | ex x e6 => rw [q7] at P2; exact fun c d s H4 R' l r => P2 c d s H4 R' (l3.trans l) r
        | ok pr =>
          obtain ⟨f, e6⟩ := pr
          rw [q7] at P2
          cases f with
          | nx => exact fun s H4 R' l => ⟨e6, R', (l2.trans l3).trans l, P2.later (l3.trans l)⟩
          | ct => exact fun s H4 R' l => ⟨e6, R', (l2.trans l3).trans l, P2.later (l3.trans l)⟩
          | br => exact fun s H4 R' l => P2 s H4 R' (l3.trans l)
          | rt r =>
            cases r with
            | v d => exact fun v s H4 R' l r => P2 v s H4 R' (l3.trans l) r
            | f us => exact fun p xs s H4 h0 hp R' l r => P2 p xs s H4 h0 hp R' (l3.trans l) r
end

end
/-! ### defs by their bodies -/
section
variable [Tb]
local instance : Fr := fr0
/-- values in: what the body comes to -/
def defP (np nn : Nat) (m : M Fl) (ds : List PyData) : Out Rv :=
  if ds.length = np then
    match m (ds.map Sl.va ++ List.replicate (nn - np) .no) with
    | .ok (.rt r, _) => .ok r
    | .ok (.nx, _) => .ok (.v .none)
    | .ex x _ => .ex x
    | _ => .bad
  else .bad
/-- a list lent first -/
def defB (np nn : Nat) (m : M Fl) (cs ds : List PyData) : Out (Rv × List PyData) :=
  if ds.length + 1 = np then
    match m (.bo cs :: ds.map Sl.va ++ List.replicate (nn - np) .no) with
    | .ok (.rt r, .bo cs' :: _) => .ok (r, cs')
    | .ok (.nx, .bo cs' :: _) => .ok (.v .none, cs')
    | _ => .bad
  else .bad
theorem start_get (N : List Str) (vs : List V) (i : Nat) : (L2.start N vs)[i]? = if i < vs.length then (vs[i]?).map some else if i < N.length then some none else none := by
  unfold L2.start
  by_cases h : i < vs.length
  · rw [if_pos h, List.getElem?_append_left (by simpa using h), List.getElem?_map]
  · rw [if_neg h, List.getElem?_append_right (by simpa using h), List.getElem?_replicate, List.length_map]
    by_cases h2 : i < N.length
    · rw [if_pos h2, if_pos (by omega)]
    · rw [if_neg h2, if_neg (by omega)]
theorem tops_of {H : Hp} {O : List Addr} (hO : ∀ p ∈ O, H p ≠ none) (hC : ∀ p ∈ CA, p ∈ O) : ∃ T : List (Addr × HO), (∀ a, a ∈ ThA T ↔ a ∈ O) ∧ (∀ t ∈ T, H t.1 = some t.2) ∧ ∀ t ∈ T, t.1 ∉ CA := by
  have key : ∀ O : List Addr, (∀ p ∈ O, H p ≠ none) → ∃ T : List (Addr × HO), (∀ a, a ∈ T.map (·.1) ↔ a ∈ O ∧ a ∉ CA) ∧ (∀ t ∈ T, H t.1 = some t.2) ∧ ∀ t ∈ T, t.1 ∉ CA := by
    intro O
    induction O with
    | nil => exact fun _ => ⟨[], fun a => ⟨fun z => (nomatch z), fun z => nomatch z.1⟩, fun _ z => (nomatch z), fun _ z => nomatch z⟩
    | cons p O ih =>
      intro hO
      obtain ⟨T, e, h, hn⟩ := ih fun q z => hO q (List.mem_cons_of_mem _ z)
      by_cases hp : p ∈ CA
      · refine ⟨T, fun a => (e a).trans ⟨fun z => ⟨List.mem_cons_of_mem _ z.1, z.2⟩, fun z => ⟨(List.mem_cons.mp z.1).elim (fun w => absurd (w ▸ hp) z.2) id, z.2⟩⟩, h, hn⟩
      · cases q : H p with
        | none => exact absurd q (hO p List.mem_cons_self)
        | some o =>
          refine ⟨(p, o) :: T, fun a => ?_, fun t z => ?_, fun t z => ?_⟩
          · rw [List.map_cons, List.mem_cons, List.mem_cons, e a]
            constructor
            · rintro (z | z)
              · exact ⟨.inl z, fun w => hp (by rw [z] at w; exact w)⟩
              · exact ⟨.inr z.1, z.2⟩
            · rintro ⟨z | z, w⟩
              · exact .inl z
              · exact .inr ⟨z, w⟩
          · rcases List.mem_cons.mp z with z | z
            · subst z; exact q
            · exact h t z
          · rcases List.mem_cons.mp z with z | z
            · subst z; exact hp
            · exact hn t z
  obtain ⟨T, e, h, hn⟩ := key O hO
  refine ⟨T, fun a => ?_, h, hn⟩
  rw [List.mem_append, e a]
  constructor
  · rintro (z | z)
    · exact z.1
    · exact hC a z
  · intro z
    by_cases w : a ∈ CA
    · exact .inr w
    · exact .inl ⟨z, w⟩
theorem rel_start {K : PySem.W.Frag} {H : Hp} {O : List Addr} {N : List Str} {vs : List V} {ds : List PyData} (hO : ∀ p ∈ O, H p ≠ none) (tb : TbOk H) (hC : ∀ p ∈ CA, p ∈ O) (a : DqAll K (hid H (· ∈ O)) vs ds) (hl : ds.length ≤ N.length) :
    ∃ T : List (Addr × HO), (∀ a, a ∈ ThA T ↔ a ∈ O) ∧ Rel K H [] T (L2.start N vs) H (ds.map Sl.va ++ List.replicate (N.length - ds.length) .no) ∧ ∀ q, Hd T (L2.start N vs) (ds.map Sl.va ++ List.replicate (N.length - ds.length) .no) q ↔ q ∈ O := by
  obtain ⟨T, eT, hT, hN⟩ := tops_of hO hC
  have lv := dpAll_len a
  have noOw : ∀ i p, ¬ OwnAt (L2.start N vs) (ds.map Sl.va ++ List.replicate (N.length - ds.length) .no) i p := by
    rintro i p ⟨s, e, w, _⟩
    by_cases h : i < ds.length
    · rw [List.getElem?_append_left (by simpa using h), List.getElem?_map] at e
      obtain ⟨d, _, rfl⟩ := Option.map_eq_some_iff.mp e
      exact w
    · rw [List.getElem?_append_right (by simpa using h), List.getElem?_replicate] at e
      split at e
      · cases e; exact w
      · cases e
  have hd : ∀ q, Hd T (L2.start N vs) (ds.map Sl.va ++ List.replicate (N.length - ds.length) .no) q ↔ q ∈ O := fun q => by
    unfold Hd
    rw [eT]
    exact ⟨fun z => z.elim id fun ⟨i, z⟩ => (noOw i q z).elim, .inl⟩
  refine ⟨T, eT, ⟨?_, fun i s e => ?_, fun i _ p z => (noOw i p z).elim, fun i p z => (noOw i p z).elim, hT, fun i p z => (noOw i p z).elim, fun b o e _ _ => e, fun b z => (nomatch z), tb, hN, fun c hc => (nomatch hc), trivial⟩, hd⟩
  · unfold L2.start
    simp only [List.length_append, List.length_map, List.length_replicate]
    omega
  · rw [show Hd T (L2.start N vs) (ds.map Sl.va ++ List.replicate (N.length - ds.length) .no) = (· ∈ O) from funext fun q => propext (hd q)]
    by_cases h : i < ds.length
    · rw [List.getElem?_append_left (by simpa using h), List.getElem?_map] at e
      obtain ⟨d, e1, rfl⟩ := Option.map_eq_some_iff.mp e
      obtain ⟨v, e2, r⟩ := dpAll_get a e1
      rw [start_get, if_pos (by omega), e2]
      exact .va r
    · rw [List.getElem?_append_right (by simpa using h), List.getElem?_replicate] at e
      split at e
      · cases e; exact .no _
      · cases e
section
variable {P : Program} {w : World} {K : PySem.W.Frag} {mg : Str → Option Value} {base : Heap}
theorem spP_len {np nn : Nat} {m : M Fl} {vs : List V} {H : Hp} {Q : VK} {E : XK} (h : spP K mg (defP np nn m) vs H Q E) : vs.length = np := by
  obtain ⟨O, ds, _, _, _, a, z⟩ := h
  rw [dpAll_len a]
  unfold defP at z
  by_cases hl : ds.length = np
  · exact hl
  · rw [if_neg hl] at z
    exact z.elim
/-- the wish about exceptions in a def's body -/
abbrev WDef (E : XK) : WX := fun cls d _ H => E cls d H
theorem fnP_of {x qual : Str} {st : Stmt} {f : Addr} {fd : FuncData} {N ps : List Str} {k : Nat} {m : M Fl} (F : FunX K x qual st f fd) (S : FnScope N ps (defScope st)) (hN : ps.length ≤ N.length)
    (hbody : ∀ X : Cx, (∃ A outer s H E, X = cxOf (L2.CX P w) P w K mg base N qual (defScope st) f fd.code A outer s H E) → Room k X.A → X.A.guards = some [] → PassesOwn (model X.prog X.w) X.A X.env X.xe → ∀ E : XK, Takes X (WDef E) → EvSs X (WDef E) (defBody st) m) :
    FnG P w K mg base (k + 1) f fd ps (spP K mg (defP ps.length N.length m)) := by
  refine fnG_of F S (fun vs H Q E h => spP_len h) fun A outer s H vs Q E hr hg hsp => ?_
  obtain ⟨t, pt, C⟩ := (hbody (cxOf (L2.CX P w) P w K mg base N qual (defScope st) f fd.code A outer s H E) ⟨A, outer, s, H, E, rfl⟩ hr hg (passes_of rfl) E (takes_of rfl rfl rfl rfl)).ex
  refine ⟨t, pt, ?_⟩
  have hlen := spP_len hsp
  obtain ⟨O, ds, hO, tb, hC, a, z⟩ := hsp
  have lv := dpAll_len a
  obtain ⟨T, eT, R, hd⟩ := rel_start (N := N) hO tb hC a (by omega)
  refine C H [] T (L2.start N vs) H _ _ R ?_
  have eh : ∀ {σ' : L2.St} {e' : Vn} (H' : Hp), Same (hid H' (Hd T σ' e')) (hid H' (· ∈ O)) := fun H' => hid_less fun q z => .inl ((eT q).mpr z)
  unfold defP at z
  rw [if_pos (by omega), ← hlen, lv] at z
  cases q : m (ds.map Sl.va ++ List.replicate (N.length - ds.length) .no) with
  | bad => rw [q] at z; exact z
  | ex x e' =>
    rw [q] at z
    intro cls dd σ' H' R' l r
    obtain ⟨C1, h1, h2, h3⟩ := r
    exact z cls dd H' ⟨fun b o e n => R'.keep b o e (fun z => (nomatch z)) n, R'.tab⟩ ⟨C1, h1, h2, fun nz => let ⟨a1, v1, z1, z2, z3⟩ := h3 nz; ⟨a1, v1, z1, eh H' _ _ z2, dpAllUp (eh H') z3⟩⟩
  | ok pr =>
    obtain ⟨fl, e'⟩ := pr
    rw [q] at z
    cases fl with
    | nx => exact fun σ' H' R' l => z .non H' ⟨fun b o e n => R'.keep b o e (fun z => (nomatch z)) n, R'.tab⟩ .non
    | br => exact z.elim
    | ct => exact z.elim
    | rt r =>
      cases r with
      | v d => exact fun v σ' H' R' l r => z v H' ⟨fun b o e n => R'.keep b o e (fun z => (nomatch z)) n, R'.tab⟩ (dpUp (eh H') r)
      | f us =>
        intro p xs σ' H' h0 hp R' l r
        refine z (.ref p) H' ⟨fun b o e n => R'.keep b o e (fun z => (nomatch z)) n, R'.tab⟩ ⟨p, xs, rfl, h0, hp, dpAllUp (hid_less fun q z => ?_) r⟩
        rcases z with z | z
        · subst z; exact .inl List.mem_cons_self
        · exact .inl (List.mem_cons_of_mem _ ((eT q).mpr z))
theorem rel_startB {K : PySem.W.Frag} {H : Hp} {O : List Addr} {N : List Str} {p : Addr} {xs : List V} {cs : List PyData} {vs : List V} {ds : List PyData} (hO : ∀ p ∈ O, H p ≠ none) (tb : TbOk H) (hC : ∀ p ∈ CA, p ∈ O) (hp : p ∉ O) (e0 : H p = some (.lst xs)) (a0 : DqAll K (hid H (fun a => a = p ∨ a ∈ O)) xs cs)
    (a : DqAll K (hid H (fun a => a = p ∨ a ∈ O)) vs ds) (hl : ds.length + 1 ≤ N.length) :
    ∃ T : List (Addr × HO), (∀ a, a ∈ ThA T ↔ a ∈ O) ∧ Rel K H [(0, p)] T (L2.start N (.ref p :: vs)) H (.bo cs :: ds.map Sl.va ++ List.replicate (N.length - (ds.length + 1)) .no) := by
  obtain ⟨T, eT, hT, hN⟩ := tops_of hO hC
  have lv := dpAll_len a
  have s0 : (L2.start N (.ref p :: vs))[0]? = some (some (.ref p)) := by rw [start_get, if_pos (by simp)]; rfl
  have ow0 : ∀ i q, OwnAt (L2.start N (.ref p :: vs)) (.bo cs :: ds.map Sl.va ++ List.replicate (N.length - (ds.length + 1)) .no) i q ↔ i = 0 ∧ q = p := by
    intro i q
    constructor
    · rintro ⟨s, e, w, z⟩
      cases i with
      | zero =>
        rw [s0] at z
        cases z
        exact ⟨rfl, rfl⟩
      | succ i =>
        have e : (ds.map Sl.va ++ List.replicate (N.length - (ds.length + 1)) Sl.no)[i]? = some s := e
        by_cases h : i < ds.length
        · rw [List.getElem?_append_left (by simpa using h), List.getElem?_map] at e
          obtain ⟨d, _, rfl⟩ := Option.map_eq_some_iff.mp e
          exact w.elim
        · rw [List.getElem?_append_right (by simpa using h), List.getElem?_replicate] at e
          split at e
          · cases e; exact w.elim
          · cases e
    · rintro ⟨rfl, rfl⟩
      exact ⟨.bo cs, rfl, trivial, s0⟩
  have hd : Hd T (L2.start N (.ref p :: vs)) (.bo cs :: ds.map Sl.va ++ List.replicate (N.length - (ds.length + 1)) .no) = fun a => a = p ∨ a ∈ O := funext fun q => propext (by
    unfold Hd
    rw [eT]
    constructor
    · rintro (z | ⟨i, z⟩)
      · exact .inr z
      · exact .inl ((ow0 i q).mp z).2
    · rintro (z | z)
      · exact .inr ⟨0, (ow0 0 q).mpr ⟨rfl, z⟩⟩
      · exact .inl z)
  refine ⟨T, eT, ⟨?_, fun i s e => ?_, fun i j q a b => (((ow0 i q).mp a).1).trans (((ow0 j q).mp b).1).symm, fun i q z => ?_, hT, fun i q z => ?_, fun b o e _ _ => e, fun b z => ?_, tb, hN, fun c hc => (nomatch hc), trivial⟩⟩
  · unfold L2.start
    simp only [List.length_append, List.length_map, List.length_replicate, List.length_cons]
    omega
  · rw [hd]
    cases i with
    | zero =>
      cases e
      rw [s0]
      exact .bo e0 a0
    | succ i =>
      have e : (ds.map Sl.va ++ List.replicate (N.length - (ds.length + 1)) Sl.no)[i]? = some s := e
      by_cases h : i < ds.length
      · rw [List.getElem?_append_left (by simpa using h), List.getElem?_map] at e
        obtain ⟨d, e1, rfl⟩ := Option.map_eq_some_iff.mp e
        obtain ⟨v, e2, r⟩ := dpAll_get a e1
        rw [start_get, if_pos (by simp; omega), List.getElem?_cons_succ, e2]
        exact .va r
      · rw [List.getElem?_append_right (by simpa using h), List.getElem?_replicate] at e
        split at e
        · cases e; exact .no _
        · cases e
  · rw [((ow0 i q).mp z).2, eT]
    exact hp
  · rw [((ow0 i q).mp z).2]
    exact .inl (by simp)
  · have z2 : b = (0, p) := by simpa using z
    subst z2
    exact ⟨⟨cs, rfl⟩, s0⟩
theorem spB_len {np nn : Nat} {m : M Fl} {vs : List V} {H : Hp} {Q : VK} {E : XK} (h : spB K (defB np nn m) vs H Q E) : vs.length = np := by
  obtain ⟨O, p, xs, cs, rest, ds, rfl, _, _, _, _, _, _, a, z⟩ := h
  rw [List.length_cons, dpAll_len a]
  unfold defB at z
  by_cases hl : ds.length + 1 = np
  · exact hl
  · rw [if_neg hl] at z
    exact z.elim
theorem fnB_of {x qual : Str} {st : Stmt} {f : Addr} {fd : FuncData} {N ps : List Str} {k : Nat} {m : M Fl} (F : FunX K x qual st f fd) (S : FnScope N ps (defScope st)) (hN : ps.length ≤ N.length)
    (hbody : ∀ X : Cx, (∃ A outer s H E, X = cxOf (L2.CX P w) P w K mg base N qual (defScope st) f fd.code A outer s H E) → Room k X.A → X.A.guards = some [] → PassesOwn (model X.prog X.w) X.A X.env X.xe → ∀ E : XK, Takes X (WDef E) → EvSs X (WDef E) (defBody st) m) :
    FnG P w K mg base (k + 1) f fd ps (spB K (defB ps.length N.length m)) := by
  refine fnG_of F S (fun vs H Q E h => spB_len h) fun A outer s H vs Q E hr hg hsp => ?_
  obtain ⟨t, pt, C⟩ := (hbody (cxOf (L2.CX P w) P w K mg base N qual (defScope st) f fd.code A outer s H E) ⟨A, outer, s, H, E, rfl⟩ hr hg (passes_of rfl) E (takes_of rfl rfl rfl rfl)).ex
  refine ⟨t, pt, ?_⟩
  have hlen := spB_len hsp
  obtain ⟨O, p, xs, cs, rest, ds, rfl, hO, tb, hC, hp, e0, a0, a, z⟩ := hsp
  have lv := dpAll_len a
  rw [List.length_cons] at hlen
  obtain ⟨T, eT, R⟩ := rel_startB (N := N) hO tb hC hp e0 a0 a (by omega)
  refine C H [(0, p)] T (L2.start N (.ref p :: rest)) H _ _ R ?_
  unfold defB at z
  rw [if_pos (by omega), ← hlen, lv] at z
  have kept : ∀ {σ' : L2.St} {e' : Vn} {T' : List (Addr × HO)} {H' : Hp}, Rel K H [(0, p)] T' σ' H' e' → ∀ b o, b ≠ p → b ∉ CA → H b = some o → H' b = some o := fun R' b o nb nc e => R'.keep b o e (by simpa using nb) nc
  have own0 : ∀ {σ' : L2.St} {e' : Vn} {T' : List (Addr × HO)} {H' : Hp} {cs' : List PyData} {r : Vn}, Rel K H [(0, p)] T' σ' H' e' → e' = .bo cs' :: r → (∃ ys, H' p = some (.lst ys) ∧ DqAll K (hid H' (Hd T' σ' e')) ys cs') ∧ Hd T' σ' e' p := by
    intro σ' e' T' H' cs' r R' ee
    obtain ⟨_, e2⟩ := R'.bor (0, p) (by simp)
    have e3 : e'[0]? = some (.bo cs') := by rw [ee]; rfl
    have z := R'.sl 0 _ e3
    have e2 : σ'[0]? = some (some (.ref p)) := e2
    rw [e2] at z
    cases z with
    | bo q a => exact ⟨⟨_, q, a⟩, .inr ⟨0, _, e3, trivial, e2⟩⟩
  have less : ∀ {σ' : L2.St} {e' : Vn} {T' : List (Addr × HO)} (H' : Hp), Hd T' σ' e' p → (∀ a ∈ O, a ∈ ThA T') → Same (hid H' (Hd T' σ' e')) (hid H' (fun a => a = p ∨ a ∈ O)) := fun H' hp' hT' => hid_less fun a z => by
    rcases z with z | z
    · rw [z]; exact hp'
    · exact .inl (hT' a z)
  cases q : m (.bo cs :: ds.map Sl.va ++ List.replicate (N.length - (ds.length + 1)) .no) with
  | bad => rw [q] at z; exact z.elim
  | ex x e' => rw [q] at z; exact z.elim
  | ok pr =>
    obtain ⟨fl, e'⟩ := pr
    rw [q] at z
    cases e' with
    | nil => cases fl <;> exact z.elim
    | cons s0 er =>
      cases s0 with
      | no => cases fl <;> exact z.elim
      | xc => cases fl <;> exact z.elim
      | va d => cases fl <;> exact z.elim
      | ow es => cases fl <;> exact z.elim
      | bo cs' =>
        cases fl with
        | br => exact z.elim
        | ct => exact z.elim
        | nx =>
          intro σ' H' R' l
          obtain ⟨⟨ys, hy, da⟩, hp'⟩ := own0 R' rfl
          exact z .non H' ys (kept R') R'.tab hy ⟨dpAllUp (less H' hp' fun a z => (eT a).mpr z) da, .non⟩
        | rt r =>
          cases r with
          | v d =>
            intro v σ' H' R' l r
            obtain ⟨⟨ys, hy, da⟩, hp'⟩ := own0 R' rfl
            exact z v H' ys (kept R') R'.tab hy ⟨dpAllUp (less H' hp' fun a z => (eT a).mpr z) da, dpUp (less H' hp' fun a z => (eT a).mpr z) r⟩
          | f us =>
            intro pn xn σ' H' h0 hpn R' l r
            obtain ⟨⟨ys, hy, da⟩, hp'⟩ := own0 R' rfl
            have less2 : Same (hid H' (Hd ((pn, HO.lst xn) :: T) σ' (.bo cs' :: er))) (hid H' (fun a => a = pn ∨ (a = p ∨ a ∈ O))) := hid_less fun a z => by
              rcases z with z | z | z
              · rw [z]; exact .inl List.mem_cons_self
              · rw [z]; exact hp'
              · exact .inl (List.mem_cons_of_mem _ ((eT a).mpr z))
            exact z (.ref pn) H' ys (kept R') R'.tab hy ⟨pn, xn, rfl, h0, hpn, dpAllUp less2 da, dpAllUp less2 r⟩
end
end
end Fx
namespace Fx
open PySem PySem.Spec PyProof.Rows L2
variable [Tb] [Fr]

/-! ### operators by values -/
def gAdd : PyData → PyData → Option PyData
  | .int i, .int j => some (.int (i + j))
  | .tuple xs, .tuple ys => if xs.length + ys.length ≤ 1000000 then some (.tuple (xs ++ ys)) else none
  | .str x, .str y => if x.length + y.length ≤ 1000000 then some (.str (x ++ y)) else none
  | .list xs, .list ys => if xs.length + ys.length ≤ 1000000 then some (.list (xs ++ ys)) else none
  | _, _ => none
def gSub : PyData → PyData → Option PyData
  | .int i, .int j => some (.int (i - j))
  | _, _ => none
def gMul : PyData → PyData → Option PyData
  | .int i, .int j => if i.natAbs.log2 + j.natAbs.log2 < 1000000 then some (.int (i * j)) else none
  | .list xs, .int k => if -(2 ^ 63) ≤ k ∧ k < 2 ^ 63 ∧ xs.length * k.toNat ≤ 1000000 then some (.list (List.replicate k.toNat xs).flatten) else none
  | .tuple xs, .int k => if xs.isEmpty = false ∧ 2 ≤ k ∧ k ≤ 1000 ∧ xs.length ≤ 1000 then some (.tuple (List.replicate k.toNat xs).flatten) else none
  | _, _ => none
theorem dpAll_rep {K : PySem.W.Frag} {H : Hp} {xs : List V} {ds : List PyData} (h : DqAll K H xs ds) : ∀ n, DqAll K H (List.replicate n xs).flatten (List.replicate n ds).flatten
  | 0 => .nil
  | n + 1 => by
    rw [List.replicate_succ, List.replicate_succ, List.flatten_cons, List.flatten_cons]
    exact dpAll_app h (dpAll_rep h n)
def gFdiv : PyData → PyData → Option PyData
  | .int i, .int j => if 0 < j ∧ j.natAbs.log2 < 9000 then some (.int (i / j)) else none
  | _, _ => none
def gMod : PyData → PyData → Option PyData
  | .int i, .int j => if 0 < j then some (.int (i % j)) else none
  | _, _ => none
def gPow : PyData → PyData → Option PyData
  | .int i, .int j => if 0 ≤ j ∧ (Builtin.Int.intBits i : Int) * j ≤ 2 ^ 27 then some (.int (i ^ j.toNat)) else none
  | _, _ => none
def gCmpI (p : Int → Int → Bool) : PyData → PyData → Option PyData
  | .int i, .int j => some (.bool (p i j))
  | _, _ => none
def gCmpX (p : Int → Int → Bool) (q : List Nat → List Nat → Bool) : PyData → PyData → Option PyData
  | .int i, .int j => some (.bool (p i j))
  | .str x, .str y => some (.bool (q x.cps.toList y.cps.toList))
  | _, _ => none
abbrev gLt := gCmpX (fun i j => decide (i < j)) fun x y => decide (x < y)
abbrev gLe := gCmpX (fun i j => decide (i ≤ j)) fun x y => !decide (y < x)
abbrev gGt := gCmpX (fun i j => decide (j < i)) fun x y => decide (y < x)
abbrev gGe := gCmpX (fun i j => decide (j ≤ i)) fun x y => !decide (x < y)
/-- a sign in a text -/
def gIn : PyData → PyData → Option PyData
  | .str x, .str z => (match x.cps.toList with | [c] => some (.bool (decide (c ∈ z.cps.toList))) | _ => none)
  | _, _ => none
def gNotIn : PyData → PyData → Option PyData
  | .str x, .str z => (match x.cps.toList with | [c] => some (.bool (!decide (c ∈ z.cps.toList))) | _ => none)
  | _, _ => none
def eqOk : PyData → PyData → Bool
  | .str _, .str _ => true
  | a, b => SeqAt.shaped a && SeqAt.shaped b
def gEq (a b : PyData) : Option PyData := if eqOk a b = true then some (.bool (PyData.eqv a b)) else none
def gNe (a b : PyData) : Option PyData := if eqOk a b = true then some (.bool (!PyData.eqv a b)) else none
theorem eqOk_cases {a b : PyData} (h : eqOk a b = true) : (∃ x y, a = .str x ∧ b = .str y) ∨ (SeqAt.shaped a = true ∧ SeqAt.shaped b = true) := by
  unfold eqOk at h
  split at h
  · exact .inl ⟨_, _, rfl, rfl⟩
  · exact .inr (Bool.and_eq_true_iff.mp h)
theorem eqv_strs (x y : Str) : PyData.eqv (.str x) (.str y) = decide (V.str x = V.str y) := by
  rw [dec_str]
  rfl
def gIsN (a b : PyData) : Option PyData :=
  match a, b with
  | .none, .none => some (.bool true)
  | _, .none => some (.bool false)
  | _, _ => none
def gNotN (a b : PyData) : Option PyData :=
  match a, b with
  | .none, .none => some (.bool false)
  | _, .none => some (.bool true)
  | _, _ => none
section
variable {X : Cx}
theorem OpV.ofI {f : Value → Value → Sem Value} {C : Int → Int → Prop} {g : Int → Int → V} {h : PyData → PyData → Option PyData} (o : OpR X f (rI C g)) (hh : ∀ i j d, h (.int i) (.int j) = some d → C i j ∧ ∀ H, Dq X.K H (g i j) d) (hn : ∀ a b d, h a b = some d → ∃ i j, a = .int i ∧ b = .int j) : OpV X f h :=
  ⟨_, o, fun O H x y a b d Q hO h1 h2 e q => by
    obtain ⟨i, j, rfl, rfl⟩ := hn a b d e
    cases h1
    cases h2
    obtain ⟨c, r⟩ := hh i j d e
    exact ⟨i, j, rfl, rfl, c, q _ H (Same.refl H) (r _)⟩⟩
theorem op_powW : OpR X (binaryOp .Pow) (rI (fun i j => 0 ≤ j ∧ (Builtin.Int.intBits i : Int) * j ≤ 2 ^ 27) fun i j => .int (i ^ j.toNat)) := opI fun _ _ _ _ _ _ _ hc q => pow_int hc.1 hc.2 q
theorem ov_mul : OpV X (binaryOp .Mult) gMul := ⟨_, OpR.or op_mulW (OpR.or op_rep op_repT), fun O H x y a b d Q hO h1 h2 e k => by
  cases h1 with
  | int i =>
    cases h2 with
    | int j =>
      simp only [gMul] at e
      split at e
      · rename_i hc
        cases e
        exact .inl ⟨i, j, rfl, rfl, hc, k _ H (Same.refl H) (.int _)⟩
      · cases e
    | _ => cases e
  | lst t1 a1 =>
    cases h2 with
    | int j =>
      simp only [gMul] at e
      split at e
      · rename_i hz
        cases e
        refine .inr (.inl ⟨_, j, _, rfl, rfl, hid_sub _ _ t1, hz.1, hz.2.1, by rw [dpAll_len a1]; exact Nat.le_trans hz.2.2 mil, fun p hp => ?_⟩)
        exact k _ _ (same_new hp) (lst_new hO hp (dpAll_rep a1 _))
      · cases e
    | _ => cases e
  | tup t1 a1 =>
    cases h2 with
    | int j =>
      simp only [gMul] at e
      split at e
      · rename_i hz
        cases e
        refine .inr (.inr ⟨_, j, _, rfl, rfl, seqT_up hid_sub t1, fun z => ?_, hz.2.1, hz.2.2.1, by rw [dpAll_len a1]; exact hz.2.2.2, fun p hp => ?_⟩)
        · subst z
          cases a1
          cases hz.1
        · exact k _ _ (same_new hp) (tup_new hO hp (dpAll_rep a1 _))
      · cases e
    | _ => cases e
  | _ => cases h2 <;> cases e⟩
theorem ov_fdiv : OpV X (binaryOp .FloorDiv) gFdiv := .ofI op_fdivW (fun i j d e => by
    simp only [gFdiv] at e
    split at e
    · cases e; exact ⟨by assumption, fun H => .int _⟩
    · cases e) fun a b d e => by cases a <;> cases b <;> first | exact ⟨_, _, rfl, rfl⟩ | cases e
theorem ov_mod : OpV X (binaryOp .Mod) gMod := .ofI op_mod (fun i j d e => by
    simp only [gMod] at e
    split at e
    · cases e; exact ⟨by assumption, fun H => .int _⟩
    · cases e) fun a b d e => by cases a <;> cases b <;> first | exact ⟨_, _, rfl, rfl⟩ | cases e
theorem ov_pow : OpV X (binaryOp .Pow) gPow := .ofI op_powW (fun i j d e => by
    simp only [gPow] at e
    split at e
    · cases e; exact ⟨by assumption, fun H => .int _⟩
    · cases e) fun a b d e => by cases a <;> cases b <;> first | exact ⟨_, _, rfl, rfl⟩ | cases e
theorem rI0_I {g : Int → Int → V} {x y : V} {H : Hp} {Q : VK} (h : rI (fun _ _ => True) g x y H Q) : rI0 g x y H Q :=
  let ⟨i, j, e1, e2, _, q⟩ := h
  ⟨i, j, e1, e2, q⟩
theorem OpR.ofI0 {f : Value → Value → Sem Value} {g : Int → Int → V} (h : OpR X f (rI0 g)) : OpR X f (rI (fun _ _ => True) g) := fun pins s σ H x y v u Q I r1 r2 q => h pins s σ H x y v u Q I r1 r2 (rI0_I q)
theorem ov_sub : OpV X (binaryOp .Sub) gSub := .ofI (OpR.ofI0 op_sub) (fun i j d e => by cases e; exact ⟨trivial, fun H => .int _⟩) fun a b d e => by cases a <;> cases b <;> first | exact ⟨_, _, rfl, rfl⟩ | cases e
theorem OpV.ofX {f : Value → Value → Sem Value} {p : Int → Int → Bool} {q : List Nat → List Nat → Bool} (o : OpR X f (rI0 fun i j => .bl (p i j))) (o2 : OpR X f (fun x y H Q => ∃ i j, x = .str i ∧ y = .str j ∧ Q (.bl (q i.cps.toList j.cps.toList)) H)) : OpV X f (gCmpX p q) :=
  ⟨_, OpR.or o o2, fun O H x y a b d Q hO h1 h2 e k => by
    cases h1 with
    | int i =>
      cases h2 with
      | int j => cases e; exact .inl ⟨i, j, rfl, rfl, k _ H (Same.refl H) (.bl _)⟩
      | _ => cases e
    | str z =>
      cases h2 with
      | str w => cases e; exact .inr ⟨z, w, rfl, rfl, k _ H (Same.refl H) (.bl _)⟩
      | _ => cases e
    | _ => cases h2 <;> cases e⟩
theorem ov_lt : OpV X (compareOp .Lt) gLt := .ofX op_lt op_lt_str
theorem ov_le : OpV X (compareOp .LtE) gLe := .ofX op_le op_le_str
theorem ov_gt : OpV X (compareOp .Gt) gGt := .ofX op_gt op_gt_str
theorem ov_ge : OpV X (compareOp .GtE) gGe := .ofX op_ge op_ge_str
theorem sign_of {z : Str} {c : Nat} (h : z.cps.toList = [c]) : z = ⟨#[c]⟩ := by
  obtain ⟨a⟩ := z
  have e : a = #[c] := by
    apply Array.ext'
    exact h
  rw [e]
theorem ov_in : OpV X (compareOp .In) gIn := ⟨_, op_in_sign, fun O H x y a b d Q hO h1 h2 e k => by
  cases h1 with
  | str z =>
    cases h2 with
    | str w =>
      have e2 : (match z.cps.toList with | [c] => some (PyData.bool (decide (c ∈ w.cps.toList))) | _ => none) = some d := e
      split at e2
      · rename_i c hc
        cases e2
        exact ⟨c, w, by rw [sign_of hc], rfl, k _ H (Same.refl H) (.bl _)⟩
      · cases e2
    | _ => cases e
  | _ => cases h2 <;> cases e⟩
theorem ov_notIn : OpV X (compareOp .NotIn) gNotIn := ⟨_, op_notIn_sign, fun O H x y a b d Q hO h1 h2 e k => by
  cases h1 with
  | str z =>
    cases h2 with
    | str w =>
      have e2 : (match z.cps.toList with | [c] => some (PyData.bool (!decide (c ∈ w.cps.toList))) | _ => none) = some d := e
      split at e2
      · rename_i c hc
        cases e2
        exact ⟨c, w, by rw [sign_of hc], rfl, k _ H (Same.refl H) (.bl _)⟩
      · cases e2
    | _ => cases e
  | _ => cases h2 <;> cases e⟩
theorem ov_add : OpV X (binaryOp .Add) gAdd := ⟨_, OpR.or (OpR.ofI0 op_add) (OpR.or op_catA (OpR.or op_add_str op_cat)), fun O H x y a b d Q hO h1 h2 e q => by
  cases h1 with
  | int i =>
    cases h2 with
    | int j => cases e; exact .inl ⟨i, j, rfl, rfl, trivial, q _ H (Same.refl H) (.int _)⟩
    | _ => cases e
  | str z =>
    cases h2 with
    | str w =>
      simp only [gAdd] at e
      split at e
      · rename_i hz
        cases e
        exact .inr (.inr (.inl ⟨z, w, rfl, rfl, Nat.le_trans hz mil, q _ H (Same.refl H) (.str _)⟩))
      · cases e
    | _ => cases e
  | tup t1 a1 =>
    cases h2 with
    | tup t2 a2 =>
      simp only [gAdd] at e
      split at e
      · rename_i hz
        cases e
        refine .inr (.inl ⟨_, _, _, _, rfl, rfl, seqT_up hid_sub t1, seqT_up hid_sub t2, ?_, fun z => ?_, fun _ z => ?_, fun _ _ p hp => ?_⟩)
        · rw [dpAll_len a1, dpAll_len a2]
          exact Nat.le_trans hz mil
        · subst z
          cases a1
          exact q _ H (Same.refl H) (.tup t2 a2)
        · subst z
          cases a2
          rw [List.append_nil] at q
          exact q _ H (Same.refl H) (.tup t1 a1)
        · exact q _ _ (same_new hp) (tup_new hO hp (dpAll_app a1 a2))
      · cases e
    | _ => cases e
  | lst t1 a1 =>
    cases h2 with
    | lst t2 a2 =>
      simp only [gAdd] at e
      split at e
      · rename_i hz
        cases e
        refine .inr (.inr (.inr ⟨_, _, _, _, rfl, rfl, hid_sub _ _ t1, hid_sub _ _ t2, ?_, fun p hp => ?_⟩))
        · rw [dpAll_len a1, dpAll_len a2]
          exact Nat.le_trans hz mil
        · exact q _ _ (same_new hp) (lst_new hO hp (dpAll_app a1 a2))
      · cases e
    | _ => cases e
  | _ => cases h2 <;> cases e⟩
theorem ov_eq (hu : X.A.units + 64 < cLine) : OpV X (compareOp .Eq) gEq := ⟨_, OpR.or (op_eqD hu) op_eq, fun O H x y a b d Q hO h1 h2 e q => by
  unfold gEq at e
  split at e
  · rename_i hz
    cases e
    rcases eqOk_cases hz with ⟨z, w, rfl, rfl⟩ | hz
    · cases h1
      cases h2
      refine .inr ⟨rfl, ?_⟩
      rw [← eqv_strs]
      exact q _ H (Same.refl H) (.bl _)
    · exact .inl ⟨a, b, dqDp (dpUp hid_sub h1) (SeqAt.canLay_of_shaped hz.1), dqDp (dpUp hid_sub h2) (SeqAt.canLay_of_shaped hz.2), hz.1, hz.2, q _ H (Same.refl H) (.bl _)⟩
  · cases e⟩
theorem ov_ne (hu : X.A.units + 64 < cLine) : OpV X (compareOp .NotEq) gNe := ⟨_, OpR.or (op_neD hu) op_ne, fun O H x y a b d Q hO h1 h2 e q => by
  unfold gNe at e
  split at e
  · rename_i hz
    cases e
    rcases eqOk_cases hz with ⟨z, w, rfl, rfl⟩ | hz
    · cases h1
      cases h2
      refine .inr ⟨rfl, ?_⟩
      rw [← eqv_strs]
      exact q _ H (Same.refl H) (.bl _)
    · exact .inl ⟨a, b, dqDp (dpUp hid_sub h1) (SeqAt.canLay_of_shaped hz.1), dqDp (dpUp hid_sub h2) (SeqAt.canLay_of_shaped hz.2), hz.1, hz.2, q _ H (Same.refl H) (.bl _)⟩
  · cases e⟩
theorem dq_non {K : PySem.W.Frag} {H : Hp} {x : V} {a : PyData} (h : Dq K H x a) : decide (x = .non) = (match a with | .none => true | _ => false) := by
  cases h <;> rfl
theorem ov_isN : OpV X (compareOp .Is) gIsN := ⟨_, op_isN, fun O H x y a b d Q hO h1 h2 e q => by
  have hb : b = .none := by cases a <;> cases b <;> first | rfl | cases e
  subst hb
  cases h2
  refine ⟨rfl, ?_⟩
  rw [dq_non h1]
  cases a <;> cases e <;> exact q _ H (Same.refl H) (.bl _)⟩
theorem ov_notN : OpV X (compareOp .IsNot) gNotN := ⟨_, op_notN, fun O H x y a b d Q hO h1 h2 e q => by
  have hb : b = .none := by cases a <;> cases b <;> first | rfl | cases e
  subst hb
  cases h2
  refine ⟨rfl, ?_⟩
  rw [dq_non h1]
  cases a <;> cases e <;> exact q _ H (Same.refl H) (.bl _)⟩
end
/-- -a -/
def mNeg (m : M PyData) : M PyData := m.bind fun d =>
  match d with
  | .int i => M.ret (.int (-i))
  | _ => fun _ => .bad
theorem ev_neg {X : Cx} {W : WX} {a : Expr} {pos : Pos} {m : M PyData} (h : Ev X W a m) : Ev X W (.UnaryOp .USub a pos) (mNeg m) :=
  let ⟨_, p, A⟩ := h.ex
  ⟨_, pe_un un_neg p, A.bind (rep' := Dq X.K) (k := fun (x : V) (σ : L2.St) (H1 : Hp) (Q : VK) => rU (fun i => .int (-i)) x H1 Q) fun H0 B T σ H env Q g d R r P => by
    cases r with
    | int i => exact ⟨i, rfl, P _ H R .refl (.int _)⟩
    | _ => exact P.elim⟩
/-- xs[::-1], xs a list -/
def mRevL (m : M PyData) : M PyData := m.bind fun d =>
  match d with
  | .list xs => M.ret (.list xs.reverse)
  | _ => fun _ => .bad
theorem ev_revL {X : Cx} {W : WX} {e : Expr} {k : Nat} {p1 p2 p3 pos : Pos} {m : M PyData} (h : Ev X W e m) : Ev X W (.Subscript e (.Slice none none (some (.UnaryOp .USub (.Constant (.int 1) k p1) p2)) p3) pos) (mRevL m) :=
  let ⟨_, p, A⟩ := h.ex
  ⟨_, pe_revL p, A.bind (rep' := Dq X.K) (k := fun (x : V) (σ : L2.St) (H1 : Hp) (Q : VK) => ∃ a xs, x = .ref a ∧ SqL X.K H1 a xs ∧ ∀ p, H1 p = none → Q (.ref p) (upd H1 p (.lst xs.reverse))) fun H0 B T σ H env Q g d R r P => by
    cases r with
    | lst t a => exact ⟨_, _, rfl, .inl (.inl (hid_sub _ _ t)), fun p hp => P _ _ (R.grow (same_new hp)) (.of (same_new hp)) (lst_new (fun q z => R.hdThere z) hp (dpAll_rev a))⟩
    | _ => exact P.elim⟩
end Fx
namespace Fx
open PySem PySem.Spec PyProof.Rows L2

/-! ### reckoning with the mirrors -/
section
variable {α β : Type}
@[simp] theorem ap_bind (m : M α) (f : α → M β) (e : Vn) : M.bind m f e = (match m e with | .ok (a, e') => f a e' | .ex x e' => .ex x e' | .bad => .bad) := rfl
@[simp] theorem ap_opt (o : Option α) (e : Vn) : M.opt o e = (match o with | some a => .ok (a, e) | none => .bad) := rfl
@[simp] theorem ap_name (i : Nat) (env : Vn) : mName i env = (match env[i]? with | some (.va d) => .ok (d, env) | some (.ow ds) => .ok (.list ds, env.set i (.va (.list ds))) | _ => .bad) := rfl
@[simp] theorem ap_op (g : PyData → PyData → Option PyData) (ma mb : M PyData) (ev : Vn) : mOp g ma mb ev = (ma.bind fun a => mb.bind fun b => M.opt (g a b)) ev := rfl
@[simp] theorem ap_bool (m : M PyData) (ev : Vn) : mBool m ev = (m.bind fun d => (match d with | .bool b => M.ret b | _ => fun _ => .bad)) ev := rfl
@[simp] theorem ap_chain (g g' : PyData → PyData → Option PyData) (ma mb mc : M PyData) (ev : Vn) : mChain g g' ma mb mc ev = (ma.bind fun a => mb.bind fun b => (M.opt (g a b)).bind fun d => (match d with | .bool true => mc.bind fun c => M.opt (g' b c) | .bool false => M.ret (.bool false) | _ => fun _ => .bad)) ev := rfl
@[simp] theorem ap_and (m n : M Bool) (ev : Vn) : mAnd m n ev = (m.bind fun c => if c = true then n else M.ret false) ev := rfl
@[simp] theorem ap_or (m n : M Bool) (ev : Vn) : mOr m n ev = (m.bind fun c => if c = true then M.ret true else n) ev := rfl
@[simp] theorem ap_not (m : M Bool) (ev : Vn) : mNot m ev = (m.bind fun c => M.ret (!c)) ev := rfl
@[simp] theorem ap_if (c : M Bool) (a b : M α) (ev : Vn) : mIf c a b ev = (c.bind fun k => if k = true then a else b) ev := rfl
@[simp] theorem ap_truth (m : M PyData) (ev : Vn) : mTruth m ev = (m.bind fun d => M.opt (truthD d)) ev := rfl
@[simp] theorem ap_andV (m n : M PyData) (ev : Vn) : mAndV m n ev = (m.bind fun d => (match d with | .bool true => n | .bool false => M.ret (.bool false) | _ => fun _ => .bad)) ev := rfl
@[simp] theorem ap_orV (m n : M PyData) (ev : Vn) : mOrV m n ev = (m.bind fun d => (match d with | .bool true => M.ret (.bool true) | .bool false => n | _ => fun _ => .bad)) ev := rfl
@[simp] theorem ap_notV (m : M PyData) (ev : Vn) : mNotV m ev = (m.bind fun d => (match d with | .bool b => M.ret (.bool (!b)) | _ => fun _ => .bad)) ev := rfl
@[simp] theorem ap_nil (ev : Vn) : mNil ev = (M.ret []) ev := rfl
@[simp] theorem ap_cons (m : M PyData) (ms : M (List PyData)) (ev : Vn) : mCons m ms ev = (m.bind fun d => ms.bind fun ds => M.ret (d :: ds)) ev := rfl
@[simp] theorem ap_tup (ms : M (List PyData)) (ev : Vn) : mTup ms ev = (ms.bind fun ds => M.opt (if ds.length ≤ 100000 then some (.tuple ds) else none)) ev := rfl
@[simp] theorem ap_lstD (ms : M (List PyData)) (ev : Vn) : mLstD ms ev = (ms.bind fun ds => M.opt (if ds.length ≤ 100000 then some ds else none)) ev := rfl
@[simp] theorem ap_lst (m : M (List PyData)) (ev : Vn) : mLst m ev = (m.bind fun ds => M.ret (.list ds)) ev := rfl
@[simp] theorem ap_ix (ma mb : M PyData) (ev : Vn) : mIx ma mb ev = (mOp gIx ma mb) ev := rfl
@[simp] theorem ap_callV (g : List PyData → Option PyData) (ms : M (List PyData)) (ev : Vn) : mCallV g ms ev = (ms.bind fun ds => M.opt (g ds)) ev := rfl
@[simp] theorem ap_isi (b : String → Bool) (m : M PyData) (ev : Vn) : mIsi b m ev = (m.bind fun d => M.ret (.bool (b (tyName d)))) ev := rfl
@[simp] theorem ap_out (o : Out Rv) (e : Vn) : M.out o e = (match o with | .ok r => .ok (r.d, e) | .ex x => .ex x e | .bad => .bad) := rfl
@[simp] theorem ap_outF (o : Out Rv) (e : Vn) : M.outF o e = (match o with | .ok (.f ds) => .ok (ds, e) | .ok (.v _) => .bad | .ex x => .ex x e | .bad => .bad) := rfl
@[simp] theorem ap_call (F : List PyData → Out Rv) (dds : List PyData) (ms : M (List PyData)) (ev : Vn) : mCall F dds ms ev = (ms.bind fun ds => M.out (F (ds ++ dds))) ev := rfl
@[simp] theorem ap_callF (F : List PyData → Out Rv) (dds : List PyData) (ms : M (List PyData)) (ev : Vn) : mCallF F dds ms ev = (ms.bind fun ds => M.outF (F (ds ++ dds))) ev := rfl
@[simp] theorem ap_set (i : Nat) (d : PyData) (env : Vn) : gSet i d env = (match env[i]? with | some (.bo _) => none | some .xc => none | some _ => some (env.set i (.va d)) | none => none) := rfl
@[simp] theorem ap_items (m : M PyData) (ev : Vn) : mItems m ev = (m.bind fun d => M.opt (itemsD d)) ev := rfl
@[simp] theorem ap_seq (m n : M Fl) (env : Vn) : mSeq m n env = (match m env with | .ok (.nx, e) => n e | r => r) := rfl
@[simp] theorem ap_skip (ev : Vn) : mSkip ev = (M.ret .nx) ev := rfl
@[simp] theorem ap_g (g : PyData → Vn → Option Vn) (m : M PyData) (ev : Vn) : mG g m ev = (m.bind fun d env => (match g d env with | some e => .ok (.nx, e) | none => .bad)) ev := rfl
@[simp] theorem ap_setF (i : Nat) (m : M (List PyData)) (ev : Vn) : mSetF i m ev = (m.bind fun ds env => (match env[i]? with | none => .bad | some (.bo _) => .bad | some .xc => .bad | some _ => .ok (.nx, env.set i (.ow ds)))) ev := rfl
@[simp] theorem ap_par2 (i j : Nat) (ms : M (List PyData)) (ev : Vn) : mPar2 i j ms ev = (ms.bind fun ds env => (match ds with | [a, b] => (match (gSet i a env).bind (gSet j b) with | some e => .ok (.nx, e) | none => .bad) | _ => .bad)) ev := rfl
@[simp] theorem ap_par3 (i j l : Nat) (ms : M (List PyData)) (ev : Vn) : mPar3 i j l ms ev = (ms.bind fun ds env => (match ds with | [a, b, c] => (match (gSet i a env).bind fun e => (gSet j b e).bind (gSet l c) with | some e => .ok (.nx, e) | none => .bad) | _ => .bad)) ev := rfl
@[simp] theorem ap_retS (m : M PyData) (ev : Vn) : mRet m ev = (m.bind fun d => M.ret (.rt (.v d))) ev := rfl
@[simp] theorem ap_retF (m : M (List PyData)) (ev : Vn) : mRetF m ev = (m.bind fun ds => M.ret (.rt (.f ds))) ev := rfl
@[simp] theorem ap_do (m : M PyData) (ev : Vn) : mDo m ev = (m.bind fun _ => M.ret .nx) ev := rfl
@[simp] theorem ap_neg (m : M PyData) (ev : Vn) : mNeg m ev = (m.bind fun d => (match d with | .int i => M.ret (.int (-i)) | _ => fun _ => .bad)) ev := rfl
@[simp] theorem ap_revL (m : M PyData) (ev : Vn) : mRevL m ev = (m.bind fun d => (match d with | .list xs => M.ret (.list xs.reverse) | _ => fun _ => .bad)) ev := rfl
@[simp] theorem ap_rng1 (m : M PyData) (ev : Vn) : mRng1 m ev = (m.bind fun d => (match d with | .int j => if -1000000 ≤ j ∧ j ≤ 1000000 then M.ret (rngD 0 j.toNat) else fun _ => .bad | _ => fun _ => .bad)) ev := rfl
@[simp] theorem ap_for (g : PyData → Vn → Option Vn) (body : M Fl) (its : M (List PyData)) (ev : Vn) : mFor g body its ev = (its.bind fun ds => forM g body ds) ev := rfl
@[simp] theorem ap_for0 (g : PyData → Vn → Option Vn) (body : M Fl) (ev : Vn) : forM g body [] ev = (M.ret .nx) ev := rfl
@[simp] theorem ap_for1 (g : PyData → Vn → Option Vn) (body : M Fl) (d : PyData) (ds : List PyData) (env : Vn) : forM g body (d :: ds) env = (match g d env with | none => .bad | some e1 => (match body e1 with | .ok (.nx, e2) => forM g body ds e2 | .ok (.ct, e2) => forM g body ds e2 | .ok (.br, e2) => .ok (.nx, e2) | r => r)) := rfl
theorem while_go {c : M Bool} {body : M Fl} {n : Nat} {env e1 e2 : Vn} (h : c env = .ok (true, e1)) (h2 : body e1 = .ok (.nx, e2)) : whileM c body (n + 1) env = whileM c body n e2 := by
  simp [whileM, h, h2]
theorem while_end {c : M Bool} {body : M Fl} {n : Nat} {env e1 : Vn} (h : c env = .ok (false, e1)) : whileM c body (n + 1) env = .ok (.nx, e1) := by
  simp [whileM, h]
@[simp] theorem tr_bool (b : Bool) : truthD (.bool b) = some b := rfl
@[simp] theorem tr_int (i : Int) : truthD (.int i) = some (i != 0) := rfl
@[simp] theorem sub_ok (i j : Int) : gSub (.int i) (.int j) = some (.int (i - j)) := rfl
@[simp] theorem add_ok (i j : Int) : gAdd (.int i) (.int j) = some (.int (i + j)) := rfl
@[simp] theorem cmp_ok (p : Int → Int → Bool) (q : List Nat → List Nat → Bool) (i j : Int) : gCmpX p q (.int i) (.int j) = some (.bool (p i j)) := rfl
@[simp] theorem cmpS_ok (p : Int → Int → Bool) (q : List Nat → List Nat → Bool) (x y : Str) : gCmpX p q (.str x) (.str y) = some (.bool (q x.cps.toList y.cps.toList)) := rfl
@[simp] theorem abs_ok (i : Int) : gAbs [.int i] = some (.int (i.natAbs : Int)) := by
  show some (PyData.int (if i < 0 then -i else i)) = _
  congr 2
  split <;> omega
@[simp] theorem eqI_ok (i j : Int) : gEq (.int i) (.int j) = some (.bool (i == j)) := rfl
@[simp] theorem neI_ok (i j : Int) : gNe (.int i) (.int j) = some (.bool (!(i == j))) := rfl
@[simp] theorem len_tup (xs : List PyData) : gLen [.tuple xs] = some (.int xs.length) := rfl
@[simp] theorem len_lst (xs : List PyData) : gLen [.list xs] = some (.int xs.length) := rfl
@[simp] theorem len_scr (xs : List PyData) : gLen [scrD xs] = some (.int xs.length) := rfl
@[simp] theorem int_int (i : Int) : gInt [.int i] = some (.int i) := rfl
@[simp] theorem int_bool (b : Bool) : gInt [.bool b] = some (.int (if b then 1 else 0)) := rfl
@[simp] theorem max_ok (i j : Int) : gMax [.int i, .int j] = some (.int (if i < j then j else i)) := rfl
@[simp] theorem min_ok (i j : Int) : gMin [.int i, .int j] = some (.int (if j < i then j else i)) := rfl
@[simp] theorem tup_lst (xs : List PyData) : gTuple [.list xs] = some (.tuple xs) := rfl
@[simp] theorem all_lst (xs : List PyData) : gAll [.list xs] = (boolsD xs).map fun bs => .bool (bs.all id) := rfl
@[simp] theorem any_lst (xs : List PyData) : gAny [.list xs] = (boolsD xs).map fun bs => .bool (bs.any id) := rfl
@[simp] theorem ix2_0 (a b : PyData) : gIx (.tuple [a, b]) (.int 0) = some a := rfl
@[simp] theorem ix2_1 (a b : PyData) : gIx (.tuple [a, b]) (.int 1) = some b := rfl
@[simp] theorem it_tup (xs : List PyData) : itemsD (.tuple xs) = some xs := rfl
@[simp] theorem it_lst (xs : List PyData) : itemsD (.list xs) = some xs := rfl
@[simp] theorem it_scr (xs : List PyData) : itemsD (scrD xs) = some xs := rfl
end
@[simp] theorem ap_defP (np nn : Nat) (m : M Fl) (ds : List PyData) : defP np nn m ds = (if ds.length = np then (match m (ds.map Sl.va ++ List.replicate (nn - np) .no) with | .ok (.rt r, _) => .ok r | .ok (.nx, _) => .ok (.v .none) | .ex x _ => .ex x | _ => .bad) else .bad) := rfl
@[simp] theorem ap_defB (np nn : Nat) (m : M Fl) (cs ds : List PyData) : defB np nn m cs ds = (if ds.length + 1 = np then (match m (.bo cs :: ds.map Sl.va ++ List.replicate (nn - np) .no) with | .ok (.rt r, .bo cs' :: _) => .ok (r, cs') | .ok (.nx, .bo cs' :: _) => .ok (.v .none, cs') | _ => .bad) else .bad) := rfl

theorem defP_rt {np nn : Nat} {m : M Fl} {ds : List PyData} {r : Rv} {e : Vn} (h1 : ds.length = np) (h : m (ds.map Sl.va ++ List.replicate (nn - np) .no) = .ok (.rt r, e)) : defP np nn m ds = .ok r := by
  unfold defP
  rw [if_pos h1, h]
theorem defP_nx {np nn : Nat} {m : M Fl} {ds : List PyData} {e : Vn} (h1 : ds.length = np) (h : m (ds.map Sl.va ++ List.replicate (nn - np) .no) = .ok (.nx, e)) : defP np nn m ds = .ok (.v .none) := by
  unfold defP
  rw [if_pos h1, h]
theorem defB_rt {np nn : Nat} {m : M Fl} {cs ds cs' : List PyData} {r : Rv} {e : Vn} (h1 : ds.length + 1 = np) (h : m (.bo cs :: ds.map Sl.va ++ List.replicate (nn - np) .no) = .ok (.rt r, .bo cs' :: e)) : defB np nn m cs ds = .ok (r, cs') := by
  unfold defB
  rw [if_pos h1, h]
theorem seq_ok {m n : M Fl} {env e1 : Vn} {r : Res (Fl × Vn)} (h : m env = .ok (.nx, e1)) (h2 : n e1 = r) : mSeq m n env = r := by
  rw [ap_seq, h]
  exact h2

theorem defB_rtE {np nn : Nat} {m : M Fl} {cs ds cs' : List PyData} {r : Rv} (h1 : ds.length + 1 = np) (h : ∃ e, m (.bo cs :: ds.map Sl.va ++ List.replicate (nn - np) .no) = .ok (.rt r, .bo cs' :: e)) : defB np nn m cs ds = .ok (r, cs') :=
  let ⟨_, h⟩ := h
  defB_rt h1 h
theorem defP_rtE {np nn : Nat} {m : M Fl} {ds : List PyData} {r : Rv} (h1 : ds.length = np) (h : ∃ e, m (ds.map Sl.va ++ List.replicate (nn - np) .no) = .ok (.rt r, e)) : defP np nn m ds = .ok r :=
  let ⟨_, h⟩ := h
  defP_rt h1 h
theorem seq_okE {m n : M Fl} {env e1 : Vn} {f : Fl} {s : Sl} (h : m env = .ok (.nx, e1)) (h2 : ∃ e, n e1 = .ok (f, s :: e)) : ∃ e, mSeq m n env = .ok (f, s :: e) :=
  let ⟨_, h2⟩ := h2
  ⟨_, seq_ok h h2⟩
theorem seq_okE' {m n : M Fl} {env e1 : Vn} {f : Fl} (h : m env = .ok (.nx, e1)) (h2 : ∃ e, n e1 = .ok (f, e)) : ∃ e, mSeq m n env = .ok (f, e) :=
  let ⟨_, h2⟩ := h2
  ⟨_, seq_ok h h2⟩

/-! ### walks -/
theorem forM_inv {g : PyData → Vn → Option Vn} {body : M Fl} (I : Nat → Vn → Prop) : ∀ (ds : List PyData) (k : Nat) (env : Vn), (∀ i d e, ds[i]? = some d → I (k + i) e → ∃ e1 e2, g d e = some e1 ∧ body e1 = .ok (.nx, e2) ∧ I (k + i + 1) e2) → I k env → ∃ e, forM g body ds env = .ok (.nx, e) ∧ I (k + ds.length) e
  | [], k, env, _, h => ⟨env, rfl, h⟩
  | d :: ds, k, env, f, h => by
    obtain ⟨e1, e2, h1, h2, h3⟩ := f 0 d env rfl h
    obtain ⟨e, h4, h5⟩ := forM_inv I ds (k + 1) e2 (fun i d' e z he => by
      have := f (i + 1) d' e z (by rwa [show k + (i + 1) = k + 1 + i by omega])
      rwa [show k + (i + 1) + 1 = k + 1 + i + 1 by omega] at this) h3
    refine ⟨e, ?_, by rwa [List.length_cons, show k + (ds.length + 1) = k + 1 + ds.length by omega]⟩
    simp [h1, h2, h4]
theorem forM_inv0 {g : PyData → Vn → Option Vn} {body : M Fl} (I : Nat → Vn → Prop) (ds : List PyData) (env : Vn) (f : ∀ i d e, ds[i]? = some d → I i e → ∃ e1 e2, g d e = some e1 ∧ body e1 = .ok (.nx, e2) ∧ I (i + 1) e2) (h : I 0 env) : ∃ e, forM g body ds env = .ok (.nx, e) ∧ I ds.length e := by
  have := forM_inv I ds 0 env (fun i d e z he => by
    rw [Nat.zero_add] at he ⊢
    exact f i d e z he) h
  rwa [Nat.zero_add] at this
@[simp] theorem rngD_len (lo : Int) (n : Nat) : (rngD lo n).length = n := by simp [rngD]
theorem rngD_get {lo : Int} {n i : Nat} {d : PyData} (h : (rngD lo n)[i]? = some d) : i < n ∧ d = .int (lo + i) := by
  unfold rngD at h
  rw [List.getElem?_map] at h
  cases z : (List.range n)[i]? with
  | none => rw [z] at h; cases h
  | some j =>
    rw [z] at h
    obtain ⟨h1, h2⟩ := List.getElem?_eq_some_iff.mp z
    rw [List.getElem_range] at h2
    rw [List.length_range] at h1
    subst h2
    cases h
    exact ⟨h1, rfl⟩
@[simp] theorem ap_lend (F : List PyData → List PyData → Out (Rv × List PyData)) (i : Nat) (dds : List PyData) (ms : M (List PyData)) (env : Vn) : mLend F i dds ms env = (match slLst env[i]? with
  | none => .bad
  | some _ => (ms.bind fun ds env' =>
    match slLst env'[i]? with
    | none => .bad
    | some cs =>
      match F cs (ds ++ dds) with
      | .ok (r, cs') => .ok (r.d, setOwn env' i cs')
      | _ => .bad) env) := rfl
@[simp] theorem ap_ixO (i : Nat) (mb : M PyData) (env : Vn) : mIxO i mb env = (match slLst env[i]? with
  | none => .bad
  | some _ => (mb.bind fun b env' => (match slLst env'[i]? with | none => .bad | some ds => M.opt (gIx (.list ds) b) env')) env) := rfl
@[simp] theorem ap_lenO (i : Nat) (env : Vn) : mLenO i env = (match slLst env[i]? with | none => .bad | some ds => .ok (.int ds.length, env)) := rfl
@[simp] theorem ap_put (i : Nat) (mk m : M PyData) (env : Vn) : mPut i mk m env = (match slLst env[i]? with
  | none => .bad
  | some _ => (m.bind fun d => mk.bind fun k env' =>
    match slLst env'[i]?, k with
    | some ds, .int z => (match ixN ds.length z with | some j => .ok (.nx, setOwn env' i (ds.set j d)) | none => .bad)
    | _, _ => .bad) env) := rfl
@[simp] theorem ap_app (i : Nat) (m : M PyData) (env : Vn) : mApp i m env = (match slLst env[i]? with
  | none => .bad
  | some _ => (m.bind fun d env' =>
    match slLst env'[i]? with
    | none => .bad
    | some ds => if ds.length ≤ 1000000 then .ok (.nx, setOwn env' i (ds ++ [d])) else .bad) env) := rfl
@[simp] theorem setOwn_ow {env : Vn} {i : Nat} {cs ds : List PyData} (h : env[i]? = some (.ow ds)) : setOwn env i cs = env.set i (.ow cs) := by
  unfold setOwn
  rw [h]
@[simp] theorem setOwn_bo {env : Vn} {i : Nat} {cs ds : List PyData} (h : env[i]? = some (.bo ds)) : setOwn env i cs = env.set i (.bo cs) := by
  unfold setOwn
  rw [h]
@[simp] theorem setOwn_bo0 (cs ds : List PyData) (e : Vn) : setOwn (.bo ds :: e) 0 cs = .bo cs :: e := rfl
@[simp] theorem sl_ow (ds : List PyData) : slLst (some (.ow ds)) = some ds := rfl
@[simp] theorem sl_bo (ds : List PyData) : slLst (some (.bo ds)) = some ds := rfl
@[simp] theorem ix3_0 (a b c : PyData) : gIx (.list [a, b, c]) (.int 0) = some a := rfl
@[simp] theorem ix3_1 (a b c : PyData) : gIx (.list [a, b, c]) (.int 1) = some b := rfl
@[simp] theorem ix3_2 (a b c : PyData) : gIx (.list [a, b, c]) (.int 2) = some c := rfl

/-! ### sizes -/
def Bd (n : Nat) (i : Int) : Prop := i.natAbs < 2 ^ n
theorem Bd.mono {n m : Nat} {i : Int} (h : Bd n i) (k : n ≤ m) : Bd m i := Nat.lt_of_lt_of_le h (Nat.pow_le_pow_right (by decide) k)
theorem Bd.mul {n m : Nat} {i j : Int} (h : Bd n i) (k : Bd m j) : Bd (n + m) (i * j) := by
  unfold Bd at *
  rw [Int.natAbs_mul, Nat.pow_add]
  exact Nat.mul_lt_mul'' h k
theorem Bd.add' {n : Nat} {i j : Int} (h : Bd n i) (k : Bd n j) : Bd (n + 1) (i + j) := by
  unfold Bd at *
  rw [Nat.pow_succ]
  have := Int.natAbs_add_le i j
  omega
theorem Bd.neg {n : Nat} {i : Int} (h : Bd n i) : Bd n (-i) := by
  unfold Bd at *
  rwa [Int.natAbs_neg]
theorem Bd.sub' {n : Nat} {i j : Int} (h : Bd n i) (k : Bd n j) : Bd (n + 1) (i - j) := by
  rw [Int.sub_eq_add_neg]
  exact h.add' k.neg
theorem Bd.add {n m : Nat} {i j : Int} (h : Bd n i) (k : Bd m j) : Bd (n + m + 1) (i + j) := (h.mono (Nat.le_add_right _ _)).add' (k.mono (Nat.le_add_left _ _))
theorem Bd.sub {n m : Nat} {i j : Int} (h : Bd n i) (k : Bd m j) : Bd (n + m + 1) (i - j) := (h.mono (Nat.le_add_right _ _)).sub' (k.mono (Nat.le_add_left _ _))
theorem Bd.log {n : Nat} {i : Int} (h : Bd n i) : i.natAbs.log2 ≤ n := by
  unfold Bd at h
  by_cases z : i.natAbs = 0
  · rw [z]
    exact Nat.zero_le _
  · exact Nat.le_of_lt ((Nat.log2_lt z).mpr h)
theorem Bd.le {n : Nat} {i j : Int} (h : Bd n j) (k : i.natAbs ≤ j.natAbs) : Bd n i := Nat.lt_of_le_of_lt k h
theorem Bd.abs {n : Nat} {i : Int} (h : Bd n i) : Bd n (i.natAbs : Int) := h
theorem mul_bd {n m : Nat} {i j : Int} (h : Bd n i) (k : Bd m j) (l : n + m < 1000000) : gMul (.int i) (.int j) = some (.int (i * j)) := by
  have h1 := h.log
  have h2 := k.log
  exact if_pos (by omega)
theorem fdiv_bd {n : Nat} {i j : Int} (h : Bd n j) (h0 : 0 < j) (l : n < 9000) : gFdiv (.int i) (.int j) = some (.int (i / j)) := by
  have h1 := h.log
  exact if_pos ⟨h0, by omega⟩
theorem mod_ok {i j : Int} (h0 : 0 < j) : gMod (.int i) (.int j) = some (.int (i % j)) := if_pos h0

/-! ### numbers as pairs in lowest terms -/
def q (r : Rat) : PyData := .tuple [.int r.num, .int r.den]
structure Ht (n : Nat) (r : Rat) : Prop where
  num : Bd n r.num
  den : Bd n (r.den : Int)
theorem Ht.mono {n m : Nat} {r : Rat} (h : Ht n r) (k : n ≤ m) : Ht m r := ⟨h.num.mono k, h.den.mono k⟩
theorem ht_divInt {n : Nat} {a b : Int} (h : Bd n a) (k : Bd n b) (b0 : b ≠ 0) : Ht n (Rat.divInt a b) := by
  constructor
  · rw [Rat.num_divInt]
    refine h.le (Nat.le_trans (Int.natAbs_ediv_le_natAbs _ _) ?_)
    rw [Int.natAbs_mul, Int.natAbs_sign_of_ne_zero b0, Nat.one_mul]
    exact Nat.le_refl _
  · rw [Rat.den_divInt, if_neg b0]
    exact k.le (Nat.div_le_self _ _)
theorem den_ne (r : Rat) : (r.den : Int) ≠ 0 := by
  have := r.den_pos
  omega
theorem add_divInt (r s : Rat) : r + s = Rat.divInt (r.num * s.den + s.num * r.den) (r.den * s.den) := by
  rw [Rat.add_def', ← Int.natCast_mul, Rat.divInt_ofNat]
theorem sub_divInt (r s : Rat) : r - s = Rat.divInt (r.num * s.den - s.num * r.den) (r.den * s.den) := by
  rw [Rat.sub_def', ← Int.natCast_mul, Rat.divInt_ofNat]
theorem mul_divInt (r s : Rat) : r * s = Rat.divInt (r.num * s.num) (r.den * s.den) := by
  rw [Rat.mul_def', ← Int.natCast_mul, Rat.divInt_ofNat]
theorem div_divInt (r s : Rat) : r / s = Rat.divInt (r.num * s.den) (r.den * s.num) := by
  rw [Rat.div_def, Rat.inv_def]
  conv => lhs; rw [← Rat.num_divInt_den r]
  rw [Rat.divInt_mul_divInt]
theorem dens_ne (r s : Rat) : (r.den : Int) * s.den ≠ 0 := Int.mul_ne_zero (den_ne r) (den_ne s)
theorem Ht.add {n m : Nat} {r s : Rat} (h : Ht n r) (k : Ht m s) : Ht (n + m + 1) (r + s) := by
  rw [add_divInt]
  refine ht_divInt ?_ ?_ (dens_ne r s)
  · exact Bd.add' (h.num.mul k.den) (Nat.add_comm n m ▸ k.num.mul h.den)
  · exact (h.den.mul k.den).mono (by omega)
theorem Ht.sub {n m : Nat} {r s : Rat} (h : Ht n r) (k : Ht m s) : Ht (n + m + 1) (r - s) := by
  rw [sub_divInt]
  refine ht_divInt ?_ ?_ (dens_ne r s)
  · exact Bd.sub' (h.num.mul k.den) (Nat.add_comm n m ▸ k.num.mul h.den)
  · exact (h.den.mul k.den).mono (by omega)
theorem Ht.mul {n m : Nat} {r s : Rat} (h : Ht n r) (k : Ht m s) : Ht (n + m) (r * s) := by
  rw [mul_divInt]
  exact ht_divInt (h.num.mul k.num) (h.den.mul k.den) (dens_ne r s)
theorem num_ne {s : Rat} (z : s ≠ 0) : s.num ≠ 0 := fun e => z (Rat.num_eq_zero.mp e)
theorem Ht.div {n m : Nat} {r s : Rat} (h : Ht n r) (k : Ht m s) (z : s ≠ 0) : Ht (n + m) (r / s) := by
  rw [div_divInt]
  exact ht_divInt (h.num.mul k.den) (h.den.mul k.num) (Int.mul_ne_zero (den_ne r) (num_ne z))
theorem Ht.neg {n : Nat} {r : Rat} (h : Ht n r) : Ht n (-r) := ⟨h.num.neg, h.den⟩
theorem q_divInt_pos {a b : Int} (h : 0 < b) : q (Rat.divInt a b) = .tuple [.int (a / (Int.gcd a b : Int)), .int (b / (Int.gcd a b : Int))] := by
  unfold q
  rw [Rat.num_divInt, Rat.den_divInt, if_neg (by omega), Int.sign_eq_one_of_pos h, Int.one_mul, Int.gcd_comm b a]
  congr 4
  rw [Int.natCast_ediv]
  congr 1
  omega
theorem q_divInt_neg {a b : Int} (h : b < 0) : q (Rat.divInt a b) = .tuple [.int (-a / (Int.gcd a b : Int)), .int (-b / (Int.gcd a b : Int))] := by
  rw [← Rat.neg_divInt_neg, q_divInt_pos (by omega), Int.gcd_neg, Int.neg_gcd]
theorem q_inj {r s : Rat} (h : q r = q s) : r = s := by
  unfold q at h
  injection h with h
  injection h with h1 h2
  injection h2 with h2 _
  injection h1 with h1
  injection h2 with h2
  exact Rat.ext h1 (by omega)
theorem shaped_q (r : Rat) : SeqAt.shaped (q r) = true := rfl
theorem eqv_q (r s : Rat) : PyData.eqv (q r) (q s) = decide (r = s) := by
  have e : PyData.eqv (q r) (q s) = ((r.num == s.num) && (((r.den : Int) == (s.den : Int)) && true)) := rfl
  rw [e, Bool.eq_iff_iff]
  simp only [Bool.and_true, Bool.and_eq_true, beq_iff_eq, decide_eq_true_eq]
  constructor
  · intro ⟨h1, h2⟩
    exact Rat.ext h1 (by omega)
  · rintro rfl
    exact ⟨rfl, rfl⟩
theorem eq_q (r s : Rat) : gEq (q r) (q s) = some (.bool (decide (r = s))) := by
  rw [← eqv_q]
  rfl
theorem ne_q (r s : Rat) : gNe (q r) (q s) = some (.bool (!decide (r = s))) := by
  rw [← eqv_q]
  rfl
def sumQ : List Rat → Rat
  | [] => 0
  | r :: rs => r + sumQ rs
theorem sumQ_app : ∀ (rs ss : List Rat), sumQ (rs ++ ss) = sumQ rs + sumQ ss
  | [], ss => (Rat.zero_add _).symm
  | r :: rs, ss => by
    show r + sumQ (rs ++ ss) = r + sumQ rs + sumQ ss
    rw [sumQ_app rs ss, Rat.add_assoc]
theorem sumQ_rev : ∀ rs : List Rat, sumQ rs.reverse = sumQ rs
  | [] => rfl
  | r :: rs => by
    rw [List.reverse_cons, sumQ_app, sumQ_rev rs]
    show sumQ rs + (r + 0) = r + sumQ rs
    rw [Rat.add_zero, Rat.add_comm]
theorem sumQ_take {rs : List Rat} {i : Nat} {r : Rat} (h : rs[i]? = some r) : sumQ (rs.take (i + 1)) = sumQ (rs.take i) + r := by
  rw [List.take_add_one, sumQ_app, h]
  show _ + (r + 0) = _
  rw [Rat.add_zero]
theorem ht_sum {n : Nat} {rs : List Rat} (h : ∀ r ∈ rs, Ht n r) : ∀ i, i ≤ rs.length → Ht (1 + (n + 1) * i) (sumQ (rs.take i))
  | 0, _ => ⟨show (0 : Nat) < 2 ^ _ from Nat.two_pow_pos _, show (1 : Nat) < 2 ^ (1 + 0) by decide⟩
  | i + 1, hi => by
    have e : rs[i]? = some (rs[i]'hi) := List.getElem?_eq_getElem hi
    rw [sumQ_take e]
    exact ((ht_sum h i (Nat.le_of_lt hi)).add (h _ (List.getElem_mem hi))).mono (by rw [Nat.mul_succ]; omega)
theorem ht_one : Ht 1 1 := ⟨show (1 : Nat) < 2 ^ 1 by decide, show (1 : Nat) < 2 ^ 1 by decide⟩
theorem ht_pow {n : Nat} {r : Rat} (h : Ht n r) : ∀ i, Ht (1 + n * i) (r ^ i)
  | 0 => by
    rw [Rat.pow_zero]
    exact ht_one.mono (by omega)
  | i + 1 => by
    rw [Rat.pow_succ]
    exact ((ht_pow h i).mul h).mono (by rw [Nat.mul_succ]; omega)
theorem Bd.log' {n : Nat} {i : Int} (h : Bd n i) : i.natAbs.log2 < n + 1 := Nat.lt_succ_of_le h.log
theorem len_int {n : Nat} {i : Int} (h : Bd n i) : (PyData.shown (.int i)).length ≤ n + 2 := by
  have z := PySem.int_text_length_le (Nat.succ_pos n) h.log'
  show (Str.ofString (toString i)).length ≤ _
  rw [PySem.ofString_length]
  exact z
theorem len_pair {n : Nat} {i j : Int} (h : Bd n i) (k : Bd n j) : (PyData.shown (.tuple [.int i, .int j])).length ≤ 2 * n + 11 := by
  have z := PySem.tupleText_len_le [PyData.shown (.int i), PyData.shown (.int j)]
  have h1 := len_int h
  have h2 := len_int k
  simp only [List.map_cons, List.map_nil, List.sum_cons, List.sum_nil, List.length_cons, List.length_nil] at z
  show (tupleText [PyData.shown (.int i), PyData.shown (.int j)]).length ≤ _
  omega
theorem show_int {n : Nat} {i : Int} (h : Bd n i) (l : n < 1920) : PyData.showable (.int i) = true := decide_eq_true (Nat.lt_of_le_of_lt h.log l)
theorem show_pair {n : Nat} {i j : Int} (h : Bd n i) (k : Bd n j) (l : n < 1920) : PyData.showable (.tuple [.int i, .int j]) = true := by
  have e : PyData.showable (.tuple [.int i, .int j]) = (PyData.showable (.int i) && (PyData.showable (.int j) && true)) := rfl
  rw [e, show_int h l, show_int k l]
  rfl
theorem repr_pair {n : Nat} {i j : Int} (h : Bd n i) (k : Bd n j) (l : n < 1920) : gRepr [.tuple [.int i, .int j]] = some (.str (PyData.shown (.tuple [.int i, .int j]))) :=
  if_pos ⟨rfl, show_pair h k l, Nat.le_trans (len_pair h k) (by omega), show (1 : Nat) ≤ 60 by decide⟩
theorem repr_q {n : Nat} {r : Rat} (h : Ht n r) (l : n < 1920) : gRepr [q r] = some (.str (PyData.shown (q r))) := repr_pair h.num h.den l
theorem repr_q4 {n : Nat} {a b c d : Rat} (ha : Ht n a) (hb : Ht n b) (hc : Ht n c) (hd : Ht n d) (l : n < 1920) : gRepr [.list [q a, q b, q c, q d]] = some (.str (PyData.shown (.list [q a, q b, q c, q d]))) := by
  refine if_pos ⟨rfl, ?_, ?_, show (2 : Nat) ≤ 60 by decide⟩
  · have e : PyData.showable (.list [q a, q b, q c, q d]) = (PyData.showable (q a) && (PyData.showable (q b) && (PyData.showable (q c) && (PyData.showable (q d) && true)))) := rfl
    have s : ∀ r, Ht n r → PyData.showable (q r) = true := fun r h => show_pair h.num h.den l
    rw [e, s a ha, s b hb, s c hc, s d hd]
    rfl
  · have z := PySem.listText_len_le [PyData.shown (q a), PyData.shown (q b), PyData.shown (q c), PyData.shown (q d)]
    have s : ∀ r, Ht n r → (PyData.shown (q r)).length ≤ 2 * n + 11 := fun r h => len_pair h.num h.den
    have h1 := s a ha
    have h2 := s b hb
    have h3 := s c hc
    have h4 := s d hd
    simp only [List.map_cons, List.map_nil, List.sum_cons, List.sum_nil, List.length_cons, List.length_nil] at z
    show (listText [PyData.shown (q a), PyData.shown (q b), PyData.shown (q c), PyData.shown (q d)]).length ≤ _
    omega
@[simp] theorem neS_ok (x y : Str) : gNe (.str x) (.str y) = some (.bool (!(x == y))) := rfl
@[simp] theorem eqS_ok (x y : Str) : gEq (.str x) (.str y) = some (.bool (x == y)) := rfl
theorem gcd_q (r : Rat) : Int.gcd r.num r.den = 1 := r.reduced
end Fx
namespace Fx
open PySem PySem.Spec PyProof.Rows L2

/-! ### try with clauses of both sorts -/
abbrev Cl := Value × (Addr → Value → Option Addr → TS)
/-- the clause's own name is gone behind it -/
def Ends.gone (D : Ends) (i : Nat) : Ends := ⟨fun σ H => D.nx (σ.set i none) H, D.rt, fun σ H => D.bk (σ.set i none) H, fun σ H => D.ct (σ.set i none) H⟩
/-- clauses and what they wish -/
inductive Cls (X : Cx) : List ExceptHandler → List Cl → Prop
  | none : Cls X [] []
  | bare {y : Str} {c : Value} {w : Addr → Value → Option Addr → TS} {b : Stmt} {r : List Stmt} {p q : Pos} {hs : List ExceptHandler} {l : List Cl} (known : Names X y c)
      (does : ∀ (a : Addr) (o : Obj) (cv : Value) (d : Option Addr) (pins : List (Addr × Obj)), Zc cv d o → (∃ fs, o.data = .fields fs) → PSs (X.suite a ((a, o) :: pins)) (b :: r) (w a cv d)) (rest : Cls X hs l) :
      Cls X (.ExceptHandler (some (.Name y p)) Option.none (b :: r) q :: hs) ((c, w) :: l)
  | named {y n : Str} {i : Nat} {c : Value} {w : Addr → Value → Option Addr → TS} {b : Stmt} {r : List Stmt} {p q : Pos} {hs : List ExceptHandler} {l : List Cl} (known : Names X y c) (nd : X.N.Nodup) (at' : X.N[i]? = some n) (loc : X.env.kindOf n = some .local)
      (does : ∀ (a : Addr) (o : Obj) (cv : Value) (d : Option Addr) (pins : List (Addr × Obj)), Zc cv d o → (∃ fs, o.data = .fields fs) → PSs (X.suite a ((a, o) :: pins)) (b :: r) (w a cv d)) (rest : Cls X hs l) :
      Cls X (.ExceptHandler (some (.Name y p)) (some n) (b :: r) q :: hs) ((c, fun a cv d D σ H => w a cv d (Ends.gone D i) (σ.set i (some (.ref a))) H) :: l)
section
variable {X : Cx} {pins : List (Addr × Obj)} {σ : L2.St} {H : Hp} {Wout : WX} {D : Ends}
/-- an exception that has landed in X's frame -/
structure Landed (X : Cx) (pins : List (Addr × Obj)) (σ : L2.St) (H : Hp) (a : Addr) (cv : Value) (d : Option Addr) (B : Heap) (sI s : Shared) : Prop where
  now : Inv X pins σ H sI
  nb : ∀ b o, sI.heap.get? b = some o → b ∉ frs X.stack → B.get? b = some o
  up : sI.heap.UpToSlots s.heap
  na : H a = none
  os : s.os = sI.os
  ag : AllBare s.gens
  fl : HandSPX.FlyingZ B (X.env :: X.outer) a (Zc cv d) s.heap
  hs : X.stack = X.env :: X.outer
  hf : X.env.frame = some X.env.locals
variable {a : Addr} {cv : Value} {d : Option Addr} {B : Heap} {sI s : Shared}
theorem Landed.inv (L : Landed X pins σ H a cv d B sI s) : Inv X pins σ H s := L.now.landed L.nb L.fl.1 L.up L.os L.ag
theorem Landed.obj (L : Landed X pins σ H a cv d B sI s) : ∃ (o : Obj) (fs : Array Value), s.heap.get? a = some o ∧ Zc cv d o ∧ o.data = .fields fs ∧ Inv (X.suite a ((a, o) :: (X.pn ++ pins))) [] σ H s := by
  obtain ⟨o, fs, e, z, ed⟩ := L.fl.there
  have apart : a ∉ frs (X.env :: X.outer) := fun m => by
    obtain ⟨_, o2, e2, nf⟩ := L.fl.2.2.1.mem m
    rw [e] at e2
    cases e2
    exact nf _ ed
  have n1 : a ≠ X.env.locals := fun z => apart (List.mem_filterMap.mpr ⟨X.env, List.mem_cons_self, by rw [L.hf, z]⟩)
  have n2 : a ∉ X.fs := fun m => by
    obtain ⟨x, hx, q⟩ := List.mem_filterMap.mp m
    exact apart (List.mem_filterMap.mpr ⟨x, List.mem_cons_of_mem _ hx, q⟩)
  exact ⟨o, fs, e, z, ed, L.inv.suite e ed L.na n1 n2⟩
theorem clauses_go (tk : Takes X Wout) {hs : List ExceptHandler} {l : List Cl} (C : Cls X hs l) : ∀ {s : Shared}, Landed X pins σ H a cv d B sI s → wMany X.K Wout D l cv d σ H → wpAny (model X.prog X.w) X.A (handleBy (.ref a) X.env hs) (SP X pins D) X.xe s := by
  induction C with
  | none =>
    intro s L w
    refine wpAny_handleBy_nil ?_
    obtain ⟨_, _, _, o, fs, tb, ot, ts, e, _, ed, e1, _⟩ := id L.fl
    unfold PySem.passOn
    refine wpAny_bind (wpAny_field e ed e1 ?_)
    rw [if_neg (by simp : ¬ ((Value.ref tb == Value.none) = true))]
    have out : wpAny (model X.prog X.w) X.A (setFlight (.ref a) X.env.frame) (fun _ s2 => wpAny (model X.prog X.w) X.A (throw (.ref a) : Sem Flow) (SP X pins D) X.xe s2) X.xe s := by
      rw [L.hf]
      refine HandSPX.setFlight_upZ L.fl fun h2 held up2 => wpAny_throw (tk _ _ ?_)
      exact ⟨a, B, sI, pins, σ, H, cv, d, rfl, L.now, L.nb, L.up.trans up2, .inr (.inr (by rw [L.hs]; exact held)), L.na, L.os, L.ag, w⟩
    first
      | exact wpAny_bind (wpAny_pure (wpAny_bind out))
      | exact wpAny_bind out
  | @bare y c w b r p q hs l known does rest ih =>
    intro s L ⟨k, ek, yes, no⟩
    obtain ⟨o, fs, e, z, ed, S⟩ := L.obj
    refine wpAny_handleBy_cons (codeAny_handlers_test ?_) (fun z => nomatch z)
    have looks : PySem.W.Looks (model X.prog X.w) s.heap (typeOf (.ref a)) cv := fun A Q E s2 keep q2 => wpAny_typeOf_ref (keep _ _ e) (by rw [z.1]; exact q2)
    have one := PySem.W.exm_one (M := model X.prog X.w) L.inv.kIn looks ek
    have look : ∀ {Q : Value → Shared → Prop} {E : Value → Shared → Prop}, Q c s → wpAny (model X.prog X.w) (X.A.mark (some (.ref a))) (eval (.Name y p) X.env) Q E s := fun q2 => by
      obtain ⟨g, gd, gm | ⟨gm, gv, gn⟩⟩ := known
      · exact ld_glob (X := X.suite a ((a, o) :: (X.pn ++ pins))) S g gm q2 gd
      · exact ld_blt (X := X.suite a ((a, o) :: (X.pn ++ pins))) S g gm gv q2 gn gd
    refine look (one.here ?_)
    cases k with
    | false => exact ih L (no rfl)
    | true =>
      refine codeAny_handlers_suite (HandSPX.lands_againZ L.fl fun h2 fl2 up2 => ?_)
      have La : Landed X pins σ H a cv d B sI { s with heap := h2 } := ⟨L.now, L.nb, L.up.trans up2, L.na, L.os, L.ag, fl2, L.hs, L.hf⟩
      obtain ⟨o2, fs2, e2, z2, ed2, S2⟩ := La.obj
      refine wpAny_mono ((does a o2 cv d (X.pn ++ pins) z2 ⟨_, ed2⟩).run [] _ _ H _ S2 (yes rfl a L.na)) (fun f s3 fin => ?_) fun _ _ z => z.elim
      have ok := L.now.ok
      cases f with
      | ret u => obtain ⟨v, σ3, H3, S3, rv, q3⟩ := fin; exact ⟨v, σ3, H3, S3.unsuite ok, rv, q3⟩
      | next => obtain ⟨σ3, H3, S3, q3⟩ := fin; exact ⟨σ3, H3, S3.unsuite ok, q3⟩
      | brk => obtain ⟨σ3, H3, S3, q3⟩ := fin; exact ⟨σ3, H3, S3.unsuite ok, q3⟩
      | cont => obtain ⟨σ3, H3, S3, q3⟩ := fin; exact ⟨σ3, H3, S3.unsuite ok, q3⟩
  | @named y n i c w b r p q hs l known nd at' loc does rest ih =>
    intro s L ⟨k, ek, yes, no⟩
    obtain ⟨o, fs, e, z, ed, S⟩ := L.obj
    refine wpAny_handleBy_cons (codeAny_handlers_test ?_) (fun z => nomatch z)
    have looks : PySem.W.Looks (model X.prog X.w) s.heap (typeOf (.ref a)) cv := fun A Q E s2 keep q2 => wpAny_typeOf_ref (keep _ _ e) (by rw [z.1]; exact q2)
    have one := PySem.W.exm_one (M := model X.prog X.w) L.inv.kIn looks ek
    have look : ∀ {Q : Value → Shared → Prop} {E : Value → Shared → Prop}, Q c s → wpAny (model X.prog X.w) (X.A.mark (some (.ref a))) (eval (.Name y p) X.env) Q E s := fun q2 => by
      obtain ⟨g, gd, gm | ⟨gm, gv, gn⟩⟩ := known
      · exact ld_glob (X := X.suite a ((a, o) :: (X.pn ++ pins))) S g gm q2 gd
      · exact ld_blt (X := X.suite a ((a, o) :: (X.pn ++ pins))) S g gm gv q2 gn gd
    refine look (one.here ?_)
    cases k with
    | false => exact ih L (no rfl)
    | true =>
      refine codeAny_handlers_suite_as (HandSPX.lands_againZ L.fl fun h2 fl2 up2 => ?_)
      have La : Landed X pins σ H a cv d B sI { s with heap := h2 } := ⟨L.now, L.nb, L.up.trans up2, L.na, L.os, L.ag, fl2, L.hs, L.hf⟩
      obtain ⟨o2, fs2, e2, z2, ed2, S2⟩ := La.obj
      have ok := L.now.ok
      refine store_ok (X := X.suite a ((a, o2) :: (X.pn ++ pins))) (v := .ref a) S2 nd at' (.inl loc) rfl (fun s3 S3 => ?_) (.inr loc)
      refine wpAny_mono ((does a o2 cv d (X.pn ++ pins) z2 ⟨_, ed2⟩).run [] s3 _ H _ S3 (yes rfl a L.na)) (fun f s4 fin => ?_) fun _ _ z => z.elim
      have gone : ∀ {σ4 : L2.St} {H4 : Hp} {Q : Shared → Prop}, Inv (X.suite a ((a, o2) :: (X.pn ++ pins))) [] σ4 H4 s4 → (∀ s5, Inv X pins (σ4.set i Option.none) H4 s5 → Q s5) →
          wpAny (model X.prog X.w) X.A (do bindName X.env n .none; unbindBehindTheSuite X.env n q) (fun _ s5 => Q s5) X.xe s4 := fun S4 hq => gone_ok (S4.unsuite ok) nd at' loc hq
      cases f with
      | ret u => obtain ⟨v, σ4, H4, S4, rv, q4⟩ := fin; exact gone S4 fun s5 J => ⟨v, _, _, J, rv, q4⟩
      | next => obtain ⟨σ4, H4, S4, q4⟩ := fin; exact gone S4 fun s5 J => ⟨_, _, J, q4⟩
      | brk => obtain ⟨σ4, H4, S4, q4⟩ := fin; exact gone S4 fun s5 J => ⟨_, _, J, q4⟩
      | cont => obtain ⟨σ4, H4, S4, q4⟩ := fin; exact gone S4 fun s5 J => ⟨_, _, J, q4⟩
theorem ps_tryX {body : List Stmt} {h0 : ExceptHandler} {hs : List ExceptHandler} {l : List Cl} {pos : Pos} {tb : WX → TS} (es : X.stack = X.env :: X.outer) (ef : X.env.frame = some X.env.locals) (tk : Takes X Wout)
    (does : ∀ (W : WX) (pn : List (Addr × Obj)) (xe : Value → Shared → Prop), Takes (X.tr pn xe) W → PassesOwn (model X.prog X.w) X.A X.env xe → PSs (X.tr pn xe) body (tb W)) (C : Cls X (h0 :: hs) l) :
    PS X (.Try body (h0 :: hs) [] [] pos) (fun D σ H => tb (wMany X.K Wout D l) D σ H) := by
  refine ⟨fun pins s σ H D I h => wpAny_Try_except ?_⟩
  have ok := I.ok
  have fr : X.A.frames = some (X.env :: X.outer) := by rw [ok.frames, es]
  let out : Value → Shared → Prop := fun e s1 => wpAny (model X.prog X.w) X.A (noteFrame e X.env) (fun _ s2 => wpAny (model X.prog X.w) X.A (setFlight e none) (fun _ s3 => wpAny (model X.prog X.w) X.A (handleBy e X.env (h0 :: hs)) (SP X pins D) X.xe s3) X.xe s2) X.xe s1
  have catch' : Takes (X.tr (X.pn ++ pins) out) (wMany X.K Wout D l) := fun u s1 xx => by
    obtain ⟨a, B, sI, pn', σ1, H1, cv, d, rfl, J, nb, up, sky, na, os, ag, w⟩ := xx
    have J1 : Inv X pins σ1 H1 sI := J.ofTry ok
    have sky1 : Sky B (X.env :: X.outer) a (Zc cv d) X.env.locals s1.heap := by rw [← es]; exact sky
    exact Sky.land Zc.steady fr ef sky1 fun h2 fl up2 => clauses_go tk C ⟨J1, nb, up.trans up2, na, os, ag, fl, es, ef⟩ w
  refine wpAny_mono ((does _ (X.pn ++ pins) out catch' PassesOwn.looking).run [] s σ H D (I.toTry _) h) (fun f s1 fin => ?_) fun e s1 he => he
  cases f with
  | ret u => obtain ⟨v, σ1, H1, J, rv, q⟩ := fin; exact ⟨v, σ1, H1, J.ofTry ok, rv, q⟩
  | next => obtain ⟨σ1, H1, J, q⟩ := fin; exact wpAny_execs_nil ⟨σ1, H1, J.ofTry ok, q⟩
  | brk => obtain ⟨σ1, H1, J, q⟩ := fin; exact ⟨σ1, H1, J.ofTry ok, q⟩
  | cont => obtain ⟨σ1, H1, J, q⟩ := fin; exact ⟨σ1, H1, J.ofTry ok, q⟩
end
end Fx
namespace Fx
open PySem PySem.Spec PyProof.Rows L2

/-! ### a slot pinned for a while -/
@[reducible] def frX (F : Fr) (i : Nat) (v : V) (J : Hp → Prop) (up : ∀ {H H' : Hp}, Same H H' → J H → J H') : Fr := ⟨(i, v) :: F.sl, fun H => F.inv H ∧ J H, fun e h => ⟨F.up e h.1, up e h.2⟩⟩
section
variable [Tb]
variable {K : PySem.W.Frag} {H0 H : Hp} {B : List (Nat × Addr)} {T : List (Addr × HO)} {σ : L2.St} {env : Vn}
theorem Rel.pin [F : Fr] {i : Nat} {s : Sl} {v : V} {J : Hp → Prop} {up : ∀ {H H' : Hp}, Same H H' → J H → J H'} (R : Rel K H0 B T σ H env) (hi : env[i]? = some s) (hs : ¬ isOw s) (hx : s ≠ .xc) (hJ : J (hid H (Hd T σ env))) :
    @Rel _ (frX F i v J up) K H0 B T (σ.set i (some v)) H (env.set i .xc) ∧ ∀ q, Hd T (σ.set i (some v)) (env.set i .xc) q ↔ Hd T σ env q := by
  have il : i < env.length := (List.getElem?_eq_some_iff.mp hi).1
  have is : i < σ.length := by rw [R.len]; exact il
  have at' : ∀ j q, OwnAt (σ.set i (some v)) (env.set i .xc) j q ↔ OwnAt σ env j q := fun j q => by
    constructor
    · rintro ⟨t, e, wt, hq⟩
      by_cases hj : j = i
      · subst hj
        rw [List.getElem?_set_self il] at e
        cases e
        exact wt.elim
      · rw [List.getElem?_set_ne (Ne.symm hj)] at e hq
        exact ⟨t, e, wt, hq⟩
    · rintro ⟨t, e, wt, hq⟩
      by_cases hj : j = i
      · subst hj
        rw [hi] at e
        cases e
        exact (hs wt).elim
      · exact ⟨t, by rw [List.getElem?_set_ne (Ne.symm hj)]; exact e, wt, by rw [List.getElem?_set_ne (Ne.symm hj)]; exact hq⟩
  have hd : ∀ q, Hd T (σ.set i (some v)) (env.set i .xc) q ↔ Hd T σ env q := fun q => by
    unfold Hd
    constructor
    · rintro (z | ⟨j, z⟩)
      · exact .inl z
      · exact .inr ⟨j, (at' j q).mp z⟩
    · rintro (z | ⟨j, z⟩)
      · exact .inl z
      · exact .inr ⟨j, (at' j q).mpr z⟩
  have eh : Hd T (σ.set i (some v)) (env.set i .xc) = Hd T σ env := funext fun q => propext (hd q)
  have ne : ∀ c ∈ F.sl, i ≠ c.1 := R.fne hi hx
  have key : @Rel _ (frX F i v J up) K H0 B T (σ.set i (some v)) H (env.set i .xc) := by
    refine @Rel.mk _ (frX F i v J up) K H0 B T (σ.set i (some v)) H (env.set i .xc) (by rw [List.length_set, List.length_set]; exact R.len) (fun j t e => ?_) (fun j k q a b => R.inj j k q ((at' j q).mp a) ((at' k q).mp b)) (fun j q a => R.dis j q ((at' j q).mp a)) R.th (fun j q a => R.own j q ((at' j q).mp a)) R.keep (fun b hb => ?_) R.tab R.tnc (fun c hc => ?_) (by rw [eh]; exact ⟨R.finv, hJ⟩)
    · rw [eh]
      by_cases hj : j = i
      · subst hj
        rw [List.getElem?_set_self il] at e
        cases e
        exact .xc _
      · rw [List.getElem?_set_ne (Ne.symm hj)] at e ⊢
        exact R.sl j t e
    · obtain ⟨⟨es, e1⟩, e2⟩ := R.bor b hb
      have hj : b.1 ≠ i := fun z => by
        rw [z, hi] at e1
        cases e1
        exact hs trivial
      exact ⟨⟨es, by rw [List.getElem?_set_ne (Ne.symm hj)]; exact e1⟩, by rw [List.getElem?_set_ne (Ne.symm hj)]; exact e2⟩
    · rcases List.mem_cons.mp hc with z | z
      · subst z
        exact ⟨List.getElem?_set_self is, List.getElem?_set_self il⟩
      · rw [List.getElem?_set_ne (ne c z), List.getElem?_set_ne (ne c z)]
        exact R.fsl c z
  exact ⟨key, hd⟩
theorem Rel.unpin [F : Fr] {i : Nat} {v : V} {J : Hp → Prop} {up : ∀ {H H' : Hp}, Same H H' → J H → J H'} (hne : ∀ c ∈ F.sl, i ≠ c.1) (R : @Rel _ (frX F i v J up) K H0 B T σ H env) (o : Option V) :
    Rel K H0 B T (σ.set i o) H (env.set i .no) ∧ ∀ q, Hd T (σ.set i o) (env.set i .no) q ↔ Hd T σ env q := by
  obtain ⟨r1, r2, r3, r4, r5, r6, r7, r8, r9, r10, r11, r12⟩ := R
  obtain ⟨q1, q2⟩ := r11 (i, v) List.mem_cons_self
  have R' : Rel K H0 B T σ H env := ⟨r1, r2, r3, r4, r5, r6, r7, r8, r9, r10, fun c hc => r11 c (List.mem_cons_of_mem _ hc), r12.1⟩
  have il : i < env.length := (List.getElem?_eq_some_iff.mp q2).1
  have at' : ∀ j q, OwnAt (σ.set i o) (env.set i .no) j q ↔ OwnAt σ env j q := fun j q => by
    constructor
    · rintro ⟨t, e, wt, hq⟩
      by_cases hj : j = i
      · subst hj
        rw [List.getElem?_set_self il] at e
        cases e
        exact wt.elim
      · rw [List.getElem?_set_ne (Ne.symm hj)] at e hq
        exact ⟨t, e, wt, hq⟩
    · rintro ⟨t, e, wt, hq⟩
      by_cases hj : j = i
      · subst hj
        rw [show env[j]? = some .xc from q2] at e
        cases e
        exact wt.elim
      · exact ⟨t, by rw [List.getElem?_set_ne (Ne.symm hj)]; exact e, wt, by rw [List.getElem?_set_ne (Ne.symm hj)]; exact hq⟩
  have hd : ∀ q, Hd T (σ.set i o) (env.set i .no) q ↔ Hd T σ env q := fun q => by
    unfold Hd
    constructor
    · rintro (z | ⟨j, z⟩)
      · exact .inl z
      · exact .inr ⟨j, (at' j q).mp z⟩
    · rintro (z | ⟨j, z⟩)
      · exact .inl z
      · exact .inr ⟨j, (at' j q).mpr z⟩
  have eh : Hd T (σ.set i o) (env.set i .no) = Hd T σ env := funext fun q => propext (hd q)
  refine ⟨{ len := by rw [List.length_set, List.length_set]; exact R'.len, sl := fun j t e => ?_, inj := fun j k q a b => R'.inj j k q ((at' j q).mp a) ((at' k q).mp b), dis := fun j q a => R'.dis j q ((at' j q).mp a), th := R'.th, own := fun j q a => R'.own j q ((at' j q).mp a), keep := R'.keep, bor := fun b hb => ?_, tab := R'.tab, tnc := R'.tnc, fsl := fun c hc => ?_, finv := by rw [eh]; exact R'.finv }, hd⟩
  · rw [eh]
    by_cases hj : j = i
    · subst hj
      rw [List.getElem?_set_self il] at e
      cases e
      exact .no _
    · rw [List.getElem?_set_ne (Ne.symm hj)] at e ⊢
      exact R'.sl j t e
  · obtain ⟨⟨es, e1⟩, e2⟩ := R'.bor b hb
    have hj : b.1 ≠ i := fun z => by
      rw [z, show env[i]? = some .xc from q2] at e1
      cases e1
    exact ⟨⟨es, by rw [List.getElem?_set_ne (Ne.symm hj)]; exact e1⟩, by rw [List.getElem?_set_ne (Ne.symm hj)]; exact e2⟩
  · rw [List.getElem?_set_ne (hne c hc), List.getElem?_set_ne (hne c hc)]
    exact R'.fsl c hc
end
end Fx
namespace Fx
open PySem PySem.Spec PyProof.Rows L2

/-! ### try -/
section
variable [Tb] [Fr]
/-- the weakest reading of statements whose mirror is m -/
def canS (X : Cx) (W : WX) (m : M Fl) : TS := fun D σ H => ∃ H0 B T env, Rel X.K H0 B T σ H env ∧ PostS X W H0 B T σ H env D (m env)
theorem postS_ok {X : Cx} {W W' : WX} {H0 : Hp} {B : List (Nat × Addr)} {T : List (Addr × HO)} {σ : L2.St} {H : Hp} {env : Vn} {D : Ends} {p : Fl × Vn} (P : PostS X W H0 B T σ H env D (.ok p)) : PostS X W' H0 B T σ H env D (.ok p) := by
  obtain ⟨f, e⟩ := p
  cases f with
  | nx => exact P
  | br => exact P
  | ct => exact P
  | rt r =>
    cases r with
    | v d => exact P
    | f ds => exact P
theorem EvSs.can {X : Cx} {W : WX} {st : List Stmt} {m : M Fl} (h : EvSs X W st m) : PSs X st (canS X W m) :=
  let ⟨_, p, A⟩ := h.ex
  ⟨fun pins s σ H D I ⟨H0, B, T, env, R, P⟩ => p.run pins s σ H D I (A H0 B T σ H env D R P)⟩
end
/-- a clause: the class, the slot of its name, what it does -/
structure MCl where
  name : Str
  slot : Option Nat
  does : Ex → M Fl
def mCls (sub : Str → Str → Option Bool) : List MCl → Ex → M Fl
  | [], x => fun e => .ex x e
  | c :: r, x => match sub x.cls c.name with
    | none => fun _ => .bad
    | some false => mCls sub r x
    | some true => match c.slot with
      | none => fun e => (match c.does x e with | .ok p => .ok p | _ => .bad)
      | some i => fun e =>
        match e[i]? with
        | some .no => (match c.does x (e.set i .xc) with | .ok (f, e2) => .ok (f, e2.set i .no) | _ => .bad)
        | some (.va _) => (match c.does x (e.set i .xc) with | .ok (f, e2) => .ok (f, e2.set i .no) | _ => .bad)
        | _ => .bad
def mTry (sub : Str → Str → Option Bool) (mb : M Fl) (cs : List MCl) : M Fl := fun env =>
  match mb env with
  | .ex x e => mCls sub cs x e
  | r => r
/-- who catches whom -/
structure ExTab (K : PySem.W.Frag) (mg : Str → Option Value) (sub : Str → Str → Option Bool) : Prop where
  tells : ∀ (c h : Str) (b : Bool) (C Ch : Addr), sub c h = some b → mg c = some (.ref C) → mg h = some (.ref Ch) → PySem.W.exmOne K (.ref C) (.ref Ch) = some b
/-- the fields of the exception that is caught -/
def excJ (K : PySem.W.Frag) (x : Ex) (d : Option Addr) (H : Hp) : Prop := x.kept ≠ [] → ∃ a vs, d = some a ∧ H a = some (.xd ((x.kept.map (·.1)).zip vs)) ∧ DqAll K H vs (x.kept.map (·.2))
theorem excJ_up {K : PySem.W.Frag} {x : Ex} {d : Option Addr} {H H' : Hp} (e : Same H H') (h : excJ K x d H) : excJ K x d H' := fun z =>
  let ⟨a, vs, h1, h2, h3⟩ := h z
  ⟨a, vs, h1, e _ _ h2, dpAllUp e h3⟩
@[reducible] def frE (F : Fr) (K : PySem.W.Frag) (i : Nat) (a : Addr) (x : Ex) (d : Option Addr) : Fr := frX F i (.ref a) (excJ K x d) excJ_up
section
variable [Tb] [F : Fr]
/-- clauses and their mirrors -/
inductive ClE (X : Cx) : List ExceptHandler → List MCl → Prop
  | none : ClE X [] []
  | bare {y : Str} {Ch : Addr} {m : Ex → M Fl} {b : Stmt} {r : List Stmt} {p q : Pos} {hs : List ExceptHandler} {l : List MCl} (g : Gl X y) (hd : (y == ("__debug__" : Str)) = false) (hm : X.mg y = some (.ref Ch))
      (does : ∀ (x : Ex) (a : Addr) (o : Obj) (cv : Value) (d : Option Addr) (pins : List (Addr × Obj)), Zc cv d o → (∃ fs, o.data = .fields fs) → EvSs (X.suite a ((a, o) :: pins)) WN (b :: r) (m x)) (rest : ClE X hs l) :
      ClE X (.ExceptHandler (some (.Name y p)) Option.none (b :: r) q :: hs) (⟨y, Option.none, m⟩ :: l)
  | named {y n : Str} {i : Nat} {Ch : Addr} {m : Ex → M Fl} {b : Stmt} {r : List Stmt} {p q : Pos} {hs : List ExceptHandler} {l : List MCl} (g : Gl X y) (hd : (y == ("__debug__" : Str)) = false) (hm : X.mg y = some (.ref Ch)) (nd : X.N.Nodup) (at' : X.N[i]? = some n) (loc : X.env.kindOf n = some .local)
      (does : ∀ (x : Ex) (a : Addr) (o : Obj) (cv : Value) (d : Option Addr) (pins : List (Addr × Obj)), (∃ C : Addr, X.mg x.cls = some (.ref C) ∧ cv = .ref C) → Zc cv d o → (∃ fs, o.data = .fields fs) → @EvSs _ (frE F X.K i a x d) (X.suite a ((a, o) :: pins)) WN (b :: r) (m x)) (rest : ClE X hs l) :
      ClE X (.ExceptHandler (some (.Name y p)) (some n) (b :: r) q :: hs) (⟨y, some i, m⟩ :: l)
theorem clE_go {X : Cx} {Wout : WX} {sub : Str → Str → Option Bool} (T : ExTab X.K X.mg sub) {hs : List ExceptHandler} {l : List MCl} (C : ClE X hs l) : ∃ l' : List Cl, Cls X hs l' ∧
    ∀ {H0 : Hp} {B : List (Nat × Addr)} {Tt : List (Addr × HO)} {σ : L2.St} {H : Hp} {env : Vn} {D : Ends} {x : Ex} {cv : Value} {d : Option Addr}, Rel X.K H0 B Tt σ H env → ExR X.mg X.K (hid H (Hd Tt σ env)) H x cv d →
      PostS X Wout H0 B Tt σ H env D (mCls sub l x env) → wMany X.K Wout D l' cv d σ H := by
  induction C with
  | none => exact ⟨[], .none, fun R r P => P _ _ _ _ R .refl r⟩
  | @bare y Ch m b rr p q hs l g hd hm does rest ih =>
    obtain ⟨l', C', ih⟩ := ih
    refine ⟨_, .bare (w := fun a cv d D σ H => ∃ x, canS X WN (m x) D σ H) ⟨g, hd, .inl hm⟩ (fun a o cv d pins z zf => ⟨fun pn s σ H D I ⟨x, h⟩ => (does x a o cv d pins z zf).can.run pn s σ H D I h⟩) C', ?_⟩
    intro H0 B Tt σ H env D x cv d R r P
    obtain ⟨C1, c1, c2, c3⟩ := id r
    unfold mCls at P
    cases e : sub x.cls y with
    | none => rw [show sub x.cls (MCl.mk y Option.none m).name = _ from e] at P; exact P.elim
    | some k =>
      rw [show sub x.cls (MCl.mk y Option.none m).name = _ from e] at P
      refine ⟨k, by rw [c2]; exact T.tells _ _ _ _ _ e c1 hm, fun hk a na => ?_, fun hk => ?_⟩
      · subst hk
        refine ⟨x, H0, B, Tt, env, R, ?_⟩
        simp only at P
        cases q : m x env with
        | bad => rw [q] at P; exact P.elim
        | ex y' e' => rw [q] at P; exact P.elim
        | ok pr =>
          rw [q] at P
          exact postS_ok P
      · subst hk
        exact ih R r P
  | @named y n i Ch m b rr p q hs l g hd hm nd at' loc does rest ih =>
    obtain ⟨l', C', ih⟩ := ih
    refine ⟨_, .named (i := i) (w := fun a cv d D σ H => ∃ x, (∃ C : Addr, X.mg x.cls = some (.ref C) ∧ cv = .ref C) ∧ @canS _ (frE F X.K i a x d) X WN (m x) D σ H) ⟨g, hd, .inl hm⟩ nd at' loc (fun a o cv d pins z zf => ⟨fun pn s σ H D I ⟨x, hc, h⟩ => (@EvSs.can _ (frE F X.K i a x d) _ _ _ _ (does x a o cv d pins hc z zf)).run pn s σ H D I h⟩) C', ?_⟩
    intro H0 B Tt σ H env D x cv d R r P
    obtain ⟨C1, c1, c2, c3⟩ := id r
    unfold mCls at P
    cases e : sub x.cls y with
    | none => rw [show sub x.cls (MCl.mk y (some i) m).name = _ from e] at P; exact P.elim
    | some k =>
      rw [show sub x.cls (MCl.mk y (some i) m).name = _ from e] at P
      refine ⟨k, by rw [c2]; exact T.tells _ _ _ _ _ e c1 hm, fun hk a na => ?_, fun hk => ?_⟩
      · subst hk
        simp only at P
        have go : ∀ s, env[i]? = some s → ¬ isOw s → s ≠ .xc → PostS X Wout H0 B Tt σ H env D (match m x (env.set i .xc) with | .ok (f, e2) => .ok (f, e2.set i .no) | _ => .bad) →
            ∃ x, (∃ C : Addr, X.mg x.cls = some (.ref C) ∧ cv = .ref C) ∧ @canS _ (frE F X.K i a x d) X WN (m x) (Ends.gone D i) (σ.set i (some (.ref a))) H := by
          intro s hs n1 n2 P
          obtain ⟨R2, h2⟩ := Rel.pin (J := excJ X.K x d) (up := excJ_up) (v := .ref a) R hs n1 n2 c3
          refine ⟨x, ⟨C1, c1, c2⟩, H0, B, Tt, _, R2, ?_⟩
          have eh : Hd Tt (σ.set i (some (.ref a))) (env.set i .xc) = Hd Tt σ env := funext fun q => propext (h2 q)
          have ne := R.fne hs n2
          cases q : m x (env.set i .xc) with
          | bad => rw [q] at P; exact P.elim
          | ex y' e' => rw [q] at P; exact P.elim
          | ok pr =>
            obtain ⟨f, e'⟩ := pr
            rw [q] at P
            cases f with
            | nx =>
              intro σ' H' R' l
              obtain ⟨R3, h3⟩ := Rel.unpin ne R' Option.none
              refine P _ _ R3 ?_
              rw [eh] at l
              exact l.trans (Lat.less fun q z => (h3 q).mp z)
            | br =>
              intro σ' H' R' l
              obtain ⟨R3, h3⟩ := Rel.unpin ne R' Option.none
              refine P _ _ R3 ?_
              rw [eh] at l
              exact l.trans (Lat.less fun q z => (h3 q).mp z)
            | ct =>
              intro σ' H' R' l
              obtain ⟨R3, h3⟩ := Rel.unpin ne R' Option.none
              refine P _ _ R3 ?_
              rw [eh] at l
              exact l.trans (Lat.less fun q z => (h3 q).mp z)
            | rt rv =>
              cases rv with
              | v dd =>
                intro v σ' H' R' l rq
                obtain ⟨R3, h3⟩ := Rel.unpin ne R' Option.none
                rw [eh] at l
                refine P v _ _ R3 (l.trans (Lat.less fun q z => (h3 q).mp z)) (dpUp (hid_less fun q z => (h3 q).mp z) rq)
              | f us =>
                intro pn xs σ' H' h0 hp R' l rq
                obtain ⟨R3, h3⟩ := Rel.unpin ne R' Option.none
                rw [eh] at l
                refine P pn xs _ _ h0 hp R3 (l.trans (Lat.less fun q z => (h3 q).mp z)) (dpAllUp (hid_less fun q z => (h3 q).mp z) rq)
        cases hs : env[i]? with
        | none => simp only [hs] at P; exact P.elim
        | some s =>
          cases s with
          | no => simp only [hs] at P; exact go _ hs id (fun z => nomatch z) P
          | va d0 => simp only [hs] at P; exact go _ hs id (fun z => nomatch z) P
          | ow ds => simp only [hs] at P; exact P.elim
          | bo ds => simp only [hs] at P; exact P.elim
          | xc => simp only [hs] at P; exact P.elim
      · subst hk
        exact ih R r P
theorem evs_try {X : Cx} {Wout : WX} {sub : Str → Str → Option Bool} {body : List Stmt} {h0 : ExceptHandler} {hs : List ExceptHandler} {cs : List MCl} {mb : M Fl} {pos : Pos} (T : ExTab X.K X.mg sub) (tk : Takes X Wout)
    (hb : ∀ (W : WX) (pn : List (Addr × Obj)) (xe : Value → Shared → Prop), Takes (X.tr pn xe) W → PassesOwn (model X.prog X.w) X.A X.env xe → EvSs (X.tr pn xe) W body mb) (C : ClE X (h0 :: hs) cs)
    (es : X.stack = X.env :: X.outer := by rfl) (ef : X.env.frame = some X.env.locals := by rfl) : EvS X Wout (.Try body (h0 :: hs) [] [] pos) (mTry sub mb cs) := by
  obtain ⟨l', C', go⟩ := clE_go (Wout := Wout) T C
  refine ⟨_, ps_tryX es ef tk (tb := fun W => canS X W mb) (fun W pn xe tk' ps => (hb W pn xe tk' ps).can) C', fun H0 B Tt σ H env D R P => ?_⟩
  refine ⟨H0, B, Tt, env, R, ?_⟩
  unfold mTry at P
  cases q : mb env with
  | bad => rw [q] at P; exact P.elim
  | ok pr =>
    rw [q] at P
    exact postS_ok P
  | ex x e' =>
    rw [q] at P
    intro cv d σ' H' R' l r
    exact go R' r (P.later l)
end
end Fx
namespace Fx
open PySem PySem.Spec PyProof.Rows L2
section
variable [Tb] [F : Fr]
variable {X : Cx} {W : WX}

/-! ### written texts with data in them -/
theorem pe_fmtD {e : Expr} {te : TE} {pos : Pos} (hgu : X.A.guards = some []) (hu : X.A.units + 200 < cLine) (he : PE X e te) :
    PE X (.FormattedValue e 114 none pos) (fun σ H Q => te σ H fun v H1 => ∃ d : PyData, Rq X.K H1 v d ∧ d.showable = true ∧ d.shown.length ≤ 1000000 ∧ d.depth ≤ 60 ∧ Q (.str d.shown) H1) := by
  refine ⟨fun pins s σ H Q I h => wpAny_FormattedValue_repr (thn (he.run pins s σ H _ I h) fun u s1 hv => ?_)⟩
  obtain ⟨v, H1, I1, ru, d, hd, h2, h3, h4, q⟩ := hv
  have hz : d.shown.length ≤ sizeLine := Nat.le_trans h3 mil
  have fin : ∀ (h' : Heap) (t : Tok) (tk : Nat), (∀ b o, s1.heap.get? b = some o → h'.get? b = some o) → wpAny (model X.prog X.w) X.A (formatField (.str d.shown t) Str.empty) (EP X pins σ Q) X.xe { s1 with heap := h', toks := tk } := fun h' t tk hk =>
    wpAny_formatField_str ⟨.str d.shown, H1, I1.kept hk, ⟨t, rfl⟩, q⟩ ⟨.str d.shown, H1, (I1.kept hk).tok _, ⟨_, rfl⟩, q⟩ hz
  cases hd with
  | d0 h =>
    obtain ⟨as, rr, nd⟩ := rq_reads I1 (.d0 h)
    cases ru
    exact pyReprObj_of_reads rr h2 nd hgu (by omega) (fun _ _ e => e) (fun h' u tk hk => fin h' u tk hk) hz
  | d1 k h =>
    obtain ⟨as, rr, nd⟩ := rq_reads I1 (.d1 k h)
    cases ru
    exact pyReprObj_of_reads rr h2 nd hgu (by omega) (fun _ _ e => e) (fun h' u tk hk => fin h' u tk hk) hz
  | dp hp h1 =>
    cases hp with
    | non => cases ru; exact pyReprObj_none (fin s1.heap _ _ fun _ _ e => e)
    | bl b => cases ru; exact pyReprObj_bool (fin s1.heap _ _ fun _ _ e => e)
    | int i => obtain ⟨t, rfl⟩ := ru; exact pyReprObj_int (by simpa [PyData.showable] using h2) (fin s1.heap _ _ fun _ _ e => e)
    | str x => obtain ⟨t, rfl⟩ := ru; exact pyReprObj_str (fin s1.heap _ _ fun _ _ e => e) (by simpa [PyData.shown] using hz)
    | lst hs ha =>
      obtain ⟨as, rr, nd⟩ := rq_reads I1 (.dp (.lst hs ha) h1)
      cases ru
      exact pyReprObj_of_reads rr h2 nd hgu (by omega) (fun _ _ e => e) (fun h' u tk hk => fin h' u tk hk) hz
    | tup hs ha =>
      obtain ⟨as, rr, nd⟩ := rq_reads I1 (.dp (.tup hs ha) h1)
      cases ru
      exact pyReprObj_of_reads rr h2 nd hgu (by omega) (fun _ _ e => e) (fun h' u tk hk => fin h' u tk hk) hz
end
end Fx
namespace Fx
open PySem PySem.Spec PyProof.Rows L2
open PySem.W PySem.Builtin PySem.Builtin.ObjectAttr

/-! ### exceptions with an __init__ of their own that says super().__init__(..): the machine's part -/
section
variable {P : Program} {w : World} {A : Around} {E : Value → Shared → Prop} {h : Heap} {g : Array GenState} {d : Drawn} {t : Nat} {os : OsState}
variable {B newId initId : String} {bmB : List Value}
/-- the bound __init__ of the class above is called -/
theorem mw_called (F : ExcBaseFacts B newId initId bmB) {nm q : Str} {C N u e t0 : Addr} {bs bm : List Value} {hd : Bool} {sn : List Str} {sub : List Value} {ab : Bool} {col : Option Bool} {dd : Option Addr} {k0 k1 k2 k3 k5 : Option Value} {us : List Value} {Q : Value → Shared → Prop}
    (hC : h.get? C = some (excClassObj nm q C N bs bm hd sn sub ab col dd k0 k1 k2 k3 k5 newId)) (he : h.get? e = some (PySem.HandSPX.excO C t0)) (hu : h.get? u = some (kxs_mw initId e)) (hl : us.length ≤ sizeLine)
    (hq : ∀ h2 t1, (∀ b o, b ≠ e → h.get? b = some o → h2.get? b = some o) → h2.get? e = some (PySem.HandSPX.excO C t1) → Q .none ⟨h2, g, d, t, os⟩) :
    wpAny (model P w) A (call (.ref u) us) Q E ⟨h, g, d, t, os⟩ := by
  refine wpAny_call (codeAny_of_tree ?_)
  show wpAny _ A.in1 (callAny (.ref u) ⟨us, []⟩) _ _ _
  simp only [callAny]
  refine wpAny_bind (wpAny_load hu ?_)
  have kind : (Value.type "method-wrapper" == Value.type "method" || Value.type "method-wrapper" == Value.type "builtin_function_or_method" || Value.type "method-wrapper" == Value.type "method-wrapper") = true := by decide
  simp only [kxs_mw, kind, if_true]
  refine KFB.if_so (by decide) (wpAny_bind (check_bound_init F.toExcCallFacts hC he rfl ?_))
  refine wpAny_bind (wpAny_pure (wpAny_pure ⟨plainId_quiet F.init.plain _, codeAny_builtin F.initEntry ?_⟩))
  exact exc_init_tree (cls := .ref C) (t0 := t0) (dv := none) (c2 := .none) (c3 := .none) (b4 := .bool false) he hl fun h2 k2 e2 _ => hq h2 _ k2 e2
/-- self.f = v, the exception without a dict so far -/
theorem osaG {K : PySem.W.Frag} {name : Str} {tk : Tok} {v : Value} {x C : Addr} {fv : Array Value} {cd : ClassData} {R : Result → Shared → Prop} (SF : StoreFacts B bmB "object.__setattr__" "object") (KX : K.In h) (hx : h.get? x = some { cls := .ref C, data := .fields fv })
    (hc : PySem.W.clsIn K C = some cd) (hh : cd.hasDict = true) (hp : excOver K C bmB = true) (ha : takerIn K C name = some none)
    (hq : ∀ h2 tk2 dx, (∀ b o, b ≠ x → h.get? b = some o → h2.get? b = some o) → h.objs.size ≤ dx → dx ≠ x → h2.get? x = some { cls := .ref C, dict := some dx, data := .fields fv } → h2.Ns1 dx (fun y => if y = name then some v else none) → R (.ok (.ret .none)) ⟨h2, g, d, tk2, os⟩) :
    codeAny (model P w) A (.call (.builtin "object.__setattr__") ⟨[.ref x, .str name tk, v], []⟩) R ⟨h, g, d, t, os⟩ := by
  have I : PySem.W.InstAt h x { cls := .ref C, data := .fields fv } C none := ⟨hx, rfl, rfl, trivial⟩
  have ne : x ≠ h.objs.size := Nat.ne_of_lt (Heap.lt_size hx)
  refine osa_openX SF KX I hp ha fun b => ?_
  have look : PySem.W.Looks (model P w) h (classData C) cd := PySem.W.looks_clsIn KX hc
  obtain ⟨nm, bs, mro, ns, qn, hd, sn, sb, ab, col, del⟩ := cd
  dsimp only at hh
  subst hh
  show wpAny _ _ (storeInOwnDict (.ref x) (.ref C) (.str name tk) name v b) _ _ _
  unfold storeInOwnDict ownDictForStores
  repeat (first | with_reducible refine PySem.HandSPX.store_in_new ?_ ?_ | with_reducible refine wpAny_loadPart_at hx ?_ | with_reducible refine look.at ?_ | wp_step)
  · exact ⟨_, #[], _, (Heap.get?_update_ne _ _ _ _ ne.symm).trans (Heap.get?_push_at rfl rfl), rfl, fun e he => absurd he (by simp), fun _ => rfl⟩
  · intro h2 tk2 hn hs
    have hx1 : (h.push { cls := .type "dict", data := .dict #[] }).get? x = some { cls := .ref C, data := .fields fv } := Heap.get?_push_of_some _ hx
    refine hq h2 tk2 h.objs.size (fun b o hb ho => ?_) (Nat.le_refl _) ne.symm ?_ hn
    · exact (hs.2 b (Nat.ne_of_lt (Heap.lt_size ho))).trans ((Heap.get?_update_ne _ _ _ _ hb).trans (Heap.get?_push_of_some _ ho))
    · exact (hs.2 x ne).trans (Heap.get?_update_self _ hx1 rfl)
end
end Fx
namespace Fx
open PySem PySem.Spec PyProof.Rows L2
open PySem.W PySem.Builtin PySem.Builtin.ObjectAttr

/-- an exception class of the program with such an __init__: what the written part says -/
structure OwnX (P : Program) (K : PySem.W.Frag) (C : Addr) (fld B newId initId : String) (bmB : List Value) : Prop where
  F : ExcBaseFacts B newId initId bmB
  KF : KxsFacts B initId
  SF : StoreFacts B bmB "object.__setattr__" "object"
  ini : excInitIn K C bmB newId = true
  dct : PySem.W.hasDictIn K C = true
  ovr : excOver K C bmB = true
  sa : PySem.W.findIn K (.ref C) "__setattr__" = some (some (.builtin "object.__setattr__"))
  tkr : takerIn K C (Str.ofString fld) = some none
  up : ks_superIn K C C "__init__" = some (some (.builtin initId))
  isB : PySem.W.mroIn K C (.type B) = some true
  isC : PySem.W.mroIn K C (.ref C) = some true
  opq : PySem.W.nsIn K cStatics "thirdparty.any" = some none
  cls : ∃ cd, PySem.W.clsIn K C = some cd
section
variable {X : Cx} {pins : List (Addr × Obj)} {σ : L2.St} {H : Hp} {s : Shared} {a C : Addr} {fld B newId initId : String} {bmB : List Value}
theorem OwnX.obj (T : OwnX X.prog X.K C fld B newId initId bmB) {h : Heap} (KX : X.K.In h) : ∃ nm N qn bs bm hdct sn sub ab col dd k0 k1 k2 k3 k5, h.get? C = some (excClassObj nm qn C N bs bm hdct sn sub ab col dd k0 k1 k2 k3 k5 newId) :=
  let ⟨nm, N, qn, bs, bm, hdct, sn, sub, ab, col, dd, k0, k1, k2, k3, k5, e, _⟩ := excInit_of KX T.ini
  ⟨nm, N, qn, bs, bm, hdct, sn, sub, ab, col, dd, k0, k1, k2, k3, k5, e⟩
/-- the bound __init__ called: nothing of it is told -/
theorem ini_ok {u : Addr} {us : List Value} {Q : Value → Shared → Prop} {A : Around} {E : Value → Shared → Prop} (T : OwnX X.prog X.K C fld B newId initId bmB) (I : Inv X pins σ H s) (e : H a = some (exo a C none)) (hu : s.heap.get? u = some (kxs_mw initId a)) (hl : us.length ≤ sizeLine) (h : ∀ s', Inv X pins σ H s' → Q .none s') :
    wpAny (model X.prog X.w) A (call (.ref u) us) Q E s := by
  obtain ⟨nm, N, qn, bs, bm, hdct, sn, sub, ab, col, dd, k0, k1, k2, k3, k5, hC⟩ := T.obj I.kIn
  obtain ⟨t1, ho⟩ := exo_at I.hok e
  obtain ⟨hp, g, d, t, os⟩ := s
  refine mw_called T.F hC ho hu hl fun h2 t2 k hx => ?_
  have J := I.write (t' := t) (x := a) (e := a) (o := exo a C none) (by rw [e]; exact True.intro) (.inl rfl) k ⟨_, hx⟩ (exo_ok hx)
  have same : upd H a (exo a C none) = H := funext fun b => by
    by_cases hb : b = a
    · rw [hb, upd_same, e]
    · rw [upd_ne hb]
  rw [same] at J
  exact h _ J
/-- self.f = y -/
theorem fld_ok {y : V} {u : Value} {Q : Unit → Shared → Prop} {A : Around} {E : Value → Shared → Prop} (T : OwnX X.prog X.K C fld B newId initId bmB) (I : Inv X pins σ H s) (e : H a = some (exo a C none)) (ry : RelV y u)
    (h : ∀ dx s', H dx = none → dx ≠ a → Inv X pins σ (upd (upd H dx (exd dx [(Str.ofString fld, y)])) a (exo a C (some dx))) s' → Q () s') : wpAny (model X.prog X.w) A (setAttr (.ref a) (Str.ofString fld) u) Q E s := by
  obtain ⟨cd, hcl⟩ := T.cls
  have hdc : cd.hasDict = true := by
    have z := T.dct
    unfold PySem.W.hasDictIn at z
    rw [hcl] at z
    simpa using z
  obtain ⟨t1, ho⟩ := exo_at I.hok e
  obtain ⟨hp, g, d, t, os⟩ := s
  refine PySem.W.set_plain I.kIn (ox := { cls := .ref C, dict := none, data := .fields #[.ref t1, .none, .none, .none, .bool false, .none] }) (od := none) ⟨ho, rfl, rfl, trivial⟩ T.sa ?_
  refine osaG T.SF I.kIn ho hcl hdc T.ovr T.tkr fun h2 tk2 dx k dn dne hx hn => ?_
  have hnd : H dx = none := I.hok.fresh dn
  have nd : ∀ {b : Addr} {o : Obj}, hp.get? b = some o → b ≠ dx := fun {b o} q => Nat.ne_of_lt (Nat.lt_of_lt_of_le (Heap.lt_size q) dn)
  have na : ∀ {b : Addr}, H b = none → b ≠ a := fun {b} n z => by
    rw [z, e] at n
    cases n
  have stays : ∀ {b : Addr} {o : HO}, H b = some o → (b = a → o = exo a C none) := fun {b o} q z => by
    rw [z, e] at q
    exact (Option.some.inj q).symm
  have at' : ∀ {b : Addr} {o : HO}, H b = some o → b ≠ a → upd (upd H dx (exd dx [(Str.ofString fld, y)])) a (exo a C (some dx)) b = some o := fun {b o} q n => by rw [upd_ne n, upd_ne (ne_of_none q hnd)]; exact q
  have Un1 : Un X.fs [] H (upd (upd H dx (exd dx [(Str.ofString fld, y)])) a (exo a C (some dx))) hp h2 :=
    ⟨fun b o q n _ _ => k b o (na n) q, fun b o q n _ _ => ⟨o.slots, k b o (na n) q⟩, fun b o q n _ => by rw [upd_ne (na n), upd_ne (nd q)]; exact n,
      fun b o q _ => by
        by_cases hb : b = a
        · exact ⟨_, by rw [hb]; exact hx⟩
        · exact ⟨o, k b o hb q⟩,
      fun b xs q => at' q (at_ne e q exo_tup), fun b o v q => at' q (at_ne e q exo_frz), fun b ps q => ⟨#[], by rw [at' q (at_ne e q exo_tbl)]; simp⟩⟩
  refine h dx _ hnd dne (I.un (t' := tk2) Un1 fun b o q => ?_)
  by_cases hb : b = a
  · subst hb
    rw [upd_same] at q
    cases q
    exact exo_ok hx
  · rw [upd_ne hb] at q
    by_cases hd : b = dx
    · subst hd
      rw [upd_same] at q
      cases q
      exact exd_ok hn (relO_put (fs := []) ry fun g => True.intro)
    · rw [upd_ne hd] at q
      refine (I.hok b o q).stay (fun c v hc z => k c v ?_ z) (fun c hc => at' hc (at_ne e hc exo_own)) fun c xs hc => at' hc (at_ne e hc exo_tup)
      rcases hc with hc | hc
      · rw [hc]
        exact hb
      · exact at_ne e hc exo_own
end
end Fx
namespace Fx
open PySem PySem.Spec PyProof.Rows L2 NdefX
open PySem.W PySem.Builtin PySem.Builtin.ObjectAttr PySem.Calls

/-- the def of __init__(self, p): super().__init__(e1); self.f = p -/
structure IniF (P : Program) (K : PySem.W.Frag) (mg : Str → Option Value) (C fI cda cc : Addr) (fd : FuncData) (scope : Scope) (p fld : Str) (e1 : Expr) (body : List Stmt) (qual : Str) (params : Arguments) : Prop where
  at' : ∃ (name : Str) (dV kV doc pm ct oc : Value) (an od : Option Addr) (osl : Array (Option Value)), fd = ksFn name qual params body scope dV kV doc pm an (.ref cda) ct cc ∧ K.lookup fI = some ⟨oc, od, .func fd, osl⟩
  body' : ∃ (q0 q1 q2 q3 q4 q5 q6 q7 q8 : Pos) (pl : Env → Sem Bool), body = [.Expr (.Call (.Attribute (.Call (.Name "super" q0) [] [] q1) "__init__" q2) [e1] [] q3) q4, .Assign [.Attribute (.Name "self" q5) fld q6] (.Name p q7) q8] ∧ (∀ X : Env, swapsWith (.Name p q7) (some (.Attribute (.Name "self" q5) fld q6)) q8.line X = pure false) ∧
    ∀ env : Env, eval (.Call (.Attribute (.Call (.Name "super" q0) [] [] q1) "__init__" q2) [e1] [] q3) env = (do
      let ov ← attributeBase (.Call (.Name "super" q0) [] [] q1) "__init__" env (eval (.Call (.Name "super" q0) [] [] q1) env)
      standAt q2.atName
      let (f, first) ← holding [ov] (getMethod ov "__init__" (pl env))
      callWith q3 f first (backTo q3 (starEach [e1] env)) [])
  scp : NScope ["self", p, "__class__"] ["self", p] ["__class__"] scope
  sup : scope.names.lookup ("super" : Str) = some .globalImplicit
  rec' : PySem.W.codeIn K (.ref cda) qual = true
  arg : ∃ ar : Arg, (params.posonlyargs ++ params.args).head? = some ar ∧ ar.arg = "self"
  code : ∃ (ccl : Value) (cdd : Option Addr) (vs : Array Value) (ccs : Array (Option Value)) (file : Str) (tf : Tok), K.lookup cda = some ⟨ccl, cdd, .fields vs, ccs⟩ ∧ vs[2]? = some (.str file tf) ∧ ((P.main.file : Str) == file) = true
  cell : ∃ (cl : Value) (cld : Option Addr) (csl : Array (Option Value)), K.lookup cc = some ⟨cl, cld, .cell (some (.ref C)), csl⟩
  nos : mg "super" = none
  top : (P.main.scope.names.lookup ("super" : Str)).isSome = false
  binds : ∀ (s : Shared) (u v : Value), K.In s.heap → BindsTo s fd ⟨[u, v], []⟩ [("self", u), (p, v)]
  plain : ∀ env : Env, starEach [e1] env = (false, eval e1 env) :: starEach [] env
  pd : (p == ("__debug__" : Str)) = false
  pc : (p == ("__classdict__" : Str)) = false
abbrev CXR (R : Result → Shared → Prop) : CXT := fun _ _ _ _ e s => R (.error e) s
section
variable {P : Program} {w : World} {K : PySem.W.Frag} {mg : Str → Option Value} {base : Heap} {A : Around} {outer : List Env} {s : Shared} {H : Hp} {R : Result → Shared → Prop}
variable {C fI cda cc a : Addr} {fd : FuncData} {scope : Scope} {p : Str} {e1 : Expr} {body : List Stmt} {qual : Str} {params : Arguments} {fld B newId initId : String} {bmB : List Value}
theorem ini_run (T : OwnX P K C fld B newId initId bmB) (D : IniF P K mg C fI cda cc fd scope p (Str.ofString fld) e1 body qual params) (e0 : Env0 P w K mg base A outer s H) (hr : Room 1 A) (ea : H a = some (exo a C none)) {v : V} {u : Value} (rv : RelV v u)
    (hm : ∀ (X : Cx), (∃ E, X = ncx (CXR R) P w K mg base ["self", p, "__class__"] ⟨"__init__", qual, params, body, scope, [("__class__", cc)], cda⟩ fI A outer s H E) → ∃ tm : TE, PE X e1 tm ∧ tm [some (.ref a), some v, some (.ref C)] H fun _ H1 => H1 = H)
    (hq : ∀ (dx : Addr) (s' : Shared), H dx = none → dx ≠ a → s'.os = s.os → AllBare s'.gens → Un (frs outer) [] H (upd (upd H dx (exd dx [(Str.ofString fld, v)])) a (exo a C (some dx))) s.heap s'.heap →
      HOk P w (upd (upd H dx (exd dx [(Str.ofString fld, v)])) a (exo a C (some dx))) s'.heap → R (.ok (.ret .none)) s') :
    codeAny (model P w) A (.call (.ref fI) ⟨[.ref a, u], []⟩) R s := by
  have KX : K.In s.heap := e0.mod.kin.keeps fun b o e => (e0.bs b o e).1
  have lim : s.heap.NoLimit := e0.mod.nolimit.keeps fun b o e => (e0.bs b o e).1
  obtain ⟨name, dV, kV, doc, pm, ct, oc, an, od, osl, rfl, lk⟩ := D.at'
  obtain ⟨cl0, cld, csl, hcell⟩ := D.cell
  obtain ⟨ccl, cdd, cvs, ccs, file, tf, hcode, hfile, hmain⟩ := D.code
  obtain ⟨ar, har, hself⟩ := D.arg
  obtain ⟨q0, q1, q2, q3, q4, q5, q6, q7, q8, pl, hbody, hsw, hev⟩ := D.body'
  have S := D.scp
  have hK0 : ∀ {b : Addr} {o : Obj}, K.lookup b = some o → H b = none := fun {b o} e => (e0.bs b o (e0.mod.kin b o e)).2
  refine ks_codeAny_call_defAt (fd := ksFn name qual params body scope dV kV doc pm an (.ref cda) ct cc) (binds := [("self", .ref a), (p, u)]) hr.depth (KX _ _ lk) rfl lim (PySem.W.codeRec_of KX D.rec') rfl (D.binds s _ _ KX) S.nocell (fun y hy => ?_) (fun h1 hns kp => ?_) S.co S.gen S.kind
  · simp only [List.mem_cons, List.not_mem_nil, or_false] at hy
    rcases hy with rfl | rfl
    · exact S.par "self" (by simp)
    · exact S.par p (by simp)
  have cells : CellsAt [("__class__", cc)] ["__class__"] [some (.ref C)] s.heap H := by
    refine ⟨rfl, fun y c e => ?_, fun x y c e1 e2 => ?_, fun i y e => ?_⟩
    · have z := PySem.mem_of_lookup e
      have z2 : c = cc := by simp at z; exact z.2
      subst z2
      exact ⟨hK0 hcell, _, _, KX _ _ hcell, rfl⟩
    · have z1 := PySem.mem_of_lookup e1
      have z2 := PySem.mem_of_lookup e2
      simp at z1 z2
      rw [z1.1, z2.1]
    · cases i with
      | zero =>
        cases e
        refine ⟨cc, by rfl, fun v0 ev => ?_⟩
        cases ev
        exact ⟨_, rfl, _, KX _ _ hcell, rfl⟩
      | succ i => cases e
  have I := inv_startN (CX := CXR R) (E := fun _ _ _ => False) (F := ⟨"__init__", qual, params, body, scope, [("__class__", cc)], cda⟩) (f := fI) (h₁ := h1) (tk := s.toks + 2) (vs := [.ref a, v]) (us := [.ref a, u]) S hr.hd e0 rfl (.cons rfl (.cons rv .nil)) cells hns kp
  obtain ⟨tm, pm', hm2⟩ := hm (ncx (CXR R) P w K mg base ["self", p, "__class__"] ⟨"__init__", qual, params, body, scope, [("__class__", cc)], cda⟩ fI A outer s H (fun _ _ _ => False)) ⟨_, rfl⟩
  have K1 : K.In h1 := I.kIn
  obtain ⟨t1, ho⟩ := exo_at I.hok ea
  obtain ⟨mb, hb, hbb⟩ := e0.mod.blt
  obtain ⟨cd, hcl⟩ := T.cls
  obtain ⟨oC, hC1, hC2⟩ : ∃ oC, K.lookup C = some oC ∧ oC.data = .cls cd := by
    have z := hcl
    unfold PySem.W.clsIn at z
    split at z
    · rename_i ho
      cases z
      exact ⟨_, ho, rfl⟩
    · cases z
  have bk := I.bk
  subst hbody
  refine ks_wpAt_execs_cons (ks_wpAt_Expr_any (ks_wpAt_MethodCall (ks_wpAt_super_base D.sup (S.frk "__class__" (by simp)) (by decide) rfl (kp _ _ (KX _ _ lk)) rfl har rfl (kp _ _ (KX _ _ hcode)) rfl hfile hmain D.top ?_) (hev _)) (by simp [interactive, callEnv, newEnv, S.kind]) (by rfl))
  refine ks_loadName_global S.kind D.sup (loadGlobal_builtin (e0.mod.glob.keeps bk) D.nos (hb.keeps bk) ((hbb _ (by decide)).trans (show bootBuiltins "super" = some (.type "super") by first | rfl | kernel_rfl)) ⟨rfl, ?_⟩)
  refine wpAny_loadName_free S.kind (S.frk "__class__" (by simp)) rfl ⟨_, kp _ _ (KX _ _ hcell), rfl⟩ ?_
  have sp : p ≠ "self" := fun z => by
    have nd := S.nd
    rw [z] at nd
    simp at nd
  refine wpAny_loadName_local (v := .ref a) S.kind (by rw [hself]; exact S.par "self" (by simp)) hns (by rw [hself]; show List.lookup ("self" : Str) ([(p, u), (("self" : Str), Value.ref a)] : List (Str × Value)) = _; rw [List.lookup_cons, show ((("self" : Str)) == p) = false from beq_eq_false_iff_ne.mpr (Ne.symm sp)]; rfl) ?_
  refine ks_wpAny_isType_cls (K1 _ _ hC1) hC2 ⟨rfl, ?_⟩
  refine ks_wpAny_call_super (K1 _ _ hC1) hC2 ho rfl (fun c z => by cases z) (looks_mroIn K1 T.isC) (fun h2 e2 k2 => ?_)
  have K2 : K.In h2 := fun b o e => k2 _ _ (K1 _ _ e)
  have Ia : PySem.W.InstAt h2 a { cls := .ref C, dict := none, data := .fields #[.ref t1, .none, .none, .none, .bool false, .none] } C none := ⟨k2 _ _ ho, rfl, rfl, trivial⟩
  have up : alongIn K "__init__" ((cd.mro.dropWhile (· != .ref C)).drop 1) = some (some (.builtin initId)) := by
    have z := T.up
    unfold ks_superIn at z
    rw [hcl] at z
    exact z
  refine kxs_getMethod T.KF e2 (looks_opaque K2 T.opq) (l₀ := cd.mro) ((PySem.W.looks_clsIn K2 hcl).andThen .now) rfl K2 up (Ia.type.andThen (looks_mroIn K2 T.isB)) (ks_ne K2 Ia hcl) (by decide) ?_
  have sz := Heap.get?_push_size h2 (o := kxs_mw initId a) rfl
  have k3 : ∀ b o, h1.get? b = some o → (h2.push (kxs_mw initId a)).get? b = some o := fun b o e => Heap.get?_push_of_some _ (k2 b o e)
  have newU : ∀ b o, h1.get? b = some o → b ≠ h2.objs.size := fun b o e => Nat.ne_of_lt (Heap.lt_size (k2 b o e))
  have I3 := (I.kept (t' := s.toks + 2 + 1) k3)
  have J3 : Inv (ncx (CXR R) P w K mg base ["self", p, "__class__"] ⟨"__init__", qual, params, _, scope, [("__class__", cc)], cda⟩ fI A outer s H (fun _ _ _ => False)) [(h2.objs.size, kxs_mw initId a)] (startF ["self", p, "__class__"] [.ref a, v] [some (.ref C)]) H { s with heap := h2.push (kxs_mw initId a), toks := s.toks + 2 + 1 } :=
    I3.pins_of fun q hq => by
      obtain rfl : q = (h2.objs.size, kxs_mw initId a) := by simpa using hq
      have big : h1.objs.size ≤ h2.objs.size := Nat.le_of_lt (Heap.lt_size e2)
      obtain ⟨oL, _, _, hL, _⟩ := hns
      exact ⟨sz, I.hok.fresh big, fun z => newU _ _ hL z.symm, I.nofs big, fun v0 z => by cases z⟩
  have plain : (backTo q3 (starEach [] (envF ⟨"__init__", qual, params, [], scope, [("__class__", cc)], cda⟩ fI s.heap.objs.size))).any (·.1) = false := rfl
  show wpAny _ _ (callWith q3 (.ref h2.objs.size) [] (backTo q3 (starEach [e1] _)) []) _ _ _
  rw [D.plain]
  refine kxs_callWith (i := initId) (x := a) rfl (evalArgs_plain ?_)
  refine spliced_cons (thn (pm'.run [(h2.objs.size, kxs_mw initId a)] _ _ H (fun _ H1 => H1 = H) J3 hm2) fun m s3 hmm => ?_)
  obtain ⟨mv, H3, J4, rm, eH⟩ := hmm
  have eH2 := eH.symm
  subst eH2
  have hu4 : s3.heap.get? h2.objs.size = some (kxs_mw initId a) := (J4.pin (h2.objs.size, kxs_mw initId a) (List.mem_append_right _ List.mem_cons_self)).1
  refine spliced_nil ⟨hu4, ?_⟩
  have J5 := J4.pins_of (pins' := []) fun q hq => (nomatch hq)
  refine ini_ok (X := ncx (CXR R) P w K mg base ["self", p, "__class__"] ⟨"__init__", qual, params, _, scope, [("__class__", cc)], cda⟩ fI A outer s H (fun _ _ _ => False)) T J5 ea hu4 (by rw [sizeLine_eq]; simp) fun s4 J6 => ?_
  refine ks_wpAt_execs_cons (wpAt_of_wpAny ?_)
  have hv : ∀ {x : Str}, x = "self" ∨ x = p → scope.names.lookup x = some .local := fun z => by
    rcases z with rfl | rfl
    · exact S.par "self" (by simp)
    · exact S.par _ (by simp)
  refine plainObj_wpAny_Assign_Attribute (thn ((pe_var (X := ncx (CXR R) P w K mg base ["self", p, "__class__"] ⟨"__init__", qual, params, _, scope, [("__class__", cc)], cda⟩ fI A outer s H (fun _ _ _ => False)) (i := 1) rfl (.inl (hv (.inr rfl))) D.pd D.pc).run [] s4 _ H (fun y H1 => y = v ∧ H1 = H) J6 ⟨v, rfl, rfl, rfl⟩) fun u1 s5 hu => ?_) (hsw _)
  obtain ⟨y, H5, J7, r7, ey, eH5⟩ := hu
  have eH6 := eH5.symm
  subst eH6
  subst ey
  refine thn ((pe_var (X := ncx (CXR R) P w K mg base ["self", p, "__class__"] ⟨"__init__", qual, params, _, scope, [("__class__", cc)], cda⟩ fI A outer s H (fun _ _ _ => False)) (i := 0) rfl (.inl (hv (.inl rfl)))).run [] s5 _ H (fun y H1 => y = .ref a ∧ H1 = H) J7 ⟨.ref a, rfl, rfl, rfl⟩) fun u2 s6 hu => ?_
  obtain ⟨y2, H6, J8, r8, ey2, eH7⟩ := hu
  have eH8 := eH7.symm
  subst eH8
  subst ey2
  obtain rfl : u2 = Value.ref a := r8
  refine fld_ok (X := ncx (CXR R) P w K mg base ["self", p, "__class__"] ⟨"__init__", qual, params, _, scope, [("__class__", cc)], cda⟩ fI A outer s H (fun _ _ _ => False)) T J8 ea r7 fun dx s7 n1 n2 J9 => ?_
  exact wpAt_of_wpAny (wpAny_execs_nil (hq dx s7 n1 n2 J9.os J9.bare J9.base J9.hok))
end
end Fx
namespace Fx
open PySem PySem.Spec PyProof.Rows L2 NdefX
open PySem.W PySem.Builtin PySem.Builtin.ObjectAttr PySem.Calls
section
variable {X : Cx} {C fI cda cc : Addr} {fd : FuncData} {scope : Scope} {p : Str} {e1 : Expr} {body : List Stmt} {qual : Str} {params : Arguments} {fld B newId initId : String} {bmB : List Value}
/-- x(e): an exception of such a class is made -/
theorem pmk_ini {x : Str} {e : Expr} {ta : TA} {q pos : Pos} {Msg : V → Hp → Prop} (T : OwnX X.prog X.K C fld B newId initId bmB) (D : IniF X.prog X.K X.mg C fI cda cc fd scope p (Str.ofString fld) e1 body qual params) (iC : PySem.W.findIn X.K (.ref C) "__init__" = some (some (.ref fI)))
    (tI : PySem.W.typeIn X.K (.ref fI) = some (.type "function")) (rs : Raises X (.ref C)) (kC : PySem.W.keepIn X.K (.ref C) = true) (hr : Room 2 X.A) (hg : Gl X x) (hm : X.mg x = some (.ref C)) (ha : PA X [e] ta)
    (msg : ∀ (R : Result → Shared → Prop) (A : Around) (outer : List Env) (s : Shared) (H : Hp) (a : Addr) (v : V) (E : XK), A.guards = X.A.guards → Room 1 A → Msg v H → H a = none →
      ∃ tm : TE, PE (ncx (CXR R) X.prog X.w X.K X.mg X.base ["self", p, "__class__"] ⟨"__init__", qual, params, body, scope, [("__class__", cc)], cda⟩ fI A outer s (upd H a (exo a C none)) E) e1 tm ∧ tm [some (.ref a), some v, some (.ref C)] (upd H a (exo a C none)) fun _ H1 => H1 = upd H a (exo a C none))
    (hdb : (x == ("__debug__" : Str)) = false := by decide) (he : starEach [e] X.env = (false, eval e X.env) :: starEach [] X.env := by rfl) :
    PMk X (.Call (.Name x q) [e] [] pos) (fun σ H Q => ta σ H fun vs H1 => ∃ v, vs = [v] ∧ Msg v H1 ∧ ∀ d, H1 d = none → Q (.ref C) (some d) (upd H1 d (.xd [(Str.ofString fld, v)]))) := by
  intro pins s σ H Q I h
  obtain ⟨nm, N, qn, bs, bm, hdct, sn, sub, ab, col, dd, k0, k1, k2, k3, k5, hC, hbm⟩ := excInit_of I.kIn T.ini
  refine wpAny_Call_Name_kw (ld_glob I hg hm ?_ hdb)
  refine PySem.W.callWith_K (h₀ := X.base) I.ok.mod.kin kC (thn (ha.run pos pins s σ H _ I h) fun us s1 ⟨vs, H1, I1, r1, v, ev, hmsg, q1⟩ => ⟨I1.kIn, ?_⟩) he rfl
  subst ev
  obtain ⟨u, rfl, ru⟩ := vals1 r1
  obtain ⟨nm, N, qn, bs, bm, hdct, sn, sub, ab, col, dd, k0, k1, k2, k3, k5, hC, hbm⟩ := excInit_of I1.kIn T.ini
  show wpAny _ _ (call (.ref C) [u]) _ _ _
  obtain ⟨hp, g, dr, tk, os⟩ := s1
  have fresh : H1 (hp.objs.size + 1) = none := I1.hok.fresh (Nat.le_succ _)
  have kk : ∀ b o, hp.get? b = some o → ((hp.push (PySem.W.kdv_tup [u])).push (PySem.HandSPX.excO C hp.objs.size)).get? b = some o := fun b o e => Heap.get?_push_of_some _ (Heap.get?_push_of_some _ e)
  have made : ((hp.push (PySem.W.kdv_tup [u])).push (PySem.HandSPX.excO C hp.objs.size)).get? (hp.objs.size + 1) = some (PySem.HandSPX.excO C hp.objs.size) := by heap_get
  have I2 : Inv X pins σ (upd H1 (hp.objs.size + 1) (exo (hp.objs.size + 1) C none)) ⟨(hp.push (PySem.W.kdv_tup [u])).push (PySem.HandSPX.excO C hp.objs.size), g, dr, tk, os⟩ :=
    I1.laid (t' := tk) kk (Nat.le_succ _) (exo_ok made)
  refine wpAny_call (PySem.HandSPX.call_own T.F hbm hC (PySem.W.looks_findIn I1.kIn iC) (fun self => PySem.W.bind_fn I1.kIn self tI) (by rw [sizeLine_eq]; simp) ?_)
  refine ini_run T D (I2.env0.make C [u] []) (hr.make C [u] []) upd_same ru (fun Y ⟨E, eY⟩ => ?_) fun dx s2 n1 n2 os2 bare2 un2 hok2 => ?_
  · subst eY
    exact msg _ _ _ _ _ _ _ _ (by first | rfl | simp [Around.under, Code.weight, Code.isCreation, Code.isGuard, Code.isCaller, Code.frames, Code.isFrame, guardIds]) (hr.make C [u] []) hmsg fresh
  · obtain ⟨h2, g2, d2, t2, os'⟩ := s2
    have nd : dx ≠ hp.objs.size + 1 := n2
    rw [upd_ne nd] at n1
    refine ⟨rfl, mk_end rs I1 (Nat.le_succ _) kk un2 hok2 os2 bare2 upd_same (by rw [upd_ne nd, upd_same]) n1 ?_⟩
    have same : upd (del (upd (upd (upd H1 (hp.objs.size + 1) (exo (hp.objs.size + 1) C none)) dx (exd dx [(Str.ofString fld, v)])) (hp.objs.size + 1) (exo (hp.objs.size + 1) C (some dx))) (hp.objs.size + 1)) dx (.xd [(Str.ofString fld, v)]) = upd H1 dx (.xd [(Str.ofString fld, v)]) := funext fun b => by
      by_cases hb : b = dx
      · rw [hb, upd_same, upd_same]
      · rw [upd_ne hb, upd_ne hb]
        by_cases hb2 : b = hp.objs.size + 1
        · rw [hb2, del_same, fresh]
        · rw [del_ne hb2, upd_ne hb2, upd_ne hb, upd_ne hb2]
    rw [same]
    exact q1 dx n1
end
end Fx
namespace Fx
open PySem PySem.Spec PyProof.Rows L2 NdefX
open PySem.W PySem.Builtin PySem.Builtin.ObjectAttr PySem.Calls

/-! ### raise -/
/-- raise C('text') -/
def mRaise0 (c : Str) : M Fl := fun env => .ex ⟨c, []⟩ env
/-- raise C(e), C's own __init__ keeps the argument under a name; ok: that its text can be made -/
def mRaiseI (c f : Str) (ok : PyData → Bool) (m : M PyData) : M Fl := m.bind fun d env => if ok d = true then .ex ⟨c, [(f, d)]⟩ env else .bad
def okR (d : PyData) : Bool := (gRepr [d]).isSome
/-- the exception's field -/
def mXf (flds : Str → Str → Bool) (x : Ex) (f : Str) : M PyData := M.opt (if flds x.cls f = true then x.kept.lookup f else none)
/-- what the text of the __init__ wants of the argument -/
def MsgR (K : PySem.W.Frag) (v : V) (H : Hp) : Prop := ∃ (d : PyData) (O : Addr → Prop), Dq K (hid H O) v d ∧ layQ d = true ∧ d.showable = true ∧ d.shown.length ≤ 1000000 ∧ d.depth ≤ 60
section
variable [Tb] [F : Fr]
variable {X : Cx} {W : WX} {pos p q : Pos}
theorem evs_raise0 {c : Str} {C : Addr} {e : Expr} (hc : X.calm = true) (tk : Takes X W) (hm : X.mg c = some (.ref C)) (he : PMk X e (fun _ H Q => Q (.ref C) none H)) : EvS X W (.Raise (some e) none pos) (mRaise0 c) :=
  ⟨_, ps_raise hc tk he, fun H0 B T σ H env D R P => P _ _ _ _ R .refl ⟨C, hm, rfl, fun z => absurd rfl z⟩⟩
theorem evs_raiseI {c f : Str} {C : Addr} {e : Expr} {es : List Expr} {m : M PyData} {ok : PyData → Bool} {Msg : V → Hp → Prop} (hc : X.calm = true) (tk : Takes X W) (hm : X.mg c = some (.ref C)) (ha : EvA X W es (mCons m mNil))
    (he : ∀ ta, PA X es ta → PMk X e (fun σ H Q => ta σ H fun vs H1 => ∃ v, vs = [v] ∧ Msg v H1 ∧ ∀ d, H1 d = none → Q (.ref C) (some d) (upd H1 d (.xd [(f, v)]))))
    (hok : ∀ (O : Addr → Prop) (H : Hp) (v : V) (d : PyData), ok d = true → Dq X.K (hid H O) v d → Msg v H) : EvS X W (.Raise (some e) none pos) (mRaiseI c f ok m) := by
  obtain ⟨ta, pa, A⟩ := ha.ex
  refine ⟨_, ps_raise hc tk (he ta pa), fun H0 B T σ H env D R P => A H0 B T σ H env _ R ?_⟩
  unfold mRaiseI M.bind at P
  unfold mCons mNil M.bind
  cases e1 : m env with
  | bad => rw [e1] at P; exact P.elim
  | ex x e' =>
    rw [e1] at P
    exact fun cls dd H' R' l r => P cls dd σ H' R' l r
  | ok pr =>
    obtain ⟨d, e'⟩ := pr
    rw [e1] at P
    simp only at P
    by_cases hd : ok d = true
    · rw [if_pos hd] at P
      intro vs H1 R1 l1 r
      cases r with
      | @cons v1 _ _ _ h a =>
        cases a
        refine ⟨v1, rfl, hok _ _ _ _ hd h, fun dx hdx => ?_⟩
        refine P _ _ _ _ (R1.grow (same_new hdx)) (l1.trans (.of (same_new hdx))) ⟨C, hm, rfl, fun _ => ⟨dx, [v1], rfl, ?_, ?_⟩⟩
        · exact hid_some.mpr ⟨fun z => R1.hdThere z hdx, upd_same⟩
        · exact .cons (dpUp (Lat.of (same_new hdx)).same h) .nil
    · rw [if_neg hd] at P
      exact P.elim
theorem msgR_ok {O : Addr → Prop} {H : Hp} {v : V} {d : PyData} (h : okR d = true) (r : Dq X.K (hid H O) v d) : MsgR X.K v H := by
  by_cases z : layQ d = true ∧ d.showable = true ∧ d.shown.length ≤ 1000000 ∧ d.depth ≤ 60
  · exact ⟨d, O, r, z⟩
  · have e : gRepr [d] = none := if_neg z
    unfold okR at h
    rw [e] at h
    cases h
end
/-- a written text -/
theorem msg_const {X : Cx} {m : Str} {k : Nat} {p : Pos} {σ : L2.St} {H : Hp} : ∃ tm : TE, PE X (.Constant (.str m) k p) tm ∧ tm σ H fun _ H1 => H1 = H := ⟨_, pe_str, rfl⟩
/-- f'{p!r} text' -/
theorem msg_repr [Tb] [Fr] {X : Cx} {x m : Str} {k : Nat} {p1 p2 p3 p4 : Pos} {v w : V} {o : Option V} {H : Hp} {a : Addr} {ob : HO} (hgu : X.A.guards = some []) (hu : X.A.units + 200 < cLine) (hN : X.N[1]? = some x) (hv : Vis X.env.scope x) (hd : (x == ("__debug__" : Str)) = false) (hc : (x == ("__classdict__" : Str)) = false)
    (hl : m.length ≤ 1000) (na : H a = none) (h : MsgR X.K v H) : ∃ tm : TE, PE X (.JoinedStr [.FormattedValue (.Name x p1) 114 none p2, .Constant (.str m) k p3] p4) tm ∧ tm [some w, some v, o] (upd H a ob) fun _ H1 => H1 = upd H a ob := by
  refine ⟨_, pe_joined (.cons (pe_fmtD hgu hu (pe_var (i := 1) hN hv hd hc)) (.cons pe_str .nil)), ?_⟩
  obtain ⟨d, O, h1, h2, h3, h4, h5⟩ := h
  have z : sizeLine = 2 ^ 24 := sizeLine_eq
  have e0 : (Str.empty ++ d.shown).length = d.shown.length := by rw [strLen_append]; exact Nat.zero_add _
  refine ⟨v, rfl, d, rq_of (dpUp hid_sub (dpUp (Lat.of (same_new na)).same h1)) h2, h3, h4, h5, _, rfl, ?_, _, rfl, ?_, rfl⟩
  · rw [e0]
    omega
  · rw [strLen_append, e0]
    omega
/-- what the written part says of the fields of exception classes -/
structure FxTab (K : PySem.W.Frag) (mg : Str → Option Value) (flds : Str → Str → Bool) : Prop where
  tells : ∀ (c f : Str) (C : Addr), flds c f = true → mg c = some (.ref C) → XfC K C ∧ PySem.W.findIn K (.ref C) f = some none
theorem kept_look {K : PySem.W.Frag} {H : Hp} {f : Str} {d : PyData} : ∀ {ks : List (Str × PyData)} {vs : List V}, DqAll K H vs (ks.map (·.2)) → ks.lookup f = some d → ∃ v, ((ks.map (·.1)).zip vs).lookup f = some v ∧ Dq K H v d
  | [], _, _, e => by cases e
  | (g, d0) :: ks, vs, a, e => by
    cases a with
    | @cons v _ _ _ h a =>
      rw [List.lookup_cons] at e
      show ∃ w, List.lookup f ((g, v) :: (ks.map (·.1)).zip _) = some w ∧ _
      rw [List.lookup_cons]
      cases z : f == g with
      | true =>
        rw [z] at e
        cases e
        exact ⟨v, rfl, h⟩
      | false =>
        rw [z] at e
        exact kept_look a e
section
variable [Tb] [F : Fr]
/-- error.f, in the clause's suite -/
theorem ev_xf {X : Cx} {a : Addr} {oe : Obj} {cv : Value} {d : Option Addr} {pn : List (Addr × Obj)} {x : Ex} {i : Nat} {n f : Str} {p pos : Pos} {flds : Str → Str → Bool} (T : FxTab X.K X.mg flds) (hc : ∃ C : Addr, X.mg x.cls = some (.ref C) ∧ cv = .ref C) (hz : Zc cv d oe) (hf : ∃ fs, oe.data = .fields fs)
    (hN : X.N[i]? = some n := by rfl) (hv : Vis X.env.scope n := by first | exact Or.inl rfl | exact Or.inr (Or.inl rfl) | exact Or.inr (Or.inr rfl)) (hd : (n == ("__debug__" : Str)) = false := by decide) (hcd : (n == ("__classdict__" : Str)) = false := by decide)
    (hb : attributeBase (.Name n p) f X.env (eval (.Name n p) X.env) = eval (.Name n p) X.env := by rfl) : @Ev _ (frE F X.K i a x d) (X.suite a ((a, oe) :: pn)) WN (.Attribute (.Name n p) f pos) (mXf flds x f) := by
  obtain ⟨C, hC, rfl⟩ := hc
  cases hk : flds x.cls f with
  | false =>
    refine @Ev.mk _ (frE F X.K i a x d) _ _ _ _ ⟨fun _ _ _ => False, ⟨fun pins s σ H Q I h => h.elim⟩, fun H0 B T σ H env Q R P => ?_⟩
    unfold mXf M.opt at P
    rw [hk] at P
    exact P
  | true =>
    obtain ⟨xf, no⟩ := T.tells _ _ _ hk hC
    refine @Ev.mk _ (frE F X.K i a x d) _ _ _ _ ⟨_, pe_xf (C := C) xf no hz hf (pe_var (X := X.suite a ((a, oe) :: pn)) (i := i) hN hv hd hcd) hb, fun H0 B T σ H env Q R P => ?_⟩
    obtain ⟨r1, r2, r3, r4, r5, r6, r7, r8, r9, r10, r11, r12⟩ := id R
    obtain ⟨q1, q2⟩ := r11 (i, .ref a) List.mem_cons_self
    refine ⟨.ref a, q1, rfl, rfl, ?_⟩
    unfold mXf M.opt at P
    rw [hk, if_pos rfl] at P
    cases e : x.kept.lookup f with
    | none => rw [e] at P; exact P.elim
    | some d0 =>
      rw [e] at P
      have ne : x.kept ≠ [] := fun z => by rw [z] at e; cases e
      obtain ⟨dd, vs, e1, e2, e3⟩ := r12.2 ne
      obtain ⟨v, l, r⟩ := kept_look e3 e
      exact ⟨dd, _, v, e1, hid_sub _ _ e2, l, P v H R .refl r⟩
end
end Fx
namespace Fx
open PySem PySem.Spec PyProof.Rows L2 LamX
section
variable [Tb]
variable {X : Cx} {pins : List (Addr × Obj)} {σ : L2.St} {H : Hp} {s : Shared}
/-- a lambda is made: but for its def's table of code objects all stays -/
theorem lam_makeC {c tb : Addr} {params : Arguments} {body : Expr} {scope : Scope} {pos : Pos} {E Q : Value → Shared → Prop} (I : Inv X pins σ H s) (B : TabB X.base X.mg c tb) (hc : X.env.code = .ref c) (hin : (tb, X.env.qual ++ "<lambda>") ∈ Tb.C) (one : ∀ r ∈ Tb.C, r.1 = tb → r.2 = X.env.qual ++ "<lambda>")
    (ok : TbOk H) (nodef : defaultsOf params X.env = ([], [])) (free : ∀ y ∈ scope.names, y.2 = .free → ∃ d, X.env.cells.lookup y.1 = some d)
    (h : ∀ (f c2 : Addr) (pm ct : Value) (H1 : Hp) (s1 : Shared), Inv X pins σ H1 s1 → SameC H H1 → s1.heap.get? f = some (PySem.W.kla_obj "<lambda>" (X.env.qual ++ "<lambda>") params body scope (cloFrom X.env.cells scope.names []) pm c2 ct) → H1 f = none → f ∉ frs X.stack → H1 c2 = some (CodeO c2 (X.env.qual ++ "<lambda>")) → Q (.ref f) s1) :
    wpAny (model X.prog X.w) X.A (eval (.Lambda params body scope pos) X.env) Q E s := by
  obtain ⟨ps, hP, tri, known⟩ := ok _ hin
  refine PySem.W.kla_eval nodef ?_
  have there : s.heap.get? tb = some { cls := .none, data := .fields ps } := I.hok tb _ hP
  have bt : s.heap.BuiltinsAt X.mg tb := B.bm.keeps I.bk
  have off : ∀ f, s.heap.objs.size ≤ f → f ∉ frs X.stack := fun f big m => by
    rcases List.mem_cons.mp (I.stkSub _ m) with z | z
    · have l := I.lt
      rw [← z] at l
      exact Nat.lt_irrefl _ (Nat.lt_of_lt_of_le l big)
    · exact I.nofs big z
  have inC : tb ∈ CA := List.mem_map.mpr ⟨_, hin, rfl⟩
  cases found : codeAmong pos ps.toList with
  | some cv =>
    obtain ⟨c2, rfl, hco⟩ := known pos cv found
    refine PySem.W.kla_makeFunctionHit (mg := X.mg) (c := c) (P := tb) (ps := ps) (closure_ok free) I.ok.glob (I.mod.glob.keeps I.bk) hc (B.code.keeps I.bk) there tri found bt fun ct h2 tk2 keep big => ?_
    have J : Inv X pins σ H { s with heap := h2.push (PySem.W.kla_obj "<lambda>" (X.env.qual ++ "<lambda>") params body scope (cloFrom X.env.cells scope.names []) ((X.mg "__name__").getD .none) c2 ct), toks := tk2 } := I.kept fun b o e => Heap.get?_push_of_some _ (keep b o e)
    exact h h2.objs.size c2 _ ct H _ J (SameC.refl ok) (Heap.get?_push_size _ rfl) (I.hok.fresh big) (off _ big) hco
  | none =>
    refine PySem.W.kla_makeFunction (mg := X.mg) (c := c) (P := tb) (ps := ps) (closure_ok free) I.ok.glob (I.mod.glob.keeps I.bk) hc (B.code.keeps I.bk) there tri found B.gP bt fun c2 ct h2 tk2 keep ge lt rec' tab => ?_
    obtain ⟨c3, oc, vs, t, e3, hoc, hd, hv⟩ := rec'
    cases e3
    have big : s.heap.objs.size ≤ h2.objs.size := Nat.le_trans ge (Nat.le_of_lt lt)
    have new2 : H c2 = none := I.hok.fresh ge
    have J := inv_table (t' := tk2) (more := #[rawInt pos.line, rawInt pos.col, .ref c2]) (h' := h2.push (PySem.W.kla_obj "<lambda>" (X.env.qual ++ "<lambda>") params body scope (cloFrom X.env.cells scope.names []) ((X.mg "__name__").getD .none) c2 ct)) I hP
      (fun b o nb e => Heap.get?_push_of_some _ (keep b o nb e)) (Heap.get?_push_of_some _ tab) ge ⟨oc, vs, t, Heap.get?_push_of_some _ hoc, hd, hv⟩
    have rest : ∀ b o, H b = some o → b ≠ tb → upd (upd H tb (.tbl (ps ++ #[rawInt pos.line, rawInt pos.col, .ref c2]))) c2 (CodeO c2 (X.env.qual ++ "<lambda>")) b = some o := fun b o e nb => by
      rw [upd_ne (ne_of_none e new2), upd_ne nb]
      exact e
    have notT : ∀ {b : Addr} {q : Str}, H b = some (CodeO b q) → b ≠ tb := fun {b q} e z => by
      rw [z, hP] at e
      exact codeO_ne ps (Option.some.inj e).symm
    have eL : (ps ++ #[rawInt pos.line, rawInt pos.col, .ref c2]).toList = ps.toList ++ [rawInt pos.line, rawInt pos.col, .ref c2] := by simp
    refine h h2.objs.size c2 _ ct _ _ J ⟨fun b o e nb => rest b o e fun z => nb (z ▸ inC), fun r hr => ?_⟩ (Heap.get?_push_size _ rfl) ?_ (off _ big) upd_same
    · by_cases hb : r.1 = tb
      · rw [one r hr hb, hb]
        refine ⟨_, by rw [upd_ne (ne_of_none hP new2), upd_same], by rw [eL]; exact PySem.TriplesOk_snoc _ _ _ _ tri, fun p2 cv hcv => ?_⟩
        rw [eL] at hcv
        rcases among_app _ tri hcv with z | z
        · obtain ⟨c0, z1, z2⟩ := known p2 cv z
          exact ⟨c0, z1, rest _ _ z2 (notT z2)⟩
        · exact ⟨c2, z, upd_same⟩
      · obtain ⟨ps2, a1, a2, a3⟩ := ok r hr
        refine ⟨ps2, rest _ _ a1 hb, a2, fun p2 cv hcv => ?_⟩
        obtain ⟨c0, z1, z2⟩ := a3 p2 cv hcv
        exact ⟨c0, z1, rest _ _ z2 (notT z2)⟩
    · rw [upd_ne (Nat.ne_of_gt lt), upd_ne (Nat.ne_of_gt (Nat.lt_of_lt_of_le (Heap.lt_size there) big))]
      exact I.hok.fresh big
/-- what is wanted of x(lambda: body) -/
def tLamC (TT : (XK → Hp → VK → Prop) → Hp → VK → Prop) (t : XK → TE) : TE := fun σ H Q => TbOk H ∧ ∀ H1, SameC H H1 → TT (fun E H2 Q2 => t E σ H2 Q2) H1 Q
/-- x(lambda: body), x a def of one parameter -/
theorem pe_lamC {TT : (XK → Hp → VK → Prop) → Hp → VK → Prop} {x a : Str} {g c tb : Addr} {k : Nat} {pg : Arguments} {bg : List Stmt} {sg : Scope} {dV kV doc pm cdv ct oc : Value} {an od : Option Addr} {osl : Array (Option Value)} {Ng : List Str} {params : Arguments} {body : Expr} {scope : Scope} {t : XK → TE} {p lpos pos : Pos}
    (hg : Gl X x) (hm : X.mg x = some (.ref g)) (hk : PySem.W.keepIn X.K (.ref g) = true) (lk : X.K.lookup g = some ⟨oc, od, .func (PySem.W.fnOf x x pg bg sg dV kV doc pm an cdv ct), osl⟩) (hcg : PySem.W.codeIn X.K cdv x = true)
    (hb : L2.Binds X.K (PySem.W.fnOf x x pg bg sg dV kV doc pm an cdv ct) [a] []) (Sg : FnScope Ng [a] sg) (hNg : Ng[0]? = some a) (hva : Vis sg a) (hG : GivesTo X Ng x sg g cdv bg a (X.env.qual ++ "<lambda>") TT)
    (B : TabB X.base X.mg c tb) (hc : X.env.code = .ref c) (hin : (tb, X.env.qual ++ "<lambda>") ∈ Tb.C) (one : ∀ r ∈ Tb.C, r.1 = tb → r.2 = X.env.qual ++ "<lambda>") (hr : Room (k + 2) X.A) (L : LamS X.env.scope scope) (nodef : defaultsOf params X.env = ([], []))
    (noargs : ∀ (q : Str) (cl : List (Str × Addr)) (pm cv ctv : Value), bindArgs (PySem.W.kla_fn "<lambda>" q params body scope cl pm cv ctv) ⟨[], []⟩ = pure [])
    (hbody : ∀ (A : Around) (outer : List Env) (s : Shared) (H : Hp) (E : XK) (f c2 : Addr), Room k (A.deeper (lamEnv X scope s.heap.objs.size f c2)) → PE (lamCx X A outer s H E scope f c2) body (t E))
    (hdb : (x == ("__debug__" : Str)) = false := by decide) (hd : (a == ("__debug__" : Str)) = false := by decide) (hcd : (a == ("__classdict__" : Str)) = false := by decide) : PE X (.Call (.Name x p) [.Lambda params body scope lpos] [] pos) (tLamC TT t) := by
  refine ⟨fun pins s σ H Q I ⟨ok, h⟩ => wpAny_Call_Name_kw (ld_glob I hg hm ?_ hdb)⟩
  refine PySem.W.callWith_K (h₀ := X.base) I.ok.mod.kin hk ?_ (by rfl) (by rfl)
  show wpAny _ _ (spliced ((false, eval (.Lambda params body scope lpos) X.env) :: backTo pos (starEach [] X.env))) _ _ s
  refine Calls.spliced_cons (lam_makeC I B hc hin one ok nodef (L.has I.ok) fun f c2 pm2 ct2 H1 s1 I1 same hf hn hfr hco => Calls.spliced_nil ⟨I1.kIn, ?_⟩)
  have run : codeAny (model X.prog X.w) X.A (.call (.ref g) ⟨[.ref f], []⟩) (CR C8.CX0 X.stack X.prog X.w H1 s1 Q C8.E0) s1 :=
    run_ofS (N := Ng) (ps := [a]) (us := [.ref f]) (vs := [.ref f]) lk hcg Sg hr I1.env0 (hb s1 [.ref f] I1.kIn rfl) (.cons rfl .nil) rfl fun hr2 => by
      obtain ⟨t2, ht2, hq2⟩ := hG f c2 s1 H1 Q (fun E H2 Q2 => t E σ H2 Q2) (fun W pn xe E p1 p2 tk hW => pe_act (i := 0) I1 L hf hn hfr (noargs _ _ _ _ _) tk hW hr2 (fun A outer s H hr3 => hbody A outer s H E f c2 hr3) hNg hva hd hcd) hco (h H1 same)
      exact ⟨t2, ht2.nox, hq2⟩
  refine wpAny_call (codeAny_mono run fun r s2 hq => ?_)
  cases r with
  | error e => exact (show False from hq).elim
  | ok fl =>
    cases fl with
    | ret u => exact I1.after hq
    | next => exact hq.elim
    | brk => exact hq.elim
    | cont => exact hq.elim
end
end Fx
namespace Fx
open PySem PySem.Spec PyProof.Rows L2 LamX
/-- the text that the clauses make of an exception -/
def wordOf (sub : Str → Str → Option Bool) (cs : List MCl) (n : Nat) (x : Ex) : Option Str :=
  match mCls sub cs x (List.replicate n .no) with
  | .ok (.rt (.v (.str s)), _) => some s
  | _ => none
theorem takes_len {Y : Cx} {W : WX} (tk : Takes Y W) : Takes Y (fun cls d σ H => σ.length = Y.N.length → W cls d σ H) := fun u s' xx => by
  obtain ⟨a, B, sI, pins, σ, H, cls, d, e, I, nb, up, sky, na, os, ag, w⟩ := xx
  exact tk u s' ⟨a, B, sI, pins, σ, H, cls, d, e, I, nb, up, sky, na, os, ag, w I.len⟩
section
variable [Tb]
local instance : Fr := fr0
theorem rel_none {K : PySem.W.Frag} {H : Hp} {σ : L2.St} {n : Nat} (hl : σ.length = n) (ok : TbOk H) : Rel K H [] [] σ H (List.replicate n .no) := by
  have no : ∀ {i : Nat} {p : Addr}, ¬ OwnAt σ (List.replicate n Sl.no) i p := fun {i p} ⟨s, e, w, _⟩ => by
    rw [List.getElem?_replicate] at e
    split at e
    · cases e; exact w
    · cases e
  refine ⟨by rw [List.length_replicate]; exact hl, fun i s e => ?_, fun i j p z => (no z).elim, fun i p z => (no z).elim, fun t z => (nomatch z), fun i p z => (no z).elim, fun b o e _ _ => e, fun b z => (nomatch z), ok, fun t z => (nomatch z), fun c z => (nomatch z), trivial⟩
  rw [List.getElem?_replicate] at e
  split at e
  · cases e; exact .no _
  · cases e
theorem hd_none {σ : L2.St} {n : Nat} {p : Addr} (h : Hd [] σ (List.replicate n Sl.no) p) : Hd [] [] [] p := by
  rcases h with z | ⟨i, s, e, w, _⟩
  · exact .inl z
  · rw [List.getElem?_replicate] at e
    split at e
    · cases e; exact w.elim
    · cases e
/-- what is wanted where a def calls what it got, and tells the outcome -/
def TTw (K : PySem.W.Frag) (mg : Str → Option Value) (sub : Str → Str → Option Bool) (cs : List MCl) (n : Nat) (fine : Str) : (XK → Hp → VK → Prop) → Hp → VK → Prop := fun tl H Q =>
  TbOk H ∧ tl (fun cls d H2 => ∃ x, TbOk H2 ∧ ExR mg K (hid H2 (Hd [] [] [])) H2 x cls d ∧ ∃ s, wordOf sub cs n x = some s ∧ ∀ H3, SameC H2 H3 → Q (.str s) H3) H fun _ H2 => Q (.str fine) H2
theorem word_gives {X : Cx} {Ng : List Str} {x a fine q : Str} {sg : Scope} {g : Addr} {cdg : Value} {j : Nat} {p1 p2 p3 p4 p5 p6 : Pos} {h0 : ExceptHandler} {hs : List ExceptHandler} {cs : List MCl} {sub : Str → Str → Option Bool} (T : ExTab X.K X.mg sub) (hn : 0 < Ng.length)
    (C : ∀ s H, ClE (cxOf C8.CX0 X.prog X.w X.K X.mg X.base Ng x sg g cdg X.A X.stack s H C8.E0).nox (h0 :: hs) cs) :
    GivesTo X Ng x sg g cdg [.Try [.Expr (.Call (.Name a p1) [] [] p2) p3] (h0 :: hs) [] [] p4, .Return (some (.Constant (.str fine) j p5)) p6] a q (TTw X.K X.mg sub cs Ng.length fine) := by
  intro f c2 s H Q tl act hc h
  obtain ⟨l, Cl', go⟩ := clE_go (Wout := WN) (X := (cxOf C8.CX0 X.prog X.w X.K X.mg X.base Ng x sg g cdg X.A X.stack s H C8.E0).nox) T (C s H)
  obtain ⟨ok, h⟩ := h
  refine ⟨_, pss_cons (ps_tryX (X := (cxOf C8.CX0 X.prog X.w X.K X.mg X.base Ng x sg g cdg X.A X.stack s H C8.E0).nox) (Wout := WN) rfl rfl takes_no
    (tb := fun W D σ H => ∃ Ech : XK, (∀ cls d σ' H', Ech cls d H' → σ'.length = Ng.length → W cls d σ' H') ∧ σ[0]? = some (some (.ref f)) ∧ H c2 = some (CodeO c2 q) ∧ tl Ech H fun _ H1 => D.nx σ H1) (fun W pn xe tk ps => ?_) Cl') (pss_one (ps_ret pe_str)), ?_⟩
  · refine ⟨fun pins s2 σ2 H2 D I h2 => ?_⟩
    obtain ⟨Ech, hW, z1, z2, z3⟩ := h2
    have hp := act _ pn xe Ech p1 p2 (takes_len tk) hW
    exact (pss_one (ps_expr (pos := p3) hp)).run pins s2 σ2 H2 D I ⟨z1, z2, z3⟩
  · have s0 : (L2.start Ng [V.ref f])[0]? = some (some (V.ref f)) := by rw [start_get, if_pos (by simp)]; rfl
    refine ⟨_, fun cls d σ' H' hx hl => ?_, s0, hc, h⟩
    obtain ⟨y, ok2, er, w, ew, hw⟩ := hx
    have R := rel_none (K := X.K) hl ok2
    refine go (x := y) R (exR_less (fun p z => hd_none z) er) ?_
    unfold wordOf at ew
    cases e1 : mCls sub cs y (List.replicate Ng.length Sl.no) with
    | bad => rw [e1] at ew; cases ew
    | ex z e => rw [e1] at ew; cases ew
    | ok pr =>
      obtain ⟨fl, e⟩ := pr
      rw [e1] at ew
      cases fl with
      | nx => cases ew
      | br => cases ew
      | ct => cases ew
      | rt rv =>
        cases rv with
        | f ds => cases ew
        | v d0 =>
          cases d0 with
          | str w2 =>
            cases ew
            intro v σ2 H2 R2 l2 r
            cases r
            exact hw H2 ⟨fun b o e n => R2.keep b o e (fun z => (nomatch z)) n, R2.tab⟩
          | _ => cases ew
end
end Fx
namespace Fx
open PySem PySem.Spec PyProof.Rows L2 LamX
/-- the text that a def tells of the outcome of a lambda -/
def mWord (sub : Str → Str → Option Bool) (cs : List MCl) (n : Nat) (fine : Str) (mb : M PyData) : M PyData := fun env =>
  match mb env with
  | .ok (_, e) => .ok (.str fine, e)
  | .ex x e => (match wordOf sub cs n x with | some s => .ok (.str s, e) | none => .bad)
  | .bad => .bad
section
variable [Tb] [F : Fr]
theorem ev_lam {X : Cx} {W : WX} {sub : Str → Str → Option Bool} {cs : List MCl} {fine : Str} {mb : M PyData} {x a : Str} {g c tb : Addr} {k : Nat} {pg : Arguments} {bg : List Stmt} {sg : Scope} {dV kV doc pm cdv ct oc : Value} {an od : Option Addr} {osl : Array (Option Value)} {Ng : List Str} {params : Arguments} {body : Expr} {scope : Scope} {p lpos pos : Pos}
    (hg : Gl X x) (hm : X.mg x = some (.ref g)) (hk : PySem.W.keepIn X.K (.ref g) = true) (lk : X.K.lookup g = some ⟨oc, od, .func (PySem.W.fnOf x x pg bg sg dV kV doc pm an cdv ct), osl⟩) (hcg : PySem.W.codeIn X.K cdv x = true)
    (hb : L2.Binds X.K (PySem.W.fnOf x x pg bg sg dV kV doc pm an cdv ct) [a] []) (Sg : FnScope Ng [a] sg) (hNg : Ng[0]? = some a) (hva : Vis sg a) (hG : GivesTo X Ng x sg g cdv bg a (X.env.qual ++ "<lambda>") (TTw X.K X.mg sub cs Ng.length fine))
    (B : TabB X.base X.mg c tb) (hc : X.env.code = .ref c) (hin : (tb, X.env.qual ++ "<lambda>") ∈ Tb.C) (one : ∀ r ∈ Tb.C, r.1 = tb → r.2 = X.env.qual ++ "<lambda>") (hr : Room (k + 2) X.A) (L : LamS X.env.scope scope) (nodef : defaultsOf params X.env = ([], []))
    (noargs : ∀ (q : Str) (cl : List (Str × Addr)) (pm cv ctv : Value), bindArgs (PySem.W.kla_fn "<lambda>" q params body scope cl pm cv ctv) ⟨[], []⟩ = pure [])
    (hbody : ∀ (A : Around) (outer : List Env) (s : Shared) (H : Hp) (E : XK) (f c2 : Addr), Room k (A.deeper (lamEnv X scope s.heap.objs.size f c2)) → Ev (lamCx X A outer s H E scope f c2) (WDef E) body mb)
    (hdb : (x == ("__debug__" : Str)) = false := by decide) (hd : (a == ("__debug__" : Str)) = false := by decide) (hcd : (a == ("__classdict__" : Str)) = false := by decide) : Ev X W (.Call (.Name x p) [.Lambda params body scope lpos] [] pos) (mWord sub cs Ng.length fine mb) := by
  refine ⟨_, pe_lamC (t := fun E => canon (Dq X.K) X (WDef E) mb) hg hm hk lk hcg hb Sg hNg hva hG B hc hin one hr L nodef noargs (fun A outer s H E f c2 r => (hbody A outer s H E f c2 r).pe) hdb hd hcd, fun H0 Bo T σ H env Q R P => ?_⟩
  refine ⟨R.tab, fun H1 same => ⟨same.tab, H0, Bo, T, env, (R.growC same).1, ?_⟩⟩
  have l0 := (R.growC same).2
  unfold mWord at P
  cases e1 : mb env with
  | bad => rw [e1] at P; exact P.elim
  | ok pr =>
    obtain ⟨d, e⟩ := pr
    rw [e1] at P
    intro v H2 R2 l2 r
    exact P _ H2 R2 (l0.trans l2) (.str _)
  | ex y e =>
    rw [e1] at P
    intro cls dd H2 R2 l2 er
    cases ew : wordOf sub cs Ng.length y with
    | none => simp only [ew] at P; exact P.elim
    | some w =>
      simp only [ew] at P
      refine ⟨y, R2.tab, exR_less (fun q z => ?_) er, w, ew, fun H3 s3 => ?_⟩
      · rcases z with z | ⟨i, s, e, _⟩
        · exact .inl (List.mem_append_right _ z)
        · cases e
      · exact P _ H3 (R2.growC s3).1 ((l0.trans l2).trans (R2.growC s3).2) (.str _)
end
end Fx
namespace Fx
open PySem PySem.Spec PyProof.Rows L2 LamX
abbrev noTab : Obj := { cls := .none, data := .fields #[] }
/-- the law is called; the script, and the tables of some code objects, that are empty as yet -/
theorem lawGT {P : Program} {w : World} {K : PySem.W.Frag} {mg mb : Str → Option Value} {k : Nat} {fa a : Addr} {fd : FuncData} {x : Str} {sp : Sp} {s1 : Shared} {vs : List Value} {ns : List Int} {tt : List (Addr × Addr)}
    (KX : K.In s1.heap) (hns : s1.heap.Ns mainGlobals mg) (hb : s1.heap.Ns builtinsNs mb) (hbb : ∀ x : Str, x ≠ "__name__" → mb x = bootBuiltins x) (hlim : s1.heap.NoLimit) (hg : s1.gens = #[])
    (empty : ∀ r ∈ tt, s1.heap.get? r.2 = some noTab) (out : ∀ r ∈ tt, K.lookup r.2 = none) (codes : ∀ r ∈ tt, PySem.W.CodeHd s1.heap r.1 r.2)
    (bmod : ∃ (bm : Addr) (ob : Obj), mg "__builtins__" = some (.ref bm) ∧ bm ≠ builtinsNs ∧ s1.heap.get? bm = some ob ∧ ob.cls = .type "module" ∧ ob.dict = some builtinsNs ∧ ob.data = .plain)
    (ha : s1.heap.get? a = some { cls := .type "list", data := .seq vs.toArray }) (hi : IntsAre vs ns) (hl : ns.length ≤ sizeLine) (hr : Room k callerA)
    (F : ∀ base : Heap, K.In base → base.Ns mainGlobals mg → (∀ r ∈ tt, TabB base mg r.1 r.2) → FnG P w K mg base k fa fd [x] sp) (hbind : ∀ (s : Shared) (u : Value), BindsTo s fd ⟨[u], []⟩ [(x, u)])
    (hsp : ∀ H : Hp, (∀ r ∈ tt, H r.2 = some (.tbl #[])) → SqL K H a (ns.map V.int) → sp [.ref a] H (fun v _ => v = .bl true) fun _ _ _ => False) :
    codeAny (model P w) callerA (.call (.ref fa) ⟨[.ref a], []⟩) (fun r s' => r = .ok (.ret (.bool true)) ∧ OldK s1.heap s'.heap ∧ s'.os = s1.os ∧ AllBare s'.gens) s1 := by
  have rv := vals_ints hi
  have lenV := hi.length
  let ts := tt.map (·.2)
  have isT : ∀ b ∈ ts, s1.heap.get? b = some noTab := fun b z => by
    obtain ⟨r, hr, rfl⟩ := List.mem_map.mp z
    exact empty r hr
  have aT : a ∉ ts := fun z => by
    have e := isT a z
    rw [ha] at e
    exact nomatch congrArg Obj.data (Option.some.inj e)
  have core : ∀ H : Hp, (∀ b ∈ ts, H b = some (.tbl #[])) → (∀ b u, H b = some u → b ∈ ts ∨ (b = a ∧ ∃ ob xs, u = .frz ob (.lst xs))) → SqL K H a (ns.map V.int) → HOk P w H s1.heap → (H a ≠ none → K.lookup a = none) →
      codeAny (model P w) callerA (.call (.ref fa) ⟨[.ref a], []⟩) (fun r s' => r = .ok (.ret (.bool true)) ∧ OldK s1.heap s'.heap ∧ s'.os = s1.os ∧ AllBare s'.gens) s1 := by
    intro H hT hA hS hok hK
    have free : ∀ {b : Addr} {o : Obj}, s1.heap.get? b = some o → (∀ us n, o.data ≠ .seq us n) → o.data ≠ .fields #[] → H b = none := fun {b o} e n1 n2 => by
      cases q : H b with
      | none => rfl
      | some u =>
        rcases hA b u q with z | ⟨z, _⟩
        · rw [isT b z] at e
          cases e
          exact (n2 rfl).elim
        · rw [z, ha] at e
          cases e
          exact (n1 _ _ rfl).elim
    have at' : ∀ {b : Addr} {o : Obj}, s1.heap.get? b = some o → (∀ us n, o.data ≠ .seq us n) → o.data ≠ .fields #[] → (hidT s1.heap H).get? b = some o := fun e n1 n2 => hidT_get e (free e n1 n2)
    have ns' : ∀ {b : Addr} {m : Str → Option Value}, s1.heap.Ns b m → (hidT s1.heap H).Ns b m := by
      rintro b m ⟨o, es, ep, e, d, r⟩
      exact ⟨o, es, ep, at' e (fun _ _ z => by rw [d] at z; cases z) (fun z => by rw [d] at z; cases z), d, r⟩
    have hKb : K.In (hidT s1.heap H) := by
      intro b o e
      refine hidT_get (KX b o e) ?_
      cases q : H b with
      | none => rfl
      | some u =>
        rcases hA b u q with z | ⟨z, _⟩
        · obtain ⟨r, hr, er⟩ := List.mem_map.mp z
          rw [← er, out r hr] at e
          cases e
        · subst z
          rw [hK (by rw [q]; exact fun z => nomatch z)] at e
          cases e
    obtain ⟨mc, l1, l2⟩ := hlim
    have md : Mod K mg (hidT s1.heap H) := ⟨hKb, ns' hns, ⟨mb, ns' hb, hbb⟩, ⟨mc, ns' l1, l2⟩⟩
    have tabs : ∀ r ∈ tt, TabB (hidT s1.heap H) mg r.1 r.2 := fun r hr => by
      refine ⟨?_, ?_, fun z => ?_⟩
      · obtain ⟨o, us, file, tf, flags, tg, inF, text, tx, e1, r1, r2, r3, rest⟩ := codes r hr
        refine ⟨o, us, file, tf, flags, tg, inF, text, tx, at' e1 (fun _ _ z => by rw [r2] at z; cases z) (fun z => ?_), r1, r2, r3, rest⟩
        rw [r2] at z
        cases z
        simp at r3
      · obtain ⟨bm, ob, b1, b2, b3, b4, b5, b6⟩ := bmod
        have ne1 : bm ≠ mainGlobals := fun q => by
          obtain ⟨o, es, ep, e, hd, _⟩ := hns
          rw [q, e] at b3
          cases b3
          rw [hd] at b6
          cases b6
        have ne2 : bm ≠ r.2 := fun q => by
          rw [q, empty r hr] at b3
          cases b3
          cases b6
        exact ⟨bm, ob, b1, b2, ne1, ne2, at' b3 (fun _ _ z => by rw [b6] at z; cases z) (fun z => by rw [b6] at z; cases z), b4, b5, b6⟩
      · obtain ⟨o, es, ep, e, hd, _⟩ := hns
        rw [z, empty r hr] at e
        cases e
        cases hd
    have e0 : Env0 P w K mg (hidT s1.heap H) callerA [] s1 H := ⟨rfl, md, fun b o e => of_hidT e, Nat.le_of_eq (hidT_size _ _), trivial, (fun _ z => nomatch z), hok, .of_eq hg⟩
    refine codeAny_mono ((F _ hKb (ns' hns) tabs).go callerA [] s1 H ⟨[.ref a], []⟩ [.ref a] [.ref a] _ _ hr rfl e0 (hbind s1 (.ref a)) (.cons rfl .nil) (hsp H (fun r hr => hT _ (List.mem_map.mpr ⟨r, hr, rfl⟩)) hS)) fun r s' h => ?_
    cases r with
    | error e =>
      obtain ⟨_, _, _, _, _, _, _, _, _, _, _, _, z⟩ := h
      exact z.elim
    | ok fl =>
      cases fl with
      | next => exact h.elim
      | brk => exact h.elim
      | cont => exact h.elim
      | ret u =>
        obtain ⟨v, H', os, bare, un, hok', r', q⟩ := h
        have q1 : v = .bl true := q
        subst q1
        have r1 : u = Value.bool true := r'
        subst r1
        have stay : ∀ b o, b ∉ ts → s1.heap.get? b = some o → s'.heap.get? b = some o := fun b o nb e => by
          cases q2 : H b with
          | none => exact un.keep b o e q2 (fun z => (nomatch z)) (fun z => (nomatch z))
          | some u2 =>
            rcases hA b u2 q2 with z | ⟨_, ob, xs, z⟩
            · exact (nb z).elim
            · subst z
              have e1 := (hok b _ q2).1
              have e2 := (hok' b _ (un.frzs b ob _ q2)).1
              rw [e] at e1
              cases e1
              exact e2
        have more : ∀ r ∈ tt, ∃ ps : Array Value, s'.heap.get? r.2 = some { cls := .none, data := .fields ps } := fun r hr => by
          obtain ⟨ps, z⟩ := un.tbls r.2 #[] (hT _ (List.mem_map.mpr ⟨r, hr, rfl⟩))
          exact ⟨_, hok' r.2 _ z⟩
        refine ⟨rfl, ⟨fun b o e => ?_, fun b o e => ?_⟩, os, bare⟩
        · by_cases hb : b ∈ ts
          · obtain ⟨r, hr, er⟩ := List.mem_map.mp hb
            subst er
            obtain ⟨ps, hm⟩ := more r hr
            rw [empty r hr] at e
            cases e
            exact .inr (.inl ⟨((codes r hr).tab (empty r hr)).isCodeTable, rfl, #[], ps, rfl, by rw [Array.empty_append]; exact hm⟩)
          · exact .inl (stay b o hb e)
        · by_cases hb : b ∈ ts
          · obtain ⟨r, hr, er⟩ := List.mem_map.mp hb
            subst er
            obtain ⟨ps, hm⟩ := more r hr
            exact ⟨_, hm⟩
          · exact ⟨o, stay b o hb e⟩
  cases hk : K.lookup a with
  | some o =>
    have e := KX a o hk
    rw [ha] at e
    cases e
    have sel : ∀ {b : Addr} {u : HO}, (if b ∈ ts then some (HO.tbl #[]) else none) = some u → b ∈ ts ∧ u = .tbl #[] := fun {b u} z => by
      split at z
      · rename_i m
        cases z
        exact ⟨m, rfl⟩
      · cases z
    refine core (fun b => if b ∈ ts then some (.tbl #[]) else none) (fun b m => if_pos m) (fun b u z => .inl (sel z).1) (.inr ⟨_, vs.toArray, _, hk, rfl, rfl, rfl, by rw [List.size_toArray, lenV]; exact hl, by simpa using rv⟩) (fun b u z => ?_) fun z => absurd (if_neg aT) z
    obtain ⟨m, rfl⟩ := sel z
    exact isT b m
  | none =>
    let ob : Obj := { cls := .type "list", data := .seq vs.toArray }
    have sel : ∀ {b : Addr} {u : HO}, (if b = a then some (HO.frz ob (.lst (ns.map V.int))) else if b ∈ ts then some (HO.tbl #[]) else none) = some u → (b ∈ ts ∧ u = .tbl #[]) ∨ (b = a ∧ u = .frz ob (.lst (ns.map V.int))) := fun {b u} z => by
      split at z
      · rename_i m
        cases z
        exact .inr ⟨m, rfl⟩
      · split at z
        · rename_i m
          cases z
          exact .inl ⟨m, rfl⟩
        · cases z
    refine core (fun b => if b = a then some (.frz ob (.lst (ns.map V.int))) else if b ∈ ts then some (.tbl #[]) else none) (fun b m => ?_) (fun b u z => ?_) (.inl (.inr ⟨ob, if_pos rfl⟩)) (fun b u z => ?_) fun _ => hk
    · have nb : ¬ b = a := fun z => aT (by rw [← z]; exact m)
      exact (if_neg nb).trans (if_pos m)
    · rcases sel z with ⟨m, _⟩ | ⟨m, e⟩
      · exact .inl m
      · exact .inr ⟨m, _, _, e⟩
    · rcases sel z with ⟨m, rfl⟩ | ⟨rfl, rfl⟩
      · exact isT b m
      · exact ⟨ha, by rw [List.length_map]; exact hl, vs, _, rv, ha⟩
/-- what is known of the law at the head's heap: its tables, its fragment without them -/
def LawT (l : PySem.W.OpenLaw) (w : World) (K : PySem.W.Frag) (k n : Nat) (x : Str) (mg : Str → Option Value) (fa : Addr) (h : Heap) : Prop :=
  ∃ (fd : FuncData) (tt : List (Addr × Addr)) (sp : Sp), (∀ r ∈ tt, h.get? r.2 = some noTab) ∧ (∀ r ∈ tt, K.lookup r.2 = none) ∧ (∀ r ∈ tt, PySem.W.CodeHd h r.1 r.2) ∧ (∀ (s : Shared) (u : Value), BindsTo s fd ⟨[u], []⟩ [(x, u)]) ∧
    (∀ (H : Hp) (a : Addr) (ns : List Int), ns.length ≤ n → (∀ r ∈ tt, H r.2 = some (.tbl #[])) → SqL K H a (ns.map V.int) → sp [.ref a] H (fun v _ => v = .bl true) fun _ _ _ => False) ∧
    ∀ base : Heap, K.In base → base.Ns mainGlobals mg → (∀ r ∈ tt, TabB base mg r.1 r.2) → FnG l.prog w K mg base k fa fd [x] sp
theorem walkGT {l : PySem.W.OpenLaw} {n k : Nat} {q : Program} {loose : List Str} {XP : (Str → Option Value) → Heap → Prop} {YP : World → Heap → Prop} {d : DefRec} {x : Str}
    (hn : l.most = some n) (hn2 : n ≤ sizeLine) (hdf : d.params.defaults = []) (hr : Room k callerA)
    (F : ∀ (w : World) (mg : Str → Option Value) (fa : Addr) (h : Heap), YP w h → h.Ns mainGlobals mg → mg d.name = some (.ref fa) → ∃ K : PySem.W.Frag, K.In h ∧ LawT l w K k n x mg fa h) :
    PySem.W.WalkO q loose XP YP l.row.toRowW d [] (fun f vs => PySem.call f vs) := by
  refine Att.attach_call hn hdf fun w s₀ s1 mg mb fa o pm cd doc a vs ns G Y ho hd hcd hmg hobj hints hlen hg => ?_
  obtain ⟨K, KX, fd, tt, sp, h1, h2, h3, hb, hsp, hF⟩ := F w mg fa _ Y G.T.g hmg
  exact lawGT KX G.T.g G.T.b G.T.builtins G.T.nolimit hg h1 h2 h3 G.T.bmain hobj hints (Nat.le_trans hlen hn2) hr hF hb fun H hT hS => hsp H a ns hlen hT hS
end Fx
namespace Fx
open PySem PySem.Spec PyProof.Rows L2
section
variable [Tb] [F : Fr]
variable {X : Cx} {W : WX} {pos : Pos}

/-! ### dicts written down -/
theorem ev_dct0 : Ev X W (.Dict [] [] pos) (M.ret (.dict [])) := ⟨_, pe_dnewK, fun H0 B T σ H env Q R P => by
  intro p hp
  exact P _ _ (R.grow (same_new hp)) (.of (same_new hp)) (.dct0 (hid_some.mpr ⟨fun z => R.hdThere z hp, upd_same⟩))⟩
theorem ev_dct1 {i j : Int} {k1 k2 : Nat} {p1 p2 : Pos} : Ev X W (.Dict [some (.Constant (.int i) k1 p1)] [.Constant (.int j) k2 p2] pos) (M.ret (.dict [(.int i, .int j)])) :=
  ⟨_, pe_disp (pps_cons pe_int pe_int pps_nil) rfl rfl (fun z => nomatch z) (by show (1 : Nat) ≤ 15; decide), fun H0 B T σ H env Q R P => by
    intro p hp
    refine ⟨upd_same, [(.inl i, .int j)], rfl, by show (1 : Nat) ≤ 15; decide, ?_⟩
    have e : upd (upd H p (.dK [])) p (.dK (mergeK [] [(.inl i, .int j)])) = upd H p (.dK [(.inl i, .int j)]) := funext fun b => by
      by_cases hb : b = p
      · rw [hb, upd_same, upd_same]; rfl
      · rw [upd_ne hb, upd_ne hb, upd_ne hb]
    rw [e]
    exact P _ _ (R.grow (same_new hp)) (.of (same_new hp)) (.dct1 rfl (hid_some.mpr ⟨fun z => R.hdThere z hp, upd_same⟩))⟩

/-! ### list + list, a new one -/
def mAddF (ma mb : M PyData) : M (List PyData) := ma.bind fun a => mb.bind fun b =>
  match a, b with
  | .list xs, .list ys => M.opt (if xs.length + ys.length ≤ 1000000 then some (xs ++ ys) else none)
  | _, _ => fun _ => .bad
theorem evf_add {a b : Expr} {ma mb : M PyData} (ha : Ev X W a ma) (hb : Ev X W b mb) : EvF X W (.BinOp a .Add b pos) (mAddF ma mb) := by
  obtain ⟨ta, p1, A⟩ := ha.ex
  obtain ⟨tb, p2, C⟩ := hb.ex
  refine ⟨_, pe_op op_cat p1 p2, fun H0 B T σ H env Q R P => ?_⟩
  refine A H0 B T σ H env _ R ?_
  unfold mAddF M.bind at P
  cases q : ma env with
  | bad => rw [q] at P; exact P
  | ex x e' => rw [q] at P; exact P
  | ok pr =>
    obtain ⟨da, e1⟩ := pr
    rw [q] at P
    intro x H1 R1 l1 r1
    refine C H0 B T σ H1 e1 _ R1 ?_
    simp only at P
    cases q2 : mb e1 with
    | bad => rw [q2] at P; exact P
    | ex x e' => rw [q2] at P; exact fun c d H' R' l r => P c d H' R' (l1.trans l) r
    | ok pr2 =>
      obtain ⟨db, e2⟩ := pr2
      rw [q2] at P
      simp only at P
      intro y H2 R2 l2 r2
      have r1' := dpUp l2.same r1
      cases r1' with
      | lst t1 a1 =>
        cases r2 with
        | lst t2 a2 =>
          simp only [M.opt] at P
          split at P
          · rename_i ds hz
            split at hz
            · rename_i hl
              cases hz
              refine ⟨_, _, _, _, rfl, rfl, hid_sub _ _ t1, hid_sub _ _ t2, ?_, fun p hp => ?_⟩
              · rw [dpAll_len a1, dpAll_len a2]
                exact Nat.le_trans hl mil
              · have hp0 : H p = none := by
                  cases z : H p with
                  | none => rfl
                  | some o => exact absurd hp ((l1.trans l2).there p (by rw [z]; exact fun z => nomatch z))
                obtain ⟨R3, l3⟩ := R2.hide (same_new (o := .lst _) hp) hp upd_same
                exact P p _ _ hp0 upd_same R3 ((l1.trans l2).trans l3) (l3.dpA (dpAll_app a1 a2))
            · cases hz
          · exact P.elim
        | _ => exact P.elim
      | _ => exact P.elim
end
end Fx
/-! lambdas whose objects are tracked -/
namespace Fx
open PySem PySem.Spec PyProof.Rows L2 LamX

def LamH (q : Str) (params : Arguments) (body : Expr) (scope : Scope) (clo : List (Str × Addr)) (pm : Value) (c2 : Addr) (ct : Value) (f : Addr) : HO :=
  .ext fun h => h.get? f = some (PySem.W.kla_obj "<lambda>" q params body scope clo pm c2 ct)
theorem lamH_ok {P : Program} {w : World} {H : Hp} {h : Heap} {q : Str} {params : Arguments} {body : Expr} {scope : Scope} {clo : List (Str × Addr)} {pm : Value} {c2 : Addr} {ct : Value} {f : Addr}
    (e : h.get? f = some (PySem.W.kla_obj "<lambda>" q params body scope clo pm c2 ct)) : ObjOk P w H h f (LamH q params body scope clo pm c2 ct f) := ⟨e, ⟨_, e⟩, fun h1 h2 z k => k _ z⟩
/-- a lambda of this frame stands at f -/
def LamAt (X : Cx) (H : Hp) (f : Addr) (params : Arguments) (body : Expr) (scope : Scope) : Prop :=
  ∃ (pm : Value) (c2 : Addr) (ct : Value), H f = some (LamH (X.env.qual ++ "<lambda>") params body scope (cloFrom X.env.cells scope.names []) pm c2 ct f) ∧ H c2 = some (CodeO c2 (X.env.qual ++ "<lambda>"))
theorem LamAt.up {X : Cx} {H H' : Hp} {f : Addr} {params : Arguments} {body : Expr} {scope : Scope} (e : Same H H') (h : LamAt X H f params body scope) : LamAt X H' f params body scope :=
  let ⟨pm, c2, ct, h1, h2⟩ := h
  ⟨pm, c2, ct, e _ _ h1, e _ _ h2⟩
section
variable [Tb]
theorem lamH_tbl {q : Str} {params : Arguments} {body : Expr} {scope : Scope} {clo : List (Str × Addr)} {pm : Value} {c2 : Addr} {ct : Value} {f : Addr} {ps : Array Value} : LamH q params body scope clo pm c2 ct f ≠ .tbl ps := fun z => by
  unfold LamH at z
  cases z
theorem noTabs {H : Hp} (ok : TbOk H) {f : Addr} {o : HO} (e : H f = some o) (n : ∀ ps, o ≠ .tbl ps) : f ∉ CA := fun z => by
  obtain ⟨ps, q⟩ := ok.at z
  rw [e] at q
  exact n ps (Option.some.inj q)
theorem LamAt.upC {X : Cx} {H H' : Hp} {f : Addr} {params : Arguments} {body : Expr} {scope : Scope} (ok : TbOk H) (e : SameC H H') (h : LamAt X H f params body scope) : LamAt X H' f params body scope := by
  obtain ⟨pm, c2, ct, h1, h2⟩ := h
  exact ⟨pm, c2, ct, e.same _ _ h1 (noTabs ok h1 fun ps => lamH_tbl), e.same _ _ h2 (noTabs ok h2 fun ps => codeO_ne ps)⟩
section
variable [F : Fr]
variable {X : Cx} {pins : List (Addr × Obj)} {σ : L2.St} {H : Hp} {s : Shared}
/-- a lambda is made and tracked -/
theorem lam_makeT {c tb : Addr} {params : Arguments} {body : Expr} {scope : Scope} {pos : Pos} {E Q : Value → Shared → Prop} (I : Inv X pins σ H s) (B : TabB X.base X.mg c tb) (hc : X.env.code = .ref c) (hin : (tb, X.env.qual ++ "<lambda>") ∈ Tb.C) (one : ∀ r ∈ Tb.C, r.1 = tb → r.2 = X.env.qual ++ "<lambda>")
    (ok : TbOk H) (nodef : defaultsOf params X.env = ([], [])) (free : ∀ y ∈ scope.names, y.2 = .free → ∃ d, X.env.cells.lookup y.1 = some d)
    (h : ∀ (f : Addr) (H1 : Hp) (s1 : Shared), Inv X pins σ H1 s1 → SameC H H1 → H f = none → LamAt X H1 f params body scope → Q (.ref f) s1) :
    wpAny (model X.prog X.w) X.A (eval (.Lambda params body scope pos) X.env) Q E s := by
  obtain ⟨ps, hP, tri, known⟩ := ok _ hin
  refine PySem.W.kla_eval nodef ?_
  have there : s.heap.get? tb = some { cls := .none, data := .fields ps } := I.hok tb _ hP
  have bt : s.heap.BuiltinsAt X.mg tb := B.bm.keeps I.bk
  have inC : tb ∈ CA := List.mem_map.mpr ⟨_, hin, rfl⟩
  have fin : ∀ {H1 : Hp} {h2 : Heap} {t2 : Nat} {c2 : Addr} {ct : Value}, Inv X pins σ H1 { s with heap := h2, toks := t2 } → SameC H H1 → s.heap.objs.size ≤ h2.objs.size → H1 c2 = some (CodeO c2 (X.env.qual ++ "<lambda>")) →
      Q (.ref h2.objs.size) { s with heap := h2.push (PySem.W.kla_obj "<lambda>" (X.env.qual ++ "<lambda>") params body scope (cloFrom X.env.cells scope.names []) ((X.mg "__name__").getD .none) c2 ct), toks := t2 } := by
    intro H1 h2 t2 c2 ct J same big hco
    have nf : H1 h2.objs.size = none := J.hok.fresh (Nat.le_refl _)
    have J2 := J.laid (a := h2.objs.size) (t' := t2) (o := LamH (X.env.qual ++ "<lambda>") params body scope (cloFrom X.env.cells scope.names []) ((X.mg "__name__").getD .none) c2 ct h2.objs.size) (fun b o e => Heap.get?_push_of_some _ e) (Nat.le_refl _) (lamH_ok (Heap.get?_push_size _ rfl))
    have st : Same H1 (upd H1 h2.objs.size (LamH (X.env.qual ++ "<lambda>") params body scope (cloFrom X.env.cells scope.names []) ((X.mg "__name__").getD .none) c2 ct h2.objs.size)) := same_new nf
    refine h _ _ _ J2 ⟨fun b o e n => st _ _ (same.same b o e n), same.tab.ext st⟩ (I.hok.fresh big) ⟨_, c2, ct, upd_same, st _ _ hco⟩
  cases found : codeAmong pos ps.toList with
  | some cv =>
    obtain ⟨c2, rfl, hco⟩ := known pos cv found
    refine PySem.W.kla_makeFunctionHit (mg := X.mg) (c := c) (P := tb) (ps := ps) (closure_ok free) I.ok.glob (I.mod.glob.keeps I.bk) hc (B.code.keeps I.bk) there tri found bt fun ct h2 tk2 keep big => ?_
    exact fin (I.kept keep) (SameC.refl ok) big hco
  | none =>
    refine PySem.W.kla_makeFunction (mg := X.mg) (c := c) (P := tb) (ps := ps) (closure_ok free) I.ok.glob (I.mod.glob.keeps I.bk) hc (B.code.keeps I.bk) there tri found B.gP bt fun c2 ct h2 tk2 keep ge lt rec' tab => ?_
    obtain ⟨c3, oc, vs, t, e3, hoc, hd, hv⟩ := rec'
    cases e3
    have big : s.heap.objs.size ≤ h2.objs.size := Nat.le_trans ge (Nat.le_of_lt lt)
    have new2 : H c2 = none := I.hok.fresh ge
    have J := inv_table (t' := tk2) (more := #[rawInt pos.line, rawInt pos.col, .ref c2]) (h' := h2) I hP keep tab ge ⟨oc, vs, t, hoc, hd, hv⟩
    have rest : ∀ b o, H b = some o → b ≠ tb → upd (upd H tb (.tbl (ps ++ #[rawInt pos.line, rawInt pos.col, .ref c2]))) c2 (CodeO c2 (X.env.qual ++ "<lambda>")) b = some o := fun b o e nb => by
      rw [upd_ne (ne_of_none e new2), upd_ne nb]
      exact e
    have notT : ∀ {b : Addr} {q : Str}, H b = some (CodeO b q) → b ≠ tb := fun {b q} e z => by
      rw [z, hP] at e
      exact codeO_ne ps (Option.some.inj e).symm
    have eL : (ps ++ #[rawInt pos.line, rawInt pos.col, .ref c2]).toList = ps.toList ++ [rawInt pos.line, rawInt pos.col, .ref c2] := by simp
    refine fin J ⟨fun b o e nb => rest b o e fun z => nb (z ▸ inC), fun r hr => ?_⟩ big upd_same
    by_cases hb : r.1 = tb
    · rw [one r hr hb, hb]
      refine ⟨_, by rw [upd_ne (ne_of_none hP new2), upd_same], by rw [eL]; exact PySem.TriplesOk_snoc _ _ _ _ tri, fun p2 cv hcv => ?_⟩
      rw [eL] at hcv
      rcases among_app _ tri hcv with z | z
      · obtain ⟨c0, z1, z2⟩ := known p2 cv z
        exact ⟨c0, z1, rest _ _ z2 (notT z2)⟩
      · exact ⟨c2, z, upd_same⟩
    · obtain ⟨ps2, a1, a2, a3⟩ := ok r hr
      refine ⟨ps2, rest _ _ a1 hb, a2, fun p2 cv hcv => ?_⟩
      obtain ⟨c0, z1, z2⟩ := a3 p2 cv hcv
      exact ⟨c0, z1, rest _ _ z2 (notT z2)⟩
end
/-- the def that calls what it got; Lk: what is known of that in the heap -/
def GivesT (X : Cx) (Ng : List Str) (x : Str) (sg : Scope) (g : Addr) (cdg : Value) (bg : List Stmt) (a : Str) (TT : (XK → Hp → VK → Prop) → Hp → VK → Prop) : Prop :=
  ∀ (f : Addr) (s : Shared) (H : Hp) (Q : VK) (Lk : Hp → Prop) (tl : XK → Hp → VK → Prop),
    (∀ (W : WX) (pn : List (Addr × Obj)) (xe : Value → Shared → Prop) (E : XK) (p1 p2 : Pos), Takes ((cxOf C8.CX0 X.prog X.w X.K X.mg X.base Ng x sg g cdg X.A X.stack s H C8.E0).tr pn xe) W → (∀ cls d σ' H', E cls d H' → W cls d σ' H') →
      PE ((cxOf C8.CX0 X.prog X.w X.K X.mg X.base Ng x sg g cdg X.A X.stack s H C8.E0).tr pn xe) (.Call (.Name a p1) [] [] p2) (fun σZ HZ Q => σZ[0]? = some (some (.ref f)) ∧ Lk HZ ∧ tl E HZ Q)) →
    Lk H → TT tl H Q →
    ∃ t, PSs (cxOf C8.CX0 X.prog X.w X.K X.mg X.base Ng x sg g cdg X.A X.stack s H C8.E0).nox bg t ∧ t { nx := fun _ H' => Q .non H', rt := Q } (L2.start Ng [.ref f]) H
/-- the lambda at f is called by the def that got it; X: the frame that made it -/
theorem act_lam {X : Cx} {pins : List (Addr × Obj)} {σ : L2.St} {H : Hp} {s : Shared} {CXg : CXT} {Eg : XK} {Ng : List Str} {qg : Str} {sg : Scope} {g f : Addr} {cdg : Value} {params : Arguments} {body : Expr} {scope : Scope} {k : Nat} {a : Str} {pn : List (Addr × Obj)} {xe : Value → Shared → Prop} {W : WX} {E : XK} {tb : TE} {p1 p2 : Pos}
    (I : Inv X pins σ H s) (L : LamS X.env.scope scope) (noargs : ∀ (q : Str) (cl : List (Str × Addr)) (pm cv ctv : Value), bindArgs (PySem.W.kla_fn "<lambda>" q params body scope cl pm cv ctv) ⟨[], []⟩ = pure []) (hgu : X.A.guards = some [])
    (tk : Takes ((cxOf CXg X.prog X.w X.K X.mg X.base Ng qg sg g cdg X.A X.stack s H Eg).tr pn xe) W) (hW : ∀ cls d σ' H', E cls d H' → W cls d σ' H') (hr : Room (k + 1) (X.A.deeper (envOfC qg sg s.heap.objs.size g cdg)))
    (hbody : ∀ (A : Around) (outer : List Env) (s : Shared) (H : Hp) (c2 : Addr), Room k (A.deeper (lamEnv X scope s.heap.objs.size f c2)) → A.guards = some [] → PE (lamCx X A outer s H E scope f c2) body tb)
    (hN : Ng[0]? = some a) (hv : Vis sg a) (hd : (a == ("__debug__" : Str)) = false := by decide) (hcd : (a == ("__classdict__" : Str)) = false := by decide) :
    PE ((cxOf CXg X.prog X.w X.K X.mg X.base Ng qg sg g cdg X.A X.stack s H Eg).tr pn xe) (.Call (.Name a p1) [] [] p2) (fun σZ HZ Q => σZ[0]? = some (some (.ref f)) ∧ LamAt X HZ f params body scope ∧ tb σ HZ Q) := by
  refine ⟨fun pinZ sZ σZ HZ Q IZ ⟨at0, ⟨pm, c2, ct, isL, isC⟩, want⟩ => ?_⟩
  have read := (pe_var (X := (cxOf CXg X.prog X.w X.K X.mg X.base Ng qg sg g cdg X.A X.stack s H Eg).tr pn xe) (pos := p1) (i := 0) hN hv hd hcd).run pinZ sZ σZ HZ (fun y G => y = .ref f ∧ G = HZ) IZ ⟨.ref f, at0, rfl, rfl⟩
  refine wpAny_Call_Name_kw (thn read fun u s2 got => ?_)
  obtain ⟨y, G, J, ry, ey, eG⟩ := got
  cases ey
  have eG2 := eG.symm
  subst eG2
  cases ry
  have obj : s2.heap.get? f = some (PySem.W.kla_obj "<lambda>" (X.env.qual ++ "<lambda>") params body scope (cloFrom X.env.cells scope.names []) pm c2 ct) := (J.hok f _ isL).1
  obtain ⟨⟨oc, cvs, ctk, e1, e2, e3⟩, _, _⟩ := J.hok c2 _ isC
  have kept : Un (frs X.stack) [] H HZ s.heap s2.heap := J.base
  refine PySem.W.callWith_F0 ⟨_, _, _, _, obj⟩ ?_
  have runs : codeAny (model X.prog X.w) (X.A.deeper (envOfC qg sg s.heap.objs.size g cdg)) (.call (.ref f) ⟨[], []⟩) (CR (L2.CX X.prog X.w) (envOfC qg sg s.heap.objs.size g cdg :: X.stack) X.prog X.w HZ s2 Q E) s2 := by
    refine PySem.W.kla_callFunE hr.depth obj rfl L.co L.gen rfl ⟨c2, oc, cvs, ctk, rfl, e1, e2, e3⟩ ?_
    rw [noargs]
    refine wpAny_pure (wpAny_newFunctionEnv (fun y hy => (L.own y hy).2) (fun y hy => by cases hy) (fun h1 isNs grown => ⟨J.nolimit.fresh _ grown, ?_⟩) L.kind)
    have still : ∀ b o, s2.heap.get? b = some o → h1.get? b = some o := fun b o e => grown.extBut b o (Nat.ne_of_lt (Heap.lt_size e)) (Heap.get?_push_of_some _ e)
    have I1 := lam_start2 (f := f) (c' := c2) (E := E) (tk := s2.toks + ([] : List (Str × Value)).length) I L J.env0 hr.hd kept isNs still
    refine PySem.W.kla_codeExpr (wpAny_mono ((hbody _ _ s2 HZ c2 (hr.deeper _) hgu).run [] _ _ HZ Q I1 want) (fun v s3 hq => ?_) fun _ _ z => z)
    obtain ⟨w2, H2, J2, r2, q2⟩ := hq
    exact ⟨w2, H2, J2.os, J2.bare, J2.base, J2.hok, r2, q2⟩
  have lets : Passes (L2.CX X.prog X.w) ((cxOf CXg X.prog X.w X.K X.mg X.base Ng qg sg g cdg X.A X.stack s H Eg).tr pn xe) E := passes_call tk hW
  refine wpAny_call (codeAny_mono runs fun r s3 hq => ?_)
  cases r with
  | error e => exact lets pinZ σZ HZ s2 e s3 J hq
  | ok fl =>
    cases fl with
    | ret u => exact J.after hq
    | next => exact hq.elim
    | brk => exact hq.elim
    | cont => exact hq.elim
end
end Fx
/-! a def that calls a tracked lambda and tells the outcome -/
namespace Fx
open PySem PySem.Spec PyProof.Rows L2 LamX
section
variable [Tb]
section
local instance : Fr := fr0
theorem word_giveT {X : Cx} {Ng : List Str} {x a fine : Str} {sg : Scope} {g : Addr} {cdg : Value} {j : Nat} {p1 p2 p3 p4 p5 p6 : Pos} {h0 : ExceptHandler} {hs : List ExceptHandler} {cs : List MCl} {sub : Str → Str → Option Bool} (T : ExTab X.K X.mg sub)
    (C : ∀ s H, ClE (cxOf C8.CX0 X.prog X.w X.K X.mg X.base Ng x sg g cdg X.A X.stack s H C8.E0).nox (h0 :: hs) cs) :
    GivesT X Ng x sg g cdg [.Try [.Expr (.Call (.Name a p1) [] [] p2) p3] (h0 :: hs) [] [] p4, .Return (some (.Constant (.str fine) j p5)) p6] a (TTw X.K X.mg sub cs Ng.length fine) := by
  intro f s H Q Lk tl act hlk h
  obtain ⟨l, Cl', go⟩ := clE_go (Wout := WN) (X := (cxOf C8.CX0 X.prog X.w X.K X.mg X.base Ng x sg g cdg X.A X.stack s H C8.E0).nox) T (C s H)
  obtain ⟨ok, h⟩ := h
  refine ⟨_, pss_cons (ps_tryX (X := (cxOf C8.CX0 X.prog X.w X.K X.mg X.base Ng x sg g cdg X.A X.stack s H C8.E0).nox) (Wout := WN) rfl rfl takes_no
    (tb := fun W D σ H => ∃ Ech : XK, (∀ cls d σ' H', Ech cls d H' → σ'.length = Ng.length → W cls d σ' H') ∧ σ[0]? = some (some (.ref f)) ∧ Lk H ∧ tl Ech H fun _ H1 => D.nx σ H1) (fun W pn xe tk ps => ?_) Cl') (pss_one (ps_ret pe_str)), ?_⟩
  · refine ⟨fun pins s2 σ2 H2 D I h2 => ?_⟩
    obtain ⟨Ech, hW, z1, z2, z3⟩ := h2
    have hp := act _ pn xe Ech p1 p2 (takes_len tk) hW
    exact (pss_one (ps_expr (pos := p3) hp)).run pins s2 σ2 H2 D I ⟨z1, z2, z3⟩
  · have s0 : (L2.start Ng [V.ref f])[0]? = some (some (V.ref f)) := by rw [start_get, if_pos (by simp)]; rfl
    refine ⟨_, fun cls d σ' H' hx hl => ?_, s0, hlk, h⟩
    obtain ⟨y, ok2, er, w, ew, hw⟩ := hx
    have R := rel_none (K := X.K) hl ok2
    refine go (x := y) R (exR_less (fun p z => hd_none z) er) ?_
    unfold wordOf at ew
    cases e1 : mCls sub cs y (List.replicate Ng.length Sl.no) with
    | bad => rw [e1] at ew; cases ew
    | ex z e => rw [e1] at ew; cases ew
    | ok pr =>
      obtain ⟨fl, e⟩ := pr
      rw [e1] at ew
      cases fl with
      | nx => cases ew
      | br => cases ew
      | ct => cases ew
      | rt rv =>
        cases rv with
        | f ds => cases ew
        | v d0 =>
          cases d0 with
          | str w2 =>
            cases ew
            intro v σ2 H2 R2 l2 r
            cases r
            exact hw H2 ⟨fun b o e n => R2.keep b o e (fun z => (nomatch z)) n, R2.tab⟩
          | _ => cases ew
end
/-- the def that tells the outcome: what stands of it behind the top -/
structure WordF (X : Cx) (x a fine : Str) (Ng : List Str) (sub : Str → Str → Option Bool) (cs : List MCl) : Prop where
  ex : ∃ (g : Addr) (pg : Arguments) (bg : List Stmt) (sg : Scope) (dV kV doc pm cdv ct oc : Value) (an od : Option Addr) (osl : Array (Option Value)), X.mg x = some (.ref g) ∧ PySem.W.keepIn X.K (.ref g) = true ∧
    X.K.lookup g = some ⟨oc, od, .func (PySem.W.fnOf x x pg bg sg dV kV doc pm an cdv ct), osl⟩ ∧ PySem.W.codeIn X.K cdv x = true ∧ L2.Binds X.K (PySem.W.fnOf x x pg bg sg dV kV doc pm an cdv ct) [a] [] ∧ FnScope Ng [a] sg ∧ Vis sg a ∧ GivesT X Ng x sg g cdv bg a (TTw X.K X.mg sub cs Ng.length fine)
  at0 : Ng[0]? = some a
  nd : (x == ("__debug__" : Str)) = false
  ad : (a == ("__debug__" : Str)) = false
  ac : (a == ("__classdict__" : Str)) = false
variable [F : Fr]
/-- it is called with a lambda of this frame -/
theorem word_run {X : Cx} {pins : List (Addr × Obj)} {σ : L2.St} {H : Hp} {s : Shared} {x a fine : Str} {Ng : List Str} {sub : Str → Str → Option Bool} {cs : List MCl} {f : Addr} {k : Nat} {params : Arguments} {body : Expr} {scope : Scope} {t : XK → TE} {g : Addr} {Q : VK} (Wf : WordF X x a fine Ng sub cs) (hm : X.mg x = some (.ref g))
    (I : Inv X pins σ H s) (at' : LamAt X H f params body scope) (L : LamS X.env.scope scope) (noargs : ∀ (q : Str) (cl : List (Str × Addr)) (pm cv ctv : Value), bindArgs (PySem.W.kla_fn "<lambda>" q params body scope cl pm cv ctv) ⟨[], []⟩ = pure []) (hgu : X.A.guards = some []) (hr : Room (k + 2) X.A)
    (hbody : ∀ (A : Around) (outer : List Env) (s : Shared) (H : Hp) (E : XK) (c2 : Addr), Room k (A.deeper (lamEnv X scope s.heap.objs.size f c2)) → A.guards = some [] → PE (lamCx X A outer s H E scope f c2) body (t E))
    (h : TTw X.K X.mg sub cs Ng.length fine (fun E H2 Q2 => t E σ H2 Q2) H Q) : wpAny (model X.prog X.w) X.A (call (.ref g) [.ref f]) (EP X pins σ Q) X.xe s := by
  obtain ⟨g', pg, bg, sg, dV, kV, doc, pm, cdv, ct, oc, an, od, osl, hm', hk, lk, hcg, hb, Sg, hva, hG⟩ := Wf.ex
  rw [hm] at hm'
  cases hm'
  have run : codeAny (model X.prog X.w) X.A (.call (.ref g) ⟨[.ref f], []⟩) (CR C8.CX0 X.stack X.prog X.w H s Q C8.E0) s :=
    run_ofS (N := Ng) (ps := [a]) (us := [.ref f]) (vs := [.ref f]) lk hcg Sg hr I.env0 (hb s [.ref f] I.kIn rfl) (.cons rfl .nil) rfl fun hr2 => by
      obtain ⟨t2, ht2, hq2⟩ := hG f s H Q (fun HZ => LamAt X HZ f params body scope) (fun E H2 Q2 => t E σ H2 Q2) (fun W pn xe E p1 p2 tk hW => act_lam I L noargs hgu tk hW hr2 (fun A outer s H c2 hr3 hg3 => hbody A outer s H E c2 hr3 hg3) Wf.at0 hva Wf.ad Wf.ac) at' h
      exact ⟨t2, ht2.nox, hq2⟩
  refine wpAny_call (codeAny_mono run fun r s2 hq => ?_)
  cases r with
  | error e => exact (show False from hq).elim
  | ok fl =>
    cases fl with
    | ret u => exact I.after hq
    | next => exact hq.elim
    | brk => exact hq.elim
    | cont => exact hq.elim
/-- what the frame's text says of a lambda -/
structure LamF (X : Cx) (params : Arguments) (body : Expr) (scope : Scope) (k : Nat) (mb : M PyData) : Prop where
  L : LamS X.env.scope scope
  nodef : defaultsOf params X.env = ([], [])
  noargs : ∀ (q : Str) (cl : List (Str × Addr)) (pm cv ctv : Value), bindArgs (PySem.W.kla_fn "<lambda>" q params body scope cl pm cv ctv) ⟨[], []⟩ = pure []
  does : ∀ (A : Around) (outer : List Env) (s : Shared) (H : Hp) (E : XK) (f c2 : Addr), Room k (A.deeper (lamEnv X scope s.heap.objs.size f c2)) → A.guards = some [] → Ev (lamCx X A outer s H E scope f c2) (WDef E) body mb
/-- the frame's own code object and its table -/
structure LamC (X : Cx) : Prop where
  ex : ∃ c tb, TabB X.base X.mg c tb ∧ X.env.code = .ref c ∧ (tb, X.env.qual ++ "<lambda>") ∈ Tb.C ∧ ∀ r ∈ Tb.C, r.1 = tb → r.2 = X.env.qual ++ "<lambda>"
theorem post_word {X : Cx} {W : WX} {sub : Str → Str → Option Bool} {cs : List MCl} {fine : Str} {n : Nat} {mb : M PyData} {H0 : Hp} {Bo : List (Nat × Addr)} {T : List (Addr × HO)} {σ : L2.St} {H H1 : Hp} {env : Vn} {Q : VK} (R : Rel X.K H0 Bo T σ H1 env) (l0 : Lat (Hd T σ env) H (Hd T σ env) H1)
    (P : Post (Dq X.K) X W H0 Bo T σ H env Q (mWord sub cs n fine mb env)) : TTw X.K X.mg sub cs n fine (fun E H2 Q2 => canon (Dq X.K) X (WDef E) mb σ H2 Q2) H1 Q := by
  refine ⟨R.tab, H0, Bo, T, env, R, ?_⟩
  unfold mWord at P
  cases e1 : mb env with
  | bad => rw [e1] at P; exact P.elim
  | ok pr =>
    obtain ⟨d, e⟩ := pr
    rw [e1] at P
    intro v H2 R2 l2 r
    exact P _ H2 R2 (l0.trans l2) (.str _)
  | ex y e =>
    rw [e1] at P
    intro cls dd H2 R2 l2 er
    cases ew : wordOf sub cs n y with
    | none => simp only [ew] at P; exact P.elim
    | some s =>
      simp only [ew] at P
      refine ⟨y, R2.tab, exR_less (fun q z => ?_) er, s, ew, fun H3 c => ?_⟩
      · rcases z with z | ⟨i, s, e, _⟩
        · exact .inl (List.mem_append_right _ z)
        · cases e
      · exact P _ H3 (R2.growC c).1 ((l0.trans l2).trans (R2.growC c).2) (.str _)
/-- x(lambda: body) -/
theorem ev_lamT {X : Cx} {W : WX} {sub : Str → Str → Option Bool} {cs : List MCl} {fine : Str} {mb : M PyData} {x a : Str} {k : Nat} {Ng : List Str} {params : Arguments} {body : Expr} {scope : Scope} {p lpos pos : Pos} (hgu : X.A.guards = some []) (hr : Room (k + 2) X.A) (C : LamC X) (Wf : WordF X x a fine Ng sub cs)
    (Lf : LamF X params body scope k mb) (hg : Gl X x := by rfl) : Ev X W (.Call (.Name x p) [.Lambda params body scope lpos] [] pos) (mWord sub cs Ng.length fine mb) := by
  obtain ⟨c, tb, B, hc, hin, one⟩ := C.ex
  obtain ⟨g, hm, hk⟩ : ∃ g : Addr, X.mg x = some (.ref g) ∧ PySem.W.keepIn X.K (.ref g) = true := let ⟨g, _, _, _, _, _, _, _, _, _, _, _, _, _, h1, h2, _⟩ := Wf.ex; ⟨g, h1, h2⟩
  have pe : PE X (.Call (.Name x p) [.Lambda params body scope lpos] [] pos) (fun σ H Q => TbOk H ∧ ∀ H1, SameC H H1 → TTw X.K X.mg sub cs Ng.length fine (fun E H2 Q2 => canon (Dq X.K) X (WDef E) mb σ H2 Q2) H1 Q) := by
    refine ⟨fun pins s σ H Q I ⟨ok, h⟩ => wpAny_Call_Name_kw (ld_glob I hg hm ?_ Wf.nd)⟩
    refine PySem.W.callWith_K (h₀ := X.base) I.ok.mod.kin hk ?_ (by rfl) (by rfl)
    show wpAny _ _ (spliced ((false, eval (.Lambda params body scope lpos) X.env) :: backTo pos (starEach [] X.env))) _ _ s
    refine Calls.spliced_cons (lam_makeT I B hc hin one ok Lf.nodef (Lf.L.has I.ok) fun f H1 s1 I1 same hn at' => Calls.spliced_nil ⟨I1.kIn, ?_⟩)
    exact word_run Wf hm I1 at' Lf.L Lf.noargs hgu hr (fun A outer s H E c2 r g => (Lf.does A outer s H E f c2 r g).pe) (h H1 same)
  exact ⟨_, pe, fun H0 Bo T σ H env Q R P => ⟨R.tab, fun H1 same => post_word (R.growC same).1 (R.growC same).2 P⟩⟩
end
end Fx
/-! raise, by what stands behind the top -/
namespace Fx
open PySem PySem.Spec PyProof.Rows L2 NdefX
open PySem.W PySem.Builtin PySem.Builtin.ObjectAttr PySem.Calls
/-- an exception class of the program without an __init__ -/
structure RsE (K : PySem.W.Frag) (mg : Str → Option Value) (c : Str) : Prop where
  ex : ∃ (C : Addr) (B newId initId : String) (bmB : List Value), ExcBaseFacts B newId initId bmB ∧ PySem.W.excIn K C bmB newId = true ∧ mg c = some (.ref C) ∧ PySem.W.keepIn K (.ref C) = true ∧
    PySem.W.subIn K (.ref C) (.type "BaseException") = some true ∧ PySem.W.typeIn K (.ref C) = some (.type "type")
/-- the text that is made of the argument -/
inductive IniMsg (p : Str) (scope : Scope) : Expr → (PyData → Bool) → Prop
  | con {m : Str} {k : Nat} {q : Pos} : IniMsg p scope (.Constant (.str m) k q) (fun _ => true)
  | rep {m : Str} {k : Nat} {q1 q2 q3 q4 : Pos} : m.length ≤ 1000 → Vis scope p → IniMsg p scope (.JoinedStr [.FormattedValue (.Name p q1) 114 none q2, .Constant (.str m) k q3] q4) okR
/-- one with its own __init__, that keeps its argument as f -/
structure RiE (P : Program) (K : PySem.W.Frag) (mg : Str → Option Value) (c f : Str) (ok : PyData → Bool) : Prop where
  ex : ∃ (C fI cda cc : Addr) (fd : FuncData) (scope : Scope) (p : Str) (e1 : Expr) (body : List Stmt) (qual : Str) (params : Arguments) (fld B newId initId : String) (bmB : List Value), Str.ofString fld = f ∧ OwnX P K C fld B newId initId bmB ∧
    IniF P K mg C fI cda cc fd scope p (Str.ofString fld) e1 body qual params ∧ PySem.W.findIn K (.ref C) "__init__" = some (some (.ref fI)) ∧ PySem.W.typeIn K (.ref fI) = some (.type "function") ∧ mg c = some (.ref C) ∧ PySem.W.keepIn K (.ref C) = true ∧
    PySem.W.subIn K (.ref C) (.type "BaseException") = some true ∧ PySem.W.typeIn K (.ref C) = some (.type "type") ∧ IniMsg p scope e1 ok
section
variable [Tb] [F : Fr]
variable {X : Cx} {W : WX} {pos p q : Pos}
theorem evs_raiseC {c m : Str} {j : Nat} {p1 p2 p3 : Pos} (T : RsE X.K X.mg c) (tk : Takes X W) (hc : X.calm = true := by rfl) (hg : Gl X c := by rfl) (hdb : (c == ("__debug__" : Str)) = false := by decide) :
    EvS X W (.Raise (some (.Call (.Name c p1) [.Constant (.str m) j p2] [] p3)) none pos) (mRaise0 c) := by
  obtain ⟨C, B, newId, initId, bmB, F, h1, h2, h3, h4, h5⟩ := T.ex
  exact evs_raise0 hc tk h2 (L2.pmk_own F h1 h2 h3 (raises_own h4 h5) hg hdb)
theorem evs_raiseN {c f : Str} {ok : PyData → Bool} {e : Expr} {m : M PyData} {p1 p3 : Pos} {k : Nat} (T : RiE X.prog X.K X.mg c f ok) (hgu : X.A.guards = some []) (hr : Room (k + 2) X.A) (tk : Takes X W) (ha : EvA X W [e] (mCons m mNil)) (hc : X.calm = true := by rfl) (hg : Gl X c := by rfl)
    (hdb : (c == ("__debug__" : Str)) = false := by decide) (he : starEach [e] X.env = (false, eval e X.env) :: starEach [] X.env := by rfl) :
    EvS X W (.Raise (some (.Call (.Name c p1) [e] [] p3)) none pos) (mRaiseI c f ok m) := by
  obtain ⟨C, fI, cda, cc, fd, scope, p, e1, body, qual, params, fld, B, newId, initId, bmB, hf, ow, ini, h1, h2, h3, h4, h5, h6, msg⟩ := T.ex
  subst hf
  cases msg with
  | con =>
    refine evs_raiseI (Msg := fun _ _ => True) hc tk h3 ha (fun ta pa => pmk_ini (Msg := fun _ _ => True) ow ini h1 h2 (raises_own h5 h6) h4 (hr.mono (by omega)) hg h3 pa (fun R A outer s H a v E hA hr1 hM na => msg_const) hdb he) (fun _ _ _ _ _ _ => trivial)
  | @rep m j q1 q2 q3 q4 hl hv =>
    refine evs_raiseI (Msg := MsgR X.K) hc tk h3 ha (fun ta pa => pmk_ini (Msg := MsgR X.K) ow ini h1 h2 (raises_own h5 h6) h4 (hr.mono (by omega)) hg h3 pa (fun R A outer s H a v E hA hr1 hM na => ?_) hdb he) (fun _ _ _ _ => msgR_ok)
    refine msg_repr (X := ncx (CXR R) X.prog X.w X.K X.mg X.base ["self", p, "__class__"] ⟨"__init__", qual, params, body, scope, [("__class__", cc)], cda⟩ fI A outer s (upd H a (exo a C none)) E) (hA.trans hgu) ?_ rfl hv ini.pd ini.pc hl na hM
    have z := hr1.un
    show A.units + 3 + 200 < cLine
    omega
end
end Fx
/-! clauses of the def that tells an outcome; tables of classes; the law's own call with tables -/
namespace Fx
open PySem PySem.Spec PyProof.Rows L2 LamX
def sub_by (l : List ((Str × Str) × Bool)) : Str → Str → Option Bool := fun c h => l.lookup (c, h)
theorem exTab_nil {K : PySem.W.Frag} {mg : Str → Option Value} : ExTab K mg (sub_by []) := ⟨fun _ _ _ _ _ e => nomatch e⟩
theorem exTab_cons {K : PySem.W.Frag} {mg : Str → Option Value} {l : List ((Str × Str) × Bool)} {c h : Str} {b : Bool} {C D : Addr} (h1 : mg c = some (.ref C)) (h2 : mg h = some (.ref D)) (e : PySem.W.exmOne K (.ref C) (.ref D) = some b) (T : ExTab K mg (sub_by l)) : ExTab K mg (sub_by (((c, h), b) :: l)) := by
  refine ⟨fun x y k X Y q e1 e2 => ?_⟩
  unfold sub_by at q
  rw [List.lookup_cons] at q
  cases z : ((x, y) == (c, h)) with
  | true =>
    rw [z] at q
    cases q
    have z2 := eq_of_beq z
    cases z2
    rw [h1] at e1
    rw [h2] at e2
    cases e1
    cases e2
    exact e
  | false =>
    rw [z] at q
    exact T.tells _ _ _ _ _ q e1 e2
def flds_by (l : List (Str × Str)) : Str → Str → Bool := fun c f => l.any fun r => r.1 == c && r.2 == f
theorem fxTab_nil {K : PySem.W.Frag} {mg : Str → Option Value} : FxTab K mg (flds_by []) := ⟨fun _ _ _ e => nomatch e⟩
theorem fxTab_cons {K : PySem.W.Frag} {mg : Str → Option Value} {l : List (Str × Str)} {c f : Str} {C : Addr} (h1 : mg c = some (.ref C)) (h2 : xfB K C = true) (h3 : PySem.W.findIn K (.ref C) f = some none) (T : FxTab K mg (flds_by l)) : FxTab K mg (flds_by ((c, f) :: l)) := by
  refine ⟨fun x y C2 q e1 => ?_⟩
  unfold flds_by at q
  rw [List.any_cons, Bool.or_eq_true, Bool.and_eq_true] at q
  rcases q with ⟨q1, q2⟩ | q
  · have z1 := eq_of_beq q1
    have z2 := eq_of_beq q2
    cases z1
    cases z2
    rw [h1] at e1
    cases e1
    exact ⟨xfB_ok h2, h3⟩
  · exact T.tells _ _ _ q e1
section
variable [Tb] [F : Fr]
variable {X : Cx}
theorem cl_con {y t : Str} {j : Nat} {p q p2 p3 : Pos} {hs : List ExceptHandler} {l : List MCl} (hm : ∃ Ch : Addr, X.mg y = some (.ref Ch)) (rest : ClE X hs l) (g : Gl X y := by rfl) (hd : (y == ("__debug__" : Str)) = false := by decide) :
    ClE X (.ExceptHandler (some (.Name y p)) none [.Return (some (.Constant (.str t) j p2)) p3] q :: hs) (⟨y, none, fun _ => mRet (M.ret (.str t))⟩ :: l) := by
  obtain ⟨Ch, hm⟩ := hm
  exact .bare g hd hm (fun x a o cv d pins _ _ => evss_one (evs_ret ev_str)) rest
theorem cl_rep {y n t f : Str} {i j : Nat} {p q q1 q2 q3 q4 q5 q6 q7 : Pos} {flds : Str → Str → Bool} {hs : List ExceptHandler} {l : List MCl} (hm : ∃ Ch : Addr, X.mg y = some (.ref Ch)) (T : FxTab X.K X.mg flds) (hgu : X.A.guards = some []) (hu : X.A.units + 200 < cLine) (hrep : X.mg "repr" = none) (nd : X.N.Nodup) (at' : X.N[i]? = some n)
    (rest : ClE X hs l) (loc : X.env.kindOf n = some .local := by rfl) (g : Gl X y := by rfl) (hd : (y == ("__debug__" : Str)) = false := by decide) (gr : Gl X "repr" := by rfl) (hv : Vis X.env.scope n := by exact Or.inl rfl) (nd1 : (n == ("__debug__" : Str)) = false := by decide) (nd2 : (n == ("__classdict__" : Str)) = false := by decide)
    (hb : attributeBase (.Name n q3) f X.env (eval (.Name n q3) X.env) = eval (.Name n q3) X.env := by rfl) (he : starEach [.Attribute (.Name n q3) f q4] X.env = (false, eval (.Attribute (.Name n q3) f q4) X.env) :: starEach [] X.env := by rfl) :
    ClE X (.ExceptHandler (some (.Name y p)) (some n) [.Return (some (.BinOp (.Constant (.str t) j q1) .Add (.Call (.Name "repr" q2) [.Attribute (.Name n q3) f q4] [] q5) q6)) q7] q :: hs)
      (⟨y, some i, fun x => mRet (mOp gAdd (M.ret (.str t)) (mCallV gRepr (mCons (mXf flds x f) mNil)))⟩ :: l) := by
  obtain ⟨Ch, hm⟩ := hm
  refine .named g hd hm nd at' loc (fun x a o cv d pins hc z zf => ?_) rest
  have A1 := @ev_xf _ F (X := X) a o cv d pins x i n f q3 q4 flds T hc z zf at' hv nd1 nd2 hb
  have A2 := @eva_cons _ (frE F X.K i a x d) (X.suite a ((a, o) :: pins)) WN _ [] _ _ A1 (@eva_nil _ (frE F X.K i a x d) _ _) he
  have A3 := @ev_callB _ (frE F X.K i a x d) (X.suite a ((a, o) :: pins)) WN q2 q5 _ [] _ "repr" _ _ (@cv_reprU _ (frE F X.K i a x d) _ hgu (by show X.A.units + 200 < cLine; omega)) hrep (by decide +kernel) A2 gr (by decide) (by decide) he (by rfl)
  have A4 := @ev_op _ (frE F X.K i a x d) (X.suite a ((a, o) :: pins)) WN q6 _ _ _ _ .Add gAdd (@ov_add _ (frE F X.K i a x d) _) (@ev_str _ (frE F X.K i a x d) _ _ q1 j t) A3
  exact @evss_one _ (frE F X.K i a x d) _ _ _ _ (@evs_ret _ (frE F X.K i a x d) _ _ q7 _ _ A4)
end
section
variable [Tb]
theorem seqL_hid {K : PySem.W.Frag} {H : Hp} {a : Addr} {xs : List V} (ok : TbOk H) (h : SqL K H a xs) : SqL K (hid H (· ∈ CA)) a xs := by
  have no : ∀ {o : HO}, H a = some o → (∀ ps, o ≠ .tbl ps) → a ∉ CA := fun e n => noTabs ok e n
  rcases h with (h | ⟨o, h⟩) | h
  · exact .inl (.inl (hid_some.mpr ⟨no h fun ps z => (nomatch z), h⟩))
  · exact .inl (.inr ⟨o, hid_some.mpr ⟨no h fun ps z => (nomatch z), h⟩⟩)
  · exact .inr h
theorem tbOk_start {H : Hp} (h : ∀ r ∈ Tb.C, H r.1 = some (.tbl #[])) : TbOk H := fun r hr => ⟨#[], h r hr, trivial, fun pos cv e => nomatch e⟩
theorem law_spT {K : PySem.W.Frag} {mg : Str → Option Value} {H : Hp} {a : Addr} {ns : List Int} {G : List PyData → Out Rv} (hC : ∀ r ∈ Tb.C, H r.1 = some (.tbl #[])) (hS : SqL K H a (ns.map V.int)) (h : G [scrD (ns.map PyData.int)] = .ok (.v (.bool true))) : spP K mg G [.ref a] H (fun v _ => v = .bl true) fun _ _ _ => False := by
  have hints : ∀ (H : Hp) (ns : List Int), DqAll K H (ns.map V.int) (ns.map PyData.int) := fun H ns => by
    induction ns with
    | nil => exact .nil
    | cons n r ih => exact .cons (.int n) ih
  have ok := tbOk_start hC
  refine ⟨CA, [scrD (ns.map PyData.int)], fun p hp => ?_, ok, fun p hp => hp, .cons (.scr (seqL_hid ok hS) (hints _ ns)) .nil, ?_⟩
  · obtain ⟨ps, e⟩ := ok.at hp
    rw [e]
    exact fun z => nomatch z
  rw [h]
  intro v H' s r
  cases r
  rfl
end
end Fx
/-! small things for the head -/
namespace Fx
open PySem PySem.Spec PyProof.Rows L2 LamX
def cinit (s : Stmt) (i : Nat) : Stmt :=
  match s with
  | .ClassDef _ _ _ body _ _ _ _ _ _ _ => body.getD i (.Pass ⟨0, 0, 0, 0⟩)
  | s => s
def inArg (s : Stmt) : Expr :=
  match defBody s with
  | .Expr (.Call _ [e] _ _) _ :: _ => e
  | _ => .Constant .none 0 ⟨0, 0, 0, 0⟩
def hdB (vs : Array Value) (c P : Addr) : Bool :=
  (match (vs[11]? : Option Value) with | some (.ref Q) => Q == P | _ => false) && (match vs.getD 18 .none with | .str _ _ => true | _ => false) && (match vs.getD 7 .none with | .int _ _ => true | _ => false) &&
    (match vs.getD 9 .none with | .bool _ => true | _ => false) && (match vs.getD 10 .none with | .int _ _ => true | _ => false) && c != P
theorem codeHd_by {K : PySem.W.Frag} {c P : Addr} {d : Option Addr} {vs : Array Value} {sl : Array (Option Value)} (e : K.lookup c = some ⟨.type "code", d, .fields vs, sl⟩) (h : hdB vs c P = true) : PySem.W.codeHdIn K c P = true := by
  unfold PySem.W.codeHdIn
  rw [e]
  exact h
theorem exm_of {K : PySem.W.Frag} {C D : Addr} {cd : ClassData} {b : Bool} (h1 : PySem.W.subIn K (.ref D) (.type "BaseException") = some true) (h2 : PySem.W.clsIn K D = some cd) (h3 : PySem.W.typeIn K (.ref D) = some (.type "type")) (h4 : PySem.W.subIn K (.ref C) (.ref D) = some b) :
    PySem.W.exmOne K (.ref C) (.ref D) = some b := by
  unfold PySem.W.exmOne
  rw [if_pos (by rw [h1]; rfl)]
  show (if ((PySem.W.clsIn K D).isSome && PySem.W.typeIn K (.ref D) == some (.type "type")) = true then PySem.W.subIn K (.ref C) (.ref D) else none) = some b
  rw [if_pos (by rw [h2, h3]; rfl), h4]
theorem xfB_of {K : PySem.W.Frag} {C : Addr} (h1 : PySem.W.findIn K (.ref C) "__getattribute__" = some (some (.builtin "BaseException.__getattribute__"))) (h2 : PySem.W.findIn K (.ref C) "__getattr__" = some none) (h3 : PySem.W.subIn K (.ref C) (.type "BaseException") = some true) (h4 : PySem.W.hasDictIn K C = true) :
    xfB K C = true := by
  unfold xfB
  rw [h1, h2, h3, h4]
  decide
end Fx
namespace Kw
open PySem PySem.Spec PyProof.Rows L2 Fx
def topS (i : Nat) : Stmt := PySem.Challenge.pw_payroads_k22_errors_and_judges_of_number.main.body.getD i (.Pass ⟨0, 0, 0, 0⟩)
def dd_require_count_1 : List PyData := [.int 0, .int 60]
def dv_require_count_1 : List V := [.int 0, .int 60]
theorem dq_require_count_1 {K : PySem.W.Frag} (H : Hp) : DqAll K H dv_require_count_1 dd_require_count_1 := .cons (.int _) (.cons (.int _) (.nil))
def subK : Str → Str → Option Bool := sub_by [(("InvalidCount", "InvalidFraction"), false), (("InvalidCount", "InvalidCount"), true), (("InvalidCount", "Refused"), false), (("InvalidFraction", "InvalidFraction"), true), (("InvalidFraction", "InvalidCount"), false), (("InvalidFraction", "Refused"), false), (("Refused", "InvalidFraction"), false), (("Refused", "InvalidCount"), false), (("Refused", "Refused"), true)]
def fldK : Str → Str → Bool := flds_by [("InvalidCount", "given"), ("Refused", "reason")]
def cs__law_word : List MCl := [⟨"InvalidFraction", none, fun _ => mRet (M.ret (.str "fraction"))⟩, ⟨"InvalidCount", some 1, fun x => mRet (mOp gAdd (M.ret (.str "count ")) (mCallV gRepr (mCons (mXf fldK x "given") mNil)))⟩, ⟨"Refused", some 1, fun x => mRet (mOp gAdd (M.ret (.str "refused ")) (mCallV gRepr (mCons (mXf fldK x "reason") mNil)))⟩]
def m_is_integer : M Fl := mRet (mAndV (mIsi isIntT (mName 0)) (mNotV (mIsi isBoolT (mName 0))))
def c_is_integer : List PyData → Out Rv := defP 1 1 m_is_integer
def m_is_name : M Fl := mSeq (mIf (mOr (mNot (mTruth (mIsi isStrT (mName 0)))) (mOr (mNot (mBool (mChain gLe gLe (M.ret (.int 1)) (mCallV gLen (mCons (mName 0) (mNil))) (M.ret (.int 12))))) (mBool (mOp gNotIn (mIx (mName 0) (M.ret (.int 0))) (M.ret (.str "abcdefghijklmnopqrstuvwxyz")))))) (mRet (M.ret (.bool false))) (mSkip)) (mRet (mCallV gAll (mCons (mLst (mComp [1] (gSet 1) (M.ret true) (mOp gIn (mName 1) (M.ret (.str ("abcdefghijklmnopqrstuvwxyz0123456789.")))) (mItems (mName 0)))) (mNil))))
def c_is_name : List PyData → Out Rv := defP 1 2 m_is_name
def m_common_divisor : M Fl := mSeq (mPar2 0 1 (mCons (mCallV gAbs (mCons (mName 0) (mNil))) (mCons (mCallV gAbs (mCons (mName 1) (mNil))) (mNil)))) (mSeq (mWhile (muAbs 1) (mBool (mOp gGt (mName 1) (M.ret (.int 0)))) (mPar2 0 1 (mCons (mName 1) (mCons (mOp gMod (mName 0) (mName 1)) (mNil))))) (mRet (mName 0)))
def c_common_divisor : List PyData → Out Rv := defP 2 2 m_common_divisor
def m_is_number : M Fl := mSeq (mIf (mOr (mNot (mTruth (mIsi isTupleT (mName 0)))) (mOr (mBool (mOp gNe (mCallV gLen (mCons (mName 0) (mNil))) (M.ret (.int 2)))) (mNot (mTruth (mCallV gAll (mCons (mLst (mComp [1] (gSet 1) (M.ret true) (mCall c_is_integer [] (mCons (mName 1) (mNil))) (mItems (mName 0)))) (mNil))))))) (mRet (M.ret (.bool false))) (mSkip)) (mRet (mAndV (mOp gGe (mIx (mName 0) (M.ret (.int 1))) (M.ret (.int 1))) (mOp gEq (mCall c_common_divisor [] (mCons (mIx (mName 0) (M.ret (.int 0))) (mCons (mIx (mName 0) (M.ret (.int 1))) (mNil)))) (M.ret (.int 1)))))
def c_is_number : List PyData → Out Rv := defP 1 2 m_is_number
def m_reduced : M Fl := mSeq (mIf (mBool (mOp gLt (mName 1) (M.ret (.int 0)))) (mPar2 0 1 (mCons (mOp gSub (M.ret (.int 0)) (mName 0)) (mCons (mOp gSub (M.ret (.int 0)) (mName 1)) (mNil)))) (mSkip)) (mSeq (mG (gSet 2) (mCall c_common_divisor [] (mCons (mName 0) (mCons (mName 1) (mNil))))) (mRet (mTup (mCons (mOp gFdiv (mName 0) (mName 2)) (mCons (mOp gFdiv (mName 1) (mName 2)) (mNil))))))
def c_reduced : List PyData → Out Rv := defP 2 3 m_reduced
def m_number : M Fl := mSeq (mIf (mOr (mNot (mTruth (mCall c_is_integer [] (mCons (mName 0) (mNil))))) (mBool (mOp gGe (mCallV gAbs (mCons (mName 0) (mNil))) (M.ret (.int (10 ^ 40)))))) (mRaiseI "InvalidCount" "given" okR (mName 0)) (mSkip)) (mSeq (mIf (mOr (mNot (mTruth (mCall c_is_integer [] (mCons (mName 1) (mNil))))) (mOr (mBool (mOp gGe (mCallV gAbs (mCons (mName 1) (mNil))) (M.ret (.int (10 ^ 40))))) (mBool (mOp gEq (mName 1) (M.ret (.int 0)))))) (mRaiseI "InvalidCount" "given" okR (mName 1)) (mSkip)) (mRet (mCall c_reduced [] (mCons (mName 0) (mCons (mName 1) (mNil))))))
def c_number : List PyData → Out Rv := defP 2 2 m_number
def m_require_number : M Fl := mIf (mNot (mTruth (mCall c_is_number [] (mCons (mName 0) (mNil))))) (mRaise0 "InvalidFraction") (mSkip)
def c_require_number : List PyData → Out Rv := defP 1 1 m_require_number
def m_require_count : M Fl := mIf (mOr (mNot (mTruth (mCall c_is_integer [] (mCons (mName 0) (mNil))))) (mNot (mBool (mChain gLe gLe (mName 1) (mName 0) (mName 2))))) (mRaiseI "InvalidCount" "given" okR (mName 0)) (mSkip)
def c_require_count : List PyData → Out Rv := defP 3 3 m_require_count
def m_added : M Fl := mSeq (mIf (mBool (mChain gEq gEq (mIx (mName 0) (M.ret (.int 1))) (mIx (mName 1) (M.ret (.int 1))) (M.ret (.int 1)))) (mRet (mTup (mCons (mOp gAdd (mIx (mName 0) (M.ret (.int 0))) (mIx (mName 1) (M.ret (.int 0)))) (mCons (M.ret (.int 1)) (mNil))))) (mSkip)) (mRet (mCall c_reduced [] (mCons (mOp gAdd (mOp gMul (mIx (mName 0) (M.ret (.int 0))) (mIx (mName 1) (M.ret (.int 1)))) (mOp gMul (mIx (mName 1) (M.ret (.int 0))) (mIx (mName 0) (M.ret (.int 1))))) (mCons (mOp gMul (mIx (mName 0) (M.ret (.int 1))) (mIx (mName 1) (M.ret (.int 1)))) (mNil)))))
def c_added : List PyData → Out Rv := defP 2 2 m_added
def m_multiplied : M Fl := mSeq (mIf (mBool (mChain gEq gEq (mIx (mName 0) (M.ret (.int 1))) (mIx (mName 1) (M.ret (.int 1))) (M.ret (.int 1)))) (mRet (mTup (mCons (mOp gMul (mIx (mName 0) (M.ret (.int 0))) (mIx (mName 1) (M.ret (.int 0)))) (mCons (M.ret (.int 1)) (mNil))))) (mSkip)) (mRet (mCall c_reduced [] (mCons (mOp gMul (mIx (mName 0) (M.ret (.int 0))) (mIx (mName 1) (M.ret (.int 0)))) (mCons (mOp gMul (mIx (mName 0) (M.ret (.int 1))) (mIx (mName 1) (M.ret (.int 1)))) (mNil)))))
def c_multiplied : List PyData → Out Rv := defP 2 2 m_multiplied
def m_opposite : M Fl := mRet (mTup (mCons (mOp gSub (M.ret (.int 0)) (mIx (mName 0) (M.ret (.int 0)))) (mCons (mIx (mName 0) (M.ret (.int 1))) (mNil))))
def c_opposite : List PyData → Out Rv := defP 1 1 m_opposite
def m_divided : M Fl := mRet (mCall c_reduced [] (mCons (mOp gMul (mIx (mName 0) (M.ret (.int 0))) (mIx (mName 1) (M.ret (.int 1)))) (mCons (mOp gMul (mIx (mName 0) (M.ret (.int 1))) (mIx (mName 1) (M.ret (.int 0)))) (mNil))))
def c_divided : List PyData → Out Rv := defP 2 2 m_divided
def m_sum_of : M Fl := mSeq (mG (gSet 1) (M.ret (.tuple [.int 0, .int 1]))) (mSeq (mFor (gSet 2) (mG (gSet 1) (mCall c_added [] (mCons (mName 1) (mCons (mName 2) (mNil))))) (mItems (mName 0))) (mRet (mName 1)))
def c_sum_of : List PyData → Out Rv := defP 1 3 m_sum_of
def m_plus : M Fl := mSeq (mDo (mCall c_require_number [] (mCons (mName 0) (mNil)))) (mSeq (mDo (mCall c_require_number [] (mCons (mName 1) (mNil)))) (mRet (mCall c_added [] (mCons (mName 0) (mCons (mName 1) (mNil))))))
def c_plus : List PyData → Out Rv := defP 2 2 m_plus
def m_minus : M Fl := mSeq (mDo (mCall c_require_number [] (mCons (mName 0) (mNil)))) (mSeq (mDo (mCall c_require_number [] (mCons (mName 1) (mNil)))) (mRet (mCall c_added [] (mCons (mName 0) (mCons (mCall c_opposite [] (mCons (mName 1) (mNil))) (mNil))))))
def c_minus : List PyData → Out Rv := defP 2 2 m_minus
def m_times : M Fl := mSeq (mDo (mCall c_require_number [] (mCons (mName 0) (mNil)))) (mSeq (mDo (mCall c_require_number [] (mCons (mName 1) (mNil)))) (mRet (mCall c_multiplied [] (mCons (mName 0) (mCons (mName 1) (mNil))))))
def c_times : List PyData → Out Rv := defP 2 2 m_times
def m_over : M Fl := mSeq (mDo (mCall c_require_number [] (mCons (mName 0) (mNil)))) (mSeq (mDo (mCall c_require_number [] (mCons (mName 1) (mNil)))) (mSeq (mIf (mBool (mOp gEq (mName 1) (M.ret (.tuple [.int 0, .int 1])))) (mRaiseI "Refused" "reason" (fun _ => true) (mTup (mCons (M.ret (.str "nought")) (mNil)))) (mSkip)) (mRet (mCall c_divided [] (mCons (mName 0) (mCons (mName 1) (mNil)))))))
def c_over : List PyData → Out Rv := defP 2 2 m_over
def m_compared : M Fl := mSeq (mDo (mCall c_require_number [] (mCons (mName 0) (mNil)))) (mSeq (mDo (mCall c_require_number [] (mCons (mName 1) (mNil)))) (mSeq (mPar2 2 3 (mCons (mOp gMul (mIx (mName 0) (M.ret (.int 0))) (mIx (mName 1) (M.ret (.int 1)))) (mCons (mOp gMul (mIx (mName 1) (M.ret (.int 0))) (mIx (mName 0) (M.ret (.int 1)))) (mNil)))) (mRet (mOp gSub (mCallV gInt (mCons (mOp gGt (mName 2) (mName 3)) (mNil))) (mCallV gInt (mCons (mOp gLt (mName 2) (mName 3)) (mNil)))))))
def c_compared : List PyData → Out Rv := defP 2 4 m_compared
def m_total : M Fl := mSeq (mIf (mOr (mNot (mTruth (mIsi isTupleT (mName 0)))) (mNot (mTruth (mCallV gAll (mCons (mLst (mComp [1] (gSet 1) (M.ret true) (mCall c_is_number [] (mCons (mName 1) (mNil))) (mItems (mName 0)))) (mNil)))))) (mRaise0 "InvalidFraction") (mSkip)) (mRet (mCall c_sum_of [] (mCons (mName 0) (mNil))))
def c_total : List PyData → Out Rv := defP 1 2 m_total
def m_power : M Fl := mSeq (mDo (mCall c_require_number [] (mCons (mName 0) (mNil)))) (mSeq (mDo (mCall c_require_count dd_require_count_1 (mCons (mName 1) (mNil)))) (mSeq (mG (gSet 2) (M.ret (.tuple [.int 1, .int 1]))) (mSeq (mFor (gSet 3) (mG (gSet 2) (mCall c_multiplied [] (mCons (mName 2) (mCons (mName 0) (mNil))))) (mRng1 (mName 1))) (mRet (mName 2)))))
def c_power : List PyData → Out Rv := defP 2 4 m_power
def m__law_dice : M Fl := mSeq (mG (gSet 2) (mIf (mBool (mOp gLt (mName 1) (mCallV gLen (mCons (mName 0) (mNil))))) (mCallV gInt (mCons (mIx (mName 0) (mName 1)) (mNil))) (mOp gAdd (mOp gMul (M.ret (.int 131)) (mName 1)) (M.ret (.int 37))))) (mSeq (mG (gSet 3) (mOp gMod (mCallV gInt (mCons (mCallV gAbs (mCons (mName 2) (mNil))) (mNil))) (mOp gPow (mOp gPow (M.ret (.int 10)) (M.ret (.int 53))) (M.ret (.int 6))))) (mSeq (mG (gSet 4) (mOp gAdd (mOp gAdd (mOp gAdd (mOp gMul (mOp gMod (mName 3) (M.ret (.int 2305843009213693907))) (M.ret (.int 73))) (mOp gMul (M.ret (.int 619)) (mName 1))) (mOp gMul (M.ret (.int 41)) (mCallV gInt (mCons (mOp gLt (mName 2) (M.ret (.int 0))) (mNil))))) (M.ret (.int 17)))) (mRetF (mLstD (mCons (mCallV gMax (mCons (M.ret (.int 0)) (mCons (mOp gSub (mName 3) (mOp gPow (M.ret (.int 10)) (M.ret (.int 16)))) (mNil)))) (mCons (mName 4) (mCons (M.ret (.int 0)) (mNil))))))))
def c__law_dice : List PyData → Out Rv := defP 2 5 m__law_dice
def m__law_roll : M Fl := mSeq (mIf (mBool (mOp gGt (mIxO 0 (M.ret (.int 0))) (M.ret (.int 0)))) (mSeq (mG (gSet 2) (mOp gMod (mIxO 0 (M.ret (.int 0))) (mName 1))) (mSeq (mPut 0 (M.ret (.int 0)) (mOp gFdiv (mIxO 0 (M.ret (.int 0))) (mName 1))) (mRet (mCallV gInt (mCons (mName 2) (mNil)))))) (mSkip)) (mSeq (mPut 0 (M.ret (.int 2)) (mOp gAdd (mIxO 0 (M.ret (.int 2))) (M.ret (.int 1)))) (mSeq (mG (gSet 3) (mOp gMod (mOp gAdd (mIxO 0 (M.ret (.int 1))) (mOp gMul (M.ret (.int 49979687)) (mIxO 0 (M.ret (.int 2))))) (M.ret (.int 2305843009213693951)))) (mSeq (mG (gSet 4) (mOp gAdd (mOp gMul (mOp gMod (mOp gAdd (mOp gMul (mName 3) (mName 3)) (mOp gMul (M.ret (.int 131)) (mIxO 0 (M.ret (.int 2))))) (M.ret (.int 2305843009213693921))) (M.ret (.int 32452843))) (mName 3))) (mRet (mOp gMod (mCallV gInt (mCons (mOp gFdiv (mName 4) (M.ret (.int 65587))) (mNil))) (mName 1))))))
def c__law_roll : List PyData → List PyData → Out (Rv × List PyData) := defB 2 5 m__law_roll
def m__law_pick : M Fl := mRet (mIx (mName 1) (mLend c__law_roll 0 [] (mCons (mCallV gLen (mCons (mName 1) (mNil))) (mNil))))
def c__law_pick : List PyData → List PyData → Out (Rv × List PyData) := defB 2 2 m__law_pick
def m__law_fr : M Fl := mSeq (mPar2 2 3 (mCons (mCallV gAbs (mCons (mName 0) (mNil))) (mCons (mCallV gAbs (mCons (mName 1) (mNil))) (mNil)))) (mSeq (mWhile (muAbs 3) (mBool (mOp gGt (mName 3) (M.ret (.int 0)))) (mPar2 2 3 (mCons (mName 3) (mCons (mOp gMod (mName 2) (mName 3)) (mNil))))) (mSeq (mG (gSet 4) (mIf (mBool (mOp gLt (mName 1) (M.ret (.int 0)))) (mNeg (M.ret (.int 1))) (M.ret (.int 1)))) (mRet (mTup (mCons (mOp gFdiv (mOp gMul (mName 4) (mName 0)) (mName 2)) (mCons (mOp gFdiv (mOp gMul (mName 4) (mName 1)) (mName 2)) (mNil)))))))
def c__law_fr : List PyData → Out Rv := defP 2 5 m__law_fr
def m__law_is_number : M Fl := mSeq (mIf (mOr (mNot (mTruth (mIsi isTupleT (mName 0)))) (mBool (mOp gNe (mCallV gLen (mCons (mName 0) (mNil))) (M.ret (.int 2))))) (mRet (M.ret (.bool false))) (mSkip)) (mSeq (mIf (mBool (mOp gNe (mLst (mComp [1] (gSet 1) (mOr (mNot (mTruth (mIsi isIntT (mName 1)))) (mTruth (mIsi isBoolT (mName 1)))) (M.ret (.int 1)) (mItems (mName 0)))) (mLst (mLstD (mNil))))) (mRet (M.ret (.bool false))) (mSkip)) (mRet (mAndV (mOp gGe (mIx (mName 0) (M.ret (.int 1))) (M.ret (.int 1))) (mOp gEq (mCall c__law_fr [] (mCons (mIx (mName 0) (M.ret (.int 0))) (mCons (mIx (mName 0) (M.ret (.int 1))) (mNil)))) (mName 0)))))
def c__law_is_number : List PyData → Out Rv := defP 1 2 m__law_is_number
def m__law_is_name : M Fl := mSeq (mIf (mOr (mNot (mTruth (mIsi isStrT (mName 0)))) (mOr (mNot (mBool (mChain gLe gLe (M.ret (.int 1)) (mCallV gLen (mCons (mName 0) (mNil))) (M.ret (.int 12))))) (mNot (mBool (mChain gLe gLe (M.ret (.str "a")) (mIx (mName 0) (M.ret (.int 0))) (M.ret (.str "z"))))))) (mRet (M.ret (.bool false))) (mSkip)) (mRet (mOp gEq (mLst (mComp [1] (gSet 1) (mBool (mOp gNotIn (mName 1) (M.ret (.str "abcdefghijklmnopqrstuvwxyz0123456789.")))) (mName 1) (mItems (mName 0)))) (mLst (mLstD (mNil)))))
def c__law_is_name : List PyData → Out Rv := defP 1 2 m__law_is_name
def m__law_some : M Fl := mSeq (mG (gSet 1) (mLst (mLstD (mCons (M.ret (.none)) (mCons (M.ret (.bool true)) (mCons (M.ret (.bool false)) (mCons (M.ret (.int 0)) (mCons (M.ret (.int 1)) (mCons (mNeg (M.ret (.int 3))) (mCons (mOp gPow (M.ret (.int 10)) (M.ret (.int 39))) (mCons (M.ret (.str "a")) (mCons (M.ret (.str "")) (mCons (M.ret (.str "up.2")) (mCons (M.ret (.str "2up")) (mCons (M.ret (.str "Up")) (mCons (M.ret (.str "a b")) (mCons (M.ret (.str "abcdefghijkl")) (mCons (M.ret (.str "abcdefghijklm")) (mNil))))))))))))))))))) (mSeq (mG (gSet 1) (mOp gAdd (mName 1) (mLst (mLstD (mCons (mTup (mNil)) (mCons (mTup (mCons (M.ret (.int 0)) (mCons (M.ret (.int 1)) (mNil)))) (mCons (mTup (mCons (M.ret (.int 1)) (mCons (M.ret (.int 1)) (mNil)))) (mCons (mTup (mCons (M.ret (.int 2)) (mCons (M.ret (.int 4)) (mNil)))) (mCons (mTup (mCons (M.ret (.int 0)) (mCons (M.ret (.int 2)) (mNil)))) (mCons (mTup (mCons (M.ret (.int 1)) (mCons (M.ret (.int 0)) (mNil)))) (mCons (mTup (mCons (M.ret (.int 1)) (mCons (mNeg (M.ret (.int 2))) (mNil)))) (mCons (mTup (mCons (mNeg (M.ret (.int 1))) (mCons (M.ret (.int 2)) (mNil)))) (mCons (mTup (mCons (M.ret (.bool true)) (mCons (M.ret (.int 1)) (mNil)))) (mCons (mTup (mCons (M.ret (.int 1)) (mCons (M.ret (.bool true)) (mNil)))) (mCons (mLst (mLstD (mCons (M.ret (.int 1)) (mCons (M.ret (.int 2)) (mNil))))) (mCons (mTup (mCons (M.ret (.int 1)) (mNil))) (mNil))))))))))))))))) (mSeq (mG (gSet 1) (mOp gAdd (mName 1) (mLst (mLstD (mCons (mTup (mCons (M.ret (.int 1)) (mCons (M.ret (.int 2)) (mCons (M.ret (.int 3)) (mNil))))) (mCons (mTup (mCons (mOp gAdd (mOp gPow (M.ret (.int 10)) (M.ret (.int 39))) (M.ret (.int 1))) (mCons (mOp gPow (M.ret (.int 10)) (M.ret (.int 39))) (mNil)))) (mCons (mTup (mCons (mTup (mCons (M.ret (.int 1)) (mCons (M.ret (.int 1)) (mNil)))) (mCons (M.ret (.int 1)) (mNil)))) (mCons (mTup (mCons (M.ret (.str "1")) (mCons (M.ret (.int 1)) (mNil)))) (mCons (mTup (mCons (M.ret (.none)) (mCons (M.ret (.int 1)) (mNil)))) (mCons (M.ret (.str "1/2")) (mCons (M.ret (.dict [])) (mCons (M.ret (.dict [(.int 1, .int 2)])) (mCons (M.ret (.str ".a")) (mCons (M.ret (.str "a.")) (mNil))))))))))))))) (mRet (mLend c__law_pick 0 [] (mCons (mName 1) (mNil))))))
def c__law_some : List PyData → List PyData → Out (Rv × List PyData) := defB 1 2 m__law_some
def m__law_right : M Fl := mSeq (mG (gUnp (gsCons (gSet 9) (gsCons (gSet 10) (gsNil))) 2) (mTup (mCons (mLend c__law_some 0 [] (mNil)) (mCons (mLend c__law_some 0 [] (mNil)) (mNil))))) (mSeq (mPar2 1 2 (mCons (mAndV (mIsi isIntT (mName 9)) (mNotV (mIsi isBoolT (mName 9)))) (mCons (mNotV (mCall c__law_is_number [] (mCons (mName 9) (mNil)))) (mNil)))) (mSeq (mIf (mBool (mOp gNe (mCallV gRepr (mCons (mLst (mLstD (mCons (mCall c_is_integer [] (mCons (mName 9) (mNil))) (mCons (mCall c_is_name [] (mCons (mName 9) (mNil))) (mCons (mCall c_is_number [] (mCons (mName 9) (mNil))) (mNil)))))) (mNil))) (mCallV gRepr (mCons (mLst (mLstD (mCons (mName 1) (mCons (mCall c__law_is_name [] (mCons (mName 9) (mNil))) (mCons (mNotV (mName 2)) (mNil)))))) (mNil))))) (mRet (M.ret (.bool false))) (mSkip)) (mSeq (mG (gUnp (gsCons (gSet 8) (gsCons (gSet 3) (gsNil))) 2) (mTup (mCons (mTup (mCons (M.ret (.int 3)) (mCons (M.ret (.int 2)) (mNil)))) (mCons (mIf (mTruth (mName 2)) (M.ret (.str "fraction")) (M.ret (.str "fine"))) (mNil))))) (mSeq (mG (gSet 4) (mLst (mLstD (mCons (mWord subK cs__law_word 2 "fine" (mCall c_plus [] (mCons (mName 9) (mCons (mName 10) (mNil))))) (mCons (mWord subK cs__law_word 2 "fine" (mCall c_minus [] (mCons (mName 8) (mCons (mName 9) (mNil))))) (mNil)))))) (mSeq (mG (gSet 4) (mOp gAdd (mName 4) (mLst (mLstD (mCons (mWord subK cs__law_word 2 "fine" (mCall c_times [] (mCons (mName 9) (mCons (mName 8) (mNil))))) (mCons (mWord subK cs__law_word 2 "fine" (mCall c_compared [] (mCons (mName 8) (mCons (mName 9) (mNil))))) (mNil))))))) (mSeq (mSetF 5 (mAddF (mLst (mLstD (mCons (mIf (mAnd (mNot (mTruth (mName 2))) (mTruth (mCall c__law_is_number [] (mCons (mName 10) (mNil))))) (M.ret (.str "fine")) (M.ret (.str "fraction"))) (mNil)))) (mOp gMul (mLst (mLstD (mCons (mName 3) (mNil)))) (M.ret (.int 3))))) (mSeq (mG (gSet 4) (mOp gAdd (mName 4) (mLst (mLstD (mCons (mWord subK cs__law_word 2 "fine" (mCall c_over [] (mCons (mName 9) (mCons (mTup (mCons (M.ret (.int 0)) (mCons (M.ret (.int 1)) (mNil)))) (mNil))))) (mCons (mWord subK cs__law_word 2 "fine" (mCall c_over [] (mCons (mName 8) (mCons (mName 9) (mNil))))) (mNil))))))) (mSeq (mSetF 5 (mAddF (mName 5) (mLst (mLstD (mCons (mIf (mTruth (mName 2)) (M.ret (.str "fraction")) (M.ret (.str "refused ('nought',)"))) (mNil)))))) (mSeq (mApp 5 (mIf (mBool (mOp gEq (mCallV gRepr (mCons (mName 9) (mNil))) (M.ret (.str "(0, 1)")))) (M.ret (.str "refused ('nought',)")) (mName 3))) (mSeq (mG (gSet 4) (mOp gAdd (mName 4) (mLst (mLstD (mCons (mWord subK cs__law_word 2 "fine" (mCall c_total [] (mCons (mTup (mCons (mName 8) (mCons (mName 9) (mNil)))) (mNil)))) (mCons (mWord subK cs__law_word 2 "fine" (mCall c_total [] (mCons (mName 9) (mNil)))) (mNil))))))) (mSeq (mSetF 5 (mAddF (mName 5) (mLst (mLstD (mCons (mName 3) (mCons (mIf (mBool (mOp gEq (mCallV gRepr (mCons (mName 9) (mNil))) (M.ret (.str "()")))) (M.ret (.str "fine")) (M.ret (.str "fraction"))) (mNil))))))) (mSeq (mG (gSet 4) (mOp gAdd (mName 4) (mLst (mLstD (mCons (mWord subK cs__law_word 2 "fine" (mCall c_power [] (mCons (mName 9) (mCons (mNeg (M.ret (.int 1))) (mNil))))) (mCons (mWord subK cs__law_word 2 "fine" (mCall c_power [] (mCons (mName 8) (mCons (mName 9) (mNil))))) (mNil))))))) (mSeq (mSetF 5 (mAddF (mName 5) (mLst (mLstD (mCons (mIf (mTruth (mName 2)) (M.ret (.str "fraction")) (M.ret (.str "count -1"))) (mNil)))))) (mSeq (mApp 5 (mIf (mAnd (mTruth (mName 1)) (mBool (mChain gLe gLe (M.ret (.int 0)) (mName 9) (M.ret (.int 60))))) (M.ret (.str "fine")) (mOp gAdd (M.ret (.str "count ")) (mCallV gRepr (mCons (mName 9) (mNil)))))) (mSeq (mIf (mBool (mOp gNe (mName 4) (mName 5))) (mRet (M.ret (.bool false))) (mSkip)) (mSeq (mG (gSet 6) (mAndV (mName 1) (mOp gLt (mCallV gAbs (mCons (mName 9) (mNil))) (mOp gPow (M.ret (.int 10)) (M.ret (.int 40)))))) (mSeq (mG (gSet 7) (mAndV (mIsi isIntT (mName 10)) (mAndV (mNotV (mIsi isBoolT (mName 10))) (mAndV (mOp gLt (mCallV gAbs (mCons (mName 10) (mNil))) (mOp gPow (M.ret (.int 10)) (M.ret (.int 40)))) (mOp gNe (mName 10) (M.ret (.int 0))))))) (mSeq (mG (gSet 4) (mLst (mLstD (mCons (mWord subK cs__law_word 2 "fine" (mCall c_number [] (mCons (mName 9) (mCons (mName 10) (mNil))))) (mCons (mWord subK cs__law_word 2 "fine" (mCall c_number [] (mCons (M.ret (.int 4)) (mCons (mName 9) (mNil))))) (mNil)))))) (mSeq (mG (gSet 5) (mIf (mNot (mTruth (mName 6))) (mOp gAdd (M.ret (.str "count ")) (mCallV gRepr (mCons (mName 9) (mNil)))) (mIf (mTruth (mName 7)) (M.ret (.str "fine")) (mOp gAdd (M.ret (.str "count ")) (mCallV gRepr (mCons (mName 10) (mNil))))))) (mRet (mOp gEq (mName 4) (mLst (mLstD (mCons (mName 5) (mCons (mIf (mAnd (mTruth (mName 6)) (mBool (mOp gNe (mName 9) (M.ret (.int 0))))) (M.ret (.str "fine")) (mOp gAdd (M.ret (.str "count ")) (mCallV gRepr (mCons (mName 9) (mNil))))) (mNil))))))))))))))))))))))))))
def c__law_right : List PyData → List PyData → Out (Rv × List PyData) := defB 1 11 m__law_right
def m_law : M Fl := mSeq (mFor (gSet 1) (mSeq (mSetF 2 (mCallF c__law_dice [] (mCons (mName 0) (mCons (mName 1) (mNil))))) (mFor (gSet 3) (mIf (mNot (mTruth (mLend c__law_right 2 [] (mNil)))) (mRet (M.ret (.bool false))) (mSkip)) (mRng1 (M.ret (.int 8))))) (mRng1 (mCallV gMax (mCons (M.ret (.int 1)) (mCons (mCallV gMin (mCons (M.ret (.int 6)) (mCons (mCallV gLen (mCons (mName 0) (mNil))) (mNil)))) (mNil)))))) (mSeq (mG (gSet 4) (mLst (mLstD (mCons (mWord subK cs__law_word 2 "fine" (mCall c_power [] (mCons (mTup (mCons (M.ret (.int 1)) (mCons (M.ret (.int 2)) (mNil)))) (mCons (M.ret (.int 61)) (mNil))))) (mCons (mWord subK cs__law_word 2 "fine" (mCall c_power [] (mCons (mTup (mCons (M.ret (.int 1)) (mCons (M.ret (.int 2)) (mNil)))) (mCons (M.ret (.int 60)) (mNil))))) (mNil)))))) (mSeq (mG (gSet 4) (mOp gAdd (mName 4) (mLst (mLstD (mCons (mWord subK cs__law_word 2 "fine" (mCall c_total [] (mCons (mLst (mLstD (mCons (mTup (mCons (M.ret (.int 1)) (mCons (M.ret (.int 1)) (mNil)))) (mNil)))) (mNil)))) (mCons (mWord subK cs__law_word 2 "fine" (mCall c_number [] (mCons (M.ret (.int 1)) (mCons (M.ret (.int 0)) (mNil))))) (mNil))))))) (mRet (mOp gEq (mName 4) (mLst (mLstD (mCons (M.ret (.str "count 61")) (mCons (M.ret (.str "fine")) (mCons (M.ret (.str "fraction")) (mCons (M.ret (.str "count 0")) (mNil)))))))))))
def c_law : List PyData → Out Rv := defP 1 5 m_law
end Kw
namespace Kw
open PySem PySem.Spec PyProof.Rows L2 Fx LamX
abbrev s_is_integer : Stmt := topS 13
theorem sc_is_integer : FnScope ["value"] ["value"] (defScope s_is_integer) := ⟨rfl, rfl, rfl, by decide +kernel, rfl, by decide +kernel, by decide +kernel⟩
abbrev s_is_name : Stmt := topS 14
theorem sc_is_name : FnScope ["value", "sign"] ["value"] (defScope s_is_name) := ⟨rfl, rfl, rfl, by decide +kernel, rfl, by decide +kernel, by decide +kernel⟩
abbrev s_common_divisor : Stmt := topS 15
theorem sc_common_divisor : FnScope ["one", "other"] ["one", "other"] (defScope s_common_divisor) := ⟨rfl, rfl, rfl, by decide +kernel, rfl, by decide +kernel, by decide +kernel⟩
abbrev s_is_number : Stmt := topS 16
theorem sc_is_number : FnScope ["value", "one"] ["value"] (defScope s_is_number) := ⟨rfl, rfl, rfl, by decide +kernel, rfl, by decide +kernel, by decide +kernel⟩
abbrev s_reduced : Stmt := topS 17
theorem sc_reduced : FnScope ["top", "bottom", "divisor"] ["top", "bottom"] (defScope s_reduced) := ⟨rfl, rfl, rfl, by decide +kernel, rfl, by decide +kernel, by decide +kernel⟩
abbrev s_number : Stmt := topS 18
theorem sc_number : FnScope ["top", "bottom"] ["top", "bottom"] (defScope s_number) := ⟨rfl, rfl, rfl, by decide +kernel, rfl, by decide +kernel, by decide +kernel⟩
abbrev s_require_number : Stmt := topS 19
theorem sc_require_number : FnScope ["value"] ["value"] (defScope s_require_number) := ⟨rfl, rfl, rfl, by decide +kernel, rfl, by decide +kernel, by decide +kernel⟩
abbrev s_require_count : Stmt := topS 20
theorem sc_require_count : FnScope ["value", "least", "most"] ["value", "least", "most"] (defScope s_require_count) := ⟨rfl, rfl, rfl, by decide +kernel, rfl, by decide +kernel, by decide +kernel⟩
abbrev s_added : Stmt := topS 21
theorem sc_added : FnScope ["one", "other"] ["one", "other"] (defScope s_added) := ⟨rfl, rfl, rfl, by decide +kernel, rfl, by decide +kernel, by decide +kernel⟩
abbrev s_multiplied : Stmt := topS 22
theorem sc_multiplied : FnScope ["one", "other"] ["one", "other"] (defScope s_multiplied) := ⟨rfl, rfl, rfl, by decide +kernel, rfl, by decide +kernel, by decide +kernel⟩
abbrev s_opposite : Stmt := topS 23
theorem sc_opposite : FnScope ["one"] ["one"] (defScope s_opposite) := ⟨rfl, rfl, rfl, by decide +kernel, rfl, by decide +kernel, by decide +kernel⟩
abbrev s_divided : Stmt := topS 24
theorem sc_divided : FnScope ["one", "other"] ["one", "other"] (defScope s_divided) := ⟨rfl, rfl, rfl, by decide +kernel, rfl, by decide +kernel, by decide +kernel⟩
abbrev s_sum_of : Stmt := topS 25
theorem sc_sum_of : FnScope ["numbers", "found", "one"] ["numbers"] (defScope s_sum_of) := ⟨rfl, rfl, rfl, by decide +kernel, rfl, by decide +kernel, by decide +kernel⟩
abbrev s_plus : Stmt := topS 26
theorem sc_plus : FnScope ["one", "other"] ["one", "other"] (defScope s_plus) := ⟨rfl, rfl, rfl, by decide +kernel, rfl, by decide +kernel, by decide +kernel⟩
abbrev s_minus : Stmt := topS 27
theorem sc_minus : FnScope ["one", "other"] ["one", "other"] (defScope s_minus) := ⟨rfl, rfl, rfl, by decide +kernel, rfl, by decide +kernel, by decide +kernel⟩
abbrev s_times : Stmt := topS 28
theorem sc_times : FnScope ["one", "other"] ["one", "other"] (defScope s_times) := ⟨rfl, rfl, rfl, by decide +kernel, rfl, by decide +kernel, by decide +kernel⟩
abbrev s_over : Stmt := topS 29
theorem sc_over : FnScope ["one", "other"] ["one", "other"] (defScope s_over) := ⟨rfl, rfl, rfl, by decide +kernel, rfl, by decide +kernel, by decide +kernel⟩
abbrev s_compared : Stmt := topS 30
theorem sc_compared : FnScope ["one", "other", "left", "right"] ["one", "other"] (defScope s_compared) := ⟨rfl, rfl, rfl, by decide +kernel, rfl, by decide +kernel, by decide +kernel⟩
abbrev s_total : Stmt := topS 31
theorem sc_total : FnScope ["numbers", "one"] ["numbers"] (defScope s_total) := ⟨rfl, rfl, rfl, by decide +kernel, rfl, by decide +kernel, by decide +kernel⟩
abbrev s_power : Stmt := topS 32
theorem sc_power : FnScope ["one", "many", "found", "_"] ["one", "many"] (defScope s_power) := ⟨rfl, rfl, rfl, by decide +kernel, rfl, by decide +kernel, by decide +kernel⟩
abbrev s__law_dice : Stmt := topS 34
theorem sc__law_dice : FnScope ["script", "spot", "cell", "great", "seed"] ["script", "spot"] (defScope s__law_dice) := ⟨rfl, rfl, rfl, by decide +kernel, rfl, by decide +kernel, by decide +kernel⟩
abbrev s__law_roll : Stmt := topS 35
theorem sc__law_roll : FnScope ["dice", "many", "found", "one", "two"] ["dice", "many"] (defScope s__law_roll) := ⟨rfl, rfl, rfl, by decide +kernel, rfl, by decide +kernel, by decide +kernel⟩
abbrev s__law_pick : Stmt := topS 36
theorem sc__law_pick : FnScope ["dice", "items"] ["dice", "items"] (defScope s__law_pick) := ⟨rfl, rfl, rfl, by decide +kernel, rfl, by decide +kernel, by decide +kernel⟩
abbrev s__law_fr : Stmt := topS 37
theorem sc__law_fr : FnScope ["top", "bottom", "one", "other", "sign"] ["top", "bottom"] (defScope s__law_fr) := ⟨rfl, rfl, rfl, by decide +kernel, rfl, by decide +kernel, by decide +kernel⟩
abbrev s__law_is_number : Stmt := topS 38
theorem sc__law_is_number : FnScope ["value", "one"] ["value"] (defScope s__law_is_number) := ⟨rfl, rfl, rfl, by decide +kernel, rfl, by decide +kernel, by decide +kernel⟩
abbrev s__law_is_name : Stmt := topS 40
theorem sc__law_is_name : FnScope ["value", "sign"] ["value"] (defScope s__law_is_name) := ⟨rfl, rfl, rfl, by decide +kernel, rfl, by decide +kernel, by decide +kernel⟩
abbrev s__law_some : Stmt := topS 41
theorem sc__law_some : FnScope ["dice", "some"] ["dice"] (defScope s__law_some) := ⟨rfl, rfl, rfl, by decide +kernel, rfl, by decide +kernel, by decide +kernel⟩
abbrev s__law_right : Stmt := topS 42
theorem sc__law_right : FnScope ["dice", "is_whole", "bad", "plain", "told", "due", "is_top", "is_bottom", "one", "value", "wrong"] ["dice"] (defScope s__law_right) := ⟨rfl, rfl, rfl, by decide +kernel, rfl, by decide +kernel, by decide +kernel⟩
abbrev s_law : Stmt := topS 43
theorem sc_law : FnScope ["script", "spot", "dice", "turn", "told"] ["script"] (defScope s_law) := ⟨rfl, rfl, rfl, by decide +kernel, rfl, by decide +kernel, by decide +kernel⟩
abbrev s__law_word : Stmt := topS 39
theorem sc__law_word : FnScope ["call", "error"] ["call"] (defScope s__law_word) := ⟨rfl, rfl, rfl, by decide +kernel, rfl, by decide +kernel, by decide +kernel⟩
structure Tx [Tb] (P : Program) (K : PySem.W.Frag) (mg : Str → Option Value) (base : Heap) where
  xt : ExTab K mg subK
  xf : FxTab K mg fldK
  m_InvalidFraction : ∃ C : Addr, mg "InvalidFraction" = some (.ref C)
  m_InvalidCount : ∃ C : Addr, mg "InvalidCount" = some (.ref C)
  m_Refused : ∃ C : Addr, mg "Refused" = some (.ref C)
  r_InvalidCount : RiE P K mg "InvalidCount" "given" okR
  r_InvalidFraction : RsE K mg "InvalidFraction"
  r_Refused : RiE P K mg "Refused" "reason" (fun _ => true)
  f__law_word : Addr
  fd__law_word : FuncData
  F__law_word : FunX K "_law_word" "_law_word" s__law_word f__law_word fd__law_word
  g__law_word : mg "_law_word" = some (.ref f__law_word)
  b__law_word : Binds K fd__law_word ["call"] []
  f_is_integer : Addr
  fd_is_integer : FuncData
  F_is_integer : FunX K "is_integer" "is_integer" s_is_integer f_is_integer fd_is_integer
  g_is_integer : mg "is_integer" = some (.ref f_is_integer)
  b_is_integer : Binds K fd_is_integer ["value"] []
  f_is_name : Addr
  fd_is_name : FuncData
  F_is_name : FunX K "is_name" "is_name" s_is_name f_is_name fd_is_name
  g_is_name : mg "is_name" = some (.ref f_is_name)
  b_is_name : Binds K fd_is_name ["value"] []
  f_common_divisor : Addr
  fd_common_divisor : FuncData
  F_common_divisor : FunX K "common_divisor" "common_divisor" s_common_divisor f_common_divisor fd_common_divisor
  g_common_divisor : mg "common_divisor" = some (.ref f_common_divisor)
  b_common_divisor : Binds K fd_common_divisor ["one", "other"] []
  f_is_number : Addr
  fd_is_number : FuncData
  F_is_number : FunX K "is_number" "is_number" s_is_number f_is_number fd_is_number
  g_is_number : mg "is_number" = some (.ref f_is_number)
  b_is_number : Binds K fd_is_number ["value"] []
  f_reduced : Addr
  fd_reduced : FuncData
  F_reduced : FunX K "reduced" "reduced" s_reduced f_reduced fd_reduced
  g_reduced : mg "reduced" = some (.ref f_reduced)
  b_reduced : Binds K fd_reduced ["top", "bottom"] []
  f_number : Addr
  fd_number : FuncData
  F_number : FunX K "number" "number" s_number f_number fd_number
  g_number : mg "number" = some (.ref f_number)
  b_number : Binds K fd_number ["top", "bottom"] []
  f_require_number : Addr
  fd_require_number : FuncData
  F_require_number : FunX K "require_number" "require_number" s_require_number f_require_number fd_require_number
  g_require_number : mg "require_number" = some (.ref f_require_number)
  b_require_number : Binds K fd_require_number ["value"] []
  f_require_count : Addr
  fd_require_count : FuncData
  F_require_count : FunX K "require_count" "require_count" s_require_count f_require_count fd_require_count
  g_require_count : mg "require_count" = some (.ref f_require_count)
  b_require_count : Binds K fd_require_count ["value", "least", "most"] []
  b_require_count_1 : ∃ ds, Vals dv_require_count_1 ds ∧ Binds K fd_require_count ["value", "least", "most"] ds
  f_added : Addr
  fd_added : FuncData
  F_added : FunX K "added" "added" s_added f_added fd_added
  g_added : mg "added" = some (.ref f_added)
  b_added : Binds K fd_added ["one", "other"] []
  f_multiplied : Addr
  fd_multiplied : FuncData
  F_multiplied : FunX K "multiplied" "multiplied" s_multiplied f_multiplied fd_multiplied
  g_multiplied : mg "multiplied" = some (.ref f_multiplied)
  b_multiplied : Binds K fd_multiplied ["one", "other"] []
  f_opposite : Addr
  fd_opposite : FuncData
  F_opposite : FunX K "opposite" "opposite" s_opposite f_opposite fd_opposite
  g_opposite : mg "opposite" = some (.ref f_opposite)
  b_opposite : Binds K fd_opposite ["one"] []
  f_divided : Addr
  fd_divided : FuncData
  F_divided : FunX K "divided" "divided" s_divided f_divided fd_divided
  g_divided : mg "divided" = some (.ref f_divided)
  b_divided : Binds K fd_divided ["one", "other"] []
  f_sum_of : Addr
  fd_sum_of : FuncData
  F_sum_of : FunX K "sum_of" "sum_of" s_sum_of f_sum_of fd_sum_of
  g_sum_of : mg "sum_of" = some (.ref f_sum_of)
  b_sum_of : Binds K fd_sum_of ["numbers"] []
  f_plus : Addr
  fd_plus : FuncData
  F_plus : FunX K "plus" "plus" s_plus f_plus fd_plus
  g_plus : mg "plus" = some (.ref f_plus)
  b_plus : Binds K fd_plus ["one", "other"] []
  f_minus : Addr
  fd_minus : FuncData
  F_minus : FunX K "minus" "minus" s_minus f_minus fd_minus
  g_minus : mg "minus" = some (.ref f_minus)
  b_minus : Binds K fd_minus ["one", "other"] []
  f_times : Addr
  fd_times : FuncData
  F_times : FunX K "times" "times" s_times f_times fd_times
  g_times : mg "times" = some (.ref f_times)
  b_times : Binds K fd_times ["one", "other"] []
  f_over : Addr
  fd_over : FuncData
  F_over : FunX K "over" "over" s_over f_over fd_over
  g_over : mg "over" = some (.ref f_over)
  b_over : Binds K fd_over ["one", "other"] []
  f_compared : Addr
  fd_compared : FuncData
  F_compared : FunX K "compared" "compared" s_compared f_compared fd_compared
  g_compared : mg "compared" = some (.ref f_compared)
  b_compared : Binds K fd_compared ["one", "other"] []
  f_total : Addr
  fd_total : FuncData
  F_total : FunX K "total" "total" s_total f_total fd_total
  g_total : mg "total" = some (.ref f_total)
  b_total : Binds K fd_total ["numbers"] []
  f_power : Addr
  fd_power : FuncData
  F_power : FunX K "power" "power" s_power f_power fd_power
  g_power : mg "power" = some (.ref f_power)
  b_power : Binds K fd_power ["one", "many"] []
  f__law_dice : Addr
  fd__law_dice : FuncData
  F__law_dice : FunX K "_law_dice" "_law_dice" s__law_dice f__law_dice fd__law_dice
  g__law_dice : mg "_law_dice" = some (.ref f__law_dice)
  b__law_dice : Binds K fd__law_dice ["script", "spot"] []
  f__law_roll : Addr
  fd__law_roll : FuncData
  F__law_roll : FunX K "_law_roll" "_law_roll" s__law_roll f__law_roll fd__law_roll
  g__law_roll : mg "_law_roll" = some (.ref f__law_roll)
  b__law_roll : Binds K fd__law_roll ["dice", "many"] []
  f__law_pick : Addr
  fd__law_pick : FuncData
  F__law_pick : FunX K "_law_pick" "_law_pick" s__law_pick f__law_pick fd__law_pick
  g__law_pick : mg "_law_pick" = some (.ref f__law_pick)
  b__law_pick : Binds K fd__law_pick ["dice", "items"] []
  f__law_fr : Addr
  fd__law_fr : FuncData
  F__law_fr : FunX K "_law_fr" "_law_fr" s__law_fr f__law_fr fd__law_fr
  g__law_fr : mg "_law_fr" = some (.ref f__law_fr)
  b__law_fr : Binds K fd__law_fr ["top", "bottom"] []
  f__law_is_number : Addr
  fd__law_is_number : FuncData
  F__law_is_number : FunX K "_law_is_number" "_law_is_number" s__law_is_number f__law_is_number fd__law_is_number
  g__law_is_number : mg "_law_is_number" = some (.ref f__law_is_number)
  b__law_is_number : Binds K fd__law_is_number ["value"] []
  f__law_is_name : Addr
  fd__law_is_name : FuncData
  F__law_is_name : FunX K "_law_is_name" "_law_is_name" s__law_is_name f__law_is_name fd__law_is_name
  g__law_is_name : mg "_law_is_name" = some (.ref f__law_is_name)
  b__law_is_name : Binds K fd__law_is_name ["value"] []
  f__law_some : Addr
  fd__law_some : FuncData
  F__law_some : FunX K "_law_some" "_law_some" s__law_some f__law_some fd__law_some
  g__law_some : mg "_law_some" = some (.ref f__law_some)
  b__law_some : Binds K fd__law_some ["dice"] []
  f__law_right : Addr
  fd__law_right : FuncData
  F__law_right : FunX K "_law_right" "_law_right" s__law_right f__law_right fd__law_right
  g__law_right : mg "_law_right" = some (.ref f__law_right)
  b__law_right : Binds K fd__law_right ["dice"] []
  f_law : Addr
  fd_law : FuncData
  F_law : FunX K "law" "law" s_law f_law fd_law
  g_law : mg "law" = some (.ref f_law)
  b_law : Binds K fd_law ["script"] []
  n_abs : mg "abs" = none
  n_all : mg "all" = none
  n_bool : mg "bool" = none
  n_int : mg "int" = none
  n_isinstance : mg "isinstance" = none
  n_len : mg "len" = none
  n_max : mg "max" = none
  n_min : mg "min" = none
  n_range : mg "range" = none
  n_repr : mg "repr" = none
  n_str : mg "str" = none
  n_tuple : mg "tuple" = none
  k_LETTERS : GlD K mg "LETTERS" (.str "abcdefghijklmnopqrstuvwxyz")
  k_MAX_LETTERS : GlD K mg "MAX_LETTERS" (.int 12)
  k_MOST_PASSED : GlD K mg "MOST_PASSED" (.int (10 ^ 40))
  k_NOUGHT : GlD K mg "NOUGHT" (.tuple [.int 0, .int 1])
  k_ONE : GlD K mg "ONE" (.tuple [.int 1, .int 1])
  k_SIGNS : GlD K mg "SIGNS" (.str ("abcdefghijklmnopqrstuvwxyz0123456789."))
  lc__law_right : ∃ c tb : Addr, TabB base mg c tb ∧ fd__law_right.code = .ref c ∧ (tb, (("_law_right" : Str) ++ ".<locals>.") ++ "<lambda>") ∈ Tb.C ∧ ∀ r ∈ Tb.C, r.1 = tb → r.2 = (("_law_right" : Str) ++ ".<locals>.") ++ "<lambda>"
  lc_law : ∃ c tb : Addr, TabB base mg c tb ∧ fd_law.code = .ref c ∧ (tb, (("law" : Str) ++ ".<locals>.") ++ "<lambda>") ∈ Tb.C ∧ ∀ r ∈ Tb.C, r.1 = tb → r.2 = (("law" : Str) ++ ".<locals>.") ++ "<lambda>"
section
variable [Tb]
local instance : Fr := fr0
variable {P : Program} {w : World} {K : PySem.W.Frag} {mg : Str → Option Value} {base : Heap}
theorem word__law_word (T : Tx P K mg base) : ∀ X : Cx, X.prog = P → X.K = K → X.mg = mg → X.base = base → X.A.guards = some [] → Room 3 X.A → WordF X "_law_word" "call" "fine" ["call", "error"] subK cs__law_word := by
  intro X e1 e2 e3 e4 hg hr
  subst e1 e2 e3 e4
  obtain ⟨oc, od, dV, kV, doc, pm, an, cdv, ct, osl, hfd, lk, hcd⟩ := T.F__law_word.ex
  have hb := T.b__law_word
  rw [hfd] at lk hb
  refine ⟨⟨T.f__law_word, defArgs s__law_word, defBody s__law_word, defScope s__law_word, dV, kV, doc, pm, cdv, ct, oc, an, od, osl, T.g__law_word, T.F__law_word.kp, lk, hcd, hb, sc__law_word, Or.inl rfl, ?_⟩, rfl, by decide, by decide, by decide⟩
  have hu : X.A.units + 240 < cLine := by have := hr.un; omega
  refine word_giveT T.xt (fun s H => ?_)
  exact (cl_con T.m_InvalidFraction (cl_rep (i := 1) T.m_InvalidCount T.xf hg (by show X.A.units + 3 + 200 < cLine; omega) T.n_repr sc__law_word.nd rfl (cl_rep (i := 1) T.m_Refused T.xf hg (by show X.A.units + 3 + 200 < cLine; omega) T.n_repr sc__law_word.nd rfl (.none))))
theorem ok_is_integer (T : Tx P K mg base) : FnG P w K mg base 1 T.f_is_integer T.fd_is_integer ["value"] (spP K mg c_is_integer) := by
  refine fnP_of (N := ["value"]) T.F_is_integer sc_is_integer (by decide) fun X hX hr hg hp E tk => ?_
  obtain ⟨A, outer, s, H, E0, rfl⟩ := hX
  refine evss_one ?_
  refine evs_ret ?_
  refine ev_and ?_ ?_
  · refine ev_isi ?_ tab_int T.n_isinstance T.n_int (by decide +kernel)
    exact ev_name 0
  · refine ev_one ?_
    refine ev_not ?_
    refine ev_isi ?_ tab_bool T.n_isinstance T.n_bool (by decide +kernel)
    exact ev_name 0
theorem ok_is_name (T : Tx P K mg base) : FnG P w K mg base 1 T.f_is_name T.fd_is_name ["value"] (spP K mg c_is_name) := by
  refine fnP_of (N := ["value", "sign"]) T.F_is_name sc_is_name (by decide) fun X hX hr hg hp E tk => ?_
  obtain ⟨A, outer, s, H, E0, rfl⟩ := hX
  refine evss_cons ?_ ?_
  · refine evs_if ?_ ?_ ?_
    · refine evt_w ?_
      refine evt_orC ?_ ?_
      · refine evt_not ?_
        refine evt_truth ?_
        refine ev_isi ?_ tab_str T.n_isinstance T.n_str (by decide +kernel)
        exact ev_name 0
      · refine evt_orC ?_ ?_
        · refine evt_not ?_
          refine evt_chain ov_le ov_le ?_ ?_ ?_
          · exact ev_int
          · refine ev_callB cv_len T.n_len (by decide +kernel) ?_
            refine eva_cons ?_ ?_
            · exact ev_name 0
            · exact eva_nil
          · exact ev_glob T.k_MAX_LETTERS
        · refine evt_or1 ?_
          refine evt_cmp ov_notIn ?_ ?_
          · refine ev_ix ?_ ?_
            · exact ev_name 0
            · exact ev_int
          · exact ev_glob T.k_LETTERS
    · refine evss_one ?_
      refine evs_ret ?_
      exact ev_bl
    · exact evss_nil
  · refine evss_one ?_
    refine evs_ret ?_
    refine ev_callB (cv_all (by rfl)) T.n_all (by decide +kernel) ?_
    refine eva_cons ?_ ?_
    · refine ev_lst ?_
      refine evf_lc (own := [("sign", 1)]) (sl := [1]) (by rfl) sc_is_name.nd ?_ (blkOk_by (own := [("sign", 1)]) (N := ["value", "sign"]) (sc := defScope s_is_name) (by decide +kernel)) ?_ ?_ ?_
      · refine evi_val ?_
        exact ev_name 0
      · intro _ _ _ _ _
        exact evg_name 1 sc_is_name.nd
      · intro _ _ _ _ _
        exact evts_nil
      · intro _ _ _ _ _
        refine ev_cmp ov_in ?_ ?_
        · exact ev_name 1
        · exact ev_glob T.k_SIGNS
    · exact eva_nil
theorem ok_common_divisor (T : Tx P K mg base) : FnG P w K mg base 1 T.f_common_divisor T.fd_common_divisor ["one", "other"] (spP K mg c_common_divisor) := by
  refine fnP_of (N := ["one", "other"]) T.F_common_divisor sc_common_divisor (by decide) fun X hX hr hg hp E tk => ?_
  obtain ⟨A, outer, s, H, E0, rfl⟩ := hX
  refine evss_cons ?_ ?_
  · refine evs_par2 0 1 (by rfl) sc_common_divisor.nd ?_
    refine eva_cons ?_ ?_
    · refine ev_callB cv_abs T.n_abs (by decide +kernel) ?_
      refine eva_cons ?_ ?_
      · exact ev_name 0
      · exact eva_nil
    · refine eva_cons ?_ ?_
      · refine ev_callB cv_abs T.n_abs (by decide +kernel) ?_
        refine eva_cons ?_ ?_
        · exact ev_name 1
        · exact eva_nil
      · exact eva_nil
  · refine evss_cons ?_ ?_
    · refine evs_while (muAbs 1) hp ?_ ?_
      · refine evt_cmp ov_gt ?_ ?_
        · exact ev_name 1
        · exact ev_int
      · refine evss_one ?_
        refine evs_par2 0 1 (by rfl) sc_common_divisor.nd ?_
        refine eva_cons ?_ ?_
        · exact ev_name 1
        · refine eva_cons ?_ ?_
          · refine ev_op ov_mod ?_ ?_
            · exact ev_name 0
            · exact ev_name 1
          · exact eva_nil
    · refine evss_one ?_
      refine evs_ret ?_
      exact ev_name 0
theorem ok_is_number (T : Tx P K mg base) : FnG P w K mg base 2 T.f_is_number T.fd_is_number ["value"] (spP K mg c_is_number) := by
  refine fnP_of (N := ["value", "one"]) T.F_is_number sc_is_number (by decide) fun X hX hr hg hp E tk => ?_
  obtain ⟨A, outer, s, H, E0, rfl⟩ := hX
  refine evss_cons ?_ ?_
  · refine evs_if ?_ ?_ ?_
    · refine evt_w ?_
      refine evt_orC ?_ ?_
      · refine evt_not ?_
        refine evt_truth ?_
        refine ev_isi ?_ tab_tuple T.n_isinstance T.n_tuple (by decide +kernel)
        exact ev_name 0
      · refine evt_orC ?_ ?_
        · refine evt_cmp (ov_ne hr.units) ?_ ?_
          · refine ev_callB cv_len T.n_len (by decide +kernel) ?_
            refine eva_cons ?_ ?_
            · exact ev_name 0
            · exact eva_nil
          · exact ev_int
        · refine evt_or1 ?_
          refine evt_not ?_
          refine evt_truth ?_
          refine ev_callB (cv_all (by rfl)) T.n_all (by decide +kernel) ?_
          refine eva_cons ?_ ?_
          · refine ev_lst ?_
            refine evf_lc (own := [("one", 1)]) (sl := [1]) (by rfl) sc_is_number.nd ?_ (blkOk_by (own := [("one", 1)]) (N := ["value", "one"]) (sc := defScope s_is_number) (by decide +kernel)) ?_ ?_ ?_
            · refine evi_val ?_
              exact ev_name 0
            · intro _ _ _ _ _
              exact evg_name 1 sc_is_number.nd
            · intro _ _ _ _ _
              exact evts_nil
            · intro _ _ _ _ _
              refine ev_call (ok_is_integer T) (hr.mono (by decide)) hg takes_no T.g_is_integer T.F_is_integer.kp T.b_is_integer .nil (fun _ => .nil) ?_
              refine eva_cons ?_ ?_
              · exact ev_name 1
              · exact eva_nil
          · exact eva_nil
    · refine evss_one ?_
      refine evs_ret ?_
      exact ev_bl
    · exact evss_nil
  · refine evss_one ?_
    refine evs_ret ?_
    refine ev_and ?_ ?_
    · refine ev_cmp ov_ge ?_ ?_
      · refine ev_ix ?_ ?_
        · exact ev_name 0
        · exact ev_int
      · exact ev_int
    · refine ev_one ?_
      refine ev_cmp (ov_eq hr.units) ?_ ?_
      · refine ev_call (ok_common_divisor T) (hr.mono (by decide)) hg tk T.g_common_divisor T.F_common_divisor.kp T.b_common_divisor .nil (fun _ => .nil) ?_
        refine eva_cons ?_ ?_
        · refine ev_ix ?_ ?_
          · exact ev_name 0
          · exact ev_int
        · refine eva_cons ?_ ?_
          · refine ev_ix ?_ ?_
            · exact ev_name 0
            · exact ev_int
          · exact eva_nil
      · exact ev_int
theorem ok_reduced (T : Tx P K mg base) : FnG P w K mg base 2 T.f_reduced T.fd_reduced ["top", "bottom"] (spP K mg c_reduced) := by
  refine fnP_of (N := ["top", "bottom", "divisor"]) T.F_reduced sc_reduced (by decide) fun X hX hr hg hp E tk => ?_
  obtain ⟨A, outer, s, H, E0, rfl⟩ := hX
  refine evss_cons ?_ ?_
  · refine evs_if ?_ ?_ ?_
    · refine evt_cmp ov_lt ?_ ?_
      · exact ev_name 1
      · exact ev_int
    · refine evss_one ?_
      refine evs_par2 0 1 (by rfl) sc_reduced.nd ?_
      refine eva_cons ?_ ?_
      · refine ev_op ov_sub ?_ ?_
        · exact ev_int
        · exact ev_name 0
      · refine eva_cons ?_ ?_
        · refine ev_op ov_sub ?_ ?_
          · exact ev_int
          · exact ev_name 1
        · exact eva_nil
    · exact evss_nil
  · refine evss_cons ?_ ?_
    · refine evs_set 2 ?_ sc_reduced.nd
      refine ev_call (ok_common_divisor T) (hr.mono (by decide)) hg tk T.g_common_divisor T.F_common_divisor.kp T.b_common_divisor .nil (fun _ => .nil) ?_
      refine eva_cons ?_ ?_
      · exact ev_name 0
      · refine eva_cons ?_ ?_
        · exact ev_name 1
        · exact eva_nil
    · refine evss_one ?_
      refine evs_ret ?_
      refine ev_tup ?_
      refine eva_cons ?_ ?_
      · refine ev_op ov_fdiv ?_ ?_
        · exact ev_name 0
        · exact ev_name 2
      · refine eva_cons ?_ ?_
        · refine ev_op ov_fdiv ?_ ?_
          · exact ev_name 1
          · exact ev_name 2
        · exact eva_nil
theorem ok_number (T : Tx P K mg base) : FnG P w K mg base 3 T.f_number T.fd_number ["top", "bottom"] (spP K mg c_number) := by
  refine fnP_of (N := ["top", "bottom"]) T.F_number sc_number (by decide) fun X hX hr hg hp E tk => ?_
  obtain ⟨A, outer, s, H, E0, rfl⟩ := hX
  refine evss_cons ?_ ?_
  · refine evs_if ?_ ?_ ?_
    · refine evt_w ?_
      refine evt_orC ?_ ?_
      · refine evt_not ?_
        refine evt_truth ?_
        refine ev_call (ok_is_integer T) (hr.mono (by decide)) hg tk T.g_is_integer T.F_is_integer.kp T.b_is_integer .nil (fun _ => .nil) ?_
        refine eva_cons ?_ ?_
        · exact ev_name 0
        · exact eva_nil
      · refine evt_or1 ?_
        refine evt_cmp ov_ge ?_ ?_
        · refine ev_callB cv_abs T.n_abs (by decide +kernel) ?_
          refine eva_cons ?_ ?_
          · exact ev_name 0
          · exact eva_nil
        · exact ev_glob T.k_MOST_PASSED
    · refine evss_one ?_
      refine evs_raiseN (k := 0) T.r_InvalidCount hg (hr.mono (by decide)) tk (eva_cons ?_ eva_nil)
      exact ev_name 0
    · exact evss_nil
  · refine evss_cons ?_ ?_
    · refine evs_if ?_ ?_ ?_
      · refine evt_w ?_
        refine evt_orC ?_ ?_
        · refine evt_not ?_
          refine evt_truth ?_
          refine ev_call (ok_is_integer T) (hr.mono (by decide)) hg tk T.g_is_integer T.F_is_integer.kp T.b_is_integer .nil (fun _ => .nil) ?_
          refine eva_cons ?_ ?_
          · exact ev_name 1
          · exact eva_nil
        · refine evt_orC ?_ ?_
          · refine evt_cmp ov_ge ?_ ?_
            · refine ev_callB cv_abs T.n_abs (by decide +kernel) ?_
              refine eva_cons ?_ ?_
              · exact ev_name 1
              · exact eva_nil
            · exact ev_glob T.k_MOST_PASSED
          · refine evt_or1 ?_
            refine evt_cmp (ov_eq hr.units) ?_ ?_
            · exact ev_name 1
            · exact ev_int
      · refine evss_one ?_
        refine evs_raiseN (k := 0) T.r_InvalidCount hg (hr.mono (by decide)) tk (eva_cons ?_ eva_nil)
        exact ev_name 1
      · exact evss_nil
    · refine evss_one ?_
      refine evs_ret ?_
      refine ev_call (ok_reduced T) (hr.mono (by decide)) hg tk T.g_reduced T.F_reduced.kp T.b_reduced .nil (fun _ => .nil) ?_
      refine eva_cons ?_ ?_
      · exact ev_name 0
      · refine eva_cons ?_ ?_
        · exact ev_name 1
        · exact eva_nil
theorem ok_require_number (T : Tx P K mg base) : FnG P w K mg base 3 T.f_require_number T.fd_require_number ["value"] (spP K mg c_require_number) := by
  refine fnP_of (N := ["value"]) T.F_require_number sc_require_number (by decide) fun X hX hr hg hp E tk => ?_
  obtain ⟨A, outer, s, H, E0, rfl⟩ := hX
  refine evss_one ?_
  refine evs_if ?_ ?_ ?_
  · refine evt_not ?_
    refine evt_truth ?_
    refine ev_call (ok_is_number T) (hr.mono (by decide)) hg tk T.g_is_number T.F_is_number.kp T.b_is_number .nil (fun _ => .nil) ?_
    refine eva_cons ?_ ?_
    · exact ev_name 0
    · exact eva_nil
  · refine evss_one ?_
    exact evs_raiseC T.r_InvalidFraction tk
  · exact evss_nil
theorem ok_require_count (T : Tx P K mg base) : FnG P w K mg base 3 T.f_require_count T.fd_require_count ["value", "least", "most"] (spP K mg c_require_count) := by
  refine fnP_of (N := ["value", "least", "most"]) T.F_require_count sc_require_count (by decide) fun X hX hr hg hp E tk => ?_
  obtain ⟨A, outer, s, H, E0, rfl⟩ := hX
  refine evss_one ?_
  refine evs_if ?_ ?_ ?_
  · refine evt_w ?_
    refine evt_orC ?_ ?_
    · refine evt_not ?_
      refine evt_truth ?_
      refine ev_call (ok_is_integer T) (hr.mono (by decide)) hg tk T.g_is_integer T.F_is_integer.kp T.b_is_integer .nil (fun _ => .nil) ?_
      refine eva_cons ?_ ?_
      · exact ev_name 0
      · exact eva_nil
    · refine evt_or1 ?_
      refine evt_not ?_
      refine evt_chain ov_le ov_le ?_ ?_ ?_
      · exact ev_name 1
      · exact ev_name 0
      · exact ev_name 2
  · refine evss_one ?_
    refine evs_raiseN (k := 0) T.r_InvalidCount hg (hr.mono (by decide)) tk (eva_cons ?_ eva_nil)
    exact ev_name 0
  · exact evss_nil
theorem ok_added (T : Tx P K mg base) : FnG P w K mg base 3 T.f_added T.fd_added ["one", "other"] (spP K mg c_added) := by
  refine fnP_of (N := ["one", "other"]) T.F_added sc_added (by decide) fun X hX hr hg hp E tk => ?_
  obtain ⟨A, outer, s, H, E0, rfl⟩ := hX
  refine evss_cons ?_ ?_
  · refine evs_if ?_ ?_ ?_
    · refine evt_chain (ov_eq hr.units) (ov_eq hr.units) ?_ ?_ ?_
      · refine ev_ix ?_ ?_
        · exact ev_name 0
        · exact ev_int
      · refine ev_ix ?_ ?_
        · exact ev_name 1
        · exact ev_int
      · exact ev_int
    · refine evss_one ?_
      refine evs_ret ?_
      refine ev_tup ?_
      refine eva_cons ?_ ?_
      · refine ev_op ov_add ?_ ?_
        · refine ev_ix ?_ ?_
          · exact ev_name 0
          · exact ev_int
        · refine ev_ix ?_ ?_
          · exact ev_name 1
          · exact ev_int
      · refine eva_cons ?_ ?_
        · exact ev_int
        · exact eva_nil
    · exact evss_nil
  · refine evss_one ?_
    refine evs_ret ?_
    refine ev_call (ok_reduced T) (hr.mono (by decide)) hg tk T.g_reduced T.F_reduced.kp T.b_reduced .nil (fun _ => .nil) ?_
    refine eva_cons ?_ ?_
    · refine ev_op ov_add ?_ ?_
      · refine ev_op ov_mul ?_ ?_
        · refine ev_ix ?_ ?_
          · exact ev_name 0
          · exact ev_int
        · refine ev_ix ?_ ?_
          · exact ev_name 1
          · exact ev_int
      · refine ev_op ov_mul ?_ ?_
        · refine ev_ix ?_ ?_
          · exact ev_name 1
          · exact ev_int
        · refine ev_ix ?_ ?_
          · exact ev_name 0
          · exact ev_int
    · refine eva_cons ?_ ?_
      · refine ev_op ov_mul ?_ ?_
        · refine ev_ix ?_ ?_
          · exact ev_name 0
          · exact ev_int
        · refine ev_ix ?_ ?_
          · exact ev_name 1
          · exact ev_int
      · exact eva_nil
theorem ok_multiplied (T : Tx P K mg base) : FnG P w K mg base 3 T.f_multiplied T.fd_multiplied ["one", "other"] (spP K mg c_multiplied) := by
  refine fnP_of (N := ["one", "other"]) T.F_multiplied sc_multiplied (by decide) fun X hX hr hg hp E tk => ?_
  obtain ⟨A, outer, s, H, E0, rfl⟩ := hX
  refine evss_cons ?_ ?_
  · refine evs_if ?_ ?_ ?_
    · refine evt_chain (ov_eq hr.units) (ov_eq hr.units) ?_ ?_ ?_
      · refine ev_ix ?_ ?_
        · exact ev_name 0
        · exact ev_int
      · refine ev_ix ?_ ?_
        · exact ev_name 1
        · exact ev_int
      · exact ev_int
    · refine evss_one ?_
      refine evs_ret ?_
      refine ev_tup ?_
      refine eva_cons ?_ ?_
      · refine ev_op ov_mul ?_ ?_
        · refine ev_ix ?_ ?_
          · exact ev_name 0
          · exact ev_int
        · refine ev_ix ?_ ?_
          · exact ev_name 1
          · exact ev_int
      · refine eva_cons ?_ ?_
        · exact ev_int
        · exact eva_nil
    · exact evss_nil
  · refine evss_one ?_
    refine evs_ret ?_
    refine ev_call (ok_reduced T) (hr.mono (by decide)) hg tk T.g_reduced T.F_reduced.kp T.b_reduced .nil (fun _ => .nil) ?_
    refine eva_cons ?_ ?_
    · refine ev_op ov_mul ?_ ?_
      · refine ev_ix ?_ ?_
        · exact ev_name 0
        · exact ev_int
      · refine ev_ix ?_ ?_
        · exact ev_name 1
        · exact ev_int
    · refine eva_cons ?_ ?_
      · refine ev_op ov_mul ?_ ?_
        · refine ev_ix ?_ ?_
          · exact ev_name 0
          · exact ev_int
        · refine ev_ix ?_ ?_
          · exact ev_name 1
          · exact ev_int
      · exact eva_nil
theorem ok_opposite (T : Tx P K mg base) : FnG P w K mg base 1 T.f_opposite T.fd_opposite ["one"] (spP K mg c_opposite) := by
  refine fnP_of (N := ["one"]) T.F_opposite sc_opposite (by decide) fun X hX hr hg hp E tk => ?_
  obtain ⟨A, outer, s, H, E0, rfl⟩ := hX
  refine evss_one ?_
  refine evs_ret ?_
  refine ev_tup ?_
  refine eva_cons ?_ ?_
  · refine ev_op ov_sub ?_ ?_
    · exact ev_int
    · refine ev_ix ?_ ?_
      · exact ev_name 0
      · exact ev_int
  · refine eva_cons ?_ ?_
    · refine ev_ix ?_ ?_
      · exact ev_name 0
      · exact ev_int
    · exact eva_nil
theorem ok_divided (T : Tx P K mg base) : FnG P w K mg base 3 T.f_divided T.fd_divided ["one", "other"] (spP K mg c_divided) := by
  refine fnP_of (N := ["one", "other"]) T.F_divided sc_divided (by decide) fun X hX hr hg hp E tk => ?_
  obtain ⟨A, outer, s, H, E0, rfl⟩ := hX
  refine evss_one ?_
  refine evs_ret ?_
  refine ev_call (ok_reduced T) (hr.mono (by decide)) hg tk T.g_reduced T.F_reduced.kp T.b_reduced .nil (fun _ => .nil) ?_
  refine eva_cons ?_ ?_
  · refine ev_op ov_mul ?_ ?_
    · refine ev_ix ?_ ?_
      · exact ev_name 0
      · exact ev_int
    · refine ev_ix ?_ ?_
      · exact ev_name 1
      · exact ev_int
  · refine eva_cons ?_ ?_
    · refine ev_op ov_mul ?_ ?_
      · refine ev_ix ?_ ?_
        · exact ev_name 0
        · exact ev_int
      · refine ev_ix ?_ ?_
        · exact ev_name 1
        · exact ev_int
    · exact eva_nil
theorem ok_sum_of (T : Tx P K mg base) : FnG P w K mg base 4 T.f_sum_of T.fd_sum_of ["numbers"] (spP K mg c_sum_of) := by
  refine fnP_of (N := ["numbers", "found", "one"]) T.F_sum_of sc_sum_of (by decide) fun X hX hr hg hp E tk => ?_
  obtain ⟨A, outer, s, H, E0, rfl⟩ := hX
  refine evss_cons ?_ ?_
  · refine evs_set 1 ?_ sc_sum_of.nd
    exact ev_glob T.k_NOUGHT
  · refine evss_cons ?_ ?_
    · refine evs_for (sl := [2]) hp (by rfl) ?_ ?_ ?_
      · refine evi_val ?_
        exact ev_name 0
      · exact evg_name 2 sc_sum_of.nd
      · refine evss_one ?_
        refine evs_set 1 ?_ sc_sum_of.nd
        refine ev_call (ok_added T) (hr.mono (by decide)) hg tk T.g_added T.F_added.kp T.b_added .nil (fun _ => .nil) ?_
        refine eva_cons ?_ ?_
        · exact ev_name 1
        · refine eva_cons ?_ ?_
          · exact ev_name 2
          · exact eva_nil
    · refine evss_one ?_
      refine evs_ret ?_
      exact ev_name 1
theorem ok_plus (T : Tx P K mg base) : FnG P w K mg base 4 T.f_plus T.fd_plus ["one", "other"] (spP K mg c_plus) := by
  refine fnP_of (N := ["one", "other"]) T.F_plus sc_plus (by decide) fun X hX hr hg hp E tk => ?_
  obtain ⟨A, outer, s, H, E0, rfl⟩ := hX
  refine evss_cons ?_ ?_
  · refine evs_expr ?_
    refine ev_call (ok_require_number T) (hr.mono (by decide)) hg tk T.g_require_number T.F_require_number.kp T.b_require_number .nil (fun _ => .nil) ?_
    refine eva_cons ?_ ?_
    · exact ev_name 0
    · exact eva_nil
  · refine evss_cons ?_ ?_
    · refine evs_expr ?_
      refine ev_call (ok_require_number T) (hr.mono (by decide)) hg tk T.g_require_number T.F_require_number.kp T.b_require_number .nil (fun _ => .nil) ?_
      refine eva_cons ?_ ?_
      · exact ev_name 1
      · exact eva_nil
    · refine evss_one ?_
      refine evs_ret ?_
      refine ev_call (ok_added T) (hr.mono (by decide)) hg tk T.g_added T.F_added.kp T.b_added .nil (fun _ => .nil) ?_
      refine eva_cons ?_ ?_
      · exact ev_name 0
      · refine eva_cons ?_ ?_
        · exact ev_name 1
        · exact eva_nil
theorem ok_minus (T : Tx P K mg base) : FnG P w K mg base 4 T.f_minus T.fd_minus ["one", "other"] (spP K mg c_minus) := by
  refine fnP_of (N := ["one", "other"]) T.F_minus sc_minus (by decide) fun X hX hr hg hp E tk => ?_
  obtain ⟨A, outer, s, H, E0, rfl⟩ := hX
  refine evss_cons ?_ ?_
  · refine evs_expr ?_
    refine ev_call (ok_require_number T) (hr.mono (by decide)) hg tk T.g_require_number T.F_require_number.kp T.b_require_number .nil (fun _ => .nil) ?_
    refine eva_cons ?_ ?_
    · exact ev_name 0
    · exact eva_nil
  · refine evss_cons ?_ ?_
    · refine evs_expr ?_
      refine ev_call (ok_require_number T) (hr.mono (by decide)) hg tk T.g_require_number T.F_require_number.kp T.b_require_number .nil (fun _ => .nil) ?_
      refine eva_cons ?_ ?_
      · exact ev_name 1
      · exact eva_nil
    · refine evss_one ?_
      refine evs_ret ?_
      refine ev_call (ok_added T) (hr.mono (by decide)) hg tk T.g_added T.F_added.kp T.b_added .nil (fun _ => .nil) ?_
      refine eva_cons ?_ ?_
      · exact ev_name 0
      · refine eva_cons ?_ ?_
        · refine ev_call (ok_opposite T) (hr.mono (by decide)) hg tk T.g_opposite T.F_opposite.kp T.b_opposite .nil (fun _ => .nil) ?_
          refine eva_cons ?_ ?_
          · exact ev_name 1
          · exact eva_nil
        · exact eva_nil
theorem ok_times (T : Tx P K mg base) : FnG P w K mg base 4 T.f_times T.fd_times ["one", "other"] (spP K mg c_times) := by
  refine fnP_of (N := ["one", "other"]) T.F_times sc_times (by decide) fun X hX hr hg hp E tk => ?_
  obtain ⟨A, outer, s, H, E0, rfl⟩ := hX
  refine evss_cons ?_ ?_
  · refine evs_expr ?_
    refine ev_call (ok_require_number T) (hr.mono (by decide)) hg tk T.g_require_number T.F_require_number.kp T.b_require_number .nil (fun _ => .nil) ?_
    refine eva_cons ?_ ?_
    · exact ev_name 0
    · exact eva_nil
  · refine evss_cons ?_ ?_
    · refine evs_expr ?_
      refine ev_call (ok_require_number T) (hr.mono (by decide)) hg tk T.g_require_number T.F_require_number.kp T.b_require_number .nil (fun _ => .nil) ?_
      refine eva_cons ?_ ?_
      · exact ev_name 1
      · exact eva_nil
    · refine evss_one ?_
      refine evs_ret ?_
      refine ev_call (ok_multiplied T) (hr.mono (by decide)) hg tk T.g_multiplied T.F_multiplied.kp T.b_multiplied .nil (fun _ => .nil) ?_
      refine eva_cons ?_ ?_
      · exact ev_name 0
      · refine eva_cons ?_ ?_
        · exact ev_name 1
        · exact eva_nil
theorem ok_over (T : Tx P K mg base) : FnG P w K mg base 4 T.f_over T.fd_over ["one", "other"] (spP K mg c_over) := by
  refine fnP_of (N := ["one", "other"]) T.F_over sc_over (by decide) fun X hX hr hg hp E tk => ?_
  obtain ⟨A, outer, s, H, E0, rfl⟩ := hX
  refine evss_cons ?_ ?_
  · refine evs_expr ?_
    refine ev_call (ok_require_number T) (hr.mono (by decide)) hg tk T.g_require_number T.F_require_number.kp T.b_require_number .nil (fun _ => .nil) ?_
    refine eva_cons ?_ ?_
    · exact ev_name 0
    · exact eva_nil
  · refine evss_cons ?_ ?_
    · refine evs_expr ?_
      refine ev_call (ok_require_number T) (hr.mono (by decide)) hg tk T.g_require_number T.F_require_number.kp T.b_require_number .nil (fun _ => .nil) ?_
      refine eva_cons ?_ ?_
      · exact ev_name 1
      · exact eva_nil
    · refine evss_cons ?_ ?_
      · refine evs_if ?_ ?_ ?_
        · refine evt_cmp (ov_eq hr.units) ?_ ?_
          · exact ev_name 1
          · exact ev_glob T.k_NOUGHT
        · refine evss_one ?_
          refine evs_raiseN (k := 0) T.r_Refused hg (hr.mono (by decide)) tk (eva_cons ?_ eva_nil)
          refine ev_tup ?_
          refine eva_cons ?_ ?_
          · exact ev_str
          · exact eva_nil
        · exact evss_nil
      · refine evss_one ?_
        refine evs_ret ?_
        refine ev_call (ok_divided T) (hr.mono (by decide)) hg tk T.g_divided T.F_divided.kp T.b_divided .nil (fun _ => .nil) ?_
        refine eva_cons ?_ ?_
        · exact ev_name 0
        · refine eva_cons ?_ ?_
          · exact ev_name 1
          · exact eva_nil
theorem ok_compared (T : Tx P K mg base) : FnG P w K mg base 4 T.f_compared T.fd_compared ["one", "other"] (spP K mg c_compared) := by
  refine fnP_of (N := ["one", "other", "left", "right"]) T.F_compared sc_compared (by decide) fun X hX hr hg hp E tk => ?_
  obtain ⟨A, outer, s, H, E0, rfl⟩ := hX
  refine evss_cons ?_ ?_
  · refine evs_expr ?_
    refine ev_call (ok_require_number T) (hr.mono (by decide)) hg tk T.g_require_number T.F_require_number.kp T.b_require_number .nil (fun _ => .nil) ?_
    refine eva_cons ?_ ?_
    · exact ev_name 0
    · exact eva_nil
  · refine evss_cons ?_ ?_
    · refine evs_expr ?_
      refine ev_call (ok_require_number T) (hr.mono (by decide)) hg tk T.g_require_number T.F_require_number.kp T.b_require_number .nil (fun _ => .nil) ?_
      refine eva_cons ?_ ?_
      · exact ev_name 1
      · exact eva_nil
    · refine evss_cons ?_ ?_
      · refine evs_par2 2 3 (by rfl) sc_compared.nd ?_
        refine eva_cons ?_ ?_
        · refine ev_op ov_mul ?_ ?_
          · refine ev_ix ?_ ?_
            · exact ev_name 0
            · exact ev_int
          · refine ev_ix ?_ ?_
            · exact ev_name 1
            · exact ev_int
        · refine eva_cons ?_ ?_
          · refine ev_op ov_mul ?_ ?_
            · refine ev_ix ?_ ?_
              · exact ev_name 1
              · exact ev_int
            · refine ev_ix ?_ ?_
              · exact ev_name 0
              · exact ev_int
          · exact eva_nil
      · refine evss_one ?_
        refine evs_ret ?_
        refine ev_op ov_sub ?_ ?_
        · refine ev_callTy cv_int T.n_int (by decide +kernel) ?_
          refine eva_cons ?_ ?_
          · refine ev_cmp ov_gt ?_ ?_
            · exact ev_name 2
            · exact ev_name 3
          · exact eva_nil
        · refine ev_callTy cv_int T.n_int (by decide +kernel) ?_
          refine eva_cons ?_ ?_
          · refine ev_cmp ov_lt ?_ ?_
            · exact ev_name 2
            · exact ev_name 3
          · exact eva_nil
theorem ok_total (T : Tx P K mg base) : FnG P w K mg base 5 T.f_total T.fd_total ["numbers"] (spP K mg c_total) := by
  refine fnP_of (N := ["numbers", "one"]) T.F_total sc_total (by decide) fun X hX hr hg hp E tk => ?_
  obtain ⟨A, outer, s, H, E0, rfl⟩ := hX
  refine evss_cons ?_ ?_
  · refine evs_if ?_ ?_ ?_
    · refine evt_w ?_
      refine evt_orC ?_ ?_
      · refine evt_not ?_
        refine evt_truth ?_
        refine ev_isi ?_ tab_tuple T.n_isinstance T.n_tuple (by decide +kernel)
        exact ev_name 0
      · refine evt_or1 ?_
        refine evt_not ?_
        refine evt_truth ?_
        refine ev_callB (cv_all (by rfl)) T.n_all (by decide +kernel) ?_
        refine eva_cons ?_ ?_
        · refine ev_lst ?_
          refine evf_lc (own := [("one", 1)]) (sl := [1]) (by rfl) sc_total.nd ?_ (blkOk_by (own := [("one", 1)]) (N := ["numbers", "one"]) (sc := defScope s_total) (by decide +kernel)) ?_ ?_ ?_
          · refine evi_val ?_
            exact ev_name 0
          · intro _ _ _ _ _
            exact evg_name 1 sc_total.nd
          · intro _ _ _ _ _
            exact evts_nil
          · intro _ _ _ _ _
            refine ev_call (ok_is_number T) (hr.mono (by decide)) hg takes_no T.g_is_number T.F_is_number.kp T.b_is_number .nil (fun _ => .nil) ?_
            refine eva_cons ?_ ?_
            · exact ev_name 1
            · exact eva_nil
        · exact eva_nil
    · refine evss_one ?_
      exact evs_raiseC T.r_InvalidFraction tk
    · exact evss_nil
  · refine evss_one ?_
    refine evs_ret ?_
    refine ev_call (ok_sum_of T) (hr.mono (by decide)) hg tk T.g_sum_of T.F_sum_of.kp T.b_sum_of .nil (fun _ => .nil) ?_
    refine eva_cons ?_ ?_
    · exact ev_name 0
    · exact eva_nil
theorem ok_power (T : Tx P K mg base) : FnG P w K mg base 4 T.f_power T.fd_power ["one", "many"] (spP K mg c_power) := by
  refine fnP_of (N := ["one", "many", "found", "_"]) T.F_power sc_power (by decide) fun X hX hr hg hp E tk => ?_
  obtain ⟨A, outer, s, H, E0, rfl⟩ := hX
  refine evss_cons ?_ ?_
  · refine evs_expr ?_
    refine ev_call (ok_require_number T) (hr.mono (by decide)) hg tk T.g_require_number T.F_require_number.kp T.b_require_number .nil (fun _ => .nil) ?_
    refine eva_cons ?_ ?_
    · exact ev_name 0
    · exact eva_nil
  · refine evss_cons ?_ ?_
    · refine evs_expr ?_
      refine ev_call (ok_require_count T) (hr.mono (by decide)) hg tk T.g_require_count T.F_require_count.kp T.b_require_count_1.choose_spec.2 T.b_require_count_1.choose_spec.1 (dq_require_count_1) ?_
      refine eva_cons ?_ ?_
      · exact ev_name 1
      · exact eva_nil
    · refine evss_cons ?_ ?_
      · refine evs_set 2 ?_ sc_power.nd
        exact ev_glob T.k_ONE
      · refine evss_cons ?_ ?_
        · refine evs_for (sl := [3]) hp (by rfl) ?_ ?_ ?_
          · refine evi_rng1 T.n_range ?_
            exact ev_name 1
          · exact evg_name 3 sc_power.nd
          · refine evss_one ?_
            refine evs_set 2 ?_ sc_power.nd
            refine ev_call (ok_multiplied T) (hr.mono (by decide)) hg tk T.g_multiplied T.F_multiplied.kp T.b_multiplied .nil (fun _ => .nil) ?_
            refine eva_cons ?_ ?_
            · exact ev_name 2
            · refine eva_cons ?_ ?_
              · exact ev_name 0
              · exact eva_nil
        · refine evss_one ?_
          refine evs_ret ?_
          exact ev_name 2
theorem ok__law_dice (T : Tx P K mg base) : FnG P w K mg base 1 T.f__law_dice T.fd__law_dice ["script", "spot"] (spP K mg c__law_dice) := by
  refine fnP_of (N := ["script", "spot", "cell", "great", "seed"]) T.F__law_dice sc__law_dice (by decide) fun X hX hr hg hp E tk => ?_
  obtain ⟨A, outer, s, H, E0, rfl⟩ := hX
  refine evss_cons ?_ ?_
  · refine evs_set 2 ?_ sc__law_dice.nd
    refine ev_ifExp ?_ ?_ ?_
    · refine evt_cmp ov_lt ?_ ?_
      · exact ev_name 1
      · refine ev_callB cv_len T.n_len (by decide +kernel) ?_
        refine eva_cons ?_ ?_
        · exact ev_name 0
        · exact eva_nil
    · refine ev_callTy cv_int T.n_int (by decide +kernel) ?_
      refine eva_cons ?_ ?_
      · refine ev_ix ?_ ?_
        · exact ev_name 0
        · exact ev_name 1
      · exact eva_nil
    · refine ev_op ov_add ?_ ?_
      · refine ev_op ov_mul ?_ ?_
        · exact ev_int
        · exact ev_name 1
      · exact ev_int
  · refine evss_cons ?_ ?_
    · refine evs_set 3 ?_ sc__law_dice.nd
      refine ev_op ov_mod ?_ ?_
      · refine ev_callTy cv_int T.n_int (by decide +kernel) ?_
        refine eva_cons ?_ ?_
        · refine ev_callB cv_abs T.n_abs (by decide +kernel) ?_
          refine eva_cons ?_ ?_
          · exact ev_name 2
          · exact eva_nil
        · exact eva_nil
      · refine ev_op ov_pow ?_ ?_
        · refine ev_op ov_pow ?_ ?_
          · exact ev_int
          · exact ev_int
        · exact ev_int
    · refine evss_cons ?_ ?_
      · refine evs_set 4 ?_ sc__law_dice.nd
        refine ev_op ov_add ?_ ?_
        · refine ev_op ov_add ?_ ?_
          · refine ev_op ov_add ?_ ?_
            · refine ev_op ov_mul ?_ ?_
              · refine ev_op ov_mod ?_ ?_
                · exact ev_name 3
                · exact ev_int
              · exact ev_int
            · refine ev_op ov_mul ?_ ?_
              · exact ev_int
              · exact ev_name 1
          · refine ev_op ov_mul ?_ ?_
            · exact ev_int
            · refine ev_callTy cv_int T.n_int (by decide +kernel) ?_
              refine eva_cons ?_ ?_
              · refine ev_cmp ov_lt ?_ ?_
                · exact ev_name 2
                · exact ev_int
              · exact eva_nil
        · exact ev_int
      · refine evss_one ?_
        refine evs_retF ?_
        refine evf_lst ?_
        refine eva_cons ?_ ?_
        · refine ev_callB (cv_max (by rfl)) T.n_max (by decide +kernel) ?_
          refine eva_cons ?_ ?_
          · exact ev_int
          · refine eva_cons ?_ ?_
            · refine ev_op ov_sub ?_ ?_
              · exact ev_name 3
              · refine ev_op ov_pow ?_ ?_
                · exact ev_int
                · exact ev_int
            · exact eva_nil
        · refine eva_cons ?_ ?_
          · exact ev_name 4
          · refine eva_cons ?_ ?_
            · exact ev_int
            · exact eva_nil
theorem ok__law_roll (T : Tx P K mg base) : FnG P w K mg base 1 T.f__law_roll T.fd__law_roll ["dice", "many"] (spB K c__law_roll) := by
  refine fnB_of (N := ["dice", "many", "found", "one", "two"]) T.F__law_roll sc__law_roll (by decide) fun X hX hr hg hp E tk => ?_
  obtain ⟨A, outer, s, H, E0, rfl⟩ := hX
  refine evss_cons ?_ ?_
  · refine evs_if ?_ ?_ ?_
    · refine evt_cmp ov_gt ?_ ?_
      · refine ev_ixO 0 ?_
        exact ev_int
      · exact ev_int
    · refine evss_cons ?_ ?_
      · refine evs_set 2 ?_ sc__law_roll.nd
        refine ev_op ov_mod ?_ ?_
        · refine ev_ixO 0 ?_
          exact ev_int
        · exact ev_name 1
      · refine evss_cons ?_ ?_
        · refine evs_put 0 ?_ ?_
          · refine ev_op ov_fdiv ?_ ?_
            · refine ev_ixO 0 ?_
              exact ev_int
            · exact ev_name 1
          · exact ev_int
        · refine evss_one ?_
          refine evs_ret ?_
          refine ev_callTy cv_int T.n_int (by decide +kernel) ?_
          refine eva_cons ?_ ?_
          · exact ev_name 2
          · exact eva_nil
    · exact evss_nil
  · refine evss_cons ?_ ?_
    · refine evs_put 0 ?_ ?_
      · refine ev_op ov_add ?_ ?_
        · refine ev_ixO 0 ?_
          exact ev_int
        · exact ev_int
      · exact ev_int
    · refine evss_cons ?_ ?_
      · refine evs_set 3 ?_ sc__law_roll.nd
        refine ev_op ov_mod ?_ ?_
        · refine ev_op ov_add ?_ ?_
          · refine ev_ixO 0 ?_
            exact ev_int
          · refine ev_op ov_mul ?_ ?_
            · exact ev_int
            · refine ev_ixO 0 ?_
              exact ev_int
        · exact ev_int
      · refine evss_cons ?_ ?_
        · refine evs_set 4 ?_ sc__law_roll.nd
          refine ev_op ov_add ?_ ?_
          · refine ev_op ov_mul ?_ ?_
            · refine ev_op ov_mod ?_ ?_
              · refine ev_op ov_add ?_ ?_
                · refine ev_op ov_mul ?_ ?_
                  · exact ev_name 3
                  · exact ev_name 3
                · refine ev_op ov_mul ?_ ?_
                  · exact ev_int
                  · refine ev_ixO 0 ?_
                    exact ev_int
              · exact ev_int
            · exact ev_int
          · exact ev_name 3
        · refine evss_one ?_
          refine evs_ret ?_
          refine ev_op ov_mod ?_ ?_
          · refine ev_callTy cv_int T.n_int (by decide +kernel) ?_
            refine eva_cons ?_ ?_
            · refine ev_op ov_fdiv ?_ ?_
              · exact ev_name 4
              · exact ev_int
            · exact eva_nil
          · exact ev_name 1
theorem ok__law_pick (T : Tx P K mg base) : FnG P w K mg base 2 T.f__law_pick T.fd__law_pick ["dice", "items"] (spB K c__law_pick) := by
  refine fnB_of (N := ["dice", "items"]) T.F__law_pick sc__law_pick (by decide) fun X hX hr hg hp E tk => ?_
  obtain ⟨A, outer, s, H, E0, rfl⟩ := hX
  refine evss_one ?_
  refine evs_ret ?_
  refine ev_ix ?_ ?_
  · exact ev_name 1
  · refine ev_lend 0 (ok__law_roll T) (hr.mono (by decide)) hg tk T.g__law_roll T.F__law_roll.kp T.b__law_roll .nil (fun _ => .nil) ?_
    refine eva_cons ?_ ?_
    · refine ev_callB cv_len T.n_len (by decide +kernel) ?_
      refine eva_cons ?_ ?_
      · exact ev_name 1
      · exact eva_nil
    · exact eva_nil
theorem ok__law_fr (T : Tx P K mg base) : FnG P w K mg base 1 T.f__law_fr T.fd__law_fr ["top", "bottom"] (spP K mg c__law_fr) := by
  refine fnP_of (N := ["top", "bottom", "one", "other", "sign"]) T.F__law_fr sc__law_fr (by decide) fun X hX hr hg hp E tk => ?_
  obtain ⟨A, outer, s, H, E0, rfl⟩ := hX
  refine evss_cons ?_ ?_
  · refine evs_par2 2 3 (by rfl) sc__law_fr.nd ?_
    refine eva_cons ?_ ?_
    · refine ev_callB cv_abs T.n_abs (by decide +kernel) ?_
      refine eva_cons ?_ ?_
      · exact ev_name 0
      · exact eva_nil
    · refine eva_cons ?_ ?_
      · refine ev_callB cv_abs T.n_abs (by decide +kernel) ?_
        refine eva_cons ?_ ?_
        · exact ev_name 1
        · exact eva_nil
      · exact eva_nil
  · refine evss_cons ?_ ?_
    · refine evs_while (muAbs 3) hp ?_ ?_
      · refine evt_cmp ov_gt ?_ ?_
        · exact ev_name 3
        · exact ev_int
      · refine evss_one ?_
        refine evs_par2 2 3 (by rfl) sc__law_fr.nd ?_
        refine eva_cons ?_ ?_
        · exact ev_name 3
        · refine eva_cons ?_ ?_
          · refine ev_op ov_mod ?_ ?_
            · exact ev_name 2
            · exact ev_name 3
          · exact eva_nil
    · refine evss_cons ?_ ?_
      · refine evs_set 4 ?_ sc__law_fr.nd
        refine ev_ifExp ?_ ?_ ?_
        · refine evt_cmp ov_lt ?_ ?_
          · exact ev_name 1
          · exact ev_int
        · refine ev_neg ?_
          exact ev_int
        · exact ev_int
      · refine evss_one ?_
        refine evs_ret ?_
        refine ev_tup ?_
        refine eva_cons ?_ ?_
        · refine ev_op ov_fdiv ?_ ?_
          · refine ev_op ov_mul ?_ ?_
            · exact ev_name 4
            · exact ev_name 0
          · exact ev_name 2
        · refine eva_cons ?_ ?_
          · refine ev_op ov_fdiv ?_ ?_
            · refine ev_op ov_mul ?_ ?_
              · exact ev_name 4
              · exact ev_name 1
            · exact ev_name 2
          · exact eva_nil
theorem ok__law_is_number (T : Tx P K mg base) : FnG P w K mg base 2 T.f__law_is_number T.fd__law_is_number ["value"] (spP K mg c__law_is_number) := by
  refine fnP_of (N := ["value", "one"]) T.F__law_is_number sc__law_is_number (by decide) fun X hX hr hg hp E tk => ?_
  obtain ⟨A, outer, s, H, E0, rfl⟩ := hX
  refine evss_cons ?_ ?_
  · refine evs_if ?_ ?_ ?_
    · refine evt_w ?_
      refine evt_orC ?_ ?_
      · refine evt_not ?_
        refine evt_truth ?_
        refine ev_isi ?_ tab_tuple T.n_isinstance T.n_tuple (by decide +kernel)
        exact ev_name 0
      · refine evt_or1 ?_
        refine evt_cmp (ov_ne hr.units) ?_ ?_
        · refine ev_callB cv_len T.n_len (by decide +kernel) ?_
          refine eva_cons ?_ ?_
          · exact ev_name 0
          · exact eva_nil
        · exact ev_int
    · refine evss_one ?_
      refine evs_ret ?_
      exact ev_bl
    · exact evss_nil
  · refine evss_cons ?_ ?_
    · refine evs_if ?_ ?_ ?_
      · refine evt_cmp (ov_ne hr.units) ?_ ?_
        · refine ev_lst ?_
          refine evf_lc (own := [("one", 1)]) (sl := [1]) (by rfl) sc__law_is_number.nd ?_ (blkOk_by (own := [("one", 1)]) (N := ["value", "one"]) (sc := defScope s__law_is_number) (by decide +kernel)) ?_ ?_ ?_
          · refine evi_val ?_
            exact ev_name 0
          · intro _ _ _ _ _
            exact evg_name 1 sc__law_is_number.nd
          · intro _ _ _ _ _
            refine evts_one ?_
            refine evt_w ?_
            refine evt_orC ?_ ?_
            · refine evt_not ?_
              refine evt_truth ?_
              refine ev_isi ?_ tab_int T.n_isinstance T.n_int (by decide +kernel)
              exact ev_name 1
            · refine evt_or1 ?_
              refine evt_truth ?_
              refine ev_isi ?_ tab_bool T.n_isinstance T.n_bool (by decide +kernel)
              exact ev_name 1
          · intro _ _ _ _ _
            exact ev_int
        · refine ev_lst ?_
          refine evf_lst ?_
          exact eva_nil
      · refine evss_one ?_
        refine evs_ret ?_
        exact ev_bl
      · exact evss_nil
    · refine evss_one ?_
      refine evs_ret ?_
      refine ev_and ?_ ?_
      · refine ev_cmp ov_ge ?_ ?_
        · refine ev_ix ?_ ?_
          · exact ev_name 0
          · exact ev_int
        · exact ev_int
      · refine ev_one ?_
        refine ev_cmp (ov_eq hr.units) ?_ ?_
        · refine ev_call (ok__law_fr T) (hr.mono (by decide)) hg tk T.g__law_fr T.F__law_fr.kp T.b__law_fr .nil (fun _ => .nil) ?_
          refine eva_cons ?_ ?_
          · refine ev_ix ?_ ?_
            · exact ev_name 0
            · exact ev_int
          · refine eva_cons ?_ ?_
            · refine ev_ix ?_ ?_
              · exact ev_name 0
              · exact ev_int
            · exact eva_nil
        · exact ev_name 0
theorem ok__law_is_name (T : Tx P K mg base) : FnG P w K mg base 1 T.f__law_is_name T.fd__law_is_name ["value"] (spP K mg c__law_is_name) := by
  refine fnP_of (N := ["value", "sign"]) T.F__law_is_name sc__law_is_name (by decide) fun X hX hr hg hp E tk => ?_
  obtain ⟨A, outer, s, H, E0, rfl⟩ := hX
  refine evss_cons ?_ ?_
  · refine evs_if ?_ ?_ ?_
    · refine evt_w ?_
      refine evt_orC ?_ ?_
      · refine evt_not ?_
        refine evt_truth ?_
        refine ev_isi ?_ tab_str T.n_isinstance T.n_str (by decide +kernel)
        exact ev_name 0
      · refine evt_orC ?_ ?_
        · refine evt_not ?_
          refine evt_chain ov_le ov_le ?_ ?_ ?_
          · exact ev_int
          · refine ev_callB cv_len T.n_len (by decide +kernel) ?_
            refine eva_cons ?_ ?_
            · exact ev_name 0
            · exact eva_nil
          · exact ev_int
        · refine evt_or1 ?_
          refine evt_not ?_
          refine evt_chain ov_le ov_le ?_ ?_ ?_
          · exact ev_str
          · refine ev_ix ?_ ?_
            · exact ev_name 0
            · exact ev_int
          · exact ev_str
    · refine evss_one ?_
      refine evs_ret ?_
      exact ev_bl
    · exact evss_nil
  · refine evss_one ?_
    refine evs_ret ?_
    refine ev_cmp (ov_eq hr.units) ?_ ?_
    · refine ev_lst ?_
      refine evf_lc (own := [("sign", 1)]) (sl := [1]) (by rfl) sc__law_is_name.nd ?_ (blkOk_by (own := [("sign", 1)]) (N := ["value", "sign"]) (sc := defScope s__law_is_name) (by decide +kernel)) ?_ ?_ ?_
      · refine evi_val ?_
        exact ev_name 0
      · intro _ _ _ _ _
        exact evg_name 1 sc__law_is_name.nd
      · intro _ _ _ _ _
        refine evts_one ?_
        refine evt_cmp ov_notIn ?_ ?_
        · exact ev_name 1
        · exact ev_str
      · intro _ _ _ _ _
        exact ev_name 1
    · refine ev_lst ?_
      refine evf_lst ?_
      exact eva_nil
theorem ok__law_some (T : Tx P K mg base) : FnG P w K mg base 3 T.f__law_some T.fd__law_some ["dice"] (spB K c__law_some) := by
  refine fnB_of (N := ["dice", "some"]) T.F__law_some sc__law_some (by decide) fun X hX hr hg hp E tk => ?_
  obtain ⟨A, outer, s, H, E0, rfl⟩ := hX
  refine evss_cons ?_ ?_
  · refine evs_set 1 ?_ sc__law_some.nd
    refine ev_lst ?_
    refine evf_lst ?_
    refine eva_cons ?_ ?_
    · exact ev_non
    · refine eva_cons ?_ ?_
      · exact ev_bl
      · refine eva_cons ?_ ?_
        · exact ev_bl
        · refine eva_cons ?_ ?_
          · exact ev_int
          · refine eva_cons ?_ ?_
            · exact ev_int
            · refine eva_cons ?_ ?_
              · refine ev_neg ?_
                exact ev_int
              · refine eva_cons ?_ ?_
                · refine ev_op ov_pow ?_ ?_
                  · exact ev_int
                  · exact ev_int
                · refine eva_cons ?_ ?_
                  · exact ev_str
                  · refine eva_cons ?_ ?_
                    · exact ev_str
                    · refine eva_cons ?_ ?_
                      · exact ev_str
                      · refine eva_cons ?_ ?_
                        · exact ev_str
                        · refine eva_cons ?_ ?_
                          · exact ev_str
                          · refine eva_cons ?_ ?_
                            · exact ev_str
                            · refine eva_cons ?_ ?_
                              · exact ev_str
                              · refine eva_cons ?_ ?_
                                · exact ev_str
                                · exact eva_nil
  · refine evss_cons ?_ ?_
    · refine evs_set 1 ?_ sc__law_some.nd
      refine ev_op ov_add ?_ ?_
      · exact ev_name 1
      · refine ev_lst ?_
        refine evf_lst ?_
        refine eva_cons ?_ ?_
        · refine ev_tup ?_
          exact eva_nil
        · refine eva_cons ?_ ?_
          · refine ev_tup ?_
            refine eva_cons ?_ ?_
            · exact ev_int
            · refine eva_cons ?_ ?_
              · exact ev_int
              · exact eva_nil
          · refine eva_cons ?_ ?_
            · refine ev_tup ?_
              refine eva_cons ?_ ?_
              · exact ev_int
              · refine eva_cons ?_ ?_
                · exact ev_int
                · exact eva_nil
            · refine eva_cons ?_ ?_
              · refine ev_tup ?_
                refine eva_cons ?_ ?_
                · exact ev_int
                · refine eva_cons ?_ ?_
                  · exact ev_int
                  · exact eva_nil
              · refine eva_cons ?_ ?_
                · refine ev_tup ?_
                  refine eva_cons ?_ ?_
                  · exact ev_int
                  · refine eva_cons ?_ ?_
                    · exact ev_int
                    · exact eva_nil
                · refine eva_cons ?_ ?_
                  · refine ev_tup ?_
                    refine eva_cons ?_ ?_
                    · exact ev_int
                    · refine eva_cons ?_ ?_
                      · exact ev_int
                      · exact eva_nil
                  · refine eva_cons ?_ ?_
                    · refine ev_tup ?_
                      refine eva_cons ?_ ?_
                      · exact ev_int
                      · refine eva_cons ?_ ?_
                        · refine ev_neg ?_
                          exact ev_int
                        · exact eva_nil
                    · refine eva_cons ?_ ?_
                      · refine ev_tup ?_
                        refine eva_cons ?_ ?_
                        · refine ev_neg ?_
                          exact ev_int
                        · refine eva_cons ?_ ?_
                          · exact ev_int
                          · exact eva_nil
                      · refine eva_cons ?_ ?_
                        · refine ev_tup ?_
                          refine eva_cons ?_ ?_
                          · exact ev_bl
                          · refine eva_cons ?_ ?_
                            · exact ev_int
                            · exact eva_nil
                        · refine eva_cons ?_ ?_
                          · refine ev_tup ?_
                            refine eva_cons ?_ ?_
                            · exact ev_int
                            · refine eva_cons ?_ ?_
                              · exact ev_bl
                              · exact eva_nil
                          · refine eva_cons ?_ ?_
                            · refine ev_lst ?_
                              refine evf_lst ?_
                              refine eva_cons ?_ ?_
                              · exact ev_int
                              · refine eva_cons ?_ ?_
                                · exact ev_int
                                · exact eva_nil
                            · refine eva_cons ?_ ?_
                              · refine ev_tup ?_
                                refine eva_cons ?_ ?_
                                · exact ev_int
                                · exact eva_nil
                              · exact eva_nil
    · refine evss_cons ?_ ?_
      · refine evs_set 1 ?_ sc__law_some.nd
        refine ev_op ov_add ?_ ?_
        · exact ev_name 1
        · refine ev_lst ?_
          refine evf_lst ?_
          refine eva_cons ?_ ?_
          · refine ev_tup ?_
            refine eva_cons ?_ ?_
            · exact ev_int
            · refine eva_cons ?_ ?_
              · exact ev_int
              · refine eva_cons ?_ ?_
                · exact ev_int
                · exact eva_nil
          · refine eva_cons ?_ ?_
            · refine ev_tup ?_
              refine eva_cons ?_ ?_
              · refine ev_op ov_add ?_ ?_
                · refine ev_op ov_pow ?_ ?_
                  · exact ev_int
                  · exact ev_int
                · exact ev_int
              · refine eva_cons ?_ ?_
                · refine ev_op ov_pow ?_ ?_
                  · exact ev_int
                  · exact ev_int
                · exact eva_nil
            · refine eva_cons ?_ ?_
              · refine ev_tup ?_
                refine eva_cons ?_ ?_
                · refine ev_tup ?_
                  refine eva_cons ?_ ?_
                  · exact ev_int
                  · refine eva_cons ?_ ?_
                    · exact ev_int
                    · exact eva_nil
                · refine eva_cons ?_ ?_
                  · exact ev_int
                  · exact eva_nil
              · refine eva_cons ?_ ?_
                · refine ev_tup ?_
                  refine eva_cons ?_ ?_
                  · exact ev_str
                  · refine eva_cons ?_ ?_
                    · exact ev_int
                    · exact eva_nil
                · refine eva_cons ?_ ?_
                  · refine ev_tup ?_
                    refine eva_cons ?_ ?_
                    · exact ev_non
                    · refine eva_cons ?_ ?_
                      · exact ev_int
                      · exact eva_nil
                  · refine eva_cons ?_ ?_
                    · exact ev_str
                    · refine eva_cons ?_ ?_
                      · exact ev_dct0
                      · refine eva_cons ?_ ?_
                        · exact ev_dct1
                        · refine eva_cons ?_ ?_
                          · exact ev_str
                          · refine eva_cons ?_ ?_
                            · exact ev_str
                            · exact eva_nil
      · refine evss_one ?_
        refine evs_ret ?_
        refine ev_lend 0 (ok__law_pick T) (hr.mono (by decide)) hg tk T.g__law_pick T.F__law_pick.kp T.b__law_pick .nil (fun _ => .nil) ?_
        refine eva_cons ?_ ?_
        · exact ev_name 1
        · exact eva_nil
theorem ok__law_right (T : Tx P K mg base) : FnG P w K mg base 8 T.f__law_right T.fd__law_right ["dice"] (spB K c__law_right) := by
  refine fnB_of (N := ["dice", "is_whole", "bad", "plain", "told", "due", "is_top", "is_bottom", "one", "value", "wrong"]) T.F__law_right sc__law_right (by decide) fun X hX hr hg hp E tk => ?_
  obtain ⟨A, outer, s, H, E0, rfl⟩ := hX
  refine evss_cons ?_ ?_
  · refine evs_asg (sl := ([9] ++ ([10] ++ []))) ?_ ?_
    · refine ev_tup ?_
      refine eva_cons ?_ ?_
      · refine ev_lend 0 (ok__law_some T) (hr.mono (by decide)) hg tk T.g__law_some T.F__law_some.kp T.b__law_some .nil (fun _ => .nil) ?_
        exact eva_nil
      · refine eva_cons ?_ ?_
        · refine ev_lend 0 (ok__law_some T) (hr.mono (by decide)) hg tk T.g__law_some T.F__law_some.kp T.b__law_some .nil (fun _ => .nil) ?_
          exact eva_nil
        · exact eva_nil
    · refine evg_tup (by rfl) ?_
      refine evgs_cons ?_ ?_
      · exact evg_name 9 sc__law_right.nd
      · refine evgs_cons ?_ ?_
        · exact evg_name 10 sc__law_right.nd
        · exact evgs_nil
  · refine evss_cons ?_ ?_
    · refine evs_par2 1 2 (by rfl) sc__law_right.nd ?_
      refine eva_cons ?_ ?_
      · refine ev_and ?_ ?_
        · refine ev_isi ?_ tab_int T.n_isinstance T.n_int (by decide +kernel)
          exact ev_name 9
        · refine ev_one ?_
          refine ev_not ?_
          refine ev_isi ?_ tab_bool T.n_isinstance T.n_bool (by decide +kernel)
          exact ev_name 9
      · refine eva_cons ?_ ?_
        · refine ev_not ?_
          refine ev_call (ok__law_is_number T) (hr.mono (by decide)) hg tk T.g__law_is_number T.F__law_is_number.kp T.b__law_is_number .nil (fun _ => .nil) ?_
          refine eva_cons ?_ ?_
          · exact ev_name 9
          · exact eva_nil
        · exact eva_nil
    · refine evss_cons ?_ ?_
      · refine evs_if ?_ ?_ ?_
        · refine evt_cmp (ov_ne hr.units) ?_ ?_
          · refine ev_callB (cv_repr hg hr) T.n_repr (by decide +kernel) ?_
            refine eva_cons ?_ ?_
            · refine ev_lst ?_
              refine evf_lst ?_
              refine eva_cons ?_ ?_
              · refine ev_call (ok_is_integer T) (hr.mono (by decide)) hg tk T.g_is_integer T.F_is_integer.kp T.b_is_integer .nil (fun _ => .nil) ?_
                refine eva_cons ?_ ?_
                · exact ev_name 9
                · exact eva_nil
              · refine eva_cons ?_ ?_
                · refine ev_call (ok_is_name T) (hr.mono (by decide)) hg tk T.g_is_name T.F_is_name.kp T.b_is_name .nil (fun _ => .nil) ?_
                  refine eva_cons ?_ ?_
                  · exact ev_name 9
                  · exact eva_nil
                · refine eva_cons ?_ ?_
                  · refine ev_call (ok_is_number T) (hr.mono (by decide)) hg tk T.g_is_number T.F_is_number.kp T.b_is_number .nil (fun _ => .nil) ?_
                    refine eva_cons ?_ ?_
                    · exact ev_name 9
                    · exact eva_nil
                  · exact eva_nil
            · exact eva_nil
          · refine ev_callB (cv_repr hg hr) T.n_repr (by decide +kernel) ?_
            refine eva_cons ?_ ?_
            · refine ev_lst ?_
              refine evf_lst ?_
              refine eva_cons ?_ ?_
              · exact ev_name 1
              · refine eva_cons ?_ ?_
                · refine ev_call (ok__law_is_name T) (hr.mono (by decide)) hg tk T.g__law_is_name T.F__law_is_name.kp T.b__law_is_name .nil (fun _ => .nil) ?_
                  refine eva_cons ?_ ?_
                  · exact ev_name 9
                  · exact eva_nil
                · refine eva_cons ?_ ?_
                  · refine ev_not ?_
                    exact ev_name 2
                  · exact eva_nil
            · exact eva_nil
        · refine evss_one ?_
          refine evs_ret ?_
          exact ev_bl
        · exact evss_nil
      · refine evss_cons ?_ ?_
        · refine evs_asg (sl := ([8] ++ ([3] ++ []))) ?_ ?_
          · refine ev_tup ?_
            refine eva_cons ?_ ?_
            · refine ev_tup ?_
              refine eva_cons ?_ ?_
              · exact ev_int
              · refine eva_cons ?_ ?_
                · exact ev_int
                · exact eva_nil
            · refine eva_cons ?_ ?_
              · refine ev_ifExp ?_ ?_ ?_
                · refine evt_truth ?_
                  exact ev_name 2
                · exact ev_str
                · exact ev_str
              · exact eva_nil
          · refine evg_tup (by rfl) ?_
            refine evgs_cons ?_ ?_
            · exact evg_name 8 sc__law_right.nd
            · refine evgs_cons ?_ ?_
              · exact evg_name 3 sc__law_right.nd
              · exact evgs_nil
        · refine evss_cons ?_ ?_
          · refine evs_set 4 ?_ sc__law_right.nd
            refine ev_lst ?_
            refine evf_lst ?_
            refine eva_cons ?_ ?_
            · refine ev_lamT (k := 5) (fine := "fine") (cs := cs__law_word) (sub := subK) (Ng := ["call", "error"]) hg (hr.mono (by decide)) ⟨T.lc__law_right⟩ (word__law_word T _ rfl rfl rfl rfl hg (hr.mono (by decide))) ?_
              refine ⟨lamS_by (sc := defScope s__law_right) (by decide +kernel), rfl, fun _ _ _ _ _ => rfl, fun A2 o2 s2 H2 E2 f2 c2 hr2 hg2 => ?_⟩
              refine ev_call (ok_plus T) (hr2.mono (by decide)) hg2 (takes_of rfl rfl rfl rfl) T.g_plus T.F_plus.kp T.b_plus .nil (fun _ => .nil) ?_
              refine eva_cons ?_ ?_
              · exact ev_name 9
              · refine eva_cons ?_ ?_
                · exact ev_name 10
                · exact eva_nil
            · refine eva_cons ?_ ?_
              · refine ev_lamT (k := 5) (fine := "fine") (cs := cs__law_word) (sub := subK) (Ng := ["call", "error"]) hg (hr.mono (by decide)) ⟨T.lc__law_right⟩ (word__law_word T _ rfl rfl rfl rfl hg (hr.mono (by decide))) ?_
                refine ⟨lamS_by (sc := defScope s__law_right) (by decide +kernel), rfl, fun _ _ _ _ _ => rfl, fun A2 o2 s2 H2 E2 f2 c2 hr2 hg2 => ?_⟩
                refine ev_call (ok_minus T) (hr2.mono (by decide)) hg2 (takes_of rfl rfl rfl rfl) T.g_minus T.F_minus.kp T.b_minus .nil (fun _ => .nil) ?_
                refine eva_cons ?_ ?_
                · exact ev_name 8
                · refine eva_cons ?_ ?_
                  · exact ev_name 9
                  · exact eva_nil
              · exact eva_nil
          · refine evss_cons ?_ ?_
            · refine evs_set 4 ?_ sc__law_right.nd
              refine ev_op ov_add ?_ ?_
              · exact ev_name 4
              · refine ev_lst ?_
                refine evf_lst ?_
                refine eva_cons ?_ ?_
                · refine ev_lamT (k := 5) (fine := "fine") (cs := cs__law_word) (sub := subK) (Ng := ["call", "error"]) hg (hr.mono (by decide)) ⟨T.lc__law_right⟩ (word__law_word T _ rfl rfl rfl rfl hg (hr.mono (by decide))) ?_
                  refine ⟨lamS_by (sc := defScope s__law_right) (by decide +kernel), rfl, fun _ _ _ _ _ => rfl, fun A2 o2 s2 H2 E2 f2 c2 hr2 hg2 => ?_⟩
                  refine ev_call (ok_times T) (hr2.mono (by decide)) hg2 (takes_of rfl rfl rfl rfl) T.g_times T.F_times.kp T.b_times .nil (fun _ => .nil) ?_
                  refine eva_cons ?_ ?_
                  · exact ev_name 9
                  · refine eva_cons ?_ ?_
                    · exact ev_name 8
                    · exact eva_nil
                · refine eva_cons ?_ ?_
                  · refine ev_lamT (k := 5) (fine := "fine") (cs := cs__law_word) (sub := subK) (Ng := ["call", "error"]) hg (hr.mono (by decide)) ⟨T.lc__law_right⟩ (word__law_word T _ rfl rfl rfl rfl hg (hr.mono (by decide))) ?_
                    refine ⟨lamS_by (sc := defScope s__law_right) (by decide +kernel), rfl, fun _ _ _ _ _ => rfl, fun A2 o2 s2 H2 E2 f2 c2 hr2 hg2 => ?_⟩
                    refine ev_call (ok_compared T) (hr2.mono (by decide)) hg2 (takes_of rfl rfl rfl rfl) T.g_compared T.F_compared.kp T.b_compared .nil (fun _ => .nil) ?_
                    refine eva_cons ?_ ?_
                    · exact ev_name 8
                    · refine eva_cons ?_ ?_
                      · exact ev_name 9
                      · exact eva_nil
                  · exact eva_nil
            · refine evss_cons ?_ ?_
              · refine evs_setF 5 ?_ sc__law_right.nd
                refine evf_add ?_ ?_
                · refine ev_lst ?_
                  refine evf_lst ?_
                  refine eva_cons ?_ ?_
                  · refine ev_ifExp ?_ ?_ ?_
                    · refine evt_w ?_
                      refine evt_andC ?_ ?_
                      · refine evt_not ?_
                        refine evt_truth ?_
                        exact ev_name 2
                      · refine evt_and1 ?_
                        refine evt_truth ?_
                        refine ev_call (ok__law_is_number T) (hr.mono (by decide)) hg tk T.g__law_is_number T.F__law_is_number.kp T.b__law_is_number .nil (fun _ => .nil) ?_
                        refine eva_cons ?_ ?_
                        · exact ev_name 10
                        · exact eva_nil
                    · exact ev_str
                    · exact ev_str
                  · exact eva_nil
                · refine ev_op ov_mul ?_ ?_
                  · refine ev_lst ?_
                    refine evf_lst ?_
                    refine eva_cons ?_ ?_
                    · exact ev_name 3
                    · exact eva_nil
                  · exact ev_int
              · refine evss_cons ?_ ?_
                · refine evs_set 4 ?_ sc__law_right.nd
                  refine ev_op ov_add ?_ ?_
                  · exact ev_name 4
                  · refine ev_lst ?_
                    refine evf_lst ?_
                    refine eva_cons ?_ ?_
                    · refine ev_lamT (k := 5) (fine := "fine") (cs := cs__law_word) (sub := subK) (Ng := ["call", "error"]) hg (hr.mono (by decide)) ⟨T.lc__law_right⟩ (word__law_word T _ rfl rfl rfl rfl hg (hr.mono (by decide))) ?_
                      refine ⟨lamS_by (sc := defScope s__law_right) (by decide +kernel), rfl, fun _ _ _ _ _ => rfl, fun A2 o2 s2 H2 E2 f2 c2 hr2 hg2 => ?_⟩
                      refine ev_call (ok_over T) (hr2.mono (by decide)) hg2 (takes_of rfl rfl rfl rfl) T.g_over T.F_over.kp T.b_over .nil (fun _ => .nil) ?_
                      refine eva_cons ?_ ?_
                      · exact ev_name 9
                      · refine eva_cons ?_ ?_
                        · refine ev_tup ?_
                          refine eva_cons ?_ ?_
                          · exact ev_int
                          · refine eva_cons ?_ ?_
                            · exact ev_int
                            · exact eva_nil
                        · exact eva_nil
                    · refine eva_cons ?_ ?_
                      · refine ev_lamT (k := 5) (fine := "fine") (cs := cs__law_word) (sub := subK) (Ng := ["call", "error"]) hg (hr.mono (by decide)) ⟨T.lc__law_right⟩ (word__law_word T _ rfl rfl rfl rfl hg (hr.mono (by decide))) ?_
                        refine ⟨lamS_by (sc := defScope s__law_right) (by decide +kernel), rfl, fun _ _ _ _ _ => rfl, fun A2 o2 s2 H2 E2 f2 c2 hr2 hg2 => ?_⟩
                        refine ev_call (ok_over T) (hr2.mono (by decide)) hg2 (takes_of rfl rfl rfl rfl) T.g_over T.F_over.kp T.b_over .nil (fun _ => .nil) ?_
                        refine eva_cons ?_ ?_
                        · exact ev_name 8
                        · refine eva_cons ?_ ?_
                          · exact ev_name 9
                          · exact eva_nil
                      · exact eva_nil
                · refine evss_cons ?_ ?_
                  · refine evs_setF 5 ?_ sc__law_right.nd
                    refine evf_add ?_ ?_
                    · exact ev_name 5
                    · refine ev_lst ?_
                      refine evf_lst ?_
                      refine eva_cons ?_ ?_
                      · refine ev_ifExp ?_ ?_ ?_
                        · refine evt_truth ?_
                          exact ev_name 2
                        · exact ev_str
                        · exact ev_str
                      · exact eva_nil
                  · refine evss_cons ?_ ?_
                    · refine evs_app 5 ?_
                      refine ev_ifExp ?_ ?_ ?_
                      · refine evt_cmp (ov_eq hr.units) ?_ ?_
                        · refine ev_callB (cv_repr hg hr) T.n_repr (by decide +kernel) ?_
                          refine eva_cons ?_ ?_
                          · exact ev_name 9
                          · exact eva_nil
                        · exact ev_str
                      · exact ev_str
                      · exact ev_name 3
                    · refine evss_cons ?_ ?_
                      · refine evs_set 4 ?_ sc__law_right.nd
                        refine ev_op ov_add ?_ ?_
                        · exact ev_name 4
                        · refine ev_lst ?_
                          refine evf_lst ?_
                          refine eva_cons ?_ ?_
                          · refine ev_lamT (k := 5) (fine := "fine") (cs := cs__law_word) (sub := subK) (Ng := ["call", "error"]) hg (hr.mono (by decide)) ⟨T.lc__law_right⟩ (word__law_word T _ rfl rfl rfl rfl hg (hr.mono (by decide))) ?_
                            refine ⟨lamS_by (sc := defScope s__law_right) (by decide +kernel), rfl, fun _ _ _ _ _ => rfl, fun A2 o2 s2 H2 E2 f2 c2 hr2 hg2 => ?_⟩
                            refine ev_call (ok_total T) (hr2.mono (by decide)) hg2 (takes_of rfl rfl rfl rfl) T.g_total T.F_total.kp T.b_total .nil (fun _ => .nil) ?_
                            refine eva_cons ?_ ?_
                            · refine ev_tup ?_
                              refine eva_cons ?_ ?_
                              · exact ev_name 8
                              · refine eva_cons ?_ ?_
                                · exact ev_name 9
                                · exact eva_nil
                            · exact eva_nil
                          · refine eva_cons ?_ ?_
                            · refine ev_lamT (k := 5) (fine := "fine") (cs := cs__law_word) (sub := subK) (Ng := ["call", "error"]) hg (hr.mono (by decide)) ⟨T.lc__law_right⟩ (word__law_word T _ rfl rfl rfl rfl hg (hr.mono (by decide))) ?_
                              refine ⟨lamS_by (sc := defScope s__law_right) (by decide +kernel), rfl, fun _ _ _ _ _ => rfl, fun A2 o2 s2 H2 E2 f2 c2 hr2 hg2 => ?_⟩
                              refine ev_call (ok_total T) (hr2.mono (by decide)) hg2 (takes_of rfl rfl rfl rfl) T.g_total T.F_total.kp T.b_total .nil (fun _ => .nil) ?_
                              refine eva_cons ?_ ?_
                              · exact ev_name 9
                              · exact eva_nil
                            · exact eva_nil
                      · refine evss_cons ?_ ?_
                        · refine evs_setF 5 ?_ sc__law_right.nd
                          refine evf_add ?_ ?_
                          · exact ev_name 5
                          · refine ev_lst ?_
                            refine evf_lst ?_
                            refine eva_cons ?_ ?_
                            · exact ev_name 3
                            · refine eva_cons ?_ ?_
                              · refine ev_ifExp ?_ ?_ ?_
                                · refine evt_cmp (ov_eq hr.units) ?_ ?_
                                  · refine ev_callB (cv_repr hg hr) T.n_repr (by decide +kernel) ?_
                                    refine eva_cons ?_ ?_
                                    · exact ev_name 9
                                    · exact eva_nil
                                  · exact ev_str
                                · exact ev_str
                                · exact ev_str
                              · exact eva_nil
                        · refine evss_cons ?_ ?_
                          · refine evs_set 4 ?_ sc__law_right.nd
                            refine ev_op ov_add ?_ ?_
                            · exact ev_name 4
                            · refine ev_lst ?_
                              refine evf_lst ?_
                              refine eva_cons ?_ ?_
                              · refine ev_lamT (k := 5) (fine := "fine") (cs := cs__law_word) (sub := subK) (Ng := ["call", "error"]) hg (hr.mono (by decide)) ⟨T.lc__law_right⟩ (word__law_word T _ rfl rfl rfl rfl hg (hr.mono (by decide))) ?_
                                refine ⟨lamS_by (sc := defScope s__law_right) (by decide +kernel), rfl, fun _ _ _ _ _ => rfl, fun A2 o2 s2 H2 E2 f2 c2 hr2 hg2 => ?_⟩
                                refine ev_call (ok_power T) (hr2.mono (by decide)) hg2 (takes_of rfl rfl rfl rfl) T.g_power T.F_power.kp T.b_power .nil (fun _ => .nil) ?_
                                refine eva_cons ?_ ?_
                                · exact ev_name 9
                                · refine eva_cons ?_ ?_
                                  · refine ev_neg ?_
                                    exact ev_int
                                  · exact eva_nil
                              · refine eva_cons ?_ ?_
                                · refine ev_lamT (k := 5) (fine := "fine") (cs := cs__law_word) (sub := subK) (Ng := ["call", "error"]) hg (hr.mono (by decide)) ⟨T.lc__law_right⟩ (word__law_word T _ rfl rfl rfl rfl hg (hr.mono (by decide))) ?_
                                  refine ⟨lamS_by (sc := defScope s__law_right) (by decide +kernel), rfl, fun _ _ _ _ _ => rfl, fun A2 o2 s2 H2 E2 f2 c2 hr2 hg2 => ?_⟩
                                  refine ev_call (ok_power T) (hr2.mono (by decide)) hg2 (takes_of rfl rfl rfl rfl) T.g_power T.F_power.kp T.b_power .nil (fun _ => .nil) ?_
                                  refine eva_cons ?_ ?_
                                  · exact ev_name 8
                                  · refine eva_cons ?_ ?_
                                    · exact ev_name 9
                                    · exact eva_nil
                                · exact eva_nil
                          · refine evss_cons ?_ ?_
                            · refine evs_setF 5 ?_ sc__law_right.nd
                              refine evf_add ?_ ?_
                              · exact ev_name 5
                              · refine ev_lst ?_
                                refine evf_lst ?_
                                refine eva_cons ?_ ?_
                                · refine ev_ifExp ?_ ?_ ?_
                                  · refine evt_truth ?_
                                    exact ev_name 2
                                  · exact ev_str
                                  · exact ev_str
                                · exact eva_nil
                            · refine evss_cons ?_ ?_
                              · refine evs_app 5 ?_
                                refine ev_ifExp ?_ ?_ ?_
                                · refine evt_w ?_
                                  refine evt_andC ?_ ?_
                                  · refine evt_truth ?_
                                    exact ev_name 1
                                  · refine evt_and1 ?_
                                    refine evt_chain ov_le ov_le ?_ ?_ ?_
                                    · exact ev_int
                                    · exact ev_name 9
                                    · exact ev_int
                                · exact ev_str
                                · refine ev_op ov_add ?_ ?_
                                  · exact ev_str
                                  · refine ev_callB (cv_repr hg hr) T.n_repr (by decide +kernel) ?_
                                    refine eva_cons ?_ ?_
                                    · exact ev_name 9
                                    · exact eva_nil
                              · refine evss_cons ?_ ?_
                                · refine evs_if ?_ ?_ ?_
                                  · refine evt_cmp (ov_ne hr.units) ?_ ?_
                                    · exact ev_name 4
                                    · exact ev_name 5
                                  · refine evss_one ?_
                                    refine evs_ret ?_
                                    exact ev_bl
                                  · exact evss_nil
                                · refine evss_cons ?_ ?_
                                  · refine evs_set 6 ?_ sc__law_right.nd
                                    refine ev_and ?_ ?_
                                    · exact ev_name 1
                                    · refine ev_one ?_
                                      refine ev_cmp ov_lt ?_ ?_
                                      · refine ev_callB cv_abs T.n_abs (by decide +kernel) ?_
                                        refine eva_cons ?_ ?_
                                        · exact ev_name 9
                                        · exact eva_nil
                                      · refine ev_op ov_pow ?_ ?_
                                        · exact ev_int
                                        · exact ev_int
                                  · refine evss_cons ?_ ?_
                                    · refine evs_set 7 ?_ sc__law_right.nd
                                      refine ev_and ?_ ?_
                                      · refine ev_isi ?_ tab_int T.n_isinstance T.n_int (by decide +kernel)
                                        exact ev_name 10
                                      · refine ev_and ?_ ?_
                                        · refine ev_not ?_
                                          refine ev_isi ?_ tab_bool T.n_isinstance T.n_bool (by decide +kernel)
                                          exact ev_name 10
                                        · refine ev_and ?_ ?_
                                          · refine ev_cmp ov_lt ?_ ?_
                                            · refine ev_callB cv_abs T.n_abs (by decide +kernel) ?_
                                              refine eva_cons ?_ ?_
                                              · exact ev_name 10
                                              · exact eva_nil
                                            · refine ev_op ov_pow ?_ ?_
                                              · exact ev_int
                                              · exact ev_int
                                          · refine ev_one ?_
                                            refine ev_cmp (ov_ne hr.units) ?_ ?_
                                            · exact ev_name 10
                                            · exact ev_int
                                    · refine evss_cons ?_ ?_
                                      · refine evs_set 4 ?_ sc__law_right.nd
                                        refine ev_lst ?_
                                        refine evf_lst ?_
                                        refine eva_cons ?_ ?_
                                        · refine ev_lamT (k := 5) (fine := "fine") (cs := cs__law_word) (sub := subK) (Ng := ["call", "error"]) hg (hr.mono (by decide)) ⟨T.lc__law_right⟩ (word__law_word T _ rfl rfl rfl rfl hg (hr.mono (by decide))) ?_
                                          refine ⟨lamS_by (sc := defScope s__law_right) (by decide +kernel), rfl, fun _ _ _ _ _ => rfl, fun A2 o2 s2 H2 E2 f2 c2 hr2 hg2 => ?_⟩
                                          refine ev_call (ok_number T) (hr2.mono (by decide)) hg2 (takes_of rfl rfl rfl rfl) T.g_number T.F_number.kp T.b_number .nil (fun _ => .nil) ?_
                                          refine eva_cons ?_ ?_
                                          · exact ev_name 9
                                          · refine eva_cons ?_ ?_
                                            · exact ev_name 10
                                            · exact eva_nil
                                        · refine eva_cons ?_ ?_
                                          · refine ev_lamT (k := 5) (fine := "fine") (cs := cs__law_word) (sub := subK) (Ng := ["call", "error"]) hg (hr.mono (by decide)) ⟨T.lc__law_right⟩ (word__law_word T _ rfl rfl rfl rfl hg (hr.mono (by decide))) ?_
                                            refine ⟨lamS_by (sc := defScope s__law_right) (by decide +kernel), rfl, fun _ _ _ _ _ => rfl, fun A2 o2 s2 H2 E2 f2 c2 hr2 hg2 => ?_⟩
                                            refine ev_call (ok_number T) (hr2.mono (by decide)) hg2 (takes_of rfl rfl rfl rfl) T.g_number T.F_number.kp T.b_number .nil (fun _ => .nil) ?_
                                            refine eva_cons ?_ ?_
                                            · exact ev_int
                                            · refine eva_cons ?_ ?_
                                              · exact ev_name 9
                                              · exact eva_nil
                                          · exact eva_nil
                                      · refine evss_cons ?_ ?_
                                        · refine evs_set 5 ?_ sc__law_right.nd
                                          refine ev_ifExp ?_ ?_ ?_
                                          · refine evt_not ?_
                                            refine evt_truth ?_
                                            exact ev_name 6
                                          · refine ev_op ov_add ?_ ?_
                                            · exact ev_str
                                            · refine ev_callB (cv_repr hg hr) T.n_repr (by decide +kernel) ?_
                                              refine eva_cons ?_ ?_
                                              · exact ev_name 9
                                              · exact eva_nil
                                          · refine ev_ifExp ?_ ?_ ?_
                                            · refine evt_truth ?_
                                              exact ev_name 7
                                            · exact ev_str
                                            · refine ev_op ov_add ?_ ?_
                                              · exact ev_str
                                              · refine ev_callB (cv_repr hg hr) T.n_repr (by decide +kernel) ?_
                                                refine eva_cons ?_ ?_
                                                · exact ev_name 10
                                                · exact eva_nil
                                        · refine evss_one ?_
                                          refine evs_ret ?_
                                          refine ev_cmp (ov_eq hr.units) ?_ ?_
                                          · exact ev_name 4
                                          · refine ev_lst ?_
                                            refine evf_lst ?_
                                            refine eva_cons ?_ ?_
                                            · exact ev_name 5
                                            · refine eva_cons ?_ ?_
                                              · refine ev_ifExp ?_ ?_ ?_
                                                · refine evt_w ?_
                                                  refine evt_andC ?_ ?_
                                                  · refine evt_truth ?_
                                                    exact ev_name 6
                                                  · refine evt_and1 ?_
                                                    refine evt_cmp (ov_ne hr.units) ?_ ?_
                                                    · exact ev_name 9
                                                    · exact ev_int
                                                · exact ev_str
                                                · refine ev_op ov_add ?_ ?_
                                                  · exact ev_str
                                                  · refine ev_callB (cv_repr hg hr) T.n_repr (by decide +kernel) ?_
                                                    refine eva_cons ?_ ?_
                                                    · exact ev_name 9
                                                    · exact eva_nil
                                              · exact eva_nil
theorem ok_law (T : Tx P K mg base) : FnG P w K mg base 9 T.f_law T.fd_law ["script"] (spP K mg c_law) := by
  refine fnP_of (N := ["script", "spot", "dice", "turn", "told"]) T.F_law sc_law (by decide) fun X hX hr hg hp E tk => ?_
  obtain ⟨A, outer, s, H, E0, rfl⟩ := hX
  refine evss_cons ?_ ?_
  · refine evs_for (sl := [1]) hp (by rfl) ?_ ?_ ?_
    · refine evi_rng1 T.n_range ?_
      refine ev_callB (cv_max (by rfl)) T.n_max (by decide +kernel) ?_
      refine eva_cons ?_ ?_
      · exact ev_int
      · refine eva_cons ?_ ?_
        · refine ev_callB (cv_min (by rfl)) T.n_min (by decide +kernel) ?_
          refine eva_cons ?_ ?_
          · exact ev_int
          · refine eva_cons ?_ ?_
            · refine ev_callB cv_len T.n_len (by decide +kernel) ?_
              refine eva_cons ?_ ?_
              · exact ev_name 0
              · exact eva_nil
            · exact eva_nil
        · exact eva_nil
    · exact evg_name 1 sc_law.nd
    · refine evss_cons ?_ ?_
      · refine evs_setF 2 ?_ sc_law.nd
        refine evf_call (ok__law_dice T) (hr.mono (by decide)) hg tk T.g__law_dice T.F__law_dice.kp T.b__law_dice .nil (fun _ => .nil) ?_
        refine eva_cons ?_ ?_
        · exact ev_name 0
        · refine eva_cons ?_ ?_
          · exact ev_name 1
          · exact eva_nil
      · refine evss_one ?_
        refine evs_for (sl := [3]) hp (by rfl) ?_ ?_ ?_
        · refine evi_rng1 T.n_range ?_
          exact ev_int
        · exact evg_name 3 sc_law.nd
        · refine evss_one ?_
          refine evs_if ?_ ?_ ?_
          · refine evt_not ?_
            refine evt_truth ?_
            refine ev_lend 2 (ok__law_right T) (hr.mono (by decide)) hg tk T.g__law_right T.F__law_right.kp T.b__law_right .nil (fun _ => .nil) ?_
            exact eva_nil
          · refine evss_one ?_
            refine evs_ret ?_
            exact ev_bl
          · exact evss_nil
  · refine evss_cons ?_ ?_
    · refine evs_set 4 ?_ sc_law.nd
      refine ev_lst ?_
      refine evf_lst ?_
      refine eva_cons ?_ ?_
      · refine ev_lamT (k := 5) (fine := "fine") (cs := cs__law_word) (sub := subK) (Ng := ["call", "error"]) hg (hr.mono (by decide)) ⟨T.lc_law⟩ (word__law_word T _ rfl rfl rfl rfl hg (hr.mono (by decide))) ?_
        refine ⟨lamS_by (sc := defScope s_law) (by decide +kernel), rfl, fun _ _ _ _ _ => rfl, fun A2 o2 s2 H2 E2 f2 c2 hr2 hg2 => ?_⟩
        refine ev_call (ok_power T) (hr2.mono (by decide)) hg2 (takes_of rfl rfl rfl rfl) T.g_power T.F_power.kp T.b_power .nil (fun _ => .nil) ?_
        refine eva_cons ?_ ?_
        · refine ev_tup ?_
          refine eva_cons ?_ ?_
          · exact ev_int
          · refine eva_cons ?_ ?_
            · exact ev_int
            · exact eva_nil
        · refine eva_cons ?_ ?_
          · exact ev_int
          · exact eva_nil
      · refine eva_cons ?_ ?_
        · refine ev_lamT (k := 5) (fine := "fine") (cs := cs__law_word) (sub := subK) (Ng := ["call", "error"]) hg (hr.mono (by decide)) ⟨T.lc_law⟩ (word__law_word T _ rfl rfl rfl rfl hg (hr.mono (by decide))) ?_
          refine ⟨lamS_by (sc := defScope s_law) (by decide +kernel), rfl, fun _ _ _ _ _ => rfl, fun A2 o2 s2 H2 E2 f2 c2 hr2 hg2 => ?_⟩
          refine ev_call (ok_power T) (hr2.mono (by decide)) hg2 (takes_of rfl rfl rfl rfl) T.g_power T.F_power.kp T.b_power .nil (fun _ => .nil) ?_
          refine eva_cons ?_ ?_
          · refine ev_tup ?_
            refine eva_cons ?_ ?_
            · exact ev_int
            · refine eva_cons ?_ ?_
              · exact ev_int
              · exact eva_nil
          · refine eva_cons ?_ ?_
            · exact ev_int
            · exact eva_nil
        · exact eva_nil
    · refine evss_cons ?_ ?_
      · refine evs_set 4 ?_ sc_law.nd
        refine ev_op ov_add ?_ ?_
        · exact ev_name 4
        · refine ev_lst ?_
          refine evf_lst ?_
          refine eva_cons ?_ ?_
          · refine ev_lamT (k := 5) (fine := "fine") (cs := cs__law_word) (sub := subK) (Ng := ["call", "error"]) hg (hr.mono (by decide)) ⟨T.lc_law⟩ (word__law_word T _ rfl rfl rfl rfl hg (hr.mono (by decide))) ?_
            refine ⟨lamS_by (sc := defScope s_law) (by decide +kernel), rfl, fun _ _ _ _ _ => rfl, fun A2 o2 s2 H2 E2 f2 c2 hr2 hg2 => ?_⟩
            refine ev_call (ok_total T) (hr2.mono (by decide)) hg2 (takes_of rfl rfl rfl rfl) T.g_total T.F_total.kp T.b_total .nil (fun _ => .nil) ?_
            refine eva_cons ?_ ?_
            · refine ev_lst ?_
              refine evf_lst ?_
              refine eva_cons ?_ ?_
              · refine ev_tup ?_
                refine eva_cons ?_ ?_
                · exact ev_int
                · refine eva_cons ?_ ?_
                  · exact ev_int
                  · exact eva_nil
              · exact eva_nil
            · exact eva_nil
          · refine eva_cons ?_ ?_
            · refine ev_lamT (k := 5) (fine := "fine") (cs := cs__law_word) (sub := subK) (Ng := ["call", "error"]) hg (hr.mono (by decide)) ⟨T.lc_law⟩ (word__law_word T _ rfl rfl rfl rfl hg (hr.mono (by decide))) ?_
              refine ⟨lamS_by (sc := defScope s_law) (by decide +kernel), rfl, fun _ _ _ _ _ => rfl, fun A2 o2 s2 H2 E2 f2 c2 hr2 hg2 => ?_⟩
              refine ev_call (ok_number T) (hr2.mono (by decide)) hg2 (takes_of rfl rfl rfl rfl) T.g_number T.F_number.kp T.b_number .nil (fun _ => .nil) ?_
              refine eva_cons ?_ ?_
              · exact ev_int
              · refine eva_cons ?_ ?_
                · exact ev_int
                · exact eva_nil
            · exact eva_nil
      · refine evss_one ?_
        refine evs_ret ?_
        refine ev_cmp (ov_eq hr.units) ?_ ?_
        · exact ev_name 4
        · refine ev_lst ?_
          refine evf_lst ?_
          refine eva_cons ?_ ?_
          · exact ev_str
          · refine eva_cons ?_ ?_
            · exact ev_str
            · refine eva_cons ?_ ?_
              · exact ev_str
              · refine eva_cons ?_ ?_
                · exact ev_str
                · exact eva_nil
end
end Kw
namespace Kw
open PySem PySem.Spec PyProof.Rows L2 Fx

/-! ### what the law draws -/
def Dice (n : Nat) (cs : List PyData) : Prop := ∃ (g sd : Int) (k : Nat), cs = [.int g, .int sd, .int k] ∧ k ≤ n
theorem Dice.mono {n m : Nat} {cs : List PyData} (h : Dice n cs) (k : n ≤ m) : Dice m cs := by
  obtain ⟨g, sd, j, e, l⟩ := h
  exact ⟨g, sd, j, e, Nat.le_trans l k⟩
theorem pow_ok {i j : Int} (h0 : 0 ≤ j) (h : (Builtin.Int.intBits i : Int) * j ≤ 2 ^ 27) : gPow (.int i) (.int j) = some (.int (i ^ j.toNat)) := if_pos ⟨h0, h⟩
theorem dice_ok (ns : List Int) {spot : Nat} (h6 : spot < 1000) : ∃ cs, c__law_dice [scrD (ns.map PyData.int), .int spot] = .ok (.f cs) ∧ Dice 0 cs := by
  obtain ⟨P1, hP1, p1⟩ : ∃ P1 : Int, gPow (.int 10) (.int 53) = some (.int P1) ∧ P1 = 10 ^ 53 := ⟨_, pow_ok (by decide) (by decide), rfl⟩
  obtain ⟨P, hP, hP0⟩ : ∃ P : Int, gPow (.int P1) (.int 6) = some (.int P) ∧ 0 < P := ⟨_, pow_ok (by decide) (by subst p1; decide), by subst p1; decide⟩
  obtain ⟨P2, hP2⟩ : ∃ P2 : Int, gPow (.int 10) (.int 16) = some (.int P2) := ⟨_, pow_ok (by decide) (by decide)⟩
  have m1 : gMul (.int 131) (.int spot) = some (.int (131 * spot)) := mul_bd (n := 8) (m := 10) (show _ < _ by decide) (show _ < _ by omega) (by decide)
  have m2 : gMul (.int 619) (.int spot) = some (.int (619 * spot)) := mul_bd (n := 10) (m := 10) (show _ < _ by decide) (show _ < _ by omega) (by decide)
  have m3 : ∀ x : Int, gMul (.int (x % 2305843009213693907)) (.int 73) = some (.int (x % 2305843009213693907 * 73)) := fun x => mul_bd (n := 61) (m := 7) (show _ < _ by omega) (show _ < _ by decide) (by decide)
  have m4 : gMul (.int 41) (.int 1) = some (.int 41) := rfl
  have m5 : gMul (.int 41) (.int 0) = some (.int 0) := rfl
  have md : ∀ x : Int, gMod (.int x) (.int 2305843009213693907) = some (.int (x % 2305843009213693907)) := fun x => mod_ok (by decide)
  have mP : ∀ x : Int, gMod (.int x) (.int P) = some (.int (x % P)) := fun x => mod_ok hP0
  have core : ∀ c : Int, ∃ cs, (mSeq (mG (gSet 3) (mOp gMod (mCallV gInt (mCons (mCallV gAbs (mCons (mName 2) (mNil))) (mNil))) (mOp gPow (mOp gPow (M.ret (.int 10)) (M.ret (.int 53))) (M.ret (.int 6))))) (mSeq (mG (gSet 4) (mOp gAdd (mOp gAdd (mOp gAdd (mOp gMul (mOp gMod (mName 3) (M.ret (.int 2305843009213693907))) (M.ret (.int 73))) (mOp gMul (M.ret (.int 619)) (mName 1))) (mOp gMul (M.ret (.int 41)) (mCallV gInt (mCons (mOp gLt (mName 2) (M.ret (.int 0))) (mNil))))) (M.ret (.int 17)))) (mRetF (mLstD (mCons (mCallV gMax (mCons (M.ret (.int 0)) (mCons (mOp gSub (mName 3) (mOp gPow (M.ret (.int 10)) (M.ret (.int 16)))) (mNil)))) (mCons (mName 4) (mCons (M.ret (.int 0)) (mNil)))))))) [.va (scrD (ns.map PyData.int)), .va (.int spot), .va (.int c), .no, .no] = .ok (.rt (.f cs), [.va (scrD (ns.map PyData.int)), .va (.int spot), .va (.int c), .va (.int (c.natAbs % P)), .va (.int (c.natAbs % P % 2305843009213693907 * 73 + 619 * spot + (if c < 0 then 41 else 0) + 17))]) ∧ Dice 0 cs := fun c => by
    refine ⟨[.int (if 0 < (c.natAbs % P - P2 : Int) then c.natAbs % P - P2 else 0), .int (c.natAbs % P % 2305843009213693907 * 73 + 619 * spot + (if c < 0 then 41 else 0) + 17), .int 0], ?_, _, _, 0, rfl, Nat.le_refl _⟩
    by_cases z : c < 0
    · simp [hP1, hP, hP2, m2, m3, md, mP, z, m4]
    · simp [hP1, hP, hP2, m2, m3, md, mP, z, m5]
  by_cases z : (spot : Int) < ns.length
  · have ix : gIx (scrD (ns.map PyData.int)) (.int spot) = some (.int (ns[spot]'(by omega))) := by
      show atI (ns.map PyData.int) spot = _
      simp [atI, ixN, z]
    obtain ⟨cs, e, d⟩ := core (ns[spot]'(by omega))
    refine ⟨cs, ?_, d⟩
    have e1 : mG (gSet 2) (mIf (mBool (mOp gLt (mName 1) (mCallV gLen (mCons (mName 0) (mNil))))) (mCallV gInt (mCons (mIx (mName 0) (mName 1)) (mNil))) (mOp gAdd (mOp gMul (M.ret (.int 131)) (mName 1)) (M.ret (.int 37)))) [.va (scrD (ns.map PyData.int)), .va (.int spot), .no, .no, .no] = .ok (.nx, [.va (scrD (ns.map PyData.int)), .va (.int spot), .va (.int (ns[spot]'(by omega))), .no, .no]) := by
      simp [z, ix]
    exact defP_rt rfl (seq_ok e1 e)
  · obtain ⟨cs, e, d⟩ := core (131 * spot + 37)
    refine ⟨cs, ?_, d⟩
    have e1 : mG (gSet 2) (mIf (mBool (mOp gLt (mName 1) (mCallV gLen (mCons (mName 0) (mNil))))) (mCallV gInt (mCons (mIx (mName 0) (mName 1)) (mNil))) (mOp gAdd (mOp gMul (M.ret (.int 131)) (mName 1)) (M.ret (.int 37)))) [.va (scrD (ns.map PyData.int)), .va (.int spot), .no, .no, .no] = .ok (.nx, [.va (scrD (ns.map PyData.int)), .va (.int spot), .va (.int (131 * spot + 37)), .no, .no]) := by
      simp [z, m1]
    exact defP_rt rfl (seq_ok e1 e)
theorem roll_ok {n : Nat} {cs : List PyData} (D : Dice n cs) (hn : n < 100000) {m : Int} (h0 : 0 < m) (hm : Bd 8000 m) : ∃ (x : Int) (cs' : List PyData), c__law_roll cs [.int m] = .ok (.v (.int x), cs') ∧ Dice (n + 1) cs' ∧ 0 ≤ x ∧ x < m := by
  obtain ⟨g, sd, k, rfl, hk⟩ := D
  have md : ∀ x : Int, gMod (.int x) (.int m) = some (.int (x % m)) := fun x => mod_ok h0
  by_cases z : 0 < g
  · refine ⟨g % m, [.int (g / m), .int sd, .int k], ?_, ⟨_, _, k, rfl, by omega⟩, Int.emod_nonneg _ (by omega), Int.emod_lt_of_pos _ h0⟩
    simp [c__law_roll, m__law_roll, z, md, fdiv_bd hm h0, ixN]
  · obtain ⟨one, ho⟩ : ∃ one : Int, one = (sd + 49979687 * (k + 1 : Nat)) % 2305843009213693951 := ⟨_, rfl⟩
    have b1 : Bd 61 one := by
      subst ho
      show _ < _
      omega
    obtain ⟨two, ht⟩ : ∃ two : Int, two = (one * one + 131 * (k + 1 : Nat)) % 2305843009213693921 := ⟨_, rfl⟩
    have b2 : Bd 61 two := by
      subst ht
      show _ < _
      omega
    have k1 : Bd 20 ((k + 1 : Nat) : Int) := show _ < _ by omega
    have m1 : gMul (.int 49979687) (.int (k + 1)) = some (.int (49979687 * (k + 1))) := mul_bd (n := 26) (show _ < _ by decide) k1 (by decide)
    have m2 : gMul (.int one) (.int one) = some (.int (one * one)) := mul_bd b1 b1 (by decide)
    have m3 : gMul (.int 131) (.int (k + 1)) = some (.int (131 * (k + 1))) := mul_bd (n := 8) (show _ < _ by decide) k1 (by decide)
    have m4 : gMul (.int two) (.int 32452843) = some (.int (two * 32452843)) := mul_bd (m := 26) b2 (show _ < _ by decide) (by decide)
    have d1 : gMod (.int (sd + 49979687 * (k + 1))) (.int 2305843009213693951) = some (.int one) := by rw [ho]; exact mod_ok (by decide)
    have d2 : gMod (.int (one * one + 131 * (k + 1))) (.int 2305843009213693921) = some (.int two) := by rw [ht]; exact mod_ok (by decide)
    have f1 : gFdiv (.int (two * 32452843 + one)) (.int 65587) = some (.int ((two * 32452843 + one) / 65587)) := fdiv_bd (n := 17) (show _ < _ by decide) (by decide) (by decide)
    refine ⟨(two * 32452843 + one) / 65587 % m, [.int g, .int sd, .int (k + 1 : Nat)], ?_, ⟨_, _, k + 1, rfl, by omega⟩, Int.emod_nonneg _ (by omega), Int.emod_lt_of_pos _ h0⟩
    simp [c__law_roll, m__law_roll, z, md, ixN, m1, m2, m3, m4, d1, d2, f1]
theorem bd_lt {n : Nat} {m : Int} (h0 : 0 ≤ m) (h : m < 2 ^ n) : Bd n m := by
  have e : ((2 ^ n : Nat) : Int) = (2 : Int) ^ n := by simp
  show m.natAbs < 2 ^ n
  omega
theorem pick_ok {n : Nat} {cs : List PyData} (D : Dice n cs) (hn : n < 100000) {xs : List PyData} (h0 : 0 < xs.length) (hl : xs.length < 1000000) : ∃ (d : PyData) (cs' : List PyData), c__law_pick cs [.list xs] = .ok (.v d, cs') ∧ Dice (n + 1) cs' ∧ d ∈ xs := by
  obtain ⟨x, cs', e, D', h1, h2⟩ := roll_ok D hn (m := xs.length) (by omega) (bd_lt (by omega) (Int.lt_of_lt_of_le (show _ < (2 : Int) ^ 20 by omega) (by decide)))
  have hx : gIx (.list xs) (.int x) = some (xs[x.toNat]'(by omega)) := by
    show atI xs x = _
    simp [atI, ixN, h1, h2]
  refine ⟨xs[x.toNat]'(by omega), cs', ?_, D', List.getElem_mem _⟩
  simp [c__law_pick, m__law_pick, e, hx]
end Kw
namespace Kw
open PySem PySem.Spec PyProof.Rows L2 Fx
def rA : M Fl := mG (gUnp (gsCons (gSet 9) (gsCons (gSet 10) (gsNil))) 2) (mTup (mCons (mLend c__law_some 0 [] (mNil)) (mCons (mLend c__law_some 0 [] (mNil)) (mNil))))
def rB : M Fl := mSeq (mPar2 1 2 (mCons (mAndV (mIsi isIntT (mName 9)) (mNotV (mIsi isBoolT (mName 9)))) (mCons (mNotV (mCall c__law_is_number [] (mCons (mName 9) (mNil)))) (mNil)))) (mSeq (mIf (mBool (mOp gNe (mCallV gRepr (mCons (mLst (mLstD (mCons (mCall c_is_integer [] (mCons (mName 9) (mNil))) (mCons (mCall c_is_name [] (mCons (mName 9) (mNil))) (mCons (mCall c_is_number [] (mCons (mName 9) (mNil))) (mNil)))))) (mNil))) (mCallV gRepr (mCons (mLst (mLstD (mCons (mName 1) (mCons (mCall c__law_is_name [] (mCons (mName 9) (mNil))) (mCons (mNotV (mName 2)) (mNil)))))) (mNil))))) (mRet (M.ret (.bool false))) (mSkip)) (mSeq (mG (gUnp (gsCons (gSet 8) (gsCons (gSet 3) (gsNil))) 2) (mTup (mCons (mTup (mCons (M.ret (.int 3)) (mCons (M.ret (.int 2)) (mNil)))) (mCons (mIf (mTruth (mName 2)) (M.ret (.str "fraction")) (M.ret (.str "fine"))) (mNil))))) (mSeq (mG (gSet 4) (mLst (mLstD (mCons (mWord subK cs__law_word 2 "fine" (mCall c_plus [] (mCons (mName 9) (mCons (mName 10) (mNil))))) (mCons (mWord subK cs__law_word 2 "fine" (mCall c_minus [] (mCons (mName 8) (mCons (mName 9) (mNil))))) (mNil)))))) (mSeq (mG (gSet 4) (mOp gAdd (mName 4) (mLst (mLstD (mCons (mWord subK cs__law_word 2 "fine" (mCall c_times [] (mCons (mName 9) (mCons (mName 8) (mNil))))) (mCons (mWord subK cs__law_word 2 "fine" (mCall c_compared [] (mCons (mName 8) (mCons (mName 9) (mNil))))) (mNil))))))) (mSeq (mSetF 5 (mAddF (mLst (mLstD (mCons (mIf (mAnd (mNot (mTruth (mName 2))) (mTruth (mCall c__law_is_number [] (mCons (mName 10) (mNil))))) (M.ret (.str "fine")) (M.ret (.str "fraction"))) (mNil)))) (mOp gMul (mLst (mLstD (mCons (mName 3) (mNil)))) (M.ret (.int 3))))) (mSeq (mG (gSet 4) (mOp gAdd (mName 4) (mLst (mLstD (mCons (mWord subK cs__law_word 2 "fine" (mCall c_over [] (mCons (mName 9) (mCons (mTup (mCons (M.ret (.int 0)) (mCons (M.ret (.int 1)) (mNil)))) (mNil))))) (mCons (mWord subK cs__law_word 2 "fine" (mCall c_over [] (mCons (mName 8) (mCons (mName 9) (mNil))))) (mNil))))))) (mSeq (mSetF 5 (mAddF (mName 5) (mLst (mLstD (mCons (mIf (mTruth (mName 2)) (M.ret (.str "fraction")) (M.ret (.str "refused ('nought',)"))) (mNil)))))) (mSeq (mApp 5 (mIf (mBool (mOp gEq (mCallV gRepr (mCons (mName 9) (mNil))) (M.ret (.str "(0, 1)")))) (M.ret (.str "refused ('nought',)")) (mName 3))) (mSeq (mG (gSet 4) (mOp gAdd (mName 4) (mLst (mLstD (mCons (mWord subK cs__law_word 2 "fine" (mCall c_total [] (mCons (mTup (mCons (mName 8) (mCons (mName 9) (mNil)))) (mNil)))) (mCons (mWord subK cs__law_word 2 "fine" (mCall c_total [] (mCons (mName 9) (mNil)))) (mNil))))))) (mSeq (mSetF 5 (mAddF (mName 5) (mLst (mLstD (mCons (mName 3) (mCons (mIf (mBool (mOp gEq (mCallV gRepr (mCons (mName 9) (mNil))) (M.ret (.str "()")))) (M.ret (.str "fine")) (M.ret (.str "fraction"))) (mNil))))))) (mSeq (mG (gSet 4) (mOp gAdd (mName 4) (mLst (mLstD (mCons (mWord subK cs__law_word 2 "fine" (mCall c_power [] (mCons (mName 9) (mCons (mNeg (M.ret (.int 1))) (mNil))))) (mCons (mWord subK cs__law_word 2 "fine" (mCall c_power [] (mCons (mName 8) (mCons (mName 9) (mNil))))) (mNil))))))) (mSeq (mSetF 5 (mAddF (mName 5) (mLst (mLstD (mCons (mIf (mTruth (mName 2)) (M.ret (.str "fraction")) (M.ret (.str "count -1"))) (mNil)))))) (mSeq (mApp 5 (mIf (mAnd (mTruth (mName 1)) (mBool (mChain gLe gLe (M.ret (.int 0)) (mName 9) (M.ret (.int 60))))) (M.ret (.str "fine")) (mOp gAdd (M.ret (.str "count ")) (mCallV gRepr (mCons (mName 9) (mNil)))))) (mSeq (mIf (mBool (mOp gNe (mName 4) (mName 5))) (mRet (M.ret (.bool false))) (mSkip)) (mSeq (mG (gSet 6) (mAndV (mName 1) (mOp gLt (mCallV gAbs (mCons (mName 9) (mNil))) (mOp gPow (M.ret (.int 10)) (M.ret (.int 40)))))) (mSeq (mG (gSet 7) (mAndV (mIsi isIntT (mName 10)) (mAndV (mNotV (mIsi isBoolT (mName 10))) (mAndV (mOp gLt (mCallV gAbs (mCons (mName 10) (mNil))) (mOp gPow (M.ret (.int 10)) (M.ret (.int 40)))) (mOp gNe (mName 10) (M.ret (.int 0))))))) (mSeq (mG (gSet 4) (mLst (mLstD (mCons (mWord subK cs__law_word 2 "fine" (mCall c_number [] (mCons (mName 9) (mCons (mName 10) (mNil))))) (mCons (mWord subK cs__law_word 2 "fine" (mCall c_number [] (mCons (M.ret (.int 4)) (mCons (mName 9) (mNil))))) (mNil)))))) (mSeq (mG (gSet 5) (mIf (mNot (mTruth (mName 6))) (mOp gAdd (M.ret (.str "count ")) (mCallV gRepr (mCons (mName 9) (mNil)))) (mIf (mTruth (mName 7)) (M.ret (.str "fine")) (mOp gAdd (M.ret (.str "count ")) (mCallV gRepr (mCons (mName 10) (mNil))))))) (mRet (mOp gEq (mName 4) (mLst (mLstD (mCons (mName 5) (mCons (mIf (mAnd (mTruth (mName 6)) (mBool (mOp gNe (mName 9) (M.ret (.int 0))))) (M.ret (.str "fine")) (mOp gAdd (M.ret (.str "count ")) (mCallV gRepr (mCons (mName 9) (mNil))))) (mNil)))))))))))))))))))))))))
theorem right_split : m__law_right = mSeq rA rB := rfl
def someL : List PyData := [.none, .bool true, .bool false, .int 0, .int 1, .int (-3), .int (10 ^ 39), .str "a", .str "", .str "up.2", .str "2up", .str "Up", .str "a b", .str "abcdefghijkl", .str "abcdefghijklm",
  .tuple [], .tuple [.int 0, .int 1], .tuple [.int 1, .int 1], .tuple [.int 2, .int 4], .tuple [.int 0, .int 2], .tuple [.int 1, .int 0], .tuple [.int 1, .int (-2)], .tuple [.int (-1), .int 2], .tuple [.bool true, .int 1], .tuple [.int 1, .bool true], .list [.int 1, .int 2], .tuple [.int 1],
  .tuple [.int 1, .int 2, .int 3], .tuple [.int (10 ^ 39 + 1), .int (10 ^ 39)], .tuple [.tuple [.int 1, .int 1], .int 1], .tuple [.str "1", .int 1], .tuple [.none, .int 1], .str "1/2", .dict [], .dict [(.int 1, .int 2)], .str ".a", .str "a."]
def res (cs : List PyData) (v w : PyData) : Option (List PyData) :=
  match rB [.bo cs, .no, .no, .no, .no, .no, .no, .no, .no, .va v, .va w] with
  | .ok (.rt (.v (.bool true)), .bo c :: _) => some c
  | _ => none
end Kw
namespace Kw
open PySem PySem.Spec PyProof.Rows L2 Fx
def Row (v : PyData) : Prop := ∀ cs : List PyData, (someL.map fun w => res cs v w) = someL.map fun w => some cs
theorem row0 : Row (.none) := fun cs => by kernel_rfl
theorem row1 : Row (.bool true) := fun cs => by kernel_rfl
theorem row2 : Row (.bool false) := fun cs => by kernel_rfl
theorem row3 : Row (.int 0) := fun cs => by kernel_rfl
theorem row4 : Row (.int 1) := fun cs => by kernel_rfl
theorem row5 : Row (.int (-3)) := fun cs => by kernel_rfl
theorem row6 : Row (.int (10 ^ 39)) := fun cs => by kernel_rfl
theorem row7 : Row (.str "a") := fun cs => by kernel_rfl
theorem row8 : Row (.str "") := fun cs => by kernel_rfl
theorem row9 : Row (.str "up.2") := fun cs => by kernel_rfl
theorem row10 : Row (.str "2up") := fun cs => by kernel_rfl
theorem row11 : Row (.str "Up") := fun cs => by kernel_rfl
theorem row12 : Row (.str "a b") := fun cs => by kernel_rfl
theorem row13 : Row (.str "abcdefghijkl") := fun cs => by kernel_rfl
theorem row14 : Row (.str "abcdefghijklm") := fun cs => by kernel_rfl
theorem row15 : Row (.tuple []) := fun cs => by kernel_rfl
theorem row16 : Row (.tuple [.int 0, .int 1]) := fun cs => by kernel_rfl
theorem row17 : Row (.tuple [.int 1, .int 1]) := fun cs => by kernel_rfl
theorem row18 : Row (.tuple [.int 2, .int 4]) := fun cs => by kernel_rfl
theorem row19 : Row (.tuple [.int 0, .int 2]) := fun cs => by kernel_rfl
theorem row20 : Row (.tuple [.int 1, .int 0]) := fun cs => by kernel_rfl
theorem row21 : Row (.tuple [.int 1, .int (-2)]) := fun cs => by kernel_rfl
theorem row22 : Row (.tuple [.int (-1), .int 2]) := fun cs => by kernel_rfl
theorem row23 : Row (.tuple [.bool true, .int 1]) := fun cs => by kernel_rfl
theorem row24 : Row (.tuple [.int 1, .bool true]) := fun cs => by kernel_rfl
theorem row25 : Row (.list [.int 1, .int 2]) := fun cs => by kernel_rfl
theorem row26 : Row (.tuple [.int 1]) := fun cs => by kernel_rfl
theorem row27 : Row (.tuple [.int 1, .int 2, .int 3]) := fun cs => by kernel_rfl
theorem row28 : Row (.tuple [.int (10 ^ 39 + 1), .int (10 ^ 39)]) := fun cs => by kernel_rfl
theorem row29 : Row (.tuple [.tuple [.int 1, .int 1], .int 1]) := fun cs => by kernel_rfl
theorem row30 : Row (.tuple [.str "1", .int 1]) := fun cs => by kernel_rfl
theorem row31 : Row (.tuple [.none, .int 1]) := fun cs => by kernel_rfl
theorem row32 : Row (.str "1/2") := fun cs => by kernel_rfl
theorem row33 : Row (.dict []) := fun cs => by kernel_rfl
theorem row34 : Row (.dict [(.int 1, .int 2)]) := fun cs => by kernel_rfl
theorem row35 : Row (.str ".a") := fun cs => by kernel_rfl
theorem row36 : Row (.str "a.") := fun cs => by kernel_rfl
theorem all_rows (cs : List PyData) {v : PyData} (hv : v ∈ someL) : (someL.map fun w => res cs v w) = someL.map fun w => some cs := by
  have h : ∀ v ∈ someL, Row v := by
    unfold someL
    intro v hv
    rcases List.mem_cons.mp hv with rfl | hv
    · exact row0
    rcases List.mem_cons.mp hv with rfl | hv
    · exact row1
    rcases List.mem_cons.mp hv with rfl | hv
    · exact row2
    rcases List.mem_cons.mp hv with rfl | hv
    · exact row3
    rcases List.mem_cons.mp hv with rfl | hv
    · exact row4
    rcases List.mem_cons.mp hv with rfl | hv
    · exact row5
    rcases List.mem_cons.mp hv with rfl | hv
    · exact row6
    rcases List.mem_cons.mp hv with rfl | hv
    · exact row7
    rcases List.mem_cons.mp hv with rfl | hv
    · exact row8
    rcases List.mem_cons.mp hv with rfl | hv
    · exact row9
    rcases List.mem_cons.mp hv with rfl | hv
    · exact row10
    rcases List.mem_cons.mp hv with rfl | hv
    · exact row11
    rcases List.mem_cons.mp hv with rfl | hv
    · exact row12
    rcases List.mem_cons.mp hv with rfl | hv
    · exact row13
    rcases List.mem_cons.mp hv with rfl | hv
    · exact row14
    rcases List.mem_cons.mp hv with rfl | hv
    · exact row15
    rcases List.mem_cons.mp hv with rfl | hv
    · exact row16
    rcases List.mem_cons.mp hv with rfl | hv
    · exact row17
    rcases List.mem_cons.mp hv with rfl | hv
    · exact row18
    rcases List.mem_cons.mp hv with rfl | hv
    · exact row19
    rcases List.mem_cons.mp hv with rfl | hv
    · exact row20
    rcases List.mem_cons.mp hv with rfl | hv
    · exact row21
    rcases List.mem_cons.mp hv with rfl | hv
    · exact row22
    rcases List.mem_cons.mp hv with rfl | hv
    · exact row23
    rcases List.mem_cons.mp hv with rfl | hv
    · exact row24
    rcases List.mem_cons.mp hv with rfl | hv
    · exact row25
    rcases List.mem_cons.mp hv with rfl | hv
    · exact row26
    rcases List.mem_cons.mp hv with rfl | hv
    · exact row27
    rcases List.mem_cons.mp hv with rfl | hv
    · exact row28
    rcases List.mem_cons.mp hv with rfl | hv
    · exact row29
    rcases List.mem_cons.mp hv with rfl | hv
    · exact row30
    rcases List.mem_cons.mp hv with rfl | hv
    · exact row31
    rcases List.mem_cons.mp hv with rfl | hv
    · exact row32
    rcases List.mem_cons.mp hv with rfl | hv
    · exact row33
    rcases List.mem_cons.mp hv with rfl | hv
    · exact row34
    rcases List.mem_cons.mp hv with rfl | hv
    · exact row35
    rcases List.mem_cons.mp hv with rfl | hv
    · exact row36
    cases hv
  exact h v hv cs
end Kw
namespace Kw
open PySem PySem.Spec PyProof.Rows L2 Fx
def wA : M Fl := mFor (gSet 1) (mSeq (mSetF 2 (mCallF c__law_dice [] (mCons (mName 0) (mCons (mName 1) (mNil))))) (mFor (gSet 3) (mIf (mNot (mTruth (mLend c__law_right 2 [] (mNil)))) (mRet (M.ret (.bool false))) (mSkip)) (mRng1 (M.ret (.int 8))))) (mRng1 (mCallV gMax (mCons (M.ret (.int 1)) (mCons (mCallV gMin (mCons (M.ret (.int 6)) (mCons (mCallV gLen (mCons (mName 0) (mNil))) (mNil)))) (mNil)))))
def wB : M Fl := mSeq (mG (gSet 4) (mLst (mLstD (mCons (mWord subK cs__law_word 2 "fine" (mCall c_power [] (mCons (mTup (mCons (M.ret (.int 1)) (mCons (M.ret (.int 2)) (mNil)))) (mCons (M.ret (.int 61)) (mNil))))) (mCons (mWord subK cs__law_word 2 "fine" (mCall c_power [] (mCons (mTup (mCons (M.ret (.int 1)) (mCons (M.ret (.int 2)) (mNil)))) (mCons (M.ret (.int 60)) (mNil))))) (mNil)))))) (mSeq (mG (gSet 4) (mOp gAdd (mName 4) (mLst (mLstD (mCons (mWord subK cs__law_word 2 "fine" (mCall c_total [] (mCons (mLst (mLstD (mCons (mTup (mCons (M.ret (.int 1)) (mCons (M.ret (.int 1)) (mNil)))) (mNil)))) (mNil)))) (mCons (mWord subK cs__law_word 2 "fine" (mCall c_number [] (mCons (M.ret (.int 1)) (mCons (M.ret (.int 0)) (mNil))))) (mNil))))))) (mRet (mOp gEq (mName 4) (mLst (mLstD (mCons (M.ret (.str "count 61")) (mCons (M.ret (.str "fine")) (mCons (M.ret (.str "fraction")) (mCons (M.ret (.str "count 0")) (mNil))))))))))
theorem law_split : m_law = mSeq wA wB := rfl
def oA : M Fl := mG (gSet 1) (mLst (mLstD (mCons (M.ret (.none)) (mCons (M.ret (.bool true)) (mCons (M.ret (.bool false)) (mCons (M.ret (.int 0)) (mCons (M.ret (.int 1)) (mCons (mNeg (M.ret (.int 3))) (mCons (mOp gPow (M.ret (.int 10)) (M.ret (.int 39))) (mCons (M.ret (.str "a")) (mCons (M.ret (.str "")) (mCons (M.ret (.str "up.2")) (mCons (M.ret (.str "2up")) (mCons (M.ret (.str "Up")) (mCons (M.ret (.str "a b")) (mCons (M.ret (.str "abcdefghijkl")) (mCons (M.ret (.str "abcdefghijklm")) (mNil))))))))))))))))))
def oB : M Fl := mG (gSet 1) (mOp gAdd (mName 1) (mLst (mLstD (mCons (mTup (mNil)) (mCons (mTup (mCons (M.ret (.int 0)) (mCons (M.ret (.int 1)) (mNil)))) (mCons (mTup (mCons (M.ret (.int 1)) (mCons (M.ret (.int 1)) (mNil)))) (mCons (mTup (mCons (M.ret (.int 2)) (mCons (M.ret (.int 4)) (mNil)))) (mCons (mTup (mCons (M.ret (.int 0)) (mCons (M.ret (.int 2)) (mNil)))) (mCons (mTup (mCons (M.ret (.int 1)) (mCons (M.ret (.int 0)) (mNil)))) (mCons (mTup (mCons (M.ret (.int 1)) (mCons (mNeg (M.ret (.int 2))) (mNil)))) (mCons (mTup (mCons (mNeg (M.ret (.int 1))) (mCons (M.ret (.int 2)) (mNil)))) (mCons (mTup (mCons (M.ret (.bool true)) (mCons (M.ret (.int 1)) (mNil)))) (mCons (mTup (mCons (M.ret (.int 1)) (mCons (M.ret (.bool true)) (mNil)))) (mCons (mLst (mLstD (mCons (M.ret (.int 1)) (mCons (M.ret (.int 2)) (mNil))))) (mCons (mTup (mCons (M.ret (.int 1)) (mNil))) (mNil))))))))))))))))
def oC : M Fl := mG (gSet 1) (mOp gAdd (mName 1) (mLst (mLstD (mCons (mTup (mCons (M.ret (.int 1)) (mCons (M.ret (.int 2)) (mCons (M.ret (.int 3)) (mNil))))) (mCons (mTup (mCons (mOp gAdd (mOp gPow (M.ret (.int 10)) (M.ret (.int 39))) (M.ret (.int 1))) (mCons (mOp gPow (M.ret (.int 10)) (M.ret (.int 39))) (mNil)))) (mCons (mTup (mCons (mTup (mCons (M.ret (.int 1)) (mCons (M.ret (.int 1)) (mNil)))) (mCons (M.ret (.int 1)) (mNil)))) (mCons (mTup (mCons (M.ret (.str "1")) (mCons (M.ret (.int 1)) (mNil)))) (mCons (mTup (mCons (M.ret (.none)) (mCons (M.ret (.int 1)) (mNil)))) (mCons (M.ret (.str "1/2")) (mCons (M.ret (.dict [])) (mCons (M.ret (.dict [(.int 1, .int 2)])) (mCons (M.ret (.str ".a")) (mCons (M.ret (.str "a.")) (mNil))))))))))))))
def oD : M Fl := mRet (mLend c__law_pick 0 [] (mCons (mName 1) (mNil)))
theorem some_split : m__law_some = mSeq oA (mSeq oB (mSeq oC oD)) := rfl
def envO : Res (Fl × Vn) → Vn
  | .ok (_, e) => e
  | _ => []
theorem some_ok {n : Nat} {cs : List PyData} (D : Dice n cs) (hn : n < 100000) : ∃ (d : PyData) (cs' : List PyData), c__law_some cs [] = .ok (.v d, cs') ∧ Dice (n + 1) cs' ∧ d ∈ someL := by
  obtain ⟨d, c1, e1, D1, hd⟩ := pick_ok D hn (xs := someL) (by decide) (by decide)
  refine ⟨d, c1, defB_rtE rfl ?_, D1, hd⟩
  have st : setOwn [.bo cs, .va (.list someL)] 0 c1 = [.bo c1, .va (.list someL)] := rfl
  rw [some_split]
  refine seq_okE (e1 := envO (oA [.bo cs, .no])) (by kernel_rfl) (seq_okE (e1 := envO (oB (envO (oA [.bo cs, .no])))) (by kernel_rfl) (seq_okE (e1 := [.bo cs, .va (.list someL)]) (by kernel_rfl) ⟨[.va (.list someL)], ?_⟩))
  simp [oD, e1, st]
theorem res_ok {cs : List PyData} {v w : PyData} (hv : v ∈ someL) (hw : w ∈ someL) : ∃ e, rB [.bo cs, .no, .no, .no, .no, .no, .no, .no, .no, .va v, .va w] = .ok (.rt (.v (.bool true)), .bo cs :: e) := by
  have h2 := List.map_inj_left.mp (all_rows cs hv) w hw
  unfold res at h2
  split at h2
  · rename_i c e he
    cases h2
    exact ⟨e, he⟩
  · cases h2
theorem right_ok {n : Nat} {cs : List PyData} (D : Dice n cs) (hn : n < 90000) : ∃ cs', c__law_right cs [] = .ok (.v (.bool true), cs') ∧ Dice (n + 2) cs' := by
  obtain ⟨v, c1, e1, D1, hv⟩ := some_ok D (by omega)
  obtain ⟨w, c2, e2, D2, hw⟩ := some_ok D1 (by omega)
  refine ⟨c2, defB_rtE rfl ?_, D2⟩
  rw [right_split]
  refine seq_okE (e1 := [.bo c2, .no, .no, .no, .no, .no, .no, .no, .no, .va v, .va w]) ?_ (res_ok hv hw)
  have s1 : setOwn [.bo cs, .no, .no, .no, .no, .no, .no, .no, .no, .no, .no] 0 c1 = [.bo c1, .no, .no, .no, .no, .no, .no, .no, .no, .no, .no] := rfl
  have s2 : setOwn [.bo c1, .no, .no, .no, .no, .no, .no, .no, .no, .no, .no] 0 c2 = [.bo c2, .no, .no, .no, .no, .no, .no, .no, .no, .no, .no] := rfl
  simp [rA, e1, e2, s1, s2]
  rfl
theorem turns_ok (x0 x1 s4 : Sl) : ∀ (ds : List PyData) (n : Nat) (cs : List PyData) (s : Sl), Dice n cs → n + 2 * ds.length < 10000 → (s = .no ∨ ∃ d, s = .va d) → ∃ (cs' : List PyData) (s' : Sl), forM (gSet 3) (mIf (mNot (mTruth (mLend c__law_right 2 [] (mNil)))) (mRet (M.ret (.bool false))) (mSkip)) ds [x0, x1, .ow cs, s, s4] = .ok (.nx, [x0, x1, .ow cs', s', s4]) ∧ (s' = .no ∨ ∃ d, s' = .va d)
  | [], n, cs, s, D, _, hs => ⟨cs, s, rfl, hs⟩
  | d :: ds, n, cs, s, D, l, hs => by
    rw [List.length_cons] at l
    obtain ⟨c1, e1, D1⟩ := right_ok D (by omega)
    obtain ⟨c2, s2, e2, h2⟩ := turns_ok x0 x1 s4 ds (n + 2) c1 (.va d) D1 (by omega) (.inr ⟨d, rfl⟩)
    refine ⟨c2, s2, ?_, h2⟩
    have st : setOwn [x0, x1, .ow cs, .va d, s4] 2 c1 = [x0, x1, .ow c1, .va d, s4] := rfl
    rcases hs with rfl | ⟨d', rfl⟩ <;> simp [e1, st, e2]
theorem spots_ok (ns : List Int) (s4 : Sl) : ∀ (k : Nat) (i : Nat) (s1 s2 s3 : Sl), i + k < 1000 → (s1 = .no ∨ ∃ d, s1 = .va d) → (s2 = .no ∨ ∃ d, s2 = .ow d) → (s3 = .no ∨ ∃ d, s3 = .va d) → ∃ (t1 t2 t3 : Sl), forM (gSet 1) (mSeq (mSetF 2 (mCallF c__law_dice [] (mCons (mName 0) (mCons (mName 1) (mNil))))) (mFor (gSet 3) (mIf (mNot (mTruth (mLend c__law_right 2 [] (mNil)))) (mRet (M.ret (.bool false))) (mSkip)) (mRng1 (M.ret (.int 8))))) (rngD i k) [.va (scrD (ns.map PyData.int)), s1, s2, s3, s4] = .ok (.nx, [.va (scrD (ns.map PyData.int)), t1, t2, t3, s4])
  | 0, i, s1, s2, s3, _, _, _, _ => ⟨s1, s2, s3, rfl⟩
  | k + 1, i, s1, s2, s3, hk, h1, h2, h3 => by
    have er : rngD i (k + 1) = .int i :: rngD (i + 1 : Nat) k := by
      unfold rngD
      rw [List.range_succ_eq_map, List.map_cons, List.map_map]
      congr 1
      simp
      omega
    obtain ⟨c0, e0, D0⟩ := dice_ok ns (spot := i) (by omega)
    obtain ⟨c1, t3, e1, f3⟩ := turns_ok (.va (scrD (ns.map PyData.int))) (.va (.int i)) s4 (rngD 0 8) 0 c0 s3 D0 (by rw [rngD_len]; decide) h3
    obtain ⟨r1, r2, r3, e⟩ := spots_ok ns s4 k (i + 1) (.va (.int i)) (.ow c1) t3 (by omega) (.inr ⟨_, rfl⟩) (.inr ⟨_, rfl⟩) f3
    refine ⟨r1, r2, r3, ?_⟩
    rw [er]
    rcases h1 with rfl | ⟨d1, rfl⟩ <;> rcases h2 with rfl | ⟨d2, rfl⟩ <;> simp [e0, e1] <;> exact e
theorem law_true (ns : List Int) (hl : ns.length ≤ 63) : c_law [scrD (ns.map PyData.int)] = .ok (.v (.bool true)) := by
  obtain ⟨k, hk, ek⟩ : ∃ k : Nat, k < 1000 ∧ (if (1 : Int) < (if (ns.length : Int) < 6 then (ns.length : Int) else 6) then (if (ns.length : Int) < 6 then (ns.length : Int) else 6) else 1) = (k : Int) := by
    refine ⟨((if (1 : Int) < (if (ns.length : Int) < 6 then (ns.length : Int) else 6) then (if (ns.length : Int) < 6 then (ns.length : Int) else 6) else 1)).toNat, ?_, ?_⟩
    · split <;> (try split) <;> omega
    · split <;> (try split) <;> omega
  obtain ⟨t1, t2, t3, e1⟩ := spots_ok ns .no k 0 .no .no .no (by omega) (.inl rfl) (.inl rfl) (.inl rfl)
  have kl : (-1000000 : Int) ≤ k := by omega
  have kr : (k : Int) ≤ 1000000 := by omega
  have last : ∃ e, wB [.va (scrD (ns.map PyData.int)), t1, t2, t3, .no] = .ok (.rt (.v (.bool true)), e) := ⟨envO (wB [.va (scrD (ns.map PyData.int)), t1, t2, t3, .no]), by kernel_rfl⟩
  obtain ⟨e, e2⟩ := last
  refine defP_rt (e := e) rfl ?_
  rw [law_split]
  refine seq_ok (e1 := [.va (scrD (ns.map PyData.int)), t1, t2, t3, .no]) ?_ e2
  simp [wA, ek, kl, kr]
  exact e1
end Kw
set_option pp.maxSteps 40
namespace Kw
open PySem PySem.Spec PyProof.Rows L2 Fx LamX NdefX PySem.F PySem.W
abbrev Pw : Program := PySem.Challenge.pw_payroads_k22_errors_and_judges_of_number
abbrev i_InvalidCount : Stmt := cinit (topS 3) 0
abbrev i_Refused : Stmt := cinit (topS 4) 0
set_option maxHeartbeats 0 in
theorem all_mk {w : World} {K : PySem.W.Frag} {h : Heap} {mg : Str → Option Value} {fa : Addr} (X : K.In h) (G : h.Ns mainGlobals mg) (hfa : mg "law" = some (.ref fa))
    {f_is_integer : Addr} {oc_is_integer kV_is_integer dc_is_integer pm_is_integer ct_is_integer : Value} {od_is_integer an_is_integer : Option Addr} {sl_is_integer : Array (Option Value)}
    {cd_is_integer : Value}
    {f_is_name : Addr} {oc_is_name kV_is_name dc_is_name pm_is_name ct_is_name : Value} {od_is_name an_is_name : Option Addr} {sl_is_name : Array (Option Value)}
    {cd_is_name : Value}
    {f_common_divisor : Addr} {oc_common_divisor kV_common_divisor dc_common_divisor pm_common_divisor ct_common_divisor : Value} {od_common_divisor an_common_divisor : Option Addr} {sl_common_divisor : Array (Option Value)}
    {cd_common_divisor : Value}
    {f_is_number : Addr} {oc_is_number kV_is_number dc_is_number pm_is_number ct_is_number : Value} {od_is_number an_is_number : Option Addr} {sl_is_number : Array (Option Value)}
    {cd_is_number : Value}
    {f_reduced : Addr} {oc_reduced kV_reduced dc_reduced pm_reduced ct_reduced : Value} {od_reduced an_reduced : Option Addr} {sl_reduced : Array (Option Value)}
    {cd_reduced : Value}
    {f_number : Addr} {oc_number kV_number dc_number pm_number ct_number : Value} {od_number an_number : Option Addr} {sl_number : Array (Option Value)}
    {cd_number : Value}
    {t_number : Addr} {o_number : Obj} {i_number : List Value} {n_number : Nat}
    {f_require_number : Addr} {oc_require_number kV_require_number dc_require_number pm_require_number ct_require_number : Value} {od_require_number an_require_number : Option Addr} {sl_require_number : Array (Option Value)}
    {cd_require_number : Value}
    {f_require_count : Addr} {oc_require_count kV_require_count dc_require_count pm_require_count ct_require_count : Value} {od_require_count an_require_count : Option Addr} {sl_require_count : Array (Option Value)}
    {cd_require_count : Value}
    {t_require_count : Addr} {o_require_count : Obj} {i_require_count : List Value} {n_require_count : Nat}
    {f_added : Addr} {oc_added kV_added dc_added pm_added ct_added : Value} {od_added an_added : Option Addr} {sl_added : Array (Option Value)}
    {cd_added : Value}
    {f_multiplied : Addr} {oc_multiplied kV_multiplied dc_multiplied pm_multiplied ct_multiplied : Value} {od_multiplied an_multiplied : Option Addr} {sl_multiplied : Array (Option Value)}
    {cd_multiplied : Value}
    {f_opposite : Addr} {oc_opposite kV_opposite dc_opposite pm_opposite ct_opposite : Value} {od_opposite an_opposite : Option Addr} {sl_opposite : Array (Option Value)}
    {cd_opposite : Value}
    {f_divided : Addr} {oc_divided kV_divided dc_divided pm_divided ct_divided : Value} {od_divided an_divided : Option Addr} {sl_divided : Array (Option Value)}
    {cd_divided : Value}
    {f_sum_of : Addr} {oc_sum_of kV_sum_of dc_sum_of pm_sum_of ct_sum_of : Value} {od_sum_of an_sum_of : Option Addr} {sl_sum_of : Array (Option Value)}
    {cd_sum_of : Value}
    {f_plus : Addr} {oc_plus kV_plus dc_plus pm_plus ct_plus : Value} {od_plus an_plus : Option Addr} {sl_plus : Array (Option Value)}
    {cd_plus : Value}
    {f_minus : Addr} {oc_minus kV_minus dc_minus pm_minus ct_minus : Value} {od_minus an_minus : Option Addr} {sl_minus : Array (Option Value)}
    {cd_minus : Value}
    {f_times : Addr} {oc_times kV_times dc_times pm_times ct_times : Value} {od_times an_times : Option Addr} {sl_times : Array (Option Value)}
    {cd_times : Value}
    {f_over : Addr} {oc_over kV_over dc_over pm_over ct_over : Value} {od_over an_over : Option Addr} {sl_over : Array (Option Value)}
    {cd_over : Value}
    {f_compared : Addr} {oc_compared kV_compared dc_compared pm_compared ct_compared : Value} {od_compared an_compared : Option Addr} {sl_compared : Array (Option Value)}
    {cd_compared : Value}
    {f_total : Addr} {oc_total kV_total dc_total pm_total ct_total : Value} {od_total an_total : Option Addr} {sl_total : Array (Option Value)}
    {cd_total : Value}
    {f_power : Addr} {oc_power kV_power dc_power pm_power ct_power : Value} {od_power an_power : Option Addr} {sl_power : Array (Option Value)}
    {cd_power : Value}
    {f__law_dice : Addr} {oc__law_dice kV__law_dice dc__law_dice pm__law_dice ct__law_dice : Value} {od__law_dice an__law_dice : Option Addr} {sl__law_dice : Array (Option Value)}
    {cd__law_dice : Value}
    {f__law_roll : Addr} {oc__law_roll kV__law_roll dc__law_roll pm__law_roll ct__law_roll : Value} {od__law_roll an__law_roll : Option Addr} {sl__law_roll : Array (Option Value)}
    {cd__law_roll : Value}
    {f__law_pick : Addr} {oc__law_pick kV__law_pick dc__law_pick pm__law_pick ct__law_pick : Value} {od__law_pick an__law_pick : Option Addr} {sl__law_pick : Array (Option Value)}
    {cd__law_pick : Value}
    {f__law_fr : Addr} {oc__law_fr kV__law_fr dc__law_fr pm__law_fr ct__law_fr : Value} {od__law_fr an__law_fr : Option Addr} {sl__law_fr : Array (Option Value)}
    {cd__law_fr : Value}
    {f__law_is_number : Addr} {oc__law_is_number kV__law_is_number dc__law_is_number pm__law_is_number ct__law_is_number : Value} {od__law_is_number an__law_is_number : Option Addr} {sl__law_is_number : Array (Option Value)}
    {cd__law_is_number : Value}
    {f__law_is_name : Addr} {oc__law_is_name kV__law_is_name dc__law_is_name pm__law_is_name ct__law_is_name : Value} {od__law_is_name an__law_is_name : Option Addr} {sl__law_is_name : Array (Option Value)}
    {cd__law_is_name : Value}
    {f__law_some : Addr} {oc__law_some kV__law_some dc__law_some pm__law_some ct__law_some : Value} {od__law_some an__law_some : Option Addr} {sl__law_some : Array (Option Value)}
    {cd__law_some : Value}
    {f__law_right : Addr} {oc__law_right kV__law_right dc__law_right pm__law_right ct__law_right : Value} {od__law_right an__law_right : Option Addr} {sl__law_right : Array (Option Value)}
    {kc__law_right kt__law_right : Addr} {kd__law_right : Option Addr} {kv__law_right : Array Value} {ks__law_right : Array (Option Value)}
    {f_law : Addr} {oc_law kV_law dc_law pm_law ct_law : Value} {od_law an_law : Option Addr} {sl_law : Array (Option Value)}
    {kc_law kt_law : Addr} {kd_law : Option Addr} {kv_law : Array Value} {ks_law : Array (Option Value)}
    {f__law_word : Addr} {oc__law_word kV__law_word dc__law_word pm__law_word ct__law_word : Value} {od__law_word an__law_word : Option Addr} {sl__law_word : Array (Option Value)}
    {cd__law_word : Value}
    {u_LETTERS : Tok}
    {u_MAX_LETTERS : Tok}
    {u_MOST_PASSED : Tok}
    {p_NOUGHT : Addr} {o_NOUGHT : Obj} {i_NOUGHT : Array Value} {n_NOUGHT : Nat}
    {p_ONE : Addr} {o_ONE : Obj} {i_ONE : Array Value} {n_ONE : Nat}
    {u_SIGNS : Tok}
    {C_InvalidCount : Addr}
    {cd_InvalidCount : ClassData}
    {C_InvalidFraction : Addr}
    {cd_InvalidFraction : ClassData}
    {C_Refused : Addr}
    {cd_Refused : ClassData}
    {I_InvalidCount kc_InvalidCount cc_InvalidCount : Addr} {nm_InvalidCount : Str} {io_InvalidCount ikV_InvalidCount idc_InvalidCount ipm_InvalidCount ict_InvalidCount : Value} {ian_InvalidCount iod_InvalidCount : Option Addr} {isl_InvalidCount : Array (Option Value)}
    {jc_InvalidCount : Value} {jd_InvalidCount : Option Addr} {jv_InvalidCount : Array Value} {js_InvalidCount : Array (Option Value)} {jf_InvalidCount : Str} {jt_InvalidCount : Tok} {lc_InvalidCount : Value} {ld_InvalidCount : Option Addr} {ls_InvalidCount : Array (Option Value)}
    {I_Refused kc_Refused cc_Refused : Addr} {nm_Refused : Str} {io_Refused ikV_Refused idc_Refused ipm_Refused ict_Refused : Value} {ian_Refused iod_Refused : Option Addr} {isl_Refused : Array (Option Value)}
    {jc_Refused : Value} {jd_Refused : Option Addr} {jv_Refused : Array Value} {js_Refused : Array (Option Value)} {jf_Refused : Str} {jt_Refused : Tok} {lc_Refused : Value} {ld_Refused : Option Addr} {ls_Refused : Array (Option Value)}
    (a_is_integer : PySem.W.nsIn K mainGlobals "is_integer" = some (some (.ref f_is_integer)))
    (l_is_integer : K.lookup f_is_integer = some ⟨oc_is_integer, od_is_integer, .func (PySem.W.fnOf "is_integer" "is_integer" (defArgs s_is_integer) (defBody s_is_integer) (defScope s_is_integer) .none kV_is_integer dc_is_integer pm_is_integer an_is_integer cd_is_integer ct_is_integer), sl_is_integer⟩)
    (q_is_integer : PySem.W.codeIn K cd_is_integer "is_integer" = true)
    (e_is_integer : PySem.W.keepIn K (.ref f_is_integer) = true)
    (a_is_name : PySem.W.nsIn K mainGlobals "is_name" = some (some (.ref f_is_name)))
    (l_is_name : K.lookup f_is_name = some ⟨oc_is_name, od_is_name, .func (PySem.W.fnOf "is_name" "is_name" (defArgs s_is_name) (defBody s_is_name) (defScope s_is_name) .none kV_is_name dc_is_name pm_is_name an_is_name cd_is_name ct_is_name), sl_is_name⟩)
    (q_is_name : PySem.W.codeIn K cd_is_name "is_name" = true)
    (e_is_name : PySem.W.keepIn K (.ref f_is_name) = true)
    (a_common_divisor : PySem.W.nsIn K mainGlobals "common_divisor" = some (some (.ref f_common_divisor)))
    (l_common_divisor : K.lookup f_common_divisor = some ⟨oc_common_divisor, od_common_divisor, .func (PySem.W.fnOf "common_divisor" "common_divisor" (defArgs s_common_divisor) (defBody s_common_divisor) (defScope s_common_divisor) .none kV_common_divisor dc_common_divisor pm_common_divisor an_common_divisor cd_common_divisor ct_common_divisor), sl_common_divisor⟩)
    (q_common_divisor : PySem.W.codeIn K cd_common_divisor "common_divisor" = true)
    (e_common_divisor : PySem.W.keepIn K (.ref f_common_divisor) = true)
    (a_is_number : PySem.W.nsIn K mainGlobals "is_number" = some (some (.ref f_is_number)))
    (l_is_number : K.lookup f_is_number = some ⟨oc_is_number, od_is_number, .func (PySem.W.fnOf "is_number" "is_number" (defArgs s_is_number) (defBody s_is_number) (defScope s_is_number) .none kV_is_number dc_is_number pm_is_number an_is_number cd_is_number ct_is_number), sl_is_number⟩)
    (q_is_number : PySem.W.codeIn K cd_is_number "is_number" = true)
    (e_is_number : PySem.W.keepIn K (.ref f_is_number) = true)
    (a_reduced : PySem.W.nsIn K mainGlobals "reduced" = some (some (.ref f_reduced)))
    (l_reduced : K.lookup f_reduced = some ⟨oc_reduced, od_reduced, .func (PySem.W.fnOf "reduced" "reduced" (defArgs s_reduced) (defBody s_reduced) (defScope s_reduced) .none kV_reduced dc_reduced pm_reduced an_reduced cd_reduced ct_reduced), sl_reduced⟩)
    (q_reduced : PySem.W.codeIn K cd_reduced "reduced" = true)
    (e_reduced : PySem.W.keepIn K (.ref f_reduced) = true)
    (a_number : PySem.W.nsIn K mainGlobals "number" = some (some (.ref f_number)))
    (l_number : K.lookup f_number = some ⟨oc_number, od_number, .func (PySem.W.fnOf "number" "number" (defArgs s_number) (defBody s_number) (defScope s_number) (.ref t_number) kV_number dc_number pm_number an_number cd_number ct_number), sl_number⟩)
    (q_number : PySem.W.codeIn K cd_number "number" = true)
    (e_number : PySem.W.keepIn K (.ref f_number) = true)
    (t1_number : K.lookup t_number = some o_number)
    (t2_number : o_number.data = .seq i_number.toArray n_number)
    (t3_number : Vals ([.int 1] : List V) i_number)
    (a_require_number : PySem.W.nsIn K mainGlobals "require_number" = some (some (.ref f_require_number)))
    (l_require_number : K.lookup f_require_number = some ⟨oc_require_number, od_require_number, .func (PySem.W.fnOf "require_number" "require_number" (defArgs s_require_number) (defBody s_require_number) (defScope s_require_number) .none kV_require_number dc_require_number pm_require_number an_require_number cd_require_number ct_require_number), sl_require_number⟩)
    (q_require_number : PySem.W.codeIn K cd_require_number "require_number" = true)
    (e_require_number : PySem.W.keepIn K (.ref f_require_number) = true)
    (a_require_count : PySem.W.nsIn K mainGlobals "require_count" = some (some (.ref f_require_count)))
    (l_require_count : K.lookup f_require_count = some ⟨oc_require_count, od_require_count, .func (PySem.W.fnOf "require_count" "require_count" (defArgs s_require_count) (defBody s_require_count) (defScope s_require_count) (.ref t_require_count) kV_require_count dc_require_count pm_require_count an_require_count cd_require_count ct_require_count), sl_require_count⟩)
    (q_require_count : PySem.W.codeIn K cd_require_count "require_count" = true)
    (e_require_count : PySem.W.keepIn K (.ref f_require_count) = true)
    (t1_require_count : K.lookup t_require_count = some o_require_count)
    (t2_require_count : o_require_count.data = .seq i_require_count.toArray n_require_count)
    (t3_require_count : Vals ([.int 0, .int 60] : List V) i_require_count)
    (a_added : PySem.W.nsIn K mainGlobals "added" = some (some (.ref f_added)))
    (l_added : K.lookup f_added = some ⟨oc_added, od_added, .func (PySem.W.fnOf "added" "added" (defArgs s_added) (defBody s_added) (defScope s_added) .none kV_added dc_added pm_added an_added cd_added ct_added), sl_added⟩)
    (q_added : PySem.W.codeIn K cd_added "added" = true)
    (e_added : PySem.W.keepIn K (.ref f_added) = true)
    (a_multiplied : PySem.W.nsIn K mainGlobals "multiplied" = some (some (.ref f_multiplied)))
    (l_multiplied : K.lookup f_multiplied = some ⟨oc_multiplied, od_multiplied, .func (PySem.W.fnOf "multiplied" "multiplied" (defArgs s_multiplied) (defBody s_multiplied) (defScope s_multiplied) .none kV_multiplied dc_multiplied pm_multiplied an_multiplied cd_multiplied ct_multiplied), sl_multiplied⟩)
    (q_multiplied : PySem.W.codeIn K cd_multiplied "multiplied" = true)
    (e_multiplied : PySem.W.keepIn K (.ref f_multiplied) = true)
    (a_opposite : PySem.W.nsIn K mainGlobals "opposite" = some (some (.ref f_opposite)))
    (l_opposite : K.lookup f_opposite = some ⟨oc_opposite, od_opposite, .func (PySem.W.fnOf "opposite" "opposite" (defArgs s_opposite) (defBody s_opposite) (defScope s_opposite) .none kV_opposite dc_opposite pm_opposite an_opposite cd_opposite ct_opposite), sl_opposite⟩)
    (q_opposite : PySem.W.codeIn K cd_opposite "opposite" = true)
    (e_opposite : PySem.W.keepIn K (.ref f_opposite) = true)
    (a_divided : PySem.W.nsIn K mainGlobals "divided" = some (some (.ref f_divided)))
    (l_divided : K.lookup f_divided = some ⟨oc_divided, od_divided, .func (PySem.W.fnOf "divided" "divided" (defArgs s_divided) (defBody s_divided) (defScope s_divided) .none kV_divided dc_divided pm_divided an_divided cd_divided ct_divided), sl_divided⟩)
    (q_divided : PySem.W.codeIn K cd_divided "divided" = true)
    (e_divided : PySem.W.keepIn K (.ref f_divided) = true)
    (a_sum_of : PySem.W.nsIn K mainGlobals "sum_of" = some (some (.ref f_sum_of)))
    (l_sum_of : K.lookup f_sum_of = some ⟨oc_sum_of, od_sum_of, .func (PySem.W.fnOf "sum_of" "sum_of" (defArgs s_sum_of) (defBody s_sum_of) (defScope s_sum_of) .none kV_sum_of dc_sum_of pm_sum_of an_sum_of cd_sum_of ct_sum_of), sl_sum_of⟩)
    (q_sum_of : PySem.W.codeIn K cd_sum_of "sum_of" = true)
    (e_sum_of : PySem.W.keepIn K (.ref f_sum_of) = true)
    (a_plus : PySem.W.nsIn K mainGlobals "plus" = some (some (.ref f_plus)))
    (l_plus : K.lookup f_plus = some ⟨oc_plus, od_plus, .func (PySem.W.fnOf "plus" "plus" (defArgs s_plus) (defBody s_plus) (defScope s_plus) .none kV_plus dc_plus pm_plus an_plus cd_plus ct_plus), sl_plus⟩)
    (q_plus : PySem.W.codeIn K cd_plus "plus" = true)
    (e_plus : PySem.W.keepIn K (.ref f_plus) = true)
    (a_minus : PySem.W.nsIn K mainGlobals "minus" = some (some (.ref f_minus)))
    (l_minus : K.lookup f_minus = some ⟨oc_minus, od_minus, .func (PySem.W.fnOf "minus" "minus" (defArgs s_minus) (defBody s_minus) (defScope s_minus) .none kV_minus dc_minus pm_minus an_minus cd_minus ct_minus), sl_minus⟩)
    (q_minus : PySem.W.codeIn K cd_minus "minus" = true)
    (e_minus : PySem.W.keepIn K (.ref f_minus) = true)
    (a_times : PySem.W.nsIn K mainGlobals "times" = some (some (.ref f_times)))
    (l_times : K.lookup f_times = some ⟨oc_times, od_times, .func (PySem.W.fnOf "times" "times" (defArgs s_times) (defBody s_times) (defScope s_times) .none kV_times dc_times pm_times an_times cd_times ct_times), sl_times⟩)
    (q_times : PySem.W.codeIn K cd_times "times" = true)
    (e_times : PySem.W.keepIn K (.ref f_times) = true)
    (a_over : PySem.W.nsIn K mainGlobals "over" = some (some (.ref f_over)))
    (l_over : K.lookup f_over = some ⟨oc_over, od_over, .func (PySem.W.fnOf "over" "over" (defArgs s_over) (defBody s_over) (defScope s_over) .none kV_over dc_over pm_over an_over cd_over ct_over), sl_over⟩)
    (q_over : PySem.W.codeIn K cd_over "over" = true)
    (e_over : PySem.W.keepIn K (.ref f_over) = true)
    (a_compared : PySem.W.nsIn K mainGlobals "compared" = some (some (.ref f_compared)))
    (l_compared : K.lookup f_compared = some ⟨oc_compared, od_compared, .func (PySem.W.fnOf "compared" "compared" (defArgs s_compared) (defBody s_compared) (defScope s_compared) .none kV_compared dc_compared pm_compared an_compared cd_compared ct_compared), sl_compared⟩)
    (q_compared : PySem.W.codeIn K cd_compared "compared" = true)
    (e_compared : PySem.W.keepIn K (.ref f_compared) = true)
    (a_total : PySem.W.nsIn K mainGlobals "total" = some (some (.ref f_total)))
    (l_total : K.lookup f_total = some ⟨oc_total, od_total, .func (PySem.W.fnOf "total" "total" (defArgs s_total) (defBody s_total) (defScope s_total) .none kV_total dc_total pm_total an_total cd_total ct_total), sl_total⟩)
    (q_total : PySem.W.codeIn K cd_total "total" = true)
    (e_total : PySem.W.keepIn K (.ref f_total) = true)
    (a_power : PySem.W.nsIn K mainGlobals "power" = some (some (.ref f_power)))
    (l_power : K.lookup f_power = some ⟨oc_power, od_power, .func (PySem.W.fnOf "power" "power" (defArgs s_power) (defBody s_power) (defScope s_power) .none kV_power dc_power pm_power an_power cd_power ct_power), sl_power⟩)
    (q_power : PySem.W.codeIn K cd_power "power" = true)
    (e_power : PySem.W.keepIn K (.ref f_power) = true)
    (a__law_dice : PySem.W.nsIn K mainGlobals "_law_dice" = some (some (.ref f__law_dice)))
    (l__law_dice : K.lookup f__law_dice = some ⟨oc__law_dice, od__law_dice, .func (PySem.W.fnOf "_law_dice" "_law_dice" (defArgs s__law_dice) (defBody s__law_dice) (defScope s__law_dice) .none kV__law_dice dc__law_dice pm__law_dice an__law_dice cd__law_dice ct__law_dice), sl__law_dice⟩)
    (q__law_dice : PySem.W.codeIn K cd__law_dice "_law_dice" = true)
    (e__law_dice : PySem.W.keepIn K (.ref f__law_dice) = true)
    (a__law_roll : PySem.W.nsIn K mainGlobals "_law_roll" = some (some (.ref f__law_roll)))
    (l__law_roll : K.lookup f__law_roll = some ⟨oc__law_roll, od__law_roll, .func (PySem.W.fnOf "_law_roll" "_law_roll" (defArgs s__law_roll) (defBody s__law_roll) (defScope s__law_roll) .none kV__law_roll dc__law_roll pm__law_roll an__law_roll cd__law_roll ct__law_roll), sl__law_roll⟩)
    (q__law_roll : PySem.W.codeIn K cd__law_roll "_law_roll" = true)
    (e__law_roll : PySem.W.keepIn K (.ref f__law_roll) = true)
    (a__law_pick : PySem.W.nsIn K mainGlobals "_law_pick" = some (some (.ref f__law_pick)))
    (l__law_pick : K.lookup f__law_pick = some ⟨oc__law_pick, od__law_pick, .func (PySem.W.fnOf "_law_pick" "_law_pick" (defArgs s__law_pick) (defBody s__law_pick) (defScope s__law_pick) .none kV__law_pick dc__law_pick pm__law_pick an__law_pick cd__law_pick ct__law_pick), sl__law_pick⟩)
    (q__law_pick : PySem.W.codeIn K cd__law_pick "_law_pick" = true)
    (e__law_pick : PySem.W.keepIn K (.ref f__law_pick) = true)
    (a__law_fr : PySem.W.nsIn K mainGlobals "_law_fr" = some (some (.ref f__law_fr)))
    (l__law_fr : K.lookup f__law_fr = some ⟨oc__law_fr, od__law_fr, .func (PySem.W.fnOf "_law_fr" "_law_fr" (defArgs s__law_fr) (defBody s__law_fr) (defScope s__law_fr) .none kV__law_fr dc__law_fr pm__law_fr an__law_fr cd__law_fr ct__law_fr), sl__law_fr⟩)
    (q__law_fr : PySem.W.codeIn K cd__law_fr "_law_fr" = true)
    (e__law_fr : PySem.W.keepIn K (.ref f__law_fr) = true)
    (a__law_is_number : PySem.W.nsIn K mainGlobals "_law_is_number" = some (some (.ref f__law_is_number)))
    (l__law_is_number : K.lookup f__law_is_number = some ⟨oc__law_is_number, od__law_is_number, .func (PySem.W.fnOf "_law_is_number" "_law_is_number" (defArgs s__law_is_number) (defBody s__law_is_number) (defScope s__law_is_number) .none kV__law_is_number dc__law_is_number pm__law_is_number an__law_is_number cd__law_is_number ct__law_is_number), sl__law_is_number⟩)
    (q__law_is_number : PySem.W.codeIn K cd__law_is_number "_law_is_number" = true)
    (e__law_is_number : PySem.W.keepIn K (.ref f__law_is_number) = true)
    (a__law_is_name : PySem.W.nsIn K mainGlobals "_law_is_name" = some (some (.ref f__law_is_name)))
    (l__law_is_name : K.lookup f__law_is_name = some ⟨oc__law_is_name, od__law_is_name, .func (PySem.W.fnOf "_law_is_name" "_law_is_name" (defArgs s__law_is_name) (defBody s__law_is_name) (defScope s__law_is_name) .none kV__law_is_name dc__law_is_name pm__law_is_name an__law_is_name cd__law_is_name ct__law_is_name), sl__law_is_name⟩)
    (q__law_is_name : PySem.W.codeIn K cd__law_is_name "_law_is_name" = true)
    (e__law_is_name : PySem.W.keepIn K (.ref f__law_is_name) = true)
    (a__law_some : PySem.W.nsIn K mainGlobals "_law_some" = some (some (.ref f__law_some)))
    (l__law_some : K.lookup f__law_some = some ⟨oc__law_some, od__law_some, .func (PySem.W.fnOf "_law_some" "_law_some" (defArgs s__law_some) (defBody s__law_some) (defScope s__law_some) .none kV__law_some dc__law_some pm__law_some an__law_some cd__law_some ct__law_some), sl__law_some⟩)
    (q__law_some : PySem.W.codeIn K cd__law_some "_law_some" = true)
    (e__law_some : PySem.W.keepIn K (.ref f__law_some) = true)
    (a__law_right : PySem.W.nsIn K mainGlobals "_law_right" = some (some (.ref f__law_right)))
    (l__law_right : K.lookup f__law_right = some ⟨oc__law_right, od__law_right, .func (PySem.W.fnOf "_law_right" "_law_right" (defArgs s__law_right) (defBody s__law_right) (defScope s__law_right) .none kV__law_right dc__law_right pm__law_right an__law_right (.ref kc__law_right) ct__law_right), sl__law_right⟩)
    (q__law_right : PySem.W.codeIn K (.ref kc__law_right) "_law_right" = true)
    (e__law_right : PySem.W.keepIn K (.ref f__law_right) = true)
    (v__law_right : K.lookup kc__law_right = some ⟨.type "code", kd__law_right, .fields kv__law_right, ks__law_right⟩)
    (w__law_right : (kv__law_right[11]? : Option Value) = some (.ref kt__law_right))
    (x__law_right : hdB kv__law_right kc__law_right kt__law_right = true)
    (y__law_right : K.lookup kt__law_right = none)
    (z__law_right : mainGlobals ≠ kt__law_right)
    (a_law : PySem.W.nsIn K mainGlobals "law" = some (some (.ref f_law)))
    (l_law : K.lookup f_law = some ⟨oc_law, od_law, .func (PySem.W.fnOf "law" "law" (defArgs s_law) (defBody s_law) (defScope s_law) .none kV_law dc_law pm_law an_law (.ref kc_law) ct_law), sl_law⟩)
    (q_law : PySem.W.codeIn K (.ref kc_law) "law" = true)
    (e_law : PySem.W.keepIn K (.ref f_law) = true)
    (v_law : K.lookup kc_law = some ⟨.type "code", kd_law, .fields kv_law, ks_law⟩)
    (w_law : (kv_law[11]? : Option Value) = some (.ref kt_law))
    (x_law : hdB kv_law kc_law kt_law = true)
    (y_law : K.lookup kt_law = none)
    (z_law : mainGlobals ≠ kt_law)
    (a__law_word : PySem.W.nsIn K mainGlobals "_law_word" = some (some (.ref f__law_word)))
    (l__law_word : K.lookup f__law_word = some ⟨oc__law_word, od__law_word, .func (PySem.W.fnOf "_law_word" "_law_word" (defArgs s__law_word) (defBody s__law_word) (defScope s__law_word) .none kV__law_word dc__law_word pm__law_word an__law_word cd__law_word ct__law_word), sl__law_word⟩)
    (q__law_word : PySem.W.codeIn K cd__law_word "_law_word" = true)
    (e__law_word : PySem.W.keepIn K (.ref f__law_word) = true)
    (z_abs : PySem.W.nsIn K mainGlobals "abs" = some none)
    (z_all : PySem.W.nsIn K mainGlobals "all" = some none)
    (z_bool : PySem.W.nsIn K mainGlobals "bool" = some none)
    (z_int : PySem.W.nsIn K mainGlobals "int" = some none)
    (z_isinstance : PySem.W.nsIn K mainGlobals "isinstance" = some none)
    (z_len : PySem.W.nsIn K mainGlobals "len" = some none)
    (z_max : PySem.W.nsIn K mainGlobals "max" = some none)
    (z_min : PySem.W.nsIn K mainGlobals "min" = some none)
    (z_range : PySem.W.nsIn K mainGlobals "range" = some none)
    (z_repr : PySem.W.nsIn K mainGlobals "repr" = some none)
    (z_str : PySem.W.nsIn K mainGlobals "str" = some none)
    (z_super : PySem.W.nsIn K mainGlobals "super" = some none)
    (z_tuple : PySem.W.nsIn K mainGlobals "tuple" = some none)
    (k_LETTERS : PySem.W.nsIn K mainGlobals "LETTERS" = some (some (.str ("abcdefghijklmnopqrstuvwxyz") u_LETTERS)))
    (k_MAX_LETTERS : PySem.W.nsIn K mainGlobals "MAX_LETTERS" = some (some (.int (12) u_MAX_LETTERS)))
    (k_MOST_PASSED : PySem.W.nsIn K mainGlobals "MOST_PASSED" = some (some (.int ((10 ^ 40)) u_MOST_PASSED)))
    (k_NOUGHT : PySem.W.nsIn K mainGlobals "NOUGHT" = some (some (.ref p_NOUGHT)))
    (k1_NOUGHT : K.lookup p_NOUGHT = some o_NOUGHT)
    (k2_NOUGHT : o_NOUGHT.cls = .type "tuple")
    (k3_NOUGHT : o_NOUGHT.data = .seq i_NOUGHT n_NOUGHT)
    (k4_NOUGHT : i_NOUGHT.size ≤ sizeLine)
    (k5_NOUGHT : Vals ([.int 0, .int 1] : List V) i_NOUGHT.toList)
    (k_ONE : PySem.W.nsIn K mainGlobals "ONE" = some (some (.ref p_ONE)))
    (k1_ONE : K.lookup p_ONE = some o_ONE)
    (k2_ONE : o_ONE.cls = .type "tuple")
    (k3_ONE : o_ONE.data = .seq i_ONE n_ONE)
    (k4_ONE : i_ONE.size ≤ sizeLine)
    (k5_ONE : Vals ([.int 1, .int 1] : List V) i_ONE.toList)
    (k_SIGNS : PySem.W.nsIn K mainGlobals "SIGNS" = some (some (.str (("abcdefghijklmnopqrstuvwxyz0123456789.")) u_SIGNS)))
    (c0_InvalidCount : PySem.W.nsIn K mainGlobals "InvalidCount" = some (some (.ref C_InvalidCount)))
    (c1_InvalidCount : PySem.W.subIn K (.ref C_InvalidCount) (.type "BaseException") = some true)
    (c2_InvalidCount : PySem.W.typeIn K (.ref C_InvalidCount) = some (.type "type"))
    (c3_InvalidCount : PySem.W.keepIn K (.ref C_InvalidCount) = true)
    (c4_InvalidCount : PySem.W.clsIn K C_InvalidCount = some cd_InvalidCount)
    (c0_InvalidFraction : PySem.W.nsIn K mainGlobals "InvalidFraction" = some (some (.ref C_InvalidFraction)))
    (c1_InvalidFraction : PySem.W.subIn K (.ref C_InvalidFraction) (.type "BaseException") = some true)
    (c2_InvalidFraction : PySem.W.typeIn K (.ref C_InvalidFraction) = some (.type "type"))
    (c3_InvalidFraction : PySem.W.keepIn K (.ref C_InvalidFraction) = true)
    (c4_InvalidFraction : PySem.W.clsIn K C_InvalidFraction = some cd_InvalidFraction)
    (c0_Refused : PySem.W.nsIn K mainGlobals "Refused" = some (some (.ref C_Refused)))
    (c1_Refused : PySem.W.subIn K (.ref C_Refused) (.type "BaseException") = some true)
    (c2_Refused : PySem.W.typeIn K (.ref C_Refused) = some (.type "type"))
    (c3_Refused : PySem.W.keepIn K (.ref C_Refused) = true)
    (c4_Refused : PySem.W.clsIn K C_Refused = some cd_Refused)
    (d0_InvalidCount : PySem.W.excInitIn K C_InvalidCount [.type "IndexError", .type "LookupError", .type "Exception", .type "BaseException", .type "object"] "IndexError.__new__" = true)
    (d1_InvalidCount : PySem.W.hasDictIn K C_InvalidCount = true)
    (d2_InvalidCount : PySem.W.excOver K C_InvalidCount [.type "IndexError", .type "LookupError", .type "Exception", .type "BaseException", .type "object"] = true)
    (d3_InvalidCount : PySem.W.findIn K (.ref C_InvalidCount) "__setattr__" = some (some (.builtin "object.__setattr__")))
    (d4_InvalidCount : PySem.W.takerIn K C_InvalidCount "given" = some none)
    (d5_InvalidCount : PySem.W.ks_superIn K C_InvalidCount C_InvalidCount "__init__" = some (some (.builtin "IndexError.__init__")))
    (d6_InvalidCount : PySem.W.mroIn K C_InvalidCount (.type "IndexError") = some true)
    (d7_InvalidCount : PySem.W.mroIn K C_InvalidCount (.ref C_InvalidCount) = some true)
    (d8_InvalidCount : PySem.W.nsIn K cStatics "thirdparty.any" = some none)
    (e0_InvalidCount : PySem.W.findIn K (.ref C_InvalidCount) "__init__" = some (some (.ref I_InvalidCount)))
    (e1_InvalidCount : PySem.W.typeIn K (.ref I_InvalidCount) = some (.type "function"))
    (e2_InvalidCount : K.lookup I_InvalidCount = some ⟨io_InvalidCount, iod_InvalidCount, .func (PySem.W.ksFn nm_InvalidCount "InvalidCount.__init__" (defArgs i_InvalidCount) (defBody i_InvalidCount) (defScope i_InvalidCount) .none ikV_InvalidCount idc_InvalidCount ipm_InvalidCount ian_InvalidCount (.ref kc_InvalidCount) ict_InvalidCount cc_InvalidCount), isl_InvalidCount⟩)
    (e3_InvalidCount : PySem.W.codeIn K (.ref kc_InvalidCount) "InvalidCount.__init__" = true)
    (e4_InvalidCount : K.lookup kc_InvalidCount = some ⟨jc_InvalidCount, jd_InvalidCount, .fields jv_InvalidCount, js_InvalidCount⟩)
    (e5_InvalidCount : jv_InvalidCount[2]? = some (.str jf_InvalidCount jt_InvalidCount))
    (e6_InvalidCount : (Pw.main.file == jf_InvalidCount) = true)
    (e7_InvalidCount : K.lookup cc_InvalidCount = some ⟨lc_InvalidCount, ld_InvalidCount, .cell (some (.ref C_InvalidCount)), ls_InvalidCount⟩)
    (d0_InvalidFraction : PySem.W.excIn K C_InvalidFraction [.type "ValueError", .type "Exception", .type "BaseException", .type "object"] "ValueError.__new__" = true)
    (d0_Refused : PySem.W.excInitIn K C_Refused [.type "ArithmeticError", .type "Exception", .type "BaseException", .type "object"] "ArithmeticError.__new__" = true)
    (d1_Refused : PySem.W.hasDictIn K C_Refused = true)
    (d2_Refused : PySem.W.excOver K C_Refused [.type "ArithmeticError", .type "Exception", .type "BaseException", .type "object"] = true)
    (d3_Refused : PySem.W.findIn K (.ref C_Refused) "__setattr__" = some (some (.builtin "object.__setattr__")))
    (d4_Refused : PySem.W.takerIn K C_Refused "reason" = some none)
    (d5_Refused : PySem.W.ks_superIn K C_Refused C_Refused "__init__" = some (some (.builtin "ArithmeticError.__init__")))
    (d6_Refused : PySem.W.mroIn K C_Refused (.type "ArithmeticError") = some true)
    (d7_Refused : PySem.W.mroIn K C_Refused (.ref C_Refused) = some true)
    (d8_Refused : PySem.W.nsIn K cStatics "thirdparty.any" = some none)
    (e0_Refused : PySem.W.findIn K (.ref C_Refused) "__init__" = some (some (.ref I_Refused)))
    (e1_Refused : PySem.W.typeIn K (.ref I_Refused) = some (.type "function"))
    (e2_Refused : K.lookup I_Refused = some ⟨io_Refused, iod_Refused, .func (PySem.W.ksFn nm_Refused "Refused.__init__" (defArgs i_Refused) (defBody i_Refused) (defScope i_Refused) .none ikV_Refused idc_Refused ipm_Refused ian_Refused (.ref kc_Refused) ict_Refused cc_Refused), isl_Refused⟩)
    (e3_Refused : PySem.W.codeIn K (.ref kc_Refused) "Refused.__init__" = true)
    (e4_Refused : K.lookup kc_Refused = some ⟨jc_Refused, jd_Refused, .fields jv_Refused, js_Refused⟩)
    (e5_Refused : jv_Refused[2]? = some (.str jf_Refused jt_Refused))
    (e6_Refused : (Pw.main.file == jf_Refused) = true)
    (e7_Refused : K.lookup cc_Refused = some ⟨lc_Refused, ld_Refused, .cell (some (.ref C_Refused)), ls_Refused⟩)
    (x_Refused_Refused : PySem.W.subIn K (.ref C_Refused) (.ref C_Refused) = some true)
    (x_Refused_InvalidCount : PySem.W.subIn K (.ref C_Refused) (.ref C_InvalidCount) = some false)
    (x_Refused_InvalidFraction : PySem.W.subIn K (.ref C_Refused) (.ref C_InvalidFraction) = some false)
    (x_InvalidFraction_Refused : PySem.W.subIn K (.ref C_InvalidFraction) (.ref C_Refused) = some false)
    (x_InvalidFraction_InvalidCount : PySem.W.subIn K (.ref C_InvalidFraction) (.ref C_InvalidCount) = some false)
    (x_InvalidFraction_InvalidFraction : PySem.W.subIn K (.ref C_InvalidFraction) (.ref C_InvalidFraction) = some true)
    (x_InvalidCount_Refused : PySem.W.subIn K (.ref C_InvalidCount) (.ref C_Refused) = some false)
    (x_InvalidCount_InvalidCount : PySem.W.subIn K (.ref C_InvalidCount) (.ref C_InvalidCount) = some true)
    (x_InvalidCount_InvalidFraction : PySem.W.subIn K (.ref C_InvalidCount) (.ref C_InvalidFraction) = some false)
    (fa_Refused : PySem.W.findIn K (.ref C_Refused) "__getattribute__" = some (some (.builtin "BaseException.__getattribute__")))
    (fb_Refused : PySem.W.findIn K (.ref C_Refused) "__getattr__" = some none)
    (fc_Refused : PySem.W.findIn K (.ref C_Refused) "reason" = some none)
    (fa_InvalidCount : PySem.W.findIn K (.ref C_InvalidCount) "__getattribute__" = some (some (.builtin "BaseException.__getattribute__")))
    (fb_InvalidCount : PySem.W.findIn K (.ref C_InvalidCount) "__getattr__" = some none)
    (fc_InvalidCount : PySem.W.findIn K (.ref C_InvalidCount) "given" = some none)
    (ne__law_right_law : kt__law_right ≠ kt_law)
    (he__law_right : h.get? kt__law_right = some noTab)
    (he_law : h.get? kt_law = some noTab) : LawT PySem.Challenge.rw_payroads_k22_errors_and_judges_of_number w K 9 63 "script" mg fa h := by
  have eL := hfa.symm.trans (PySem.W.mg_of X G a_law)
  cases eL
  have F_is_integer := fun_mk (st := s_is_integer) l_is_integer q_is_integer e_is_integer
  have b_is_integer := F_is_integer.binds (ps := ["value"]) fun _ _ _ _ _ _ us hl => match us, hl with | [_], _ => rfl
  have X_is_integer := FunX.of F_is_integer
  have F_is_name := fun_mk (st := s_is_name) l_is_name q_is_name e_is_name
  have b_is_name := F_is_name.binds (ps := ["value"]) fun _ _ _ _ _ _ us hl => match us, hl with | [_], _ => rfl
  have X_is_name := FunX.of F_is_name
  have F_common_divisor := fun_mk (st := s_common_divisor) l_common_divisor q_common_divisor e_common_divisor
  have b_common_divisor := F_common_divisor.binds (ps := ["one", "other"]) fun _ _ _ _ _ _ us hl => match us, hl with | [_, _], _ => rfl
  have X_common_divisor := FunX.of F_common_divisor
  have F_is_number := fun_mk (st := s_is_number) l_is_number q_is_number e_is_number
  have b_is_number := F_is_number.binds (ps := ["value"]) fun _ _ _ _ _ _ us hl => match us, hl with | [_], _ => rfl
  have X_is_number := FunX.of F_is_number
  have F_reduced := fun_mk (st := s_reduced) l_reduced q_reduced e_reduced
  have b_reduced := F_reduced.binds (ps := ["top", "bottom"]) fun _ _ _ _ _ _ us hl => match us, hl with | [_, _], _ => rfl
  have X_reduced := FunX.of F_reduced
  have F_number : FunD K "number" "number" (defArgs s_number) (defBody s_number) (defScope s_number) ([.int 1] : List V) [] f_number (PySem.W.fnOf "number" "number" (defArgs s_number) (defBody s_number) (defScope s_number) (.ref t_number) kV_number dc_number pm_number an_number cd_number ct_number) := ⟨⟨_, _, _, _, _, _, _, _, _, _, rfl, l_number, q_number, .inr ⟨by simp, t_number, o_number, i_number, n_number, rfl, t1_number, t2_number, t3_number⟩, .inl rfl⟩, e_number⟩
  have bx_number_2 := F_number.binds1 (ps := ["top", "bottom"]) 2 1 (by simp) (by rfl) fun T kV doc pm an cdv ct us its h1 h2 => match us, its, h1, h2 with | [_, _], [_], _, _ => ⟨_, rfl, rfl⟩
  have b_number : Binds K (PySem.W.fnOf "number" "number" (defArgs s_number) (defBody s_number) (defScope s_number) (.ref t_number) kV_number dc_number pm_number an_number cd_number ct_number) ["top", "bottom"] [] := by
    obtain ⟨ds, h1, h2⟩ := bx_number_2
    cases h1
    exact h2
  have X_number := FunX.ofD F_number
  have F_require_number := fun_mk (st := s_require_number) l_require_number q_require_number e_require_number
  have b_require_number := F_require_number.binds (ps := ["value"]) fun _ _ _ _ _ _ us hl => match us, hl with | [_], _ => rfl
  have X_require_number := FunX.of F_require_number
  have F_require_count : FunD K "require_count" "require_count" (defArgs s_require_count) (defBody s_require_count) (defScope s_require_count) ([.int 0, .int 60] : List V) [] f_require_count (PySem.W.fnOf "require_count" "require_count" (defArgs s_require_count) (defBody s_require_count) (defScope s_require_count) (.ref t_require_count) kV_require_count dc_require_count pm_require_count an_require_count cd_require_count ct_require_count) := ⟨⟨_, _, _, _, _, _, _, _, _, _, rfl, l_require_count, q_require_count, .inr ⟨by simp, t_require_count, o_require_count, i_require_count, n_require_count, rfl, t1_require_count, t2_require_count, t3_require_count⟩, .inl rfl⟩, e_require_count⟩
  have bx_require_count_3 := F_require_count.binds1 (ps := ["value", "least", "most"]) 3 2 (by simp) (by rfl) fun T kV doc pm an cdv ct us its h1 h2 => match us, its, h1, h2 with | [_, _, _], [_, _], _, _ => ⟨_, rfl, rfl⟩
  have bx_require_count_1 := F_require_count.binds1 (ps := ["value", "least", "most"]) 1 0 (by simp) (by rfl) fun T kV doc pm an cdv ct us its h1 h2 => match us, its, h1, h2 with | [_], [_, _], _, _ => ⟨_, rfl, rfl⟩
  have b_require_count : Binds K (PySem.W.fnOf "require_count" "require_count" (defArgs s_require_count) (defBody s_require_count) (defScope s_require_count) (.ref t_require_count) kV_require_count dc_require_count pm_require_count an_require_count cd_require_count ct_require_count) ["value", "least", "most"] [] := by
    obtain ⟨ds, h1, h2⟩ := bx_require_count_3
    cases h1
    exact h2
  have X_require_count := FunX.ofD F_require_count
  have F_added := fun_mk (st := s_added) l_added q_added e_added
  have b_added := F_added.binds (ps := ["one", "other"]) fun _ _ _ _ _ _ us hl => match us, hl with | [_, _], _ => rfl
  have X_added := FunX.of F_added
  have F_multiplied := fun_mk (st := s_multiplied) l_multiplied q_multiplied e_multiplied
  have b_multiplied := F_multiplied.binds (ps := ["one", "other"]) fun _ _ _ _ _ _ us hl => match us, hl with | [_, _], _ => rfl
  have X_multiplied := FunX.of F_multiplied
  have F_opposite := fun_mk (st := s_opposite) l_opposite q_opposite e_opposite
  have b_opposite := F_opposite.binds (ps := ["one"]) fun _ _ _ _ _ _ us hl => match us, hl with | [_], _ => rfl
  have X_opposite := FunX.of F_opposite
  have F_divided := fun_mk (st := s_divided) l_divided q_divided e_divided
  have b_divided := F_divided.binds (ps := ["one", "other"]) fun _ _ _ _ _ _ us hl => match us, hl with | [_, _], _ => rfl
  have X_divided := FunX.of F_divided
  have F_sum_of := fun_mk (st := s_sum_of) l_sum_of q_sum_of e_sum_of
  have b_sum_of := F_sum_of.binds (ps := ["numbers"]) fun _ _ _ _ _ _ us hl => match us, hl with | [_], _ => rfl
  have X_sum_of := FunX.of F_sum_of
  have F_plus := fun_mk (st := s_plus) l_plus q_plus e_plus
  have b_plus := F_plus.binds (ps := ["one", "other"]) fun _ _ _ _ _ _ us hl => match us, hl with | [_, _], _ => rfl
  have X_plus := FunX.of F_plus
  have F_minus := fun_mk (st := s_minus) l_minus q_minus e_minus
  have b_minus := F_minus.binds (ps := ["one", "other"]) fun _ _ _ _ _ _ us hl => match us, hl with | [_, _], _ => rfl
  have X_minus := FunX.of F_minus
  have F_times := fun_mk (st := s_times) l_times q_times e_times
  have b_times := F_times.binds (ps := ["one", "other"]) fun _ _ _ _ _ _ us hl => match us, hl with | [_, _], _ => rfl
  have X_times := FunX.of F_times
  have F_over := fun_mk (st := s_over) l_over q_over e_over
  have b_over := F_over.binds (ps := ["one", "other"]) fun _ _ _ _ _ _ us hl => match us, hl with | [_, _], _ => rfl
  have X_over := FunX.of F_over
  have F_compared := fun_mk (st := s_compared) l_compared q_compared e_compared
  have b_compared := F_compared.binds (ps := ["one", "other"]) fun _ _ _ _ _ _ us hl => match us, hl with | [_, _], _ => rfl
  have X_compared := FunX.of F_compared
  have F_total := fun_mk (st := s_total) l_total q_total e_total
  have b_total := F_total.binds (ps := ["numbers"]) fun _ _ _ _ _ _ us hl => match us, hl with | [_], _ => rfl
  have X_total := FunX.of F_total
  have F_power := fun_mk (st := s_power) l_power q_power e_power
  have b_power := F_power.binds (ps := ["one", "many"]) fun _ _ _ _ _ _ us hl => match us, hl with | [_, _], _ => rfl
  have X_power := FunX.of F_power
  have F__law_dice := fun_mk (st := s__law_dice) l__law_dice q__law_dice e__law_dice
  have b__law_dice := F__law_dice.binds (ps := ["script", "spot"]) fun _ _ _ _ _ _ us hl => match us, hl with | [_, _], _ => rfl
  have X__law_dice := FunX.of F__law_dice
  have F__law_roll := fun_mk (st := s__law_roll) l__law_roll q__law_roll e__law_roll
  have b__law_roll := F__law_roll.binds (ps := ["dice", "many"]) fun _ _ _ _ _ _ us hl => match us, hl with | [_, _], _ => rfl
  have X__law_roll := FunX.of F__law_roll
  have F__law_pick := fun_mk (st := s__law_pick) l__law_pick q__law_pick e__law_pick
  have b__law_pick := F__law_pick.binds (ps := ["dice", "items"]) fun _ _ _ _ _ _ us hl => match us, hl with | [_, _], _ => rfl
  have X__law_pick := FunX.of F__law_pick
  have F__law_fr := fun_mk (st := s__law_fr) l__law_fr q__law_fr e__law_fr
  have b__law_fr := F__law_fr.binds (ps := ["top", "bottom"]) fun _ _ _ _ _ _ us hl => match us, hl with | [_, _], _ => rfl
  have X__law_fr := FunX.of F__law_fr
  have F__law_is_number := fun_mk (st := s__law_is_number) l__law_is_number q__law_is_number e__law_is_number
  have b__law_is_number := F__law_is_number.binds (ps := ["value"]) fun _ _ _ _ _ _ us hl => match us, hl with | [_], _ => rfl
  have X__law_is_number := FunX.of F__law_is_number
  have F__law_is_name := fun_mk (st := s__law_is_name) l__law_is_name q__law_is_name e__law_is_name
  have b__law_is_name := F__law_is_name.binds (ps := ["value"]) fun _ _ _ _ _ _ us hl => match us, hl with | [_], _ => rfl
  have X__law_is_name := FunX.of F__law_is_name
  have F__law_some := fun_mk (st := s__law_some) l__law_some q__law_some e__law_some
  have b__law_some := F__law_some.binds (ps := ["dice"]) fun _ _ _ _ _ _ us hl => match us, hl with | [_], _ => rfl
  have X__law_some := FunX.of F__law_some
  have F__law_right := fun_mk (st := s__law_right) l__law_right q__law_right e__law_right
  have b__law_right := F__law_right.binds (ps := ["dice"]) fun _ _ _ _ _ _ us hl => match us, hl with | [_], _ => rfl
  have X__law_right := FunX.of F__law_right
  have F_law := fun_mk (st := s_law) l_law q_law e_law
  have b_law := F_law.binds (ps := ["script"]) fun _ _ _ _ _ _ us hl => match us, hl with | [_], _ => rfl
  have X_law := FunX.of F_law
  have F__law_word := fun_mk (st := s__law_word) l__law_word q__law_word e__law_word
  have b__law_word := F__law_word.binds (ps := ["call"]) fun _ _ _ _ _ _ us hl => match us, hl with | [_], _ => rfl
  have X__law_word := FunX.of F__law_word
  have W_InvalidCount : OwnX Pw K C_InvalidCount "given" "IndexError" "IndexError.__new__" "IndexError.__init__" [.type "IndexError", .type "LookupError", .type "Exception", .type "BaseException", .type "object"] := ⟨excBase_IndexError, kxs_IndexError, store_IndexError, d0_InvalidCount, d1_InvalidCount, d2_InvalidCount, d3_InvalidCount, d4_InvalidCount, d5_InvalidCount, d6_InvalidCount, d7_InvalidCount, d8_InvalidCount, ⟨_, c4_InvalidCount⟩⟩
  have Y_InvalidCount : IniF Pw K mg C_InvalidCount I_InvalidCount kc_InvalidCount cc_InvalidCount _ (defScope i_InvalidCount) "given" "given" (inArg i_InvalidCount) (defBody i_InvalidCount) "InvalidCount.__init__" (defArgs i_InvalidCount) := ⟨⟨_, _, _, _, _, _, _, _, _, _, rfl, e2_InvalidCount⟩, ⟨_, _, _, _, _, _, _, _, _, _, rfl, fun _ => rfl, fun _ => rfl⟩, nscope_by (by decide +kernel), rfl, e3_InvalidCount, ⟨_, rfl, rfl⟩, ⟨_, _, _, _, _, _, e4_InvalidCount, e5_InvalidCount, e6_InvalidCount⟩, ⟨_, _, _, e7_InvalidCount⟩, PySem.W.mg_none_of X G z_super, rfl, fun _ _ _ _ => .of_eq rfl, fun _ => rfl, rfl, rfl⟩
  have R_InvalidCount : RiE Pw K mg "InvalidCount" "given" okR := ⟨⟨C_InvalidCount, I_InvalidCount, kc_InvalidCount, cc_InvalidCount, _, defScope i_InvalidCount, "given", inArg i_InvalidCount, defBody i_InvalidCount, "InvalidCount.__init__", defArgs i_InvalidCount, "given", _, _, _, _, rfl, W_InvalidCount, Y_InvalidCount, e0_InvalidCount, e1_InvalidCount, PySem.W.mg_of X G c0_InvalidCount, c3_InvalidCount, c1_InvalidCount, c2_InvalidCount, .rep (by decide) (.inl rfl)⟩⟩
  have R_InvalidFraction : RsE K mg "InvalidFraction" := ⟨⟨C_InvalidFraction, "ValueError", "ValueError.__new__", "ValueError.__init__", [.type "ValueError", .type "Exception", .type "BaseException", .type "object"], excBase_ValueError, d0_InvalidFraction, PySem.W.mg_of X G c0_InvalidFraction, c3_InvalidFraction, c1_InvalidFraction, c2_InvalidFraction⟩⟩
  have W_Refused : OwnX Pw K C_Refused "reason" "ArithmeticError" "ArithmeticError.__new__" "ArithmeticError.__init__" [.type "ArithmeticError", .type "Exception", .type "BaseException", .type "object"] := ⟨excBase_ArithmeticError, kxs_ArithmeticError, store_ArithmeticError, d0_Refused, d1_Refused, d2_Refused, d3_Refused, d4_Refused, d5_Refused, d6_Refused, d7_Refused, d8_Refused, ⟨_, c4_Refused⟩⟩
  have Y_Refused : IniF Pw K mg C_Refused I_Refused kc_Refused cc_Refused _ (defScope i_Refused) "reason" "reason" (inArg i_Refused) (defBody i_Refused) "Refused.__init__" (defArgs i_Refused) := ⟨⟨_, _, _, _, _, _, _, _, _, _, rfl, e2_Refused⟩, ⟨_, _, _, _, _, _, _, _, _, _, rfl, fun _ => rfl, fun _ => rfl⟩, nscope_by (by decide +kernel), rfl, e3_Refused, ⟨_, rfl, rfl⟩, ⟨_, _, _, _, _, _, e4_Refused, e5_Refused, e6_Refused⟩, ⟨_, _, _, e7_Refused⟩, PySem.W.mg_none_of X G z_super, rfl, fun _ _ _ _ => .of_eq rfl, fun _ => rfl, rfl, rfl⟩
  have R_Refused : RiE Pw K mg "Refused" "reason" (fun _ => true) := ⟨⟨C_Refused, I_Refused, kc_Refused, cc_Refused, _, defScope i_Refused, "reason", inArg i_Refused, defBody i_Refused, "Refused.__init__", defArgs i_Refused, "reason", _, _, _, _, rfl, W_Refused, Y_Refused, e0_Refused, e1_Refused, PySem.W.mg_of X G c0_Refused, c3_Refused, c1_Refused, c2_Refused, .con⟩⟩
  have xt : ExTab K mg subK := exTab_cons (PySem.W.mg_of X G c0_InvalidCount) (PySem.W.mg_of X G c0_InvalidFraction) (exm_of c1_InvalidFraction c4_InvalidFraction c2_InvalidFraction x_InvalidCount_InvalidFraction) (exTab_cons (PySem.W.mg_of X G c0_InvalidCount) (PySem.W.mg_of X G c0_InvalidCount) (exm_of c1_InvalidCount c4_InvalidCount c2_InvalidCount x_InvalidCount_InvalidCount) (exTab_cons (PySem.W.mg_of X G c0_InvalidCount) (PySem.W.mg_of X G c0_Refused) (exm_of c1_Refused c4_Refused c2_Refused x_InvalidCount_Refused) (exTab_cons (PySem.W.mg_of X G c0_InvalidFraction) (PySem.W.mg_of X G c0_InvalidFraction) (exm_of c1_InvalidFraction c4_InvalidFraction c2_InvalidFraction x_InvalidFraction_InvalidFraction) (exTab_cons (PySem.W.mg_of X G c0_InvalidFraction) (PySem.W.mg_of X G c0_InvalidCount) (exm_of c1_InvalidCount c4_InvalidCount c2_InvalidCount x_InvalidFraction_InvalidCount) (exTab_cons (PySem.W.mg_of X G c0_InvalidFraction) (PySem.W.mg_of X G c0_Refused) (exm_of c1_Refused c4_Refused c2_Refused x_InvalidFraction_Refused) (exTab_cons (PySem.W.mg_of X G c0_Refused) (PySem.W.mg_of X G c0_InvalidFraction) (exm_of c1_InvalidFraction c4_InvalidFraction c2_InvalidFraction x_Refused_InvalidFraction) (exTab_cons (PySem.W.mg_of X G c0_Refused) (PySem.W.mg_of X G c0_InvalidCount) (exm_of c1_InvalidCount c4_InvalidCount c2_InvalidCount x_Refused_InvalidCount) (exTab_cons (PySem.W.mg_of X G c0_Refused) (PySem.W.mg_of X G c0_Refused) (exm_of c1_Refused c4_Refused c2_Refused x_Refused_Refused) (exTab_nil)))))))))
  have xf : FxTab K mg fldK := fxTab_cons (PySem.W.mg_of X G c0_InvalidCount) (xfB_of fa_InvalidCount fb_InvalidCount c1_InvalidCount d1_InvalidCount) fc_InvalidCount (fxTab_cons (PySem.W.mg_of X G c0_Refused) (xfB_of fa_Refused fb_Refused c1_Refused d1_Refused) fc_Refused (fxTab_nil))
  letI tbI : Tb := ⟨[(kt__law_right, (("_law_right" : Str) ++ ".<locals>.") ++ "<lambda>"), (kt_law, (("law" : Str) ++ ".<locals>.") ++ "<lambda>")]⟩
  refine ⟨(PySem.W.fnOf "law" "law" (defArgs s_law) (defBody s_law) (defScope s_law) .none kV_law dc_law pm_law an_law (.ref kc_law) ct_law), [(kc__law_right, kt__law_right), (kc_law, kt_law)], spP K mg c_law, ?_, ?_, ?_, fun s v => .of_eq rfl, ?_, fun base KB NB HB => ?_⟩
  · exact fun r hr => by
      rcases List.mem_cons.mp hr with rfl | hr
      · exact he__law_right
      rcases List.mem_cons.mp hr with rfl | hr
      · exact he_law
      cases hr
  · exact fun r hr => by
      rcases List.mem_cons.mp hr with rfl | hr
      · exact y__law_right
      rcases List.mem_cons.mp hr with rfl | hr
      · exact y_law
      cases hr
  · exact fun r hr => by
      rcases List.mem_cons.mp hr with rfl | hr
      · exact PySem.W.codeHd_of_K X (codeHd_by v__law_right x__law_right)
      rcases List.mem_cons.mp hr with rfl | hr
      · exact PySem.W.codeHd_of_K X (codeHd_by v_law x_law)
      cases hr
  · intro H a ns hl hT hS
    refine law_spT (?_) hS (law_true ns hl)
    exact fun r hr => by
      rcases List.mem_cons.mp hr with rfl | hr
      · exact hT (kc__law_right, kt__law_right) (by simp)
      rcases List.mem_cons.mp hr with rfl | hr
      · exact hT (kc_law, kt_law) (by simp)
      cases hr
  have lc__law_right : ∃ c tb : Addr, TabB base mg c tb ∧ (PySem.W.fnOf "_law_right" "_law_right" (defArgs s__law_right) (defBody s__law_right) (defScope s__law_right) .none kV__law_right dc__law_right pm__law_right an__law_right (.ref kc__law_right) ct__law_right).code = .ref c ∧ (tb, (("_law_right" : Str) ++ ".<locals>.") ++ "<lambda>") ∈ Tb.C ∧ ∀ r ∈ Tb.C, r.1 = tb → r.2 = (("_law_right" : Str) ++ ".<locals>.") ++ "<lambda>" := by
    refine ⟨kc__law_right, kt__law_right, HB (kc__law_right, kt__law_right) (by simp), rfl, List.mem_cons_self, ?_⟩
    intro r hr e
    rcases List.mem_cons.mp hr with rfl | hr
    · rfl
    rcases List.mem_cons.mp hr with rfl | hr
    · exact absurd e (Ne.symm ne__law_right_law)
    cases hr
  have lc_law : ∃ c tb : Addr, TabB base mg c tb ∧ (PySem.W.fnOf "law" "law" (defArgs s_law) (defBody s_law) (defScope s_law) .none kV_law dc_law pm_law an_law (.ref kc_law) ct_law).code = .ref c ∧ (tb, (("law" : Str) ++ ".<locals>.") ++ "<lambda>") ∈ Tb.C ∧ ∀ r ∈ Tb.C, r.1 = tb → r.2 = (("law" : Str) ++ ".<locals>.") ++ "<lambda>" := by
    refine ⟨kc_law, kt_law, HB (kc_law, kt_law) (by simp), rfl, List.mem_cons_of_mem _ (List.mem_cons_self), ?_⟩
    intro r hr e
    rcases List.mem_cons.mp hr with rfl | hr
    · exact absurd e ne__law_right_law
    rcases List.mem_cons.mp hr with rfl | hr
    · rfl
    cases hr
  let T : Tx Pw K mg base := ⟨xt, xf, ⟨_, PySem.W.mg_of X G c0_InvalidFraction⟩, ⟨_, PySem.W.mg_of X G c0_InvalidCount⟩, ⟨_, PySem.W.mg_of X G c0_Refused⟩, R_InvalidCount, R_InvalidFraction, R_Refused, _, _, X__law_word, PySem.W.mg_of X G a__law_word, b__law_word, _, _, X_is_integer, PySem.W.mg_of X G a_is_integer, b_is_integer, _, _, X_is_name, PySem.W.mg_of X G a_is_name, b_is_name, _, _, X_common_divisor, PySem.W.mg_of X G a_common_divisor, b_common_divisor, _, _, X_is_number, PySem.W.mg_of X G a_is_number, b_is_number, _, _, X_reduced, PySem.W.mg_of X G a_reduced, b_reduced, _, _, X_number, PySem.W.mg_of X G a_number, b_number, _, _, X_require_number, PySem.W.mg_of X G a_require_number, b_require_number, _, _, X_require_count, PySem.W.mg_of X G a_require_count, b_require_count, bx_require_count_1, _, _, X_added, PySem.W.mg_of X G a_added, b_added, _, _, X_multiplied, PySem.W.mg_of X G a_multiplied, b_multiplied, _, _, X_opposite, PySem.W.mg_of X G a_opposite, b_opposite, _, _, X_divided, PySem.W.mg_of X G a_divided, b_divided, _, _, X_sum_of, PySem.W.mg_of X G a_sum_of, b_sum_of, _, _, X_plus, PySem.W.mg_of X G a_plus, b_plus, _, _, X_minus, PySem.W.mg_of X G a_minus, b_minus, _, _, X_times, PySem.W.mg_of X G a_times, b_times, _, _, X_over, PySem.W.mg_of X G a_over, b_over, _, _, X_compared, PySem.W.mg_of X G a_compared, b_compared, _, _, X_total, PySem.W.mg_of X G a_total, b_total, _, _, X_power, PySem.W.mg_of X G a_power, b_power, _, _, X__law_dice, PySem.W.mg_of X G a__law_dice, b__law_dice, _, _, X__law_roll, PySem.W.mg_of X G a__law_roll, b__law_roll, _, _, X__law_pick, PySem.W.mg_of X G a__law_pick, b__law_pick, _, _, X__law_fr, PySem.W.mg_of X G a__law_fr, b__law_fr, _, _, X__law_is_number, PySem.W.mg_of X G a__law_is_number, b__law_is_number, _, _, X__law_is_name, PySem.W.mg_of X G a__law_is_name, b__law_is_name, _, _, X__law_some, PySem.W.mg_of X G a__law_some, b__law_some, _, _, X__law_right, PySem.W.mg_of X G a__law_right, b__law_right, _, _, X_law, PySem.W.mg_of X G a_law, b_law, PySem.W.mg_none_of X G z_abs, PySem.W.mg_none_of X G z_all, PySem.W.mg_none_of X G z_bool, PySem.W.mg_none_of X G z_int, PySem.W.mg_none_of X G z_isinstance, PySem.W.mg_none_of X G z_len, PySem.W.mg_none_of X G z_max, PySem.W.mg_none_of X G z_min, PySem.W.mg_none_of X G z_range, PySem.W.mg_none_of X G z_repr, PySem.W.mg_none_of X G z_str, PySem.W.mg_none_of X G z_tuple, ⟨V.str ("abcdefghijklmnopqrstuvwxyz"), _, PySem.W.mg_of X G k_LETTERS, ⟨_, rfl⟩, fun _ => .str _⟩, ⟨V.int (12), _, PySem.W.mg_of X G k_MAX_LETTERS, ⟨_, rfl⟩, fun _ => .int _⟩, ⟨V.int ((10 ^ 40)), _, PySem.W.mg_of X G k_MOST_PASSED, ⟨_, rfl⟩, fun _ => .int _⟩, ⟨V.ref p_NOUGHT, _, PySem.W.mg_of X G k_NOUGHT, rfl, fun H => .tup (.inr ⟨o_NOUGHT, i_NOUGHT, n_NOUGHT, k1_NOUGHT, k2_NOUGHT, k3_NOUGHT, k4_NOUGHT, k5_NOUGHT⟩) (.cons (.int _) (.cons (.int _) (.nil)))⟩, ⟨V.ref p_ONE, _, PySem.W.mg_of X G k_ONE, rfl, fun H => .tup (.inr ⟨o_ONE, i_ONE, n_ONE, k1_ONE, k2_ONE, k3_ONE, k4_ONE, k5_ONE⟩) (.cons (.int _) (.cons (.int _) (.nil)))⟩, ⟨V.str (("abcdefghijklmnopqrstuvwxyz0123456789.")), _, PySem.W.mg_of X G k_SIGNS, ⟨_, rfl⟩, fun _ => .str _⟩, lc__law_right, lc_law⟩
  exact ok_law T
end Kw
open PySem PySem.W PyProof.Rows
set_option maxHeartbeats 0 in
theorem PySem.Challenge.cw_payroads_k22_errors_and_judges_of_number_holds : PySem.Challenge.rw_payroads_k22_errors_and_judges_of_number.Holds := by
  w_on; o_law; k_head; (case hw => w_witness2)
  k_fill
  refine Fx.walkGT (l := PySem.Challenge.rw_payroads_k22_errors_and_judges_of_number) (n := 63) (k := 9) (x := "script") rfl (by decide) rfl ⟨rfl, by decide, by decide⟩ (fun w mg fa h Y G hmg => ?_)
  have KX := PySem.W.km_in_of Y
  have HT := PySem.W.km_tabs_of Y
  refine ⟨_, KX, ?_⟩
  refine' Kw.all_mk KX G hmg ?a_is_integer ?l_is_integer ?q_is_integer ?e_is_integer ?a_is_name ?l_is_name ?q_is_name ?e_is_name ?a_common_divisor ?l_common_divisor ?q_common_divisor ?e_common_divisor ?a_is_number ?l_is_number ?q_is_number ?e_is_number ?a_reduced ?l_reduced ?q_reduced ?e_reduced ?a_number ?l_number ?q_number ?e_number ?t1_number ?t2_number ?t3_number ?a_require_number ?l_require_number ?q_require_number ?e_require_number ?a_require_count ?l_require_count ?q_require_count ?e_require_count ?t1_require_count ?t2_require_count ?t3_require_count ?a_added ?l_added ?q_added ?e_added ?a_multiplied ?l_multiplied ?q_multiplied ?e_multiplied ?a_opposite ?l_opposite ?q_opposite ?e_opposite ?a_divided ?l_divided ?q_divided ?e_divided ?a_sum_of ?l_sum_of ?q_sum_of ?e_sum_of ?a_plus ?l_plus ?q_plus ?e_plus ?a_minus ?l_minus ?q_minus ?e_minus ?a_times ?l_times ?q_times ?e_times ?a_over ?l_over ?q_over ?e_over ?a_compared ?l_compared ?q_compared ?e_compared ?a_total ?l_total ?q_total ?e_total ?a_power ?l_power ?q_power ?e_power ?a__law_dice ?l__law_dice ?q__law_dice ?e__law_dice ?a__law_roll ?l__law_roll ?q__law_roll ?e__law_roll ?a__law_pick ?l__law_pick ?q__law_pick ?e__law_pick ?a__law_fr ?l__law_fr ?q__law_fr ?e__law_fr ?a__law_is_number ?l__law_is_number ?q__law_is_number ?e__law_is_number ?a__law_is_name ?l__law_is_name ?q__law_is_name ?e__law_is_name ?a__law_some ?l__law_some ?q__law_some ?e__law_some ?a__law_right ?l__law_right ?q__law_right ?e__law_right ?v__law_right ?w__law_right ?x__law_right ?y__law_right ?z__law_right ?a_law ?l_law ?q_law ?e_law ?v_law ?w_law ?x_law ?y_law ?z_law ?a__law_word ?l__law_word ?q__law_word ?e__law_word ?z_abs ?z_all ?z_bool ?z_int ?z_isinstance ?z_len ?z_max ?z_min ?z_range ?z_repr ?z_str ?z_super ?z_tuple ?k_LETTERS ?k_MAX_LETTERS ?k_MOST_PASSED ?k_NOUGHT ?k1_NOUGHT ?k2_NOUGHT ?k3_NOUGHT ?k4_NOUGHT ?k5_NOUGHT ?k_ONE ?k1_ONE ?k2_ONE ?k3_ONE ?k4_ONE ?k5_ONE ?k_SIGNS ?c0_InvalidCount ?c1_InvalidCount ?c2_InvalidCount ?c3_InvalidCount ?c4_InvalidCount ?c0_InvalidFraction ?c1_InvalidFraction ?c2_InvalidFraction ?c3_InvalidFraction ?c4_InvalidFraction ?c0_Refused ?c1_Refused ?c2_Refused ?c3_Refused ?c4_Refused ?d0_InvalidCount ?d1_InvalidCount ?d2_InvalidCount ?d3_InvalidCount ?d4_InvalidCount ?d5_InvalidCount ?d6_InvalidCount ?d7_InvalidCount ?d8_InvalidCount ?e0_InvalidCount ?e1_InvalidCount ?e2_InvalidCount ?e3_InvalidCount ?e4_InvalidCount ?e5_InvalidCount ?e6_InvalidCount ?e7_InvalidCount ?d0_InvalidFraction ?d0_Refused ?d1_Refused ?d2_Refused ?d3_Refused ?d4_Refused ?d5_Refused ?d6_Refused ?d7_Refused ?d8_Refused ?e0_Refused ?e1_Refused ?e2_Refused ?e3_Refused ?e4_Refused ?e5_Refused ?e6_Refused ?e7_Refused ?x_Refused_Refused ?x_Refused_InvalidCount ?x_Refused_InvalidFraction ?x_InvalidFraction_Refused ?x_InvalidFraction_InvalidCount ?x_InvalidFraction_InvalidFraction ?x_InvalidCount_Refused ?x_InvalidCount_InvalidCount ?x_InvalidCount_InvalidFraction ?fa_Refused ?fb_Refused ?fc_Refused ?fa_InvalidCount ?fb_InvalidCount ?fc_InvalidCount ?ne__law_right_law ?he__law_right ?he_law
  (case a_is_integer => k_is)
  (case l_is_integer => k_is)
  (case q_is_integer => k_is)
  (case e_is_integer => k_is)
  (case a_is_name => k_is)
  (case l_is_name => k_is)
  (case q_is_name => k_is)
  (case e_is_name => k_is)
  (case a_common_divisor => k_is)
  (case l_common_divisor => k_is)
  (case q_common_divisor => k_is)
  (case e_common_divisor => k_is)
  (case a_is_number => k_is)
  (case l_is_number => k_is)
  (case q_is_number => k_is)
  (case e_is_number => k_is)
  (case a_reduced => k_is)
  (case l_reduced => k_is)
  (case q_reduced => k_is)
  (case e_reduced => k_is)
  (case a_number => k_is)
  (case l_number => k_is)
  (case q_number => k_is)
  (case e_number => k_is)
  (case t1_number => k_is)
  (case t2_number => rfl)
  (case t3_number => exact .cons ⟨_, rfl⟩ (.nil))
  (case a_require_number => k_is)
  (case l_require_number => k_is)
  (case q_require_number => k_is)
  (case e_require_number => k_is)
  (case a_require_count => k_is)
  (case l_require_count => k_is)
  (case q_require_count => k_is)
  (case e_require_count => k_is)
  (case t1_require_count => k_is)
  (case t2_require_count => rfl)
  (case t3_require_count => exact .cons ⟨_, rfl⟩ (.cons ⟨_, rfl⟩ (.nil)))
  (case a_added => k_is)
  (case l_added => k_is)
  (case q_added => k_is)
  (case e_added => k_is)
  (case a_multiplied => k_is)
  (case l_multiplied => k_is)
  (case q_multiplied => k_is)
  (case e_multiplied => k_is)
  (case a_opposite => k_is)
  (case l_opposite => k_is)
  (case q_opposite => k_is)
  (case e_opposite => k_is)
  (case a_divided => k_is)
  (case l_divided => k_is)
  (case q_divided => k_is)
  (case e_divided => k_is)
  (case a_sum_of => k_is)
  (case l_sum_of => k_is)
  (case q_sum_of => k_is)
  (case e_sum_of => k_is)
  (case a_plus => k_is)
  (case l_plus => k_is)
  (case q_plus => k_is)
  (case e_plus => k_is)
  (case a_minus => k_is)
  (case l_minus => k_is)
  (case q_minus => k_is)
  (case e_minus => k_is)
  (case a_times => k_is)
  (case l_times => k_is)
  (case q_times => k_is)
  (case e_times => k_is)
  (case a_over => k_is)
  (case l_over => k_is)
  (case q_over => k_is)
  (case e_over => k_is)
  (case a_compared => k_is)
  (case l_compared => k_is)
  (case q_compared => k_is)
  (case e_compared => k_is)
  (case a_total => k_is)
  (case l_total => k_is)
  (case q_total => k_is)
  (case e_total => k_is)
  (case a_power => k_is)
  (case l_power => k_is)
  (case q_power => k_is)
  (case e_power => k_is)
  (case a__law_dice => k_is)
  (case l__law_dice => k_is)
  (case q__law_dice => k_is)
  (case e__law_dice => k_is)
  (case a__law_roll => k_is)
  (case l__law_roll => k_is)
  (case q__law_roll => k_is)
  (case e__law_roll => k_is)
  (case a__law_pick => k_is)
  (case l__law_pick => k_is)
  (case q__law_pick => k_is)
  (case e__law_pick => k_is)
  (case a__law_fr => k_is)
  (case l__law_fr => k_is)
  (case q__law_fr => k_is)
  (case e__law_fr => k_is)
  (case a__law_is_number => k_is)
  (case l__law_is_number => k_is)
  (case q__law_is_number => k_is)
  (case e__law_is_number => k_is)
  (case a__law_is_name => k_is)
  (case l__law_is_name => k_is)
  (case q__law_is_name => k_is)
  (case e__law_is_name => k_is)
  (case a__law_some => k_is)
  (case l__law_some => k_is)
  (case q__law_some => k_is)
  (case e__law_some => k_is)
  (case a__law_right => k_is)
  (case l__law_right => k_is)
  (case q__law_right => k_is)
  (case e__law_right => k_is)
  (case v__law_right => k_is)
  (case w__law_right => rfl)
  (case x__law_right => first | rfl | decide +kernel)
  (case y__law_right => first | rfl | kernel_rfl | decide +kernel)
  (case z__law_right => decide)
  (case a_law => k_is)
  (case l_law => k_is)
  (case q_law => k_is)
  (case e_law => k_is)
  (case v_law => k_is)
  (case w_law => rfl)
  (case x_law => first | rfl | decide +kernel)
  (case y_law => first | rfl | kernel_rfl | decide +kernel)
  (case z_law => decide)
  (case a__law_word => k_is)
  (case l__law_word => k_is)
  (case q__law_word => k_is)
  (case e__law_word => k_is)
  (case z_abs => k_is)
  (case z_all => k_is)
  (case z_bool => k_is)
  (case z_int => k_is)
  (case z_isinstance => k_is)
  (case z_len => k_is)
  (case z_max => k_is)
  (case z_min => k_is)
  (case z_range => k_is)
  (case z_repr => k_is)
  (case z_str => k_is)
  (case z_super => k_is)
  (case z_tuple => k_is)
  (case k_LETTERS => k_is)
  (case k_MAX_LETTERS => k_is)
  (case k_MOST_PASSED => k_is)
  (case k_NOUGHT => k_is)
  (case k1_NOUGHT => k_is)
  (case k2_NOUGHT => rfl)
  (case k3_NOUGHT => rfl)
  (case k4_NOUGHT => decide)
  (case k5_NOUGHT => exact .cons ⟨_, rfl⟩ (.cons ⟨_, rfl⟩ (.nil)))
  (case k_ONE => k_is)
  (case k1_ONE => k_is)
  (case k2_ONE => rfl)
  (case k3_ONE => rfl)
  (case k4_ONE => decide)
  (case k5_ONE => exact .cons ⟨_, rfl⟩ (.cons ⟨_, rfl⟩ (.nil)))
  (case k_SIGNS => k_is)
  (case c0_InvalidCount => k_is)
  (case c1_InvalidCount => k_is)
  (case c2_InvalidCount => k_is)
  (case c3_InvalidCount => k_is)
  (case c4_InvalidCount => k_is)
  (case c0_InvalidFraction => k_is)
  (case c1_InvalidFraction => k_is)
  (case c2_InvalidFraction => k_is)
  (case c3_InvalidFraction => k_is)
  (case c4_InvalidFraction => k_is)
  (case c0_Refused => k_is)
  (case c1_Refused => k_is)
  (case c2_Refused => k_is)
  (case c3_Refused => k_is)
  (case c4_Refused => k_is)
  (case d0_InvalidCount => kernel_rfl)
  (case d1_InvalidCount => k_is)
  (case d2_InvalidCount => kernel_rfl)
  (case d3_InvalidCount => k_is)
  (case d4_InvalidCount => k_is)
  (case d5_InvalidCount => kernel_rfl)
  (case d6_InvalidCount => k_is)
  (case d7_InvalidCount => k_is)
  (case d8_InvalidCount => k_is)
  (case e0_InvalidCount => k_is)
  (case e1_InvalidCount => k_is)
  (case e2_InvalidCount => k_is)
  (case e3_InvalidCount => k_is)
  (case e4_InvalidCount => k_is)
  (case e5_InvalidCount => rfl)
  (case e6_InvalidCount => first | rfl | decide +kernel)
  (case e7_InvalidCount => k_is)
  (case d0_InvalidFraction => kernel_rfl)
  (case d0_Refused => kernel_rfl)
  (case d1_Refused => k_is)
  (case d2_Refused => kernel_rfl)
  (case d3_Refused => k_is)
  (case d4_Refused => k_is)
  (case d5_Refused => kernel_rfl)
  (case d6_Refused => k_is)
  (case d7_Refused => k_is)
  (case d8_Refused => k_is)
  (case e0_Refused => k_is)
  (case e1_Refused => k_is)
  (case e2_Refused => k_is)
  (case e3_Refused => k_is)
  (case e4_Refused => k_is)
  (case e5_Refused => rfl)
  (case e6_Refused => first | rfl | decide +kernel)
  (case e7_Refused => k_is)
  (case x_Refused_Refused => k_is)
  (case x_Refused_InvalidCount => k_is)
  (case x_Refused_InvalidFraction => k_is)
  (case x_InvalidFraction_Refused => k_is)
  (case x_InvalidFraction_InvalidCount => k_is)
  (case x_InvalidFraction_InvalidFraction => k_is)
  (case x_InvalidCount_Refused => k_is)
  (case x_InvalidCount_InvalidCount => k_is)
  (case x_InvalidCount_InvalidFraction => k_is)
  (case fa_Refused => k_is)
  (case fb_Refused => k_is)
  (case fc_Refused => k_is)
  (case fa_InvalidCount => k_is)
  (case fb_InvalidCount => k_is)
  (case fc_InvalidCount => k_is)
  (case ne__law_right_law => decide)
  (case he__law_right => exact HT _ (by simp))
  (case he_law => exact HT _ (by simp))
