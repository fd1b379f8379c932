import PyProof.Rows.All
import Wide.All
import OpenK.AllK
import Wide.FinOn
import HandS.ForMost
import HandS.Gcd
import HandS.IsInst
import KE.KTupSum
import KE.GoesZip
import KE.GoesMore
import HandS.TupLe
import HandS.TupSets
import HandS.Defaults
import HandS.ExcInit
import HandS.ExcField
import HandS.HeadHook1
import HandS.HeadHook2
import Lean
import HandS.Head0
import HandS.Head1
import HandS.Head2
import HandS.Head3
import HandS.HeadEnd
import HandS.List
import HandS.WordsExc
import PySem.Challenge.RW_evenlater_k64_whole_totals_of_what_comes
/-! ## MirA -/
set_option maxHeartbeats 200000
set_option Elab.async false
set_option linter.all false
set_option maxRecDepth 100000
/-! Data without a heap: D, a store of lists, worlds, how they stand for the layer's values and heaps. -/
namespace Mir
open PySem PySem.Spec PyProof.Rows L2

/-- a value as data: tuples by their items, a list by its number in the store, the law's seat -/
inductive D where
  | non | bl (b : Bool) | int (i : Int) | str (x : Str) | tup (l : List D) | ref (r : Nat) | seat

mutual
def D.beq : D → D → Bool
  | .non, .non => true
  | .bl a, .bl b => a == b
  | .int a, .int b => a == b
  | .str a, .str b => decide (a = b)
  | .tup a, .tup b => D.beqs a b
  | .ref a, .ref b => a == b
  | .seat, .seat => true
  | _, _ => false
def D.beqs : List D → List D → Bool
  | [], [] => true
  | a :: as, b :: bs => D.beq a b && D.beqs as bs
  | _, _ => false
end
mutual
theorem D.beq_eq : ∀ {a b : D}, D.beq a b = true → a = b
  | .non, .non, _ => rfl
  | .bl a, .bl b, h => by simp [D.beq] at h; rw [h]
  | .int a, .int b, h => by simp [D.beq] at h; rw [h]
  | .str a, .str b, h => by simp [D.beq] at h; rw [h]
  | .tup a, .tup b, h => by rw [D.beq] at h; rw [D.beqs_eq h]
  | .ref a, .ref b, h => by simp [D.beq] at h; rw [h]
  | .seat, .seat, _ => rfl
  | .non, .bl _, h | .non, .int _, h | .non, .str _, h | .non, .tup _, h | .non, .ref _, h | .non, .seat, h => by simp [D.beq] at h
  | .bl _, .non, h | .bl _, .int _, h | .bl _, .str _, h | .bl _, .tup _, h | .bl _, .ref _, h | .bl _, .seat, h => by simp [D.beq] at h
  | .int _, .non, h | .int _, .bl _, h | .int _, .str _, h | .int _, .tup _, h | .int _, .ref _, h | .int _, .seat, h => by simp [D.beq] at h
  | .str _, .non, h | .str _, .bl _, h | .str _, .int _, h | .str _, .tup _, h | .str _, .ref _, h | .str _, .seat, h => by simp [D.beq] at h
  | .tup _, .non, h | .tup _, .bl _, h | .tup _, .int _, h | .tup _, .str _, h | .tup _, .ref _, h | .tup _, .seat, h => by simp [D.beq] at h
  | .ref _, .non, h | .ref _, .bl _, h | .ref _, .int _, h | .ref _, .str _, h | .ref _, .tup _, h | .ref _, .seat, h => by simp [D.beq] at h
  | .seat, .non, h | .seat, .bl _, h | .seat, .int _, h | .seat, .str _, h | .seat, .tup _, h | .seat, .ref _, h => by simp [D.beq] at h
theorem D.beqs_eq : ∀ {a b : List D}, D.beqs a b = true → a = b
  | [], [], _ => rfl
  | a :: as, b :: bs, h => by
    rw [D.beqs, Bool.and_eq_true] at h
    rw [D.beq_eq h.1, D.beqs_eq h.2]
  | [], _ :: _, h | _ :: _, [], h => by simp [D.beqs] at h
end
mutual
theorem D.beq_refl : ∀ a : D, D.beq a a = true
  | .non => rfl
  | .bl a => by simp [D.beq]
  | .int a => by simp [D.beq]
  | .str a => by simp [D.beq]
  | .tup a => by rw [D.beq]; exact D.beqs_refl a
  | .ref a => by simp [D.beq]
  | .seat => rfl
theorem D.beqs_refl : ∀ a : List D, D.beqs a a = true
  | [] => rfl
  | a :: as => by rw [D.beqs, D.beq_refl a, D.beqs_refl as]; rfl
end
instance : DecidableEq D := fun a b => if h : D.beq a b = true then .isTrue (D.beq_eq h) else .isFalse fun e => h (by rw [e]; exact D.beq_refl b)

/-- the state: the seat's two parts (great numbers, the mix), the lists -/
structure MS where
  seat : Option (List Int × Int)
  st : List (List D)
/-- the world: the tracked heap, where the lists stand, where the seat's two lists stand -/
structure Wd where
  H : Hp
  r : List Addr
  w : List Addr

mutual
inductive RV (w : Wd) : D → V → Prop
  | non : RV w .non .non
  | bl (b : Bool) : RV w (.bl b) (.bl b)
  | int (i : Int) : RV w (.int i) (.int i)
  | str (x : Str) : RV w (.str x) (.str x)
  | tup {a : Addr} {ds : List D} {vs : List V} (h : w.H a = some (.tup vs)) (r : RVs w ds vs) : RV w (.tup ds) (.ref a)
  | ref {r : Nat} {a : Addr} (h : w.r[r]? = some a) : RV w (.ref r) (.ref a)
  | seat {a : Addr} (h : w.w.head? = some a) : RV w .seat (.ref a)
inductive RVs (w : Wd) : List D → List V → Prop
  | nil : RVs w [] []
  | cons {d : D} {v : V} {ds : List D} {vs : List V} (h : RV w d v) (t : RVs w ds vs) : RVs w (d :: ds) (v :: vs)
end

theorem RVs.length {w : Wd} : ∀ {ds : List D} {vs : List V}, RVs w ds vs → ds.length = vs.length
  | _, _, .nil => rfl
  | _, _, .cons _ t => by rw [List.length_cons, List.length_cons, RVs.length t]
theorem RVs.get {w : Wd} : ∀ {ds : List D} {vs : List V} {i : Nat} {d : D}, RVs w ds vs → ds[i]? = some d → ∃ v, vs[i]? = some v ∧ RV w d v
  | _, _, _, _, .nil, e => by simp at e
  | _, _, 0, _, .cons h _, e => by simp at e; subst e; exact ⟨_, rfl, h⟩
  | _, _, i + 1, _, .cons _ t, e => by
    obtain ⟨v, h1, h2⟩ := RVs.get (i := i) t (by simpa using e)
    exact ⟨v, by simpa using h1, h2⟩
theorem RVs.get' {w : Wd} : ∀ {ds : List D} {vs : List V} {i : Nat} {v : V}, RVs w ds vs → vs[i]? = some v → ∃ d, ds[i]? = some d ∧ RV w d v
  | _, _, _, _, .nil, e => by simp at e
  | _, _, 0, _, .cons h _, e => by simp at e; subst e; exact ⟨_, rfl, h⟩
  | _, _, i + 1, _, .cons _ t, e => by
    obtain ⟨v, h1, h2⟩ := RVs.get' (i := i) t (by simpa using e)
    exact ⟨v, by simpa using h1, h2⟩
theorem RVs.append {w : Wd} : ∀ {ds es : List D} {vs us : List V}, RVs w ds vs → RVs w es us → RVs w (ds ++ es) (vs ++ us)
  | _, _, _, _, .nil, s => s
  | _, _, _, _, .cons h t, s => .cons h (RVs.append t s)
theorem RVs.set {w : Wd} {d : D} {v : V} (h : RV w d v) : ∀ {ds : List D} {vs : List V} (i : Nat), RVs w ds vs → RVs w (ds.set i d) (vs.set i v)
  | _, _, _, .nil => .nil
  | _, _, 0, .cons _ t => .cons h t
  | _, _, i + 1, .cons q t => .cons q (RVs.set h i t)
theorem RVs.ints {w : Wd} : ∀ {ns : List Int} {vs : List V}, RVs w (ns.map D.int) vs → vs = ns.map V.int
  | [], vs, h => by rw [List.map_nil] at h; cases h; rfl
  | n :: ns, vs, h => by
    rw [List.map_cons] at h
    cases h with
    | cons r t => cases r; rw [RVs.ints t, List.map_cons]
theorem RVs.of_ints {w : Wd} : ∀ ns : List Int, RVs w (ns.map D.int) (ns.map V.int)
  | [] => .nil
  | n :: ns => .cons (.int n) (RVs.of_ints ns)
theorem RVs.bls {w : Wd} : ∀ {ns : List Bool} {vs : List V}, RVs w (ns.map D.bl) vs → vs = ns.map V.bl
  | [], vs, h => by rw [List.map_nil] at h; cases h; rfl
  | n :: ns, vs, h => by
    rw [List.map_cons] at h
    cases h with
    | cons r t => cases r; rw [RVs.bls t, List.map_cons]

/-- the state is held by the world -/
structure WOk (w : Wd) (s : MS) : Prop where
  len : w.r.length = s.st.length
  nd : (w.w ++ w.r).Nodup
  lst : ∀ (i : Nat) (xs : List D), s.st[i]? = some xs → ∃ a vs, w.r[i]? = some a ∧ w.H a = some (.lst vs) ∧ RVs w xs vs
  seat : match s.seat with
    | none => w.w = []
    | some (gs, mix) => ∃ a g, w.w = [a, g] ∧ w.H a = some (.lst [.ref g, .int mix]) ∧ w.H g = some (.lst (gs.map V.int))

/-- what stands stays -/
structure Sub (w w' : Wd) : Prop where
  tups : ∀ a xs, w.H a = some (.tup xs) → w'.H a = some (.tup xs)
  pre : ∃ more, w'.r = w.r ++ more
  head : w'.w.head? = w.w.head?
/-- what a step may do to the world -/
structure Le (w w' : Wd) : Prop extends Sub w w' where
  keep : ∀ a o, w.H a = some o → a ∉ w.r → a ∉ w.w → w'.H a = some o
  there : ∀ a, w'.H a = none → w.H a = none
  ownR : ∀ a, a ∈ w'.r → a ∈ w.r ∨ w.H a = none
  ownW : ∀ a, a ∈ w'.w → a ∈ w.w ∨ w.H a = none
theorem Le.own {w w' : Wd} (l : Le w w') : ∀ a, a ∈ w'.r ∨ a ∈ w'.w → (a ∈ w.r ∨ a ∈ w.w) ∨ w.H a = none := fun a h => by
  rcases h with h | h
  · rcases l.ownR a h with q | q
    · exact .inl (.inl q)
    · exact .inr q
  · rcases l.ownW a h with q | q
    · exact .inl (.inr q)
    · exact .inr q
theorem Le.refl (w : Wd) : Le w w := ⟨⟨fun _ _ h => h, ⟨[], by simp⟩, rfl⟩, fun _ _ h _ _ => h, fun _ h => h, fun _ h => .inl h, fun _ h => .inl h⟩
theorem Le.trans {a b c : Wd} (x : Le a b) (y : Le b c) : Le a c where
  keep := fun p o h h1 h2 => by
    refine y.keep p o (x.keep p o h h1 h2) (fun z => ?_) fun z => ?_
    · rcases x.ownR p z with q | q
      · exact h1 q
      · rw [h] at q; cases q
    · rcases x.ownW p z with q | q
      · exact h2 q
      · rw [h] at q; cases q
  there := fun p h => x.there p (y.there p h)
  ownR := fun p h => by
    rcases y.ownR p h with q | q
    · exact x.ownR p q
    · exact .inr (x.there p q)
  ownW := fun p h => by
    rcases y.ownW p h with q | q
    · exact x.ownW p q
    · exact .inr (x.there p q)
  tups := fun p xs h => y.tups p xs (x.tups p xs h)
  pre := by
    obtain ⟨m, e⟩ := x.pre
    obtain ⟨n, f⟩ := y.pre
    exact ⟨m ++ n, by rw [f, e, List.append_assoc]⟩
  head := y.head.trans x.head

theorem Sub.ix {w w' : Wd} (l : Sub w w') {i : Nat} {a : Addr} (h : w.r[i]? = some a) : w'.r[i]? = some a := by
  obtain ⟨m, e⟩ := l.pre
  rw [e, List.getElem?_append_left (List.getElem?_eq_some_iff.mp h).1]
  exact h
mutual
theorem RV.le {w w' : Wd} (l : Sub w w') : ∀ {d : D} {v : V}, RV w d v → RV w' d v
  | _, _, .non => .non
  | _, _, .bl b => .bl b
  | _, _, .int i => .int i
  | _, _, .str x => .str x
  | _, _, .tup h r => .tup (l.tups _ _ h) (RVs.le l r)
  | _, _, .ref h => .ref (l.ix h)
  | _, _, .seat h => .seat (by rw [l.head]; exact h)
theorem RVs.le {w w' : Wd} (l : Sub w w') : ∀ {ds : List D} {vs : List V}, RVs w ds vs → RVs w' ds vs
  | _, _, .nil => .nil
  | _, _, .cons h t => .cons (RV.le l h) (RVs.le l t)
end

/-- the slots -/
abbrev Env := List (Option D)
structure EOk (w : Wd) (env : Env) (σ : L2.St) : Prop where
  len : env.length = σ.length
  get : ∀ (i : Nat) (d : D), env[i]? = some (some d) → ∃ v, σ[i]? = some (some v) ∧ RV w d v
theorem EOk.le {w w' : Wd} {env : Env} {σ : L2.St} (e : EOk w env σ) (l : Sub w w') : EOk w' env σ := ⟨e.len, fun i d h => by
  obtain ⟨v, h1, h2⟩ := e.get i d h
  exact ⟨v, h1, h2.le l⟩⟩
theorem EOk.set {w : Wd} {env : Env} {σ : L2.St} (e : EOk w env σ) (i : Nat) {d : D} {v : V} (h : RV w d v) : EOk w (env.set i (some d)) (σ.set i (some v)) := by
  refine ⟨by simpa using e.len, fun j d' hj => ?_⟩
  by_cases hij : i = j
  · subst hij
    by_cases hl : i < env.length
    · rw [List.getElem?_set_self hl] at hj
      cases hj
      exact ⟨v, by rw [List.getElem?_set_self (by rw [← e.len]; exact hl)], h⟩
    · rw [List.getElem?_eq_none (by simpa using hl)] at hj; cases hj
  · rw [List.getElem?_set_ne hij] at hj
    obtain ⟨u, h1, h2⟩ := e.get j d' hj
    exact ⟨u, by rw [List.getElem?_set_ne hij]; exact h1, h2⟩
theorem EOk.unset {w : Wd} {env : Env} {σ : L2.St} (e : EOk w env σ) (i : Nat) (o : Option V) : EOk w (env.set i none) (σ.set i o) := by
  refine ⟨by simpa using e.len, fun j d' hj => ?_⟩
  by_cases hij : i = j
  · subst hij
    by_cases hl : i < env.length
    · rw [List.getElem?_set_self hl] at hj; cases hj
    · rw [List.getElem?_eq_none (by simpa using hl)] at hj; cases hj
  · rw [List.getElem?_set_ne hij] at hj
    obtain ⟨u, h1, h2⟩ := e.get j d' hj
    exact ⟨u, by rw [List.getElem?_set_ne hij]; exact h1, h2⟩

/-! ### a new tuple, a new list, a list changed -/
theorem WOk.fresh {w : Wd} {s : MS} (k : WOk w s) {p : Addr} (hp : w.H p = none) : p ∉ w.r ∧ p ∉ w.w := by
  constructor
  · intro z
    obtain ⟨i, hi, e⟩ := List.getElem_of_mem z
    have hi' : i < s.st.length := by rw [← k.len]; exact hi
    obtain ⟨a, vs, h1, h2, _⟩ := k.lst i _ (List.getElem?_eq_getElem hi')
    rw [List.getElem?_eq_getElem hi] at h1
    rw [← Option.some.inj h1, e, hp] at h2
    cases h2
  · intro z
    have hs := k.seat
    cases e : s.seat with
    | none => rw [e] at hs; rw [hs] at z; cases z
    | some q =>
      obtain ⟨gs, mix⟩ := q
      rw [e] at hs
      obtain ⟨a, g, h1, h2, h3⟩ := hs
      rw [h1] at z
      rcases List.mem_cons.mp z with rfl | z
      · rw [hp] at h2; cases h2
      · rcases List.mem_cons.mp z with rfl | z
        · rw [hp] at h3; cases h3
        · cases z
/-- the world with o at p -/
def Wd.put (w : Wd) (p : Addr) (o : HO) : Wd := { w with H := upd w.H p o }
theorem Le.tup {w : Wd} {s : MS} (k : WOk w s) {p : Addr} {o : HO} (hp : w.H p = none) : Le w (w.put p o) where
  keep := fun a o h _ _ => by show upd w.H p _ a = _; rw [upd_ne (ne_of_none h hp)]; exact h
  there := fun a h => by
    by_cases e : a = p
    · rw [e] at h
      exact absurd ((upd_same (H := w.H) (a := p) (o := o)).symm.trans h) (by simp)
    · exact (upd_ne (H := w.H) (o := o) e).symm.trans h
  ownR := fun _ h => .inl h
  ownW := fun _ h => .inl h
  tups := fun a xs h => by show upd w.H p _ a = _; rw [upd_ne (ne_of_none h hp)]; exact h
  pre := ⟨[], by simp [Wd.put]⟩
  head := rfl
theorem WOk.keep {w w' : Wd} {s : MS} (k : WOk w s) (l : Le w w') (hr : w'.r = w.r) (hw : w'.w = w.w) (hk : ∀ a, a ∈ w.r ∨ a ∈ w.w → w'.H a = w.H a) : WOk w' s where
  len := by rw [hr]; exact k.len
  nd := by rw [hr, hw]; exact k.nd
  lst := fun i xs e => by
    obtain ⟨a, vs, h1, h2, h3⟩ := k.lst i xs e
    exact ⟨a, vs, by rw [hr]; exact h1, by rw [hk a (.inl (List.mem_of_getElem? h1))]; exact h2, h3.le l.toSub⟩
  seat := by
    have hs := k.seat
    cases e : s.seat with
    | none => rw [e] at hs; simp only; rw [hw]; exact hs
    | some q =>
      obtain ⟨gs, mix⟩ := q
      rw [e] at hs
      obtain ⟨a, g, h1, h2, h3⟩ := hs
      have ha : a ∈ w.w := by rw [h1]; simp
      have hg : g ∈ w.w := by rw [h1]; simp
      exact ⟨a, g, by rw [hw]; exact h1, by rw [hk a (.inr ha)]; exact h2, by rw [hk g (.inr hg)]; exact h3⟩
/-- any new object that is not the store's -/
theorem WOk.put {w : Wd} {s : MS} (k : WOk w s) {p : Addr} {o : HO} (hp : w.H p = none) : WOk (w.put p o) s :=
  k.keep (Le.tup k hp) rfl rfl fun a ha => by
    have hf := k.fresh hp
    show upd w.H p _ a = _
    rw [upd_ne]
    rintro rfl
    rcases ha with z | z
    · exact hf.1 z
    · exact hf.2 z
/-- .. an object outside the store changed -/
theorem Le.chg {w : Wd} {p : Addr} {o : HO} (hr : p ∈ w.r ∨ p ∈ w.w) (hn : ∀ xs, w.H p ≠ some (.tup xs)) : Le w (w.put p o) where
  keep := fun a o h h1 h2 => by
    show upd w.H p _ a = _
    rw [upd_ne]
    · exact h
    · rintro rfl
      rcases hr with z | z
      · exact h1 z
      · exact h2 z
  there := fun a h => by
    by_cases e : a = p
    · rw [e] at h
      exact absurd ((upd_same (H := w.H) (a := p) (o := o)).symm.trans h) (by simp)
    · exact (upd_ne (H := w.H) (o := o) e).symm.trans h
  ownR := fun _ h => .inl h
  ownW := fun _ h => .inl h
  tups := fun a xs h => by
    show upd w.H p _ a = _
    rw [upd_ne]
    · exact h
    · rintro rfl
      exact hn xs h
  pre := ⟨[], by simp [Wd.put]⟩
  head := rfl
/-- a list of the store changed -/
theorem WOk.set {w : Wd} {s : MS} (k : WOk w s) {r : Nat} {p : Addr} {xs : List D} {vs : List V} (hp : w.r[r]? = some p) (x : RVs w xs vs) :
    WOk (w.put p (.lst vs)) { s with st := s.st.set r xs } ∧ Le w (w.put p (.lst vs)) := by
  have hm : p ∈ w.r := List.mem_of_getElem? hp
  have hr : r < w.r.length := (List.getElem?_eq_some_iff.mp hp).1
  have hr' : r < s.st.length := by rw [← k.len]; exact hr
  obtain ⟨a, us, h1, h2, _⟩ := k.lst r _ (List.getElem?_eq_getElem hr')
  rw [hp] at h1
  cases h1
  have l : Le w (w.put p (.lst vs)) := Le.chg (.inl hm) fun ys z => by rw [h2] at z; cases z
  have hnw : p ∉ w.w := fun z => by
    have := (List.nodup_append.mp k.nd).2.2 p z p hm
    exact this rfl
  refine ⟨⟨by show w.r.length = _; rw [k.len]; simp, k.nd, fun i ys e => ?_, ?_⟩, l⟩
  · by_cases hi : r = i
    · subst hi
      have e' : (s.st.set r xs)[r]? = some ys := e
      rw [List.getElem?_set_self hr'] at e'
      cases e'
      exact ⟨p, vs, hp, upd_same, x.le l.toSub⟩
    · have e' : (s.st.set r xs)[i]? = some ys := e
      rw [List.getElem?_set_ne hi] at e'
      obtain ⟨b, us', g1, g2, g3⟩ := k.lst i ys e'
      refine ⟨b, us', g1, ?_, g3.le l.toSub⟩
      show upd w.H p _ b = _
      rw [upd_ne]
      · exact g2
      · rintro rfl
        have nd : w.r.Nodup := (List.nodup_append.mp k.nd).2.1
        exact hi (nd_ix nd hp g1)
  · have hs := k.seat
    cases e : s.seat with
    | none => rw [e] at hs; exact hs
    | some q =>
      obtain ⟨gs, mix⟩ := q
      rw [e] at hs
      obtain ⟨a, g, h1, h2, h3⟩ := hs
      have ha : a ≠ p := fun z => hnw (by rw [h1, ← z]; simp)
      have hg : g ≠ p := fun z => hnw (by rw [h1, ← z]; simp)
      exact ⟨a, g, h1, by show upd w.H p _ a = _; rw [upd_ne ha]; exact h2, by show upd w.H p _ g = _; rw [upd_ne hg]; exact h3⟩
/-- the world with one list more, that stands at p -/
def Wd.new (w : Wd) (p : Addr) : Wd := { w with r := w.r ++ [p] }
theorem Sub.new (w : Wd) (p : Addr) : Sub w (w.new p) := ⟨fun _ _ h => h, ⟨[p], rfl⟩, rfl⟩
theorem Le.new {w w2 : Wd} {p : Addr} (l : Le w w2) (hp : w.H p = none) : Le w (w2.new p) where
  tups := l.tups
  pre := by
    obtain ⟨m, e⟩ := l.pre
    exact ⟨m ++ [p], by show w2.r ++ [p] = _; rw [e, List.append_assoc]⟩
  head := l.head
  keep := l.keep
  there := l.there
  ownR := fun a h => by
    rcases List.mem_append.mp h with h | h
    · exact l.ownR a h
    · have e : a = p := by simpa using h
      subst e
      exact .inr hp
  ownW := l.ownW
theorem WOk.new {w : Wd} {s : MS} (k : WOk w s) {p : Addr} {xs : List D} {vs : List V} (hp : w.H p = some (.lst vs)) (hr : p ∉ w.r) (hw : p ∉ w.w) (x : RVs w xs vs) :
    WOk (w.new p) { s with st := s.st ++ [xs] } where
  len := by show (w.r ++ [p]).length = (s.st ++ [xs]).length; rw [List.length_append, List.length_append, k.len]; rfl
  nd := by
    show (w.w ++ (w.r ++ [p])).Nodup
    rw [← List.append_assoc, List.nodup_append]
    refine ⟨k.nd, by simp, fun a ha b hb => ?_⟩
    have e : b = p := by simpa using hb
    subst e
    rintro rfl
    rcases List.mem_append.mp ha with z | z
    · exact hw z
    · exact hr z
  lst := fun i ys e => by
    have e' : (s.st ++ [xs])[i]? = some ys := e
    by_cases hi : i < s.st.length
    · rw [List.getElem?_append_left hi] at e'
      obtain ⟨a, vs', h1, h2, h3⟩ := k.lst i ys e'
      exact ⟨a, vs', (Sub.new w p).ix h1, h2, h3.le (Sub.new w p)⟩
    · rw [List.getElem?_append_right (by omega)] at e'
      have hz : i - s.st.length = 0 := by
        cases q : i - s.st.length with
        | zero => rfl
        | succ n => rw [q] at e'; simp at e'
      rw [hz] at e'
      have e2 : xs = ys := by simpa using e'
      subst e2
      have hi2 : i = w.r.length := by rw [k.len]; omega
      subst hi2
      exact ⟨p, vs, by show (w.r ++ [p])[w.r.length]? = _; simp, hp, x.le (Sub.new w p)⟩
  seat := k.seat
end Mir
/-! ## MirB -/
set_option maxHeartbeats 200000
set_option Elab.async false
set_option linter.all false
set_option maxRecDepth 100000
/-! The judgements over data: an expression e of the text computes m (QE X e m), and so on; the rules of the layer, turned to them. -/
namespace Mir
open PySem PySem.Spec PyProof.Rows L2

abbrev EM := Env → MS → Option (D × MS)
abbrev TM := Env → MS → Option (Bool × MS)
abbrev AM := Env → MS → Option (List D × MS)
inductive Out where
  | nx (env : Env) | rt (d : D)
abbrev SM := Env → MS → Option (Out × MS)
abbrev GM := D → Env → MS → Option (Env × MS)
def bnd {α β : Type} (o : Option (α × MS)) (f : α → MS → Option β) : Option β := match o with
  | none => none
  | some (a, s) => f a s
theorem bnd_some {α β : Type} (a : α) (s : MS) (f : α → MS → Option β) : bnd (some (a, s)) f = f a s := rfl
theorem bnd_eq {α β : Type} {o : Option (α × MS)} {f : α → MS → Option β} {b : β} (h : bnd o f = some b) : ∃ a s, o = some (a, s) ∧ f a s = some b := by
  cases o with
  | none => cases h
  | some p => exact ⟨p.1, p.2, rfl, h⟩
def ret {α : Type} (o : Option α) (s : MS) : Option (α × MS) := match o with
  | none => none
  | some a => some (a, s)
theorem ret_some {α : Type} (a : α) (s : MS) : ret (some a) s = some (a, s) := rfl
theorem ret_eq {α : Type} {o : Option α} {s s' : MS} {a : α} (h : ret o s = some (a, s')) : o = some a ∧ s' = s := by
  cases o with
  | none => cases h
  | some b => cases h; exact ⟨rfl, rfl⟩

/-! ### the readings -/
def loE (m : EM) : TE := fun σ H Q => ∃ (w : Wd) (env : Env) (s : MS) (d : D) (s' : MS), w.H = H ∧ WOk w s ∧ EOk w env σ ∧ m env s = some (d, s') ∧ ∀ w' v, WOk w' s' → Le w w' → RV w' d v → Q v w'.H
def loT (m : TM) : TT := fun σ H Q => ∃ (w : Wd) (env : Env) (s : MS) (b : Bool) (s' : MS), w.H = H ∧ WOk w s ∧ EOk w env σ ∧ m env s = some (b, s') ∧ ∀ w', WOk w' s' → Le w w' → Q b w'.H
def loA (m : AM) : TA := fun σ H Q => ∃ (w : Wd) (env : Env) (s : MS) (ds : List D) (s' : MS), w.H = H ∧ WOk w s ∧ EOk w env σ ∧ m env s = some (ds, s') ∧ ∀ w' vs, WOk w' s' → Le w w' → RVs w' ds vs → Q vs w'.H
def loS (m : SM) : TS := fun D σ H => ∃ (w : Wd) (env : Env) (s : MS) (o : Out) (s' : MS), w.H = H ∧ WOk w s ∧ EOk w env σ ∧ m env s = some (o, s') ∧
  match o with
  | .nx env' => ∀ w' σ', WOk w' s' → Le w w' → EOk w' env' σ' → D.nx σ' w'.H
  | .rt d => ∀ w' v, WOk w' s' → Le w w' → RV w' d v → D.rt v w'.H
def loG (m : GM) : TG := fun v σ H Q => ∃ (w : Wd) (env : Env) (s : MS) (d : D) (env' : Env) (s' : MS), w.H = H ∧ WOk w s ∧ EOk w env σ ∧ RV w d v ∧ m d env s = some (env', s') ∧ ∀ w' σ', WOk w' s' → Le w w' → EOk w' env' σ' → Q σ' w'.H
abbrev GsM := List D → Env → MS → Option (Env × MS)
def loGs (m : GsM) : TGs := fun vs σ H Q => ∃ (w : Wd) (env : Env) (s : MS) (ds : List D) (env' : Env) (s' : MS), w.H = H ∧ WOk w s ∧ EOk w env σ ∧ RVs w ds vs ∧ m ds env s = some (env', s') ∧ ∀ w' σ', WOk w' s' → Le w w' → EOk w' env' σ' → Q σ' w'.H

abbrev QE (X : Cx) (e : Expr) (m : EM) : Prop := PE X e (loE m)
abbrev QT (X : Cx) (e : Expr) (m : TM) : Prop := PT X e (loT m)
abbrev QW (X : Cx) (e : Expr) (m : TM) : Prop := PW X e (loT m)
abbrev QA (X : Cx) (es : List Expr) (m : AM) : Prop := PA X es (loA m)
abbrev QS (X : Cx) (st : Stmt) (m : SM) : Prop := PS X st (loS m)
abbrev QSs (X : Cx) (st : List Stmt) (m : SM) : Prop := PSs X st (loS m)
abbrev QG (X : Cx) (tg : Expr) (m : GM) : Prop := PG X tg (loG m)
abbrev QGs (X : Cx) (tg : List Expr) (m : GsM) : Prop := PGs X tg (loGs m)

section
variable {X : Cx}
theorem pe_mono {e : Expr} {t u : TE} (h : PE X e t) (hu : ∀ σ H Q, u σ H Q → t σ H Q) : PE X e u := ⟨fun pins s σ H Q I q => h.run pins s σ H Q I (hu σ H Q q)⟩
theorem pt_mono {e : Expr} {t u : TT} (h : PT X e t) (hu : ∀ σ H Q, u σ H Q → t σ H Q) : PT X e u := ⟨fun pins s σ H Q I q => h.run pins s σ H Q I (hu σ H Q q)⟩
theorem pw_mono {e : Expr} {t u : TT} (h : PW X e t) (hu : ∀ σ H Q, u σ H Q → t σ H Q) : PW X e u := ⟨fun wh pins s σ H Q I q => h.run wh pins s σ H Q I (hu σ H Q q)⟩
theorem pa_mono {e : List Expr} {t u : TA} (h : PA X e t) (hu : ∀ σ H Q, u σ H Q → t σ H Q) : PA X e u := ⟨fun pos pins s σ H Q I q => h.run pos pins s σ H Q I (hu σ H Q q)⟩
theorem ps_mono {e : Stmt} {t u : TS} (h : PS X e t) (hu : ∀ D σ H, u D σ H → t D σ H) : PS X e u := ⟨fun pins s σ H D I q => h.run pins s σ H D I (hu D σ H q)⟩
theorem pss_mono {e : List Stmt} {t u : TS} (h : PSs X e t) (hu : ∀ D σ H, u D σ H → t D σ H) : PSs X e u := ⟨fun pins s σ H D I q => h.run pins s σ H D I (hu D σ H q)⟩
theorem pg_mono {e : Expr} {t u : TG} (h : PG X e t) (hu : ∀ v σ H Q, u v σ H Q → t v σ H Q) : PG X e u := ⟨fun pins s σ H v u' Q I r q => h.run pins s σ H v u' Q I r (hu v σ H Q q)⟩
theorem pgs_mono {e : List Expr} {t u : TGs} (h : PGs X e t) (hu : ∀ v σ H Q, u v σ H Q → t v σ H Q) : PGs X e u := ⟨fun pins s σ H v u' Q I r q => h.run pins s σ H v u' Q I r (hu v σ H Q q)⟩
end

/-! ### expressions -/
def eVar (i : Nat) : EM := fun env s => match env[i]? with
  | some (some d) => some (d, s)
  | _ => none
def eC (d : D) : EM := fun _ s => some (d, s)
def e1 (f : D → Option D) (a : EM) : EM := fun env s => bnd (a env s) fun x s1 => ret (f x) s1
def e2 (f : D → D → Option D) (a b : EM) : EM := fun env s => bnd (a env s) fun x s1 => bnd (b env s1) fun y s2 => ret (f x y) s2
section
variable {X : Cx} {a b c : Expr} {ma mb mc : EM} {pos : Pos}
theorem qv (i : Nat) {x : Str} {pos : Pos} (hN : X.N[i]? = some x := by rfl) (hv : Vis X.env.scope x := by first | exact Or.inl rfl | exact Or.inr (Or.inl rfl) | exact Or.inr (Or.inr rfl)) (hd : (x == ("__debug__" : Str)) = false := by decide)
    (hcd : (x == ("__classdict__" : Str)) = false := by decide) : QE X (.Name x pos) (eVar i) := by
  refine pe_mono (pe_var hN hv hd hcd) fun σ H Q ⟨w, env, s, d, s', e, k, ek, h, q⟩ => ?_
  subst e
  unfold eVar at h
  split at h
  · rename_i d' he
    cases h
    obtain ⟨v, h1, h2⟩ := ek.get i d he
    exact ⟨v, h1, q w v k (Le.refl w) h2⟩
  · cases h
theorem qe_c {d : D} {v : V} {e : Expr} (h : PE X e (tC v)) (r : ∀ w : Wd, RV w d v) : QE X e (eC d) := by
  refine pe_mono h fun σ H Q ⟨w, env, s, d', s', e, k, ek, h, q⟩ => ?_
  subst e
  cases h
  exact q w v k (Le.refl w) (r w)
theorem qint {i j pos} : QE X (.Constant (.int i) j pos) (eC (.int i)) := qe_c pe_int fun _ => .int _
theorem qbl {i j pos} : QE X (.Constant (.bool i) j pos) (eC (.bl i)) := qe_c pe_bl fun _ => .bl _
theorem qnon {j pos} : QE X (.Constant .none j pos) (eC .non) := qe_c pe_non fun _ => .non
theorem qstr {x j pos} : QE X (.Constant (.str x) j pos) (eC (.str x)) := qe_c pe_str fun _ => .str _

/-- a two-place rule answers as f says -/
def R2ok (r : R2) (f : D → D → Option D) : Prop := ∀ (w : Wd) (s : MS) (x y : D) (vx vy : V) (z : D) (Q : VK), WOk w s → RV w x vx → RV w y vy → f x y = some z → (∀ v, RV w z v → Q v w.H) → r vx vy w.H Q
theorem lo2 {r : R2} {f : D → D → Option D} (hr : R2ok r f) : ∀ σ H Q, loE (e2 f ma mb) σ H Q → tOp r (loE ma) (loE mb) σ H Q := fun σ H Q ⟨w, env, s, d, s', e, k, ek, h, q⟩ => by
  obtain ⟨x, s1, h1, h⟩ := bnd_eq h
  obtain ⟨y, s2, h2, h⟩ := bnd_eq h
  obtain ⟨h3, rfl⟩ := ret_eq h
  refine ⟨w, env, s, x, s1, e, k, ek, h1, fun w1 vx k1 l1 r1 => ?_⟩
  refine ⟨w1, env, s1, y, s', rfl, k1, ek.le l1.toSub, h2, fun w2 vy k2 l2 r2 => ?_⟩
  exact hr w2 s' x y vx vy d Q k2 (r1.le l2.toSub) r2 h3 fun v rv => q w2 v k2 (l1.trans l2) rv
theorem q_op {op : Operator} {r : R2} {f : D → D → Option D} (ho : OpR X (binaryOp op) r) (hr : R2ok r f) (ha : QE X a ma) (hb : QE X b mb) : QE X (.BinOp a op b pos) (e2 f ma mb) :=
  pe_mono (pe_op ho ha hb) (lo2 hr)
theorem q_cmp {op : CmpOp} {r : R2} {f : D → D → Option D} (ho : OpR X (compareOp op) r) (hr : R2ok r f) (ha : QE X a ma) (hb : QE X b mb) (hm : behindInMarks op b = false) : QE X (.Compare a [op] [b] pos) (e2 f ma mb) :=
  pe_mono (pe_cmpR ho ha hb hm) (lo2 hr)
def R1ok (r : V → Hp → VK → Prop) (f : D → Option D) : Prop := ∀ (w : Wd) (s : MS) (x : D) (vx : V) (z : D) (Q : VK), WOk w s → RV w x vx → f x = some z → (∀ v, RV w z v → Q v w.H) → r vx w.H Q
theorem q_un {op : UnaryOp} {r : V → Hp → VK → Prop} {f : D → Option D} (ho : UnR X (unaryOp op) r) (hr : R1ok r f) (ha : QE X a ma) : QE X (.UnaryOp op a pos) (e1 f ma) := by
  refine pe_mono (pe_un ho ha) fun σ H Q ⟨w, env, s, d, s', e, k, ek, h, q⟩ => ?_
  obtain ⟨x, s1, h1, h⟩ := bnd_eq h
  obtain ⟨h3, rfl⟩ := ret_eq h
  refine ⟨w, env, s, x, s', e, k, ek, h1, fun w1 vx k1 l1 r1 => ?_⟩
  exact hr w1 s' x vx d Q k1 r1 h3 fun v rv => q w1 v k1 l1 rv

/-! #### ints -/
def dI2 (g : Int → Int → D) : D → D → Option D
  | .int i, .int j => some (g i j)
  | _, _ => none
def dIC (C : Int → Int → Bool) (g : Int → Int → D) : D → D → Option D
  | .int i, .int j => if C i j then some (g i j) else none
  | _, _ => none
theorem dI2_eq {g : Int → Int → D} {x y z : D} (h : dI2 g x y = some z) : ∃ i j, x = .int i ∧ y = .int j ∧ z = g i j := by
  unfold dI2 at h
  split at h
  · cases h; exact ⟨_, _, rfl, rfl, rfl⟩
  · cases h
theorem dIC_eq {C : Int → Int → Bool} {g : Int → Int → D} {x y z : D} (h : dIC C g x y = some z) : ∃ i j, x = .int i ∧ y = .int j ∧ C i j = true ∧ z = g i j := by
  unfold dIC at h
  split at h
  · split at h
    · cases h; exact ⟨_, _, rfl, rfl, by assumption, rfl⟩
    · cases h
  · cases h
theorem r_I0 {g : Int → Int → V} {gd : Int → Int → D} (hg : ∀ w i j, RV w (gd i j) (g i j)) : R2ok (rI0 g) (dI2 gd) := fun w s x y vx vy z Q k rx ry h q => by
  obtain ⟨i, j, rfl, rfl, rfl⟩ := dI2_eq h
  cases rx; cases ry
  exact ⟨i, j, rfl, rfl, q _ (hg w i j)⟩
theorem r_IC {C : Int → Int → Prop} {Cb : Int → Int → Bool} {g : Int → Int → V} {gd : Int → Int → D} (hg : ∀ w i j, RV w (gd i j) (g i j)) (hC : ∀ i j, Cb i j = true → C i j) : R2ok (rI C g) (dIC Cb gd) := fun w s x y vx vy z Q k rx ry h q => by
  obtain ⟨i, j, rfl, rfl, hc, rfl⟩ := dIC_eq h
  cases rx; cases ry
  exact ⟨i, j, rfl, rfl, hC i j hc, q _ (hg w i j)⟩
def dAdd := dI2 fun i j => .int (i + j)
def dSub := dI2 fun i j => .int (i - j)
def mulOk (i j : Int) : Bool := decide (i.natAbs < 18446744073709551616) || decide (j.natAbs < 18446744073709551616)
def divOk (i j : Int) : Bool := decide (0 < j) && decide (j < 1073741824)
def modOk (i j : Int) : Bool := decide (0 < j)
def dMul := dIC mulOk fun i j => .int (i * j)
def dDiv := dIC divOk fun i j => .int (i / j)
def dMod := dIC modOk fun i j => .int (i % j)
def dLt := dI2 fun i j => .bl (decide (i < j))
def dLe := dI2 fun i j => .bl (decide (i ≤ j))
def dGt := dI2 fun i j => .bl (decide (j < i))
def dGe := dI2 fun i j => .bl (decide (j ≤ i))
theorem mulOk_ok (i j : Int) (h : mulOk i j = true) : CMul i j := by
  unfold mulOk at h
  rw [Bool.or_eq_true, decide_eq_true_iff, decide_eq_true_iff] at h
  unfold CMul
  rcases h with h | h
  · left
    constructor <;> omega
  · right
    constructor <;> omega
theorem divOk_ok (i j : Int) (h : divOk i j = true) : CDiv i j := by
  unfold divOk at h
  rw [Bool.and_eq_true, decide_eq_true_iff, decide_eq_true_iff] at h
  exact h
theorem q_add (ha : QE X a ma) (hb : QE X b mb) : QE X (.BinOp a .Add b pos) (e2 dAdd ma mb) := q_op op_add (r_I0 fun _ _ _ => .int _) ha hb
theorem q_sub (ha : QE X a ma) (hb : QE X b mb) : QE X (.BinOp a .Sub b pos) (e2 dSub ma mb) := q_op op_sub (r_I0 fun _ _ _ => .int _) ha hb
theorem q_mul (ha : QE X a ma) (hb : QE X b mb) : QE X (.BinOp a .Mult b pos) (e2 dMul ma mb) := q_op op_mul (r_IC (fun _ _ _ => .int _) mulOk_ok) ha hb
theorem q_div (ha : QE X a ma) (hb : QE X b mb) : QE X (.BinOp a .FloorDiv b pos) (e2 dDiv ma mb) := q_op op_fdiv (r_IC (fun _ _ _ => .int _) divOk_ok) ha hb
theorem q_mod (ha : QE X a ma) (hb : QE X b mb) : QE X (.BinOp a .Mod b pos) (e2 dMod ma mb) := q_op op_mod (r_IC (fun _ _ _ => .int _) fun _ _ h => of_decide_eq_true h) ha hb
def dNeg : D → Option D
  | .int i => some (.int (-i))
  | _ => none
theorem q_neg (ha : QE X a ma) : QE X (.UnaryOp .USub a pos) (e1 dNeg ma) := q_un un_neg (fun w s x vx z Q k rx h q => by
  cases rx <;> first | cases h | skip
  exact ⟨_, rfl, q _ (.int _)⟩) ha

/-! #### == of flat values -/
def dEq : D → D → Option D
  | .int i, .int j => some (.bl (decide (i = j)))
  | .bl i, .bl j => some (.bl (decide (i = j)))
  | .str i, .str j => some (.bl (decide (i = j)))
  | _, _ => none
def dNe : D → D → Option D
  | .int i, .int j => some (.bl (!decide (i = j)))
  | .bl i, .bl j => some (.bl (!decide (i = j)))
  | .str i, .str j => some (.bl (!decide (i = j)))
  | _, _ => none
theorem dec_int' {i j : Int} : decide (V.int i = V.int j) = decide (i = j) := by
  rw [Bool.eq_iff_iff]; simp
theorem dec_bl' {i j : Bool} : decide (V.bl i = V.bl j) = decide (i = j) := by
  rw [Bool.eq_iff_iff]; simp
theorem dec_str' {i j : Str} : decide (V.str i = V.str j) = decide (i = j) := by
  rw [Bool.eq_iff_iff]; simp
theorem r_eq : R2ok rEq dEq := fun w s x y vx vy z Q k rx ry h q => by
  unfold dEq at h
  split at h
  · cases h; cases rx; cases ry; exact ⟨rfl, by rw [dec_int']; exact q _ (.bl _)⟩
  · cases h; cases rx; cases ry; exact ⟨rfl, by rw [dec_bl']; exact q _ (.bl _)⟩
  · cases h; cases rx; cases ry; exact ⟨rfl, by rw [dec_str']; exact q _ (.bl _)⟩
  · cases h
theorem r_ne : R2ok rNe dNe := fun w s x y vx vy z Q k rx ry h q => by
  unfold dNe at h
  split at h
  · cases h; cases rx; cases ry; exact ⟨rfl, by rw [dec_int']; exact q _ (.bl _)⟩
  · cases h; cases rx; cases ry; exact ⟨rfl, by rw [dec_bl']; exact q _ (.bl _)⟩
  · cases h; cases rx; cases ry; exact ⟨rfl, by rw [dec_str']; exact q _ (.bl _)⟩
  · cases h
theorem q_eq (ha : QE X a ma) (hb : QE X b mb) : QE X (.Compare a [.Eq] [b] pos) (e2 dEq ma mb) := q_cmp op_eq r_eq ha hb (nomark _)
theorem q_ne (ha : QE X a ma) (hb : QE X b mb) : QE X (.Compare a [.NotEq] [b] pos) (e2 dNe ma mb) := q_cmp op_ne r_ne ha hb (nomark _)
theorem q_lt (ha : QE X a ma) (hb : QE X b mb) : QE X (.Compare a [.Lt] [b] pos) (e2 dLt ma mb) := q_cmp op_lt (r_I0 fun _ _ _ => .bl _) ha hb (nomark _)
theorem q_le (ha : QE X a ma) (hb : QE X b mb) : QE X (.Compare a [.LtE] [b] pos) (e2 dLe ma mb) := q_cmp op_le (r_I0 fun _ _ _ => .bl _) ha hb (nomark _)
theorem q_gt (ha : QE X a ma) (hb : QE X b mb) : QE X (.Compare a [.Gt] [b] pos) (e2 dGt ma mb) := q_cmp op_gt (r_I0 fun _ _ _ => .bl _) ha hb (nomark _)
theorem q_ge (ha : QE X a ma) (hb : QE X b mb) : QE X (.Compare a [.GtE] [b] pos) (e2 dGe ma mb) := q_cmp op_ge (r_I0 fun _ _ _ => .bl _) ha hb (nomark _)

/-! #### is None -/
def dIsN : D → Option D
  | .non => some (.bl true)
  | _ => some (.bl false)
def dNotN : D → Option D
  | .non => some (.bl false)
  | _ => some (.bl true)
theorem RV.non_iff {w : Wd} {d : D} {v : V} (r : RV w d v) : decide (v = .non) = (match d with | .non => true | _ => false) := by
  cases r <;> simp
theorem q_isN {j pos'} (ha : QE X a ma) : QE X (.Compare a [.Is] [.Constant .none j pos'] pos) (e1 dIsN ma) := by
  refine pe_mono (pe_cmp (pc_isN ha) rfl) fun σ H Q ⟨w, env, s, d, s', e, k, ek, h, q⟩ => ?_
  obtain ⟨x, s1, h1, h⟩ := bnd_eq h
  obtain ⟨h3, rfl⟩ := ret_eq h
  refine ⟨w, env, s, x, s', e, k, ek, h1, fun w1 vx k1 l1 r1 => ?_⟩
  dsimp only
  rw [r1.non_iff]
  cases x <;> cases h3 <;> exact q w1 _ k1 l1 (.bl _)
theorem q_notN {j pos'} (ha : QE X a ma) : QE X (.Compare a [.IsNot] [.Constant .none j pos'] pos) (e1 dNotN ma) := by
  refine pe_mono (pe_cmp (pc_notN ha) rfl) fun σ H Q ⟨w, env, s, d, s', e, k, ek, h, q⟩ => ?_
  obtain ⟨x, s1, h1, h⟩ := bnd_eq h
  obtain ⟨h3, rfl⟩ := ret_eq h
  refine ⟨w, env, s, x, s', e, k, ek, h1, fun w1 vx k1 l1 r1 => ?_⟩
  dsimp only
  rw [r1.non_iff]
  cases x <;> cases h3 <;> exact q w1 _ k1 l1 (.bl _)

/-! #### tests -/
def dB : D → Option Bool
  | .bl b => some b
  | _ => none
theorem dB_eq {d : D} {b : Bool} (h : dB d = some b) : d = .bl b := by
  cases d <;> cases h; rfl
/-- an expression that gives True or False, as a test -/
def tOf (m : EM) : TM := fun env s => bnd (m env s) fun d s1 => ret (dB d) s1
theorem lo_tOf {m : EM} {t : TE} (ht : ∀ σ H Q, loE m σ H Q → t σ H Q) : ∀ σ H Q, loT (tOf m) σ H Q → tB t σ H Q := fun σ H Q ⟨w, env, s, b, s', e, k, ek, h, q⟩ => by
  obtain ⟨d, s1, h1, h⟩ := bnd_eq h
  obtain ⟨h3, rfl⟩ := ret_eq h
  cases dB_eq h3
  refine ht σ H _ ⟨w, env, s, _, s', e, k, ek, h1, fun w1 v k1 l1 r1 => ?_⟩
  cases r1
  exact ⟨b, rfl, q w1 k1 l1⟩
theorem qt {e : Expr} {m : EM} (h : QE X e m) (he : ∀ whole, isTrue e X.env whole = (do let v ← whole; standAt e.pos; holding [v] (truthy v)) := by intro _; rfl) : QT X e (tOf m) :=
  pt_mono (pt_val h he) (lo_tOf fun _ _ _ h => h)
theorem qt_cmp {op : CmpOp} {r : R2} {f : D → D → Option D} (ho : OpR X (compareOp op) r) (hr : R2ok r f) (ha : QE X a ma) (hb : QE X b mb) (hm : behindInMarks op b = false) : QT X (.Compare a [op] [b] pos) (tOf (e2 f ma mb)) :=
  pt_mono (pt_cmpR ho ha hb hm) (lo_tOf (lo2 hr))
theorem qt_eq (ha : QE X a ma) (hb : QE X b mb) : QT X (.Compare a [.Eq] [b] pos) (tOf (e2 dEq ma mb)) := qt_cmp op_eq r_eq ha hb (nomark _)
theorem qt_ne (ha : QE X a ma) (hb : QE X b mb) : QT X (.Compare a [.NotEq] [b] pos) (tOf (e2 dNe ma mb)) := qt_cmp op_ne r_ne ha hb (nomark _)
theorem qt_lt (ha : QE X a ma) (hb : QE X b mb) : QT X (.Compare a [.Lt] [b] pos) (tOf (e2 dLt ma mb)) := qt_cmp op_lt (r_I0 fun _ _ _ => .bl _) ha hb (nomark _)
theorem qt_le (ha : QE X a ma) (hb : QE X b mb) : QT X (.Compare a [.LtE] [b] pos) (tOf (e2 dLe ma mb)) := qt_cmp op_le (r_I0 fun _ _ _ => .bl _) ha hb (nomark _)
theorem qt_gt (ha : QE X a ma) (hb : QE X b mb) : QT X (.Compare a [.Gt] [b] pos) (tOf (e2 dGt ma mb)) := qt_cmp op_gt (r_I0 fun _ _ _ => .bl _) ha hb (nomark _)
theorem qt_ge (ha : QE X a ma) (hb : QE X b mb) : QT X (.Compare a [.GtE] [b] pos) (tOf (e2 dGe ma mb)) := qt_cmp op_ge (r_I0 fun _ _ _ => .bl _) ha hb (nomark _)
theorem qt_isN {j pos'} (ha : QE X a ma) : QT X (.Compare a [.Is] [.Constant .none j pos'] pos) (tOf (e1 dIsN ma)) := by
  refine pt_mono (pt_cmp (pc_isN ha) rfl) (lo_tOf fun σ H Q ⟨w, env, s, d, s', e, k, ek, h, q⟩ => ?_)
  obtain ⟨x, s1, h1, h⟩ := bnd_eq h
  obtain ⟨h3, rfl⟩ := ret_eq h
  refine ⟨w, env, s, x, s', e, k, ek, h1, fun w1 vx k1 l1 r1 => ?_⟩
  dsimp only
  rw [r1.non_iff]
  cases x <;> cases h3 <;> exact q w1 _ k1 l1 (.bl _)
theorem qt_notN {j pos'} (ha : QE X a ma) : QT X (.Compare a [.IsNot] [.Constant .none j pos'] pos) (tOf (e1 dNotN ma)) := by
  refine pt_mono (pt_cmp (pc_notN ha) rfl) (lo_tOf fun σ H Q ⟨w, env, s, d, s', e, k, ek, h, q⟩ => ?_)
  obtain ⟨x, s1, h1, h⟩ := bnd_eq h
  obtain ⟨h3, rfl⟩ := ret_eq h
  refine ⟨w, env, s, x, s', e, k, ek, h1, fun w1 vx k1 l1 r1 => ?_⟩
  dsimp only
  rw [r1.non_iff]
  cases x <;> cases h3 <;> exact q w1 _ k1 l1 (.bl _)
def tAndM (p q : TM) : TM := fun env s => bnd (p env s) fun b s1 => if b = true then q env s1 else some (false, s1)
def tOrM (p q : TM) : TM := fun env s => bnd (p env s) fun b s1 => if b = true then some (true, s1) else q env s1
def tNotM (p : TM) : TM := fun env s => bnd (p env s) fun b s1 => some (!b, s1)
variable {mp mq : TM} {rest : List Expr}
theorem lo_pass {α : Type} {t : TT} : True := trivial
theorem qt_not (h : QT X a mp) : QT X (.UnaryOp .Not a pos) (tNotM mp) := pt_mono (pt_not h) fun σ H Q ⟨w, env, s, b, s', e, k, ek, h, q⟩ => by
  obtain ⟨d, s1, h1, h⟩ := bnd_eq h
  cases h
  exact ⟨w, env, s, d, s', e, k, ek, h1, q⟩
theorem qw_and1 (h : QT X a mp) : QW X (.BoolOp .And [a] pos) mp := pw_and1 h
theorem qw_or1 (h : QT X a mp) : QW X (.BoolOp .Or [a] pos) mp := pw_or1 h
theorem lo_and : ∀ σ H Q, loT (tAndM mp mq) σ H Q → tAnd (loT mp) (loT mq) σ H Q := fun σ H Q ⟨w, env, s, r, s', e, k, ek, h, q⟩ => by
  obtain ⟨d, s1, h1, h⟩ := bnd_eq h
  refine ⟨w, env, s, d, s1, e, k, ek, h1, fun w1 k1 l1 => ?_⟩
  cases d with
  | true =>
    rw [if_pos rfl] at h ⊢
    exact ⟨w1, env, s1, r, s', rfl, k1, ek.le l1.toSub, h, fun w2 k2 l2 => q w2 k2 (l1.trans l2)⟩
  | false =>
    rw [if_neg Bool.false_ne_true] at h ⊢
    cases h
    exact q w1 k1 l1
theorem lo_or : ∀ σ H Q, loT (tOrM mp mq) σ H Q → tOr (loT mp) (loT mq) σ H Q := fun σ H Q ⟨w, env, s, r, s', e, k, ek, h, q⟩ => by
  obtain ⟨d, s1, h1, h⟩ := bnd_eq h
  refine ⟨w, env, s, d, s1, e, k, ek, h1, fun w1 k1 l1 => ?_⟩
  cases d with
  | false =>
    rw [if_neg Bool.false_ne_true] at h ⊢
    exact ⟨w1, env, s1, r, s', rfl, k1, ek.le l1.toSub, h, fun w2 k2 l2 => q w2 k2 (l1.trans l2)⟩
  | true =>
    rw [if_pos rfl] at h ⊢
    cases h
    exact q w1 k1 l1
theorem qw_and (ha : QT X a mp) (hb : QW X (.BoolOp .And (b :: rest) pos) mq) : QW X (.BoolOp .And (a :: b :: rest) pos) (tAndM mp mq) := pw_mono (pw_and ha hb) lo_and
theorem qw_or (ha : QT X a mp) (hb : QW X (.BoolOp .Or (b :: rest) pos) mq) : QW X (.BoolOp .Or (a :: b :: rest) pos) (tOrM mp mq) := pw_mono (pw_or ha hb) lo_or
/-- .. as values, all but the last True or False -/
def eAnd (p q : EM) : EM := fun env s => bnd (p env s) fun d s1 => match d with
  | .bl b => if b = true then q env s1 else some (.bl false, s1)
  | _ => none
def eOr (p q : EM) : EM := fun env s => bnd (p env s) fun d s1 => match d with
  | .bl b => if b = true then some (.bl true, s1) else q env s1
  | _ => none
def eNot (p : EM) : EM := fun env s => bnd (p env s) fun d s1 => match d with
  | .bl b => some (.bl (!b), s1)
  | _ => none
theorem q_one {op} (h : QE X a ma) : QE X (.BoolOp op [a] pos) ma := pe_one h
theorem q_and (ha : QE X a ma) (hb : QE X (.BoolOp .And (b :: rest) pos) mb) : QE X (.BoolOp .And (a :: b :: rest) pos) (eAnd ma mb) := pe_mono (pe_and ha hb) fun σ H Q ⟨w, env, s, d, s', e, k, ek, h, q⟩ => by
  obtain ⟨x, s1, h1, h⟩ := bnd_eq h
  refine ⟨w, env, s, x, s1, e, k, ek, h1, fun w1 v k1 l1 r1 => ?_⟩
  cases x with
  | bl c =>
    cases r1
    refine ⟨c, rfl, ?_⟩
    cases c with
    | true =>
      simp only [if_pos] at h ⊢
      exact ⟨w1, env, s1, d, s', rfl, k1, ek.le l1.toSub, h, fun w2 v k2 l2 => q w2 v k2 (l1.trans l2)⟩
    | false =>
      rw [if_neg Bool.false_ne_true]
      cases h
      exact q w1 _ k1 l1 (.bl _)
  | _ => cases h
theorem q_or (ha : QE X a ma) (hb : QE X (.BoolOp .Or (b :: rest) pos) mb) : QE X (.BoolOp .Or (a :: b :: rest) pos) (eOr ma mb) := pe_mono (pe_or ha hb) fun σ H Q ⟨w, env, s, d, s', e, k, ek, h, q⟩ => by
  obtain ⟨x, s1, h1, h⟩ := bnd_eq h
  refine ⟨w, env, s, x, s1, e, k, ek, h1, fun w1 v k1 l1 r1 => ?_⟩
  cases x with
  | bl c =>
    cases r1
    refine ⟨c, rfl, ?_⟩
    cases c with
    | false =>
      rw [if_neg Bool.false_ne_true]
      have h' : mb env s1 = some (d, s') := h
      exact ⟨w1, env, s1, d, s', rfl, k1, ek.le l1.toSub, h', fun w2 v k2 l2 => q w2 v k2 (l1.trans l2)⟩
    | true =>
      rw [if_pos rfl]
      cases h
      exact q w1 _ k1 l1 (.bl _)
  | _ => cases h
theorem q_not (ha : QE X a ma) : QE X (.UnaryOp .Not a pos) (eNot ma) := pe_mono (pe_not ha) fun σ H Q ⟨w, env, s, d, s', e, k, ek, h, q⟩ => by
  obtain ⟨x, s1, h1, h⟩ := bnd_eq h
  refine ⟨w, env, s, x, s1, e, k, ek, h1, fun w1 v k1 l1 r1 => ?_⟩
  cases x with
  | bl c =>
    cases r1
    cases h
    exact ⟨c, rfl, q w1 _ k1 l1 (.bl _)⟩
  | _ => cases h
def eIf (c : TM) (a b : EM) : EM := fun env s => bnd (c env s) fun t s1 => if t = true then a env s1 else b env s1
theorem q_if {c : Expr} (hc : QT X c mp) (ha : QE X a ma) (hb : QE X b mb) : QE X (.IfExp c a b pos) (eIf mp ma mb) := pe_mono (pe_ifExp hc ha hb) fun σ H Q ⟨w, env, s, d, s', e, k, ek, h, q⟩ => by
  obtain ⟨t, s1, h1, h⟩ := bnd_eq h
  refine ⟨w, env, s, t, s1, e, k, ek, h1, fun w1 k1 l1 => ?_⟩
  cases t with
  | true => exact ⟨w1, env, s1, d, s', rfl, k1, ek.le l1.toSub, h, fun w2 v k2 l2 => q w2 v k2 (l1.trans l2)⟩
  | false => exact ⟨w1, env, s1, d, s', rfl, k1, ek.le l1.toSub, h, fun w2 v k2 l2 => q w2 v k2 (l1.trans l2)⟩
end

/-! ### argument lists, tuples, lists -/
def aNil : AM := fun _ s => some ([], s)
def aCons (a : EM) (r : AM) : AM := fun env s => bnd (a env s) fun x s1 => bnd (r env s1) fun xs s2 => some (x :: xs, s2)
def eTup (a : AM) : EM := fun env s => bnd (a env s) fun xs s1 => if xs.length ≤ 1000 then some (.tup xs, s1) else none
def MS.add (s : MS) (xs : List D) : MS := { s with st := s.st ++ [xs] }
def eLst (a : AM) : EM := fun env s => bnd (a env s) fun xs s1 => if xs.length ≤ 1000 then some (.ref s1.st.length, s1.add xs) else none
section
variable {X : Cx} {e : Expr} {es : List Expr} {me : EM} {ms : AM} {pos : Pos}
theorem qa_nil : QA X [] aNil := pa_mono pa_nil fun σ H Q ⟨w, env, s, ds, s', e, k, ek, h, q⟩ => by
  subst e
  cases h
  exact q w [] k (Le.refl w) .nil
theorem qa_cons (ha : QE X e me) (hr : QA X es ms) (hs : starEach (e :: es) X.env = (false, eval e X.env) :: starEach es X.env := by rfl) : QA X (e :: es) (aCons me ms) := pa_mono (pa_cons ha hr hs) fun σ H Q ⟨w, env, s, ds, s', e, k, ek, h, q⟩ => by
  obtain ⟨x, s1, h1, h⟩ := bnd_eq h
  obtain ⟨xs, s2, h2, h⟩ := bnd_eq h
  cases h
  refine ⟨w, env, s, x, s1, e, k, ek, h1, fun w1 vx k1 l1 r1 => ?_⟩
  refine ⟨w1, env, s1, xs, s', rfl, k1, ek.le l1.toSub, h2, fun w2 vs k2 l2 r2 => ?_⟩
  exact q w2 _ k2 (l1.trans l2) (.cons (r1.le l2.toSub) r2)
theorem le1000 {n : Nat} (h : n ≤ 1000) : n ≤ sizeLine := Nat.le_of_lt (small1000 h)
theorem q_tup {x1} (h : QA X es ms) : QE X (.Tuple es x1 pos) (eTup ms) := pe_mono (pe_tup h) fun σ H Q ⟨w, env, s, d, s', e, k, ek, h, q⟩ => by
  obtain ⟨xs, s1, h1, h⟩ := bnd_eq h
  split at h
  · rename_i hl
    cases h
    refine ⟨w, env, s, xs, s', e, k, ek, h1, fun w1 vs k1 l1 r1 => ⟨by rw [← r1.length]; exact le1000 hl, fun p hp => ?_⟩⟩
    have l2 : Le w1 (w1.put p (.tup vs)) := Le.tup k1 hp
    exact q (w1.put p (.tup vs)) (.ref p) (k1.put hp) (l1.trans l2) (.tup upd_same (r1.le l2.toSub))
  · cases h
/-- a new list at p -/
theorem WOk.addNew {w : Wd} {s : MS} (k : WOk w s) {p : Addr} {xs : List D} {vs : List V} (hp : w.H p = none) (r : RVs w xs vs) :
    WOk ((w.put p (.lst vs)).new p) (s.add xs) ∧ Le w ((w.put p (.lst vs)).new p) ∧ RV ((w.put p (.lst vs)).new p) (.ref s.st.length) (.ref p) := by
  have l1 : Le w (w.put p (.lst vs)) := Le.tup k hp
  have k1 : WOk (w.put p (.lst vs)) s := k.put hp
  have f := k.fresh hp
  refine ⟨k1.new upd_same f.1 f.2 (r.le l1.toSub), l1.new hp, .ref ?_⟩
  show (w.r ++ [p])[s.st.length]? = some p
  rw [← k.len]; simp
theorem q_lst (h : QA X es ms) : QE X (.List es pos) (eLst ms) := pe_mono (pe_lst h) fun σ H Q ⟨w, env, s, d, s', e, k, ek, h, q⟩ => by
  obtain ⟨xs, s1, h1, h⟩ := bnd_eq h
  split at h
  · rename_i hl
    cases h
    refine ⟨w, env, s, xs, s1, e, k, ek, h1, fun w1 vs k1 l1 r1 => ⟨by rw [← r1.length]; exact le1000 hl, fun p hp => ?_⟩⟩
    obtain ⟨k2, l2, r2⟩ := k1.addNew hp r1
    exact q _ (.ref p) k2 (l1.trans l2) r2
  · cases h
end

/-! ### statements -/
def sNil : SM := fun env s => some (.nx env, s)
def sSeq (a b : SM) : SM := fun env s => bnd (a env s) fun o s1 => match o with
  | .nx env1 => b env1 s1
  | .rt d => some (.rt d, s1)
def sDrop (a : EM) : SM := fun env s => bnd (a env s) fun _ s1 => some (.nx env, s1)
def sRet (a : EM) : SM := fun env s => bnd (a env s) fun d s1 => some (.rt d, s1)
def sRetN : SM := fun _ s => some (.rt .non, s)
def sIf (c : TM) (a b : SM) : SM := fun env s => bnd (c env s) fun t s1 => if t = true then a env s1 else b env s1
def sNever : SM := fun _ _ => none
def sSet (i : Nat) (a : EM) : SM := fun env s => bnd (a env s) fun d s1 => some (.nx (env.set i (some d)), s1)
def sAsg (a : EM) (g : GM) : SM := fun env s => bnd (a env s) fun d s1 => bnd (g d env s1) fun env1 s2 => some (.nx env1, s2)
def sAug (i : Nat) (f : D → D → Option D) (a : EM) : SM := fun env s => match env[i]? with
  | some (some x) => bnd (a env s) fun y s1 => match f x y with
    | some z => some (.nx (env.set i (some z)), s1)
    | none => none
  | _ => none
def sWhile (c : TM) (b : SM) : Nat → SM
  | 0 => fun _ _ => none
  | n + 1 => fun env s => bnd (c env s) fun t s1 => if t = true then bnd (b env s1) (fun o s2 => match o with
      | .nx env2 => sWhile c b n env2 s2
      | .rt d => some (.rt d, s2)) else some (.nx env, s1)
section
variable {X : Cx} {st : Stmt} {rest : List Stmt} {a b : SM} {e : Expr} {me : EM} {pos : Pos}
theorem qs_nil : QSs X [] sNil := pss_mono pss_nil fun D σ H ⟨w, env, s, o, s', e, k, ek, h, q⟩ => by
  subst e
  cases h
  exact q w σ k (Le.refl w) ek
theorem qs_cons (h1 : QS X st a) (h2 : QSs X rest b) : QSs X (st :: rest) (sSeq a b) := pss_mono (pss_cons h1 h2) fun D σ H ⟨w, env, s, o, s', e, k, ek, h, q⟩ => by
  obtain ⟨o1, s1, g1, h⟩ := bnd_eq h
  refine ⟨w, env, s, o1, s1, e, k, ek, g1, ?_⟩
  cases o1 with
  | nx env1 =>
    intro w1 σ1 k1 l1 ek1
    refine ⟨w1, env1, s1, o, s', rfl, k1, ek1, h, ?_⟩
    cases o with
    | nx env2 => exact fun w2 σ2 k2 l2 => q w2 σ2 k2 (l1.trans l2)
    | rt d => exact fun w2 v k2 l2 => q w2 v k2 (l1.trans l2)
  | rt d => cases h; exact q
theorem qs_one (h1 : QS X st a) : QSs X [st] a := pss_one h1
theorem qs_drop (he : QE X e me) (hs : swapsWith e none pos.line X.env = pure false := by rfl) : QS X (.Expr e pos) (sDrop me) := ps_mono (ps_expr he hs) fun D σ H ⟨w, env, s, o, s', e, k, ek, h, q⟩ => by
  obtain ⟨d, s1, h1, h⟩ := bnd_eq h
  cases h
  exact ⟨w, env, s, d, s', e, k, ek, h1, fun w1 v k1 l1 _ => q w1 σ k1 l1 (ek.le l1.toSub)⟩
theorem qs_ret (he : QE X e me) : QS X (.Return (some e) pos) (sRet me) := ps_mono (ps_ret he) fun D σ H ⟨w, env, s, o, s', e, k, ek, h, q⟩ => by
  obtain ⟨d, s1, h1, h⟩ := bnd_eq h
  cases h
  exact ⟨w, env, s, d, s', e, k, ek, h1, q⟩
theorem qs_retN : QS X (.Return none pos) sRetN := ps_mono ps_retN fun D σ H ⟨w, env, s, o, s', e, k, ek, h, q⟩ => by
  subst e
  cases h
  exact q w .non k (Le.refl w) .non
theorem qs_never : QS X st sNever := ps_mono ps_never fun D σ H ⟨w, env, s, o, s', e, k, ek, h, q⟩ => by cases h
theorem qs_if {c : Expr} {sa sb : List Stmt} {mc : TM} (hc : QT X c mc) (ha : QSs X sa a) (hb : QSs X sb b) : QS X (.If c sa sb pos) (sIf mc a b) := ps_mono (ps_if hc ha hb) fun D σ H ⟨w, env, s, o, s', e, k, ek, h, q⟩ => by
  obtain ⟨t, s1, h1, h⟩ := bnd_eq h
  refine ⟨w, env, s, t, s1, e, k, ek, h1, fun w1 k1 l1 => ?_⟩
  have q' : ∀ {m : SM}, m env s1 = some (o, s') → loS m D σ w1.H := fun {m} hm => by
    refine ⟨w1, env, s1, o, s', rfl, k1, ek.le l1.toSub, hm, ?_⟩
    cases o with
    | nx env2 => exact fun w2 σ2 k2 l2 => q w2 σ2 k2 (l1.trans l2)
    | rt d => exact fun w2 v k2 l2 => q w2 v k2 (l1.trans l2)
  cases t with
  | true => exact q' h
  | false => exact q' h
theorem qs_set {i : Nat} {x : Str} {pos' : Pos} (hN : X.N.Nodup) (he : QE X e me) (hi : X.N[i]? = some x := by rfl) (hx : Loc X.env.scope x := by first | exact .inl rfl | exact .inr rfl) (hs : swapsWith e (some (.Name x pos')) pos.line X.env = pure false := by rfl) (hf : X.fn x = true ∨ X.env.scope.names.lookup x = some .local := by first | exact .inl rfl | exact .inr rfl | assumption) :
    QS X (.Assign [.Name x pos'] e pos) (sSet i me) := ps_mono (ps_set hN hi hx he hs hf) fun D σ H ⟨w, env, s, o, s', e, k, ek, h, q⟩ => by
  obtain ⟨d, s1, h1, h⟩ := bnd_eq h
  cases h
  exact ⟨w, env, s, d, s', e, k, ek, h1, fun w1 v k1 l1 r1 => q w1 _ k1 l1 ((ek.le l1.toSub).set i r1)⟩
theorem qs_asg {tg : Expr} {g : GM} (he : QE X e me) (hg : QG X tg g) (hs : swapsWithSole [tg] e pos.line X.env = pure false := by rfl) (hw : swappedStores [tg] e X.env = pure none := by rfl)
    (h1 : (assignEach [tg] X.env).map (·.2) = [assign tg X.env] := by rfl) : QS X (.Assign [tg] e pos) (sAsg me g) := ps_mono (ps_asg he hg hs hw h1) fun D σ H ⟨w, env, s, o, s', e, k, ek, h, q⟩ => by
  obtain ⟨d, s1, h1, h⟩ := bnd_eq h
  obtain ⟨env1, s2, h2, h⟩ := bnd_eq h
  cases h
  refine ⟨w, env, s, d, s1, e, k, ek, h1, fun w1 v k1 l1 r1 => ?_⟩
  exact ⟨w1, env, s1, d, env1, s', rfl, k1, ek.le l1.toSub, r1, h2, fun w2 σ2 k2 l2 => q w2 σ2 k2 (l1.trans l2)⟩
theorem qs_aug {i : Nat} {x : Str} {pos' : Pos} {op : Operator} {ti : TIp} {f : D → D → Option D} (hN : X.N.Nodup) (ho : PIp X op ti) (hr : R2ok ti f) (he : QE X e me) (hi : X.N[i]? = some x := by rfl) (hx : Loc X.env.scope x := by first | exact .inl rfl | exact .inr rfl) (hf : X.fn x = true ∨ X.env.scope.names.lookup x = some .local := by first | exact .inl rfl | exact .inr rfl | assumption) :
    QS X (.AugAssign (.Name x pos') op e pos) (sAug i f me) := ps_mono (ps_aug hN hi hx he ho hf) fun D σ H ⟨w, env, s, o, s', e, k, ek, h, q⟩ => by
  unfold sAug at h
  split at h
  · rename_i x' hx'
    obtain ⟨y, s1, h1, h⟩ := bnd_eq h
    split at h
    · rename_i z hz
      cases h
      obtain ⟨vx, g1, g2⟩ := ek.get i _ hx'
      refine ⟨vx, g1, ⟨w, env, s, y, s', e, k, ek, h1, fun w1 vy k1 l1 r1 => ?_⟩⟩
      exact hr w1 s' _ y vx vy z _ k1 (g2.le l1.toSub) r1 hz fun v rv => q w1 _ k1 l1 ((ek.le l1.toSub).set i rv)
    · cases h
  · cases h
theorem r_ip {f : Int → Int → Int} : R2ok (ipI f) (dI2 fun i j => .int (f i j)) := fun w s x y vx vy z Q k rx ry h q => by
  obtain ⟨i, j, rfl, rfl, rfl⟩ := dI2_eq h
  cases rx; cases ry
  exact ⟨i, j, rfl, rfl, q _ (.int _)⟩
theorem qs_while {c : Expr} {body : List Stmt} {mc : TM} (n : Nat) (hp : PassesOwn (model X.prog X.w) X.A X.env X.xe) (hc : QT X c mc) (hb : QSs X body b) : QS X (.While c body [] pos) (sWhile mc b n) := ps_mono (ps_while hp hc hb) fun D σ H ⟨w, env, s, o, s', e, k, ek, h, q⟩ => by
  refine ⟨fun m σ H => ∃ w1 env1 s1, w1.H = H ∧ WOk w1 s1 ∧ EOk w1 env1 σ ∧ Le w w1 ∧ sWhile mc b m env1 s1 = some (o, s'), ⟨n, w, env, s, e, k, ek, Le.refl w, h⟩, ?_⟩
  rintro m σ1 H1 ⟨w1, env1, s1, e1, k1, ek1, l1, h1⟩
  cases m with
  | zero => cases h1
  | succ m =>
    obtain ⟨t, s2, g2, h1⟩ := bnd_eq h1
    refine ⟨w1, env1, s1, t, s2, e1, k1, ek1, g2, fun w2 k2 l2 => ?_⟩
    cases t with
    | true =>
      rw [if_pos rfl] at h1 ⊢
      obtain ⟨o3, s3, g3, h1⟩ := bnd_eq h1
      refine ⟨fun σ' H' => ∃ w1 env1 s1, w1.H = H' ∧ WOk w1 s1 ∧ EOk w1 env1 σ' ∧ Le w w1 ∧ sWhile mc b m env1 s1 = some (o, s'), fun σ' H' z => ⟨m, Nat.lt_succ_self _, z⟩, ⟨w2, env1, s2, o3, s3, rfl, k2, ek1.le l2.toSub, g3, ?_⟩⟩
      cases o3 with
      | nx env3 => exact fun w3 σ3 k3 l3 ek3 => ⟨w3, env3, s3, rfl, k3, ek3, (l1.trans l2).trans l3, h1⟩
      | rt d =>
        cases h1
        exact fun w3 v k3 l3 r3 => q w3 v k3 ((l1.trans l2).trans l3) r3
    | false =>
      rw [if_neg Bool.false_ne_true] at h1 ⊢
      cases h1
      exact q w2 σ1 k2 (l1.trans l2) (ek1.le l2.toSub)
end

/-! ### targets -/
def gtName (i : Nat) : GM := fun d env s => some (env.set i (some d), s)
def gtNil : GsM := fun ds env s => match ds with
  | [] => some (env, s)
  | _ => none
def gtCons (g : GM) (r : GsM) : GsM := fun ds env s => match ds with
  | d :: ds => bnd (g d env s) fun env1 s1 => r ds env1 s1
  | [] => none
def gtTup (n : Nat) (g : GsM) : GM := fun d env s => match d with
  | .tup ds => if ds.length = n then g ds env s else none
  | _ => none
section
variable {X : Cx} {pos : Pos}
theorem qg_name {i : Nat} {x : Str} (hN : X.N.Nodup) (hi : X.N[i]? = some x := by rfl) (hx : Loc X.env.scope x := by first | exact .inl rfl | exact .inr rfl) (hf : X.fn x = true ∨ X.env.scope.names.lookup x = some .local := by first | exact .inl rfl | exact .inr rfl | assumption) : QG X (.Name x pos) (gtName i) :=
  pg_mono (pg_name hN hi hx hf) fun v σ H Q ⟨w, env, s, d, env', s', e, k, ek, r, h, q⟩ => by
    subst e
    cases h
    exact q w _ k (Le.refl w) (ek.set i r)
theorem qg_nil : QGs X [] gtNil := pgs_mono pgs_nil fun vs σ H Q ⟨w, env, s, ds, env', s', e, k, ek, r, h, q⟩ => by
  subst e
  cases ds with
  | nil =>
    cases h
    cases r
    exact ⟨rfl, q w σ k (Le.refl w) ek⟩
  | cons _ _ => cases h
theorem qg_cons {e : Expr} {es : List Expr} {t : GM} {u : GsM} (h1 : QG X e t) (h2 : QGs X es u) (hs : (assignEach (e :: es) X.env).map (·.2) = assign e X.env :: (assignEach es X.env).map (·.2) := by rfl) : QGs X (e :: es) (gtCons t u) :=
  pgs_mono (pgs_cons h1 h2 hs) fun vs σ H Q ⟨w, env, s, ds, env', s', e, k, ek, r, h, q⟩ => by
    cases ds with
    | nil => cases h
    | cons d ds =>
      obtain ⟨env1, s1, g1, h⟩ := bnd_eq h
      cases r with
      | cons r1 rr =>
        refine ⟨_, _, rfl, ⟨w, env, s, d, env1, s1, e, k, ek, r1, g1, fun w1 σ1 k1 l1 ek1 => ?_⟩⟩
        exact ⟨w1, env1, s1, ds, env', s', rfl, k1, ek1, rr.le l1.toSub, h, fun w2 σ2 k2 l2 => q w2 σ2 k2 (l1.trans l2)⟩
theorem qg_tup {es : List Expr} {kk : Nat} {t : GsM} {n : Nat} (hc : X.calm = true) (h : QGs X es t) (hn : (assignEach es X.env).length = n := by rfl) (hst : (assignEach es X.env).findIdx? (·.1) = none := by rfl) : QG X (.Tuple es kk pos) (gtTup n t) :=
  pg_mono (pg_tup hc h hn hst) fun v σ H Q ⟨w, env, s, d, env', s', e, k, ek, r, h, q⟩ => by
    cases d with
    | tup ds =>
      simp only [gtTup] at h
      split at h
      · rename_i hl
        cases r with
        | tup ha rr =>
          exact ⟨_, _, rfl, SqT.of (by rw [← e]; exact ha), by rw [← rr.length]; exact hl, ⟨w, env, s, ds, env', s', e, k, ek, rr, h, q⟩⟩
      · cases h
    | _ => cases h
end
end Mir
/-! ## MirC -/
set_option maxHeartbeats 200000
set_option Elab.async false
set_option linter.all false
set_option maxRecDepth 100000
/-! Data: subscripts, stores, calls, loops, comprehensions. -/
namespace Mir
open PySem PySem.Spec PyProof.Rows L2

/-! ### a[i] -/
def dIx (s : MS) : D → D → Option D
  | .tup ds, .int i => if 0 ≤ i then ds[i.toNat]? else none
  | .ref r, .int i => if 0 ≤ i then (match s.st[r]? with | some xs => xs[i.toNat]? | none => none) else none
  | _, _ => none
def eIx (a b : EM) : EM := fun env s => bnd (a env s) fun x s1 => bnd (b env s1) fun y s2 => ret (dIx s2 x y) s2
theorem dIx_ok {w : Wd} {s : MS} {x y z : D} {vx vy : V} {K : PySem.W.Frag} {Q : VK} (k : WOk w s) (rx : RV w x vx) (ry : RV w y vy) (h : dIx s x y = some z) (q : ∀ v, RV w z v → Q v w.H) : rIx K vx vy w.H Q := by
  unfold dIx at h
  split at h
  · rename_i ds i
    split at h
    · rename_i h0
      cases ry
      cases rx with
      | tup ha rs =>
        obtain ⟨v, g1, g2⟩ := rs.get h
        refine .inr (.inl ⟨_, _, _, v, rfl, rfl, SqT.of ha, ?_, q v g2⟩)
        rw [← Int.toNat_of_nonneg h0]
        exact atI_nat g1
    · cases h
  · rename_i r i
    split at h
    · rename_i h0
      split at h
      · rename_i xs hxs
        cases ry
        cases rx with
        | ref hr =>
          obtain ⟨a, vs, g1, g2, g3⟩ := k.lst r xs hxs
          rw [hr] at g1
          cases g1
          obtain ⟨v, g4, g5⟩ := g3.get h
          refine .inl ⟨_, _, _, v, rfl, rfl, SqL.of g2, ?_, q v g5⟩
          rw [← Int.toNat_of_nonneg h0]
          exact atI_nat g4
      · cases h
    · cases h
  · cases h
section
variable {X : Cx} {a b : Expr} {ma mb : EM} {pos : Pos}
theorem q_ix (ha : QE X a ma) (hb : QE X b mb) (hs : PlainIx b := by exact fun _ _ => rfl) : QE X (.Subscript a b pos) (eIx ma mb) := pe_mono (pe_ix ix_seq ha hb hs) fun σ H Q ⟨w, env, s, d, s', e, k, ek, h, q⟩ => by
  obtain ⟨x, s1, h1, h⟩ := bnd_eq h
  obtain ⟨y, s2, h2, h⟩ := bnd_eq h
  obtain ⟨h3, rfl⟩ := ret_eq h
  refine ⟨w, env, s, x, s1, e, k, ek, h1, fun w1 vx k1 l1 r1 => ?_⟩
  refine ⟨w1, env, s1, y, s', rfl, k1, ek.le l1.toSub, h2, fun w2 vy k2 l2 r2 => ?_⟩
  exact dIx_ok k2 (r1.le l2.toSub) r2 h3 fun v rv => q w2 v k2 (l1.trans l2) rv
end

/-! ### xs[i] = e, xs[i] += e -/
def MS.setAt (s : MS) (r : Nat) (xs : List D) : MS := { s with st := s.st.set r xs }
def dSet (s : MS) (d : D) : D → D → Option MS
  | .ref r, .int i => if 0 ≤ i then (match s.st[r]? with | some xs => if i.toNat < xs.length then some (s.setAt r (xs.set i.toNat d)) else none | none => none) else none
  | _, _ => none
theorem ixN_of {n : Nat} {i : Int} (h0 : 0 ≤ i) (h : i.toNat < n) : ixN n i = some i.toNat := by
  unfold ixN
  rw [if_pos h0, if_pos (by omega)]
theorem dSet_ok {w : Wd} {s s' : MS} {x y d : D} {vx vy v : V} {Q : Hp → Prop} (k : WOk w s) (rx : RV w x vx) (ry : RV w y vy) (rd : RV w d v) (h : dSet s d x y = some s') (q : ∀ w', WOk w' s' → Le w w' → Q w'.H) : rSetL vx vy v w.H Q := by
  unfold dSet at h
  split at h
  · rename_i r i
    split at h
    · rename_i h0
      split at h
      · rename_i xs hxs
        split at h
        · rename_i hl
          cases h
          cases ry
          cases rx with
          | ref hr =>
            obtain ⟨a, vs, g1, g2, g3⟩ := k.lst r xs hxs
            rw [hr] at g1
            cases g1
            obtain ⟨k2, l2⟩ := k.set hr (g3.set rd i.toNat)
            exact ⟨_, _, _, i.toNat, rfl, rfl, g2, ixN_of h0 (by rw [← g3.length]; exact hl), q _ k2 l2⟩
        · cases h
      · cases h
    · cases h
  · cases h
def gtSub (o i : EM) : GM := fun d env s => bnd (o env s) fun x s1 => bnd (i env s1) fun y s2 => match dSet s2 d x y with
  | some s3 => some (env, s3)
  | none => none
def sAugIx (o i : EM) (f : D → D → Option D) (e : EM) : SM := fun env s => bnd (o env s) fun x s1 => bnd (i env s1) fun y s2 => match dIx s2 x y with
  | none => none
  | some old => bnd (e env s2) fun z s3 => match f old z with
    | none => none
    | some new => match dSet s3 new x y with
      | some s4 => some (.nx env, s4)
      | none => none
section
variable {X : Cx} {o i e : Expr} {mo mi me : EM} {pos tpos : Pos}
theorem qg_sub (ho : QE X o mo) (hi : QE X i mi) (ha : ∀ v, assign (.Subscript o i pos) X.env v = (do
      let ov ← holding [v] (eval o X.env)
      let iv ← holding [v, ov] (eval i X.env)
      standAt pos
      holding [v, ov, iv] (setItem ov iv v)
      release [v, ov, iv] []) := by intro _; rfl) : QG X (.Subscript o i pos) (gtSub mo mi) := pg_mono (pg_sub ho hi set_list ha) fun v σ H Q ⟨w, env, s, d, env', s', e, k, ek, r, h, q⟩ => by
  obtain ⟨x, s1, h1, h⟩ := bnd_eq h
  obtain ⟨y, s2, h2, h⟩ := bnd_eq h
  split at h
  · rename_i s3 h3
    cases h
    refine ⟨w, env, s, x, s1, e, k, ek, h1, fun w1 vx k1 l1 r1 => ?_⟩
    refine ⟨w1, env, s1, y, s2, rfl, k1, ek.le l1.toSub, h2, fun w2 vy k2 l2 r2 => ?_⟩
    exact dSet_ok k2 (r1.le l2.toSub) r2 (r.le (l1.trans l2).toSub) h3 fun w3 k3 l3 => q w3 σ k3 ((l1.trans l2).trans l3) (ek.le ((l1.trans l2).trans l3).toSub)
  · cases h
/-- xs[i] by values, a list -/
theorem pget_list : PGet X (rIxL X.K) := by
  intro pins s σ H x y v u Q I rx ry h
  obtain ⟨p, xs, i, z, rfl, rfl, hq, he, q⟩ := h
  cases rx
  obtain ⟨t, rfl⟩ := ry
  obtain ⟨its, r, pl, hz⟩ := I.list hq
  obtain ⟨j, h1, h2, h3, h4, h5⟩ := atI_get he
  obtain ⟨w, ew, rw'⟩ := r.get h2
  have hl := r.length
  have hn := line63
  have fin : EP X pins σ Q w s := ⟨z, H, I, rw', q⟩
  by_cases h0 : 0 ≤ i
  · have hj : i.toNat = j := by
      rw [seqIndex_of h0 h5] at h1
      exact Option.some.inj h1
    exact wpAny_getItem_list pl.isList h0 (by omega) (by rw [hj]; simpa using ew) fin
  · have hj : (i + (its.toArray.size : Int)).toNat = j := by
      rw [seqIndex_neg (by omega) h4] at h1
      rw [List.size_toArray, ← hl]
      exact Option.some.inj h1
    exact wpAny_getItem_list_neg pl.isList (by omega) (by rw [List.size_toArray] <;> omega) (by omega) (by rw [hj]; simpa using ew) fin
theorem dIx_okL {w : Wd} {s : MS} {r : Nat} {y z : D} {vx vy : V} {K : PySem.W.Frag} {Q : VK} (k : WOk w s) (rx : RV w (.ref r) vx) (ry : RV w y vy) (h : dIx s (.ref r) y = some z) (q : ∀ v, RV w z v → Q v w.H) : rIxL K vx vy w.H Q := by
  cases y with
  | int i =>
    simp only [dIx] at h
    split at h
    · rename_i h0
      split at h
      · rename_i xs hxs
        cases ry
        cases rx with
        | ref hr =>
          obtain ⟨a, vs, g1, g2, g3⟩ := k.lst r xs hxs
          rw [hr] at g1
          cases g1
          obtain ⟨v, g4, g5⟩ := g3.get h
          refine ⟨_, _, _, v, rfl, rfl, SqL.of g2, ?_, q v g5⟩
          rw [← Int.toNat_of_nonneg h0]
          exact atI_nat g4
      · cases h
    · cases h
  | _ => simp [dIx] at h
theorem dSet_ref {s s' : MS} {d x y : D} (h : dSet s d x y = some s') : ∃ r, x = .ref r := by
  unfold dSet at h
  split at h
  · exact ⟨_, rfl⟩
  · cases h
theorem qs_augIx {op : Operator} {ti : TIp} {f : D → D → Option D} (ho : QE X o mo) (hi : QE X i mi) (he : QE X e me) (hp : PIp X op ti) (hr : R2ok ti f)
    (ha : ∀ ov iv new, augStore i ov iv new = (do holding [new, ov, iv] (setItem ov iv new); release [new, ov, iv] []; pure .next) := by intros; rfl) : QS X (.AugAssign (.Subscript o i tpos) op e pos) (sAugIx mo mi f me) :=
  ps_mono (ps_augS ho hi pget_list he hp set_list ha) fun D σ H ⟨w, env, s, o, s', e, k, ek, h, q⟩ => by
    obtain ⟨x, s1, h1, h⟩ := bnd_eq h
    obtain ⟨y, s2, h2, h⟩ := bnd_eq h
    split at h
    · cases h
    rename_i old hold
    obtain ⟨z, s3, h3, h⟩ := bnd_eq h
    split at h
    · cases h
    rename_i new hnew
    split at h
    · rename_i s4 h4
      cases h
      obtain ⟨r, rfl⟩ := dSet_ref h4
      refine ⟨w, env, s, _, s1, e, k, ek, h1, fun w1 vx k1 l1 r1 => ?_⟩
      refine ⟨w1, env, s1, y, s2, rfl, k1, ek.le l1.toSub, h2, fun w2 vy k2 l2 r2 => ?_⟩
      have l12 := l1.trans l2
      refine dIx_okL k2 (r1.le l2.toSub) r2 hold fun vo ro => ?_
      refine ⟨w2, env, s2, z, s3, rfl, k2, ek.le l12.toSub, h3, fun w3 vz k3 l3 r3 => ?_⟩
      have l13 := l12.trans l3
      refine hr w3 s3 old z vo vz new _ k3 (ro.le l3.toSub) r3 hnew fun vn rn => ?_
      exact dSet_ok k3 (r1.le (l2.trans l3).toSub) (r2.le l3.toSub) rn h4 fun w4 k4 l4 => q w4 σ k4 (l13.trans l4) (ek.le (l13.trans l4).toSub)
    · cases h
end

/-! ### xs.append(e) -/
def dApp (s : MS) (d : D) : D → Option MS
  | .ref r => match s.st[r]? with
    | some xs => if xs.length < 100000 then some (s.setAt r (xs ++ [d])) else none
    | none => none
  | _ => none
def eApp (o e : EM) : EM := fun env s => bnd (o env s) fun x s1 => bnd (e env s1) fun y s2 => match dApp s2 y x with
  | some s3 => some (.non, s3)
  | none => none
def isRef : D → Bool
  | .ref _ => true
  | _ => false
theorem lt100000 {n : Nat} (h : n < 100000) : n < sizeLine := Nat.lt_of_lt_of_le h (by rw [sizeLine_eq]; decide)
section
variable {X : Cx} {o e : Expr} {mo me : EM} {apos cpos : Pos}
theorem q_app (ho : QE X o mo) (he : QE X e me) (hbase : attributeBase o "append" X.env (eval o X.env) = eval o X.env := by rfl)
    (hfew : ((backTo cpos (starEach [e] X.env)).all (fun x => !x.1) && (backToKw cpos (keywordEach [] X.env)).all (fun x => x.1.isSome)
      && decide ([e].length + ([] : List Keyword).length + (if ([] : List Keyword).isEmpty then 0 else 1) < 30)) = true := by rfl)
    (hline : (apos.endLine == cpos.line) = true := by rfl) (hs : starEach [e] X.env = (false, eval e X.env) :: starEach [] X.env := by rfl) (hplain : (backTo cpos (starEach [] X.env)).any (·.1) = false := by rfl) :
    QE X (.Call (.Attribute o "append" apos) [e] [] cpos) (eApp mo me) :=
  pe_mono (pe_bm PySem.F.plainAttrs_list PySem.F.slot_list_append PySem.F.type_list_append mt_append ho (qa_cons he qa_nil hs) hbase hfew hline hs hplain) fun σ H Q ⟨w, env, s, d, s', e, k, ek, h, q⟩ => by
    obtain ⟨x, s1, h1, h⟩ := bnd_eq h
    obtain ⟨y, s2, h2, h⟩ := bnd_eq h
    split at h
    · rename_i s3 h3
      cases h
      cases x with
      | ref r =>
        have hq : ∃ xs, s2.st[r]? = some xs ∧ xs.length < 100000 ∧ s2.setAt r (xs ++ [y]) = s' := by
          unfold dApp at h3
          simp only at h3
          split at h3
          · rename_i xs hxs
            split at h3
            · cases h3; exact ⟨xs, hxs, by assumption, rfl⟩
            · cases h3
          · cases h3
        obtain ⟨xs, hxs, hl, rfl⟩ := hq
        refine ⟨w, env, s, _, s1, e, k, ek, h1, fun w1 vx k1 l1 r1 => ?_⟩
        cases r1 with
        | ref hr =>
          have hr1 : r < s1.st.length := by rw [← k1.len]; exact (List.getElem?_eq_some_iff.mp hr).1
          obtain ⟨a, vs0, g1, g2, _⟩ := k1.lst r _ (List.getElem?_eq_getElem hr1)
          rw [hr] at g1
          cases g1
          refine ⟨.inl ⟨rfl, _, SqL.of g2⟩, ?_⟩
          refine ⟨w1, env, s1, [y], s2, rfl, k1, ek.le l1.toSub, ?_, fun w2 vy k2 l2 r2 => ?_⟩
          · show bnd (me env s1) _ = _
            rw [h2]
            rfl
          · cases r2 with
            | cons ry rn =>
              cases rn
              obtain ⟨a2, vs, g3, g4, g5⟩ := k2.lst r xs hxs
              rw [l2.ix hr] at g3
              cases g3
              obtain ⟨k3, l3⟩ := k2.set (l2.ix hr) (g5.append (.cons ry .nil))
              exact ⟨_, vs, _, rfl, rfl, g4, by rw [← g5.length]; exact lt100000 hl, q _ _ k3 ((l1.trans l2).trans l3) .non⟩
      | _ => cases h3
    · cases h
end

/-! ### built-ins by values -/
abbrev CM := List D → MS → Option (D × MS)
def eCB (f : CM) (a : AM) : EM := fun env s => bnd (a env s) fun ds s1 => f ds s1
def CBok (r : List V → Hp → VK → Prop) (f : CM) : Prop := ∀ (w : Wd) (s : MS) (ds : List D) (vs : List V) (z : D) (s' : MS) (Q : VK), WOk w s → RVs w ds vs → f ds s = some (z, s') → (∀ w' v, WOk w' s' → Le w w' → RV w' z v → Q v w'.H) → r vs w.H Q
theorem lo_CB {r : List V → Hp → VK → Prop} {f : CM} {ma : AM} (hr : CBok r f) : ∀ σ H Q, loE (eCB f ma) σ H Q → tCB r (loA ma) σ H Q := fun σ H Q ⟨w, env, s, d, s', e, k, ek, h, q⟩ => by
  obtain ⟨ds, s1, h1, h⟩ := bnd_eq h
  exact ⟨w, env, s, ds, s1, e, k, ek, h1, fun w1 vs k1 l1 r1 => hr w1 s1 ds vs d s' Q k1 r1 h fun w2 v k2 l2 r2 => q w2 v k2 (l1.trans l2) r2⟩
section
variable {X : Cx} {x : Str} {p pos : Pos} {e : Expr} {es : List Expr} {ma : AM} {id T : String} {r : List V → Hp → VK → Prop} {f : CM}
theorem q_callB (hc : CallR X (.builtin id) r) (hr : CBok r f) (hm : X.mg x = none) (hv : bootBuiltins x = some (.builtin id)) (ha : QA X (e :: es) ma) (hg : Gl X x := by rfl) (hn : x ≠ "__name__" := by decide) (hdb : (x == ("__debug__" : Str)) = false := by decide)
    (he : starEach (e :: es) X.env = (false, eval e X.env) :: starEach es X.env := by rfl) (hpl : (backTo pos (starEach es X.env)).any (·.1) = false := by rfl) : QE X (.Call (.Name x p) (e :: es) [] pos) (eCB f ma) :=
  pe_mono (pe_callB hc hg hm hv ha hn hdb he hpl) (lo_CB hr)
theorem q_callTy (hc : CallR X (.type T) r) (hr : CBok r f) (hm : X.mg x = none) (hv : bootBuiltins x = some (.type T)) (ha : QA X (e :: es) ma) (hg : Gl X x := by rfl) (hn : x ≠ "__name__" := by decide) (hdb : (x == ("__debug__" : Str)) = false := by decide)
    (he : starEach (e :: es) X.env = (false, eval e X.env) :: starEach es X.env := by rfl) (hpl : (backTo pos (starEach es X.env)).any (·.1) = false := by rfl) : QE X (.Call (.Name x p) (e :: es) [] pos) (eCB f ma) :=
  pe_mono (pe_callTy hc hg hm hv ha hn hdb he hpl) (lo_CB hr)
theorem q_callBfun (hc : CallR X (.builtin id) r) (hr : CBok r f) (hm : X.mg x = some (.builtin id)) (ha : QA X (e :: es) ma) (hg : Gl X x := by rfl) (hdb : (x == ("__debug__" : Str)) = false := by decide) 
    (he : starEach (e :: es) X.env = (false, eval e X.env) :: starEach es X.env := by rfl) (hpl : (backTo pos (starEach es X.env)).any (·.1) = false := by rfl) : QE X (.Call (.Name x p) (e :: es) [] pos) (eCB f ma) :=
  pe_mono (pe_callBfun hc hg hm ha hdb he hpl) (lo_CB hr)
end
/-- ints, bools out of data -/
def asInts : List D → Option (List Int)
  | [] => some []
  | .int i :: ds => match asInts ds with
    | some is => some (i :: is)
    | none => none
  | _ :: _ => none
theorem asInts_eq : ∀ {ds : List D} {is : List Int}, asInts ds = some is → ds = is.map D.int
  | [], is, h => by cases h; rfl
  | .int i :: ds, is, h => by
    unfold asInts at h
    split at h
    · rename_i js hj
      cases h
      rw [asInts_eq hj, List.map_cons]
    · cases h
  | .non :: _, _, h | .bl _ :: _, _, h | .str _ :: _, _, h | .tup _ :: _, _, h | .ref _ :: _, _, h | .seat :: _, _, h => by simp [asInts] at h
theorem asInts_map : ∀ is : List Int, asInts (is.map D.int) = some is
  | [] => rfl
  | i :: is => by rw [List.map_cons, asInts, asInts_map is]
def asBls : List D → Option (List Bool)
  | [] => some []
  | .bl i :: ds => match asBls ds with
    | some is => some (i :: is)
    | none => none
  | _ :: _ => none
theorem asBls_eq : ∀ {ds : List D} {is : List Bool}, asBls ds = some is → ds = is.map D.bl
  | [], is, h => by cases h; rfl
  | .bl i :: ds, is, h => by
    unfold asBls at h
    split at h
    · rename_i js hj
      cases h
      rw [asBls_eq hj, List.map_cons]
    · cases h
  | .non :: _, _, h | .int _ :: _, _, h | .str _ :: _, _, h | .tup _ :: _, _, h | .ref _ :: _, _, h | .seat :: _, _, h => by simp [asBls] at h
theorem asBls_map : ∀ is : List Bool, asBls (is.map D.bl) = some is
  | [] => rfl
  | i :: is => by rw [List.map_cons, asBls, asBls_map is]

def fLen : CM
  | [.tup ds], s => some (.int ds.length, s)
  | [.ref r], s => match s.st[r]? with
    | some xs => some (.int xs.length, s)
    | none => none
  | _, _ => none
theorem RVs.one {w : Wd} {d : D} {vs : List V} (h : RVs w [d] vs) : ∃ v, vs = [v] ∧ RV w d v := by
  cases h with
  | cons r t => cases t; exact ⟨_, rfl, r⟩
theorem RVs.two {w : Wd} {d e : D} {vs : List V} (h : RVs w [d, e] vs) : ∃ v u, vs = [v, u] ∧ RV w d v ∧ RV w e u := by
  cases h with
  | cons r t => obtain ⟨u, rfl, q⟩ := t.one; exact ⟨_, _, rfl, r, q⟩
/-- a list of the store, by its number -/
theorem RV.list {w : Wd} {s : MS} (k : WOk w s) {r : Nat} {v : V} {xs : List D} (h : RV w (.ref r) v) (hx : s.st[r]? = some xs) : ∃ a vs, v = .ref a ∧ w.r[r]? = some a ∧ w.H a = some (.lst vs) ∧ RVs w xs vs := by
  cases h with
  | ref hr =>
    obtain ⟨a, vs, g1, g2, g3⟩ := k.lst r xs hx
    rw [hr] at g1
    cases g1
    exact ⟨_, vs, rfl, hr, g2, g3⟩
section
variable {X : Cx}
theorem cb_len {K : PySem.W.Frag} : CBok (fun xs H Q => ∃ x n, xs = [x] ∧ LenV K x H n ∧ Q (.int n) H) fLen := fun w s ds vs z s' Q k r h q => by
  unfold fLen at h
  split at h
  · cases h
    obtain ⟨v, rfl, rv⟩ := r.one
    cases rv with
    | tup ha rs => exact ⟨_, _, rfl, .inr ⟨_, SqT.of ha, rfl⟩, by rw [← rs.length]; exact q w _ k (Le.refl w) (.int _)⟩
  · split at h
    · rename_i xs hx
      cases h
      obtain ⟨v, rfl, rv⟩ := r.one
      obtain ⟨a, vs', rfl, _, g2, g3⟩ := rv.list k hx
      exact ⟨_, _, rfl, .inl ⟨_, SqL.of g2, rfl⟩, by rw [← g3.length]; exact q w _ k (Le.refl w) (.int _)⟩
    · cases h
  · cases h
def fAbs : CM
  | [.int i], s => some (.int (if i < 0 then -i else i), s)
  | _, _ => none
theorem cb_abs : CBok (fun xs H Q => ∃ i, xs = [.int i] ∧ Q (.int (if i < 0 then -i else i)) H) fAbs := fun w s ds vs z s' Q k r h q => by
  unfold fAbs at h
  split at h
  · cases h
    obtain ⟨v, rfl, rv⟩ := r.one
    cases rv
    exact ⟨_, rfl, q w _ k (Le.refl w) (.int _)⟩
  · cases h
def fGcd : CM
  | [.int i, .int j], s => some (.int ((Nat.gcd i.natAbs j.natAbs : Nat) : Int), s)
  | _, _ => none
theorem cb_gcd : CBok rGcd fGcd := fun w s ds vs z s' Q k r h q => by
  unfold fGcd at h
  split at h
  · cases h
    obtain ⟨v, u, rfl, rv, ru⟩ := r.two
    cases rv; cases ru
    exact ⟨_, _, rfl, q w _ k (Le.refl w) (.int _)⟩
  · cases h
def fInt : CM
  | [.int i], s => some (.int i, s)
  | [.bl b], s => some (.int (if b then 1 else 0), s)
  | _, _ => none
theorem cb_int : CBok (fun xs H Q => (∃ i, xs = [.int i] ∧ Q (.int i) H) ∨ ∃ k, xs = [.bl k] ∧ Q (.int (if k then 1 else 0)) H) fInt := fun w s ds vs z s' Q k r h q => by
  unfold fInt at h
  split at h
  · cases h
    obtain ⟨v, rfl, rv⟩ := r.one
    cases rv
    exact .inl ⟨_, rfl, q w _ k (Le.refl w) (.int _)⟩
  · cases h
    obtain ⟨v, rfl, rv⟩ := r.one
    cases rv
    exact .inr ⟨_, rfl, q w _ k (Le.refl w) (.int _)⟩
  · cases h
def fTuple : CM
  | [.tup ds], s => some (.tup ds, s)
  | [.ref r], s => match s.st[r]? with
    | some xs => some (.tup xs, s)
    | none => none
  | _, _ => none
theorem cb_tuple {K : PySem.W.Frag} : CBok (fun xs H Q => ∃ p ys, xs = [.ref p] ∧ ((SqL K H p ys ∧ ∀ l, H l = none → Q (.ref l) (upd H l (.tup ys))) ∨ (SqT K H p ys ∧ Q (.ref p) H))) fTuple := fun w s ds vs z s' Q k r h q => by
  unfold fTuple at h
  split at h
  · cases h
    obtain ⟨v, rfl, rv⟩ := r.one
    have rv' := rv
    cases rv with
    | tup ha rs => exact ⟨_, _, rfl, .inr ⟨SqT.of ha, q w _ k (Le.refl w) rv'⟩⟩
  · split at h
    · rename_i xs hx
      cases h
      obtain ⟨v, rfl, rv⟩ := r.one
      obtain ⟨a, vs', rfl, _, g2, g3⟩ := rv.list k hx
      refine ⟨_, _, rfl, .inl ⟨SqL.of g2, fun l hl => ?_⟩⟩
      have l2 : Le w (w.put l (.tup vs')) := Le.tup k hl
      exact q (w.put l (.tup vs')) _ (k.put hl) l2 (.tup upd_same (g3.le l2.toSub))
    · cases h
  · cases h
def fList : CM
  | [.tup ds], s => some (.ref s.st.length, s.add ds)
  | [.ref r], s => match s.st[r]? with
    | some xs => some (.ref s.st.length, s.add xs)
    | none => none
  | _, _ => none
theorem cb_list {K : PySem.W.Frag} : CBok (fun xs H Q => ∃ p ys, xs = [.ref p] ∧ (SqL K H p ys ∨ SqT K H p ys) ∧ ∀ l, H l = none → Q (.ref l) (upd H l (.lst ys))) fList := fun w s ds vs z s' Q k r h q => by
  unfold fList at h
  split at h
  · cases h
    obtain ⟨v, rfl, rv⟩ := r.one
    cases rv with
    | tup ha rs =>
      refine ⟨_, _, rfl, .inr (SqT.of ha), fun l hl => ?_⟩
      obtain ⟨k2, l2, r2⟩ := k.addNew hl rs
      exact q _ _ k2 l2 r2
  · split at h
    · rename_i xs hx
      cases h
      obtain ⟨v, rfl, rv⟩ := r.one
      obtain ⟨a, vs', rfl, _, g2, g3⟩ := rv.list k hx
      refine ⟨_, _, rfl, .inl (SqL.of g2), fun l hl => ?_⟩
      obtain ⟨k2, l2, r2⟩ := k.addNew hl g3
      exact q _ _ k2 l2 r2
    · cases h
  · cases h
def fAll : CM
  | [.ref r], s => match s.st[r]? with
    | some xs => match asBls xs with
      | some bs => some (.bl (bs.all id), s)
      | none => none
    | none => none
  | _, _ => none
theorem cb_all {K : PySem.W.Frag} : CBok (rAll K) fAll := fun w s ds vs z s' Q k r h q => by
  unfold fAll at h
  split at h
  · split at h
    · rename_i xs hx
      split at h
      · rename_i bs hb
        cases h
        obtain ⟨v, rfl, rv⟩ := r.one
        obtain ⟨a, vs', rfl, _, g2, g3⟩ := rv.list k hx
        rw [asBls_eq hb] at g3
        cases g3.bls
        exact ⟨_, bs, rfl, SqL.of g2, q w _ k (Le.refl w) (.bl _)⟩
      · cases h
    · cases h
  · cases h
def fMin : CM
  | [.ref r], s => match s.st[r]? with
    | some xs => match asInts xs with
      | some (i :: is) => some (.int (is.foldl min i), s)
      | _ => none
    | none => none
  | _, _ => none
theorem foldl_min : ∀ (is : List Int) (i : Int), is.foldl min i ≤ i ∧ (∀ j ∈ is, is.foldl min i ≤ j) ∧ (is.foldl min i = i ∨ is.foldl min i ∈ is)
  | [], i => ⟨Int.le_refl _, fun _ h => (by cases h), .inl rfl⟩
  | j :: is, i => by
    obtain ⟨h1, h2, h3⟩ := foldl_min is (min i j)
    have e : (j :: is).foldl min i = is.foldl min (min i j) := rfl
    rw [e]
    refine ⟨Int.le_trans h1 (Int.min_le_left _ _), fun k hk => ?_, ?_⟩
    · rcases List.mem_cons.mp hk with rfl | hk
      · exact Int.le_trans h1 (Int.min_le_right _ _)
      · exact h2 k hk
    · rcases h3 with h3 | h3
      · rw [h3]
        rcases Int.le_total i j with h | h
        · left; exact Int.min_eq_left h
        · right; rw [Int.min_eq_right h]; exact List.mem_cons_self
      · right; exact List.mem_cons_of_mem _ h3
theorem cb_min {K : PySem.W.Frag} : CBok (rMin K) fMin := fun w s ds vs z s' Q k r h q => by
  unfold fMin at h
  split at h
  · split at h
    · rename_i xs hx
      split at h
      · rename_i i is hb
        cases h
        obtain ⟨v, rfl, rv⟩ := r.one
        obtain ⟨a, vs', rfl, _, g2, g3⟩ := rv.list k hx
        rw [asInts_eq hb] at g3
        cases g3.ints
        refine ⟨_, i :: is, rfl, SqL.of g2, Nat.succ_pos _, fun m hm hle => ?_⟩
        obtain ⟨h1, h2, h3⟩ := foldl_min is i
        have e : m = is.foldl min i := by
          apply Int.le_antisymm
          · rcases h3 with h3 | h3
            · rw [h3]; exact hle i List.mem_cons_self
            · exact hle _ (List.mem_cons_of_mem _ h3)
          · rcases List.mem_cons.mp hm with rfl | hm
            · exact h1
            · exact h2 m hm
        subst e
        exact q w _ k (Le.refl w) (.int _)
      · cases h
    · cases h
  · cases h
end
end Mir
/-! ## MirD -/
set_option maxHeartbeats 200000
set_option Elab.async false
set_option linter.all false
set_option maxRecDepth 100000
/-! Data: what is walked, for, comprehensions, isinstance, in, truth of a list. -/
namespace Mir
open PySem PySem.Spec PyProof.Rows L2

/-! ### what is walked: the items, the list that must stand -/
abbrev Guard := Option (Nat × List D)
def gOk (g : Guard) (s : MS) : Bool := match g with
  | none => true
  | some (r, xs) => match s.st[r]? with
    | some ys => decide (ys = xs)
    | none => false
abbrev IM := Env → MS → Option ((List D × Guard) × MS)
/-- the iterator gives the items, wherever the guard holds -/
def ItOk (w : Wd) (J : It) (items : List D) (g : Guard) : Prop := ∀ w2 s2, WOk w2 s2 → Sub w w2 → gOk g s2 = true →
  (∀ i, i < items.length → J.go i w2.H) ∧ J.stop items.length w2.H ∧ ∀ i x H', i < items.length → J.yld i w2.H x H' → ∃ w3 d, w3.H = H' ∧ WOk w3 s2 ∧ Le w2 w3 ∧ w3.r = w2.r ∧ w3.w = w2.w ∧ Same w2.H w3.H ∧ items[i]? = some d ∧ RV w3 d x
def loI (m : IM) : TI := fun σ H R => ∃ (w : Wd) (env : Env) (s : MS) (items : List D) (g : Guard) (s' : MS), w.H = H ∧ WOk w s ∧ EOk w env σ ∧ m env s = some ((items, g), s') ∧ ∀ w' J, WOk w' s' → Le w w' → ItOk w' J items g → R J w'.H
abbrev QI (X : Cx) (tg e : Expr) (m : IM) : Prop := PI X tg e (loI m)
theorem pi_mono {X : Cx} {tg e : Expr} {t u : TI} (h : PI X tg e t) (hu : ∀ σ H Q, u σ H Q → t σ H Q) : PI X tg e u := ⟨fun pins s σ H Q I q => h.run pins s σ H Q I (hu σ H Q q)⟩

/-- a list or a tuple, by its value -/
def dItems (s : MS) : D → Option (List D × Guard)
  | .tup ds => some (ds, none)
  | .ref r => match s.st[r]? with
    | some xs => some (xs, some (r, xs))
    | none => none
  | _ => none
def dTup : D → Option (List D × Guard)
  | .tup ds => some (ds, none)
  | _ => none
def dLst (s : MS) : D → Option (List D × Guard)
  | .ref r => match s.st[r]? with
    | some xs => some (xs, some (r, xs))
    | none => none
  | _ => none
def iTupM (a : EM) : IM := fun env s => bnd (a env s) fun x s1 => ret (dTup x) s1
def iLstM (a : EM) : IM := fun env s => bnd (a env s) fun x s1 => ret (dLst s1 x) s1
def rngItems (lo : Int) : Nat → List D
  | 0 => []
  | n + 1 => .int lo :: rngItems (lo + 1) n
theorem rngItems_len : ∀ (n : Nat) (lo : Int), (rngItems lo n).length = n
  | 0, _ => rfl
  | n + 1, lo => by rw [rngItems, List.length_cons, rngItems_len n]
theorem rngItems_get : ∀ (n : Nat) (lo : Int) (i : Nat), i < n → (rngItems lo n)[i]? = some (.int (lo + i))
  | 0, _, _, h => absurd h (Nat.not_lt_zero _)
  | n + 1, lo, 0, _ => by rw [rngItems]; simp
  | n + 1, lo, i + 1, h => by
    rw [rngItems, List.getElem?_cons_succ, rngItems_get n (lo + 1) i (Nat.lt_of_succ_lt_succ h)]
    congr 2
    omega
def dRng1 : List D → Option (List D × Guard)
  | [.int j] => if j.natAbs ≤ 1000000 then some (rngItems 0 j.toNat, none) else none
  | _ => none
def dRng2 : List D → Option (List D × Guard)
  | [.int i, .int j] => if i.natAbs ≤ 1000000 ∧ j.natAbs ≤ 1000000 then some (rngItems i (j - i).toNat, none) else none
  | _ => none
def iRng1M (a : AM) : IM := fun env s => bnd (a env s) fun x s1 => ret (dRng1 x) s1
def iRng2M (a : AM) : IM := fun env s => bnd (a env s) fun x s1 => ret (dRng2 x) s1
section
variable {X : Cx} {tg : Expr}
theorem itOk_tup {K : PySem.W.Frag} {w : Wd} {a : Addr} {ds : List D} {vs : List V} (h : w.H a = some (.tup vs)) (r : RVs w ds vs) : ItOk w (Itt K a) ds none := fun w2 s2 k2 l2 _ => by
  have h2 : SqT K w2.H a vs := SqT.of (l2.tups _ _ h)
  have hl := r.length
  refine ⟨fun i hi => ⟨vs, vs[i]'(by omega), h2, List.getElem?_eq_getElem (by omega)⟩, ⟨vs, h2, by omega⟩, fun i x H' hi ⟨e, y⟩ => ?_⟩
  obtain ⟨d, g1, g2⟩ := r.get' (y vs h2)
  exact ⟨w2, d, e.symm, k2, Le.refl _, rfl, rfl, fun _ _ h => h, g1, g2.le l2⟩
theorem gOk_get {r : Nat} {xs : List D} {s : MS} (h : gOk (some (r, xs)) s = true) : s.st[r]? = some xs := by
  unfold gOk at h
  simp only at h
  split at h
  · rename_i ys hy
    rw [hy, of_decide_eq_true h]
  · cases h
theorem itOk_lst {K : PySem.W.Frag} {w : Wd} {s : MS} {a : Addr} {rr : Nat} {ds : List D} (k : WOk w s) (h : w.r[rr]? = some a) : ItOk w (Itl K a) ds (some (rr, ds)) := fun w2 s2 k2 l2 hg => by
  obtain ⟨b, vs, h1, h2, h3⟩ := k2.lst rr ds (gOk_get hg)
  rw [l2.ix h] at h1
  cases h1
  have hq : SqL K w2.H a vs := SqL.of h2
  have hl := h3.length
  refine ⟨fun i hi => ⟨vs, vs[i]'(by omega), hq, List.getElem?_eq_getElem (by omega)⟩, ⟨vs, hq, by omega⟩, fun i x H' hi ⟨e, y⟩ => ?_⟩
  obtain ⟨d, g1, g2⟩ := h3.get' (y vs hq)
  exact ⟨w2, d, e.symm, k2, Le.refl _, rfl, rfl, fun _ _ h => h, g1, g2⟩
theorem itOk_rng {w : Wd} {lo : Int} {n : Nat} : ItOk w (Itr lo n) (rngItems lo n) none := fun w2 s2 k2 l2 hg => by
  refine ⟨fun i hi => ?_, ?_, fun i x H' hi ⟨e, y⟩ => ?_⟩
  · rw [rngItems_len] at hi; exact hi
  · show n ≤ _; rw [rngItems_len]; exact Nat.le_refl _
  · rw [rngItems_len] at hi
    refine ⟨w2, .int (lo + i), e.symm, k2, Le.refl _, rfl, rfl, fun _ _ h => h, rngItems_get n lo i hi, ?_⟩
    rw [y]
    exact .int _
theorem qi_tup {e : Expr} {me : EM} (h : QE X e me) : QI X tg e (iTupM me) := pi_mono (pi_tup h) fun σ H Q ⟨w, env, s, items, g, s', e, k, ek, h, q⟩ => by
  obtain ⟨x, s1, h1, h⟩ := bnd_eq h
  obtain ⟨h3, rfl⟩ := ret_eq h
  refine ⟨w, env, s, x, s', e, k, ek, h1, fun w1 v k1 l1 r1 => ?_⟩
  cases x with
  | tup ds =>
    cases h3
    cases r1 with
    | tup ha rs => exact ⟨_, rfl, ⟨_, SqT.of ha⟩, q w1 _ k1 l1 (itOk_tup ha rs)⟩
  | _ => cases h3
theorem qi_lst {e : Expr} {me : EM} (h : QE X e me) : QI X tg e (iLstM me) := pi_mono (pi_list h) fun σ H Q ⟨w, env, s, items, g, s', e, k, ek, h, q⟩ => by
  obtain ⟨x, s1, h1, h⟩ := bnd_eq h
  obtain ⟨h3, rfl⟩ := ret_eq h
  refine ⟨w, env, s, x, s', e, k, ek, h1, fun w1 v k1 l1 r1 => ?_⟩
  cases x with
  | ref r =>
    simp only [dLst] at h3
    split at h3
    · rename_i xs hx
      cases h3
      obtain ⟨a, vs, rfl, g1, g2, g3⟩ := r1.list k1 hx
      exact ⟨_, rfl, ⟨_, SqL.of g2⟩, q w1 _ k1 l1 (itOk_lst k1 g1)⟩
    · cases h3
  | _ => cases h3
theorem qi_rng1 {a : Expr} {ma : AM} {p pos : Pos} (hm : X.mg "range" = none) (ha : QA X [a] ma) (hg : Gl X "range" := by rfl) (hs : starEach [a] X.env = [(false, eval a X.env)] := by rfl) : QI X tg (.Call (.Name "range" p) [a] [] pos) (iRng1M ma) :=
  pi_mono (pi_range1 hg hm ha hs) fun σ H Q ⟨w, env, s, items, g, s', e, k, ek, h, q⟩ => by
    obtain ⟨x, s1, h1, h⟩ := bnd_eq h
    obtain ⟨h3, rfl⟩ := ret_eq h
    refine ⟨w, env, s, x, s', e, k, ek, h1, fun w1 v k1 l1 r1 => ?_⟩
    unfold dRng1 at h3
    split at h3
    · split at h3
      · rename_i hj
        cases h3
        obtain ⟨v, rfl, rv⟩ := r1.one
        cases rv
        exact ⟨_, rfl, by omega, by omega, q w1 _ k1 l1 itOk_rng⟩
      · cases h3
    · cases h3
theorem qi_rng2 {a b : Expr} {ma : AM} {p pos : Pos} (hm : X.mg "range" = none) (ha : QA X [a, b] ma) (hg : Gl X "range" := by rfl) (hs : starEach [a, b] X.env = [(false, eval a X.env), (false, eval b X.env)] := by rfl) (hs2 : starEach [b] X.env = [(false, eval b X.env)] := by rfl) :
    QI X tg (.Call (.Name "range" p) [a, b] [] pos) (iRng2M ma) :=
  pi_mono (pi_range2 hg hm ha hs hs2) fun σ H Q ⟨w, env, s, items, g, s', e, k, ek, h, q⟩ => by
    obtain ⟨x, s1, h1, h⟩ := bnd_eq h
    obtain ⟨h3, rfl⟩ := ret_eq h
    refine ⟨w, env, s, x, s', e, k, ek, h1, fun w1 v k1 l1 r1 => ?_⟩
    unfold dRng2 at h3
    split at h3
    · split at h3
      · rename_i hj
        cases h3
        obtain ⟨v, u, rfl, rv, ru⟩ := r1.two
        cases rv; cases ru
        exact ⟨_, _, rfl, by omega, q w1 _ k1 l1 itOk_rng⟩
      · cases h3
    · cases h3
end

/-! ### for -/
def forL (tg : GM) (body : SM) (g : Guard) : List D → SM
  | [] => fun env s => if gOk g s = true then some (.nx env, s) else none
  | d :: ds => fun env s => if gOk g s = true then bnd (tg d env s) (fun env1 s1 => bnd (body env1 s1) fun o s2 => match o with
      | .nx env2 => forL tg body g ds env2 s2
      | .rt v => some (.rt v, s2)) else none
theorem forL_nil {tg : GM} {body : SM} {g : Guard} {env : Env} {s : MS} : forL tg body g [] env s = if gOk g s = true then some (.nx env, s) else none := rfl
theorem forL_cons {tg : GM} {body : SM} {g : Guard} {d : D} {ds : List D} {env : Env} {s : MS} : forL tg body g (d :: ds) env s = if gOk g s = true then bnd (tg d env s) (fun env1 s1 => bnd (body env1 s1) fun o s2 => match o with
      | .nx env2 => forL tg body g ds env2 s2
      | .rt v => some (.rt v, s2)) else none := rfl
def sFor (src : IM) (tg : GM) (body : SM) : SM := fun env s => bnd (src env s) fun p s1 => forL tg body p.2 p.1 env s1
theorem drop_cons {α : Type} {l : List α} {i : Nat} {a : α} (h : l[i]? = some a) : l.drop i = a :: l.drop (i + 1) := by
  have hi := (List.getElem?_eq_some_iff.mp h).1
  rw [List.drop_eq_getElem_cons hi]
  congr 1
  exact Option.some.inj ((List.getElem?_eq_getElem hi).symm.trans h)
section
variable {X : Cx} {tg iter : Expr} {body : List Stmt} {mi : IM} {gm : GM} {b : SM} {pos : Pos}
theorem qs_for (hp : PassesOwn (model X.prog X.w) X.A X.env X.xe) (hc : X.calm = true) (hi : QI X tg iter mi) (hg : QG X tg gm) (hb : QSs X body b)
    (hs : ∀ x, foldedSetIterable iter X.env x = pure x := by intro _; rfl) : QS X (.For tg iter body [] pos) (sFor mi gm b) := ps_mono (ps_for hp hc hi hg hb hs) fun D σ H ⟨w, env, s, o, s', e, k, ek, h, q⟩ => by
  obtain ⟨⟨items, g⟩, s1, h1, h⟩ := bnd_eq h
  refine ⟨w, env, s, items, g, s1, e, k, ek, h1, fun w1 J k1 l1 it => ?_⟩
  refine ⟨fun i m σ H => m = items.length - i ∧ i ≤ items.length ∧ ∃ w2 env2 s2, w2.H = H ∧ WOk w2 s2 ∧ EOk w2 env2 σ ∧ Le w1 w2 ∧ forL gm b g (items.drop i) env2 s2 = some (o, s'), ⟨items.length, by simp, Nat.zero_le _, w1, env, s1, rfl, k1, ek.le l1.toSub, Le.refl _, by simpa using h⟩, ?_⟩
  rintro i m σ2 H2 ⟨rfl, hi, w2, env2, s2, rfl, k2, ek2, l2, h2⟩
  have gd : gOk g s2 = true := by
    cases hq : gOk g s2 with
    | true => rfl
    | false =>
      cases hd : items.drop i with
      | nil => rw [hd, forL_nil, hq] at h2; cases h2
      | cons d ds => rw [hd, forL_cons, hq] at h2; cases h2
  obtain ⟨it1, it2, it3⟩ := it w2 s2 k2 l2.toSub gd
  by_cases hlt : i < items.length
  · refine .inr ⟨it1 i hlt, fun σ' H' => i + 1 ≤ items.length ∧ ∃ w2 env2 s2, w2.H = H' ∧ WOk w2 s2 ∧ EOk w2 env2 σ' ∧ Le w1 w2 ∧ forL gm b g (items.drop (i + 1)) env2 s2 = some (o, s'), fun σ' H' z => ⟨items.length - (i + 1), by omega, rfl, z⟩, fun x H' hy => ?_⟩
    obtain ⟨w3, d, rfl, k3, l3, _, _, _, hd, rv⟩ := it3 i x H' hlt hy
    rw [drop_cons hd, forL_cons, if_pos gd] at h2
    obtain ⟨env4, s4, h4, h2⟩ := bnd_eq h2
    obtain ⟨o5, s5, h5, h2⟩ := bnd_eq h2
    refine ⟨w3, env2, s2, d, env4, s4, rfl, k3, ek2.le l3.toSub, rv, h4, fun w4 σ4 k4 l4 ek4 => ?_⟩
    refine ⟨w4, env4, s4, o5, s5, rfl, k4, ek4, h5, ?_⟩
    have l14 := (l2.trans l3).trans l4
    cases o5 with
    | nx env6 => exact fun w6 σ6 k6 l6 ek6 => ⟨hlt, w6, env6, s5, rfl, k6, ek6, l14.trans l6, h2⟩
    | rt d =>
      cases h2
      exact fun w6 v k6 l6 r6 => q w6 v k6 (l1.trans (l14.trans l6)) r6
  · have e' : i = items.length := by omega
    subst e'
    refine .inl ⟨it2, ?_⟩
    rw [List.drop_length, forL_nil, if_pos gd] at h2
    cases h2
    exact q w2 σ2 k2 (l1.trans l2) ek2
end

/-! ### comprehensions -/
/-- the slots of the block's own names forgotten -/
def wipeE (env : Env) : List Nat → Env
  | [] => env
  | v :: vs => (wipeE env vs).set v none
theorem EOk.wipe {w : Wd} {env : Env} {σ : L2.St} (e : EOk w env σ) : ∀ vs : List Nat, EOk w (wipeE env vs) (wipe σ vs)
  | [] => e
  | v :: vs => (EOk.wipe e vs).unset v none
theorem wipe_set {σ : L2.St} {i : Nat} {o : Option V} : ∀ {vs : List Nat}, i ∈ vs → wipe (σ.set i o) vs = wipe σ vs
  | v :: vs, h => by
    unfold wipe
    by_cases hi : i ∈ vs
    · rw [wipe_set hi]
    · have hv : i = v := by
        rcases List.mem_cons.mp h with e | e
        · exact e
        · exact absurd e hi
      subst hv
      have key : ∀ {ws : List Nat}, i ∉ ws → wipe (σ.set i o) ws = (wipe σ ws).set i o := by
        intro ws
        induction ws with
        | nil => intro _; rfl
        | cons u ws ih =>
          intro hn
          unfold wipe
          rw [ih fun z => hn (List.mem_cons_of_mem _ z), List.set_comm]
          rintro rfl
          exact hn List.mem_cons_self
      rw [key hi]
      simp
/-- a target that stores the block's own names alone -/
def loGw (vs : List Nat) (m : GM) : TG := fun v σ H Q => ∃ (w : Wd) (env : Env) (s : MS) (d : D) (env' : Env) (s' : MS), w.H = H ∧ WOk w s ∧ EOk w env σ ∧ RV w d v ∧ m d env s = some (env', s') ∧ ∀ w' σ', WOk w' s' → Le w w' → EOk w' env' σ' → wipe σ' vs = wipe σ vs → Q σ' w'.H
def loGsw (vs : List Nat) (m : GsM) : TGs := fun us σ H Q => ∃ (w : Wd) (env : Env) (s : MS) (ds : List D) (env' : Env) (s' : MS), w.H = H ∧ WOk w s ∧ EOk w env σ ∧ RVs w ds us ∧ m ds env s = some (env', s') ∧ ∀ w' σ', WOk w' s' → Le w w' → EOk w' env' σ' → wipe σ' vs = wipe σ vs → Q σ' w'.H
abbrev QGw (X : Cx) (vs : List Nat) (tg : Expr) (m : GM) : Prop := PG X tg (loGw vs m)
abbrev QGsw (X : Cx) (vs : List Nat) (tg : List Expr) (m : GsM) : Prop := PGs X tg (loGsw vs m)
section
variable {X : Cx} {pos : Pos} {vs : List Nat}
theorem qgw_name {i : Nat} {x : Str} (hN : X.N.Nodup) (hv : i ∈ vs) (hi : X.N[i]? = some x := by rfl) (hx : Loc X.env.scope x := by first | exact .inl rfl | exact .inr rfl) (hf : X.fn x = true ∨ X.env.scope.names.lookup x = some .local := by first | exact .inl rfl | exact .inr rfl | assumption) : QGw X vs (.Name x pos) (gtName i) :=
  pg_mono (pg_name hN hi hx hf) fun v σ H Q ⟨w, env, s, d, env', s', e, k, ek, r, h, q⟩ => by
    subst e
    cases h
    exact q w _ k (Le.refl w) (ek.set i r) (wipe_set hv)
theorem qgw_nil : QGsw X vs [] gtNil := pgs_mono pgs_nil fun us σ H Q ⟨w, env, s, ds, env', s', e, k, ek, r, h, q⟩ => by
  subst e
  cases ds with
  | nil =>
    cases h
    cases r
    exact ⟨rfl, q w σ k (Le.refl w) ek rfl⟩
  | cons _ _ => cases h
theorem qgw_cons {e : Expr} {es : List Expr} {t : GM} {u : GsM} (h1 : QGw X vs e t) (h2 : QGsw X vs es u) (hs : (assignEach (e :: es) X.env).map (·.2) = assign e X.env :: (assignEach es X.env).map (·.2) := by rfl) : QGsw X vs (e :: es) (gtCons t u) :=
  pgs_mono (pgs_cons h1 h2 hs) fun us σ H Q ⟨w, env, s, ds, env', s', e, k, ek, r, h, q⟩ => by
    cases ds with
    | nil => cases h
    | cons d ds =>
      obtain ⟨env1, s1, g1, h⟩ := bnd_eq h
      cases r with
      | cons r1 rr =>
        refine ⟨_, _, rfl, ⟨w, env, s, d, env1, s1, e, k, ek, r1, g1, fun w1 σ1 k1 l1 ek1 e1 => ?_⟩⟩
        exact ⟨w1, env1, s1, ds, env', s', rfl, k1, ek1, rr.le l1.toSub, h, fun w2 σ2 k2 l2 ek2 e2 => q w2 σ2 k2 (l1.trans l2) ek2 (e2.trans e1)⟩
theorem qgw_tup {es : List Expr} {kk : Nat} {t : GsM} {n : Nat} (hc : X.calm = true) (h : QGsw X vs es t) (hn : (assignEach es X.env).length = n := by rfl) (hst : (assignEach es X.env).findIdx? (·.1) = none := by rfl) : QGw X vs (.Tuple es kk pos) (gtTup n t) :=
  pg_mono (pg_tup hc h hn hst) fun v σ H Q ⟨w, env, s, d, env', s', e, k, ek, r, h, q⟩ => by
    cases d with
    | tup ds =>
      simp only [gtTup] at h
      split at h
      · rename_i hl
        cases r with
        | tup ha rr =>
          exact ⟨_, _, rfl, SqT.of (by rw [← e]; exact ha), by rw [← rr.length]; exact hl, ⟨w, env, s, ds, env', s', e, k, ek, rr, h, q⟩⟩
      · cases h
    | _ => cases h
end
def tYesM : TM := fun _ s => some (true, s)
abbrev QTs (X : Cx) (ifs : List Expr) (m : TM) : Prop := PTs X ifs (loT m)
theorem pts_mono {X : Cx} {ifs : List Expr} {t u : TT} (h : PTs X ifs t) (hu : ∀ σ H Q, u σ H Q → t σ H Q) : PTs X ifs u := ⟨fun pins s σ H Q I q => h.run pins s σ H Q I (hu σ H Q q)⟩
theorem qts_nil {X : Cx} : QTs X [] tYesM := pts_mono pts_nil fun σ H Q ⟨w, env, s, b, s', e, k, ek, h, q⟩ => by
  subst e
  cases h
  exact q w k (Le.refl w)
theorem qts_one {X : Cx} {c : Expr} {m : TM} (h : QT X c m) : QTs X [c] m := pts_one h
/-- the turns: what they make, the state behind -/
def compL (tg : GM) (tt : TM) (te : EM) (g : Guard) (env : Env) : List D → MS → Option (List D × MS)
  | [], s => if gOk g s = true then some ([], s) else none
  | d :: ds, s => if gOk g s = true then bnd (tg d env s) (fun env1 s1 => bnd (tt env1 s1) fun b s2 =>
      if b = true then bnd (te env1 s2) (fun y s3 => bnd (compL tg tt te g env ds s3) fun ys s4 => some (y :: ys, s4)) else compL tg tt te g env ds s2) else none
def eComp (vs : List Nat) (src : IM) (tg : GM) (tt : TM) (te : EM) : EM := fun env s => bnd (src env s) fun p s1 => if p.1.length < 100000 then bnd (compL tg tt te p.2 (wipeE env vs) p.1 s1) (fun ys s2 => some (.ref s2.st.length, s2.add ys)) else none
theorem Same.put {w : Wd} {p : Addr} {o : HO} (hp : w.H p = none) : Same w.H (w.put p o).H := fun b x e => by
  show upd w.H p o b = _
  rw [upd_ne (ne_of_none e hp)]
  exact e
section
variable {X : Cx} {elt tg iter : Expr} {ifs : List Expr} {mi : IM} {gm : GM} {mt : TM} {me : EM} {pos : Pos}
theorem lo_comp {vs : List Nat} : ∀ σ H Q, loE (eComp vs mi gm mt me) σ H Q → tLc (loI mi) (loGw vs gm) (loT mt) (loE me) vs σ H Q := fun σ H Q ⟨w, env, s, d, s', e, k, ek, h, q⟩ => by
  obtain ⟨⟨items, g⟩, s1, h1, h⟩ := bnd_eq h
  split at h
  · rename_i hlen
    have hlen : items.length < 100000 := hlen
    obtain ⟨total, se, hC, h'⟩ := bnd_eq h
    cases h'
    have hC : compL gm mt me g (wipeE env vs) items s1 = some (total, se) := hC
    refine ⟨w, env, s, items, g, s1, e, k, ek, h1, fun w1 J k1 l1 it D hD => ?_⟩
    have f1 := k1.fresh hD
    refine ⟨fun i m H => m = items.length - i ∧ i ≤ items.length ∧ ∃ w2 s2 acc accv ys, w2.H = H ∧ WOk w2 s2 ∧ Le w1 w2 ∧ w2.H D = some (.lst accv) ∧ D ∉ w2.r ∧ D ∉ w2.w ∧ RVs w2 acc accv ∧ acc.length ≤ i ∧ compL gm mt me g (wipeE env vs) (items.drop i) s2 = some (ys, se) ∧ acc ++ ys = total,
      ⟨items.length, by simp, Nat.zero_le _, w1.put D (.lst []), s1, [], [], total, rfl, k1.put hD, Le.tup k1 hD, upd_same, f1.1, f1.2, .nil, Nat.le_refl _, by simpa using hC, rfl⟩, ?_⟩
    rintro i m H2 ⟨rfl, hi, w2, s2, acc, accv, ys, rfl, k2, l2, hacc, hr, hw, ra, hal, h2, htot⟩
    have gd : gOk g s2 = true := by
      cases hq : gOk g s2 with
      | true => rfl
      | false =>
        cases hd : items.drop i with
        | nil => rw [hd, compL, hq] at h2; cases h2
        | cons d ds => rw [hd, compL, hq] at h2; cases h2
    obtain ⟨it1, it2, it3⟩ := it w2 s2 k2 l2.toSub gd
    by_cases hlt : i < items.length
    · refine .inr ⟨it1 i hlt, fun H' => i + 1 ≤ items.length ∧ ∃ w2 s2 acc accv ys, w2.H = H' ∧ WOk w2 s2 ∧ Le w1 w2 ∧ w2.H D = some (.lst accv) ∧ D ∉ w2.r ∧ D ∉ w2.w ∧ RVs w2 acc accv ∧ acc.length ≤ i + 1 ∧ compL gm mt me g (wipeE env vs) (items.drop (i + 1)) s2 = some (ys, se) ∧ acc ++ ys = total,
        fun H' z => ⟨items.length - (i + 1), by omega, rfl, z⟩, fun x H' hy => ?_⟩
      obtain ⟨w3, d, rfl, k3, l3, er, ew, sm, hd, rv⟩ := it3 i x H' hlt hy
      rw [drop_cons hd, compL, if_pos gd] at h2
      obtain ⟨env4, s4, h4, h2⟩ := bnd_eq h2
      obtain ⟨b, s5, h5, h2⟩ := bnd_eq h2
      have stay : ∀ {wa wb : Wd}, Le wa wb → wa.H D = some (.lst accv) → D ∉ wa.r → D ∉ wa.w → wb.H D = some (.lst accv) ∧ D ∉ wb.r ∧ D ∉ wb.w := fun {wa wb} l a1 a2 a3 => by
        refine ⟨l.keep D _ a1 a2 a3, fun z => ?_, fun z => ?_⟩
        · rcases l.own D (.inl z) with (q | q) | q
          · exact a2 q
          · exact a3 q
          · rw [a1] at q; cases q
        · rcases l.own D (.inr z) with (q | q) | q
          · exact a2 q
          · exact a3 q
          · rw [a1] at q; cases q
      have st3 := stay l3 hacc hr hw
      refine ⟨w3, wipeE env vs, s2, d, env4, s4, rfl, k3, (ek.le ((l1.trans l2).trans l3).toSub).wipe vs, rv, h4, fun w4 σ4 k4 l4 ek4 e4 => ?_⟩
      have st4 := stay l4 st3.1 st3.2.1 st3.2.2
      have ew : ∀ (σ : L2.St) (ws : List Nat), wipe (wipe σ ws) ws = wipe σ ws := fun σ ws => by
        have gen : ∀ (us ws : List Nat) (τ : L2.St), (∀ u ∈ us, u ∈ ws) → wipe (wipe τ us) ws = wipe τ ws := by
          intro us
          induction us with
          | nil => intro ws τ _; rfl
          | cons u us ih =>
            intro ws τ hu
            show wipe ((wipe τ us).set u none) ws = _
            rw [wipe_set (hu u List.mem_cons_self), ih ws τ fun v hv => hu v (List.mem_cons_of_mem _ hv)]
        exact gen ws ws σ fun _ h => h
      refine ⟨by rw [e4]; exact ew _ _, ⟨w4, env4, s4, b, s5, rfl, k4, ek4, h5, fun w5 k5 l5 => ?_⟩⟩
      have st5 := stay l5 st4.1 st4.2.1 st4.2.2
      have l25 : Le w2 w5 := (l3.trans l4).trans l5
      cases b with
      | true =>
        rw [if_pos rfl] at h2
        refine iteT ?_
        obtain ⟨y, s6, h6, h2⟩ := bnd_eq h2
        obtain ⟨ys', s7, h7, h2⟩ := bnd_eq h2
        cases h2
        refine ⟨w5, env4, s5, y, s6, rfl, k5, ek4.le l5.toSub, h6, fun w6 v k6 l6 r6 => ?_⟩
        have st6 := stay l6 st5.1 st5.2.1 st5.2.2
        have l26 := l25.trans l6
        refine ⟨accv, st6.1, by rw [← ra.length]; exact lt100000 (by omega), hlt, ?_⟩
        have kk : WOk (w6.put D (.lst (accv ++ [v]))) s6 ∧ Sub w6 (w6.put D (.lst (accv ++ [v]))) := by
          have sb : Sub w6 (w6.put D (.lst (accv ++ [v]))) := ⟨fun a xs ha => (by
            show upd w6.H D _ a = _
            rw [upd_ne]
            · exact ha
            · rintro rfl
              rw [st6.1] at ha
              cases ha), ⟨[], by simp [Wd.put]⟩, rfl⟩
          refine ⟨⟨k6.len, k6.nd, fun j xs hj => ?_, ?_⟩, sb⟩
          · obtain ⟨a, us, g1, g2, g3⟩ := k6.lst j xs hj
            refine ⟨a, us, g1, ?_, g3.le sb⟩
            show upd w6.H D _ a = _
            rw [upd_ne]
            · exact g2
            · rintro rfl; exact st6.2.1 (List.mem_of_getElem? g1)
          · have hs := k6.seat
            cases es : s6.seat with
            | none => rw [es] at hs; exact hs
            | some qq =>
              obtain ⟨gs, mix⟩ := qq
              rw [es] at hs
              obtain ⟨a, b, g1, g2, g3⟩ := hs
              refine ⟨a, b, g1, ?_, ?_⟩
              · show upd w6.H D _ a = _
                rw [upd_ne]
                · exact g2
                · rintro rfl; exact st6.2.2 (by rw [g1]; simp)
              · show upd w6.H D _ b = _
                rw [upd_ne]
                · exact g3
                · rintro rfl; exact st6.2.2 (by rw [g1]; simp)
        refine ⟨w6.put D (.lst (accv ++ [v])), s6, acc ++ [y], accv ++ [v], ys', rfl, kk.1, ?_, upd_same, st6.2.1, st6.2.2, ((ra.le l26.toSub).append (.cons r6 .nil)).le kk.2, by rw [List.length_append]; simp; omega, h7, by rw [← htot, List.append_assoc]; rfl⟩
        have l16 : Le w1 w6 := l2.trans l26
        refine ⟨⟨fun a xs ha => kk.2.tups a xs (l16.tups a xs ha), by obtain ⟨m, em⟩ := l16.pre; exact ⟨m, em⟩, l16.head⟩, fun a o ha n1 n2 => ?_, fun a ha => ?_, l16.ownR, l16.ownW⟩
        rotate_left
        · by_cases ea : a = D
          · rw [ea]; exact hD
          · exact l16.there a ((upd_ne (H := w6.H) (o := HO.lst (accv ++ [v])) ea).symm.trans ha)
        show upd w6.H D _ a = _
        rw [upd_ne (ne_of_none ha hD)]
        exact l16.keep a o ha n1 n2
      | false =>
        rw [if_neg Bool.false_ne_true] at h2
        refine iteF ?_
        exact ⟨hlt, w5, s5, acc, accv, ys, rfl, k5, l2.trans l25, st5.1, st5.2.1, st5.2.2, ra.le l25.toSub, Nat.le_succ_of_le hal, h2, htot⟩
    · have e' : i = items.length := by omega
      subst e'
      refine .inl ⟨it2, ?_⟩
      rw [List.drop_length, compL, if_pos gd] at h2
      cases h2
      rw [List.append_nil] at htot
      subst htot
      have kn := k2.new hacc hr hw ra
      refine q (w2.new D) (.ref D) kn (l1.trans (l2.new hD)) (.ref ?_)
      show (w2.r ++ [D])[se.st.length]? = some D
      rw [← k2.len]; simp
  · cases h
theorem q_comp {scope : Scope} {own : List (Str × Nat)} (hc : X.calm = true) (hN : X.N.Nodup) (ok : blkC X.N X.env.scope scope own = true) (hi : QI X tg iter mi)
    (hg : ∀ (s : Shared) (H : Hp) (C : Addr) (cl : List (Str × Addr)) (fp : List Addr), QGw (X.blk s H scope (compEnvC scope cl C X.env) fp) (own.map (·.2)) tg gm) (ht : ∀ (s : Shared) (H : Hp) (C : Addr) (cl : List (Str × Addr)) (fp : List Addr), QTs (X.blk s H scope (compEnvC scope cl C X.env) fp) ifs mt)
    (he : ∀ (s : Shared) (H : Hp) (C : Addr) (cl : List (Str × Addr)) (fp : List Addr), QE (X.blk s H scope (compEnvC scope cl C X.env) fp) elt me) (hs : ∀ x, foldedSetIterable iter X.env x = pure x := by intro _; rfl) :
    QE X (.ListComp elt [⟨tg, iter, ifs, 0⟩] scope pos) (eComp (own.map (·.2)) mi gm mt me) := pe_mono (pe_lc hc hN hi (blkOk_by ok) hg ht he hs) lo_comp
theorem qs_setLc {i : Nat} {y : Str} {py spos : Pos} {scope : Scope} {own : List (Str × Nat)} (hc : X.calm = true) (hN : X.N.Nodup) (hsw : swapsWith (.ListComp elt [⟨tg, iter, ifs, 0⟩] scope pos) (some (.Name y py)) spos.line X.env = pure true) (ok : blkC X.N X.env.scope scope own = true) (hi : QI X tg iter mi)
    (hg : ∀ (s : Shared) (H : Hp) (C : Addr) (cl : List (Str × Addr)) (fp : List Addr), QGw (X.blk s H scope (compEnvC scope cl C X.env) fp) (own.map (·.2)) tg gm) (ht : ∀ (s : Shared) (H : Hp) (C : Addr) (cl : List (Str × Addr)) (fp : List Addr), QTs (X.blk s H scope (compEnvC scope cl C X.env) fp) ifs mt)
    (he : ∀ (s : Shared) (H : Hp) (C : Addr) (cl : List (Str × Addr)) (fp : List Addr), QE (X.blk s H scope (compEnvC scope cl C X.env) fp) elt me) (hy : X.N[i]? = some y := by rfl) (hyl : X.env.scope.names.lookup y = some .local := by rfl) (hs : ∀ x, foldedSetIterable iter X.env x = pure x := by intro _; rfl) :
    QS X (.Assign [.Name y py] (.ListComp elt [⟨tg, iter, ifs, 0⟩] scope pos) spos) (sSet i (eComp (own.map (·.2)) mi gm mt me)) := ps_mono (ps_setLc hc hN hy hyl hsw hi (blkOk_by ok) hg ht he hs) fun D σ H ⟨w, env, s, o, s', e, k, ek, h, q⟩ => by
  obtain ⟨d, s1, h1, h⟩ := bnd_eq h
  cases h
  exact lo_comp σ H _ ⟨w, env, s, d, s', e, k, ek, h1, fun w1 v k1 l1 r1 => q w1 _ k1 l1 ((ek.le l1.toSub).set i r1)⟩
end

/-! ### isinstance -/
inductive Ty where
  | int | bool | tuple | str
def Ty.name : Ty → String
  | .int => "int" | .bool => "bool" | .tuple => "tuple" | .str => "str"
def dIsi : Ty → D → Bool
  | .int, .int _ => true
  | .int, .bl _ => true
  | .bool, .bl _ => true
  | .tuple, .tup _ => true
  | .str, .str _ => true
  | _, _ => false
def dTyName : D → String
  | .non => "NoneType" | .bl _ => "bool" | .int _ => "int" | .str _ => "str" | .tup _ => "tuple" | .ref _ => "list" | .seat => "list"
theorem RV.tyOf {K : PySem.W.Frag} {w : Wd} {s : MS} (k : WOk w s) {d : D} {v : V} (r : RV w d v) : TyOf K w.H v (.type (dTyName d)) := by
  cases r with
  | non => exact .non
  | bl b => exact .bl b
  | int i => exact .int i
  | str x => exact .str x
  | tup h _ => exact .tup h
  | @ref r a h =>
    have hr : r < s.st.length := by rw [← k.len]; exact (List.getElem?_eq_some_iff.mp h).1
    obtain ⟨b, vs, g1, g2, _⟩ := k.lst r _ (List.getElem?_eq_getElem hr)
    rw [h] at g1
    cases g1
    exact .lst g2
  | @seat a h =>
    have hs := k.seat
    cases e : s.seat with
    | none =>
      rw [e] at hs
      have hs : w.w = [] := hs
      rw [hs] at h
      cases h
    | some q =>
      obtain ⟨gs, mix⟩ := q
      rw [e] at hs
      obtain ⟨b, g, h1, h2, _⟩ := hs
      rw [h1] at h
      cases h
      exact .lst h2
def kitTab : List (String × Ty × Bool) := [("NoneType", .int, false), ("NoneType", .bool, false), ("NoneType", .tuple, false), ("NoneType", .str, false), ("bool", .int, true), ("bool", .bool, true), ("bool", .tuple, false), ("bool", .str, false),
  ("int", .int, true), ("int", .bool, false), ("int", .tuple, false), ("int", .str, false), ("str", .int, false), ("str", .bool, false), ("str", .tuple, false), ("str", .str, true),
  ("tuple", .int, false), ("tuple", .bool, false), ("tuple", .tuple, true), ("tuple", .str, false), ("list", .int, false), ("list", .bool, false), ("list", .tuple, false), ("list", .str, false)]
theorem kitTab_ok : (kitTab.all fun p => decide (kitB p.1 p.2.1.name = some p.2.2)) = true := by decide +kernel
theorem kit_row {a : String} {t : Ty} {b : Bool} (h : (a, t, b) ∈ kitTab) {K : PySem.W.Frag} : PySem.W.kitOne K (.type a) (.type t.name) = some b :=
  kit_ty (of_decide_eq_true (List.all_eq_true.mp kitTab_ok _ h))
theorem kit_isi (t : Ty) (d : D) {K : PySem.W.Frag} : PySem.W.kitOne K (.type (dTyName d)) (.type t.name) = some (dIsi t d) := by
  cases d <;> cases t <;> exact kit_row (by simp [kitTab, dTyName, dIsi])
section
variable {X : Cx} {a : Expr} {ma : EM} {p p2 pos : Pos}
theorem q_isi (t : Ty) {x : Str} (hm : X.mg "isinstance" = none) (hmt : X.mg x = none) (hb : bootBuiltins x = some (.type t.name)) (ha : QE X a ma) (hg : Gl X "isinstance" := by rfl) (hgt : Gl X x := by rfl)
    (hn : x ≠ "__name__" := by decide) (hd : (x == ("__debug__" : Str)) = false := by decide)
    (he : starEach [a, .Name x p2] X.env = (false, eval a X.env) :: starEach [.Name x p2] X.env := by rfl) (he2 : starEach [.Name x p2] X.env = (false, eval (.Name x p2) X.env) :: starEach [] X.env := by rfl) (hpl : (backTo pos (starEach [.Name x p2] X.env)).any (·.1) = false := by rfl) :
    QE X (.Call (.Name "isinstance" p) [a, .Name x p2] [] pos) (e1 (fun d => some (.bl (dIsi t d))) ma) := by
  refine pe_mono (pe_callB call_isi hg hm (by decide +kernel) (pa_cons ha (pa_cons (pe_bltn (v := .ty t.name) hgt hmt hb rfl hn hd) pa_nil he2) he) (by decide) (by decide) he hpl) fun σ H Q ⟨w, env, s, d, s', e, k, ek, h, q⟩ => ?_
  obtain ⟨y, s1, h1, h⟩ := bnd_eq h
  obtain ⟨h3, rfl⟩ := ret_eq h
  cases h3
  refine ⟨w, env, s, y, s', e, k, ek, h1, fun w1 v k1 l1 r1 => ?_⟩
  exact ⟨v, _, _, _, _, rfl, .ty _, .base (r1.tyOf k1), kit_isi t y, q w1 _ k1 l1 (.bl _)⟩
end

/-! ### x in a tuple of ints -/
def dIn : D → D → Option D
  | .int i, .tup ds => match asInts ds with
    | some is => some (.bl (is.any fun j => j == i))
    | none => none
  | _, _ => none
theorem inV_ints (i : Int) : ∀ is : List Int, inV (.int i) (is.map V.int) = is.any fun j => j == i
  | [] => rfl
  | j :: is => by
    have ih := inV_ints i is
    unfold inV at ih ⊢
    rw [List.map_cons, List.any_cons, List.any_cons, ih]
    rfl
theorem flat_ints : ∀ is : List Int, (is.map V.int).all flatV = true
  | [] => rfl
  | j :: is => by rw [List.map_cons, List.all_cons, flat_ints is]; rfl
theorem r_in {K : PySem.W.Frag} : R2ok (rIn K false) dIn := fun w s x y vx vy z Q k rx ry h q => by
  unfold dIn at h
  split at h
  · split at h
    · rename_i is hi
      cases h
      cases rx
      cases ry with
      | tup ha rs =>
        rw [asInts_eq hi] at rs
        cases rs.ints
        refine ⟨_, _, rfl, .inr (SqT.of ha), rfl, flat_ints is, ?_⟩
        rw [if_neg Bool.false_ne_true, inV_ints]
        exact q _ (.bl _)
    · cases h
  · cases h
theorem q_in {X : Cx} {a b : Expr} {ma mb : EM} {pos : Pos} (ha : QE X a ma) (hb : QE X b mb) (hm : behindInMarks .In b = false := by first | rfl | with_unfolding_all rfl) : QE X (.Compare a [.In] [b] pos) (e2 dIn ma mb) := q_cmp op_in_seq r_in ha hb hm
theorem qt_in {X : Cx} {a b : Expr} {ma mb : EM} {pos : Pos} (ha : QE X a ma) (hb : QE X b mb) (hm : behindInMarks .In b = false := by first | rfl | with_unfolding_all rfl) : QT X (.Compare a [.In] [b] pos) (tOf (e2 dIn ma mb)) := qt_cmp op_in_seq r_in ha hb hm
/-- a list's truth -/
def tLst' (m : EM) : TM := fun env s => bnd (m env s) fun d s1 => match d with
  | .ref r => match s1.st[r]? with
    | some xs => some (!xs.isEmpty, s1)
    | none => none
  | _ => none
theorem qt_lst {X : Cx} {a : Expr} {ma : EM} (ha : QE X a ma) (he : ∀ whole, isTrue a X.env whole = (do let v ← whole; standAt a.pos; holding [v] (truthy v)) := by intro _; rfl) : QT X a (tLst' ma) := pt_mono (pt_truth ha he) fun σ H Q ⟨w, env, s, b, s', e, k, ek, h, q⟩ => by
  obtain ⟨d, s1, h1, h⟩ := bnd_eq h
  cases d with
  | ref r =>
    simp only at h
    split at h
    · rename_i xs hx
      cases h
      refine ⟨w, env, s, _, s', e, k, ek, h1, fun w1 v k1 l1 r1 => ?_⟩
      obtain ⟨a, vs, rfl, g1, g2, g3⟩ := r1.list k1 hx
      refine ⟨!xs.isEmpty, .inl ⟨vs, SqL.of g2, ?_⟩, q w1 k1 l1⟩
      have hl := g3.length
      cases xs <;> cases vs <;> simp at hl ⊢
    · cases h
  | _ => cases h
/-- a < b < c, ints -/
def eChain (f f' : Int → Int → Bool) (a b c : EM) : EM := fun env s => bnd (a env s) fun x s1 => bnd (b env s1) fun y s2 => match x, y with
  | .int i, .int j => if f i j = true then bnd (c env s2) (fun z s3 => match z with
      | .int l => some (.bl (f' j l), s3)
      | _ => none) else some (.bl false, s2)
  | _, _ => none
theorem q_chain {X : Cx} {op op' : CmpOp} {f f' : Int → Int → Bool} {a b c : Expr} {ma mb mc : EM} {pos : Pos} (ho : OpR X (compareOp op) (rI0 fun i j => .bl (f i j))) (ho' : OpR X (compareOp op') (rI0 fun i j => .bl (f' i j))) (ha : QE X a ma) (hb : QE X b mb) (hc : QE X c mc)
    (hm : lastMarks [op, op'] [b, c] = false := by with_unfolding_all rfl) : QE X (.Compare a [op, op'] [b, c] pos) (eChain f f' ma mb mc) := pe_mono (pe_chain ho ho' ha hb hc hm) fun σ H Q ⟨w, env, s, d, s', e, k, ek, h, q⟩ => by
  obtain ⟨x, s1, h1, h⟩ := bnd_eq h
  obtain ⟨y, s2, h2, h⟩ := bnd_eq h
  refine ⟨w, env, s, x, s1, e, k, ek, h1, fun w1 vx k1 l1 r1 => ?_⟩
  refine ⟨w1, env, s1, y, s2, rfl, k1, ek.le l1.toSub, h2, fun w2 vy k2 l2 r2 => ?_⟩
  cases x with
  | int i => cases y with
    | int j =>
      cases r1.le l2.toSub
      cases r2
      have h : (if f i j = true then bnd (mc env s2) (fun z s3 => match z with
        | .int l => some (.bl (f' j l), s3)
        | _ => none) else some (.bl false, s2)) = some (d, s') := h
      refine ⟨i, j, rfl, rfl, _, rfl, ?_⟩
      by_cases hf : f i j = true
      · rw [if_pos hf] at h ⊢
        obtain ⟨z, s3, h3, h⟩ := bnd_eq h
        refine ⟨w2, env, s2, z, s3, rfl, k2, ek.le (l1.trans l2).toSub, h3, fun w3 vz k3 l3 r3 => ?_⟩
        cases z with
        | int l =>
          cases h
          cases r3
          exact ⟨j, l, rfl, rfl, q w3 _ k3 ((l1.trans l2).trans l3) (.bl _)⟩
        | _ => cases h
      · rw [if_neg hf] at h ⊢
        cases h
        exact q w2 _ k2 (l1.trans l2) (.bl _)
    | _ => cases h
  | _ => cases h
end Mir
/-! ## MirE -/
set_option maxHeartbeats 200000
set_option Elab.async false
set_option linter.all false
set_option maxRecDepth 100000
/-! Data: defs and their calls. -/
namespace Mir
open PySem PySem.Spec PyProof.Rows L2

abbrev MF := List D → MS → Option (D × MS)
def spM (F : MF) : Sp := fun vs H Q _ => ∃ (w : Wd) (ds : List D) (s : MS) (d : D) (s' : MS), w.H = H ∧ WOk w s ∧ RVs w ds vs ∧ F ds s = some (d, s') ∧ ∀ w' v, WOk w' s' → Le w w' → RV w' d v → Q v w'.H
/-- a def's body as a function of the arguments: n parameters, m names -/
def runDef (n m : Nat) (body : SM) : MF := fun ds s => if ds.length = n then bnd (body (ds.map some ++ List.replicate (m - n) none) s) (fun o s' => match o with
    | .rt d => some (d, s')
    | .nx _ => some (.non, s')) else none
theorem eok_start {w : Wd} {ds : List D} {vs : List V} {N : List Str} (r : RVs w ds vs) : EOk w (ds.map some ++ List.replicate (N.length - ds.length) none) (L2.start N vs) := by
  have hl := r.length
  refine ⟨by unfold L2.start; simp [hl], fun i d h => ?_⟩
  by_cases hi : i < ds.length
  · rw [List.getElem?_append_left (by simpa using hi), List.getElem?_map] at h
    cases e : ds[i]? with
    | none => rw [e] at h; cases h
    | some d' =>
      rw [e] at h
      cases h
      obtain ⟨v, g1, g2⟩ := r.get e
      refine ⟨v, ?_, g2⟩
      unfold L2.start
      rw [List.getElem?_append_left (by simp; omega), List.getElem?_map, g1]
      rfl
  · rw [List.getElem?_append_right (by simpa using hi), List.getElem?_replicate] at h
    split at h <;> cases h
section
variable {P : Program} {w : World} {K : PySem.W.Frag} {mg : Str → Option Value} {base : Heap}
theorem qdef {x qual : Str} {st : Stmt} {f : Addr} {fd : FuncData} {N ps : List Str} {k : Nat} {body : SM} (F : Fun K x qual st f fd) (S : FnScope N ps (defScope st))
    (hb : ∀ (cdv : Value) (A : Around) (outer : List PySem.Env) (s : Shared) (H : Hp) (E : XK), Room k (A.deeper (envOfC qual (defScope st) s.heap.objs.size f cdv)) → QSs (cxOf CX0 P w K mg base N qual (defScope st) f cdv A outer s H E).nox (defBody st) body) :
    FnOk P w K mg base CX0 (k + 1) f fd ps (spM (runDef ps.length N.length body)) := by
  refine F.ok S (fun vs H Q E h => ?_) (fun cdv A outer s H vs Q E hr h => ⟨_, hb cdv A outer s H E hr, ?_⟩)
  · obtain ⟨w, ds, s, d, s', e, k, r, h, q⟩ := h
    unfold runDef at h
    split at h
    · rename_i hl
      rw [← r.length, hl]
    · cases h
  · obtain ⟨w, ds, s, d, s', e, k, r, h, q⟩ := h
    unfold runDef at h
    split at h
    · rename_i hl
      obtain ⟨o, s1, h1, h⟩ := bnd_eq h
      refine ⟨w, ds.map some ++ List.replicate (N.length - ps.length) none, s, o, s1, e, k, by rw [← hl]; exact eok_start r, h1, ?_⟩
      cases o with
      | nx env' =>
        cases h
        exact fun w1 σ1 k1 l1 ek1 => q w1 .non k1 l1 .non
      | rt d' =>
        cases h
        exact q
    · cases h
/-- what a caller must know of a def: it stands, under the module's name x -/
structure Cal (P : Program) (w : World) (K : PySem.W.Frag) (mg : Str → Option Value) (base : Heap) (x : Str) (n k : Nat) (F : MF) : Prop where
  ex : ∃ (f : Addr) (fd : FuncData) (ps : List Str), ps.length = n ∧ FnOk P w K mg base CX0 k f fd ps (spM F) ∧ Binds K fd ps [] ∧ mg x = some (.ref f) ∧ PySem.W.keepIn K (.ref f) = true
theorem Cal.mono {x : Str} {n j k : Nat} {F : MF} (c : Cal P w K mg base x n j F) (h : j ≤ k) : Cal P w K mg base x n k F := by
  obtain ⟨f, fd, ps, hl, F, B, g, kp⟩ := c.ex
  exact ⟨f, fd, ps, hl, F.mono h, B, g, kp⟩
end

/-! ### data without lists -/
mutual
def D.noref : D → Bool
  | .tup l => D.norefs l
  | .ref _ => false
  | .seat => false
  | _ => true
def D.norefs : List D → Bool
  | [] => true
  | d :: ds => D.noref d && D.norefs ds
end
mutual
def D.shift (n : Nat) : D → D
  | .tup l => .tup (D.shifts n l)
  | .ref r => .ref (n + r)
  | .non => .non
  | .bl b => .bl b
  | .int i => .int i
  | .str x => .str x
  | .seat => .seat
def D.shifts (n : Nat) : List D → List D
  | [] => []
  | d :: ds => D.shift n d :: D.shifts n ds
end
mutual
def D.und (n : Nat) : D → Bool
  | .tup l => D.unds n l
  | .ref r => decide (r < n)
  | _ => true
def D.unds (n : Nat) : List D → Bool
  | [] => true
  | d :: ds => D.und n d && D.unds n ds
end
mutual
theorem RV.nr {w w' : Wd} (t : ∀ a xs, w.H a = some (.tup xs) → w'.H a = some (.tup xs)) : ∀ {d : D} {v : V}, RV w d v → d.noref = true → RV w' d v
  | _, _, .non, _ => .non
  | _, _, .bl b, _ => .bl b
  | _, _, .int i, _ => .int i
  | _, _, .str x, _ => .str x
  | _, _, .tup h r, e => .tup (t _ _ h) (RVs.nr t r (by simpa [D.noref] using e))
  | _, _, .ref h, e => by simp [D.noref] at e
  | _, _, .seat h, e => by simp [D.noref] at e
theorem RVs.nr {w w' : Wd} (t : ∀ a xs, w.H a = some (.tup xs) → w'.H a = some (.tup xs)) : ∀ {ds : List D} {vs : List V}, RVs w ds vs → D.norefs ds = true → RVs w' ds vs
  | _, _, .nil, _ => .nil
  | _, _, .cons h r, e => by
    rw [D.norefs, Bool.and_eq_true] at e
    exact .cons (RV.nr t h e.1) (RVs.nr t r e.2)
end
mutual
theorem RV.shift {w w' : Wd} {n : Nat} (t : ∀ a xs, w.H a = some (.tup xs) → w'.H a = some (.tup xs)) (hr : ∀ i a, w.r[i]? = some a → w'.r[n + i]? = some a) (hw : w.w = []) : ∀ {d : D} {v : V}, RV w d v → RV w' (d.shift n) v
  | _, _, .non => by rw [D.shift]; exact .non
  | _, _, .bl b => by rw [D.shift]; exact .bl b
  | _, _, .int i => by rw [D.shift]; exact .int i
  | _, _, .str x => by rw [D.shift]; exact .str x
  | _, _, .tup h r => by rw [D.shift]; exact .tup (t _ _ h) (RVs.shift t hr hw r)
  | _, _, .ref h => by rw [D.shift]; exact .ref (hr _ _ h)
  | _, _, .seat h => by rw [hw] at h; cases h
theorem RVs.shift {w w' : Wd} {n : Nat} (t : ∀ a xs, w.H a = some (.tup xs) → w'.H a = some (.tup xs)) (hr : ∀ i a, w.r[i]? = some a → w'.r[n + i]? = some a) (hw : w.w = []) : ∀ {ds : List D} {vs : List V}, RVs w ds vs → RVs w' (D.shifts n ds) vs
  | _, _, .nil => by rw [D.shifts]; exact .nil
  | _, _, .cons h r => by rw [D.shifts]; exact .cons (RV.shift t hr hw h) (RVs.shift t hr hw r)
end
mutual
theorem RV.cut {w w' : Wd} {n : Nat} (t : ∀ a xs, w.H a = some (.tup xs) → w'.H a = some (.tup xs)) (hr : ∀ i a, i < n → w.r[i]? = some a → w'.r[i]? = some a) (hw : w'.w.head? = w.w.head?) : ∀ {d : D} {v : V}, RV w d v → d.und n = true → RV w' d v
  | _, _, .non, _ => .non
  | _, _, .bl b, _ => .bl b
  | _, _, .int i, _ => .int i
  | _, _, .str x, _ => .str x
  | _, _, .tup h r, e => .tup (t _ _ h) (RVs.cut t hr hw r (by simpa [D.und] using e))
  | _, _, .ref h, e => .ref (hr _ _ (by simpa [D.und] using e) h)
  | _, _, .seat h, _ => .seat (by rw [hw]; exact h)
theorem RVs.cut {w w' : Wd} {n : Nat} (t : ∀ a xs, w.H a = some (.tup xs) → w'.H a = some (.tup xs)) (hr : ∀ i a, i < n → w.r[i]? = some a → w'.r[i]? = some a) (hw : w'.w.head? = w.w.head?) : ∀ {ds : List D} {vs : List V}, RVs w ds vs → D.unds n ds = true → RVs w' ds vs
  | _, _, .nil, _ => .nil
  | _, _, .cons h r, e => by
    rw [D.unds, Bool.and_eq_true] at e
    exact .cons (RV.cut t hr hw h e.1) (RVs.cut t hr hw r e.2)
end
mutual
theorem RV.und {w : Wd} : ∀ {d : D} {v : V}, RV w d v → d.und w.r.length = true
  | _, _, .non => rfl
  | _, _, .bl b => rfl
  | _, _, .int i => rfl
  | _, _, .str x => rfl
  | _, _, .tup h r => by rw [D.und]; exact RVs.und r
  | _, _, .ref h => by rw [D.und]; exact decide_eq_true (List.getElem?_eq_some_iff.mp h).1
  | _, _, .seat h => rfl
theorem RVs.und {w : Wd} : ∀ {ds : List D} {vs : List V}, RVs w ds vs → D.unds w.r.length ds = true
  | _, _, .nil => rfl
  | _, _, .cons h r => by rw [D.unds, RV.und h, RVs.und r]; rfl
end

/-! ### a call in a world of its own: the arguments bear no list -/
def MS0 : MS := ⟨none, []⟩
def callN (F : MF) : MF := fun ds s => if D.norefs ds = true then (match F ds MS0 with
    | some (d, s1) => if d.noref = true then some (d, s) else some (d.shift s.st.length, { s with st := s.st ++ s1.st.map (D.shifts s.st.length) })
    | none => none) else none
theorem callN_ok {F : MF} {w : Wd} {ds : List D} {vs : List V} {s s' : MS} {d : D} {Q : VK} {E : XK} (k : WOk w s) (r : RVs w ds vs) (h : callN F ds s = some (d, s')) (q : ∀ w' v, WOk w' s' → Le w w' → RV w' d v → Q v w'.H) : spM F vs w.H Q E := by
  unfold callN at h
  split at h
  · rename_i hn
    split at h
    · rename_i d1 s1 h1
      refine ⟨⟨w.H, [], []⟩, ds, MS0, d1, s1, rfl, ⟨rfl, List.nodup_nil, fun i xs e => (by simp [MS0] at e), rfl⟩, RVs.nr (w := w) (w' := ⟨w.H, [], []⟩) (fun _ _ h => h) r hn, h1, fun w1 v k1 l1 r1 => ?_⟩
      have keep : ∀ a o, w.H a = some o → w1.H a = some o := fun a o ha => l1.keep a o ha (by simp) (by simp)
      have fresh : ∀ a, a ∈ w1.r → w.H a = none := fun a ha => by
        rcases l1.own a (.inl ha) with (z | z) | z
        · cases z
        · cases z
        · exact z
      have hw1 : w1.w = [] := by
        have := l1.head
        cases e : w1.w with
        | nil => rfl
        | cons a t => rw [e] at this; cases this
      -- the old world with the new heap
      have sub : Sub w ⟨w1.H, w.r, w.w⟩ := ⟨fun a xs h => keep a _ h, ⟨[], by simp⟩, rfl⟩
      have old : WOk ⟨w1.H, w.r, w.w⟩ s := k.keep ⟨sub, fun a o h _ _ => keep a o h, fun a h => l1.there a h, fun _ h => .inl h, fun _ h => .inl h⟩ rfl rfl fun a ha => by
        have : ∃ o, w.H a = some o := by
          rcases ha with ha | ha
          · obtain ⟨i, hi, e⟩ := List.getElem_of_mem ha
            have hi' : i < s.st.length := by rw [← k.len]; exact hi
            obtain ⟨b, us, h1, h2, _⟩ := k.lst i _ (List.getElem?_eq_getElem hi')
            rw [List.getElem?_eq_getElem hi] at h1
            rw [← e, Option.some.inj h1]
            exact ⟨_, h2⟩
          · have hs := k.seat
            cases es : s.seat with
            | none =>
              rw [es] at hs
              have hs : w.w = [] := hs
              rw [hs] at ha; cases ha
            | some p =>
              obtain ⟨gs, mix⟩ := p
              rw [es] at hs
              obtain ⟨b, g, h1, h2, h3⟩ := hs
              rw [h1] at ha
              rcases List.mem_cons.mp ha with rfl | ha
              · exact ⟨_, h2⟩
              · have : a = g := by simpa using ha
                subst this
                exact ⟨_, h3⟩
        obtain ⟨o, ho⟩ := this
        show w1.H a = w.H a
        rw [ho, keep a o ho]
      split at h
      · rename_i hd
        cases h
        exact q ⟨w1.H, w.r, w.w⟩ v old ⟨sub, fun a o h _ _ => keep a o h, fun a h => l1.there a h, fun _ h => .inl h, fun _ h => .inl h⟩ (RV.nr (w := w1) (w' := ⟨w1.H, w.r, w.w⟩) (fun _ _ h => h) r1 hd)
      · cases h
        have hr : ∀ i a, w1.r[i]? = some a → (w.r ++ w1.r)[s.st.length + i]? = some a := fun i a ha => by
          rw [List.getElem?_append_right (by rw [k.len]; omega), k.len, Nat.add_sub_cancel_left]
          exact ha
        have tupk : ∀ a xs, w1.H a = some (.tup xs) → (⟨w1.H, w.r ++ w1.r, w.w⟩ : Wd).H a = some (.tup xs) := fun _ _ h => h
        have sub2 : Sub ⟨w1.H, w.r, w.w⟩ ⟨w1.H, w.r ++ w1.r, w.w⟩ := ⟨fun _ _ h => h, ⟨w1.r, rfl⟩, rfl⟩
        refine q ⟨w1.H, w.r ++ w1.r, w.w⟩ v ⟨?_, ?_, fun i xs e => ?_, old.seat⟩ ⟨⟨fun a xs h => keep a _ h, ⟨w1.r, rfl⟩, rfl⟩, fun a o h _ _ => keep a o h, fun a h => l1.there a h, fun a ha => ?_, fun _ h => .inl h⟩ (r1.shift (w' := ⟨w1.H, w.r ++ w1.r, w.w⟩) tupk hr hw1)
        · show (w.r ++ w1.r).length = (s.st ++ s1.st.map _).length
          rw [List.length_append, List.length_append, List.length_map, k.len, k1.len]
        · show (w.w ++ (w.r ++ w1.r)).Nodup
          rw [← List.append_assoc, List.nodup_append]
          have nd1 : w1.r.Nodup := (List.nodup_append.mp k1.nd).2.1
          refine ⟨k.nd, nd1, fun a ha b hb => ?_⟩
          rintro rfl
          have f := k.fresh (fresh a hb)
          rcases List.mem_append.mp ha with z | z
          · exact f.2 z
          · exact f.1 z
        · have e' : (s.st ++ s1.st.map (D.shifts s.st.length))[i]? = some xs := e
          by_cases hi : i < s.st.length
          · rw [List.getElem?_append_left hi] at e'
            obtain ⟨a, us, g1, g2, g3⟩ := old.lst i xs e'
            exact ⟨a, us, sub2.ix g1, g2, g3.le sub2⟩
          · rw [List.getElem?_append_right (by omega), List.getElem?_map] at e'
            cases e2 : s1.st[i - s.st.length]? with
            | none => rw [e2] at e'; cases e'
            | some ys =>
              rw [e2] at e'
              cases e'
              obtain ⟨a, us, g1, g2, g3⟩ := k1.lst _ ys e2
              refine ⟨a, us, ?_, g2, g3.shift tupk hr hw1⟩
              have := hr _ a g1
              rw [Nat.add_sub_cancel' (by omega)] at this
              exact this
        · rcases List.mem_append.mp ha with z | z
          · exact .inl z
          · exact .inr (fresh a z)
    · cases h
  · cases h

/-! ### a call in this world: what it leaves behind but its answer is forgotten -/
def trim (s : MS) (d : D) (s2 : MS) : Option (D × MS) := if s2.st.take s.st.length = s.st then (if d.und s.st.length = true then some (d, { s2 with st := s.st }) else (match d with
    | .ref r => (match s2.st[r]? with
      | some xs => if D.unds s.st.length xs = true then some (.ref s.st.length, { s2 with st := s.st ++ [xs] }) else none
      | none => none)
    | _ => none)) else none
def callF (F : MF) : MF := fun ds s => match F ds s with
  | some (d, s2) => trim s d s2
  | none => none
/-- the first n lists of a world -/
theorem WOk.cut {w w2 : Wd} {s s2 : MS} (k : WOk w s) (l : Le w w2) (k2 : WOk w2 s2) (h : s2.st.take s.st.length = s.st) : WOk ⟨w2.H, w.r, w2.w⟩ { s2 with st := s.st } ∧ Le w ⟨w2.H, w.r, w2.w⟩ := by
  obtain ⟨more, em⟩ := l.pre
  refine ⟨⟨k.len, ?_, fun i xs e => ?_, k2.seat⟩, ⟨⟨l.tups, ⟨[], by simp⟩, l.head⟩, l.keep, l.there, fun a ha => .inl ha, l.ownW⟩⟩
  · have nd := k2.nd
    rw [em, ← List.append_assoc] at nd
    exact (List.nodup_append.mp nd).1
  · have e0 : s.st[i]? = some xs := e
    have hi : i < s.st.length := (List.getElem?_eq_some_iff.mp e0).1
    have e2 : s2.st[i]? = some xs := by
      rw [← h, List.getElem?_take_of_lt hi] at e0
      exact e0
    obtain ⟨a, vs, g1, g2, g3⟩ := k2.lst i xs e2
    obtain ⟨a0, vs0, f1, _, f3⟩ := k.lst i xs e0
    rw [l.ix f1] at g1
    cases g1
    refine ⟨_, vs, f1, g2, g3.cut (w := w2) (w' := ⟨w2.H, w.r, w2.w⟩) (n := w.r.length) (fun _ _ h => h) (fun j b hj hb => ?_) rfl f3.und⟩
    rw [em, List.getElem?_append_left hj] at hb
    exact hb
theorem callF_ok {F : MF} {w : Wd} {ds : List D} {vs : List V} {s s' : MS} {d : D} {Q : VK} {E : XK} (k : WOk w s) (r : RVs w ds vs) (h : callF F ds s = some (d, s')) (q : ∀ w' v, WOk w' s' → Le w w' → RV w' d v → Q v w'.H) : spM F vs w.H Q E := by
  unfold callF at h
  split at h
  · rename_i d2 s2 h2
    refine ⟨w, ds, s, d2, s2, rfl, k, r, h2, fun w2 v k2 l2 r2 => ?_⟩
    unfold trim at h
    split at h
    · rename_i ht
      obtain ⟨k3, l3⟩ := k.cut l2 k2 ht
      obtain ⟨more, em⟩ := l2.pre
      have ix : ∀ j b, j < w.r.length → w2.r[j]? = some b → w.r[j]? = some b := fun j b hj hb => by
        rw [em, List.getElem?_append_left hj] at hb
        exact hb
      split at h
      · rename_i hb
        cases h
        exact q ⟨w2.H, w.r, w2.w⟩ v k3 l3 (r2.cut (w := w2) (w' := ⟨w2.H, w.r, w2.w⟩) (n := w.r.length) (fun _ _ h => h) ix rfl (by rw [k.len]; exact hb))
      · rename_i hb
        cases d2 with
        | ref r0 =>
          simp only at h
          split at h
          · rename_i xs hx
            split at h
            · rename_i hxs
              cases h
              obtain ⟨a, us, rfl, g1, g2, g3⟩ := r2.list k2 hx
              have hr0 : ¬ r0 < w.r.length := fun z => hb (by rw [D.und, ← k.len]; exact decide_eq_true z)
              have anr : a ∉ w.r := fun z => by
                obtain ⟨j, hj, e⟩ := List.getElem_of_mem z
                have e2 : w2.r[j]? = some a := by rw [em, List.getElem?_append_left hj, List.getElem?_eq_getElem hj, e]
                have nd2 : w2.r.Nodup := (List.nodup_append.mp k2.nd).2.1
                exact hr0 (by rw [nd_ix nd2 g1 e2]; exact hj)
              have anw : a ∉ w2.w := fun z => (List.nodup_append.mp k2.nd).2.2 a z a (List.mem_of_getElem? g1) rfl
              have g4 : RVs ⟨w2.H, w.r, w2.w⟩ xs us := g3.cut (w := w2) (w' := ⟨w2.H, w.r, w2.w⟩) (n := w.r.length) (fun _ _ h => h) ix rfl (by rw [k.len]; exact hxs)
              have kn := k3.new (p := a) (xs := xs) (vs := us) g2 anr anw g4
              have ha : w.H a = none := by
                rcases l2.ownR a (List.mem_of_getElem? g1) with z | z
                · exact absurd z anr
                · exact z
              exact q ((⟨w2.H, w.r, w2.w⟩ : Wd).new a) (.ref a) kn (l3.new ha) (.ref (by show (w.r ++ [a])[s.st.length]? = _; rw [← k.len]; simp))
            · cases h
          · cases h
        | _ => cases h
    · cases h
  · cases h
end Mir
/-! ## MirF -/
set_option maxHeartbeats 200000
set_option Elab.async false
set_option linter.all false
set_option maxRecDepth 100000
/-! Data: the calls' rules; a, b = x, y; sums. -/
namespace Mir
open PySem PySem.Spec PyProof.Rows L2

section
variable {X : Cx} {x : Str} {n k : Nat} {F : MF} {p pos : Pos} {e : Expr} {es : List Expr} {ma : AM}
theorem q_callN (c : Cal X.prog X.w X.K X.mg X.base x n k F) (hr : Room k X.A) (ha : QA X (e :: es) ma) (hg : Gl X x := by rfl) (hdb : (x == ("__debug__" : Str)) = false := by decide)
    (he : starEach (e :: es) X.env = (false, eval e X.env) :: starEach es X.env := by rfl) (hpl : (backTo pos (starEach es X.env)).any (·.1) = false := by rfl) : QE X (.Call (.Name x p) (e :: es) [] pos) (eCB (callN F) ma) := by
  obtain ⟨f, fd, ps, hl, FF, B, g, kp⟩ := c.ex
  refine pe_mono (pe_call FF hr hg g kp B .nil pass0 ha hdb he hpl) fun σ H Q ⟨w, env, s, d, s', e, k, ek, h, q⟩ => ?_
  obtain ⟨ds, s1, h1, h⟩ := bnd_eq h
  refine ⟨w, env, s, ds, s1, e, k, ek, h1, fun w1 vs k1 l1 r1 => ?_⟩
  dsimp only
  rw [List.append_nil]
  exact callN_ok k1 r1 h fun w2 v k2 l2 r2 => q w2 v k2 (l1.trans l2) r2
theorem q_callF (c : Cal X.prog X.w X.K X.mg X.base x n k F) (hr : Room k X.A) (ha : QA X (e :: es) ma) (hg : Gl X x := by rfl) (hdb : (x == ("__debug__" : Str)) = false := by decide)
    (he : starEach (e :: es) X.env = (false, eval e X.env) :: starEach es X.env := by rfl) (hpl : (backTo pos (starEach es X.env)).any (·.1) = false := by rfl) : QE X (.Call (.Name x p) (e :: es) [] pos) (eCB (callF F) ma) := by
  obtain ⟨f, fd, ps, hl, FF, B, g, kp⟩ := c.ex
  refine pe_mono (pe_call FF hr hg g kp B .nil pass0 ha hdb he hpl) fun σ H Q ⟨w, env, s, d, s', e, k, ek, h, q⟩ => ?_
  obtain ⟨ds, s1, h1, h⟩ := bnd_eq h
  refine ⟨w, env, s, ds, s1, e, k, ek, h1, fun w1 vs k1 l1 r1 => ?_⟩
  dsimp only
  rw [List.append_nil]
  exact callF_ok k1 r1 h fun w2 v k2 l2 r2 => q w2 v k2 (l1.trans l2) r2
end

section
variable {X : Cx} {x : Str} {n k : Nat} {F : MF} {p pos : Pos} {e : Expr} {es : List Expr} {ma : AM}
/-- a call whose data function is told in this very world -/
theorem q_callM (c : Cal X.prog X.w X.K X.mg X.base x n k F) (hr : Room k X.A) (ha : QA X (e :: es) ma) (hg : Gl X x := by rfl) (hdb : (x == ("__debug__" : Str)) = false := by decide)
    (he : starEach (e :: es) X.env = (false, eval e X.env) :: starEach es X.env := by rfl) (hpl : (backTo pos (starEach es X.env)).any (·.1) = false := by rfl) : QE X (.Call (.Name x p) (e :: es) [] pos) (eCB F ma) := by
  obtain ⟨f, fd, ps, hl, FF, B, g, kp⟩ := c.ex
  refine pe_mono (pe_call FF hr hg g kp B .nil pass0 ha hdb he hpl) fun σ H Q ⟨w, env, s, d, s', e, k, ek, h, q⟩ => ?_
  obtain ⟨ds, s1, h1, h⟩ := bnd_eq h
  refine ⟨w, env, s, ds, s1, e, k, ek, h1, fun w1 vs k1 l1 r1 => ?_⟩
  dsimp only
  rw [List.append_nil]
  exact ⟨w1, ds, s1, d, s', rfl, k1, r1, h, fun w2 v k2 l2 r2 => q w2 v k2 (l1.trans l2) r2⟩
end

/-! ### a, b = x, y -/
def sPar (i j : Nat) (a b : EM) : SM := fun env s => bnd (a env s) fun x s1 => bnd (b env s1) fun y s2 => some (.nx ((env.set i (some x)).set j (some y)), s2)
theorem qs_par {X : Cx} {i j : Nat} {x y : Str} {a b : Expr} {ma mb : EM} {px py pt pos : Pos} {kt k2 pt2} (hc : X.calm = true) (hN : X.N.Nodup) (ha : QE X a ma) (hb : QE X b mb) (hw : swappedStores [.Tuple [.Name x px, .Name y py] kt pt] (.Tuple [a, b] k2 pt2) X.env = pure (some [x, y]))
    (hij : i ≠ j) (hi : X.N[i]? = some x := by rfl) (hj : X.N[j]? = some y := by rfl) (hx : X.env.scope.names.lookup x = some .local := by rfl) (hy : X.env.scope.names.lookup y = some .local := by rfl)
    (hs : swapsWithSole [.Tuple [.Name x px, .Name y py] kt pt] (.Tuple [a, b] k2 pt2) pos.line X.env = pure false := by rfl)
    (he : starEach [a, b] X.env = (false, eval a X.env) :: starEach [b] X.env := by rfl) (he2 : starEach [b] X.env = (false, eval b X.env) :: starEach [] X.env := by rfl) :
    QS X (.Assign [.Tuple [.Name x px, .Name y py] kt pt] (.Tuple [a, b] k2 pt2) pos) (sPar i j ma mb) :=
  ps_mono (ps_par hc hN hi hj hij hx hy (qa_cons ha (qa_cons hb qa_nil he2) he) hw hs) fun D σ H ⟨w, env, s, o, s', e, k, ek, h, q⟩ => by
    obtain ⟨u, s1, h1, h⟩ := bnd_eq h
    obtain ⟨v, s2, h2, h⟩ := bnd_eq h
    cases h
    refine ⟨w, env, s, [u, v], s', e, k, ek, ?_, fun w1 vs k1 l1 r1 => ?_⟩
    · show bnd (ma env s) _ = _
      rw [h1]
      show bnd (bnd (mb env s1) _) _ = _
      rw [h2]
      rfl
    · obtain ⟨vu, vv, rfl, r2, r3⟩ := r1.two
      exact ⟨vu, vv, rfl, q w1 _ k1 l1 (((ek.le l1.toSub).set i r2).set j r3)⟩

/-! ### two ints' least -/
def fMin2 : CM
  | [.int i, .int j], s => some (.int (if j < i then j else i), s)
  | _, _ => none
theorem cb_min2 : CBok (fun xs H Q => ∃ i j, xs = [.int i, .int j] ∧ Q (.int (if j < i then j else i)) H) fMin2 := fun w s ds vs z s' Q k r h q => by
  unfold fMin2 at h
  split at h
  · cases h
    obtain ⟨v, u, rfl, rv, ru⟩ := r.two
    cases rv; cases ru
    exact ⟨_, _, rfl, q w _ k (Le.refl w) (.int _)⟩
  · cases h
def fSumL : CM
  | [.ref r], s => match s.st[r]? with
    | some xs => match asInts xs with
      | some is => some (.int is.sum, s)
      | none => none
    | none => none
  | _, _ => none
theorem cb_sumL {K : PySem.W.Frag} : CBok (rSum K) fSumL := fun w s ds vs z s' Q k r h q => by
  unfold fSumL at h
  split at h
  · split at h
    · rename_i xs hx
      split at h
      · rename_i bs hb
        cases h
        obtain ⟨v, rfl, rv⟩ := r.one
        obtain ⟨a, vs', rfl, _, g2, g3⟩ := rv.list k hx
        rw [asInts_eq hb] at g3
        cases g3.ints
        exact ⟨_, bs, rfl, SqL.of g2, q w _ k (Le.refl w) (.int _)⟩
      · cases h
    · cases h
  · cases h
end Mir
/-! ## MirG -/
set_option maxHeartbeats 200000
set_option Elab.async false
set_option linter.all false
set_option maxRecDepth 100000
namespace Mir
open PySem PySem.Spec PyProof.Rows L2
def topS (i : Nat) : Stmt := PySem.Challenge.pw_evenlater_k64_whole_totals_of_what_comes.main.body.getD i (.Pass ⟨0, 0, 0, 0⟩)
/-- the built-ins that the text names -/
structure Bt (mg : Str → Option Value) : Prop where
  len : mg "len" = none
  range : mg "range" = none
  isinstance : mg "isinstance" = none
  int : mg "int" = none
  bool : mg "bool" = none
  tuple : mg "tuple" = none
  str : mg "str" = none
  list : mg "list" = none
  abs : mg "abs" = none
  sum : mg "sum" = none
  min : mg "min" = none
  all : mg "all" = none
  enumerate : mg "enumerate" = none
  zip : mg "zip" = none
  sorted : mg "sorted" = none
  most : ∃ t, mg "MOST" = some (.int 10000 t)
  gcd : mg "gcd" = some (.builtin "math.gcd")
theorem q_gint {X : Cx} {x : Str} {i : Int} {pos : Pos} (h : ∃ t, X.mg x = some (.int i t)) (hg : Gl X x := by rfl) (hd : (x == ("__debug__" : Str)) = false := by decide) : QE X (.Name x pos) (eC (.int i)) := by
  obtain ⟨t, h⟩ := h
  exact qe_c (v := .int i) (pe_glob hg h (⟨t, rfl⟩ : RelV (.int i) (.int i t)) hd) fun _ => .int _
end Mir
/-! ## MirH -/
set_option maxHeartbeats 200000
set_option Elab.async false
set_option linter.all false
set_option maxRecDepth 100000
/-! Data: sum of a list or tuple, <= of tuples, !=, sorted pairs, two clauses. -/
namespace Mir
open PySem PySem.Spec PyProof.Rows L2

/-! ### sum -/
def rSumA (K : PySem.W.Frag) : List V → Hp → VK → Prop := fun vs H Q => ∃ (a : Addr) (ns : List Int), vs = [V.ref a] ∧ (SqL K H a (ns.map V.int) ∨ SqT K H a (ns.map V.int)) ∧ Q (.int ns.sum) H
theorem cr_sumA {X : Cx} (hc : X.calm = true) : CallR X (.builtin "sum") (rSumA X.K) := by
  intro pins s σ H vs us Q I r h
  obtain ⟨a, ns, rfl, hs, q⟩ := h
  rcases hs with hs | hs
  · exact cr_sum hc pins s σ H _ us Q I r ⟨a, ns, rfl, hs, q⟩
  · obtain ⟨its, rv, hl, _⟩ := I.tuple hs
    rw [Vals.ref1 r]
    obtain ⟨xs, hx⟩ := rv.ints.allInts.items
    have hn : numsOf its.toArray.toList = ns := by rw [show its.toArray.toList = its from rfl, rv.ints.numsOf]
    rw [hx] at hl hn
    rw [nums_intItems] at hn
    refine PySem.W.ktm_sumG (I.ok.hd hc) hl fun h' tk t' hk => ?_
    rw [preSum_eq, List.take_of_length_le (by simp), hn]
    exact ⟨.int _, H, I.kept hk, ⟨_, rfl⟩, q⟩
def fSum : CM
  | [.ref r], s => match s.st[r]? with
    | some xs => match asInts xs with
      | some is => some (.int is.sum, s)
      | none => none
    | none => none
  | [.tup xs], s => match asInts xs with
    | some is => some (.int is.sum, s)
    | none => none
  | _, _ => none
theorem cb_sumA {K : PySem.W.Frag} : CBok (rSumA K) fSum := fun w s ds vs z s' Q k r h q => by
  unfold fSum at h
  split at h
  · split at h
    · rename_i xs hx
      split at h
      · rename_i bs hb
        cases h
        obtain ⟨v, rfl, rv⟩ := r.one
        obtain ⟨a, vs', rfl, _, g2, g3⟩ := rv.list k hx
        rw [asInts_eq hb] at g3
        cases g3.ints
        exact ⟨_, bs, rfl, .inl (SqL.of g2), q w _ k (Le.refl w) (.int _)⟩
      · cases h
    · cases h
  · split at h
    · rename_i bs hb
      cases h
      obtain ⟨v, rfl, rv⟩ := r.one
      cases rv with
      | tup ha rs =>
        rw [asInts_eq hb] at rs
        cases rs.ints
        exact ⟨_, bs, rfl, .inr (SqT.of ha), q w _ k (Le.refl w) (.int _)⟩
    · cases h
  · cases h

/-! ### t <= u, pairs of ints -/
def dLeT : D → D → Option D
  | .tup [.int a, .int b], .tup [.int c, .int d] => some (.bl (if a = c then decide (b ≤ d) else decide (a ≤ c)))
  | _, _ => none
theorem r_leT {K : PySem.W.Frag} : R2ok (rLeT K) dLeT := fun w s x y vx vy z Q k rx ry h q => by
  unfold dLeT at h
  split at h
  · rename_i a b c d
    cases h
    cases rx with
    | tup ha ra => cases ry with
      | tup hb rb =>
        have e1 := RVs.ints (ns := [a, b]) ra
        have e2 := RVs.ints (ns := [c, d]) rb
        subst e1; subst e2
        refine ⟨_, _, [a, b], [c, d], rfl, rfl, SqT.of ha, SqT.of hb, ?_⟩
        have e : Ob.lexAt (fun j => decide (([a, b] : List Int).getD j 0 = ([c, d] : List Int).getD j 0)) (fun j => decide (([a, b] : List Int).getD j 0 ≤ ([c, d] : List Int).getD j 0)) (decide (([a, b] : List Int).length ≤ ([c, d] : List Int).length)) 0 (min ([a, b] : List Int).length ([c, d] : List Int).length) = (if a = c then decide (b ≤ d) else decide (a ≤ c)) := by
          show Ob.lexAt _ _ true 0 2 = _
          rw [Ob.lexAt_succ]
          by_cases h1 : a = c
          · rw [if_pos h1, if_pos (by simpa using h1), Ob.lexAt_succ]
            by_cases h2 : b = d
            · rw [if_pos (by simpa using h2), Ob.lexAt_zero]
              simp [h2]
            · rw [if_neg (by simpa using h2)]
              rfl
          · rw [if_neg h1, if_neg (by simpa using h1)]
            rfl
        rw [e]
        exact q _ (.bl _)
  · cases h
theorem q_leT {X : Cx} {a b : Expr} {ma mb : EM} {pos : Pos} (hu : X.A.units + 1 < cLine) (ha : QE X a ma) (hb : QE X b mb) : QE X (.Compare a [.LtE] [b] pos) (e2 dLeT ma mb) := q_cmp (op_leT (by omega)) r_leT ha hb (nomark _)
theorem qt_leT {X : Cx} {a b : Expr} {ma mb : EM} {pos : Pos} (hu : X.A.units + 1 < cLine) (ha : QE X a ma) (hb : QE X b mb) : QT X (.Compare a [.LtE] [b] pos) (tOf (e2 dLeT ma mb)) := qt_cmp (op_leT (by omega)) r_leT ha hb (nomark _)

/-! ### x != y, the same data -/
def dNeD : D → D → Option D
  | .tup [.int a, .tup xs], .tup [.int b, .tup ys] => match asInts xs, asInts ys with
    | some is, some js => if a = b ∧ is = js then some (.bl false) else none
    | _, _ => none
  | _, _ => none
theorem dp_ints {K : PySem.W.Frag} {H : Hp} : ∀ is : List Int, DpAll K H (is.map V.int) (is.map PyData.int)
  | [] => .nil
  | i :: is => .cons (.int i) (dp_ints is)
theorem lay_ints : ∀ is : List Int, PyData.canLayAll0 (is.map PyData.int) = true
  | [] => rfl
  | i :: is => by rw [List.map_cons, PyData.canLayAll0, lay_ints is]; rfl
theorem depth_ints : ∀ is : List Int, PyData.depthAll (is.map PyData.int) = 0
  | [] => rfl
  | i :: is => by rw [List.map_cons, PyData.depthAll, depth_ints is]; rfl
theorem r_neD {K : PySem.W.Frag} : R2ok (rNeD K) dNeD := fun w s x y vx vy z Q k rx ry h q => by
  unfold dNeD at h
  split at h
  · rename_i a xs b ys
    split at h
    · rename_i is js hi hj
      split at h
      · rename_i hab
        cases h
        obtain ⟨rfl, rfl⟩ := hab
        cases rx with
        | tup ha ra => cases ry with
          | tup hb rb =>
            obtain ⟨v1, v2, rfl, r1, r2⟩ := ra.two
            obtain ⟨u1, u2, rfl, t1, t2⟩ := rb.two
            cases r1; cases t1
            cases r2 with
            | tup hc rc => cases t2 with
              | tup hd rd =>
                rw [asInts_eq hi] at rc
                rw [asInts_eq hj] at rd
                cases rc.ints
                cases rd.ints
                have hs : SeqAt.shaped (.tuple [.int a, .tuple (is.map PyData.int)]) = true := by
                  unfold SeqAt.shaped
                  rw [Bool.and_eq_true]
                  constructor
                  · simp only [PyData.canLay0, PyData.canLayAll0, lay_ints, Bool.and_self, Bool.and_true]
                  · apply decide_eq_true
                    simp only [PyData.depth, PyData.depthAll, depth_ints]
                    decide
                refine ⟨.tuple [.int a, .tuple (is.map PyData.int)], .tuple [.int a, .tuple (is.map PyData.int)], .tup (SqT.of ha) (.cons (.int a) (.cons (.tup (SqT.of hc) (dp_ints is)) .nil)), .tup (SqT.of hb) (.cons (.int a) (.cons (.tup (SqT.of hd) (dp_ints is)) .nil)), hs, hs, ?_⟩
                rw [SeqAt.eqv_refl _ (SeqAt.canLay_of_shaped hs)]
                exact q _ (.bl _)
      · cases h
    · cases h
  · cases h
theorem q_neD {X : Cx} {a b : Expr} {ma mb : EM} {pos : Pos} (hu : X.A.units + 64 < cLine) (ha : QE X a ma) (hb : QE X b mb) : QE X (.Compare a [.NotEq] [b] pos) (e2 dNeD ma mb) := q_cmp (op_neD hu) r_neD ha hb (nomark _)
theorem qt_neD {X : Cx} {a b : Expr} {ma mb : EM} {pos : Pos} (hu : X.A.units + 64 < cLine) (ha : QE X a ma) (hb : QE X b mb) : QT X (.Compare a [.NotEq] [b] pos) (tOf (e2 dNeD ma mb)) := qt_cmp (op_neD hu) r_neD ha hb (nomark _)

/-! ### sorted, pairs of small numbers -/
def pairKey : D → Option Int
  | .tup [.int a, .int b] => if 0 ≤ a ∧ a < 64 ∧ 0 ≤ b ∧ b < 64 then some (a * 64 + b) else none
  | _ => none
def keyOf (d : D) : Int := (pairKey d).getD 0
def insD (x : D) : List D → List D
  | [] => [x]
  | y :: ys => if keyOf x ≤ keyOf y then x :: y :: ys else y :: insD x ys
def sortD : List D → List D
  | [] => []
  | x :: xs => insD x (sortD xs)
theorem insD_perm (x : D) : ∀ l, (insD x l).Perm (x :: l)
  | [] => .refl _
  | y :: ys => by
    unfold insD
    split
    · exact .refl _
    · exact ((insD_perm x ys).cons y).trans (.swap x y ys)
theorem sortD_perm : ∀ l, (sortD l).Perm l
  | [] => .refl _
  | x :: xs => (insD_perm x (sortD xs)).trans ((sortD_perm xs).cons x)
theorem insD_sorted (x : D) : ∀ l, l.Pairwise (fun a b => keyOf a ≤ keyOf b) → (insD x l).Pairwise (fun a b => keyOf a ≤ keyOf b)
  | [], _ => by simp [insD]
  | y :: ys, h => by
    unfold insD
    have h' := List.pairwise_cons.mp h
    split
    · rename_i hxy
      refine List.pairwise_cons.mpr ⟨fun z hz => ?_, h⟩
      rcases List.mem_cons.mp hz with rfl | hz
      · exact hxy
      · exact Int.le_trans hxy (h'.1 z hz)
    · rename_i hxy
      refine List.pairwise_cons.mpr ⟨fun z hz => ?_, insD_sorted x ys h'.2⟩
      rcases List.mem_cons.mp ((insD_perm x ys).mem_iff.mp hz) with rfl | hz
      · omega
      · exact h'.1 z hz
theorem sortD_sorted : ∀ l, (sortD l).Pairwise (fun a b => keyOf a ≤ keyOf b)
  | [] => .nil
  | x :: xs => insD_sorted x _ (sortD_sorted xs)
theorem sorted_unique : ∀ {l l' : List D}, l.Perm l' → l.Pairwise (fun a b => keyOf a ≤ keyOf b) → l'.Pairwise (fun a b => keyOf a ≤ keyOf b) → (∀ a ∈ l, ∀ b ∈ l, keyOf a = keyOf b → a = b) → l = l'
  | [], l', p, _, _, _ => (List.nil_perm.mp p).symm
  | x :: xs, [], p, _, _, _ => by simpa using p.length_eq
  | x :: xs, y :: ys, p, h1, h2, inj => by
    have g1 := List.pairwise_cons.mp h1
    have g2 := List.pairwise_cons.mp h2
    have hy : y ∈ x :: xs := p.mem_iff.mpr List.mem_cons_self
    have hx : x ∈ y :: ys := p.mem_iff.mp List.mem_cons_self
    have le1 : keyOf x ≤ keyOf y := by
      rcases List.mem_cons.mp hy with e | e
      · rw [e]; exact Int.le_refl _
      · exact g1.1 y e
    have le2 : keyOf y ≤ keyOf x := by
      rcases List.mem_cons.mp hx with e | e
      · rw [e]; exact Int.le_refl _
      · exact g2.1 x e
    have e := inj x List.mem_cons_self y hy (Int.le_antisymm le1 le2)
    subst e
    rw [sorted_unique (List.perm_cons x |>.mp p) g1.2 g2.2 fun a ha b hb => inj a (List.mem_cons_of_mem _ ha) b (List.mem_cons_of_mem _ hb)]
def fSorted : CM
  | [.ref r], s => match s.st[r]? with
    | some xs => if xs.length < 64 ∧ xs.all (fun d => (pairKey d).isSome) = true then some (.ref s.st.length, s.add (sortD xs)) else none
    | none => none
  | _, _ => none
theorem pairKey_eq {d : D} (h : (pairKey d).isSome = true) : ∃ a b, d = .tup [.int a, .int b] ∧ 0 ≤ a ∧ a < 64 ∧ 0 ≤ b ∧ b < 64 ∧ keyOf d = a * 64 + b := by
  unfold pairKey at h
  split at h
  · rename_i a b
    split at h
    · rename_i hb
      refine ⟨a, b, rfl, hb.1, hb.2.1, hb.2.2.1, hb.2.2.2, ?_⟩
      show (if 0 ≤ a ∧ a < 64 ∧ 0 ≤ b ∧ b < 64 then some (a * 64 + b) else none).getD 0 = _
      rw [if_pos hb]
      rfl
    · cases h
  · cases h
/-- a permutation of the values is one of the data -/
theorem perm_data {w : Wd} : ∀ {vs us : List V}, vs.Perm us → ∀ {xs : List D}, RVs w xs us → ∃ ys, ys.Perm xs ∧ RVs w ys vs := by
  intro vs us p
  induction p with
  | nil => intro xs h; cases h; exact ⟨[], .refl _, .nil⟩
  | cons x p ih =>
    intro xs h
    cases h with
    | cons h t =>
      obtain ⟨ys, p', r⟩ := ih t
      exact ⟨_ :: ys, p'.cons _, .cons h r⟩
  | swap x y l =>
    intro xs h
    cases h with
    | cons h t => cases t with
      | cons h2 t2 => exact ⟨_, .swap _ _ _, .cons h2 (.cons h t2)⟩
  | trans p q ih1 ih2 =>
    intro xs h
    obtain ⟨ys, p1, r1⟩ := ih2 h
    obtain ⟨zs, p2, r2⟩ := ih1 r1
    exact ⟨zs, p2.trans p1, r2⟩
theorem cr_sortedPairs {X : Cx} : CallR X (.builtin "sorted") (rSortU X.K 2 64) := cr_sortT (by decide)
theorem cb_sortedPairs {K : PySem.W.Frag} : CBok (rSortU K 2 64) fSorted := fun w s ds vs z s' Q k r h q => by
  unfold fSorted at h
  split at h
  · split at h
    · rename_i xs hx
      split at h
      · rename_i hc
        cases h
        obtain ⟨v, rfl, rv⟩ := r.one
        obtain ⟨a, us, rfl, _, g2, g3⟩ := rv.list k hx
        have all : ∀ d ∈ xs, (pairKey d).isSome = true := fun d hd => List.all_eq_true.mp hc.2 d hd
        have tupI : ∀ {d : D} {v : V}, RV w d v → (pairKey d).isSome = true → ∃ a b, d = .tup [.int a, .int b] ∧ TupI K w.H v [a, b] ∧ TS.Bd 64 [a, b] ∧ keyOf d = TS.code 64 [a, b] := fun {d v} rd hd => by
          obtain ⟨a, b, rfl, h1, h2, h3, h4, h5⟩ := pairKey_eq hd
          cases rd with
          | tup ht rt =>
            have e := RVs.ints (ns := [a, b]) rt
            subst e
            refine ⟨a, b, rfl, ⟨_, rfl, SqT.of ht⟩, fun m hm => ?_, ?_⟩
            · rcases List.mem_cons.mp hm with rfl | hm
              · exact ⟨h1, h2⟩
              · have : m = b := by simpa using hm
                subst this
                exact ⟨h3, h4⟩
            · rw [h5]
              show a * 64 + b = a * 64 ^ 1 + (b * 64 ^ 0 + 0)
              omega
        refine ⟨a, us, rfl, SqL.of g2, by rw [← g3.length]; exact hc.1, fun x hx' => ?_, fun ys p hp hs hn => ?_⟩
        · obtain ⟨i, hi, e⟩ := List.getElem_of_mem hx'
          obtain ⟨d, e1, e2⟩ := g3.get' (i := i) (by rw [List.getElem?_eq_getElem hi, e])
          obtain ⟨a', b', _, t, bd, _⟩ := tupI e2 (all d (List.mem_of_getElem? e1))
          exact ⟨_, t, rfl, bd⟩
        · obtain ⟨zs, pz, rz⟩ := perm_data hp g3
          have allz : ∀ d ∈ zs, (pairKey d).isSome = true := fun d hd => all d (pz.mem_iff.mp hd)
          have inj : ∀ a ∈ zs, ∀ b ∈ zs, keyOf a = keyOf b → a = b := fun x hx y hy e => by
            obtain ⟨a1, b1, rfl, h1, h2, h3, h4, h5⟩ := pairKey_eq (allz x hx)
            obtain ⟨a2, b2, rfl, k1, k2, k3, k4, k5⟩ := pairKey_eq (allz y hy)
            rw [h5, k5] at e
            have e1 : a1 = a2 := by omega
            have e2 : b1 = b2 := by omega
            rw [e1, e2]
          have srt : ∀ {zs : List D} {ys : List V}, RVs w zs ys → (∀ d ∈ zs, (pairKey d).isSome = true) → ys.Pairwise (fun x y => ∀ n m, TupI K w.H x n → TupI K w.H y m → TS.code 64 n ≤ TS.code 64 m) → zs.Pairwise (fun a b => keyOf a ≤ keyOf b) := by
            intro zs
            induction zs with
            | nil => intro ys _ _ _; exact .nil
            | cons d zs ih =>
              intro ys h hall hpw
              cases h with
              | cons hd ht =>
                have hp' := List.pairwise_cons.mp hpw
                refine List.pairwise_cons.mpr ⟨fun e he => ?_, ih ht (fun d' h' => hall d' (List.mem_cons_of_mem _ h')) hp'.2⟩
                obtain ⟨j, hj, ej⟩ := List.getElem_of_mem he
                obtain ⟨v', g1, g2⟩ := ht.get (i := j) (by rw [List.getElem?_eq_getElem hj, ej])
                obtain ⟨a1, b1, _, t1, _, c1⟩ := tupI hd (hall d List.mem_cons_self)
                obtain ⟨a2, b2, _, t2, _, c2⟩ := tupI g2 (hall e (List.mem_cons_of_mem _ he))
                rw [c1, c2]
                exact hp'.1 _ (List.mem_of_getElem? g1) _ _ t1 t2
          have ez : zs = sortD xs := sorted_unique (pz.trans (sortD_perm xs).symm) (srt rz allz hs) (sortD_sorted xs) inj
          rw [ez] at rz
          obtain ⟨k2, l2, r2⟩ := k.addNew hn rz
          exact q _ _ k2 l2 r2
      · cases h
    · cases h
  · cases h
end Mir
/-! ## MirI -/
set_option maxHeartbeats 200000
set_option Elab.async false
set_option linter.all false
set_option maxRecDepth 100000
/-! Data: a comprehension of two clauses. -/
namespace Mir
open PySem PySem.Spec PyProof.Rows L2

theorem Sub.refl (w : Wd) : Sub w w := ⟨fun _ _ h => h, ⟨[], by simp⟩, rfl⟩
theorem Sub.trans {a b c : Wd} (x : Sub a b) (y : Sub b c) : Sub a c := (⟨fun p xs h => y.tups p xs (x.tups p xs h), by
    obtain ⟨m, e⟩ := x.pre
    obtain ⟨n, f⟩ := y.pre
    exact ⟨m ++ n, by rw [f, e, List.append_assoc]⟩, y.head.trans x.head⟩)
/-- the new list at D holds acc, outside the store -/
def Acc (w1 : Wd) (D : Addr) (H : Hp) (s : MS) (acc : List Mir.D) : Prop := ∃ w2 accv, w2.H = H ∧ WOk w2 s ∧ Le w1 w2 ∧ w2.H D = some (.lst accv) ∧ D ∉ w2.r ∧ D ∉ w2.w ∧ RVs w2 acc accv
theorem Le.stays {wa wb : Wd} {D : Addr} {o : HO} (l : Le wa wb) (a1 : wa.H D = some o) (a2 : D ∉ wa.r) (a3 : D ∉ wa.w) : wb.H D = some o ∧ D ∉ wb.r ∧ D ∉ wb.w := by
  refine ⟨l.keep D _ a1 a2 a3, fun z => ?_, fun z => ?_⟩
  · rcases l.ownR D z with q | q
    · exact a2 q
    · rw [a1] at q; cases q
  · rcases l.ownW D z with q | q
    · exact a3 q
    · rw [a1] at q; cases q
/-- an item put to the new list -/
theorem Acc.push' {w1 w6 : Wd} {D : Addr} {s : MS} {acc : List Mir.D} {accv : List V} {y : Mir.D} {v : V} (hD : w1.H D = none) (k6 : WOk w6 s) (l : Le w1 w6) (hd : w6.H D = some (.lst accv)) (hr : D ∉ w6.r) (hw : D ∉ w6.w) (ra : RVs w6 acc accv) (ry : RV w6 y v) :
    ∃ w2 accv2, w2.H = upd w6.H D (.lst (accv ++ [v])) ∧ WOk w2 s ∧ Le w1 w2 ∧ w2.H D = some (.lst accv2) ∧ D ∉ w2.r ∧ D ∉ w2.w ∧ RVs w2 (acc ++ [y]) accv2 ∧ Sub w6 w2 := by
  have sb : Sub w6 (w6.put D (.lst (accv ++ [v]))) := ⟨fun a xs ha => (by
    show upd w6.H D _ a = _
    rw [upd_ne]
    · exact ha
    · rintro rfl
      rw [hd] at ha
      cases ha), ⟨[], by simp [Wd.put]⟩, rfl⟩
  have other : ∀ {a : Addr}, a ≠ D → (w6.put D (.lst (accv ++ [v]))).H a = w6.H a := fun h => upd_ne h
  refine ⟨w6.put D (.lst (accv ++ [v])), accv ++ [v], rfl, ⟨k6.len, k6.nd, fun j xs hj => ?_, ?_⟩, ⟨⟨fun a xs ha => sb.tups a xs (l.tups a xs ha), l.pre, l.head⟩, fun a o ha n1 n2 => ?_, fun a ha => ?_, l.ownR, l.ownW⟩, upd_same, hr, hw, (ra.append (.cons ry .nil)).le sb, sb⟩
  · obtain ⟨a, us, g1, g2, g3⟩ := k6.lst j xs hj
    have ne : a ≠ D := fun e => hr (e ▸ List.mem_of_getElem? g1)
    exact ⟨a, us, g1, (other ne).trans g2, g3.le sb⟩
  · have hs := k6.seat
    cases es : s.seat with
    | none => rw [es] at hs; exact hs
    | some qq =>
      obtain ⟨gs, mix⟩ := qq
      rw [es] at hs
      obtain ⟨a, b, g1, g2, g3⟩ := hs
      have na : a ≠ D := fun e => hw (by rw [g1, ← e]; simp)
      have nb : b ≠ D := fun e => hw (by rw [g1, ← e]; simp)
      exact ⟨a, b, g1, (other na).trans g2, (other nb).trans g3⟩
  · have ne : a ≠ D := fun e => by rw [e, hD] at ha; cases ha
    exact (other ne).trans (l.keep a o ha n1 n2)
  · by_cases ea : a = D
    · rw [ea]; exact hD
    · exact l.there a ((other ea).symm.trans ha)
theorem wipe_idem (σ : L2.St) (ws : List Nat) : wipe (wipe σ ws) ws = wipe σ ws := by
  have gen : ∀ (us : List Nat) (τ : L2.St), (∀ u ∈ us, u ∈ ws) → wipe (wipe τ us) ws = wipe τ ws := by
    intro us
    induction us with
    | nil => intro τ _; rfl
    | cons u us ih =>
      intro τ hu
      show wipe ((wipe τ us).set u none) ws = _
      rw [wipe_set (hu u List.mem_cons_self), ih τ fun v hv => hu v (List.mem_cons_of_mem _ hv)]
  exact gen ws σ fun _ h => h
theorem gOk_of_compL {gm : GM} {mt : TM} {me : EM} {g : Guard} {env : Env} {ds : List D} {s s' : MS} {ys : List D} (h : compL gm mt me g env ds s = some (ys, s')) : gOk g s = true := by
  cases hq : gOk g s with
  | true => rfl
  | false =>
    cases ds with
    | nil => rw [compL, hq] at h; cases h
    | cons d ds => rw [compL, hq] at h; cases h
theorem lt2m {n : Nat} (h : n < 2000000) : n < sizeLine := Nat.lt_of_lt_of_le h (by rw [sizeLine_eq]; decide)
/-- the outer turns -/
def compO (tg : GM) (src1 : IM) (tg1 : GM) (te : EM) (vs1 : List Nat) (g : Guard) (env : Env) : List D → MS → Option (List D × MS)
  | [], s => if gOk g s = true then some ([], s) else none
  | d :: ds, s => if gOk g s = true then bnd (tg d env s) (fun env1 s1 => bnd (src1 env1 s1) fun p s2 => if p.1.length ≤ 1000 then bnd (compL tg1 tYesM te p.2 (wipeE env1 vs1) p.1 s2) (fun ys s3 =>
      bnd (compO tg src1 tg1 te vs1 g env ds s3) fun zs s4 => some (ys ++ zs, s4)) else none) else none
def eComp2 (vs vs1 : List Nat) (src : IM) (tg : GM) (src1 : IM) (tg1 : GM) (te : EM) : EM := fun env s => bnd (src env s) fun p s1 => if p.1.length ≤ 1000 then bnd (compO tg src1 tg1 te vs1 p.2 (wipeE env vs) p.1 s1) (fun ys s2 => some (.ref s2.st.length, s2.add ys)) else none
theorem compL_len {gm : GM} {mt : TM} {me : EM} {g : Guard} {env : Env} : ∀ {ds : List D} {s s' : MS} {ys : List D}, compL gm mt me g env ds s = some (ys, s') → ys.length ≤ ds.length
  | [], s, s', ys, h => by
    rw [compL] at h
    split at h
    · cases h; exact Nat.le_refl _
    · cases h
  | d :: ds, s, s', ys, h => by
    rw [compL] at h
    split at h
    · obtain ⟨e1, s1, _, h⟩ := bnd_eq h
      obtain ⟨b, s2, _, h⟩ := bnd_eq h
      split at h
      · obtain ⟨y, s3, _, h⟩ := bnd_eq h
        obtain ⟨zs, s4, h4, h⟩ := bnd_eq h
        cases h
        have := compL_len h4
        simp
        omega
      · have := compL_len h
        simp
        omega
    · cases h
section
variable {X : Cx} {elt tg iter tg1 iter1 : Expr} {mi mi1 : IM} {gm gm1 : GM} {me : EM} {pos : Pos}
theorem lo_comp2 {vs vs1 : List Nat} : ∀ σ H Q, loE (eComp2 vs vs1 mi gm mi1 gm1 me) σ H Q → tLc2 (loI mi) (loGw vs gm) tYes (loI mi1) (loGw vs1 gm1) tYes (loE me) vs vs1 σ H Q := fun σ H Q ⟨w, env, s, d, s', e, k, ek, h, q⟩ => by
  obtain ⟨⟨items, g⟩, s1, h1, h⟩ := bnd_eq h
  split at h
  · rename_i hlen
    have hlen : items.length ≤ 1000 := hlen
    obtain ⟨total, se, hC, h'⟩ := bnd_eq h
    cases h'
    have hC : compO gm mi1 gm1 me vs1 g (wipeE env vs) items s1 = some (total, se) := hC
    refine ⟨w, env, s, items, g, s1, e, k, ek, h1, fun w1 J k1 l1 it D hD => ?_⟩
    have f1 := k1.fresh hD
    have ek1 := (ek.le l1.toSub).wipe vs
    refine ⟨fun i m H => m = items.length - i ∧ i ≤ items.length ∧ ∃ s2 acc ys, Acc w1 D H s2 acc ∧ acc.length ≤ i * 1000 ∧ compO gm mi1 gm1 me vs1 g (wipeE env vs) (items.drop i) s2 = some (ys, se) ∧ acc ++ ys = total,
      ⟨items.length, by simp, Nat.zero_le _, s1, [], total, ⟨w1.put D (.lst []), [], rfl, k1.put hD, Le.tup k1 hD, upd_same, f1.1, f1.2, .nil⟩, Nat.zero_le _, by simpa using hC, rfl⟩, ?_⟩
    rintro i m H2 ⟨rfl, hi, s2, acc, ys, ⟨w2, accv, rfl, k2, l2, hacc, hr, hw, ra⟩, hal, h2, htot⟩
    have gd : gOk g s2 = true := by
      cases hq : gOk g s2 with
      | true => rfl
      | false =>
        cases hd : items.drop i with
        | nil => rw [hd, compO, hq] at h2; cases h2
        | cons d ds => rw [hd, compO, hq] at h2; cases h2
    obtain ⟨it1, it2, it3⟩ := it w2 s2 k2 l2.toSub gd
    by_cases hlt : i < items.length
    · refine .inr ⟨it1 i hlt, fun H' => i + 1 ≤ items.length ∧ ∃ s2 acc ys, Acc w1 D H' s2 acc ∧ acc.length ≤ (i + 1) * 1000 ∧ compO gm mi1 gm1 me vs1 g (wipeE env vs) (items.drop (i + 1)) s2 = some (ys, se) ∧ acc ++ ys = total,
        fun H' z => ⟨items.length - (i + 1), by omega, rfl, z⟩, fun x H' hy => ?_⟩
      obtain ⟨w3, d, rfl, k3, l3, er, ew, sm, hd, rv⟩ := it3 i x H' hlt hy
      rw [drop_cons hd, compO, if_pos gd] at h2
      obtain ⟨env4, s4, h4, h2⟩ := bnd_eq h2
      obtain ⟨⟨items1, g1⟩, s5, h5, h2⟩ := bnd_eq h2
      have st3 := l3.stays hacc hr hw
      have l13 := l2.trans l3
      refine ⟨w3, wipeE env vs, s2, d, env4, s4, rfl, k3, ek1.le l13.toSub, rv, h4, fun w4 σ4 k4 l4 ek4 e4 => ?_⟩
      have st4 := l4.stays st3.1 st3.2.1 st3.2.2
      refine ⟨by rw [e4]; exact wipe_idem _ _, ?_⟩
      unfold tYes
      dsimp only
      rw [if_pos rfl]
      split at h2
      rotate_left
      · cases h2
      rename_i hl1
      have hl1 : items1.length ≤ 1000 := hl1
      obtain ⟨ys1, s6, h6, h2⟩ := bnd_eq h2
      obtain ⟨zs, s7, h7, h2⟩ := bnd_eq h2
      cases h2
      have h6 : compL gm1 tYesM me g1 (wipeE env4 vs1) items1 s5 = some (ys1, s6) := h6
      have l14 := l13.trans l4
      have l24 := l3.trans l4
      have lys := compL_len h6
      refine ⟨w4, env4, s4, items1, g1, s5, rfl, k4, ek4, h5, fun w5 J1 k5 l5 itB => ?_⟩
      have st5 := l5.stays st4.1 st4.2.1 st4.2.2
      refine ⟨fun j m H => m = items1.length - j ∧ j ≤ items1.length ∧ ∃ s2' w2' accv' acc' ys', w2'.H = H ∧ WOk w2' s2' ∧ Le w1 w2' ∧ Sub w5 w2' ∧ w2'.H D = some (.lst accv') ∧ D ∉ w2'.r ∧ D ∉ w2'.w ∧ RVs w2' acc' accv' ∧ acc'.length ≤ acc.length + j ∧ compL gm1 tYesM me g1 (wipeE env4 vs1) (items1.drop j) s2' = some (ys', s6) ∧ acc' ++ ys' = acc ++ ys1,
        ⟨items1.length, by simp, Nat.zero_le _, s5, w5, accv, acc, ys1, rfl, k5, l14.trans l5, Sub.refl _, st5.1, st5.2.1, st5.2.2, ra.le (l24.trans l5).toSub, by omega, by simpa using h6, rfl⟩, ?_⟩
      rintro j m H8 ⟨rfl, hj, s8, w8, accv8, acc8, ys8, rfl, k8, l18, l58, hd8, hr8, hw8, ra8, hal8, h8, ht8⟩
      have gd8 := gOk_of_compL h8
      obtain ⟨jt1, jt2, jt3⟩ := itB w8 s8 k8 l58 gd8
      by_cases hjl : j < items1.length
      · refine .inr ⟨jt1 j hjl, fun H' => j + 1 ≤ items1.length ∧ ∃ s2' w2' accv' acc' ys', w2'.H = H' ∧ WOk w2' s2' ∧ Le w1 w2' ∧ Sub w5 w2' ∧ w2'.H D = some (.lst accv') ∧ D ∉ w2'.r ∧ D ∉ w2'.w ∧ RVs w2' acc' accv' ∧ acc'.length ≤ acc.length + (j + 1) ∧ compL gm1 tYesM me g1 (wipeE env4 vs1) (items1.drop (j + 1)) s2' = some (ys', s6) ∧ acc' ++ ys' = acc ++ ys1,
          fun H' z => ⟨items1.length - (j + 1), by omega, rfl, z⟩, fun x9 H9 hy9 => ?_⟩
        obtain ⟨w9, d9, rfl, k9, l9, _, _, _, hd9, rv9⟩ := jt3 j x9 H9 hjl hy9
        rw [drop_cons hd9, compL, if_pos gd8] at h8
        obtain ⟨env10, s10, h10, h8⟩ := bnd_eq h8
        obtain ⟨b11, s11, h11, h8⟩ := bnd_eq h8
        cases h11
        rw [if_pos rfl] at h8
        obtain ⟨y12, s12, h12, h8⟩ := bnd_eq h8
        obtain ⟨ys13, s13, h13, h8⟩ := bnd_eq h8
        cases h8
        have st9 := l9.stays hd8 hr8 hw8
        have l59 := l58.trans l9.toSub
        refine ⟨w9, wipeE env4 vs1, s8, d9, env10, s10, rfl, k9, (ek4.le (l5.toSub.trans l59)).wipe vs1, rv9, h10, fun w10 σ10 k10 l10 ek10 e10 => ?_⟩
        have st10 := l10.stays st9.1 st9.2.1 st9.2.2
        refine ⟨by rw [e10]; exact wipe_idem _ _, ?_⟩
        dsimp only
        rw [if_pos rfl]
        refine ⟨w10, env10, s10, y12, s12, rfl, k10, ek10, h12, fun w12 v12 k12 l12 r12 => ?_⟩
        have st12 := l12.stays st10.1 st10.2.1 st10.2.2
        have l8_12 := (l9.trans l10).trans l12
        refine ⟨accv8, st12.1, ?_, ?_⟩
        · rw [← ra8.length]
          exact lt2m (by omega)
        · obtain ⟨w14, accv14, e14, k14, l14', hd14, hr14, hw14, ra14, s14⟩ := Acc.push' hD k12 (l18.trans l8_12) st12.1 st12.2.1 st12.2.2 (ra8.le l8_12.toSub) r12
          exact ⟨hjl, s12, w14, accv14, acc8 ++ [y12], ys13, e14, k14, l14', (l58.trans l8_12.toSub).trans s14, hd14, hr14, hw14, ra14, by rw [List.length_append]; simp; omega, h13, by rw [← ht8, List.append_assoc]; rfl⟩
      · have ej : j = items1.length := by omega
        subst ej
        refine .inl ⟨jt2, ?_⟩
        rw [List.drop_length, compL, if_pos gd8] at h8
        cases h8
        rw [List.append_nil] at ht8
        exact ⟨hlt, s6, acc8, zs, ⟨w8, accv8, rfl, k8, l18, hd8, hr8, hw8, ra8⟩, by rw [ht8, List.length_append]; omega, h7, by rw [ht8, ← htot, List.append_assoc]⟩
    · have ei : i = items.length := by omega
      subst ei
      refine .inl ⟨it2, ?_⟩
      rw [List.drop_length, compO, if_pos gd] at h2
      cases h2
      rw [List.append_nil] at htot
      subst htot
      have kn := k2.new hacc hr hw ra
      refine q (w2.new D) (.ref D) kn (l1.trans (l2.new hD)) (.ref ?_)
      show (w2.r ++ [D])[se.st.length]? = some D
      rw [← k2.len]; simp
  · cases h
theorem q_comp2 {scope : Scope} {own : List (Str × Nat)} {vs1 : List Nat} (hc : X.calm = true) (hN : X.N.Nodup) (ok : blkC X.N X.env.scope scope own = true) (hv : ∀ i ∈ vs1, i ∈ own.map (·.2)) (hi : QI X tg iter mi)
    (hg : ∀ (s : Shared) (H : Hp) (C : Addr) (cl : List (Str × Addr)) (fp : List Addr), QGw (X.blk s H scope (compEnvC scope cl C X.env) fp) (own.map (·.2)) tg gm)
    (hi1 : ∀ (s : Shared) (H : Hp) (C : Addr) (cl : List (Str × Addr)) (fp : List Addr), QI (X.blk s H scope (compEnvC scope cl C X.env) fp) tg1 iter1 mi1)
    (hg1 : ∀ (s : Shared) (H : Hp) (C : Addr) (cl : List (Str × Addr)) (fp : List Addr), QGw (X.blk s H scope (compEnvC scope cl C X.env) fp) vs1 tg1 gm1)
    (he : ∀ (s : Shared) (H : Hp) (C : Addr) (cl : List (Str × Addr)) (fp : List Addr), QE (X.blk s H scope (compEnvC scope cl C X.env) fp) elt me) (hs : ∀ x, foldedSetIterable iter X.env x = pure x := by intro _; rfl) (hs1 : ∀ env x, foldedSetIterable iter1 env x = pure x := by intro _ _; rfl) :
    QE X (.ListComp elt [⟨tg, iter, [], 0⟩, ⟨tg1, iter1, [], 0⟩] scope pos) (eComp2 (own.map (·.2)) vs1 mi gm mi1 gm1 me) :=
  pe_mono (pe_lc2 hc hN hi (blkOk_by ok) hv hg (fun _ _ _ _ _ => pts_nil) hi1 hg1 (fun _ _ _ _ _ => pts_nil) he hs hs1) lo_comp2
end
end Mir
/-! ## MirJ -/
set_option maxHeartbeats 200000
set_option Elab.async false
set_option linter.all false
set_option maxRecDepth 100000
/-! Data: enumerate of a tuple; zip of a list and a tuple. -/
namespace Mir
open PySem PySem.Spec PyProof.Rows L2

/-! ### enumerate(t) -/
theorem meets_enumT (l : Addr) (items : Array Value) (n : Nat) (dct : Option Addr) (sl : Array (Option Value)) :
    Meets (Builtin.«enumerate.__new__» ⟨[.type "enumerate", .ref l], []⟩) (fun _ R s => s.heap.get? l = some { cls := .type "tuple", dict := dct, data := .seq items n, slots := sl } ∧
      R (.ok (.ret (.ref (s.heap.push { cls := .type "tuple_iterator", data := .fields #[.ref l, .int 0 0] }).objs.size)))
        { s with heap := (s.heap.push { cls := .type "tuple_iterator", data := .fields #[.ref l, .int 0 0] }).push { cls := .type "enumerate", data := .fields #[.none, .bool false, .ref s.heap.objs.size, rawInt 0, .none, .none] } }) :=
  .of_wp fun prog w A R s h => by
    obtain ⟨hp, gn, dr, tk, os⟩ := s
    obtain ⟨hl, hR⟩ := h
    have sub := sub_enumerate
    have tup : Heap.IsTuple (Shared.heap ⟨hp, gn, dr, tk, os⟩) l items := ⟨_, hl, rfl, n, rfl⟩
    wp_walk using AutoSeq1.wpAny_loadPart' hl
    refine wpAny_stack_any fun st => wpAny_pure ?_
    split
    · rename_i c _ _ _ _ _
      cases (c == Value.type "enumerate")
      · wp_walk using AutoSeq1.wpAny_loadPart' hl, wpAny_pyIter_tuple tup
        exact ⟨_, rfl, hR⟩
      · wp_walk using AutoSeq1.wpAny_loadPart' hl, wpAny_pyIter_tuple tup
        exact ⟨_, rfl, hR⟩
    · wp_walk using AutoSeq1.wpAny_loadPart' hl, wpAny_pyIter_tuple tup
      exact ⟨_, rfl, hR⟩
section
variable {prog : Program} {w : World} {A : Around} {E : Value → Shared → Prop} {s : Shared}
theorem call_enumT {l : Addr} {items : Array Value} {Q : Value → Shared → Prop} (hT : s.heap.IsTuple l items)
    (k : ∀ h', IsEnum h' (s.heap.objs.size + 1) s.heap.objs.size 0 .none → h'.IsTupleIter s.heap.objs.size l 0 → (∀ b o, s.heap.get? b = some o → h'.get? b = some o) → Q (.ref (s.heap.objs.size + 1)) { s with heap := h' }) :
    wpAny (model prog w) A (call (.type "enumerate") [.ref l]) Q E s := by
  obtain ⟨⟨c, dct, dt, sl⟩, at_, hc, n, hd⟩ := hT
  obtain rfl : c = .type "tuple" := hc
  obtain rfl : dt = .seq items n := hd
  refine callType_new F.called_enumerate (by decide) (F.typeCall_enumerate_1 _) (F.newCall_enumerate_1 _) (fun obj => F.args_object_init_2 obj _) F.entry_enumerate_new (meets_enumT l items n dct sl) ⟨at_, ?_⟩
  have sz : (s.heap.push { cls := .type "tuple_iterator", data := .fields #[.ref l, .int 0 0] }).objs.size = s.heap.objs.size + 1 := Heap.size_push ..
  have en := Heap.get?_push_size (s.heap.push { cls := .type "tuple_iterator", data := .fields #[.ref l, .int 0 0] }) (o := { cls := .type "enumerate", data := .fields #[.none, .bool false, .ref s.heap.objs.size, rawInt 0, .none, .none] }) rfl
  show _ ∧ _
  rw [sz] at en ⊢
  exact ⟨⟨_, en, rfl⟩, k _ en ⟨_, Heap.get?_push_of_some _ (Heap.get?_push_size _ rfl), rfl, rfl⟩ fun b o x => Heap.get?_push_of_some _ (Heap.get?_push_of_some _ x)⟩
end
/-- the tuple at a, each item in a new pair with its place -/
def IteT (K : PySem.W.Frag) (a : Addr) : It :=
  ⟨fun i H => ∃ (xs : List V) (x : V), SqT K H a xs ∧ xs[i]? = some x, fun i H v H' => ∃ p x, v = .ref p ∧ H p = none ∧ H' = upd H p (.tup [.int (i : Nat), x]) ∧ ∀ xs, SqT K H a xs → xs[i]? = some x, fun i H => ∃ xs : List V, SqT K H a xs ∧ xs.length = i⟩
theorem turn_enumT {P : Program} {w : World} {K : PySem.W.Frag} {elts : List Expr} {kk : Nat} {tpos : Pos} (a e it : Addr) :
    Turn P w K (.Tuple elts kk tpos) (IteT K a) [e, it] e (fun i h => (∃ old, IsEnum h e it ((i : Nat) : Int) old) ∧ h.IsTupleIter it a i ∧ e ≠ it ∧ a ≠ it ∧ a ≠ e) where
  mem := List.mem_cons_self
  obj := fun i h st b hb => by
    obtain ⟨⟨old, en⟩, ⟨oi, hoi, _, hdi⟩, _⟩ := st
    rcases (by simpa using hb : b = e ∨ b = it) with rfl | rfl
    · exact ⟨_, en, fun v q => nomatch q⟩
    · exact ⟨oi, hoi, fun v q => by rw [hdi] at q; cases q⟩
  keep := fun i h h' st k => ⟨st.1.elim fun old en => ⟨old, k e (by simp) _ en⟩, st.2.1.at fun o q => k it (by simp) o q, st.2.2⟩
  item := by
    intro X hP hw hK hc i pins s σ H E I hf st hg
    subst hP hw hK
    obtain ⟨⟨old, en⟩, ti, n1, n2, n3⟩ := st
    obtain ⟨xs, x, hq, hx⟩ := hg
    obtain ⟨its, rv, tp, _⟩ := I.tuple hq
    obtain ⟨u, hu, ru⟩ := rv.get hx
    have lte : e < s.heap.objs.size := Heap.lt_size en
    have lti : it < s.heap.objs.size := ti.elim fun _ q => Heap.lt_size q.1
    have hlen : i < its.toArray.size := by
      have := (List.getElem?_eq_some_iff.mp hu).1
      simpa using this
    have Dr := Draws.tuple (prog := X.prog) (w := X.w) (A := X.A.in1) (I.ok.hd hc) it a n2 its.toArray
    refine wpAny_pyNext_enum_itemD Dr en ⟨ti, tp⟩ hlen n1 (by simp [n1, Ne.symm n3]) fun y h' tk hy out st' pr hsz kp => ?_
    have ey : y = u := by
      have h1 : its[i]? = some y := by simpa using hy
      rw [hu] at h1
      exact (Option.some.inj h1).symm
    subst ey
    refine ⟨_, rfl, wpAny_letOwnedTupleGo_enum (s := { s with heap := h', toks := tk + 1 }) out fun h2 en2 sb => ?_⟩
    have pr2 : h2.get? s.heap.objs.size = some { cls := .type "tuple", data := .seq #[.int i tk, y] } := (sb.2 _ (Nat.ne_of_gt lte)).trans pr
    have nw : ObjOk X.prog X.w (upd H s.heap.objs.size (.tup [.int (i : Nat), x])) h2 s.heap.objs.size (.tup [.int (i : Nat), x]) :=
      ⟨(show 2 ≤ sizeLine by decide), [.int i tk, y], .cons ⟨_, rfl⟩ (.cons ru .nil), ⟨_, pr2, rfl, _, rfl⟩⟩
    have J := I.turnedNew (t' := tk + 1) (ch := [e, it]) (fun b ob hb q => (sb.2 b fun z => hb (by simp [z])).trans (kp b ob (fun z => hb (by simp [z])) (fun z => hb (by simp [z])) q)) hf (Nat.le_refl _) nw
    refine ⟨.ref s.heap.objs.size, _, J, rfl, ⟨_, x, rfl, I.hok.fresh (Nat.le_refl _), rfl, fun ys hy => by rw [I.tuple_inj hy hq]; exact hx⟩, ⟨⟨y, ?_⟩, st'.1.at fun o q => (sb.2 it (Ne.symm n1)).trans q, n1, n2, n3⟩, fun b hb => ?_⟩
    · rw [show ((i + 1 : Nat) : Int) = (i : Int) + 1 by omega]
      exact en2
    · have : b < s.heap.objs.size := by
        rcases (by simpa using hb : b = e ∨ b = it) with rfl | rfl
        · exact lte
        · exact lti
      rw [upd_ne (Nat.ne_of_lt this)]
      exact (hf b hb).1
  done := by
    intro X hP hw hK hc i pins s σ H E I hf st hg
    subst hP hw hK
    obtain ⟨⟨old, en⟩, ti, n1, n2, n3⟩ := st
    obtain ⟨xs, hq, hx⟩ := hg
    obtain ⟨its, rv, tp, _⟩ := I.tuple hq
    obtain ⟨g0, g1, g2, g3, g4, g5⟩ := hf it (by simp)
    have Dr := Draws.tuple (prog := X.prog) (w := X.w) (A := X.A.in1) (I.ok.hd hc) it a n2 its.toArray
    have hz : its.toArray.size = i := by
      have := rv.length
      simp
      omega
    exact wpAny_pyNext_enum_endD Dr en (by rw [hz]; exact ⟨ti, tp⟩) fun h' eb => ⟨rfl, I.turned (t' := s.toks) (fun b o hb q => eb b o hb q) g0 g1 g3 g4 g5⟩
  self := fun A i s Q E st h => st.1.elim fun _ en => wpAny_pyIter_enum en h
def iEnumT (K : PySem.W.Frag) (ta : TA) : TI := fun σ H R => ta σ H fun vs H1 => ∃ a xs, vs = [.ref a] ∧ SqT K H1 a xs ∧ R (IteT K a) H1
theorem pi_enumT {X : Cx} {e : Expr} {ta : TA} {p pos tpos : Pos} {elts : List Expr} {kk : Nat} (hg : Gl X "enumerate") (hm : X.mg "enumerate" = none) (ha : PA X [e] ta) (hs : starEach [e] X.env = [(false, eval e X.env)]) :
    PI X (.Tuple elts kk tpos) (.Call (.Name "enumerate" p) [e] [] pos) (iEnumT X.K ta) := by
  refine ⟨fun pins s σ H R I h => Call_ (ld_blt I hg hm boot_enumerate (PyProof.Rows.callWith_type1 (thn (ha.run pos pins s σ H _ I h) fun us s1 ⟨vs, H1, I1, r1, q1⟩ => ?_) hs rfl))⟩
  obtain ⟨a, xs, rfl, hq, q⟩ := q1
  cases Vals.ref1 r1
  obtain ⟨its, rv, tp, hz⟩ := I1.tuple hq
  have lta : a < s1.heap.objs.size := tp.elim fun _ q => Heap.lt_size q.1
  refine call_enumT tp fun h' en ti kp => wpAny_pyIter_enum en ?_
  refine ⟨s1.heap.objs.size + 1, [s1.heap.objs.size + 1, s1.heap.objs.size], _, _, H1, rfl, I1.kept (t' := s1.toks) kp, turn_enumT a _ _, ⟨⟨.none, en⟩, ti, Nat.succ_ne_self _, Nat.ne_of_lt lta, Nat.ne_of_lt (Nat.lt_succ_of_lt lta)⟩, fun b hb => ?_, q⟩
  have le : s1.heap.objs.size ≤ b := by
    rcases (by simpa using hb : b = s1.heap.objs.size + 1 ∨ b = s1.heap.objs.size) with rfl | rfl
    · exact Nat.le_succ _
    · exact Nat.le_refl _
  exact I1.fpOk le (I1.hok.fresh le)
def enumL : Nat → List D → List D
  | _, [] => []
  | i, d :: ds => .tup [.int (i : Nat), d] :: enumL (i + 1) ds
theorem enumL_len : ∀ (i : Nat) (ds : List D), (enumL i ds).length = ds.length
  | _, [] => rfl
  | i, d :: ds => by rw [enumL, List.length_cons, enumL_len, List.length_cons]
theorem enumL_get : ∀ (k : Nat) (ds : List D) (i : Nat) (d : D), ds[i]? = some d → (enumL k ds)[i]? = some (.tup [.int ((k + i : Nat) : Int), d])
  | k, e :: ds, 0, d, h => by
    cases h
    rfl
  | k, e :: ds, i + 1, d, h => by
    rw [enumL, List.getElem?_cons_succ, enumL_get (k + 1) ds i d h]
    rw [show k + 1 + i = k + (i + 1) by omega]
def dEnum : List D → Option (List D × Guard)
  | [.tup ds] => some (enumL 0 ds, none)
  | _ => none
def iEnumM (a : AM) : IM := fun env s => bnd (a env s) fun x s1 => ret (dEnum x) s1
theorem itOk_enum {K : PySem.W.Frag} {w : Wd} {a : Addr} {ds : List D} {vs : List V} (h : w.H a = some (.tup vs)) (r : RVs w ds vs) : ItOk w (IteT K a) (enumL 0 ds) none := fun w2 s2 k2 l2 _ => by
  have h2 : SqT K w2.H a vs := SqT.of (l2.tups _ _ h)
  have hl := r.length
  rw [enumL_len]
  refine ⟨fun i hi => ⟨vs, vs[i]'(by omega), h2, List.getElem?_eq_getElem (by omega)⟩, ⟨vs, h2, hl.symm⟩, fun i x H' hi ⟨p, y, e, hp, eH, ys⟩ => ?_⟩
  obtain ⟨d, g1, g2⟩ := r.get' (ys vs h2)
  subst e eH
  have lp : Le w2 (w2.put p (.tup [.int (i : Nat), y])) := Le.tup k2 hp
  refine ⟨w2.put p (.tup [.int (i : Nat), y]), .tup [.int ((0 + i : Nat) : Int), d], rfl, k2.put hp, lp, rfl, rfl, fun b o e => ?_, enumL_get 0 ds i d g1, ?_⟩
  · show upd w2.H p _ b = _
    rw [upd_ne (ne_of_none e hp)]
    exact e
  · rw [Nat.zero_add]
    exact .tup upd_same (.cons (.int _) (.cons (g2.le (l2.trans lp.toSub)) .nil))
theorem qi_enum {X : Cx} {e : Expr} {ma : AM} {p pos tpos : Pos} {elts : List Expr} {kk : Nat} (hm : X.mg "enumerate" = none) (ha : QA X [e] ma) (hg : Gl X "enumerate" := by rfl) (hs : starEach [e] X.env = [(false, eval e X.env)] := by rfl) :
    QI X (.Tuple elts kk tpos) (.Call (.Name "enumerate" p) [e] [] pos) (iEnumM ma) := pi_mono (pi_enumT hg hm ha hs) fun σ H Q ⟨w, env, s, items, g, s', e, k, ek, h, q⟩ => by
  obtain ⟨x, s1, h1, h⟩ := bnd_eq h
  obtain ⟨h3, rfl⟩ := ret_eq h
  refine ⟨w, env, s, x, s', e, k, ek, h1, fun w1 v k1 l1 r1 => ?_⟩
  unfold dEnum at h3
  split at h3
  · cases h3
    obtain ⟨v, rfl, rv⟩ := r1.one
    cases rv with
    | tup ha rs => exact ⟨_, _, rfl, SqT.of ha, q w1 _ k1 l1 (itOk_enum ha rs)⟩
  · cases h3
end Mir
/-! ## MirK -/
set_option maxHeartbeats 200000
set_option Elab.async false
set_option linter.all false
set_option maxRecDepth 100000
/-! Data: zip of a list and a tuple. -/
namespace Mir
open PySem PySem.Spec PyProof.Rows L2

abbrev zA (h : Heap) (l1 : Addr) : Heap := h.push { cls := .type "list_iterator", data := .fields #[.ref l1, .int 0 0] }
abbrev zB (h : Heap) (l1 l2 : Addr) : Heap := (zA h l1).push { cls := .type "tuple_iterator", data := .fields #[.ref l2, .int 0 0] }
abbrev zC (h : Heap) (l1 l2 : Addr) : Heap := (zB h l1 l2).push { cls := .type "tuple", data := .seq #[.ref h.objs.size, .ref (zA h l1).objs.size] }
abbrev zD (h : Heap) (l1 l2 : Addr) : Heap := (zC h l1 l2).push { cls := .type "tuple", data := .seq #[.none, .none] }
abbrev zE (h : Heap) (l1 l2 : Addr) : Heap := (zD h l1 l2).push { cls := .type "zip", data := .fields #[.none, .bool false, .bool false, .ref (zB h l1 l2).objs.size, .ref (zC h l1 l2).objs.size] }
theorem meets_zipLT (l1 l2 : Addr) (xs ys : Array Value) :
    Meets (Builtin.«zip.__new__» ⟨[.type "zip", .ref l1, .ref l2], []⟩) (fun _ R s => s.heap.IsList l1 xs ∧ s.heap.IsTuple l2 ys ∧ R (.ok (.ret (.ref (zD s.heap l1 l2).objs.size))) { s with heap := zE s.heap l1 l2 }) :=
  .of_wp fun prog w A R s h => by
    obtain ⟨hp, gn, dr, tk, os⟩ := s
    obtain ⟨a1, a2, hR⟩ := h
    have sub := sub_zip
    have li : Heap.IsList (Shared.heap ⟨hp, gn, dr, tk, os⟩) l1 xs := a1
    have ti : Heap.IsTuple (Shared.heap ⟨hp.push { cls := .type "list_iterator", data := .fields #[.ref l1, .int 0 0] }, gn, dr, tk, os⟩) l2 ys := Heap.IsTuple.push a2 _
    wp_walk using wpAny_pyIter_list li, wpAny_pyIter_tuple ti
    exact ⟨_, rfl, hR⟩
section
variable {prog : Program} {w : World} {A : Around} {E : Value → Shared → Prop} {s : Shared}
theorem call_zipLT {l1 l2 : Addr} {xs ys : Array Value} {Q : Value → Shared → Prop} (a1 : s.heap.IsList l1 xs) (a2 : s.heap.IsTuple l2 ys)
    (k : ∀ h', IsZip h' (s.heap.objs.size + 4) (s.heap.objs.size + 2) (s.heap.objs.size + 3) .none → IsTupOf2 h' (s.heap.objs.size + 2) (.ref s.heap.objs.size) (.ref (s.heap.objs.size + 1)) →
      IsTupOf2 h' (s.heap.objs.size + 3) .none .none → h'.IsListIter s.heap.objs.size l1 0 → h'.IsTupleIter (s.heap.objs.size + 1) l2 0 → (∀ c o, s.heap.get? c = some o → h'.get? c = some o) → Q (.ref (s.heap.objs.size + 4)) { s with heap := h' }) :
    wpAny (model prog w) A (call (.type "zip") [.ref l1, .ref l2]) Q E s := by
  refine callType_new F.called_zip (by decide) (F.typeCall_zip_2 _ _) (F.newCall_zip_2 _ _) (fun obj => F.args_object_init_3 obj _ _) F.entry_zip_new (meets_zipLT l1 l2 xs ys) ⟨a1, a2, ?_⟩
  have e1 : (zA s.heap l1).objs.size = s.heap.objs.size + 1 := Heap.size_push ..
  have e2 : (zB s.heap l1 l2).objs.size = s.heap.objs.size + 2 := (Heap.size_push ..).trans (congrArg (· + 1) e1)
  have e3 : (zC s.heap l1 l2).objs.size = s.heap.objs.size + 3 := (Heap.size_push ..).trans (congrArg (· + 1) e2)
  have e4 : (zD s.heap l1 l2).objs.size = s.heap.objs.size + 4 := (Heap.size_push ..).trans (congrArg (· + 1) e3)
  have up : ∀ {h : Heap} {o o' : Obj} {c : Addr}, h.get? c = some o → (h.push o').get? c = some o := fun x => Heap.get?_push_of_some _ x
  have f0 : (zE s.heap l1 l2).get? s.heap.objs.size = some _ := up (up (up (up (Heap.get?_push_size _ rfl))))
  have f1 : (zE s.heap l1 l2).get? (zA s.heap l1).objs.size = some _ := up (up (up (Heap.get?_push_size _ rfl)))
  have f2 : (zE s.heap l1 l2).get? (zB s.heap l1 l2).objs.size = some _ := up (up (Heap.get?_push_size _ rfl))
  have f3 : (zE s.heap l1 l2).get? (zC s.heap l1 l2).objs.size = some _ := up (Heap.get?_push_size _ rfl)
  have f4 : (zE s.heap l1 l2).get? (zD s.heap l1 l2).objs.size = some _ := Heap.get?_push_size _ rfl
  rw [e1] at f1
  rw [e1, e2] at f2
  rw [e3] at f3
  rw [e2, e3, e4] at f4
  show _ ∧ _
  rw [e4]
  exact ⟨⟨_, f4, rfl⟩, k _ f4 f2 f3 ⟨_, f0, rfl, rfl⟩ ⟨_, f1, rfl, rfl⟩ fun c o x => up (up (up (up (up x))))⟩
end
/-- the list at a, the tuple at b, their items in new pairs -/
def ItzLT (K : PySem.W.Frag) (a b : Addr) : It :=
  ⟨fun i H => ∃ (xs ys : List V) (x y : V), SqL K H a xs ∧ SqT K H b ys ∧ xs[i]? = some x ∧ ys[i]? = some y,
    fun i H v H' => ∃ p x y, v = .ref p ∧ H p = none ∧ H' = upd H p (.tup [x, y]) ∧ (∀ xs, SqL K H a xs → xs[i]? = some x) ∧ ∀ ys, SqT K H b ys → ys[i]? = some y,
    fun i H => ∃ xs ys : List V, SqL K H a xs ∧ SqT K H b ys ∧ xs.length = i ∧ ys.length = i⟩
theorem turn_zipLT {P : Program} {w : World} {K : PySem.W.Frag} {elts : List Expr} {kk : Nat} {tpos : Pos} {a b z TI TO i1 i2 : Addr} (S : ZipSep2 z TI TO i1 i2 [i1, a] [i2, b]) (ha : a ≠ i1) (hb : b ≠ i2) :
    Turn P w K (.Tuple elts kk tpos) (ItzLT K a b) [z, TI, TO, i1, i2] z (fun i h => IsZip h z TI TO .none ∧ IsTupOf2 h TI (.ref i1) (.ref i2) ∧ (∃ x y, IsTupOf2 h TO x y) ∧ h.IsListIter i1 a i ∧ h.IsTupleIter i2 b i) where
  mem := List.mem_cons_self
  obj := fun i h st c hc => by
    obtain ⟨zz, pi, ⟨x, y, po⟩, ⟨o1, m1, _, d1⟩, ⟨o2, m2, _, d2⟩⟩ := st
    rcases (by simpa using hc : c = z ∨ c = TI ∨ c = TO ∨ c = i1 ∨ c = i2) with rfl | rfl | rfl | rfl | rfl
    · exact ⟨_, zz, fun v q => nomatch q⟩
    · exact ⟨_, pi, fun v q => nomatch q⟩
    · exact ⟨_, po, fun v q => nomatch q⟩
    · exact ⟨o1, m1, fun v q => by rw [d1] at q; cases q⟩
    · exact ⟨o2, m2, fun v q => by rw [d2] at q; cases q⟩
  keep := fun i h h' st k => ⟨k z (by simp) _ st.1, k TI (by simp) _ st.2.1, st.2.2.1.elim fun x q => q.elim fun y po => ⟨x, y, k TO (by simp) _ po⟩, st.2.2.2.1.at fun o q => k i1 (by simp) o q, st.2.2.2.2.at fun o q => k i2 (by simp) o q⟩
  item := by
    intro X hP hw hK hc i pins s σ H E I hf st hg
    subst hP hw hK
    obtain ⟨zz, pi, ⟨x0, y0, po⟩, li, ti⟩ := st
    obtain ⟨xs, ys, x, y, hqx, hqy, hx, hy⟩ := hg
    obtain ⟨its, rv, lp, _⟩ := I.list hqx
    obtain ⟨its2, rv2, tp, _⟩ := I.tuple hqy
    obtain ⟨u, hu, ru⟩ := rv.get hx
    obtain ⟨u2, hu2, ru2⟩ := rv2.get hy
    have ltz : z < s.heap.objs.size := Heap.lt_size zz
    have b1 : i < its.toArray.size := by
      have := (List.getElem?_eq_some_iff.mp hu).1
      simpa using this
    have b2 : i < its2.toArray.size := by
      have := (List.getElem?_eq_some_iff.mp hu2).1
      simpa using this
    have D1 := Draws.list (prog := X.prog) (w := X.w) (A := X.A.in1) (I.ok.hd hc) i1 a ha its.toArray
    have D2 := Draws.tuple (prog := X.prog) (w := X.w) (A := X.A.in1) (I.ok.hd hc) i2 b hb its2.toArray
    refine wpAny_pyNext_zipD2_item S D1 D2 zz pi po ⟨li, lp.isList⟩ ⟨ti, tp⟩ b1 b2 fun v1 v2 h' tk q1 q2 zz' po' s1' s2' pr hsz kp => ?_
    have ev1 : v1 = u := by
      have e : its[i]? = some v1 := by simpa using q1
      rw [hu] at e
      exact (Option.some.inj e).symm
    have ev2 : v2 = u2 := by
      have e : its2[i]? = some v2 := by simpa using q2
      rw [hu2] at e
      exact (Option.some.inj e).symm
    subst ev1 ev2
    refine ⟨_, rfl, wpAny_letOwnedTupleGo_zip (s := { s with heap := h', toks := tk }) zz' fun h2 zz2 sb => ?_⟩
    have pr2 : h2.get? s.heap.objs.size = some { cls := .type "tuple", data := .seq #[v1, v2] } := (sb.2 _ (Nat.ne_of_gt ltz)).trans pr
    have nw : ObjOk X.prog X.w (upd H s.heap.objs.size (.tup [x, y])) h2 s.heap.objs.size (.tup [x, y]) :=
      ⟨(show 2 ≤ sizeLine by decide), [v1, v2], .cons ru (.cons ru2 .nil), ⟨_, pr2, rfl, _, rfl⟩⟩
    have J := I.turnedNew (t' := tk) (ch := [z, TI, TO, i1, i2]) (fun c o hb q => (sb.2 c fun e => hb (by simp [e])).trans (kp c o (fun e => hb (by simp [e])) (fun e => hb (by simp [e])) (fun e => hb (by simp [e])) (fun e => hb (by simp [e])) q)) hf (Nat.le_refl _) nw
    refine ⟨.ref s.heap.objs.size, _, J, rfl, ⟨_, x, y, rfl, I.hok.fresh (Nat.le_refl _), rfl, fun l hl => by rw [I.list_inj hl hqx]; exact hx, fun l hl => by rw [I.tuple_inj hl hqy]; exact hy⟩, ⟨zz2, (sb.2 _ S.TIz).trans (kp _ _ S.TIz S.TITO S.TIi1 S.TIi2 pi), ⟨v1, v2, (sb.2 _ S.TOz).trans po'⟩, s1'.1.at fun o q => (sb.2 _ (Ne.symm S.zi1)).trans q, s2'.1.at fun o q => (sb.2 _ (Ne.symm S.zi2)).trans q⟩, fun c hcm => ?_⟩
    have lt : c < s.heap.objs.size := by
      rcases (by simpa using hcm : c = z ∨ c = TI ∨ c = TO ∨ c = i1 ∨ c = i2) with rfl | rfl | rfl | rfl | rfl
      · exact ltz
      · exact Heap.lt_size pi
      · exact Heap.lt_size po
      · exact li.elim fun _ q => Heap.lt_size q.1
      · exact ti.elim fun _ q => Heap.lt_size q.1
    rw [upd_ne (Nat.ne_of_lt lt)]
    exact (hf c hcm).1
  done := by
    intro X hP hw hK hc i pins s σ H E I hf st hg
    subst hP hw hK
    obtain ⟨zz, pi, ⟨x0, y0, po⟩, li, ti⟩ := st
    obtain ⟨xs, ys, hqx, hqy, e1, e2⟩ := hg
    obtain ⟨its, rv, lp, _⟩ := I.list hqx
    obtain ⟨its2, rv2, tp, _⟩ := I.tuple hqy
    have z1 : its.toArray.size = i := by
      have := rv.length
      simp
      omega
    have z2 : its2.toArray.size = i := by
      have := rv2.length
      simp
      omega
    have D1 := Draws.list (prog := X.prog) (w := X.w) (A := X.A.in1) (I.ok.hd hc) i1 a ha its.toArray
    have D2 := Draws.tuple (prog := X.prog) (w := X.w) (A := X.A.in1) (I.ok.hd hc) i2 b hb its2.toArray
    exact wpAny_pyNext_zipD2_end S D1 D2 zz pi po (i := i) ⟨li, lp.isList⟩ ⟨ti, tp⟩ (Nat.le_of_eq z1.symm) (Nat.le_of_eq z2.symm) (.inl z1.symm) fun h' tk kp => ⟨rfl, I.turnedL (t' := tk) (ch := [z, TI, TO, i1, i2]) (fun c o hb q =>
      kp c o (fun e => hb (by simp [e])) (fun e => hb (by simp [e])) (fun e => hb (by simp [e])) (fun e => hb (by simp [e])) q) hf⟩
  self := fun A i s Q E st h => wpAny_pyIter_zip st.1 h
def iZipLT (K : PySem.W.Frag) (ta : TA) : TI := fun σ H R => ta σ H fun vs H1 => ∃ a b xs ys, vs = [.ref a, .ref b] ∧ SqL K H1 a xs ∧ SqT K H1 b ys ∧ R (ItzLT K a b) H1
theorem ad_ne {x y : Nat} (h : x ≠ y) : (show Addr from x) ≠ (show Addr from y) := h
theorem nm2 {x y z : Addr} (h1 : x ≠ y) (h2 : x ≠ z) : x ∉ [y, z] := fun m => by
  rcases (by simpa using m : x = y ∨ x = z) with e | e
  · exact h1 e
  · exact h2 e
theorem sep_new (N a b : Nat) (ha : a < N) (hb : b < N) : ZipSep2 (N + 4) (N + 2) (N + 3) N (N + 1) [N, a] [N + 1, b] :=
  ⟨ad_ne (by omega), ad_ne (by omega), ad_ne (by omega), ad_ne (by omega), by simp, nm2 (ad_ne (by omega)) (ad_ne (by omega)), nm2 (ad_ne (by omega)) (ad_ne (by omega)),
    ad_ne (by omega), by simp, nm2 (ad_ne (by omega)) (ad_ne (by omega)), nm2 (ad_ne (by omega)) (ad_ne (by omega)), nm2 (ad_ne (by omega)) (ad_ne (by omega)), nm2 (ad_ne (by omega)) (ad_ne (by omega))⟩
theorem pi_zipLT {X : Cx} {e e2 : Expr} {ta : TA} {p pos tpos : Pos} {elts : List Expr} {kk : Nat} (hg : Gl X "zip") (hm : X.mg "zip" = none) (ha : PA X [e, e2] ta)
    (hs : starEach [e, e2] X.env = (false, eval e X.env) :: starEach [e2] X.env) (hpl : (backTo pos (starEach [e2] X.env)).any (·.1) = false) : PI X (.Tuple elts kk tpos) (.Call (.Name "zip" p) [e, e2] [] pos) (iZipLT X.K ta) := by
  refine ⟨fun pins s σ H R I h => Call_ (ld_blt I hg hm PyProof.Rows.boot_zip (PyProof.Rows.callWith_type1 (thn (ha.run pos pins s σ H _ I h) fun us s1 ⟨vs, H1, I1, r1, q1⟩ => ?_) hs hpl))⟩
  obtain ⟨a, b, xs, ys, rfl, hqx, hqy, q⟩ := q1
  obtain ⟨u1, u2, rfl, t1, t2⟩ := vals2 r1
  cases t1
  cases t2
  obtain ⟨its, rv, lp, _⟩ := I1.list hqx
  obtain ⟨its2, rv2, tp, _⟩ := I1.tuple hqy
  have lta : a < s1.heap.objs.size := lp.lt
  have ltb : b < s1.heap.objs.size := tp.elim fun _ q => Heap.lt_size q.1
  refine call_zipLT lp.isList tp fun h' zz pi po li ti kp => wpAny_pyIter_zip zz ?_
  refine ⟨s1.heap.objs.size + 4, [s1.heap.objs.size + 4, s1.heap.objs.size + 2, s1.heap.objs.size + 3, s1.heap.objs.size, s1.heap.objs.size + 1], _, _, H1, rfl, I1.kept (t' := s1.toks) kp,
    turn_zipLT (sep_new _ a b lta ltb) (Nat.ne_of_lt lta) (Nat.ne_of_lt (Nat.lt_succ_of_lt ltb)), ⟨zz, pi, ⟨_, _, po⟩, li, ti⟩, fun c hcm => ?_, q⟩
  have le : s1.heap.objs.size ≤ c := by
    rcases (by simpa using hcm : c = s1.heap.objs.size + 4 ∨ c = s1.heap.objs.size + 2 ∨ c = s1.heap.objs.size + 3 ∨ c = s1.heap.objs.size ∨ c = s1.heap.objs.size + 1) with rfl | rfl | rfl | rfl | rfl
    · exact Nat.le_add_right _ 4
    · exact Nat.le_add_right _ 2
    · exact Nat.le_add_right _ 3
    · exact Nat.le_refl _
    · exact Nat.le_add_right _ 1
  exact I1.fpOk le (I1.hok.fresh le)
def zipL : List D → List D → List D
  | d :: ds, e :: es => .tup [d, e] :: zipL ds es
  | _, _ => []
theorem zipL_len : ∀ (ds es : List D), ds.length = es.length → (zipL ds es).length = ds.length
  | [], [], _ => rfl
  | d :: ds, e :: es, h => by rw [zipL, List.length_cons, zipL_len ds es (by simpa using h), List.length_cons]
theorem zipL_get : ∀ (ds es : List D) (i : Nat) (d e : D), ds[i]? = some d → es[i]? = some e → (zipL ds es)[i]? = some (.tup [d, e])
  | d :: ds, e :: es, 0, _, _, h1, h2 => by
    cases h1; cases h2
    rfl
  | d :: ds, e :: es, i + 1, x, y, h1, h2 => by
    rw [zipL, List.getElem?_cons_succ]
    exact zipL_get ds es i x y h1 h2
def dZip (s : MS) : List D → Option (List D × Guard)
  | [.ref r, .tup es] => match s.st[r]? with
    | some xs => if xs.length = es.length then some (zipL xs es, some (r, xs)) else none
    | none => none
  | _ => none
def iZipM (a : AM) : IM := fun env s => bnd (a env s) fun x s1 => ret (dZip s1 x) s1
theorem itOk_zip {K : PySem.W.Frag} {w : Wd} {a b : Addr} {rr : Nat} {ds es : List D} {us : List V} (h : w.r[rr]? = some a) (hb : w.H b = some (.tup us)) (re : RVs w es us) (hl : ds.length = es.length) : ItOk w (ItzLT K a b) (zipL ds es) (some (rr, ds)) := fun w2 s2 k2 l2 hg => by
  obtain ⟨b1, vs, h1, h2, h3⟩ := k2.lst rr ds (gOk_get hg)
  rw [l2.ix h] at h1
  cases h1
  have hq : SqL K w2.H a vs := SqL.of h2
  have hqt : SqT K w2.H b us := SqT.of (l2.tups _ _ hb)
  have e1 := h3.length
  have e2 := re.length
  rw [zipL_len _ _ hl]
  refine ⟨fun i hi => ⟨vs, us, vs[i]'(by omega), us[i]'(by omega), hq, hqt, List.getElem?_eq_getElem (by omega), List.getElem?_eq_getElem (by omega)⟩, ⟨vs, us, hq, hqt, by omega, by omega⟩, fun i x H' hi ⟨p, y, y2, e, hp, eH, yx, yy⟩ => ?_⟩
  obtain ⟨d, g1, g2⟩ := h3.get' (yx vs hq)
  obtain ⟨d2, f1, f2⟩ := re.get' (yy us hqt)
  subst e eH
  have lp : Le w2 (w2.put p (.tup [y, y2])) := Le.tup k2 hp
  refine ⟨w2.put p (.tup [y, y2]), .tup [d, d2], rfl, k2.put hp, lp, rfl, rfl, fun c o e => ?_, zipL_get ds es i d d2 g1 f1, .tup upd_same (.cons (g2.le lp.toSub) (.cons (f2.le (l2.trans lp.toSub)) .nil))⟩
  show upd w2.H p _ c = _
  rw [upd_ne (ne_of_none e hp)]
  exact e
theorem qi_zip {X : Cx} {e e2 : Expr} {ma : AM} {p pos tpos : Pos} {elts : List Expr} {kk : Nat} (hm : X.mg "zip" = none) (ha : QA X [e, e2] ma) (hg : Gl X "zip" := by rfl)
    (hs : starEach [e, e2] X.env = (false, eval e X.env) :: starEach [e2] X.env := by rfl) (hpl : (backTo pos (starEach [e2] X.env)).any (·.1) = false := by rfl) :
    QI X (.Tuple elts kk tpos) (.Call (.Name "zip" p) [e, e2] [] pos) (iZipM ma) := pi_mono (pi_zipLT hg hm ha hs hpl) fun σ H Q ⟨w, env, s, items, g, s', e, k, ek, h, q⟩ => by
  obtain ⟨x, s1, h1, h⟩ := bnd_eq h
  obtain ⟨h3, rfl⟩ := ret_eq h
  refine ⟨w, env, s, x, s', e, k, ek, h1, fun w1 v k1 l1 r1 => ?_⟩
  unfold dZip at h3
  split at h3
  · split at h3
    · rename_i xs hx
      split at h3
      · rename_i hl
        cases h3
        obtain ⟨v, u, rfl, rv, ru⟩ := r1.two
        obtain ⟨a, vs, rfl, g1, g2, g3⟩ := rv.list k1 hx
        cases ru with
        | tup hb rb => exact ⟨_, _, _, _, rfl, SqL.of g2, SqT.of hb, q w1 _ k1 l1 (itOk_zip g1 hb rb hl)⟩
      · cases h3
    · cases h3
  · cases h3
end Mir
/-! ## MirL -/
set_option maxHeartbeats 200000
set_option Elab.async false
set_option linter.all false
set_option maxRecDepth 100000
/-! Data: the seat's draw; the law's own words told by hand. -/
namespace Mir
open PySem PySem.Spec PyProof.Rows L2
/-- a draw below most: the number, the seat behind -/
def drawn (gs : List Int) (mix most : Int) : Int × List Int × Int := match gs with
  | n :: r => (n % most, if n < most then r else n / most :: r, mix)
  | [] => (mix * 62089911 % 2147483489 / 41 % most, [], mix * 62089911 % 2147483489)
def F_L_next : MF
  | [.seat, .int most], s => match s.seat with
    | some (gs, mix) => if 0 < most ∧ most < 1000000 then some (.int (drawn gs mix most).1, { s with seat := some (drawn gs mix most).2 }) else none
    | none => none
  | _, _ => none
theorem no_some {α : Type} {a : α} {p : Prop} (h : (none : Option α) = some a) : p := by cases h
end Mir
/-! ## HeadF -/
set_option maxHeartbeats 200000
set_option Elab.async false
set_option linter.all false
set_option maxRecDepth 100000
/-! The head's facts: a light part of the heap, the error class. -/
namespace Mir
open PySem PySem.Spec PyProof.Rows L2

/-- what the error class must have (its __init__ apart) -/
def oexB (K : PySem.W.Frag) (C : Addr) : Bool := match K.lookup C with
  | some ⟨.type "type", _, .cls cd, sl⟩ => (match cd.mro, sl.toList with
    | .ref C' :: bm, [_, _, _, _, some (.builtin n), _] => decide (C' = C) && (decide (n = "ValueError.__new__") && (!cd.hasDel && (cd.hasDict && PySem.HandSPX.refsVE bm)))
    | _, _ => false)
  | _ => false
theorem oexB_ok {K : PySem.W.Frag} {C : Addr} (q : oexB K C = true) : ∃ nm q N bs bm sn sub ab col dd k0 k1 k2 k3 k5, K.lookup C = some (excClassObj nm q C N bs bm true sn sub ab col dd k0 k1 k2 k3 k5 "ValueError.__new__") ∧ PySem.HandSPX.refsVE bm = true := by
  unfold oexB at q
  split at q
  · rename_i dd cd sl ho
    split at q
    · rename_i C' bm k0 k1 k2 k3 n k5 hm hs
      simp only [Bool.and_eq_true, decide_eq_true_eq, Bool.not_eq_true'] at q
      obtain ⟨rfl, rfl, hdel, hdi, ht⟩ := q
      obtain ⟨nm, bs, mro, ns, qn, hd, sn, sub, ab, col, del⟩ := cd
      dsimp only at hm hdel hdi
      subst hm hdel hdi
      have hsl : sl = #[k0, k1, k2, k3, some (.builtin "ValueError.__new__"), k5] := by
        obtain ⟨l⟩ := sl
        simp only at hs
        rw [hs]
      subst hsl
      exact ⟨nm, qn, ns, bs, bm, sn, sub, ab, col, dd, k0, k1, k2, k3, k5, ho, ht⟩
    · cases q
  · cases q
def excB (K : PySem.W.Frag) (x : Str) : Bool := oexB K (He.ga K x) && (He.eqO (PySem.W.findIn K (.ref (He.ga K x)) "__setattr__") (some (some (.builtin "object.__setattr__"))) && (decide (PySem.W.subIn K (.ref (He.ga K x)) (.type "BaseException") = some true) &&
  (decide (PySem.W.typeIn K (.ref (He.ga K x)) = some (.type "type")) && (PySem.W.keepIn K (.ref (He.ga K x)) && (He.eqO (PySem.W.findIn K (.ref (He.ga K x)) "word") (some none) && (He.eqO (PySem.W.findIn K (.ref (He.ga K x)) "at") (some none) &&
  (He.eqO (PySem.W.findIn K (.ref (He.ga K x)) "__init__") (some (some (.ref (He.ma K (He.ga K x) "__init__")))) && (decide (PySem.W.typeIn K (.ref (He.ma K (He.ga K x) "__init__")) = some (.type "function")) &&
  (xfB K (He.ga K x) && decide (PySem.W.exmOne K (.ref (He.ga K x)) (.ref (He.ga K x)) = some true))))))))))
/-- the error class, at C, its __init__ at fI -/
structure ErrC (K : PySem.W.Frag) (mg : Str → Option Value) (x : Str) (C fI : Addr) : Prop where
  oex : OexC K C
  noW : PySem.W.findIn K (.ref C) "word" = some none
  noA : PySem.W.findIn K (.ref C) "at" = some none
  iC : PySem.W.findIn K (.ref C) "__init__" = some (some (.ref fI))
  tI : PySem.W.typeIn K (.ref fI) = some (.type "function")
  xf : XfC K C
  te : PySem.W.exmOne K (.ref C) (.ref C) = some true
  g : mg x = some (.ref C)
theorem excB_ok {K : PySem.W.Frag} {mg : Str → Option Value} {x : Str} (h : excB K x = true) (g : mg x = some (.ref (He.ga K x))) : ErrC K mg x (He.ga K x) (He.ma K (He.ga K x) "__init__") := by
  obtain ⟨h1, h⟩ := He.ba h
  obtain ⟨h2, h⟩ := He.ba h
  obtain ⟨h3, h⟩ := He.ba h
  obtain ⟨h4, h⟩ := He.ba h
  obtain ⟨h5, h⟩ := He.ba h
  obtain ⟨h6, h⟩ := He.ba h
  obtain ⟨h7, h⟩ := He.ba h
  obtain ⟨h8, h⟩ := He.ba h
  obtain ⟨h9, h⟩ := He.ba h
  obtain ⟨h10, h11⟩ := He.ba h
  exact ⟨⟨oexB_ok h1, He.eqO_ok h2, of_decide_eq_true h3, of_decide_eq_true h4, h5⟩, He.eqO_ok h6, He.eqO_ok h7, He.eqO_ok h8, of_decide_eq_true h9, xfB_ok h10, of_decide_eq_true h11, g⟩

/-! ### a light part of the heap: the module's names, what these name -/
def refsG (g : Addr → Option Obj) (a : Addr) : List Addr := match g a with
  | some o => (match o.data with
    | .func fd => He.refV fd.code
    | .cls cd => cd.ns :: cd.mro.flatMap He.refV
    | .dict es _ => es.toList.flatMap fun e => He.refV e.val
    | _ => [])
  | none => []
def asM (g : Addr → Option Obj) : List Addr :=
  let l1 := refsG g mainGlobals
  let l2 := l1.flatMap (refsG g)
  let l3 := l2.flatMap fun a => (match g a with
    | some o => (match o.data with
      | .dict _ _ => refsG g a
      | _ => [])
    | none => [])
  let l4 := l3.flatMap (refsG g)
  mainGlobals :: l1 ++ l2 ++ l3 ++ l4
/-- a def is another row of the same promise -/
theorem fun_of {K : PySem.W.Frag} {x qual : Str} {st : Stmt} {f : Addr} {fd : FuncData} (F : FunD K x qual (defArgs st) (defBody st) (defScope st) [] [] f fd) : Fun K x qual st f fd := by
  obtain ⟨oc, od, dV, kV, doc, pm, an, cdv, ct, osl, e, lk, hc, hd, _⟩ := F.ex
  rcases hd with ⟨_, rfl⟩ | ⟨hne, _⟩
  · exact ⟨⟨oc, od, kV, doc, pm, an, cdv, ct, osl, e, lk, hc⟩, F.kp⟩
  · exact absurd rfl hne
end Mir
/-! ## HeadA -/
set_option Elab.async false
set_option linter.all false
set_option maxRecDepth 100000
set_option maxHeartbeats 0
namespace Mir
open PySem PySem.Spec PyProof.Rows L2
def loose0 : List PySem.Str := ["__name__", "LaterError", "DealError", "NotUsable", "usable", "whole", "is_pair", "primes_in", "turns_in", "factor_of", "moves_in", "edge_in", "spots_in", "is_integer", "is_number", "is_move", "is_moves", "divides", "is_part", "moves_many", "turns_many", "does_move", "last_edge", "is_deal", "judge_deal", "part_size", "is_kept", "want_deal", "want_two", "want_many"]
def loose1 : List PySem.Str := ["want_part", "want_part_b_wants", "want_kept", "factor_at", "number_of", "move_at", "all_moves", "settled", "idle_deal", "deal_on", "usable_part", "folded_clock", "folded_move", "folded_numbers", "folded_deal", "MOST", "in_range", "primes_of", "dealt", "dealt_again", "is_even", "is_moved", "moved_part", "folds_evenly", "divides_total", "even_after", "first_unlike", "even_paper", "want_part_c_wants", "parts_cover"]
def loose2 : List PySem.Str := ["are_deals", "row_after", "_law_begin", "_law_next", "_law_same", "_law_divisors", "_law_units", "_law_edge", "_law_pieces", "_law_world", "_law_times", "_law_level", "_law_row", "_law_moved", "_law_on_turns", "_law_traceless", "_law_sevens", "_law_clock", "_law_weights", "_law_moved_totals", "_law_undivided", "_law_of_weights", "_law_set", "_law_of_sets", "_law_part", "_law_of_parts"]
def looseAll : List PySem.Str := loose0 ++ loose1 ++ loose2
def dOf (x n : Str) (i : Nat) : He.DefD := ⟨(x, none), n, n, defArgs (topS i), defBody (topS i), defScope (topS i), [], []⟩
def fnAll : List He.DefD := [dOf "usable" "usable" 6, dOf "whole" "whole" 7, dOf "is_pair" "is_pair" 8, dOf "primes_in" "primes_in" 9, dOf "turns_in" "turns_in" 10, dOf "factor_of" "factor_of" 11, dOf "moves_in" "moves_in" 12, dOf "edge_in" "edge_in" 13, dOf "spots_in" "spots_in" 14, dOf "is_integer" "is_integer" 16, dOf "is_number" "is_number" 17, dOf "is_move" "is_move" 18, dOf "is_moves" "is_moves" 19, dOf "divides" "divides" 20, dOf "is_part" "is_part" 21, dOf "moves_many" "moves_many" 23, dOf "turns_many" "turns_many" 24, dOf "does_move" "does_move" 25, dOf "last_edge" "last_edge" 26, dOf "is_deal" "is_deal" 28, dOf "judge_deal" "judge_deal" 30, dOf "part_size" "part_size" 32, dOf "is_kept" "is_kept" 33, dOf "want_deal" "want_deal" 35, dOf "want_two" "want_two" 36, dOf "want_many" "want_many" 37, dOf "want_part_b_wants" "want_part" 38, dOf "want_kept" "want_kept" 40, dOf "factor_at" "factor_at" 42, dOf "number_of" "number_of" 43, dOf "move_at" "move_at" 44, dOf "all_moves" "all_moves" 45, dOf "settled" "settled" 47, dOf "idle_deal" "idle_deal" 48, dOf "deal_on" "deal_on" 49, dOf "usable_part" "usable_part" 51, dOf "folded_clock" "folded_clock" 52, dOf "folded_move" "folded_move" 53, dOf "folded_numbers" "folded_numbers" 55, dOf "folded_deal" "folded_deal" 56, dOf "in_range" "in_range" 59, dOf "primes_of" "primes_of" 60, dOf "dealt" "dealt" 62, dOf "dealt_again" "dealt_again" 63, dOf "is_even" "is_even" 65, dOf "is_moved" "is_moved" 67, dOf "moved_part" "moved_part" 68, dOf "folds_evenly" "folds_evenly" 69, dOf "divides_total" "divides_total" 70, dOf "even_after" "even_after" 72, dOf "first_unlike" "first_unlike" 74, dOf "even_paper" "even_paper" 75, dOf "want_part_c_wants" "want_part" 77, dOf "parts_cover" "parts_cover" 80, dOf "are_deals" "are_deals" 82, dOf "row_after" "row_after" 83, dOf "_law_begin" "_law_begin" 85, dOf "_law_next" "_law_next" 86, dOf "_law_same" "_law_same" 87, dOf "_law_divisors" "_law_divisors" 88, dOf "_law_units" "_law_units" 89, dOf "_law_edge" "_law_edge" 90, dOf "_law_pieces" "_law_pieces" 91, dOf "_law_world" "_law_world" 92, dOf "_law_times" "_law_times" 93, dOf "_law_level" "_law_level" 94, dOf "_law_row" "_law_row" 95, dOf "_law_moved" "_law_moved" 96, dOf "_law_on_turns" "_law_on_turns" 97, dOf "_law_traceless" "_law_traceless" 98, dOf "_law_sevens" "_law_sevens" 99, dOf "_law_clock" "_law_clock" 100, dOf "_law_weights" "_law_weights" 101, dOf "_law_moved_totals" "_law_moved_totals" 102, dOf "_law_undivided" "_law_undivided" 103, dOf "_law_of_weights" "_law_of_weights" 104, dOf "_law_set" "_law_set" 105, dOf "_law_of_sets" "_law_of_sets" 106, dOf "_law_part" "_law_part" 107, dOf "_law_of_parts" "_law_of_parts" 108, dOf "law" "law" 109, ⟨("NotUsable", some "__init__"), "__init__", "NotUsable.__init__", defArgs (inClass (topS 4) 0), defBody (inClass (topS 4) 0), defScope (inClass (topS 4) 0), [], []⟩]
def faAll : List He.Fa := [.glo "usable", .glo "whole", .glo "is_pair", .glo "primes_in", .glo "turns_in", .glo "factor_of", .glo "moves_in", .glo "edge_in", .glo "spots_in", .glo "is_integer", .glo "is_number", .glo "is_move", .glo "is_moves", .glo "divides", .glo "is_part", .glo "moves_many", .glo "turns_many", .glo "does_move", .glo "last_edge", .glo "is_deal", .glo "judge_deal", .glo "part_size", .glo "is_kept", .glo "want_deal", .glo "want_two", .glo "want_many", .glo "want_part_b_wants", .glo "want_kept", .glo "factor_at", .glo "number_of", .glo "move_at", .glo "all_moves", .glo "settled", .glo "idle_deal", .glo "deal_on", .glo "usable_part", .glo "folded_clock", .glo "folded_move", .glo "folded_numbers", .glo "folded_deal", .glo "in_range", .glo "primes_of", .glo "dealt", .glo "dealt_again", .glo "is_even", .glo "is_moved", .glo "moved_part", .glo "folds_evenly", .glo "divides_total", .glo "even_after", .glo "first_unlike", .glo "even_paper", .glo "want_part_c_wants", .glo "parts_cover", .glo "are_deals", .glo "row_after", .glo "_law_begin", .glo "_law_next", .glo "_law_same", .glo "_law_divisors", .glo "_law_units", .glo "_law_edge", .glo "_law_pieces", .glo "_law_world", .glo "_law_times", .glo "_law_level", .glo "_law_row", .glo "_law_moved", .glo "_law_on_turns", .glo "_law_traceless", .glo "_law_sevens", .glo "_law_clock", .glo "_law_weights", .glo "_law_moved_totals", .glo "_law_undivided", .glo "_law_of_weights", .glo "_law_set", .glo "_law_of_sets", .glo "_law_part", .glo "_law_of_parts", .glo "law", .free "len", .free "range", .free "isinstance", .free "int", .free "bool", .free "tuple", .free "str", .free "list", .free "abs", .free "sum", .free "min", .free "all", .free "enumerate", .free "zip", .free "sorted", .int "MOST" 10000, .glo "NotUsable"]
def exAll (K : PySem.W.Frag) : Bool := He.eqO (PySem.W.nsIn K mainGlobals "gcd") (some (some (.builtin "math.gcd"))) && excB K "NotUsable"
def fragE (g : Addr → Option Obj) : PySem.W.Frag := He.frG g (asM g)
def oK1 (K : PySem.W.Frag) : Bool := (faAll.all fun f => f.ok K) && exAll K
def oK2 (K : PySem.W.Frag) : Bool := fnAll.all fun d => d.ok K
def oK3 (K : PySem.W.Frag) : List He.FnW := fnAll.map fun d => He.fnW K d.at_
abbrev AlE : Type := Bool × Bool × List He.FnW
def oKs (K : PySem.W.Frag) : AlE := (oK1 K, oK2 K, oK3 K)
def obsE (g : Addr → Option Obj) : AlE := oKs (fragE g)
def SaysE (K : PySem.W.Frag) : Prop := (faAll.all fun f => f.ok K) = true ∧ exAll K = true ∧ (fnAll.all fun d => d.ok K) = true ∧ (fnAll.map fun d => He.fnW K d.at_) = fnAll.map He.DefD.val
def hookE : PySem.W.Hook where
  α := AlE
  obs := fun s => obsE s.heap.get?
  val := fun _ => (true, true, fnAll.map He.DefD.val)
  says := fun _ h => ∃ K : PySem.W.Frag, K.In h ∧ SaysE K
  of := fun _ s e => ⟨fragE s.heap.get?, He.frG_in, (He.ba (congrArg (fun z : AlE => z.1) e)).1, (He.ba (congrArg (fun z : AlE => z.1) e)).2, congrArg (fun z : AlE => z.2.1) e, congrArg (fun z : AlE => z.2.2) e⟩
  keeps := fun _ _ _ ⟨K, hK, c⟩ k => ⟨K, PySem.W.Frag.In.keeps hK k, c⟩
theorem obsE_eq {g : Addr → Option Obj} {s : Shared} (h : ∀ a, g a = s.heap.get? a) : obsE g = hookE.obs s := by
  have e : g = s.heap.get? := funext h
  rw [e] <;> rfl
abbrev Rw : PySem.W.OpenRow := PySem.W.OpenLaw.row PySem.Challenge.rw_evenlater_k64_whole_totals_of_what_comes
def obE (s : PySem.W.SharedT) : AlE := obsE (HandSHeadRun.getT s)
theorem obE_eq (s : PySem.W.SharedT) : obE s = hookE.obs s.abs := obsE_eq (HandSHeadRun.getT_eq s)
noncomputable def runW (w : World) : Option (Shared × PySem.W.SharedT) := HandSHeadRun.wholeF (fun p => HandSHeadRun.stepQ (HandSHeadRun.denQ HandSHeadRun.tabQ) p w) HandSHeadRun.fenceQ 4000 Rw.prog
theorem run1 (w : World) : (runW w).map (fun x => (HandSHeadRun.looksF Rw.prog x.1.heap x.2.abs, HandSHeadRun.seenQ (PySem.W.view Rw.prog [0, 109]) looseAll (importedModules Rw.prog.main.body) (fun s => PySem.W.xlAt (PySem.W.view Rw.prog [0, 109]) [] s && PySem.W.recOk Rw.toRowW.records s) x.2.abs)) = some (true, PySem.W.openGood (PySem.W.view Rw.prog [0, 109]) looseAll) := by kernel_rfl
theorem run2 (w : World) : (runW w).map (fun x => obE x.2) = some (true, true, fnAll.map He.DefD.val) := by kernel_rfl
theorem runE (w : World) : HandSHeadRun.RunEqI Rw (PySem.W.view Rw.prog [0, 109]) hookE obE 4000 looseAll w := by
  have h1 := run1 w
  have h2 := run2 w
  unfold runW at h1 h2
  unfold HandSHeadRun.RunEqI
  generalize HandSHeadRun.wholeF (fun p => HandSHeadRun.stepQ (HandSHeadRun.denQ HandSHeadRun.tabQ) p w) HandSHeadRun.fenceQ 4000 Rw.prog = o at h1 h2 ⊢
  rw [show hookE.val w = (true, true, fnAll.map He.DefD.val) from rfl]
  obtain ⟨x, hx, e1⟩ := Option.map_eq_some_iff.mp h1
  subst hx
  have e2 := Option.some.inj h2
  obtain ⟨e3, e4⟩ := Prod.mk.inj e1
  refine congrArg some (Prod.ext e3 (Prod.ext e4 e2))
end Mir
/-! ## HeadB -/
set_option Elab.async false
set_option linter.all false
set_option maxRecDepth 100000
set_option maxHeartbeats 4000000
/-! The statement from the law's walk. -/
namespace Mir
open PySem PySem.W PySem.Calls PyProof.Rows
abbrev LawD : DefRec := HandSHeadRun.topDef (OpenLaw.row PySem.Challenge.rw_evenlater_k64_whole_totals_of_what_comes).prog 109
abbrev LawQ : Program := view (OpenLaw.row PySem.Challenge.rw_evenlater_k64_whole_totals_of_what_comes).prog [0, 109]
theorem law_name : LawD.name = ("law" : PySem.Str) := by kernel_rfl
theorem law_dfl : LawD.params.defaults = [] := by kernel_rfl
theorem holds_of (hc : WalkO LawQ looseAll (XL LawQ []) hookE.says (OpenLaw.row PySem.Challenge.rw_evenlater_k64_whole_totals_of_what_comes).toRowW LawD [] fun f vs => PySem.call f vs) : PySem.Challenge.rw_evenlater_k64_whole_totals_of_what_comes.Holds := by
  w_on; o_law
  refine HandSHeadRun.head_imp (r := OpenLaw.row PySem.Challenge.rw_evenlater_k64_whole_totals_of_what_comes) (q := LawQ) (H := hookE) (ob := obE) (M := 4000) (loose := looseAll) (d := LawD) (kwd := []) obE_eq runE
    (by kernel_rfl) (by kernel_rfl) (by kernel_rfl) (by rfl) (by first | assumption | decide +kernel) (by decide +kernel) ⟨rfl, rfl, rfl, rfl, rfl, by decide +kernel⟩ ?hw hc
  case hw => w_witness2
end Mir
/-! ## WDefs -/
set_option Elab.async false
set_option linter.all false
set_option maxRecDepth 100000
set_option maxHeartbeats 4000000
namespace Mir
open PySem PySem.Spec PyProof.Rows L2

/-! ### usable -/
abbrev s_usable : Stmt := topS 6
abbrev n_usable : List Str := ["good", "word"]
def b_usable : SM := (sIf (tNotM (tOf (eVar 0))) sNever sNil)
def F_usable : MF := runDef 2 2 b_usable
/-! ### whole -/
abbrev s_whole : Stmt := topS 7
abbrev n_whole : List Str := ["thing"]
def b_whole : SM := (sRet (eAnd (e1 (fun d => some (.bl (dIsi .int d))) (eVar 0)) (eNot (e1 (fun d => some (.bl (dIsi .bool d))) (eVar 0)))))
def F_whole : MF := runDef 1 1 b_whole
/-! ### is_pair -/
abbrev s_is_pair : Stmt := topS 8
abbrev n_is_pair : List Str := ["thing"]
def b_is_pair : SM := (sRet (eAnd (e1 (fun d => some (.bl (dIsi .tuple d))) (eVar 0)) (e2 dEq (eCB fLen (aCons (eVar 0) aNil)) (eC (.int 2)))))
def F_is_pair : MF := runDef 1 1 b_is_pair
/-! ### primes_in -/
abbrev s_primes_in : Stmt := topS 9
abbrev n_primes_in : List Str := ["number", "found", "rest", "trial"]
def b_primes_in : SM := (sSeq (sSet 1 (eLst aNil))
    (sSeq (sSet 2 (eVar 0))
    (sSeq (sSet 3 (eC (.int 2)))
    (sSeq (sWhile (tOf (e2 dLe (e2 dMul (eVar 3) (eVar 3)) (eVar 2))) (sSeq (sIf (tOf (e2 dEq (e2 dMod (eVar 2) (eVar 3)) (eC (.int 0)))) (sSeq (sDrop (eApp (eVar 1) (eVar 3)))
    (sWhile (tOf (e2 dEq (e2 dMod (eVar 2) (eVar 3)) (eC (.int 0)))) (sSet 2 (e2 dDiv (eVar 2) (eVar 3))) 200)) sNil)
    (sAug 3 dAdd (eC (.int 1)))) 200)
    (sSeq (sIf (tOf (e2 dGt (eVar 2) (eC (.int 1)))) (sDrop (eApp (eVar 1) (eVar 2))) sNil)
    (sRet (eCB fTuple (aCons (eVar 1) aNil))))))))
def F_primes_in : MF := runDef 1 4 b_primes_in
/-! ### turns_in -/
abbrev s_turns_in : Stmt := topS 10
abbrev n_turns_in : List Str := ["clock", "turns", "mover", "_"]
def b_turns_in : SM := (sSeq (sSet 1 (eC (.int 1)))
    (sSeq (sFor (iTupM (eIx (eVar 0) (eC (.int 1)))) (gtTup 2 (gtCons (gtName 2) (gtCons (gtName 3) gtNil))) (sSet 1 (e2 dMul (eVar 1) (eVar 2))))
    (sRet (eVar 1))))
def F_turns_in : MF := runDef 1 4 b_turns_in
/-! ### factor_of -/
abbrev s_factor_of : Stmt := topS 11
abbrev n_factor_of : List Str := ["clock", "turn", "beats", "movers", "told", "mover", "root", "_"]
def b_factor_of : SM := (sSeq (sAsg (eVar 0) (gtTup 2 (gtCons (gtName 2) (gtCons (gtName 3) gtNil))))
    (sSeq (sSet 4 (e2 dMod (eC (.int 1)) (eVar 2)))
    (sSeq (sFor (iTupM (eVar 3)) (gtTup 2 (gtCons (gtName 5) (gtCons (gtName 6) gtNil))) (sFor (iRng1M (aCons (e2 dMod (eVar 1) (eVar 5)) aNil)) (gtName 7) (sSet 4 (e2 dMod (e2 dMul (eVar 4) (eVar 6)) (eVar 2)))))
    (sRet (eVar 4)))))
def F_factor_of : MF := runDef 2 8 b_factor_of
/-! ### moves_in -/
abbrev s_moves_in : Stmt := topS 12
abbrev n_moves_in : List Str := ["clock", "turn", "shift"]
def b_moves_in : SM := (sRet (eComp2 [1, 2] [2] (iRng1M (aCons (eCB (callN F_turns_in) (aCons (eVar 0) aNil)) aNil)) (gtName 1) (iRng1M (aCons (eIx (eVar 0) (eC (.int 0))) aNil)) (gtName 2) (eTup (aCons (eVar 2) (aCons (eVar 1) aNil)))))
def F_moves_in : MF := runDef 1 3 b_moves_in
/-! ### edge_in -/
abbrev s_edge_in : Stmt := topS 13
abbrev n_edge_in : List Str := ["clock", "a", "edge", "mover", "root"]
def b_edge_in : SM := (sSeq (sSet 2 (eC (.int 1)))
    (sSeq (sFor (iTupM (eIx (eVar 0) (eC (.int 1)))) (gtTup 2 (gtCons (gtName 3) (gtCons (gtName 4) gtNil))) (sIf (tOf (e2 dNe (e2 dMod (e2 dSub (eVar 4) (eC (.int 1))) (eVar 1)) (eC (.int 0)))) (sSet 2 (e2 dMul (eVar 2) (eVar 3))) sNil))
    (sRet (eVar 2))))
def F_edge_in : MF := runDef 2 5 b_edge_in
/-! ### spots_in -/
abbrev s_spots_in : Stmt := topS 14
abbrev n_spots_in : List Str := ["clock", "a", "f", "beats", "movers", "many", "prime", "moved", "mover", "root"]
def b_spots_in : SM := (sSeq (sAsg (eVar 0) (gtTup 2 (gtCons (gtName 3) (gtCons (gtName 4) gtNil))))
    (sSeq (sSet 5 (eC (.int 1)))
    (sSeq (sFor (iTupM (eCB (callN F_primes_in) (aCons (e2 dDiv (eVar 3) (eVar 1)) aNil))) (gtName 6) (sSeq (sSet 7 (eComp [8, 9] (iTupM (eVar 4)) (gtTup 2 (gtCons (gtName 8) (gtCons (gtName 9) gtNil))) (tAndM (tOf (e2 dEq (e2 dMod (eVar 2) (eVar 8)) (eC (.int 0)))) (tOf (e2 dNe (e2 dMod (e2 dSub (eVar 9) (eC (.int 1))) (eVar 6)) (eC (.int 0))))) (eVar 8)))
    (sIf (tLst' (eVar 7)) (sSet 5 (e2 dMul (eVar 5) (eVar 6))) sNil)))
    (sRet (eVar 5)))))
def F_spots_in : MF := runDef 3 10 b_spots_in
/-! ### is_integer -/
abbrev s_is_integer : Stmt := topS 16
abbrev n_is_integer : List Str := ["thing"]
def b_is_integer : SM := (sRet (eCB (callN F_whole) (aCons (eVar 0) aNil)))
def F_is_integer : MF := runDef 1 1 b_is_integer
/-! ### is_number -/
abbrev s_is_number : Stmt := topS 17
abbrev n_is_number : List Str := ["thing"]
def b_is_number : SM := (sRet (eAnd (eCB (callN F_whole) (aCons (eVar 0) aNil)) (e2 dGe (eVar 0) (eC (.int 0)))))
def F_is_number : MF := runDef 1 1 b_is_number
/-! ### is_move -/
abbrev s_is_move : Stmt := topS 18
abbrev n_is_move : List Str := ["clock", "thing", "shift", "turn"]
def b_is_move : SM := (sSeq (sIf (tNotM (tOf (eCB (callN F_is_pair) (aCons (eVar 1) aNil)))) (sRet (eC (.bl false))) sNil)
    (sSeq (sAsg (eVar 1) (gtTup 2 (gtCons (gtName 2) (gtCons (gtName 3) gtNil))))
    (sRet (eAnd (eCB (callN F_is_number) (aCons (eVar 2) aNil)) (eAnd (e2 dLt (eVar 2) (eIx (eVar 0) (eC (.int 0)))) (eAnd (eCB (callN F_is_number) (aCons (eVar 3) aNil)) (e2 dLt (eVar 3) (eCB (callN F_turns_in) (aCons (eVar 0) aNil)))))))))
def F_is_move : MF := runDef 2 4 b_is_move
/-! ### is_moves -/
abbrev s_is_moves : Stmt := topS 19
abbrev n_is_moves : List Str := ["clock", "thing", "before", "move"]
def b_is_moves : SM := (sSeq (sIf (tOrM (tNotM (tOf (e1 (fun d => some (.bl (dIsi .tuple d))) (eVar 1)))) (tOf (e2 dEq (eCB fLen (aCons (eVar 1) aNil)) (eC (.int 0))))) (sRet (eC (.bl false))) sNil)
    (sSeq (sSet 2 (eTup (aCons (e1 dNeg (eC (.int 1))) (aCons (e1 dNeg (eC (.int 1))) aNil))))
    (sSeq (sFor (iTupM (eVar 1)) (gtName 3) (sSeq (sIf (tOrM (tNotM (tOf (eCB (callN F_is_move) (aCons (eVar 0) (aCons (eVar 3) aNil))))) (tOf (e2 dLeT (eVar 3) (eVar 2)))) (sRet (eC (.bl false))) sNil)
    (sSet 2 (eVar 3))))
    (sRet (eC (.bl true))))))
def F_is_moves : MF := runDef 2 4 b_is_moves
/-! ### divides -/
abbrev s_divides : Stmt := topS 20
abbrev n_divides : List Str := ["thing", "number"]
def b_divides : SM := (sRet (eAnd (eCB (callN F_whole) (aCons (eVar 0) aNil)) (eAnd (e2 dGe (eVar 0) (eC (.int 1))) (e2 dEq (e2 dMod (eVar 1) (eVar 0)) (eC (.int 0))))))
def F_divides : MF := runDef 2 2 b_divides
/-! ### is_part -/
abbrev s_is_part : Stmt := topS 21
abbrev n_is_part : List Str := ["clock", "thing", "a", "f", "spot"]
def b_is_part : SM := (sSeq (sIf (tOrM (tNotM (tOf (e1 (fun d => some (.bl (dIsi .tuple d))) (eVar 1)))) (tOf (e2 dNe (eCB fLen (aCons (eVar 1) aNil)) (eC (.int 3))))) (sRet (eC (.bl false))) sNil)
    (sSeq (sAsg (eVar 1) (gtTup 3 (gtCons (gtName 2) (gtCons (gtName 3) (gtCons (gtName 4) gtNil)))))
    (sSeq (sIf (tOrM (tNotM (tOf (eCB (callN F_divides) (aCons (eVar 2) (aCons (eIx (eVar 0) (eC (.int 0))) aNil))))) (tNotM (tOf (eCB (callN F_divides) (aCons (eVar 3) (aCons (eCB (callN F_turns_in) (aCons (eVar 0) aNil)) aNil)))))) (sRet (eC (.bl false))) sNil)
    (sRet (eAnd (eCB (callN F_is_number) (aCons (eVar 4) aNil)) (e2 dLt (eVar 4) (eCB (callN F_spots_in) (aCons (eVar 0) (aCons (eVar 2) (aCons (eVar 3) aNil))))))))))
def F_is_part : MF := runDef 2 5 b_is_part
/-! ### moves_many -/
abbrev s_moves_many : Stmt := topS 23
abbrev n_moves_many : List Str := ["clock"]
def b_moves_many : SM := (sRet (e2 dMul (eIx (eVar 0) (eC (.int 0))) (eCB (callN F_turns_in) (aCons (eVar 0) aNil))))
def F_moves_many : MF := runDef 1 1 b_moves_many
/-! ### turns_many -/
abbrev s_turns_many : Stmt := topS 24
abbrev n_turns_many : List Str := ["clock"]
def b_turns_many : SM := (sRet (eCB (callN F_turns_in) (aCons (eVar 0) aNil)))
def F_turns_many : MF := runDef 1 1 b_turns_many
/-! ### does_move -/
abbrev s_does_move : Stmt := topS 25
abbrev n_does_move : List Str := ["clock", "mover", "prime", "beats", "movers", "roots", "row"]
def b_does_move : SM := (sSeq (sAsg (eVar 0) (gtTup 2 (gtCons (gtName 3) (gtCons (gtName 4) gtNil))))
    (sSeq (sSet 5 (eComp [6] (iTupM (eVar 4)) (gtName 6) (tAndM (tOf (eCB (callN F_whole) (aCons (eVar 1) aNil))) (tOf (e2 dEq (eIx (eVar 6) (eC (.int 0))) (eVar 1)))) (eIx (eVar 6) (eC (.int 1)))))
    (sSeq (sDrop (eCB (callN F_usable) (aCons (e2 dEq (eCB fLen (aCons (eVar 5) aNil)) (eC (.int 1))) (aCons (eC (.str "mover")) aNil))))
    (sSeq (sDrop (eCB (callN F_usable) (aCons (eAnd (eCB (callN F_whole) (aCons (eVar 2) aNil)) (e2 dIn (eVar 2) (eCB (callN F_primes_in) (aCons (eVar 3) aNil)))) (aCons (eC (.str "prime")) aNil))))
    (sRet (e2 dNe (e2 dMod (e2 dSub (eIx (eVar 5) (eC (.int 0))) (eC (.int 1))) (eVar 2)) (eC (.int 0))))))))
def F_does_move : MF := runDef 3 7 b_does_move
/-! ### last_edge -/
abbrev s_last_edge : Stmt := topS 26
abbrev n_last_edge : List Str := ["clock"]
def b_last_edge : SM := (sRet (eCB (callN F_edge_in) (aCons (eVar 0) (aCons (eIx (eVar 0) (eC (.int 0))) aNil))))
def F_last_edge : MF := runDef 1 1 b_last_edge
/-! ### is_deal -/
abbrev s_is_deal : Stmt := topS 28
abbrev n_is_deal : List Str := ["clock", "thing", "bottom", "weights", "shared", "weight"]
def b_is_deal : SM := (sSeq (sIf (tOrM (tNotM (tOf (e1 (fun d => some (.bl (dIsi .tuple d))) (eVar 1)))) (tOf (e2 dNe (eCB fLen (aCons (eVar 1) aNil)) (eC (.int 2))))) (sRet (eC (.bl false))) sNil)
    (sSeq (sAsg (eVar 1) (gtTup 2 (gtCons (gtName 2) (gtCons (gtName 3) gtNil))))
    (sSeq (sIf (tOrM (tNotM (tOf (eCB (callN F_is_integer) (aCons (eVar 2) aNil)))) (tOf (e2 dLt (eVar 2) (eC (.int 1))))) (sRet (eC (.bl false))) sNil)
    (sSeq (sIf (tOrM (tNotM (tOf (e1 (fun d => some (.bl (dIsi .tuple d))) (eVar 3)))) (tOf (e2 dNe (eCB fLen (aCons (eVar 3) aNil)) (eCB (callN F_moves_many) (aCons (eVar 0) aNil))))) (sRet (eC (.bl false))) sNil)
    (sSeq (sSet 4 (eVar 2))
    (sSeq (sFor (iTupM (eVar 3)) (gtName 5) (sSeq (sIf (tNotM (tOf (eCB (callN F_is_integer) (aCons (eVar 5) aNil)))) (sRet (eC (.bl false))) sNil)
    (sSet 4 (eCB fGcd (aCons (eVar 4) (aCons (eVar 5) aNil))))))
    (sRet (e2 dEq (eVar 4) (eC (.int 1))))))))))
def F_is_deal : MF := runDef 2 6 b_is_deal
/-! ### judge_deal -/
abbrev s_judge_deal : Stmt := topS 30
abbrev n_judge_deal : List Str := ["clock", "thing", "name"]
def b_judge_deal : SM := (sIf (tNotM (tOf (eCB (callN F_is_deal) (aCons (eVar 0) (aCons (eVar 1) aNil))))) sNever sNil)
def F_judge_deal : MF := runDef 3 3 b_judge_deal
/-! ### part_size -/
abbrev s_part_size : Stmt := topS 32
abbrev n_part_size : List Str := ["clock", "part"]
def b_part_size : SM := (sSeq (sDrop (eCB (callN F_usable) (aCons (eCB (callN F_is_part) (aCons (eVar 0) (aCons (eVar 1) aNil))) (aCons (eC (.str "part")) aNil))))
    (sRet (e2 dMul (eIx (eVar 1) (eC (.int 0))) (eIx (eVar 1) (eC (.int 1))))))
def F_part_size : MF := runDef 2 2 b_part_size
/-! ### is_kept -/
abbrev s_is_kept : Stmt := topS 33
abbrev n_is_kept : List Str := ["clock", "part"]
def b_is_kept : SM := (sSeq (sDrop (eCB (callN F_usable) (aCons (eCB (callN F_is_part) (aCons (eVar 0) (aCons (eVar 1) aNil))) (aCons (eC (.str "part")) aNil))))
    (sRet (e2 dEq (eCB (callN F_spots_in) (aCons (eVar 0) (aCons (eIx (eVar 1) (eC (.int 0))) (aCons (eIx (eVar 1) (eC (.int 1))) aNil)))) (eC (.int 1)))))
def F_is_kept : MF := runDef 2 2 b_is_kept
/-! ### want_deal -/
abbrev s_want_deal : Stmt := topS 35
abbrev n_want_deal : List Str := ["clock", "thing", "word"]
def b_want_deal : SM := (sIf (tNotM (tOf (eCB (callN F_is_deal) (aCons (eVar 0) (aCons (eVar 1) aNil))))) sNever sNil)
def F_want_deal : MF := runDef 3 3 b_want_deal
/-! ### want_two -/
abbrev s_want_two : Stmt := topS 36
abbrev n_want_two : List Str := ["clock", "one", "other"]
def b_want_two : SM := (sSeq (sDrop (eCB (callN F_want_deal) (aCons (eVar 0) (aCons (eVar 1) (aCons (eC (.str "one")) aNil)))))
    (sDrop (eCB (callN F_want_deal) (aCons (eVar 0) (aCons (eVar 2) (aCons (eC (.str "other")) aNil))))))
def F_want_two : MF := runDef 3 3 b_want_two
/-! ### want_many -/
abbrev s_want_many : Stmt := topS 37
abbrev n_want_many : List Str := ["thing"]
def b_want_many : SM := (sIf (tNotM (tOf (eCB (callN F_is_number) (aCons (eVar 0) aNil)))) sNever sNil)
def F_want_many : MF := runDef 1 1 b_want_many
/-! ### want_part -/
abbrev s_want_part : Stmt := topS 38
abbrev n_want_part : List Str := ["clock", "thing"]
def b_want_part : SM := (sIf (tNotM (tOf (eCB (callN F_is_part) (aCons (eVar 0) (aCons (eVar 1) aNil))))) sNever sNil)
def F_want_part : MF := runDef 2 2 b_want_part
/-! ### want_kept -/
abbrev s_want_kept : Stmt := topS 40
abbrev n_want_kept : List Str := ["clock", "thing"]
def b_want_kept : SM := (sSeq (sDrop (eCB (callN F_want_part) (aCons (eVar 0) (aCons (eVar 1) aNil))))
    (sIf (tNotM (tOf (eCB (callN F_is_kept) (aCons (eVar 0) (aCons (eVar 1) aNil))))) sNever sNil))
def F_want_kept : MF := runDef 2 2 b_want_kept
/-! ### factor_at -/
abbrev s_factor_at : Stmt := topS 42
abbrev n_factor_at : List Str := ["clock", "turn"]
def b_factor_at : SM := (sSeq (sDrop (eCB (callN F_usable) (aCons (eAnd (eCB (callN F_is_number) (aCons (eVar 1) aNil)) (e2 dLt (eVar 1) (eCB (callN F_turns_in) (aCons (eVar 0) aNil)))) (aCons (eC (.str "turn")) aNil))))
    (sRet (eCB (callN F_factor_of) (aCons (eVar 0) (aCons (eVar 1) aNil)))))
def F_factor_at : MF := runDef 2 2 b_factor_at
/-! ### number_of -/
abbrev s_number_of : Stmt := topS 43
abbrev n_number_of : List Str := ["clock", "move"]
def b_number_of : SM := (sSeq (sDrop (eCB (callN F_usable) (aCons (eCB (callN F_is_move) (aCons (eVar 0) (aCons (eVar 1) aNil))) (aCons (eC (.str "move")) aNil))))
    (sRet (e2 dAdd (e2 dMul (eIx (eVar 1) (eC (.int 1))) (eIx (eVar 0) (eC (.int 0)))) (eIx (eVar 1) (eC (.int 0))))))
def F_number_of : MF := runDef 2 2 b_number_of
/-! ### move_at -/
abbrev s_move_at : Stmt := topS 44
abbrev n_move_at : List Str := ["clock", "number"]
def b_move_at : SM := (sSeq (sDrop (eCB (callN F_usable) (aCons (eAnd (eCB (callN F_is_number) (aCons (eVar 1) aNil)) (e2 dLt (eVar 1) (e2 dMul (eIx (eVar 0) (eC (.int 0))) (eCB (callN F_turns_in) (aCons (eVar 0) aNil))))) (aCons (eC (.str "number")) aNil))))
    (sRet (eTup (aCons (e2 dMod (eVar 1) (eIx (eVar 0) (eC (.int 0)))) (aCons (e2 dDiv (eVar 1) (eIx (eVar 0) (eC (.int 0)))) aNil)))))
def F_move_at : MF := runDef 2 2 b_move_at
/-! ### all_moves -/
abbrev s_all_moves : Stmt := topS 45
abbrev n_all_moves : List Str := ["clock"]
def b_all_moves : SM := (sRet (eCB fTuple (aCons (eCB (callN F_moves_in) (aCons (eVar 0) aNil)) aNil)))
def F_all_moves : MF := runDef 1 1 b_all_moves
/-! ### settled -/
abbrev s_settled : Stmt := topS 47
abbrev n_settled : List Str := ["clock", "bottom", "weights", "shared", "weight"]
def b_settled : SM := (sSeq (sIf (tOrM (tNotM (tOf (eCB (callN F_is_integer) (aCons (eVar 1) aNil)))) (tOf (e2 dEq (eVar 1) (eC (.int 0))))) sNever sNil)
    (sSeq (sIf (tOrM (tNotM (tOf (e1 (fun d => some (.bl (dIsi .tuple d))) (eVar 2)))) (tOf (e2 dNe (eCB fLen (aCons (eVar 2) aNil)) (eCB (callN F_moves_many) (aCons (eVar 0) aNil))))) sNever sNil)
    (sSeq (sSet 3 (eCB fAbs (aCons (eVar 1) aNil)))
    (sSeq (sFor (iTupM (eVar 2)) (gtName 4) (sSeq (sIf (tNotM (tOf (eCB (callN F_is_integer) (aCons (eVar 4) aNil)))) sNever sNil)
    (sSet 3 (eCB fGcd (aCons (eVar 3) (aCons (eVar 4) aNil))))))
    (sSeq (sIf (tOf (e2 dLt (eVar 1) (eC (.int 0)))) (sSet 3 (e1 dNeg (eVar 3))) sNil)
    (sRet (eTup (aCons (e2 dDiv (eVar 1) (eVar 3)) (aCons (eCB fTuple (aCons (eComp [4] (iTupM (eVar 2)) (gtName 4) tYesM (e2 dDiv (eVar 4) (eVar 3))) aNil)) aNil)))))))))
def F_settled : MF := runDef 3 5 b_settled
/-! ### idle_deal -/
abbrev s_idle_deal : Stmt := topS 48
abbrev n_idle_deal : List Str := ["clock", "number"]
def b_idle_deal : SM := (sRet (eTup (aCons (eC (.int 1)) (aCons (eCB fTuple (aCons (eComp [1] (iRng1M (aCons (eCB (callN F_moves_many) (aCons (eVar 0) aNil)) aNil)) (gtName 1) tYesM (eIf (tOf (e2 dEq (eVar 1) (eC (.int 0)))) (eC (.int 1)) (eC (.int 0)))) aNil)) aNil))))
def F_idle_deal : MF := runDef 1 2 b_idle_deal
/-! ### deal_on -/
abbrev s_deal_on : Stmt := topS 49
abbrev n_deal_on : List Str := ["clock", "moves", "none", "weights", "move", "_"]
def b_deal_on : SM := (sSeq (sSet 2 (eAnd (e1 (fun d => some (.bl (dIsi .tuple d))) (eVar 1)) (e2 dEq (eCB fLen (aCons (eVar 1) aNil)) (eC (.int 0)))))
    (sSeq (sIf (tAndM (tNotM (tOf (eVar 2))) (tNotM (tOf (eCB (callN F_is_moves) (aCons (eVar 0) (aCons (eVar 1) aNil)))))) sNever sNil)
    (sSeq (sSet 3 (eComp [5] (iRng1M (aCons (eCB (callN F_moves_many) (aCons (eVar 0) aNil)) aNil)) (gtName 5) tYesM (eC (.int 0))))
    (sSeq (sFor (iTupM (eVar 1)) (gtName 4) (sAsg (eC (.int 1)) (gtSub (eVar 3) (eCB (callN F_number_of) (aCons (eVar 0) (aCons (eVar 4) aNil))))))
    (sRet (eTup (aCons (eC (.int 1)) (aCons (eCB fTuple (aCons (eVar 3) aNil)) aNil))))))))
def F_deal_on : MF := runDef 2 6 b_deal_on
/-! ### usable_part -/
abbrev s_usable_part : Stmt := topS 51
abbrev n_usable_part : List Str := ["clock", "part"]
def b_usable_part : SM := (sSeq (sDrop (eCB (callN F_usable) (aCons (eCB (callN F_is_part) (aCons (eVar 0) (aCons (eVar 1) aNil))) (aCons (eC (.str "part")) aNil))))
    (sDrop (eCB (callN F_usable) (aCons (e2 dEq (eCB (callN F_spots_in) (aCons (eVar 0) (aCons (eIx (eVar 1) (eC (.int 0))) (aCons (eIx (eVar 1) (eC (.int 1))) aNil)))) (eC (.int 1))) (aCons (eC (.str "part")) aNil)))))
def F_usable_part : MF := runDef 2 2 b_usable_part
/-! ### folded_clock -/
abbrev s_folded_clock : Stmt := topS 52
abbrev n_folded_clock : List Str := ["clock", "part", "beats", "movers", "rest", "rows", "mover", "root"]
def b_folded_clock : SM := (sSeq (sDrop (eCB (callN F_usable_part) (aCons (eVar 0) (aCons (eVar 1) aNil))))
    (sSeq (sAsg (eVar 0) (gtTup 2 (gtCons (gtName 2) (gtCons (gtName 3) gtNil))))
    (sSeq (sSet 4 (e2 dDiv (eVar 2) (eIx (eVar 1) (eC (.int 0)))))
    (sSeq (sSet 5 (eLst aNil))
    (sSeq (sFor (iTupM (eVar 3)) (gtTup 2 (gtCons (gtName 6) (gtCons (gtName 7) gtNil))) (sIf (tOf (e2 dNe (e2 dMod (eIx (eVar 1) (eC (.int 1))) (eVar 6)) (eC (.int 0)))) (sDrop (eApp (eVar 5) (eTup (aCons (eVar 6) (aCons (eIf (tOf (e2 dGt (eVar 4) (eC (.int 1)))) (e2 dMod (eVar 7) (eVar 4)) (eC (.int 1))) aNil))))) sNil))
    (sRet (eTup (aCons (eVar 4) (aCons (eCB fTuple (aCons (eVar 5) aNil)) aNil)))))))))
def F_folded_clock : MF := runDef 2 8 b_folded_clock
/-! ### folded_move -/
abbrev s_folded_move : Stmt := topS 53
abbrev n_folded_move : List Str := ["clock", "part", "move"]
def b_folded_move : SM := (sSeq (sDrop (eCB (callN F_usable_part) (aCons (eVar 0) (aCons (eVar 1) aNil))))
    (sSeq (sDrop (eCB (callN F_usable) (aCons (eCB (callN F_is_move) (aCons (eVar 0) (aCons (eVar 2) aNil))) (aCons (eC (.str "move")) aNil))))
    (sRet (eTup (aCons (e2 dMod (eIx (eVar 2) (eC (.int 0))) (e2 dDiv (eIx (eVar 0) (eC (.int 0))) (eIx (eVar 1) (eC (.int 0))))) (aCons (e2 dMod (eIx (eVar 2) (eC (.int 1))) (e2 dDiv (eCB (callN F_turns_in) (aCons (eVar 0) aNil)) (eIx (eVar 1) (eC (.int 1))))) aNil))))))
def F_folded_move : MF := runDef 3 3 b_folded_move
/-! ### folded_numbers -/
abbrev s_folded_numbers : Stmt := topS 55
abbrev n_folded_numbers : List Str := ["clock", "part", "small", "move"]
def b_folded_numbers : SM := (sRet (eComp [3] (iTupM (eCB (callN F_all_moves) (aCons (eVar 0) aNil))) (gtName 3) tYesM (eCB (callN F_number_of) (aCons (eVar 2) (aCons (eCB (callN F_folded_move) (aCons (eVar 0) (aCons (eVar 1) (aCons (eVar 3) aNil)))) aNil)))))
def F_folded_numbers : MF := runDef 3 4 b_folded_numbers
/-! ### folded_deal -/
abbrev s_folded_deal : Stmt := topS 56
abbrev n_folded_deal : List Str := ["clock", "part", "deal", "small", "sums", "number", "weight", "_"]
def b_folded_deal : SM := (sSeq (sDrop (eCB (callN F_want_kept) (aCons (eVar 0) (aCons (eVar 1) aNil))))
    (sSeq (sDrop (eCB (callN F_want_deal) (aCons (eVar 0) (aCons (eVar 2) (aCons (eC (.str "deal")) aNil)))))
    (sSeq (sSet 3 (eCB (callN F_folded_clock) (aCons (eVar 0) (aCons (eVar 1) aNil))))
    (sSeq (sSet 4 (eComp [7] (iRng1M (aCons (eCB (callN F_moves_many) (aCons (eVar 3) aNil)) aNil)) (gtName 7) tYesM (eC (.int 0))))
    (sSeq (sFor (iZipM (aCons (eCB (callN F_folded_numbers) (aCons (eVar 0) (aCons (eVar 1) (aCons (eVar 3) aNil)))) (aCons (eIx (eVar 2) (eC (.int 1))) aNil))) (gtTup 2 (gtCons (gtName 5) (gtCons (gtName 6) gtNil))) (sAsg (e2 dAdd (eIx (eVar 4) (eVar 5)) (eVar 6)) (gtSub (eVar 4) (eVar 5))))
    (sRet (eCB (callN F_settled) (aCons (eVar 3) (aCons (eIx (eVar 2) (eC (.int 0))) (aCons (eCB fTuple (aCons (eVar 4) aNil)) aNil))))))))))
def F_folded_deal : MF := runDef 3 8 b_folded_deal
/-! ### in_range -/
abbrev s_in_range : Stmt := topS 59
abbrev n_in_range : List Str := ["thing"]
def b_in_range : SM := (sRet (eAnd (eCB (callN F_whole) (aCons (eVar 0) aNil)) (eChain (fun i j => decide (i ≤ j)) (fun i j => decide (i ≤ j)) (eC (.int 1)) (eVar 0) (eC (.int 10000)))))
def F_in_range : MF := runDef 1 1 b_in_range
/-! ### primes_of -/
abbrev s_primes_of : Stmt := topS 60
abbrev n_primes_of : List Str := ["number"]
def b_primes_of : SM := (sSeq (sDrop (eCB (callN F_usable) (aCons (eCB (callN F_in_range) (aCons (eVar 0) aNil)) (aCons (eC (.str "number")) aNil))))
    (sRet (eCB (callN F_primes_in) (aCons (eVar 0) aNil))))
def F_primes_of : MF := runDef 1 1 b_primes_of
/-! ### dealt -/
abbrev s_dealt : Stmt := topS 62
abbrev n_dealt : List Str := ["clock", "one", "other", "beats", "turns", "factors", "seconds", "sums", "number", "weight", "turn", "shift", "later", "more", "also", "place", "_"]
def b_dealt : SM := (sSeq (sDrop (eCB (callN F_want_two) (aCons (eVar 0) (aCons (eVar 1) (aCons (eVar 2) aNil)))))
    (sSeq (sSet 3 (eIx (eVar 0) (eC (.int 0))))
    (sSeq (sSet 4 (eCB (callN F_turns_many) (aCons (eVar 0) aNil)))
    (sSeq (sSet 5 (eComp [10] (iRng1M (aCons (eVar 4) aNil)) (gtName 10) tYesM (eCB (callN F_factor_at) (aCons (eVar 0) (aCons (eVar 10) aNil)))))
    (sSeq (sSet 6 (eComp [8, 9] (iEnumM (aCons (eIx (eVar 2) (eC (.int 1))) aNil)) (gtTup 2 (gtCons (gtName 8) (gtCons (gtName 9) gtNil))) (tOf (e2 dNe (eVar 9) (eC (.int 0)))) (eTup (aCons (e2 dDiv (eVar 8) (eVar 3)) (aCons (e2 dMod (eVar 8) (eVar 3)) (aCons (eVar 9) aNil))))))
    (sSeq (sSet 7 (eComp [16] (iRng1M (aCons (e2 dMul (eVar 3) (eVar 4)) aNil)) (gtName 16) tYesM (eC (.int 0))))
    (sSeq (sFor (iEnumM (aCons (eIx (eVar 1) (eC (.int 1))) aNil)) (gtTup 2 (gtCons (gtName 8) (gtCons (gtName 9) gtNil))) (sIf (tOf (e2 dNe (eVar 9) (eC (.int 0)))) (sSeq (sSet 10 (e2 dDiv (eVar 8) (eVar 3)))
    (sSeq (sSet 11 (e2 dMod (eVar 8) (eVar 3)))
    (sFor (iLstM (eVar 6)) (gtTup 3 (gtCons (gtName 12) (gtCons (gtName 13) (gtCons (gtName 14) gtNil)))) (sSeq (sSet 15 (e2 dAdd (e2 dMul (e2 dMod (e2 dAdd (eVar 10) (eVar 12)) (eVar 4)) (eVar 3)) (e2 dMod (e2 dAdd (e2 dMul (eIx (eVar 5) (eVar 12)) (eVar 11)) (eVar 13)) (eVar 3))))
    (sAsg (e2 dAdd (eIx (eVar 7) (eVar 15)) (e2 dMul (eVar 9) (eVar 14))) (gtSub (eVar 7) (eVar 15))))))) sNil))
    (sRet (eCB (callN F_settled) (aCons (eVar 0) (aCons (e2 dMul (eIx (eVar 1) (eC (.int 0))) (eIx (eVar 2) (eC (.int 0)))) (aCons (eCB fTuple (aCons (eVar 7) aNil)) aNil))))))))))))
def F_dealt : MF := runDef 3 17 b_dealt
/-! ### dealt_again -/
abbrev s_dealt_again : Stmt := topS 63
abbrev n_dealt_again : List Str := ["clock", "deal", "many", "result", "base", "left"]
def b_dealt_again : SM := (sSeq (sDrop (eCB (callN F_want_deal) (aCons (eVar 0) (aCons (eVar 1) (aCons (eC (.str "deal")) aNil)))))
    (sSeq (sDrop (eCB (callN F_want_many) (aCons (eVar 2) aNil)))
    (sSeq (sSet 3 (eCB (callN F_idle_deal) (aCons (eVar 0) aNil)))
    (sSeq (sSet 4 (eVar 1))
    (sSeq (sSet 5 (eVar 2))
    (sSeq (sWhile (tOf (e2 dGt (eVar 5) (eC (.int 0)))) (sSeq (sIf (tOf (e2 dEq (e2 dMod (eVar 5) (eC (.int 2))) (eC (.int 1)))) (sSet 3 (eCB (callN F_dealt) (aCons (eVar 0) (aCons (eVar 3) (aCons (eVar 4) aNil))))) sNil)
    (sSeq (sSet 5 (e2 dDiv (eVar 5) (eC (.int 2))))
    (sIf (tOf (e2 dGt (eVar 5) (eC (.int 0)))) (sSet 4 (eCB (callN F_dealt) (aCons (eVar 0) (aCons (eVar 4) (aCons (eVar 4) aNil))))) sNil))) 200)
    (sRet (eVar 3))))))))
def F_dealt_again : MF := runDef 3 6 b_dealt_again
/-! ### is_even -/
abbrev s_is_even : Stmt := topS 65
abbrev n_is_even : List Str := ["clock", "deal", "first", "weight"]
def b_is_even : SM := (sSeq (sDrop (eCB (callN F_want_deal) (aCons (eVar 0) (aCons (eVar 1) (aCons (eC (.str "deal")) aNil)))))
    (sSeq (sSet 2 (eIx (eIx (eVar 1) (eC (.int 1))) (eC (.int 0))))
    (sRet (eCB fAll (aCons (eComp [3] (iTupM (eIx (eVar 1) (eC (.int 1)))) (gtName 3) tYesM (e2 dEq (eVar 3) (eVar 2))) aNil)))))
def F_is_even : MF := runDef 2 4 b_is_even
/-! ### is_moved -/
abbrev s_is_moved : Stmt := topS 67
abbrev n_is_moved : List Str := ["clock", "prime", "mover", "_"]
def b_is_moved : SM := (sSeq (sFor (iTupM (eIx (eVar 0) (eC (.int 1)))) (gtTup 2 (gtCons (gtName 2) (gtCons (gtName 3) gtNil))) (sIf (tOf (eCB (callN F_does_move) (aCons (eVar 0) (aCons (eVar 2) (aCons (eVar 1) aNil))))) (sRet (eC (.bl true))) sNil))
    (sRet (eC (.bl false))))
def F_is_moved : MF := runDef 2 4 b_is_moved
/-! ### moved_part -/
abbrev s_moved_part : Stmt := topS 68
abbrev n_moved_part : List Str := ["clock", "product", "prime"]
def b_moved_part : SM := (sSeq (sSet 1 (eC (.int 1)))
    (sSeq (sFor (iTupM (eCB (callN F_primes_of) (aCons (eIx (eVar 0) (eC (.int 0))) aNil))) (gtName 2) (sIf (tOf (eCB (callN F_is_moved) (aCons (eVar 0) (aCons (eVar 2) aNil)))) (sSet 1 (e2 dMul (eVar 1) (eVar 2))) sNil))
    (sRet (eTup (aCons (eVar 1) (aCons (eC (.int 1)) (aCons (eC (.int 0)) aNil)))))))
def F_moved_part : MF := runDef 1 3 b_moved_part
/-! ### folds_evenly -/
abbrev s_folds_evenly : Stmt := topS 69
abbrev n_folds_evenly : List Str := ["clock", "deal", "part"]
def b_folds_evenly : SM := (sSeq (sDrop (eCB (callN F_judge_deal) (aCons (eVar 0) (aCons (eVar 1) (aCons (eC (.str "deal")) aNil)))))
    (sSeq (sSet 2 (eCB (callN F_moved_part) (aCons (eVar 0) aNil)))
    (sRet (eCB (callN F_is_even) (aCons (eCB (callN F_folded_clock) (aCons (eVar 0) (aCons (eVar 2) aNil))) (aCons (eCB (callN F_folded_deal) (aCons (eVar 0) (aCons (eVar 2) (aCons (eVar 1) aNil)))) aNil))))))
def F_folds_evenly : MF := runDef 2 3 b_folds_evenly
/-! ### divides_total -/
abbrev s_divides_total : Stmt := topS 70
abbrev n_divides_total : List Str := ["clock", "deal"]
def b_divides_total : SM := (sSeq (sDrop (eCB (callN F_judge_deal) (aCons (eVar 0) (aCons (eVar 1) (aCons (eC (.str "deal")) aNil)))))
    (sSeq (sIf (tOf (e2 dNe (eIx (eVar 1) (eC (.int 0))) (eC (.int 1)))) sNever sNil)
    (sRet (e2 dEq (e2 dMod (eCB fSum (aCons (eIx (eVar 1) (eC (.int 1))) aNil)) (eCB (callN F_moves_many) (aCons (eVar 0) aNil))) (eC (.int 0))))))
def F_divides_total : MF := runDef 2 2 b_divides_total
/-! ### even_after -/
abbrev s_even_after : Stmt := topS 72
abbrev n_even_after : List Str := ["clock", "deal", "last", "power", "many"]
def b_even_after : SM := (sSeq (sDrop (eCB (callN F_judge_deal) (aCons (eVar 0) (aCons (eVar 1) (aCons (eC (.str "deal")) aNil)))))
    (sSeq (sSet 2 (eCB (callN F_last_edge) (aCons (eVar 0) aNil)))
    (sSeq (sSet 3 (eVar 1))
    (sSeq (sFor (iRng2M (aCons (eC (.int 1)) (aCons (e2 dAdd (eVar 2) (eC (.int 1))) aNil))) (gtName 4) (sSeq (sIf (tOf (eCB (callN F_is_even) (aCons (eVar 0) (aCons (eVar 3) aNil)))) (sRet (eVar 4)) sNil)
    (sIf (tOf (e2 dLt (eVar 4) (eVar 2))) (sSet 3 (eCB (callN F_dealt) (aCons (eVar 0) (aCons (eVar 3) (aCons (eVar 1) aNil))))) sNil)))
    (sRet (eC .non))))))
def F_even_after : MF := runDef 2 5 b_even_after
/-! ### first_unlike -/
abbrev s_first_unlike : Stmt := topS 74
abbrev n_first_unlike : List Str := ["clock", "deal", "weights", "number"]
def b_first_unlike : SM := (sSeq (sSet 2 (eIx (eVar 1) (eC (.int 1))))
    (sSeq (sFor (iRng2M (aCons (eC (.int 1)) (aCons (eCB fLen (aCons (eVar 2) aNil)) aNil))) (gtName 3) (sIf (tOf (e2 dNe (eIx (eVar 2) (eVar 3)) (eIx (eVar 2) (eC (.int 0))))) (sRet (eTup (aCons (eCB (callN F_move_at) (aCons (eVar 0) (aCons (eC (.int 0)) aNil))) (aCons (eCB (callN F_move_at) (aCons (eVar 0) (aCons (eVar 3) aNil))) aNil)))) sNil))
    (sRet (eTup aNil))))
def F_first_unlike : MF := runDef 2 4 b_first_unlike
/-! ### even_paper -/
abbrev s_even_paper : Stmt := topS 75
abbrev n_even_paper : List Str := ["clock", "deal", "after"]
def b_even_paper : SM := (sSeq (sSet 2 (eCB (callN F_even_after) (aCons (eVar 0) (aCons (eVar 1) aNil))))
    (sSeq (sIf (tOf (e1 dIsN (eVar 2))) (sRet (eTup (aCons (eC (.str "never")) (aCons (eCB (callN F_first_unlike) (aCons (eVar 0) (aCons (eCB (callN F_dealt_again) (aCons (eVar 0) (aCons (eVar 1) (aCons (eCB (callN F_last_edge) (aCons (eVar 0) aNil)) aNil)))) aNil))) aNil)))) sNil)
    (sSeq (sIf (tOf (e2 dEq (eVar 2) (eC (.int 1)))) (sRet (eTup (aCons (eC (.str "even")) (aCons (eC (.int 1)) (aCons (eTup aNil) aNil))))) sNil)
    (sRet (eTup (aCons (eC (.str "even")) (aCons (eVar 2) (aCons (eCB (callN F_first_unlike) (aCons (eVar 0) (aCons (eCB (callN F_dealt_again) (aCons (eVar 0) (aCons (eVar 1) (aCons (e2 dSub (eVar 2) (eC (.int 1))) aNil)))) aNil))) aNil))))))))
def F_even_paper : MF := runDef 2 3 b_even_paper
/-! ### want_part_77 -/
abbrev s_want_part_77 : Stmt := topS 77
abbrev n_want_part_77 : List Str := ["clock", "thing", "name"]
def b_want_part_77 : SM := (sIf (tNotM (tOf (eCB (callN F_is_part) (aCons (eVar 0) (aCons (eVar 1) aNil))))) sNever sNil)
def F_want_part_77 : MF := runDef 3 3 b_want_part_77
/-! ### parts_cover -/
abbrev s_parts_cover : Stmt := topS 80
abbrev n_parts_cover : List Str := ["clock", "one", "other", "first", "second", "prime"]
def b_parts_cover : SM := (sSeq (sDrop (eCB (callN F_want_part_77) (aCons (eVar 0) (aCons (eVar 1) (aCons (eC (.str "one")) aNil)))))
    (sSeq (sDrop (eCB (callN F_want_part_77) (aCons (eVar 0) (aCons (eVar 2) (aCons (eC (.str "other")) aNil)))))
    (sSeq (sPar 3 4 (eCB (callN F_part_size) (aCons (eVar 0) (aCons (eVar 1) aNil))) (eCB (callN F_part_size) (aCons (eVar 0) (aCons (eVar 2) aNil))))
    (sSeq (sFor (iTupM (eCB (callN F_primes_of) (aCons (eCB (callN F_moves_many) (aCons (eVar 0) aNil)) aNil))) (gtName 5) (sIf (tAndM (tOf (e2 dNe (e2 dMod (eVar 3) (eVar 5)) (eC (.int 0)))) (tOf (e2 dNe (e2 dMod (eVar 4) (eVar 5)) (eC (.int 0))))) (sRet (eC (.bl false))) sNil))
    (sRet (eC (.bl true)))))))
def F_parts_cover : MF := runDef 3 6 b_parts_cover
/-! ### are_deals -/
abbrev s_are_deals : Stmt := topS 82
abbrev n_are_deals : List Str := ["clock", "thing", "deal"]
def b_are_deals : SM := (sSeq (sIf (tNotM (tOf (e1 (fun d => some (.bl (dIsi .tuple d))) (eVar 1)))) (sRet (eC (.bl false))) sNil)
    (sSeq (sFor (iTupM (eVar 1)) (gtName 2) (sIf (tNotM (tOf (eCB (callN F_is_deal) (aCons (eVar 0) (aCons (eVar 2) aNil))))) (sRet (eC (.bl false))) sNil))
    (sRet (eC (.bl true)))))
def F_are_deals : MF := runDef 2 3 b_are_deals
/-! ### row_after -/
abbrev s_row_after : Stmt := topS 83
abbrev n_row_after : List Str := ["clock", "deals", "product", "many"]
def b_row_after : SM := (sSeq (sIf (tNotM (tOf (eCB (callN F_are_deals) (aCons (eVar 0) (aCons (eVar 1) aNil))))) sNever sNil)
    (sSeq (sIf (tOf (e2 dEq (eCB fLen (aCons (eVar 1) aNil)) (eC (.int 0)))) (sRet (eC .non)) sNil)
    (sSeq (sSet 2 (eIx (eVar 1) (eC (.int 0))))
    (sSeq (sFor (iRng2M (aCons (eC (.int 1)) (aCons (eCB fLen (aCons (eVar 1) aNil)) aNil))) (gtName 3) (sSeq (sIf (tOf (eCB (callN F_is_even) (aCons (eVar 0) (aCons (eVar 2) aNil)))) (sRet (eVar 3)) sNil)
    (sSet 2 (eCB (callN F_dealt) (aCons (eVar 0) (aCons (eVar 2) (aCons (eIx (eVar 1) (eVar 3)) aNil)))))))
    (sSeq (sIf (tOf (eCB (callN F_is_even) (aCons (eVar 0) (aCons (eVar 2) aNil)))) (sRet (eCB fLen (aCons (eVar 1) aNil))) sNil)
    (sRet (eC .non)))))))
def F_row_after : MF := runDef 2 4 b_row_after
/-! ### _law_same -/
abbrev s_L_same : Stmt := topS 87
abbrev n_L_same : List Str := ["_law_told", "_law_due", "_law_k"]
def b_L_same (rec : MF) : SM := (sSeq (sIf (tOf (e1 (fun d => some (.bl (dIsi .tuple d))) (eVar 1))) (sSeq (sIf (tOrM (tNotM (tOf (e1 (fun d => some (.bl (dIsi .tuple d))) (eVar 0)))) (tOf (e2 dNe (eCB fLen (aCons (eVar 0) aNil)) (eCB fLen (aCons (eVar 1) aNil))))) (sRet (eC (.bl false))) sNil)
    (sRet (e2 dEq (eCB fLen (aCons (eComp [2] (iRng1M (aCons (eCB fLen (aCons (eVar 1) aNil)) aNil)) (gtName 2) (tNotM (tOf (eCB (callN rec) (aCons (eIx (eVar 0) (eVar 2)) (aCons (eIx (eVar 1) (eVar 2)) aNil))))) (eVar 2)) aNil)) (eC (.int 0))))) sNil)
    (sSeq (sIf (tOrM (tOf (e1 dIsN (eVar 1))) (tOf (e1 (fun d => some (.bl (dIsi .bool d))) (eVar 1)))) (sRet (eOr (eAnd (e1 dIsN (eVar 1)) (e1 dIsN (eVar 0))) (eAnd (e1 (fun d => some (.bl (dIsi .bool d))) (eVar 1)) (eAnd (e1 (fun d => some (.bl (dIsi .bool d))) (eVar 0)) (e2 dEq (eVar 0) (eVar 1)))))) sNil)
    (sSeq (sIf (tOf (e1 (fun d => some (.bl (dIsi .int d))) (eVar 1))) (sRet (eAnd (e1 (fun d => some (.bl (dIsi .int d))) (eVar 0)) (eAnd (eNot (e1 (fun d => some (.bl (dIsi .bool d))) (eVar 0))) (e2 dEq (eVar 0) (eVar 1))))) sNil)
    (sRet (eAnd (e1 (fun d => some (.bl (dIsi .str d))) (eVar 0)) (e2 dEq (eVar 0) (eVar 1)))))))
def F_L_same : Nat → MF
  | 0 => fun _ _ => none
  | n + 1 => runDef 2 3 (b_L_same (F_L_same n))
/-! ### _law_divisors -/
abbrev s_L_divisors : Stmt := topS 88
abbrev n_L_divisors : List Str := ["_law_number", "_law_k"]
def b_L_divisors : SM := (sRet (eComp [1] (iRng2M (aCons (eC (.int 1)) (aCons (e2 dAdd (eVar 0) (eC (.int 1))) aNil))) (gtName 1) (tOf (e2 dEq (e2 dMod (eVar 0) (eVar 1)) (eC (.int 0)))) (eVar 1)))
def F_L_divisors : MF := runDef 1 2 b_L_divisors
/-! ### _law_units -/
abbrev s_L_units : Stmt := topS 89
abbrev n_L_units : List Str := ["_law_number", "_law_units_here", "_law_q"]
def b_L_units : SM := (sSeq (sSet 1 (eC (.int 1)))
    (sSeq (sFor (iRng2M (aCons (eC (.int 2)) (aCons (e2 dAdd (eVar 0) (eC (.int 1))) aNil))) (gtName 2) (sIf (tOf (e2 dEq (e2 dMod (eVar 0) (eVar 2)) (eC (.int 0)))) (sSeq (sSet 0 (e2 dDiv (eVar 0) (eVar 2)))
    (sSet 1 (e2 dMul (eVar 1) (e2 dSub (eVar 2) (eC (.int 1)))))) sNil))
    (sRet (eVar 1))))
def F_L_units : MF := runDef 1 3 b_L_units
/-! ### _law_edge -/
abbrev s_L_edge : Stmt := topS 90
abbrev n_L_edge : List Str := ["_law_clock_here", "_law_a", "_law_edge_here", "_law_mover"]
def b_L_edge : SM := (sSeq (sSet 2 (eC (.int 1)))
    (sSeq (sFor (iTupM (eIx (eVar 0) (eC (.int 1)))) (gtName 3) (sIf (tOf (e2 dNe (e2 dMod (eIx (eVar 3) (eC (.int 1))) (eVar 1)) (e2 dMod (eC (.int 1)) (eVar 1)))) (sSet 2 (e2 dMul (eVar 2) (eIx (eVar 3) (eC (.int 0))))) sNil))
    (sRet (eVar 2))))
def F_L_edge : MF := runDef 2 4 b_L_edge
/-! ### _law_pieces -/
abbrev s_L_pieces : Stmt := topS 91
abbrev n_L_pieces : List Str := ["_law_clock_here", "_law_turns", "_law_mover", "_law_pieces_here", "_law_a", "_law_edge_here", "_law_b"]
def b_L_pieces : SM := (sSeq (sSet 1 (eC (.int 1)))
    (sSeq (sFor (iTupM (eIx (eVar 0) (eC (.int 1)))) (gtName 2) (sSet 1 (e2 dMul (eVar 1) (eIx (eVar 2) (eC (.int 0))))))
    (sSeq (sSet 3 (eLst aNil))
    (sSeq (sFor (iLstM (eCB (callN F_L_divisors) (aCons (eIx (eVar 0) (eC (.int 0))) aNil))) (gtName 4) (sSeq (sSet 5 (eCB (callN F_L_edge) (aCons (eVar 0) (aCons (eVar 4) aNil))))
    (sFor (iLstM (eCB (callN F_L_divisors) (aCons (e2 dDiv (eVar 1) (eVar 5)) aNil))) (gtName 6) (sDrop (eApp (eVar 3) (eTup (aCons (eVar 4) (aCons (eVar 6) (aCons (eVar 5) (aCons (e2 dDiv (e2 dMul (eCB (callN F_L_units) (aCons (eVar 4) aNil)) (eCB (callN F_L_units) (aCons (eVar 6) aNil))) (eVar 5)) aNil))))))))))
    (sRet (eVar 3))))))
def F_L_pieces : MF := runDef 1 7 b_L_pieces
/-! ### _law_world -/
abbrev s_L_world : Stmt := topS 92
abbrev n_L_world : List Str := ["_law_clock_here", "_law_beats", "_law_turns", "_law_root", "_law_mover", "_law_factors", "_law_k", "_law_table", "_law_one", "_law_row_here", "_law_two", "_law_shift"]
def b_L_world : SM := (sSeq (sSet 1 (eIx (eVar 0) (eC (.int 0))))
    (sSeq (sSet 2 (eC (.int 1)))
    (sSeq (sSet 3 (eC (.int 1)))
    (sSeq (sFor (iTupM (eIx (eVar 0) (eC (.int 1)))) (gtName 4) (sSeq (sSet 2 (e2 dMul (eVar 2) (eIx (eVar 4) (eC (.int 0)))))
    (sSet 3 (e2 dMul (eVar 3) (eIx (eVar 4) (eC (.int 1)))))))
    (sSeq (sSet 5 (eLst (aCons (e2 dMod (eC (.int 1)) (eVar 1)) aNil)))
    (sSeq (sFor (iRng1M (aCons (e2 dSub (eVar 2) (eC (.int 1))) aNil)) (gtName 6) (sDrop (eApp (eVar 5) (e2 dMod (eCB fInt (aCons (e2 dMul (eIx (eVar 5) (eVar 6)) (eVar 3)) aNil)) (eVar 1)))))
    (sSeq (sSet 7 (eLst aNil))
    (sSeq (sFor (iRng1M (aCons (e2 dMul (eVar 1) (eVar 2)) aNil)) (gtName 8) (sSeq (sSet 9 (eLst aNil))
    (sSeq (sFor (iRng1M (aCons (e2 dMul (eVar 1) (eVar 2)) aNil)) (gtName 10) (sSeq (sSet 11 (e2 dMod (eCB fInt (aCons (e2 dAdd (e2 dMul (eIx (eVar 5) (e2 dDiv (eVar 10) (eVar 1))) (e2 dMod (eVar 8) (eVar 1))) (eVar 10)) aNil)) (eVar 1)))
    (sDrop (eApp (eVar 9) (e2 dAdd (e2 dMul (e2 dMod (eCB fInt (aCons (e2 dAdd (e2 dDiv (eVar 8) (eVar 1)) (e2 dDiv (eVar 10) (eVar 1))) aNil)) (eVar 2)) (eVar 1)) (eVar 11))))))
    (sDrop (eApp (eVar 7) (eVar 9))))))
    (sRet (eTup (aCons (eVar 0) (aCons (eVar 7) (aCons (eVar 5) (aCons (eCB (callN F_L_pieces) (aCons (eVar 0) aNil)) aNil))))))))))))))
def F_L_world : MF := runDef 1 12 b_L_world
/-! ### _law_times -/
abbrev s_L_times : Stmt := topS 93
abbrev n_L_times : List Str := ["_law_world_here", "_law_one", "_law_other", "_law_table", "_law_many", "_law_weights_here", "_law_k", "_law_weight", "_law_row_here", "_law_j"]
def b_L_times : SM := (sSeq (sSet 3 (eIx (eVar 0) (eC (.int 1))))
    (sSeq (sSet 4 (eCB fLen (aCons (eVar 3) aNil)))
    (sSeq (sSet 5 (eComp [6] (iRng1M (aCons (eVar 4) aNil)) (gtName 6) tYesM (eC (.int 0))))
    (sSeq (sFor (iRng1M (aCons (eVar 4) aNil)) (gtName 6) (sSeq (sSet 7 (eIx (eVar 1) (eVar 6)))
    (sIf (tOf (e2 dNe (eVar 7) (eC (.int 0)))) (sSeq (sSet 8 (eIx (eVar 3) (eVar 6)))
    (sFor (iRng1M (aCons (eVar 4) aNil)) (gtName 9) (sAugIx (eVar 5) (eIx (eVar 8) (eVar 9)) dAdd (e2 dMul (eVar 7) (eIx (eVar 2) (eVar 9)))))) sNil)))
    (sRet (eVar 5))))))
def F_L_times : MF := runDef 3 10 b_L_times
/-! ### _law_level -/
abbrev s_L_level : Stmt := topS 94
abbrev n_L_level : List Str := ["_law_weights_here", "_law_k"]
def b_L_level : SM := (sRet (e2 dEq (eCB fLen (aCons (eComp [1] (iLstM (eVar 0)) (gtName 1) (tOf (e2 dNe (eVar 1) (eIx (eVar 0) (eC (.int 0))))) (eVar 1)) aNil)) (eC (.int 0))))
def F_L_level : MF := runDef 1 2 b_L_level
/-! ### _law_row -/
abbrev s_L_row : Stmt := topS 95
abbrev n_L_row : List Str := ["_law_seat", "_law_many", "_law_k"]
def b_L_row : SM := (sRet (eComp [2] (iRng1M (aCons (eVar 1) aNil)) (gtName 2) tYesM (e2 dSub (e2 dMod (eCB fInt (aCons (e2 dAdd (e2 dAdd (eCB F_L_next (aCons (eVar 0) (aCons (eC (.int 8)) aNil))) (e2 dMul (eC (.int 2)) (eVar 2))) (eC (.int 1))) aNil)) (eC (.int 8))) (eC (.int 3)))))
def F_L_row : MF := runDef 2 3 b_L_row
/-! ### _law_moved -/
abbrev s_L_moved : Stmt := topS 96
abbrev n_L_moved : List Str := ["_law_row_here", "_law_factor", "_law_moved_here", "_law_k"]
def b_L_moved : SM := (sSeq (sSet 2 (eComp [3] (iLstM (eVar 0)) (gtName 3) tYesM (eC (.int 0))))
    (sSeq (sFor (iRng1M (aCons (eCB fLen (aCons (eVar 0) aNil)) aNil)) (gtName 3) (sAugIx (eVar 2) (e2 dMod (eCB fInt (aCons (e2 dMul (eVar 3) (eVar 1)) aNil)) (eCB fLen (aCons (eVar 0) aNil))) dAdd (eIx (eVar 0) (eVar 3))))
    (sRet (eVar 2))))
def F_L_moved : MF := runDef 2 4 b_L_moved
/-! ### _law_on_turns -/
abbrev s_L_on_turns : Stmt := topS 97
abbrev n_L_on_turns : List Str := ["_law_world_here", "_law_f", "_law_row_here", "_law_beats", "_law_turns", "_law_weights_here", "_law_k", "_law_beat"]
def b_L_on_turns : SM := (sSeq (sSet 3 (eIx (eIx (eVar 0) (eC (.int 0))) (eC (.int 0))))
    (sSeq (sSet 4 (e2 dDiv (eCB fLen (aCons (eIx (eVar 0) (eC (.int 1))) aNil)) (eVar 3)))
    (sSeq (sSet 5 (eComp [6] (iRng1M (aCons (e2 dMul (eVar 3) (eVar 4)) aNil)) (gtName 6) tYesM (eC (.int 0))))
    (sSeq (sFor (iRng1M (aCons (eVar 1) aNil)) (gtName 6) (sFor (iRng1M (aCons (eVar 3) aNil)) (gtName 7) (sAugIx (eVar 5) (e2 dAdd (e2 dMul (e2 dMul (eVar 6) (e2 dDiv (eVar 4) (eVar 1))) (eVar 3)) (eVar 7)) dAdd (eIx (eVar 2) (eVar 7)))))
    (sRet (eVar 5))))))
def F_L_on_turns : MF := runDef 3 8 b_L_on_turns
/-! ### _law_traceless -/
abbrev s_L_traceless : Stmt := topS 98
abbrev n_L_traceless : List Str := ["_law_world_here", "_law_f", "_law_row_here", "_law_turns", "_law_moved_here", "_law_k"]
def b_L_traceless : SM := (sSeq (sSet 3 (e2 dDiv (eCB fLen (aCons (eIx (eVar 0) (eC (.int 1))) aNil)) (eIx (eIx (eVar 0) (eC (.int 0))) (eC (.int 0)))))
    (sSeq (sSet 4 (eCB (callF F_L_moved) (aCons (eVar 2) (aCons (eIx (eIx (eVar 0) (eC (.int 2))) (e2 dMod (eCB fInt (aCons (e2 dDiv (eVar 3) (eVar 1)) aNil)) (eVar 3))) aNil))))
    (sRet (eCB (callF F_L_on_turns) (aCons (eVar 0) (aCons (eVar 1) (aCons (eComp [5] (iRng1M (aCons (eCB fLen (aCons (eVar 2) aNil)) aNil)) (gtName 5) tYesM (e2 dSub (eIx (eVar 2) (eVar 5)) (eIx (eVar 4) (eVar 5)))) aNil)))))))
def F_L_traceless : MF := runDef 3 6 b_L_traceless
/-! ### _law_sevens -/
abbrev s_L_sevens : Stmt := topS 99
abbrev n_L_sevens : List Str := ["_law_world_here", "_law_unit", "_law_beats", "_law_step", "_law_lone", "_law_pair", "_law_k", "_law_first", "_law_second", "_law_third"]
def b_L_sevens : SM := (sSeq (sSet 2 (eIx (eIx (eVar 0) (eC (.int 0))) (eC (.int 0))))
    (sSeq (sSet 3 (e2 dMul (e2 dDiv (eVar 2) (eC (.int 7))) (eVar 1)))
    (sSeq (sSet 4 (eComp [6] (iRng1M (aCons (eVar 2) aNil)) (gtName 6) tYesM (eC (.int 0))))
    (sSeq (sSet 5 (eComp [6] (iRng1M (aCons (eVar 2) aNil)) (gtName 6) tYesM (eC (.int 0))))
    (sSeq (sFor (iRng1M (aCons (eC (.int 7)) aNil)) (gtName 6) (sSeq (sAsg (eIx (eTup (aCons (eC (.int 0)) (aCons (eC (.int 0)) (aCons (eC (.int 2)) (aCons (e1 dNeg (eC (.int 1))) (aCons (e1 dNeg (eC (.int 2))) (aCons (e1 dNeg (eC (.int 1))) (aCons (eC (.int 2)) aNil)))))))) (eVar 6)) (gtSub (eVar 4) (e2 dMod (eCB fInt (aCons (e2 dMul (eVar 3) (eVar 6)) aNil)) (eVar 2))))
    (sAsg (eIx (eTup (aCons (eC (.int 0)) (aCons (eC (.int 1)) (aCons (e1 dNeg (eC (.int 1))) (aCons (eC (.int 0)) (aCons (eC (.int 0)) (aCons (eC (.int 0)) (aCons (eC (.int 0)) aNil)))))))) (eVar 6)) (gtSub (eVar 5) (e2 dMod (eCB fInt (aCons (e2 dMul (eVar 3) (eVar 6)) aNil)) (eVar 2))))))
    (sSeq (sSet 7 (eComp [6] (iLstM (eIx (eVar 0) (eC (.int 1)))) (gtName 6) tYesM (eC (.int 0))))
    (sSeq (sAsg (eC (.int 1)) (gtSub (eVar 7) (e2 dMod (eCB fInt (aCons (e2 dMul (eC (.int 6)) (eVar 3)) aNil)) (eVar 2))))
    (sSeq (sSet 8 (eCB (callF F_L_times) (aCons (eVar 0) (aCons (eVar 7) (aCons (eCB (callF F_L_on_turns) (aCons (eVar 0) (aCons (eC (.int 3)) (aCons (eVar 4) aNil)))) aNil)))))
    (sSeq (sSet 9 (eCB (callF F_L_on_turns) (aCons (eVar 0) (aCons (eC (.int 3)) (aCons (eVar 5) aNil)))))
    (sRet (eComp [6] (iRng1M (aCons (eCB fLen (aCons (eVar 8) aNil)) aNil)) (gtName 6) tYesM (e2 dAdd (eIx (eVar 8) (eVar 6)) (eIx (eVar 9) (eVar 6))))))))))))))
def F_L_sevens : MF := runDef 2 10 b_L_sevens
/-! ### _law_clock -/
abbrev s_L_clock : Stmt := topS 100
abbrev n_L_clock : List Str := ["_law_seat", "_law_small", "_law_large", "_law_which"]
def b_L_clock : SM := (sSeq (sSet 1 (eLst (aCons (eTup (aCons (eC (.int 3)) (aCons (eTup (aCons (eTup (aCons (eC (.int 2)) (aCons (eC (.int 2)) aNil))) aNil)) aNil))) (aCons (eTup (aCons (eC (.int 7)) (aCons (eTup (aCons (eTup (aCons (eC (.int 3)) (aCons (eC (.int 2)) aNil))) aNil)) aNil))) (aCons (eTup (aCons (eC (.int 15)) (aCons (eTup (aCons (eTup (aCons (eC (.int 2)) (aCons (eC (.int 4)) aNil))) aNil)) aNil))) (aCons (eTup (aCons (eC (.int 5)) (aCons (eTup (aCons (eTup (aCons (eC (.int 2)) (aCons (eC (.int 4)) aNil))) aNil)) aNil))) (aCons (eTup (aCons (eC (.int 15)) (aCons (eTup (aCons (eTup (aCons (eC (.int 2)) (aCons (eC (.int 14)) aNil))) aNil)) aNil))) (aCons (eTup (aCons (eC (.int 3)) (aCons (eTup (aCons (eTup (aCons (eC (.int 2)) (aCons (eC (.int 1)) aNil))) aNil)) aNil))) (aCons (eTup (aCons (eC (.int 7)) (aCons (eTup (aCons (eTup (aCons (eC (.int 2)) (aCons (eC (.int 6)) aNil))) aNil)) aNil))) (aCons (eTup (aCons (eC (.int 6)) (aCons (eTup aNil) aNil))) (aCons (eTup (aCons (eC (.int 2)) (aCons (eTup (aCons (eTup (aCons (eC (.int 3)) (aCons (eC (.int 1)) aNil))) aNil)) aNil))) (aCons (eTup (aCons (eC (.int 7)) (aCons (eTup (aCons (eTup (aCons (eC (.int 3)) (aCons (eC (.int 4)) aNil))) aNil)) aNil))) (aCons (eTup (aCons (eC (.int 1)) (aCons (eTup (aCons (eTup (aCons (eC (.int 2)) (aCons (eC (.int 1)) aNil))) (aCons (eTup (aCons (eC (.int 3)) (aCons (eC (.int 1)) aNil))) aNil))) aNil))) (aCons (eTup (aCons (eC (.int 1)) (aCons (eTup aNil) aNil))) aNil))))))))))))))
    (sSeq (sSet 2 (eLst (aCons (eTup (aCons (eC (.int 7)) (aCons (eTup (aCons (eTup (aCons (eC (.int 2)) (aCons (eC (.int 6)) aNil))) (aCons (eTup (aCons (eC (.int 3)) (aCons (eC (.int 2)) aNil))) aNil))) aNil))) (aCons (eTup (aCons (eC (.int 13)) (aCons (eTup (aCons (eTup (aCons (eC (.int 3)) (aCons (eC (.int 3)) aNil))) aNil)) aNil))) (aCons (eTup (aCons (eC (.int 19)) (aCons (eTup (aCons (eTup (aCons (eC (.int 3)) (aCons (eC (.int 7)) aNil))) aNil)) aNil))) (aCons (eTup (aCons (eC (.int 14)) (aCons (eTup (aCons (eTup (aCons (eC (.int 3)) (aCons (eC (.int 9)) aNil))) aNil)) aNil))) (aCons (eTup (aCons (eC (.int 5)) (aCons (eTup (aCons (eTup (aCons (eC (.int 2)) (aCons (eC (.int 4)) aNil))) (aCons (eTup (aCons (eC (.int 3)) (aCons (eC (.int 1)) aNil))) aNil))) aNil))) (aCons (eTup (aCons (eC (.int 29)) (aCons (eTup (aCons (eTup (aCons (eC (.int 2)) (aCons (eC (.int 28)) aNil))) aNil)) aNil))) (aCons (eTup (aCons (eC (.int 11)) (aCons (eTup (aCons (eTup (aCons (eC (.int 5)) (aCons (eC (.int 3)) aNil))) aNil)) aNil))) (aCons (eTup (aCons (eC (.int 21)) (aCons (eTup (aCons (eTup (aCons (eC (.int 2)) (aCons (eC (.int 20)) aNil))) aNil)) aNil))) aNil))))))))))
    (sSeq (sSet 3 (eCB F_L_next (aCons (eVar 0) (aCons (eC (.int 24)) aNil))))
    (sSeq (sIf (tOf (e2 dLt (eVar 3) (eC (.int 20)))) (sRet (eIx (eVar 1) (e2 dMod (eCB fInt (aCons (eVar 3) aNil)) (eC (.int 12))))) sNil)
    (sRet (eIx (eVar 2) (e2 dMod (eCB fInt (aCons (e2 dAdd (e2 dSub (eVar 3) (eC (.int 20))) (e2 dMul (eC (.int 4)) (eCB F_L_next (aCons (eVar 0) (aCons (eC (.int 2)) aNil))))) aNil)) (eC (.int 8)))))))))
def F_L_clock : MF := runDef 1 4 b_L_clock
/-! ### _law_weights -/
abbrev s_L_weights : Stmt := topS 101
abbrev n_L_weights : List Str := ["_law_world_here", "_law_seat", "_law_beats", "_law_many", "_law_kind", "_law_divisors_here", "_law_f", "_law_shift", "_law_weights_here", "_law_least", "_law_k", "_law_weight"]
def b_L_weights : SM := (sSeq (sSet 2 (eIx (eIx (eVar 0) (eC (.int 0))) (eC (.int 0))))
    (sSeq (sSet 3 (eCB fLen (aCons (eIx (eVar 0) (eC (.int 1))) aNil)))
    (sSeq (sSet 4 (eCB F_L_next (aCons (eVar 1) (aCons (eC (.int 5)) aNil))))
    (sSeq (sSet 5 (eCB (callN F_L_divisors) (aCons (e2 dDiv (eVar 3) (eVar 2)) aNil)))
    (sSeq (sSet 6 (eIx (eVar 5) (e2 dSub (e2 dSub (eCB fLen (aCons (eVar 5) aNil)) (eC (.int 1))) (eCB F_L_next (aCons (eVar 1) (aCons (eCB fLen (aCons (eVar 5) aNil)) aNil))))))
    (sSeq (sIf (tOf (e2 dEq (eVar 4) (eC (.int 0)))) (sSeq (sSet 7 (e2 dMod (eCB fInt (aCons (e2 dAdd (eC (.int 1)) (eCB F_L_next (aCons (eVar 1) (aCons (eVar 2) aNil)))) aNil)) (eVar 2)))
    (sSeq (sSet 8 (eCB (callF F_L_traceless) (aCons (eVar 0) (aCons (eVar 6) (aCons (eComp [10] (iRng1M (aCons (eVar 2) aNil)) (gtName 10) tYesM (eCB fInt (aCons (e2 dEq (eVar 10) (eVar 7)) aNil))) aNil)))))
    (sRet (eComp [11] (iLstM (eVar 8)) (gtName 11) tYesM (e2 dAdd (eVar 11) (eC (.int 1))))))) sNil)
    (sSeq (sIf (tAndM (tOf (e2 dEq (eVar 4) (eC (.int 1)))) (tAndM (tOf (e2 dEq (e2 dMod (eVar 2) (eC (.int 7))) (eC (.int 0)))) (tOf (e2 dEq (e2 dMod (e2 dDiv (eVar 3) (eVar 2)) (eC (.int 3))) (eC (.int 0)))))) (sSet 8 (eCB (callF F_L_sevens) (aCons (eVar 0) (aCons (e2 dAdd (eC (.int 1)) (eCB F_L_next (aCons (eVar 1) (aCons (eC (.int 6)) aNil)))) aNil)))) (sIf (tOf (e2 dIn (eVar 4) (eTup (aCons (eC (.int 3)) (aCons (eC (.int 4)) aNil))))) (sSet 8 (eComp [10] (iRng1M (aCons (eVar 3) aNil)) (gtName 10) tYesM (eCB F_L_next (aCons (eVar 1) (aCons (eC (.int 8)) aNil))))) (sSet 8 (eCB (callF F_L_traceless) (aCons (eVar 0) (aCons (eVar 6) (aCons (eCB (callF F_L_row) (aCons (eVar 1) (aCons (eVar 2) aNil))) aNil)))))))
    (sSeq (sSet 9 (e2 dSub (eCB F_L_next (aCons (eVar 1) (aCons (eC (.int 9)) aNil))) (eC (.int 1))))
    (sSeq (sSet 8 (eComp [11] (iLstM (eVar 8)) (gtName 11) tYesM (e2 dAdd (eVar 11) (eVar 9))))
    (sSeq (sIf (tOf (e2 dEq (eVar 4) (eC (.int 3)))) (sAugIx (eVar 8) (eCB F_L_next (aCons (eVar 1) (aCons (eVar 3) aNil))) dAdd (e2 dSub (eVar 3) (e2 dMod (eCB fInt (aCons (eCB fSum (aCons (eVar 8) aNil)) aNil)) (eVar 3)))) sNil)
    (sRet (eVar 8))))))))))))
def F_L_weights : MF := runDef 2 12 b_L_weights
/-! ### _law_moved_totals -/
abbrev s_L_moved_totals : Stmt := topS 102
abbrev n_L_moved_totals : List Str := ["_law_world_here", "_law_weights_here", "_law_clock_here", "_law_kept", "_law_q", "_law_totals", "_law_number", "_law_k"]
def b_L_moved_totals : SM := (sSeq (sSet 2 (eIx (eVar 0) (eC (.int 0))))
    (sSeq (sSet 3 (eIx (eVar 2) (eC (.int 0))))
    (sSeq (sFor (iRng2M (aCons (eC (.int 2)) (aCons (e2 dAdd (eIx (eVar 2) (eC (.int 0))) (eC (.int 1))) aNil))) (gtName 4) (sIf (tAndM (tOf (e2 dEq (e2 dMod (eIx (eVar 2) (eC (.int 0))) (eVar 4)) (eC (.int 0)))) (tAndM (tOf (e2 dEq (eCB (callN F_L_units) (aCons (eVar 4) aNil)) (e2 dSub (eVar 4) (eC (.int 1))))) (tOf (e2 dGt (eCB (callN F_L_edge) (aCons (eVar 2) (aCons (eVar 4) aNil))) (eC (.int 1)))))) (sSet 3 (e2 dDiv (eVar 3) (eVar 4))) sNil))
    (sSeq (sSet 5 (eComp [7] (iRng1M (aCons (e2 dMul (e2 dDiv (eCB fLen (aCons (eVar 1) aNil)) (eIx (eVar 2) (eC (.int 0)))) (eVar 3)) aNil)) (gtName 7) tYesM (eC (.int 0))))
    (sSeq (sFor (iRng1M (aCons (eCB fLen (aCons (eVar 1) aNil)) aNil)) (gtName 6) (sAugIx (eVar 5) (e2 dAdd (e2 dMul (e2 dDiv (eVar 6) (eIx (eVar 2) (eC (.int 0)))) (eVar 3)) (e2 dMod (e2 dMod (eCB fInt (aCons (eVar 6) aNil)) (eIx (eVar 2) (eC (.int 0)))) (eVar 3))) dAdd (eIx (eVar 1) (eVar 6))))
    (sRet (eTup (aCons (e2 dDiv (eIx (eVar 2) (eC (.int 0))) (eVar 3)) (aCons (eVar 5) aNil)))))))))
def F_L_moved_totals : MF := runDef 2 8 b_L_moved_totals
/-! ### _law_undivided, by hand -/
def F_L_undivided : MF
  | [clk, .tup [.int b, .tup ws]], s => if D.norefs [clk, .tup [.int b, .tup ws]] = true then (match F_judge_deal [clk, .tup [.int b, .tup ws], .str "deal"] MS0 with
    | some (.non, _) => if b = 1 then none else some (.tup [.str "deal", .int (-1)], s)
    | _ => none) else none
  | _, _ => none
/-! ### _law_of_weights -/
abbrev s_L_of_weights : Stmt := topS 104
abbrev n_L_of_weights : List Str := ["_law_world_here", "_law_seat", "_law_clock_here", "_law_many", "_law_weights_here", "_law_more", "_law_deal", "_law_power", "_law_after", "_law_k", "_law_total", "_law_moved_here", "_law_totals", "_law_paper", "_law_due"]
def b_L_of_weights : SM := (sSeq (sSet 2 (eIx (eVar 0) (eC (.int 0))))
    (sSeq (sSet 3 (eCB fLen (aCons (eIx (eVar 0) (eC (.int 1))) aNil)))
    (sSeq (sSet 4 (eCB (callF F_L_weights) (aCons (eVar 0) (aCons (eVar 1) aNil))))
    (sSeq (sSet 5 (eCB fInt (aCons (e2 dEq (eCB F_L_next (aCons (eVar 1) (aCons (eC (.int 3)) aNil))) (eC (.int 2))) aNil)))
    (sSeq (sAugIx (eVar 4) (eCB F_L_next (aCons (eVar 1) (aCons (eVar 3) aNil))) dAdd (eVar 5))
    (sSeq (sSet 6 (eTup (aCons (eC (.int 1)) (aCons (eCB fTuple (aCons (eVar 4) aNil)) aNil))))
    (sSeq (sSet 7 (eCB fList (aCons (eVar 4) aNil)))
    (sSeq (sSet 8 (eC .non))
    (sSeq (sFor (iRng2M (aCons (eC (.int 1)) (aCons (e2 dAdd (eCB (callN F_L_edge) (aCons (eVar 2) (aCons (eIx (eVar 2) (eC (.int 0))) aNil))) (eC (.int 1))) aNil))) (gtName 9) (sSeq (sIf (tAndM (tOf (e2 dGt (eVar 9) (eC (.int 1)))) (tOf (e1 dIsN (eVar 8)))) (sSet 7 (eCB (callF F_L_times) (aCons (eVar 0) (aCons (eVar 7) (aCons (eVar 4) aNil))))) sNil)
    (sIf (tAndM (tOf (e1 dIsN (eVar 8))) (tOf (eCB (callF F_L_level) (aCons (eVar 7) aNil)))) (sSet 8 (eVar 9)) sNil)))
    (sSeq (sSet 10 (eCB fSum (aCons (eVar 4) aNil)))
    (sSeq (sAsg (eCB F_L_moved_totals (aCons (eVar 0) (aCons (eVar 4) aNil))) (gtTup 2 (gtCons (gtName 11) (gtCons (gtName 12) gtNil))))
    (sSeq (sIf (tAndM (tOf (e1 dNotN (eVar 8))) (tOrM (tOf (e2 dNe (e2 dMod (eCB fInt (aCons (eVar 10) aNil)) (eVar 3)) (eC (.int 0)))) (tOf (e2 dGt (eCB fLen (aCons (eComp [9] (iLstM (eVar 12)) (gtName 9) (tOf (e2 dNe (e2 dMod (eCB fInt (aCons (eVar 9) aNil)) (eVar 11)) (eC (.int 0)))) (eVar 9)) aNil)) (eC (.int 0)))))) (sRet (eC (.bl false))) sNil)
    (sSeq (sIf (tAndM (tOf (e1 dNotN (eVar 8))) (tNotM (tOf (eCB (callF F_L_level) (aCons (eVar 12) aNil))))) (sRet (eC (.bl false))) sNil)
    (sSeq (sIf (tNotM (tOf (eCB (callN (F_L_same 5)) (aCons (eCB (callN F_divides_total) (aCons (eVar 2) (aCons (eVar 6) aNil))) (aCons (e2 dEq (e2 dMod (eCB fInt (aCons (eVar 10) aNil)) (eVar 3)) (eC (.int 0))) aNil))))) (sRet (eC (.bl false))) sNil)
    (sSeq (sIf (tOrM (tNotM (tOf (eCB (callN (F_L_same 5)) (aCons (eCB (callN F_even_after) (aCons (eVar 2) (aCons (eVar 6) aNil))) (aCons (eVar 8) aNil))))) (tNotM (tOf (eCB (callN (F_L_same 5)) (aCons (eCB (callN F_folds_evenly) (aCons (eVar 2) (aCons (eVar 6) aNil))) (aCons (eCB (callF F_L_level) (aCons (eVar 12) aNil)) aNil)))))) (sRet (eC (.bl false))) sNil)
    (sSeq (sIf (tNotM (tOf (eCB (callN (F_L_same 5)) (aCons (eCB (callN F_L_undivided) (aCons (eVar 2) (aCons (eTup (aCons (eC (.int 2)) (aCons (eCB fTuple (aCons (eComp [9] (iLstM (eVar 4)) (gtName 9) tYesM (e2 dAdd (e2 dMul (eC (.int 2)) (eVar 9)) (eC (.int 1)))) aNil)) aNil))) aNil))) (aCons (eTup (aCons (eC (.str "deal")) (aCons (e1 dNeg (eC (.int 1))) aNil))) aNil))))) (sRet (eC (.bl false))) sNil)
    (sSeq (sIf (tOf (e1 dIsN (eVar 8))) (sSeq (sSet 13 (eCB (callN F_even_paper) (aCons (eVar 2) (aCons (eVar 6) aNil))))
    (sRet (eAnd (e1 (fun d => some (.bl (dIsi .tuple d))) (eVar 13)) (eAnd (e2 dEq (eCB fLen (aCons (eVar 13) aNil)) (eC (.int 2))) (eCB (callN (F_L_same 5)) (aCons (eIx (eVar 13) (eC (.int 0))) (aCons (eC (.str "never")) aNil))))))) sNil)
    (sSeq (sSet 14 (eC (.int 1)))
    (sSeq (sFor (iRng1M (aCons (eVar 8) aNil)) (gtName 9) (sSet 14 (e2 dMul (eVar 14) (eVar 10))))
    (sSeq (sIf (tOf (e2 dNe (e2 dMod (eCB fInt (aCons (eVar 14) aNil)) (eVar 3)) (eC (.int 0)))) (sRet (eC (.bl false))) sNil)
    (sRet (eCB (callN (F_L_same 5)) (aCons (eCB (callN F_dealt_again) (aCons (eVar 2) (aCons (eVar 6) (aCons (eVar 8) aNil)))) (aCons (eTup (aCons (eC (.int 1)) (aCons (eCB fTuple (aCons (eComp [9] (iLstM (eVar 4)) (gtName 9) tYesM (e2 dDiv (eVar 14) (eVar 3))) aNil)) aNil))) aNil))))))))))))))))))))))))
def F_L_of_weights : MF := runDef 2 15 b_L_of_weights
/-! ### _law_part -/
abbrev s_L_part : Stmt := topS 107
abbrev n_L_part : List Str := ["_law_world_here", "_law_seat", "_law_clock_here", "_law_turns", "_law_divisors_here", "_law_a", "_law_f", "_law_spots", "_law_q", "_law_spot", "_law_chosen", "_law_number", "_law_turn", "_law_apart", "_law_mover"]
def b_L_part : SM := (sSeq (sSet 2 (eIx (eVar 0) (eC (.int 0))))
    (sSeq (sSet 3 (e2 dDiv (eCB fLen (aCons (eIx (eVar 0) (eC (.int 1))) aNil)) (eIx (eVar 2) (eC (.int 0)))))
    (sSeq (sSet 4 (eCB (callN F_L_divisors) (aCons (eIx (eVar 2) (eC (.int 0))) aNil)))
    (sSeq (sSet 5 (eIx (eVar 4) (eCB F_L_next (aCons (eVar 1) (aCons (eCB fLen (aCons (eVar 4) aNil)) aNil)))))
    (sSeq (sSet 4 (eCB (callN F_L_divisors) (aCons (eVar 3) aNil)))
    (sSeq (sSet 6 (eIx (eVar 4) (eCB F_L_next (aCons (eVar 1) (aCons (eCB fLen (aCons (eVar 4) aNil)) aNil)))))
    (sSeq (sSet 7 (eC (.int 1)))
    (sSeq (sFor (iRng2M (aCons (eC (.int 2)) (aCons (e2 dAdd (eIx (eVar 2) (eC (.int 0))) (eC (.int 1))) aNil))) (gtName 8) (sIf (tAndM (tOf (e2 dEq (e2 dMod (eIx (eVar 2) (eC (.int 0))) (eVar 8)) (eC (.int 0)))) (tAndM (tOf (e2 dEq (eCB (callN F_L_units) (aCons (eVar 8) aNil)) (e2 dSub (eVar 8) (eC (.int 1))))) (tOf (e2 dNe (e2 dMod (eVar 5) (eVar 8)) (eC (.int 0)))))) (sIf (tOf (e2 dGt (eCB fLen (aCons (eComp [14] (iTupM (eIx (eVar 2) (eC (.int 1)))) (gtName 14) (tAndM (tOf (e2 dEq (e2 dMod (eVar 6) (eIx (eVar 14) (eC (.int 0)))) (eC (.int 0)))) (tOf (e2 dNe (e2 dMod (eIx (eVar 14) (eC (.int 1))) (eVar 8)) (eC (.int 1))))) (eVar 14)) aNil)) (eC (.int 0)))) (sSet 7 (e2 dMul (eVar 7) (eVar 8))) sNil) sNil))
    (sSeq (sSet 9 (eCB F_L_next (aCons (eVar 1) (aCons (eVar 7) aNil))))
    (sSeq (sSet 10 (eLst aNil))
    (sSeq (sFor (iRng1M (aCons (eCB fLen (aCons (eIx (eVar 0) (eC (.int 1))) aNil)) aNil)) (gtName 11) (sSeq (sSet 12 (e2 dDiv (eVar 11) (eIx (eVar 2) (eC (.int 0)))))
    (sSeq (sSet 13 (e2 dSub (e2 dMod (eCB fInt (aCons (eVar 11) aNil)) (eIx (eVar 2) (eC (.int 0)))) (e2 dMul (e2 dSub (eC (.int 1)) (eIx (eIx (eVar 0) (eC (.int 2))) (eVar 12))) (eVar 9))))
    (sDrop (eApp (eVar 10) (eCB fInt (aCons (eAnd (e2 dEq (e2 dMod (eCB fInt (aCons (eVar 12) aNil)) (e2 dDiv (eVar 3) (eVar 6))) (eC (.int 0))) (e2 dEq (e2 dMod (eCB fInt (aCons (eVar 13) aNil)) (e2 dDiv (eIx (eVar 2) (eC (.int 0))) (eVar 5))) (eC (.int 0)))) aNil)))))))
    (sRet (eTup (aCons (eTup (aCons (eVar 5) (aCons (eVar 6) (aCons (eVar 9) aNil)))) (aCons (eCB fTuple (aCons (eVar 10) aNil)) aNil)))))))))))))))
def F_L_part : MF := runDef 2 15 b_L_part
/-! ### _law_set -/
abbrev s_L_set : Stmt := topS 105
abbrev n_L_set : List Str := ["_law_world_here", "_law_seat", "_law_many", "_law_beats", "_law_way", "_law_chosen", "_law_moves", "_law_k"]
def b_L_set : SM := (sSeq (sSet 2 (eCB fLen (aCons (eIx (eVar 0) (eC (.int 1))) aNil)))
    (sSeq (sSet 3 (eIx (eIx (eVar 0) (eC (.int 0))) (eC (.int 0))))
    (sSeq (sSet 4 (eCB F_L_next (aCons (eVar 1) (aCons (eC (.int 4)) aNil))))
    (sSeq (sSet 5 (eComp [7] (iRng1M (aCons (eVar 2) aNil)) (gtName 7) tYesM (eCB fInt (aCons (eOr (e2 dEq (eCB F_L_next (aCons (eVar 1) (aCons (eC (.int 2)) aNil))) (eC (.int 0))) (e2 dEq (eVar 4) (eC (.int 0)))) aNil))))
    (sSeq (sIf (tOf (e2 dEq (eVar 4) (eC (.int 1)))) (sSet 5 (eComp [7] (iRng1M (aCons (eVar 2) aNil)) (gtName 7) tYesM (eCB fInt (aCons (e2 dNe (eVar 7) (eCB F_L_next (aCons (eVar 1) (aCons (eC (.int 3)) aNil)))) aNil)))) sNil)
    (sSeq (sIf (tOf (e2 dEq (eVar 4) (eC (.int 2)))) (sSet 5 (eCB fList (aCons (eIx (eCB (callF F_L_part) (aCons (eVar 0) (aCons (eVar 1) aNil))) (eC (.int 1))) aNil))) sNil)
    (sSeq (sIf (tOf (e2 dEq (eCB fSum (aCons (eVar 5) aNil)) (eC (.int 0)))) (sAsg (eC (.int 1)) (gtSub (eVar 5) (eCB F_L_next (aCons (eVar 1) (aCons (eVar 2) aNil))))) sNil)
    (sSeq (sSet 6 (eCB fSorted (aCons (eComp [7] (iRng1M (aCons (eVar 2) aNil)) (gtName 7) (tOf (e2 dEq (eIx (eVar 5) (eVar 7)) (eC (.int 1)))) (eTup (aCons (e2 dMod (eCB fInt (aCons (eVar 7) aNil)) (eVar 3)) (aCons (e2 dDiv (eVar 7) (eVar 3)) aNil)))) aNil)))
    (sRet (eTup (aCons (eCB fTuple (aCons (eVar 6) aNil)) (aCons (eCB fTuple (aCons (eVar 5) aNil)) aNil))))))))))))
def F_L_set : MF := runDef 2 8 b_L_set
/-! ### _law_of_sets -/
abbrev s_L_of_sets : Stmt := topS 106
abbrev n_L_of_sets : List Str := ["_law_world_here", "_law_seat", "_law_clock_here", "_law_sets", "_law_first", "_law_sizes", "_law_after", "_law_product", "_law_k", "_law_told", "_law_chosen"]
def b_L_of_sets : SM := (sSeq (sSet 2 (eIx (eVar 0) (eC (.int 0))))
    (sSeq (sSet 3 (eComp [8] (iRng1M (aCons (e2 dAdd (eC (.int 1)) (eCB F_L_next (aCons (eVar 1) (aCons (eC (.int 4)) aNil)))) aNil)) (gtName 8) tYesM (eCB (callF F_L_set) (aCons (eVar 0) (aCons (eVar 1) aNil)))))
    (sSeq (sSet 4 (eC .non))
    (sSeq (sIf (tOf (e2 dEq (eCB fSum (aCons (eIx (eIx (eVar 3) (eC (.int 0))) (eC (.int 1))) aNil)) (eCB fLen (aCons (eIx (eVar 0) (eC (.int 1))) aNil)))) (sSet 4 (eC (.int 1))) sNil)
    (sSeq (sSet 5 (eC (.int 1)))
    (sSeq (sSet 6 (eC .non))
    (sSeq (sSet 7 (eComp [8] (iRng1M (aCons (eCB fLen (aCons (eIx (eVar 0) (eC (.int 1))) aNil)) aNil)) (gtName 8) tYesM (eCB fInt (aCons (e2 dEq (eVar 8) (eC (.int 0))) aNil))))
    (sSeq (sFor (iRng1M (aCons (eCB fLen (aCons (eVar 3) aNil)) aNil)) (gtName 8) (sIf (tOf (e1 dIsN (eVar 6))) (sSeq (sSet 7 (eCB (callF F_L_times) (aCons (eVar 0) (aCons (eVar 7) (aCons (eIx (eIx (eVar 3) (eVar 8)) (eC (.int 1))) aNil)))))
    (sSeq (sSet 5 (e2 dMul (eVar 5) (eCB fLen (aCons (eIx (eIx (eVar 3) (eVar 8)) (eC (.int 0))) aNil))))
    (sIf (tOf (eCB (callF F_L_level) (aCons (eVar 7) aNil))) (sSet 6 (e2 dAdd (eVar 8) (eC (.int 1)))) sNil))) sNil))
    (sSeq (sIf (tAndM (tOf (e1 dNotN (eVar 6))) (tOf (e2 dNe (e2 dMod (eCB fInt (aCons (eVar 5) aNil)) (eCB fLen (aCons (eIx (eVar 0) (eC (.int 1))) aNil))) (eC (.int 0))))) (sRet (eC (.bl false))) sNil)
    (sSeq (sSet 9 (eComp [10] (iLstM (eVar 3)) (gtName 10) tYesM (eCB (callN F_deal_on) (aCons (eVar 2) (aCons (eIx (eVar 10) (eC (.int 0))) aNil)))))
    (sSeq (sIf (tOrM (tOf (e2 dNeD (eIx (eVar 9) (eC (.int 0))) (eTup (aCons (eC (.int 1)) (aCons (eIx (eIx (eVar 3) (eC (.int 0))) (eC (.int 1))) aNil))))) (tNotM (tOf (eCB (callN (F_L_same 5)) (aCons (eCB (callN F_even_after) (aCons (eVar 2) (aCons (eIx (eVar 9) (eC (.int 0))) aNil))) (aCons (eVar 4) aNil)))))) (sRet (eC (.bl false))) sNil)
    (sRet (eCB (callN (F_L_same 5)) (aCons (eCB (callN F_row_after) (aCons (eVar 2) (aCons (eCB fTuple (aCons (eVar 9) aNil)) aNil))) (aCons (eVar 6) aNil)))))))))))))))
def F_L_of_sets : MF := runDef 2 11 b_L_of_sets
/-! ### _law_of_parts -/
abbrev s_L_of_parts : Stmt := topS 108
abbrev n_L_of_parts : List Str := ["_law_world_here", "_law_seat", "_law_clock_here", "_law_many", "_law_one", "_law_first", "_law_other", "_law_second", "_law_sizes", "_law_primes", "_law_missed", "_law_cover", "_law_product", "_law_after", "_law_q"]
def b_L_of_parts : SM := (sSeq (sSet 2 (eIx (eVar 0) (eC (.int 0))))
    (sSeq (sSet 3 (eCB fLen (aCons (eIx (eVar 0) (eC (.int 1))) aNil)))
    (sSeq (sAsg (eCB (callF F_L_part) (aCons (eVar 0) (aCons (eVar 1) aNil))) (gtTup 2 (gtCons (gtName 4) (gtCons (gtName 5) gtNil))))
    (sSeq (sAsg (eCB (callF F_L_part) (aCons (eVar 0) (aCons (eVar 1) aNil))) (gtTup 2 (gtCons (gtName 6) (gtCons (gtName 7) gtNil))))
    (sSeq (sSet 8 (eTup (aCons (e2 dMul (eIx (eVar 4) (eC (.int 0))) (eIx (eVar 4) (eC (.int 1)))) (aCons (e2 dMul (eIx (eVar 6) (eC (.int 0))) (eIx (eVar 6) (eC (.int 1)))) aNil))))
    (sSeq (sSet 9 (eComp [14] (iLstM (eCB (callN F_L_divisors) (aCons (eVar 3) aNil))) (gtName 14) (tAndM (tOf (e2 dEq (eCB (callN F_L_units) (aCons (eVar 14) aNil)) (e2 dSub (eVar 14) (eC (.int 1))))) (tOf (e2 dGt (eVar 14) (eC (.int 1))))) (eVar 14)))
    (sSeq (sSet 10 (eComp [14] (iLstM (eVar 9)) (gtName 14) (tAndM (tOf (e2 dNe (e2 dMod (eIx (eVar 8) (eC (.int 0))) (eVar 14)) (eC (.int 0)))) (tOf (e2 dNe (e2 dMod (eIx (eVar 8) (eC (.int 1))) (eVar 14)) (eC (.int 0))))) (eVar 14)))
    (sSeq (sSet 11 (e2 dEq (eCB fLen (aCons (eVar 10) aNil)) (eC (.int 0))))
    (sSeq (sSet 12 (eCB (callF F_L_times) (aCons (eVar 0) (aCons (eVar 5) (aCons (eVar 7) aNil)))))
    (sSeq (sIf (tOrM (tOf (e2 dNe (eCB fSum (aCons (eVar 5) aNil)) (eIx (eVar 8) (eC (.int 0))))) (tOrM (tOf (e2 dNe (eVar 11) (e2 dGt (eCB fMin (aCons (eVar 12) aNil)) (eC (.int 0))))) (tOf (e2 dNe (eVar 11) (eCB (callF F_L_level) (aCons (eVar 12) aNil)))))) (sRet (eC (.bl false))) sNil)
    (sSeq (sIf (tNotM (tOf (eCB (callN (F_L_same 5)) (aCons (eCB (callN F_parts_cover) (aCons (eVar 2) (aCons (eVar 4) (aCons (eVar 6) aNil)))) (aCons (eVar 11) aNil))))) (sRet (eC (.bl false))) sNil)
    (sSeq (sSet 13 (eC .non))
    (sSeq (sIf (tOf (e2 dEq (eIx (eVar 8) (eC (.int 0))) (eVar 3))) (sSet 13 (eC (.int 1))) (sIf (tOf (eVar 11)) (sSet 13 (eC (.int 2))) sNil))
    (sRet (eCB (callN (F_L_same 5)) (aCons (eCB (callN F_row_after) (aCons (eVar 2) (aCons (eTup (aCons (eTup (aCons (eC (.int 1)) (aCons (eVar 5) aNil))) (aCons (eTup (aCons (eC (.int 1)) (aCons (eVar 7) aNil))) aNil))) aNil))) (aCons (eVar 13) aNil)))))))))))))))))
def F_L_of_parts : MF := runDef 2 15 b_L_of_parts
end Mir
/-! ## MirN -/
set_option maxHeartbeats 200000
set_option Elab.async false
set_option linter.all false
set_option maxRecDepth 100000
/-! Data: a[1:], a ** b. -/
namespace Mir
open PySem PySem.Spec PyProof.Rows L2
def powOk (i j : Int) : Bool := decide (0 ≤ j) && (decide (j ≤ 1000000) && decide (i.natAbs < 18446744073709551616))
def dPow := dIC powOk fun i j => .int (i ^ j.toNat)
theorem powOk_ok (i j : Int) (h : powOk i j = true) : CPow i j := by
  unfold powOk at h
  rw [Bool.and_eq_true, Bool.and_eq_true, decide_eq_true_iff, decide_eq_true_iff, decide_eq_true_iff] at h
  exact h
theorem q_pow {X : Cx} {a b : Expr} {ma mb : EM} {pos : Pos} (ha : QE X a ma) (hb : QE X b mb) : QE X (.BinOp a .Pow b pos) (e2 dPow ma mb) := q_op op_pow (r_IC (fun _ _ _ => .int _) powOk_ok) ha hb
def eSl1 (m : EM) : EM := fun env s => bnd (m env s) fun d s1 => match d with
  | .ref r => (match s1.st[r]? with
    | some xs => some (.ref s1.st.length, s1.add (xs.drop 1))
    | none => none)
  | _ => none
theorem cut1 (vs : List V) : cutV vs (some 1) none = vs.drop 1 := by
  unfold cutV
  rw [show (some (1 : Int)) = some ((1 : Nat) : Int) from rfl, HT.sIx_nat, HT.sIx_none]
  cases vs with
  | nil => rfl
  | cons v vs =>
    rw [show min 1 (v :: vs).length = 1 by simp]
    exact List.take_of_length_le (by simp)
theorem RVs.drop1 {w : Wd} {ds : List D} {vs : List V} (h : RVs w ds vs) : RVs w (ds.drop 1) (vs.drop 1) := by
  cases h with
  | nil => exact .nil
  | cons _ t => exact t
theorem q_sl1 {X : Cx} {a : Expr} {ma : EM} {j : _} {p1 p2 pos : Pos} (ha : QE X a ma) : QE X (.Subscript a (.Slice (some (.Constant (.int 1) j p1)) none none p2) pos) (eSl1 ma) :=
  pe_mono (pe_slice sl_list ha (po_some pe_int) po_none) fun σ H Q ⟨w, env, s, d, s', e, k, ek, h, q⟩ => by
    obtain ⟨x, s1, h1, h⟩ := bnd_eq h
    cases x with
    | ref r =>
      simp only at h
      split at h
      · rename_i xs hx
        cases h
        refine ⟨w, env, s, _, s1, e, k, ek, h1, fun w1 vx k1 l1 r1 => ⟨1, rfl, ?_⟩⟩
        obtain ⟨b, vs, rfl, g1, g2, g3⟩ := r1.list k1 hx
        refine ⟨b, vs, rfl, SqL.of g2, fun p hp => ?_⟩
        rw [cut1]
        obtain ⟨k2, l2, r2⟩ := k1.addNew hp g3.drop1
        exact q _ (.ref p) k2 (l1.trans l2) r2
      · cases h
    | _ => cases h
end Mir
/-! ## WP0 -/
set_option Elab.async false
set_option linter.all false
set_option maxRecDepth 100000
set_option maxHeartbeats 4000000
namespace Mir
open PySem PySem.Spec PyProof.Rows L2
section
variable {P : Program} {w : World} {K : PySem.W.Frag} {mg : Str → Option Value} {base : Heap}

/-! ### usable -/
theorem sc_usable : FnScope n_usable ["good", "word"] (defScope s_usable) := ⟨rfl, rfl, rfl, by decide +kernel, rfl, by decide +kernel, by decide +kernel⟩
theorem ok_usable {f : Addr} {fd : FuncData} (F : Fun K "usable" "usable" s_usable f fd)  : FnOk P w K mg base CX0 1 f fd ["good", "word"] (spM F_usable) :=
  qdef (k := 0) F sc_usable fun cdv A outer s H E hr0 =>
      (show QSs _ _ b_usable from (qs_one (qs_if (qt_not (qt (qv 0))) (qs_one qs_never) qs_nil)))
theorem cal_usable {f : Addr} {fd : FuncData} (F : Fun K "usable" "usable" s_usable f fd) (g : mg "usable" = some (.ref f))  : Cal P w K mg base "usable" 2 1 F_usable :=
  ⟨⟨f, fd, ["good", "word"], rfl, ok_usable F , F.binds fun _ _ _ _ _ _ us hl => match us, hl with | [_, _], _ => rfl, g, F.kp⟩⟩
/-! ### spots_in -/
theorem sc_spots_in : FnScope n_spots_in ["clock", "a", "f"] (defScope s_spots_in) := ⟨rfl, rfl, rfl, by decide +kernel, rfl, by decide +kernel, by decide +kernel⟩
theorem ok_spots_in {f : Addr} {fd : FuncData} (F : Fun K "spots_in" "spots_in" s_spots_in f fd) (c_primes_in : Cal P w K mg base "primes_in" 1 1 F_primes_in) : FnOk P w K mg base CX0 2 f fd ["clock", "a", "f"] (spM F_spots_in) :=
  qdef (k := 1) F sc_spots_in fun cdv A outer s H E hr0 =>
      (show QSs _ _ b_spots_in from (qs_cons (qs_asg (qv 0) (qg_tup rfl (qg_cons (qg_name (i := 3) sc_spots_in.nd) (qg_cons (qg_name (i := 4) sc_spots_in.nd) qg_nil))))
      (qs_cons (qs_set (i := 5) sc_spots_in.nd qint)
      (qs_cons (qs_for PassesOwn.never rfl (qi_tup (q_callN c_primes_in (hr0.mono (by decide)) (qa_cons (q_div (qv 3) (qv 1)) qa_nil))) (qg_name (i := 6) sc_spots_in.nd) (qs_cons (qs_setLc (i := 7) (own := [("mover", 8), ("root", 9)]) rfl sc_spots_in.nd (sw_true rfl rfl rfl (by decide +kernel)) (show blkC n_spots_in (defScope s_spots_in) _ [("mover", 8), ("root", 9)] = true by decide +kernel) (qi_tup (qv 4)) (fun _ _ _ _ _ => (qgw_tup rfl (qgw_cons (qgw_name (i := 8) sc_spots_in.nd (by decide)) (qgw_cons (qgw_name (i := 9) sc_spots_in.nd (by decide)) qgw_nil)))) (fun _ _ _ _ _ => (qts_one (PW.pt (qw_and (qt_eq (q_mod (qv 2) (qv 8)) qint) (qw_and1 (qt_ne (q_mod (q_sub (qv 9) qint) (qv 6)) qint)))))) (fun _ _ _ _ _ => (qv 8)))
      (qs_one (qs_if (qt_lst (qv 7)) (qs_one (qs_set (i := 5) sc_spots_in.nd (q_mul (qv 5) (qv 6)))) qs_nil))))
      (qs_one (qs_ret (qv 5)))))))
theorem cal_spots_in {f : Addr} {fd : FuncData} (F : Fun K "spots_in" "spots_in" s_spots_in f fd) (g : mg "spots_in" = some (.ref f)) (c_primes_in : Cal P w K mg base "primes_in" 1 1 F_primes_in) : Cal P w K mg base "spots_in" 3 2 F_spots_in :=
  ⟨⟨f, fd, ["clock", "a", "f"], rfl, ok_spots_in F c_primes_in, F.binds fun _ _ _ _ _ _ us hl => match us, hl with | [_, _, _], _ => rfl, g, F.kp⟩⟩
/-! ### turns_many -/
theorem sc_turns_many : FnScope n_turns_many ["clock"] (defScope s_turns_many) := ⟨rfl, rfl, rfl, by decide +kernel, rfl, by decide +kernel, by decide +kernel⟩
theorem ok_turns_many {f : Addr} {fd : FuncData} (F : Fun K "turns_many" "turns_many" s_turns_many f fd) (c_turns_in : Cal P w K mg base "turns_in" 1 1 F_turns_in) : FnOk P w K mg base CX0 2 f fd ["clock"] (spM F_turns_many) :=
  qdef (k := 1) F sc_turns_many fun cdv A outer s H E hr0 =>
      (show QSs _ _ b_turns_many from (qs_one (qs_ret (q_callN c_turns_in (hr0.mono (by decide)) (qa_cons (qv 0) qa_nil)))))
theorem cal_turns_many {f : Addr} {fd : FuncData} (F : Fun K "turns_many" "turns_many" s_turns_many f fd) (g : mg "turns_many" = some (.ref f)) (c_turns_in : Cal P w K mg base "turns_in" 1 1 F_turns_in) : Cal P w K mg base "turns_many" 1 2 F_turns_many :=
  ⟨⟨f, fd, ["clock"], rfl, ok_turns_many F c_turns_in, F.binds fun _ _ _ _ _ _ us hl => match us, hl with | [_], _ => rfl, g, F.kp⟩⟩
/-! ### want_two -/
theorem sc_want_two : FnScope n_want_two ["clock", "one", "other"] (defScope s_want_two) := ⟨rfl, rfl, rfl, by decide +kernel, rfl, by decide +kernel, by decide +kernel⟩
theorem ok_want_two {f : Addr} {fd : FuncData} (F : Fun K "want_two" "want_two" s_want_two f fd) (c_want_deal : Cal P w K mg base "want_deal" 3 4 F_want_deal) : FnOk P w K mg base CX0 5 f fd ["clock", "one", "other"] (spM F_want_two) :=
  qdef (k := 4) F sc_want_two fun cdv A outer s H E hr0 =>
      (show QSs _ _ b_want_two from (qs_cons (qs_drop (q_callN c_want_deal (hr0.mono (by decide)) (qa_cons (qv 0) (qa_cons (qv 1) (qa_cons qstr qa_nil)))))
      (qs_one (qs_drop (q_callN c_want_deal (hr0.mono (by decide)) (qa_cons (qv 0) (qa_cons (qv 2) (qa_cons qstr qa_nil))))))))
theorem cal_want_two {f : Addr} {fd : FuncData} (F : Fun K "want_two" "want_two" s_want_two f fd) (g : mg "want_two" = some (.ref f)) (c_want_deal : Cal P w K mg base "want_deal" 3 4 F_want_deal) : Cal P w K mg base "want_two" 3 5 F_want_two :=
  ⟨⟨f, fd, ["clock", "one", "other"], rfl, ok_want_two F c_want_deal, F.binds fun _ _ _ _ _ _ us hl => match us, hl with | [_, _, _], _ => rfl, g, F.kp⟩⟩
/-! ### settled -/
theorem sc_settled : FnScope n_settled ["clock", "bottom", "weights"] (defScope s_settled) := ⟨rfl, rfl, rfl, by decide +kernel, rfl, by decide +kernel, by decide +kernel⟩
theorem ok_settled {f : Addr} {fd : FuncData} (F : Fun K "settled" "settled" s_settled f fd) (B : Bt mg) (c_is_integer : Cal P w K mg base "is_integer" 1 2 F_is_integer) (c_moves_many : Cal P w K mg base "moves_many" 1 2 F_moves_many) : FnOk P w K mg base CX0 3 f fd ["clock", "bottom", "weights"] (spM F_settled) :=
  qdef (k := 2) F sc_settled fun cdv A outer s H E hr0 =>
      (show QSs _ _ b_settled from (qs_cons (qs_if (PW.pt (qw_or (qt_not (qt (q_callN c_is_integer (hr0.mono (by decide)) (qa_cons (qv 1) qa_nil)))) (qw_or1 (qt_eq (qv 1) qint)))) (qs_one qs_never) qs_nil)
      (qs_cons (qs_if (PW.pt (qw_or (qt_not (qt (q_isi .tuple B.isinstance B.tuple (by decide +kernel) (qv 2)))) (qw_or1 (qt_ne (q_callB call_len cb_len B.len (by decide +kernel) (qa_cons (qv 2) qa_nil)) (q_callN c_moves_many (hr0.mono (by decide)) (qa_cons (qv 0) qa_nil)))))) (qs_one qs_never) qs_nil)
      (qs_cons (qs_set (i := 3) sc_settled.nd (q_callB call_abs cb_abs B.abs (by decide +kernel) (qa_cons (qv 1) qa_nil)))
      (qs_cons (qs_for PassesOwn.never rfl (qi_tup (qv 2)) (qg_name (i := 4) sc_settled.nd) (qs_cons (qs_if (qt_not (qt (q_callN c_is_integer (hr0.mono (by decide)) (qa_cons (qv 4) qa_nil)))) (qs_one qs_never) qs_nil)
      (qs_one (qs_set (i := 3) sc_settled.nd (q_callBfun cr_gcd cb_gcd B.gcd (qa_cons (qv 3) (qa_cons (qv 4) qa_nil)))))))
      (qs_cons (qs_if (qt_lt (qv 1) qint) (qs_one (qs_set (i := 3) sc_settled.nd (q_neg (qv 3)))) qs_nil)
      (qs_one (qs_ret (q_tup (qa_cons (q_div (qv 1) (qv 3)) (qa_cons (q_callTy call_tuple_of cb_tuple B.tuple (by decide +kernel) (qa_cons (q_comp (own := [("weight", 4)]) rfl sc_settled.nd (show blkC n_settled (defScope s_settled) _ [("weight", 4)] = true by decide +kernel) (qi_tup (qv 2)) (fun _ _ _ _ _ => (qgw_name (i := 4) sc_settled.nd (by decide))) (fun _ _ _ _ _ => qts_nil) (fun _ _ _ _ _ => (q_div (qv 4) (qv 3)))) qa_nil)) qa_nil)))))))))))
theorem cal_settled {f : Addr} {fd : FuncData} (F : Fun K "settled" "settled" s_settled f fd) (g : mg "settled" = some (.ref f)) (B : Bt mg) (c_is_integer : Cal P w K mg base "is_integer" 1 2 F_is_integer) (c_moves_many : Cal P w K mg base "moves_many" 1 2 F_moves_many) : Cal P w K mg base "settled" 3 3 F_settled :=
  ⟨⟨f, fd, ["clock", "bottom", "weights"], rfl, ok_settled F B c_is_integer c_moves_many, F.binds fun _ _ _ _ _ _ us hl => match us, hl with | [_, _, _], _ => rfl, g, F.kp⟩⟩
/-! ### in_range -/
theorem sc_in_range : FnScope n_in_range ["thing"] (defScope s_in_range) := ⟨rfl, rfl, rfl, by decide +kernel, rfl, by decide +kernel, by decide +kernel⟩
theorem ok_in_range {f : Addr} {fd : FuncData} (F : Fun K "in_range" "in_range" s_in_range f fd) (B : Bt mg) (c_whole : Cal P w K mg base "whole" 1 1 F_whole) : FnOk P w K mg base CX0 2 f fd ["thing"] (spM F_in_range) :=
  qdef (k := 1) F sc_in_range fun cdv A outer s H E hr0 =>
      (show QSs _ _ b_in_range from (qs_one (qs_ret (q_and (q_callN c_whole (hr0.mono (by decide)) (qa_cons (qv 0) qa_nil)) (q_one (q_chain op_le op_le qint (qv 0) (q_gint B.most)))))))
theorem cal_in_range {f : Addr} {fd : FuncData} (F : Fun K "in_range" "in_range" s_in_range f fd) (g : mg "in_range" = some (.ref f)) (B : Bt mg) (c_whole : Cal P w K mg base "whole" 1 1 F_whole) : Cal P w K mg base "in_range" 1 2 F_in_range :=
  ⟨⟨f, fd, ["thing"], rfl, ok_in_range F B c_whole, F.binds fun _ _ _ _ _ _ us hl => match us, hl with | [_], _ => rfl, g, F.kp⟩⟩
/-! ### divides_total -/
theorem sc_divides_total : FnScope n_divides_total ["clock", "deal"] (defScope s_divides_total) := ⟨rfl, rfl, rfl, by decide +kernel, rfl, by decide +kernel, by decide +kernel⟩
theorem ok_divides_total {f : Addr} {fd : FuncData} (F : Fun K "divides_total" "divides_total" s_divides_total f fd) (B : Bt mg) (c_moves_many : Cal P w K mg base "moves_many" 1 2 F_moves_many) (c_judge_deal : Cal P w K mg base "judge_deal" 3 4 F_judge_deal) : FnOk P w K mg base CX0 5 f fd ["clock", "deal"] (spM F_divides_total) :=
  qdef (k := 4) F sc_divides_total fun cdv A outer s H E hr0 =>
      (show QSs _ _ b_divides_total from (qs_cons (qs_drop (q_callN c_judge_deal (hr0.mono (by decide)) (qa_cons (qv 0) (qa_cons (qv 1) (qa_cons qstr qa_nil)))))
      (qs_cons (qs_if (qt_ne (q_ix (qv 1) qint) qint) (qs_one qs_never) qs_nil)
      (qs_one (qs_ret (q_eq (q_mod (q_callB (cr_sumA rfl) cb_sumA B.sum (by decide +kernel) (qa_cons (q_ix (qv 1) qint) qa_nil)) (q_callN c_moves_many (hr0.mono (by decide)) (qa_cons (qv 0) qa_nil))) qint))))))
theorem cal_divides_total {f : Addr} {fd : FuncData} (F : Fun K "divides_total" "divides_total" s_divides_total f fd) (g : mg "divides_total" = some (.ref f)) (B : Bt mg) (c_moves_many : Cal P w K mg base "moves_many" 1 2 F_moves_many) (c_judge_deal : Cal P w K mg base "judge_deal" 3 4 F_judge_deal) : Cal P w K mg base "divides_total" 2 5 F_divides_total :=
  ⟨⟨f, fd, ["clock", "deal"], rfl, ok_divides_total F B c_moves_many c_judge_deal, F.binds fun _ _ _ _ _ _ us hl => match us, hl with | [_, _], _ => rfl, g, F.kp⟩⟩
/-! ### _law_same -/
theorem sc_L_same : FnScope n_L_same ["_law_told", "_law_due"] (defScope s_L_same) := ⟨rfl, rfl, rfl, by decide +kernel, rfl, by decide +kernel, by decide +kernel⟩
theorem ok_L_same {f : Addr} {fd : FuncData} (F : Fun K "_law_same" "_law_same" s_L_same f fd) (g : mg "_law_same" = some (.ref f)) (B : Bt mg) : ∀ n : Nat, FnOk P w K mg base CX0 n f fd ["_law_told", "_law_due"] (spM (F_L_same n))
  | 0 => ⟨fun vs H Q E ⟨_, _, _, _, _, _, _, _, h, _⟩ => (no_some h), fun _ _ _ _ _ _ _ _ _ _ _ _ _ ⟨_, _, _, _, _, _, _, _, h, _⟩ => (no_some h)⟩
  | n + 1 => by
    have c_L_same : Cal P w K mg base "_law_same" 2 n (F_L_same n) := ⟨⟨f, fd, ["_law_told", "_law_due"], rfl, ok_L_same F g B n, F.binds fun _ _ _ _ _ _ us hl => match us, hl with | [_, _], _ => rfl, g, F.kp⟩⟩
    exact qdef (k := n) F sc_L_same fun cdv A outer s H E hr0 =>
      (show QSs _ _ (b_L_same (F_L_same n)) from (qs_cons (qs_if (qt (q_isi .tuple B.isinstance B.tuple (by decide +kernel) (qv 1))) (qs_cons (qs_if (PW.pt (qw_or (qt_not (qt (q_isi .tuple B.isinstance B.tuple (by decide +kernel) (qv 0)))) (qw_or1 (qt_ne (q_callB call_len cb_len B.len (by decide +kernel) (qa_cons (qv 0) qa_nil)) (q_callB call_len cb_len B.len (by decide +kernel) (qa_cons (qv 1) qa_nil)))))) (qs_one (qs_ret qbl)) qs_nil)
      (qs_one (qs_ret (q_eq (q_callB call_len cb_len B.len (by decide +kernel) (qa_cons (q_comp (own := [("_law_k", 2)]) rfl sc_L_same.nd (show blkC n_L_same (defScope s_L_same) _ [("_law_k", 2)] = true by decide +kernel) (qi_rng1 B.range (qa_cons (q_callB call_len cb_len B.len (by decide +kernel) (qa_cons (qv 1) qa_nil)) qa_nil)) (fun _ _ _ _ _ => (qgw_name (i := 2) sc_L_same.nd (by decide))) (fun _ _ _ _ _ => (qts_one (qt_not (qt (q_callN c_L_same hr0 (qa_cons (q_ix (qv 0) (qv 2)) (qa_cons (q_ix (qv 1) (qv 2)) qa_nil))))))) (fun _ _ _ _ _ => (qv 2))) qa_nil)) qint)))) qs_nil)
      (qs_cons (qs_if (PW.pt (qw_or (qt_isN (qv 1)) (qw_or1 (qt (q_isi .bool B.isinstance B.bool (by decide +kernel) (qv 1)))))) (qs_one (qs_ret (q_or (q_and (q_isN (qv 1)) (q_one (q_isN (qv 0)))) (q_one (q_and (q_isi .bool B.isinstance B.bool (by decide +kernel) (qv 1)) (q_and (q_isi .bool B.isinstance B.bool (by decide +kernel) (qv 0)) (q_one (q_eq (qv 0) (qv 1))))))))) qs_nil)
      (qs_cons (qs_if (qt (q_isi .int B.isinstance B.int (by decide +kernel) (qv 1))) (qs_one (qs_ret (q_and (q_isi .int B.isinstance B.int (by decide +kernel) (qv 0)) (q_and (q_not (q_isi .bool B.isinstance B.bool (by decide +kernel) (qv 0))) (q_one (q_eq (qv 0) (qv 1))))))) qs_nil)
      (qs_one (qs_ret (q_and (q_isi .str B.isinstance B.str (by decide +kernel) (qv 0)) (q_one (q_eq (qv 0) (qv 1))))))))))
theorem cal_L_same {f : Addr} {fd : FuncData} (F : Fun K "_law_same" "_law_same" s_L_same f fd) (g : mg "_law_same" = some (.ref f)) (B : Bt mg) : Cal P w K mg base "_law_same" 2 5 (F_L_same 5) :=
  ⟨⟨f, fd, ["_law_told", "_law_due"], rfl, ok_L_same F g B 5, F.binds fun _ _ _ _ _ _ us hl => match us, hl with | [_, _], _ => rfl, g, F.kp⟩⟩
/-! ### _law_row -/
theorem sc_L_row : FnScope n_L_row ["_law_seat", "_law_many"] (defScope s_L_row) := ⟨rfl, rfl, rfl, by decide +kernel, rfl, by decide +kernel, by decide +kernel⟩
theorem ok_L_row {f : Addr} {fd : FuncData} (F : Fun K "_law_row" "_law_row" s_L_row f fd) (B : Bt mg) (c_L_next : Cal P w K mg base "_law_next" 2 1 F_L_next) : FnOk P w K mg base CX0 2 f fd ["_law_seat", "_law_many"] (spM F_L_row) :=
  qdef (k := 1) F sc_L_row fun cdv A outer s H E hr0 =>
      (show QSs _ _ b_L_row from (qs_one (qs_ret (q_comp (own := [("_law_k", 2)]) rfl sc_L_row.nd (show blkC n_L_row (defScope s_L_row) _ [("_law_k", 2)] = true by decide +kernel) (qi_rng1 B.range (qa_cons (qv 1) qa_nil)) (fun _ _ _ _ _ => (qgw_name (i := 2) sc_L_row.nd (by decide))) (fun _ _ _ _ _ => qts_nil) (fun _ _ _ _ _ => (q_sub (q_mod (q_callTy call_int1 cb_int B.int (by decide +kernel) (qa_cons (q_add (q_add (q_callM c_L_next (hr0.mono (by decide)) (qa_cons (qv 0) (qa_cons qint qa_nil))) (q_mul qint (qv 2))) qint) qa_nil)) qint) qint))))))
theorem cal_L_row {f : Addr} {fd : FuncData} (F : Fun K "_law_row" "_law_row" s_L_row f fd) (g : mg "_law_row" = some (.ref f)) (B : Bt mg) (c_L_next : Cal P w K mg base "_law_next" 2 1 F_L_next) : Cal P w K mg base "_law_row" 2 2 F_L_row :=
  ⟨⟨f, fd, ["_law_seat", "_law_many"], rfl, ok_L_row F B c_L_next, F.binds fun _ _ _ _ _ _ us hl => match us, hl with | [_, _], _ => rfl, g, F.kp⟩⟩
/-! ### _law_of_weights -/
theorem sc_L_of_weights : FnScope n_L_of_weights ["_law_world_here", "_law_seat"] (defScope s_L_of_weights) := ⟨rfl, rfl, rfl, by decide +kernel, rfl, by decide +kernel, by decide +kernel⟩
theorem ok_L_of_weights {f : Addr} {fd : FuncData} (F : Fun K "_law_of_weights" "_law_of_weights" s_L_of_weights f fd) (B : Bt mg) (c_dealt_again : Cal P w K mg base "dealt_again" 3 7 F_dealt_again) (c_L_same : Cal P w K mg base "_law_same" 2 5 (F_L_same 5)) (c_even_paper : Cal P w K mg base "even_paper" 2 8 F_even_paper) (c_L_undivided : Cal P w K mg base "_law_undivided" 2 10 F_L_undivided) (c_L_level : Cal P w K mg base "_law_level" 1 1 F_L_level) (c_folds_evenly : Cal P w K mg base "folds_evenly" 2 8 F_folds_evenly) (c_even_after : Cal P w K mg base "even_after" 2 7 F_even_after) (c_divides_total : Cal P w K mg base "divides_total" 2 5 F_divides_total) (c_L_moved_totals : Cal P w K mg base "_law_moved_totals" 2 2 F_L_moved_totals) (c_L_edge : Cal P w K mg base "_law_edge" 2 1 F_L_edge) (c_L_times : Cal P w K mg base "_law_times" 3 1 F_L_times) (c_L_next : Cal P w K mg base "_law_next" 2 1 F_L_next) (c_L_weights : Cal P w K mg base "_law_weights" 2 3 F_L_weights) : FnOk P w K mg base CX0 11 f fd ["_law_world_here", "_law_seat"] (spM F_L_of_weights) :=
  qdef (k := 10) F sc_L_of_weights fun cdv A outer s H E hr0 =>
      (show QSs _ _ b_L_of_weights from (qs_cons (qs_set (i := 2) sc_L_of_weights.nd (q_ix (qv 0) qint))
      (qs_cons (qs_set (i := 3) sc_L_of_weights.nd (q_callB call_len cb_len B.len (by decide +kernel) (qa_cons (q_ix (qv 0) qint) qa_nil)))
      (qs_cons (qs_set (i := 4) sc_L_of_weights.nd (q_callF c_L_weights (hr0.mono (by decide)) (qa_cons (qv 0) (qa_cons (qv 1) qa_nil))))
      (qs_cons (qs_set (i := 5) sc_L_of_weights.nd (q_callTy call_int1 cb_int B.int (by decide +kernel) (qa_cons (q_eq (q_callM c_L_next (hr0.mono (by decide)) (qa_cons (qv 1) (qa_cons qint qa_nil))) qint) qa_nil)))
      (qs_cons (qs_augIx (qv 4) (q_callM c_L_next (hr0.mono (by decide)) (qa_cons (qv 1) (qa_cons (qv 3) qa_nil))) (qv 5) ip_add r_ip)
      (qs_cons (qs_set (i := 6) sc_L_of_weights.nd (q_tup (qa_cons qint (qa_cons (q_callTy call_tuple_of cb_tuple B.tuple (by decide +kernel) (qa_cons (qv 4) qa_nil)) qa_nil))))
      (qs_cons (qs_set (i := 7) sc_L_of_weights.nd (q_callTy call_list_of cb_list B.list (by decide +kernel) (qa_cons (qv 4) qa_nil)))
      (qs_cons (qs_set (i := 8) sc_L_of_weights.nd qnon)
      (qs_cons (qs_for PassesOwn.never rfl (qi_rng2 B.range (qa_cons qint (qa_cons (q_add (q_callN c_L_edge (hr0.mono (by decide)) (qa_cons (qv 2) (qa_cons (q_ix (qv 2) qint) qa_nil))) qint) qa_nil))) (qg_name (i := 9) sc_L_of_weights.nd) (qs_cons (qs_if (PW.pt (qw_and (qt_gt (qv 9) qint) (qw_and1 (qt_isN (qv 8))))) (qs_one (qs_set (i := 7) sc_L_of_weights.nd (q_callF c_L_times (hr0.mono (by decide)) (qa_cons (qv 0) (qa_cons (qv 7) (qa_cons (qv 4) qa_nil)))))) qs_nil)
      (qs_one (qs_if (PW.pt (qw_and (qt_isN (qv 8)) (qw_and1 (qt (q_callF c_L_level (hr0.mono (by decide)) (qa_cons (qv 7) qa_nil)))))) (qs_one (qs_set (i := 8) sc_L_of_weights.nd (qv 9))) qs_nil))))
      (qs_cons (qs_set (i := 10) sc_L_of_weights.nd (q_callB (cr_sumA rfl) cb_sumA B.sum (by decide +kernel) (qa_cons (qv 4) qa_nil)))
      (qs_cons (qs_asg (q_callM c_L_moved_totals (hr0.mono (by decide)) (qa_cons (qv 0) (qa_cons (qv 4) qa_nil))) (qg_tup rfl (qg_cons (qg_name (i := 11) sc_L_of_weights.nd) (qg_cons (qg_name (i := 12) sc_L_of_weights.nd) qg_nil))))
      (qs_cons (qs_if (PW.pt (qw_and (qt_notN (qv 8)) (qw_and1 (PW.pt (qw_or (qt_ne (q_mod (q_callTy call_int1 cb_int B.int (by decide +kernel) (qa_cons (qv 10) qa_nil)) (qv 3)) qint) (qw_or1 (qt_gt (q_callB call_len cb_len B.len (by decide +kernel) (qa_cons (q_comp (own := [("_law_k", 9)]) rfl sc_L_of_weights.nd (show blkC n_L_of_weights (defScope s_L_of_weights) _ [("_law_k", 9)] = true by decide +kernel) (qi_lst (qv 12)) (fun _ _ _ _ _ => (qgw_name (i := 9) sc_L_of_weights.nd (by decide))) (fun _ _ _ _ _ => (qts_one (qt_ne (q_mod (q_callTy call_int1 cb_int B.int (by decide +kernel) (qa_cons (qv 9) qa_nil)) (qv 11)) qint))) (fun _ _ _ _ _ => (qv 9))) qa_nil)) qint))))))) (qs_one (qs_ret qbl)) qs_nil)
      (qs_cons (qs_if (PW.pt (qw_and (qt_notN (qv 8)) (qw_and1 (qt_not (qt (q_callF c_L_level (hr0.mono (by decide)) (qa_cons (qv 12) qa_nil))))))) (qs_one (qs_ret qbl)) qs_nil)
      (qs_cons (qs_if (qt_not (qt (q_callN c_L_same (hr0.mono (by decide)) (qa_cons (q_callN c_divides_total (hr0.mono (by decide)) (qa_cons (qv 2) (qa_cons (qv 6) qa_nil))) (qa_cons (q_eq (q_mod (q_callTy call_int1 cb_int B.int (by decide +kernel) (qa_cons (qv 10) qa_nil)) (qv 3)) qint) qa_nil))))) (qs_one (qs_ret qbl)) qs_nil)
      (qs_cons (qs_if (PW.pt (qw_or (qt_not (qt (q_callN c_L_same (hr0.mono (by decide)) (qa_cons (q_callN c_even_after (hr0.mono (by decide)) (qa_cons (qv 2) (qa_cons (qv 6) qa_nil))) (qa_cons (qv 8) qa_nil))))) (qw_or1 (qt_not (qt (q_callN c_L_same (hr0.mono (by decide)) (qa_cons (q_callN c_folds_evenly (hr0.mono (by decide)) (qa_cons (qv 2) (qa_cons (qv 6) qa_nil))) (qa_cons (q_callF c_L_level (hr0.mono (by decide)) (qa_cons (qv 12) qa_nil)) qa_nil)))))))) (qs_one (qs_ret qbl)) qs_nil)
      (qs_cons (qs_if (qt_not (qt (q_callN c_L_same (hr0.mono (by decide)) (qa_cons (q_callN c_L_undivided (hr0.mono (by decide)) (qa_cons (qv 2) (qa_cons (q_tup (qa_cons qint (qa_cons (q_callTy call_tuple_of cb_tuple B.tuple (by decide +kernel) (qa_cons (q_comp (own := [("_law_k", 9)]) rfl sc_L_of_weights.nd (show blkC n_L_of_weights (defScope s_L_of_weights) _ [("_law_k", 9)] = true by decide +kernel) (qi_lst (qv 4)) (fun _ _ _ _ _ => (qgw_name (i := 9) sc_L_of_weights.nd (by decide))) (fun _ _ _ _ _ => qts_nil) (fun _ _ _ _ _ => (q_add (q_mul qint (qv 9)) qint))) qa_nil)) qa_nil))) qa_nil))) (qa_cons (q_tup (qa_cons qstr (qa_cons (q_neg qint) qa_nil))) qa_nil))))) (qs_one (qs_ret qbl)) qs_nil)
      (qs_cons (qs_if (qt_isN (qv 8)) (qs_cons (qs_set (i := 13) sc_L_of_weights.nd (q_callN c_even_paper (hr0.mono (by decide)) (qa_cons (qv 2) (qa_cons (qv 6) qa_nil))))
      (qs_one (qs_ret (q_and (q_isi .tuple B.isinstance B.tuple (by decide +kernel) (qv 13)) (q_and (q_eq (q_callB call_len cb_len B.len (by decide +kernel) (qa_cons (qv 13) qa_nil)) qint) (q_one (q_callN c_L_same (hr0.mono (by decide)) (qa_cons (q_ix (qv 13) qint) (qa_cons qstr qa_nil))))))))) qs_nil)
      (qs_cons (qs_set (i := 14) sc_L_of_weights.nd qint)
      (qs_cons (qs_for PassesOwn.never rfl (qi_rng1 B.range (qa_cons (qv 8) qa_nil)) (qg_name (i := 9) sc_L_of_weights.nd) (qs_one (qs_set (i := 14) sc_L_of_weights.nd (q_mul (qv 14) (qv 10)))))
      (qs_cons (qs_if (qt_ne (q_mod (q_callTy call_int1 cb_int B.int (by decide +kernel) (qa_cons (qv 14) qa_nil)) (qv 3)) qint) (qs_one (qs_ret qbl)) qs_nil)
      (qs_one (qs_ret (q_callN c_L_same (hr0.mono (by decide)) (qa_cons (q_callN c_dealt_again (hr0.mono (by decide)) (qa_cons (qv 2) (qa_cons (qv 6) (qa_cons (qv 8) qa_nil)))) (qa_cons (q_tup (qa_cons qint (qa_cons (q_callTy call_tuple_of cb_tuple B.tuple (by decide +kernel) (qa_cons (q_comp (own := [("_law_k", 9)]) rfl sc_L_of_weights.nd (show blkC n_L_of_weights (defScope s_L_of_weights) _ [("_law_k", 9)] = true by decide +kernel) (qi_lst (qv 4)) (fun _ _ _ _ _ => (qgw_name (i := 9) sc_L_of_weights.nd (by decide))) (fun _ _ _ _ _ => qts_nil) (fun _ _ _ _ _ => (q_div (qv 14) (qv 3)))) qa_nil)) qa_nil))) qa_nil))))))))))))))))))))))))))
theorem cal_L_of_weights {f : Addr} {fd : FuncData} (F : Fun K "_law_of_weights" "_law_of_weights" s_L_of_weights f fd) (g : mg "_law_of_weights" = some (.ref f)) (B : Bt mg) (c_dealt_again : Cal P w K mg base "dealt_again" 3 7 F_dealt_again) (c_L_same : Cal P w K mg base "_law_same" 2 5 (F_L_same 5)) (c_even_paper : Cal P w K mg base "even_paper" 2 8 F_even_paper) (c_L_undivided : Cal P w K mg base "_law_undivided" 2 10 F_L_undivided) (c_L_level : Cal P w K mg base "_law_level" 1 1 F_L_level) (c_folds_evenly : Cal P w K mg base "folds_evenly" 2 8 F_folds_evenly) (c_even_after : Cal P w K mg base "even_after" 2 7 F_even_after) (c_divides_total : Cal P w K mg base "divides_total" 2 5 F_divides_total) (c_L_moved_totals : Cal P w K mg base "_law_moved_totals" 2 2 F_L_moved_totals) (c_L_edge : Cal P w K mg base "_law_edge" 2 1 F_L_edge) (c_L_times : Cal P w K mg base "_law_times" 3 1 F_L_times) (c_L_next : Cal P w K mg base "_law_next" 2 1 F_L_next) (c_L_weights : Cal P w K mg base "_law_weights" 2 3 F_L_weights) : Cal P w K mg base "_law_of_weights" 2 11 F_L_of_weights :=
  ⟨⟨f, fd, ["_law_world_here", "_law_seat"], rfl, ok_L_of_weights F B c_dealt_again c_L_same c_even_paper c_L_undivided c_L_level c_folds_evenly c_even_after c_divides_total c_L_moved_totals c_L_edge c_L_times c_L_next c_L_weights, F.binds fun _ _ _ _ _ _ us hl => match us, hl with | [_, _], _ => rfl, g, F.kp⟩⟩
end
end Mir
/-! ## WP1 -/
set_option Elab.async false
set_option linter.all false
set_option maxRecDepth 100000
set_option maxHeartbeats 4000000
namespace Mir
open PySem PySem.Spec PyProof.Rows L2
section
variable {P : Program} {w : World} {K : PySem.W.Frag} {mg : Str → Option Value} {base : Heap}

/-! ### whole -/
theorem sc_whole : FnScope n_whole ["thing"] (defScope s_whole) := ⟨rfl, rfl, rfl, by decide +kernel, rfl, by decide +kernel, by decide +kernel⟩
theorem ok_whole {f : Addr} {fd : FuncData} (F : Fun K "whole" "whole" s_whole f fd) (B : Bt mg)  : FnOk P w K mg base CX0 1 f fd ["thing"] (spM F_whole) :=
  qdef (k := 0) F sc_whole fun cdv A outer s H E hr0 =>
      (show QSs _ _ b_whole from (qs_one (qs_ret (q_and (q_isi .int B.isinstance B.int (by decide +kernel) (qv 0)) (q_one (q_not (q_isi .bool B.isinstance B.bool (by decide +kernel) (qv 0))))))))
theorem cal_whole {f : Addr} {fd : FuncData} (F : Fun K "whole" "whole" s_whole f fd) (g : mg "whole" = some (.ref f)) (B : Bt mg)  : Cal P w K mg base "whole" 1 1 F_whole :=
  ⟨⟨f, fd, ["thing"], rfl, ok_whole F B , F.binds fun _ _ _ _ _ _ us hl => match us, hl with | [_], _ => rfl, g, F.kp⟩⟩
/-! ### is_integer -/
theorem sc_is_integer : FnScope n_is_integer ["thing"] (defScope s_is_integer) := ⟨rfl, rfl, rfl, by decide +kernel, rfl, by decide +kernel, by decide +kernel⟩
theorem ok_is_integer {f : Addr} {fd : FuncData} (F : Fun K "is_integer" "is_integer" s_is_integer f fd) (c_whole : Cal P w K mg base "whole" 1 1 F_whole) : FnOk P w K mg base CX0 2 f fd ["thing"] (spM F_is_integer) :=
  qdef (k := 1) F sc_is_integer fun cdv A outer s H E hr0 =>
      (show QSs _ _ b_is_integer from (qs_one (qs_ret (q_callN c_whole (hr0.mono (by decide)) (qa_cons (qv 0) qa_nil)))))
theorem cal_is_integer {f : Addr} {fd : FuncData} (F : Fun K "is_integer" "is_integer" s_is_integer f fd) (g : mg "is_integer" = some (.ref f)) (c_whole : Cal P w K mg base "whole" 1 1 F_whole) : Cal P w K mg base "is_integer" 1 2 F_is_integer :=
  ⟨⟨f, fd, ["thing"], rfl, ok_is_integer F c_whole, F.binds fun _ _ _ _ _ _ us hl => match us, hl with | [_], _ => rfl, g, F.kp⟩⟩
/-! ### does_move -/
theorem sc_does_move : FnScope n_does_move ["clock", "mover", "prime"] (defScope s_does_move) := ⟨rfl, rfl, rfl, by decide +kernel, rfl, by decide +kernel, by decide +kernel⟩
theorem ok_does_move {f : Addr} {fd : FuncData} (F : Fun K "does_move" "does_move" s_does_move f fd) (B : Bt mg) (c_primes_in : Cal P w K mg base "primes_in" 1 1 F_primes_in) (c_whole : Cal P w K mg base "whole" 1 1 F_whole) (c_usable : Cal P w K mg base "usable" 2 1 F_usable) : FnOk P w K mg base CX0 2 f fd ["clock", "mover", "prime"] (spM F_does_move) :=
  qdef (k := 1) F sc_does_move fun cdv A outer s H E hr0 =>
      (show QSs _ _ b_does_move from (qs_cons (qs_asg (qv 0) (qg_tup rfl (qg_cons (qg_name (i := 3) sc_does_move.nd) (qg_cons (qg_name (i := 4) sc_does_move.nd) qg_nil))))
      (qs_cons (qs_setLc (i := 5) (own := [("row", 6)]) rfl sc_does_move.nd (sw_true rfl rfl rfl (by decide +kernel)) (show blkC n_does_move (defScope s_does_move) _ [("row", 6)] = true by decide +kernel) (qi_tup (qv 4)) (fun _ _ _ _ _ => (qgw_name (i := 6) sc_does_move.nd (by decide))) (fun _ _ _ _ _ => (qts_one (PW.pt (qw_and (qt (q_callN c_whole (hr0.mono (by decide)) (qa_cons (qv 1) qa_nil))) (qw_and1 (qt_eq (q_ix (qv 6) qint) (qv 1))))))) (fun _ _ _ _ _ => (q_ix (qv 6) qint)))
      (qs_cons (qs_drop (q_callN c_usable (hr0.mono (by decide)) (qa_cons (q_eq (q_callB call_len cb_len B.len (by decide +kernel) (qa_cons (qv 5) qa_nil)) qint) (qa_cons qstr qa_nil))))
      (qs_cons (qs_drop (q_callN c_usable (hr0.mono (by decide)) (qa_cons (q_and (q_callN c_whole (hr0.mono (by decide)) (qa_cons (qv 2) qa_nil)) (q_one (q_in (qv 2) (q_callN c_primes_in (hr0.mono (by decide)) (qa_cons (qv 3) qa_nil))))) (qa_cons qstr qa_nil))))
      (qs_one (qs_ret (q_ne (q_mod (q_sub (q_ix (qv 5) qint) qint) (qv 2)) qint))))))))
theorem cal_does_move {f : Addr} {fd : FuncData} (F : Fun K "does_move" "does_move" s_does_move f fd) (g : mg "does_move" = some (.ref f)) (B : Bt mg) (c_primes_in : Cal P w K mg base "primes_in" 1 1 F_primes_in) (c_whole : Cal P w K mg base "whole" 1 1 F_whole) (c_usable : Cal P w K mg base "usable" 2 1 F_usable) : Cal P w K mg base "does_move" 3 2 F_does_move :=
  ⟨⟨f, fd, ["clock", "mover", "prime"], rfl, ok_does_move F B c_primes_in c_whole c_usable, F.binds fun _ _ _ _ _ _ us hl => match us, hl with | [_, _, _], _ => rfl, g, F.kp⟩⟩
/-! ### want_many -/
theorem sc_want_many : FnScope n_want_many ["thing"] (defScope s_want_many) := ⟨rfl, rfl, rfl, by decide +kernel, rfl, by decide +kernel, by decide +kernel⟩
theorem ok_want_many {f : Addr} {fd : FuncData} (F : Fun K "want_many" "want_many" s_want_many f fd) (c_is_number : Cal P w K mg base "is_number" 1 2 F_is_number) : FnOk P w K mg base CX0 3 f fd ["thing"] (spM F_want_many) :=
  qdef (k := 2) F sc_want_many fun cdv A outer s H E hr0 =>
      (show QSs _ _ b_want_many from (qs_one (qs_if (qt_not (qt (q_callN c_is_number (hr0.mono (by decide)) (qa_cons (qv 0) qa_nil)))) (qs_one qs_never) qs_nil)))
theorem cal_want_many {f : Addr} {fd : FuncData} (F : Fun K "want_many" "want_many" s_want_many f fd) (g : mg "want_many" = some (.ref f)) (c_is_number : Cal P w K mg base "is_number" 1 2 F_is_number) : Cal P w K mg base "want_many" 1 3 F_want_many :=
  ⟨⟨f, fd, ["thing"], rfl, ok_want_many F c_is_number, F.binds fun _ _ _ _ _ _ us hl => match us, hl with | [_], _ => rfl, g, F.kp⟩⟩
/-! ### idle_deal -/
theorem sc_idle_deal : FnScope n_idle_deal ["clock"] (defScope s_idle_deal) := ⟨rfl, rfl, rfl, by decide +kernel, rfl, by decide +kernel, by decide +kernel⟩
theorem ok_idle_deal {f : Addr} {fd : FuncData} (F : Fun K "idle_deal" "idle_deal" s_idle_deal f fd) (B : Bt mg) (c_moves_many : Cal P w K mg base "moves_many" 1 2 F_moves_many) : FnOk P w K mg base CX0 3 f fd ["clock"] (spM F_idle_deal) :=
  qdef (k := 2) F sc_idle_deal fun cdv A outer s H E hr0 =>
      (show QSs _ _ b_idle_deal from (qs_one (qs_ret (q_tup (qa_cons qint (qa_cons (q_callTy call_tuple_of cb_tuple B.tuple (by decide +kernel) (qa_cons (q_comp (own := [("number", 1)]) rfl sc_idle_deal.nd (show blkC n_idle_deal (defScope s_idle_deal) _ [("number", 1)] = true by decide +kernel) (qi_rng1 B.range (qa_cons (q_callN c_moves_many (hr0.mono (by decide)) (qa_cons (qv 0) qa_nil)) qa_nil)) (fun _ _ _ _ _ => (qgw_name (i := 1) sc_idle_deal.nd (by decide))) (fun _ _ _ _ _ => qts_nil) (fun _ _ _ _ _ => (q_if (qt_eq (qv 1) qint) qint qint))) qa_nil)) qa_nil))))))
theorem cal_idle_deal {f : Addr} {fd : FuncData} (F : Fun K "idle_deal" "idle_deal" s_idle_deal f fd) (g : mg "idle_deal" = some (.ref f)) (B : Bt mg) (c_moves_many : Cal P w K mg base "moves_many" 1 2 F_moves_many) : Cal P w K mg base "idle_deal" 1 3 F_idle_deal :=
  ⟨⟨f, fd, ["clock"], rfl, ok_idle_deal F B c_moves_many, F.binds fun _ _ _ _ _ _ us hl => match us, hl with | [_], _ => rfl, g, F.kp⟩⟩
/-! ### primes_of -/
theorem sc_primes_of : FnScope n_primes_of ["number"] (defScope s_primes_of) := ⟨rfl, rfl, rfl, by decide +kernel, rfl, by decide +kernel, by decide +kernel⟩
theorem ok_primes_of {f : Addr} {fd : FuncData} (F : Fun K "primes_of" "primes_of" s_primes_of f fd) (c_primes_in : Cal P w K mg base "primes_in" 1 1 F_primes_in) (c_in_range : Cal P w K mg base "in_range" 1 2 F_in_range) (c_usable : Cal P w K mg base "usable" 2 1 F_usable) : FnOk P w K mg base CX0 3 f fd ["number"] (spM F_primes_of) :=
  qdef (k := 2) F sc_primes_of fun cdv A outer s H E hr0 =>
      (show QSs _ _ b_primes_of from (qs_cons (qs_drop (q_callN c_usable (hr0.mono (by decide)) (qa_cons (q_callN c_in_range (hr0.mono (by decide)) (qa_cons (qv 0) qa_nil)) (qa_cons qstr qa_nil))))
      (qs_one (qs_ret (q_callN c_primes_in (hr0.mono (by decide)) (qa_cons (qv 0) qa_nil))))))
theorem cal_primes_of {f : Addr} {fd : FuncData} (F : Fun K "primes_of" "primes_of" s_primes_of f fd) (g : mg "primes_of" = some (.ref f)) (c_primes_in : Cal P w K mg base "primes_in" 1 1 F_primes_in) (c_in_range : Cal P w K mg base "in_range" 1 2 F_in_range) (c_usable : Cal P w K mg base "usable" 2 1 F_usable) : Cal P w K mg base "primes_of" 1 3 F_primes_of :=
  ⟨⟨f, fd, ["number"], rfl, ok_primes_of F c_primes_in c_in_range c_usable, F.binds fun _ _ _ _ _ _ us hl => match us, hl with | [_], _ => rfl, g, F.kp⟩⟩
/-! ### even_after -/
theorem sc_even_after : FnScope n_even_after ["clock", "deal"] (defScope s_even_after) := ⟨rfl, rfl, rfl, by decide +kernel, rfl, by decide +kernel, by decide +kernel⟩
theorem ok_even_after {f : Addr} {fd : FuncData} (F : Fun K "even_after" "even_after" s_even_after f fd) (B : Bt mg) (c_dealt : Cal P w K mg base "dealt" 3 6 F_dealt) (c_is_even : Cal P w K mg base "is_even" 2 5 F_is_even) (c_last_edge : Cal P w K mg base "last_edge" 1 2 F_last_edge) (c_judge_deal : Cal P w K mg base "judge_deal" 3 4 F_judge_deal) : FnOk P w K mg base CX0 7 f fd ["clock", "deal"] (spM F_even_after) :=
  qdef (k := 6) F sc_even_after fun cdv A outer s H E hr0 =>
      (show QSs _ _ b_even_after from (qs_cons (qs_drop (q_callN c_judge_deal (hr0.mono (by decide)) (qa_cons (qv 0) (qa_cons (qv 1) (qa_cons qstr qa_nil)))))
      (qs_cons (qs_set (i := 2) sc_even_after.nd (q_callN c_last_edge (hr0.mono (by decide)) (qa_cons (qv 0) qa_nil)))
      (qs_cons (qs_set (i := 3) sc_even_after.nd (qv 1))
      (qs_cons (qs_for PassesOwn.never rfl (qi_rng2 B.range (qa_cons qint (qa_cons (q_add (qv 2) qint) qa_nil))) (qg_name (i := 4) sc_even_after.nd) (qs_cons (qs_if (qt (q_callN c_is_even (hr0.mono (by decide)) (qa_cons (qv 0) (qa_cons (qv 3) qa_nil)))) (qs_one (qs_ret (qv 4))) qs_nil)
      (qs_one (qs_if (qt_lt (qv 4) (qv 2)) (qs_one (qs_set (i := 3) sc_even_after.nd (q_callN c_dealt (hr0.mono (by decide)) (qa_cons (qv 0) (qa_cons (qv 3) (qa_cons (qv 1) qa_nil)))))) qs_nil))))
      (qs_one (qs_ret qnon)))))))
theorem cal_even_after {f : Addr} {fd : FuncData} (F : Fun K "even_after" "even_after" s_even_after f fd) (g : mg "even_after" = some (.ref f)) (B : Bt mg) (c_dealt : Cal P w K mg base "dealt" 3 6 F_dealt) (c_is_even : Cal P w K mg base "is_even" 2 5 F_is_even) (c_last_edge : Cal P w K mg base "last_edge" 1 2 F_last_edge) (c_judge_deal : Cal P w K mg base "judge_deal" 3 4 F_judge_deal) : Cal P w K mg base "even_after" 2 7 F_even_after :=
  ⟨⟨f, fd, ["clock", "deal"], rfl, ok_even_after F B c_dealt c_is_even c_last_edge c_judge_deal, F.binds fun _ _ _ _ _ _ us hl => match us, hl with | [_, _], _ => rfl, g, F.kp⟩⟩
/-! ### _law_divisors -/
theorem sc_L_divisors : FnScope n_L_divisors ["_law_number"] (defScope s_L_divisors) := ⟨rfl, rfl, rfl, by decide +kernel, rfl, by decide +kernel, by decide +kernel⟩
theorem ok_L_divisors {f : Addr} {fd : FuncData} (F : Fun K "_law_divisors" "_law_divisors" s_L_divisors f fd) (B : Bt mg)  : FnOk P w K mg base CX0 1 f fd ["_law_number"] (spM F_L_divisors) :=
  qdef (k := 0) F sc_L_divisors fun cdv A outer s H E hr0 =>
      (show QSs _ _ b_L_divisors from (qs_one (qs_ret (q_comp (own := [("_law_k", 1)]) rfl sc_L_divisors.nd (show blkC n_L_divisors (defScope s_L_divisors) _ [("_law_k", 1)] = true by decide +kernel) (qi_rng2 B.range (qa_cons qint (qa_cons (q_add (qv 0) qint) qa_nil))) (fun _ _ _ _ _ => (qgw_name (i := 1) sc_L_divisors.nd (by decide))) (fun _ _ _ _ _ => (qts_one (qt_eq (q_mod (qv 0) (qv 1)) qint))) (fun _ _ _ _ _ => (qv 1))))))
theorem cal_L_divisors {f : Addr} {fd : FuncData} (F : Fun K "_law_divisors" "_law_divisors" s_L_divisors f fd) (g : mg "_law_divisors" = some (.ref f)) (B : Bt mg)  : Cal P w K mg base "_law_divisors" 1 1 F_L_divisors :=
  ⟨⟨f, fd, ["_law_number"], rfl, ok_L_divisors F B , F.binds fun _ _ _ _ _ _ us hl => match us, hl with | [_], _ => rfl, g, F.kp⟩⟩
/-! ### _law_moved -/
theorem sc_L_moved : FnScope n_L_moved ["_law_row_here", "_law_factor"] (defScope s_L_moved) := ⟨rfl, rfl, rfl, by decide +kernel, rfl, by decide +kernel, by decide +kernel⟩
theorem ok_L_moved {f : Addr} {fd : FuncData} (F : Fun K "_law_moved" "_law_moved" s_L_moved f fd) (B : Bt mg)  : FnOk P w K mg base CX0 1 f fd ["_law_row_here", "_law_factor"] (spM F_L_moved) :=
  qdef (k := 0) F sc_L_moved fun cdv A outer s H E hr0 =>
      (show QSs _ _ b_L_moved from (qs_cons (qs_setLc (i := 2) (own := [("_law_k", 3)]) rfl sc_L_moved.nd (sw_true rfl rfl rfl (by decide +kernel)) (show blkC n_L_moved (defScope s_L_moved) _ [("_law_k", 3)] = true by decide +kernel) (qi_lst (qv 0)) (fun _ _ _ _ _ => (qgw_name (i := 3) sc_L_moved.nd (by decide))) (fun _ _ _ _ _ => qts_nil) (fun _ _ _ _ _ => qint))
      (qs_cons (qs_for PassesOwn.never rfl (qi_rng1 B.range (qa_cons (q_callB call_len cb_len B.len (by decide +kernel) (qa_cons (qv 0) qa_nil)) qa_nil)) (qg_name (i := 3) sc_L_moved.nd) (qs_one (qs_augIx (qv 2) (q_mod (q_callTy call_int1 cb_int B.int (by decide +kernel) (qa_cons (q_mul (qv 3) (qv 1)) qa_nil)) (q_callB call_len cb_len B.len (by decide +kernel) (qa_cons (qv 0) qa_nil))) (q_ix (qv 0) (qv 3)) ip_add r_ip)))
      (qs_one (qs_ret (qv 2))))))
theorem cal_L_moved {f : Addr} {fd : FuncData} (F : Fun K "_law_moved" "_law_moved" s_L_moved f fd) (g : mg "_law_moved" = some (.ref f)) (B : Bt mg)  : Cal P w K mg base "_law_moved" 2 1 F_L_moved :=
  ⟨⟨f, fd, ["_law_row_here", "_law_factor"], rfl, ok_L_moved F B , F.binds fun _ _ _ _ _ _ us hl => match us, hl with | [_, _], _ => rfl, g, F.kp⟩⟩
/-! ### _law_set -/
theorem sc_L_set : FnScope n_L_set ["_law_world_here", "_law_seat"] (defScope s_L_set) := ⟨rfl, rfl, rfl, by decide +kernel, rfl, by decide +kernel, by decide +kernel⟩
theorem ok_L_set {f : Addr} {fd : FuncData} (F : Fun K "_law_set" "_law_set" s_L_set f fd) (B : Bt mg) (c_L_next : Cal P w K mg base "_law_next" 2 1 F_L_next) (c_L_part : Cal P w K mg base "_law_part" 2 2 F_L_part) : FnOk P w K mg base CX0 3 f fd ["_law_world_here", "_law_seat"] (spM F_L_set) :=
  qdef (k := 2) F sc_L_set fun cdv A outer s H E hr0 =>
      (show QSs _ _ b_L_set from (qs_cons (qs_set (i := 2) sc_L_set.nd (q_callB call_len cb_len B.len (by decide +kernel) (qa_cons (q_ix (qv 0) qint) qa_nil)))
      (qs_cons (qs_set (i := 3) sc_L_set.nd (q_ix (q_ix (qv 0) qint) qint))
      (qs_cons (qs_set (i := 4) sc_L_set.nd (q_callM c_L_next (hr0.mono (by decide)) (qa_cons (qv 1) (qa_cons qint qa_nil))))
      (qs_cons (qs_set (i := 5) sc_L_set.nd (q_comp (own := [("_law_k", 7)]) rfl sc_L_set.nd (show blkC n_L_set (defScope s_L_set) _ [("_law_k", 7)] = true by decide +kernel) (qi_rng1 B.range (qa_cons (qv 2) qa_nil)) (fun _ _ _ _ _ => (qgw_name (i := 7) sc_L_set.nd (by decide))) (fun _ _ _ _ _ => qts_nil) (fun _ _ _ _ _ => (q_callTy call_int1 cb_int B.int (by decide +kernel) (qa_cons (q_or (q_eq (q_callM c_L_next (hr0.mono (by decide)) (qa_cons (qv 1) (qa_cons qint qa_nil))) qint) (q_one (q_eq (qv 4) qint))) qa_nil)))))
      (qs_cons (qs_if (qt_eq (qv 4) qint) (qs_one (qs_set (i := 5) sc_L_set.nd (q_comp (own := [("_law_k", 7)]) rfl sc_L_set.nd (show blkC n_L_set (defScope s_L_set) _ [("_law_k", 7)] = true by decide +kernel) (qi_rng1 B.range (qa_cons (qv 2) qa_nil)) (fun _ _ _ _ _ => (qgw_name (i := 7) sc_L_set.nd (by decide))) (fun _ _ _ _ _ => qts_nil) (fun _ _ _ _ _ => (q_callTy call_int1 cb_int B.int (by decide +kernel) (qa_cons (q_ne (qv 7) (q_callM c_L_next (hr0.mono (by decide)) (qa_cons (qv 1) (qa_cons qint qa_nil)))) qa_nil)))))) qs_nil)
      (qs_cons (qs_if (qt_eq (qv 4) qint) (qs_one (qs_set (i := 5) sc_L_set.nd (q_callTy call_list_of cb_list B.list (by decide +kernel) (qa_cons (q_ix (q_callF c_L_part (hr0.mono (by decide)) (qa_cons (qv 0) (qa_cons (qv 1) qa_nil))) qint) qa_nil)))) qs_nil)
      (qs_cons (qs_if (qt_eq (q_callB (cr_sumA rfl) cb_sumA B.sum (by decide +kernel) (qa_cons (qv 5) qa_nil)) qint) (qs_one (qs_asg qint (qg_sub (qv 5) (q_callM c_L_next (hr0.mono (by decide)) (qa_cons (qv 1) (qa_cons (qv 2) qa_nil)))))) qs_nil)
      (qs_cons (qs_set (i := 6) sc_L_set.nd (q_callB cr_sortedPairs cb_sortedPairs B.sorted (by decide +kernel) (qa_cons (q_comp (own := [("_law_k", 7)]) rfl sc_L_set.nd (show blkC n_L_set (defScope s_L_set) _ [("_law_k", 7)] = true by decide +kernel) (qi_rng1 B.range (qa_cons (qv 2) qa_nil)) (fun _ _ _ _ _ => (qgw_name (i := 7) sc_L_set.nd (by decide))) (fun _ _ _ _ _ => (qts_one (qt_eq (q_ix (qv 5) (qv 7)) qint))) (fun _ _ _ _ _ => (q_tup (qa_cons (q_mod (q_callTy call_int1 cb_int B.int (by decide +kernel) (qa_cons (qv 7) qa_nil)) (qv 3)) (qa_cons (q_div (qv 7) (qv 3)) qa_nil))))) qa_nil)))
      (qs_one (qs_ret (q_tup (qa_cons (q_callTy call_tuple_of cb_tuple B.tuple (by decide +kernel) (qa_cons (qv 6) qa_nil)) (qa_cons (q_callTy call_tuple_of cb_tuple B.tuple (by decide +kernel) (qa_cons (qv 5) qa_nil)) qa_nil))))))))))))))
theorem cal_L_set {f : Addr} {fd : FuncData} (F : Fun K "_law_set" "_law_set" s_L_set f fd) (g : mg "_law_set" = some (.ref f)) (B : Bt mg) (c_L_next : Cal P w K mg base "_law_next" 2 1 F_L_next) (c_L_part : Cal P w K mg base "_law_part" 2 2 F_L_part) : Cal P w K mg base "_law_set" 2 3 F_L_set :=
  ⟨⟨f, fd, ["_law_world_here", "_law_seat"], rfl, ok_L_set F B c_L_next c_L_part, F.binds fun _ _ _ _ _ _ us hl => match us, hl with | [_, _], _ => rfl, g, F.kp⟩⟩
end
end Mir
/-! ## WP2 -/
set_option Elab.async false
set_option linter.all false
set_option maxRecDepth 100000
set_option maxHeartbeats 4000000
namespace Mir
open PySem PySem.Spec PyProof.Rows L2
section
variable {P : Program} {w : World} {K : PySem.W.Frag} {mg : Str → Option Value} {base : Heap}

/-! ### is_pair -/
theorem sc_is_pair : FnScope n_is_pair ["thing"] (defScope s_is_pair) := ⟨rfl, rfl, rfl, by decide +kernel, rfl, by decide +kernel, by decide +kernel⟩
theorem ok_is_pair {f : Addr} {fd : FuncData} (F : Fun K "is_pair" "is_pair" s_is_pair f fd) (B : Bt mg)  : FnOk P w K mg base CX0 1 f fd ["thing"] (spM F_is_pair) :=
  qdef (k := 0) F sc_is_pair fun cdv A outer s H E hr0 =>
      (show QSs _ _ b_is_pair from (qs_one (qs_ret (q_and (q_isi .tuple B.isinstance B.tuple (by decide +kernel) (qv 0)) (q_one (q_eq (q_callB call_len cb_len B.len (by decide +kernel) (qa_cons (qv 0) qa_nil)) qint))))))
theorem cal_is_pair {f : Addr} {fd : FuncData} (F : Fun K "is_pair" "is_pair" s_is_pair f fd) (g : mg "is_pair" = some (.ref f)) (B : Bt mg)  : Cal P w K mg base "is_pair" 1 1 F_is_pair :=
  ⟨⟨f, fd, ["thing"], rfl, ok_is_pair F B , F.binds fun _ _ _ _ _ _ us hl => match us, hl with | [_], _ => rfl, g, F.kp⟩⟩
/-! ### is_number -/
theorem sc_is_number : FnScope n_is_number ["thing"] (defScope s_is_number) := ⟨rfl, rfl, rfl, by decide +kernel, rfl, by decide +kernel, by decide +kernel⟩
theorem ok_is_number {f : Addr} {fd : FuncData} (F : Fun K "is_number" "is_number" s_is_number f fd) (c_whole : Cal P w K mg base "whole" 1 1 F_whole) : FnOk P w K mg base CX0 2 f fd ["thing"] (spM F_is_number) :=
  qdef (k := 1) F sc_is_number fun cdv A outer s H E hr0 =>
      (show QSs _ _ b_is_number from (qs_one (qs_ret (q_and (q_callN c_whole (hr0.mono (by decide)) (qa_cons (qv 0) qa_nil)) (q_one (q_ge (qv 0) qint))))))
theorem cal_is_number {f : Addr} {fd : FuncData} (F : Fun K "is_number" "is_number" s_is_number f fd) (g : mg "is_number" = some (.ref f)) (c_whole : Cal P w K mg base "whole" 1 1 F_whole) : Cal P w K mg base "is_number" 1 2 F_is_number :=
  ⟨⟨f, fd, ["thing"], rfl, ok_is_number F c_whole, F.binds fun _ _ _ _ _ _ us hl => match us, hl with | [_], _ => rfl, g, F.kp⟩⟩
/-! ### last_edge -/
theorem sc_last_edge : FnScope n_last_edge ["clock"] (defScope s_last_edge) := ⟨rfl, rfl, rfl, by decide +kernel, rfl, by decide +kernel, by decide +kernel⟩
theorem ok_last_edge {f : Addr} {fd : FuncData} (F : Fun K "last_edge" "last_edge" s_last_edge f fd) (c_edge_in : Cal P w K mg base "edge_in" 2 1 F_edge_in) : FnOk P w K mg base CX0 2 f fd ["clock"] (spM F_last_edge) :=
  qdef (k := 1) F sc_last_edge fun cdv A outer s H E hr0 =>
      (show QSs _ _ b_last_edge from (qs_one (qs_ret (q_callN c_edge_in (hr0.mono (by decide)) (qa_cons (qv 0) (qa_cons (q_ix (qv 0) qint) qa_nil))))))
theorem cal_last_edge {f : Addr} {fd : FuncData} (F : Fun K "last_edge" "last_edge" s_last_edge f fd) (g : mg "last_edge" = some (.ref f)) (c_edge_in : Cal P w K mg base "edge_in" 2 1 F_edge_in) : Cal P w K mg base "last_edge" 1 2 F_last_edge :=
  ⟨⟨f, fd, ["clock"], rfl, ok_last_edge F c_edge_in, F.binds fun _ _ _ _ _ _ us hl => match us, hl with | [_], _ => rfl, g, F.kp⟩⟩
/-! ### want_part -/
theorem sc_want_part : FnScope n_want_part ["clock", "thing"] (defScope s_want_part) := ⟨rfl, rfl, rfl, by decide +kernel, rfl, by decide +kernel, by decide +kernel⟩
theorem ok_want_part {f : Addr} {fd : FuncData} (F : Fun K "want_part" "want_part" s_want_part f fd) (c_is_part : Cal P w K mg base "is_part" 2 3 F_is_part) : FnOk P w K mg base CX0 4 f fd ["clock", "thing"] (spM F_want_part) :=
  qdef (k := 3) F sc_want_part fun cdv A outer s H E hr0 =>
      (show QSs _ _ b_want_part from (qs_one (qs_if (qt_not (qt (q_callN c_is_part (hr0.mono (by decide)) (qa_cons (qv 0) (qa_cons (qv 1) qa_nil))))) (qs_one qs_never) qs_nil)))
theorem cal_want_part {f : Addr} {fd : FuncData} (F : Fun K "want_part" "want_part" s_want_part f fd) (g : mg "want_part" = some (.ref f)) (c_is_part : Cal P w K mg base "is_part" 2 3 F_is_part) : Cal P w K mg base "want_part" 2 4 F_want_part :=
  ⟨⟨f, fd, ["clock", "thing"], rfl, ok_want_part F c_is_part, F.binds fun _ _ _ _ _ _ us hl => match us, hl with | [_, _], _ => rfl, g, F.kp⟩⟩
theorem cal_want_part_as {f : Addr} {fd : FuncData} (F : Fun K "want_part" "want_part" s_want_part f fd) (g : mg "want_part_b_wants" = some (.ref f)) (c_is_part : Cal P w K mg base "is_part" 2 3 F_is_part) : Cal P w K mg base "want_part_b_wants" 2 4 F_want_part :=
  ⟨⟨f, fd, ["clock", "thing"], rfl, ok_want_part F c_is_part, F.binds fun _ _ _ _ _ _ us hl => match us, hl with | [_, _], _ => rfl, g, F.kp⟩⟩
/-! ### deal_on -/
theorem sc_deal_on : FnScope n_deal_on ["clock", "moves"] (defScope s_deal_on) := ⟨rfl, rfl, rfl, by decide +kernel, rfl, by decide +kernel, by decide +kernel⟩
theorem ok_deal_on {f : Addr} {fd : FuncData} (F : Fun K "deal_on" "deal_on" s_deal_on f fd) (B : Bt mg) (c_number_of : Cal P w K mg base "number_of" 2 4 F_number_of) (c_moves_many : Cal P w K mg base "moves_many" 1 2 F_moves_many) (c_is_moves : Cal P w K mg base "is_moves" 2 4 F_is_moves) : FnOk P w K mg base CX0 5 f fd ["clock", "moves"] (spM F_deal_on) :=
  qdef (k := 4) F sc_deal_on fun cdv A outer s H E hr0 =>
      (show QSs _ _ b_deal_on from (qs_cons (qs_set (i := 2) sc_deal_on.nd (q_and (q_isi .tuple B.isinstance B.tuple (by decide +kernel) (qv 1)) (q_one (q_eq (q_callB call_len cb_len B.len (by decide +kernel) (qa_cons (qv 1) qa_nil)) qint))))
      (qs_cons (qs_if (PW.pt (qw_and (qt_not (qt (qv 2))) (qw_and1 (qt_not (qt (q_callN c_is_moves (hr0.mono (by decide)) (qa_cons (qv 0) (qa_cons (qv 1) qa_nil)))))))) (qs_one qs_never) qs_nil)
      (qs_cons (qs_setLc (i := 3) (own := [("_", 5)]) rfl sc_deal_on.nd (sw_true rfl rfl rfl (by decide +kernel)) (show blkC n_deal_on (defScope s_deal_on) _ [("_", 5)] = true by decide +kernel) (qi_rng1 B.range (qa_cons (q_callN c_moves_many (hr0.mono (by decide)) (qa_cons (qv 0) qa_nil)) qa_nil)) (fun _ _ _ _ _ => (qgw_name (i := 5) sc_deal_on.nd (by decide))) (fun _ _ _ _ _ => qts_nil) (fun _ _ _ _ _ => qint))
      (qs_cons (qs_for PassesOwn.never rfl (qi_tup (qv 1)) (qg_name (i := 4) sc_deal_on.nd) (qs_one (qs_asg qint (qg_sub (qv 3) (q_callN c_number_of (hr0.mono (by decide)) (qa_cons (qv 0) (qa_cons (qv 4) qa_nil)))))))
      (qs_one (qs_ret (q_tup (qa_cons qint (qa_cons (q_callTy call_tuple_of cb_tuple B.tuple (by decide +kernel) (qa_cons (qv 3) qa_nil)) qa_nil))))))))))
theorem cal_deal_on {f : Addr} {fd : FuncData} (F : Fun K "deal_on" "deal_on" s_deal_on f fd) (g : mg "deal_on" = some (.ref f)) (B : Bt mg) (c_number_of : Cal P w K mg base "number_of" 2 4 F_number_of) (c_moves_many : Cal P w K mg base "moves_many" 1 2 F_moves_many) (c_is_moves : Cal P w K mg base "is_moves" 2 4 F_is_moves) : Cal P w K mg base "deal_on" 2 5 F_deal_on :=
  ⟨⟨f, fd, ["clock", "moves"], rfl, ok_deal_on F B c_number_of c_moves_many c_is_moves, F.binds fun _ _ _ _ _ _ us hl => match us, hl with | [_, _], _ => rfl, g, F.kp⟩⟩
/-! ### dealt -/
theorem sc_dealt : FnScope n_dealt ["clock", "one", "other"] (defScope s_dealt) := ⟨rfl, rfl, rfl, by decide +kernel, rfl, by decide +kernel, by decide +kernel⟩
theorem ok_dealt {f : Addr} {fd : FuncData} (F : Fun K "dealt" "dealt" s_dealt f fd) (B : Bt mg) (c_settled : Cal P w K mg base "settled" 3 3 F_settled) (c_factor_at : Cal P w K mg base "factor_at" 2 3 F_factor_at) (c_turns_many : Cal P w K mg base "turns_many" 1 2 F_turns_many) (c_want_two : Cal P w K mg base "want_two" 3 5 F_want_two) : FnOk P w K mg base CX0 6 f fd ["clock", "one", "other"] (spM F_dealt) :=
  qdef (k := 5) F sc_dealt fun cdv A outer s H E hr0 =>
      (show QSs _ _ b_dealt from (qs_cons (qs_drop (q_callN c_want_two (hr0.mono (by decide)) (qa_cons (qv 0) (qa_cons (qv 1) (qa_cons (qv 2) qa_nil)))))
      (qs_cons (qs_set (i := 3) sc_dealt.nd (q_ix (qv 0) qint))
      (qs_cons (qs_set (i := 4) sc_dealt.nd (q_callN c_turns_many (hr0.mono (by decide)) (qa_cons (qv 0) qa_nil)))
      (qs_cons (qs_setLc (i := 5) (own := [("turn", 10)]) rfl sc_dealt.nd (sw_true rfl rfl rfl (by decide +kernel)) (show blkC n_dealt (defScope s_dealt) _ [("turn", 10)] = true by decide +kernel) (qi_rng1 B.range (qa_cons (qv 4) qa_nil)) (fun _ _ _ _ _ => (qgw_name (i := 10) sc_dealt.nd (by decide))) (fun _ _ _ _ _ => qts_nil) (fun _ _ _ _ _ => (q_callN c_factor_at (hr0.mono (by decide)) (qa_cons (qv 0) (qa_cons (qv 10) qa_nil)))))
      (qs_cons (qs_setLc (i := 6) (own := [("number", 8), ("weight", 9)]) rfl sc_dealt.nd (sw_true rfl rfl rfl (by decide +kernel)) (show blkC n_dealt (defScope s_dealt) _ [("number", 8), ("weight", 9)] = true by decide +kernel) (qi_enum B.enumerate (qa_cons (q_ix (qv 2) qint) qa_nil)) (fun _ _ _ _ _ => (qgw_tup rfl (qgw_cons (qgw_name (i := 8) sc_dealt.nd (by decide)) (qgw_cons (qgw_name (i := 9) sc_dealt.nd (by decide)) qgw_nil)))) (fun _ _ _ _ _ => (qts_one (qt_ne (qv 9) qint))) (fun _ _ _ _ _ => (q_tup (qa_cons (q_div (qv 8) (qv 3)) (qa_cons (q_mod (qv 8) (qv 3)) (qa_cons (qv 9) qa_nil))))))
      (qs_cons (qs_setLc (i := 7) (own := [("_", 16)]) rfl sc_dealt.nd (sw_true rfl rfl rfl (by decide +kernel)) (show blkC n_dealt (defScope s_dealt) _ [("_", 16)] = true by decide +kernel) (qi_rng1 B.range (qa_cons (q_mul (qv 3) (qv 4)) qa_nil)) (fun _ _ _ _ _ => (qgw_name (i := 16) sc_dealt.nd (by decide))) (fun _ _ _ _ _ => qts_nil) (fun _ _ _ _ _ => qint))
      (qs_cons (qs_for PassesOwn.never rfl (qi_enum B.enumerate (qa_cons (q_ix (qv 1) qint) qa_nil)) (qg_tup rfl (qg_cons (qg_name (i := 8) sc_dealt.nd) (qg_cons (qg_name (i := 9) sc_dealt.nd) qg_nil))) (qs_one (qs_if (qt_ne (qv 9) qint) (qs_cons (qs_set (i := 10) sc_dealt.nd (q_div (qv 8) (qv 3)))
      (qs_cons (qs_set (i := 11) sc_dealt.nd (q_mod (qv 8) (qv 3)))
      (qs_one (qs_for PassesOwn.never rfl (qi_lst (qv 6)) (qg_tup rfl (qg_cons (qg_name (i := 12) sc_dealt.nd) (qg_cons (qg_name (i := 13) sc_dealt.nd) (qg_cons (qg_name (i := 14) sc_dealt.nd) qg_nil)))) (qs_cons (qs_set (i := 15) sc_dealt.nd (q_add (q_mul (q_mod (q_add (qv 10) (qv 12)) (qv 4)) (qv 3)) (q_mod (q_add (q_mul (q_ix (qv 5) (qv 12)) (qv 11)) (qv 13)) (qv 3))))
      (qs_one (qs_asg (q_add (q_ix (qv 7) (qv 15)) (q_mul (qv 9) (qv 14))) (qg_sub (qv 7) (qv 15))))))))) qs_nil)))
      (qs_one (qs_ret (q_callN c_settled (hr0.mono (by decide)) (qa_cons (qv 0) (qa_cons (q_mul (q_ix (qv 1) qint) (q_ix (qv 2) qint)) (qa_cons (q_callTy call_tuple_of cb_tuple B.tuple (by decide +kernel) (qa_cons (qv 7) qa_nil)) qa_nil))))))))))))))
theorem cal_dealt {f : Addr} {fd : FuncData} (F : Fun K "dealt" "dealt" s_dealt f fd) (g : mg "dealt" = some (.ref f)) (B : Bt mg) (c_settled : Cal P w K mg base "settled" 3 3 F_settled) (c_factor_at : Cal P w K mg base "factor_at" 2 3 F_factor_at) (c_turns_many : Cal P w K mg base "turns_many" 1 2 F_turns_many) (c_want_two : Cal P w K mg base "want_two" 3 5 F_want_two) : Cal P w K mg base "dealt" 3 6 F_dealt :=
  ⟨⟨f, fd, ["clock", "one", "other"], rfl, ok_dealt F B c_settled c_factor_at c_turns_many c_want_two, F.binds fun _ _ _ _ _ _ us hl => match us, hl with | [_, _, _], _ => rfl, g, F.kp⟩⟩
/-! ### first_unlike -/
theorem sc_first_unlike : FnScope n_first_unlike ["clock", "deal"] (defScope s_first_unlike) := ⟨rfl, rfl, rfl, by decide +kernel, rfl, by decide +kernel, by decide +kernel⟩
theorem ok_first_unlike {f : Addr} {fd : FuncData} (F : Fun K "first_unlike" "first_unlike" s_first_unlike f fd) (B : Bt mg) (c_move_at : Cal P w K mg base "move_at" 2 3 F_move_at) : FnOk P w K mg base CX0 4 f fd ["clock", "deal"] (spM F_first_unlike) :=
  qdef (k := 3) F sc_first_unlike fun cdv A outer s H E hr0 =>
      (show QSs _ _ b_first_unlike from (qs_cons (qs_set (i := 2) sc_first_unlike.nd (q_ix (qv 1) qint))
      (qs_cons (qs_for PassesOwn.never rfl (qi_rng2 B.range (qa_cons qint (qa_cons (q_callB call_len cb_len B.len (by decide +kernel) (qa_cons (qv 2) qa_nil)) qa_nil))) (qg_name (i := 3) sc_first_unlike.nd) (qs_one (qs_if (qt_ne (q_ix (qv 2) (qv 3)) (q_ix (qv 2) qint)) (qs_one (qs_ret (q_tup (qa_cons (q_callN c_move_at (hr0.mono (by decide)) (qa_cons (qv 0) (qa_cons qint qa_nil))) (qa_cons (q_callN c_move_at (hr0.mono (by decide)) (qa_cons (qv 0) (qa_cons (qv 3) qa_nil))) qa_nil))))) qs_nil)))
      (qs_one (qs_ret (q_tup qa_nil))))))
theorem cal_first_unlike {f : Addr} {fd : FuncData} (F : Fun K "first_unlike" "first_unlike" s_first_unlike f fd) (g : mg "first_unlike" = some (.ref f)) (B : Bt mg) (c_move_at : Cal P w K mg base "move_at" 2 3 F_move_at) : Cal P w K mg base "first_unlike" 2 4 F_first_unlike :=
  ⟨⟨f, fd, ["clock", "deal"], rfl, ok_first_unlike F B c_move_at, F.binds fun _ _ _ _ _ _ us hl => match us, hl with | [_, _], _ => rfl, g, F.kp⟩⟩
/-! ### _law_units -/
theorem sc_L_units : FnScope n_L_units ["_law_number"] (defScope s_L_units) := ⟨rfl, rfl, rfl, by decide +kernel, rfl, by decide +kernel, by decide +kernel⟩
theorem ok_L_units {f : Addr} {fd : FuncData} (F : Fun K "_law_units" "_law_units" s_L_units f fd) (B : Bt mg)  : FnOk P w K mg base CX0 1 f fd ["_law_number"] (spM F_L_units) :=
  qdef (k := 0) F sc_L_units fun cdv A outer s H E hr0 =>
      (show QSs _ _ b_L_units from (qs_cons (qs_set (i := 1) sc_L_units.nd qint)
      (qs_cons (qs_for PassesOwn.never rfl (qi_rng2 B.range (qa_cons qint (qa_cons (q_add (qv 0) qint) qa_nil))) (qg_name (i := 2) sc_L_units.nd) (qs_one (qs_if (qt_eq (q_mod (qv 0) (qv 2)) qint) (qs_cons (qs_set (i := 0) sc_L_units.nd (q_div (qv 0) (qv 2)))
      (qs_one (qs_set (i := 1) sc_L_units.nd (q_mul (qv 1) (q_sub (qv 2) qint))))) qs_nil)))
      (qs_one (qs_ret (qv 1))))))
theorem cal_L_units {f : Addr} {fd : FuncData} (F : Fun K "_law_units" "_law_units" s_L_units f fd) (g : mg "_law_units" = some (.ref f)) (B : Bt mg)  : Cal P w K mg base "_law_units" 1 1 F_L_units :=
  ⟨⟨f, fd, ["_law_number"], rfl, ok_L_units F B , F.binds fun _ _ _ _ _ _ us hl => match us, hl with | [_], _ => rfl, g, F.kp⟩⟩
/-! ### _law_on_turns -/
theorem sc_L_on_turns : FnScope n_L_on_turns ["_law_world_here", "_law_f", "_law_row_here"] (defScope s_L_on_turns) := ⟨rfl, rfl, rfl, by decide +kernel, rfl, by decide +kernel, by decide +kernel⟩
theorem ok_L_on_turns {f : Addr} {fd : FuncData} (F : Fun K "_law_on_turns" "_law_on_turns" s_L_on_turns f fd) (B : Bt mg)  : FnOk P w K mg base CX0 1 f fd ["_law_world_here", "_law_f", "_law_row_here"] (spM F_L_on_turns) :=
  qdef (k := 0) F sc_L_on_turns fun cdv A outer s H E hr0 =>
      (show QSs _ _ b_L_on_turns from (qs_cons (qs_set (i := 3) sc_L_on_turns.nd (q_ix (q_ix (qv 0) qint) qint))
      (qs_cons (qs_set (i := 4) sc_L_on_turns.nd (q_div (q_callB call_len cb_len B.len (by decide +kernel) (qa_cons (q_ix (qv 0) qint) qa_nil)) (qv 3)))
      (qs_cons (qs_setLc (i := 5) (own := [("_law_k", 6)]) rfl sc_L_on_turns.nd (sw_true rfl rfl rfl (by decide +kernel)) (show blkC n_L_on_turns (defScope s_L_on_turns) _ [("_law_k", 6)] = true by decide +kernel) (qi_rng1 B.range (qa_cons (q_mul (qv 3) (qv 4)) qa_nil)) (fun _ _ _ _ _ => (qgw_name (i := 6) sc_L_on_turns.nd (by decide))) (fun _ _ _ _ _ => qts_nil) (fun _ _ _ _ _ => qint))
      (qs_cons (qs_for PassesOwn.never rfl (qi_rng1 B.range (qa_cons (qv 1) qa_nil)) (qg_name (i := 6) sc_L_on_turns.nd) (qs_one (qs_for PassesOwn.never rfl (qi_rng1 B.range (qa_cons (qv 3) qa_nil)) (qg_name (i := 7) sc_L_on_turns.nd) (qs_one (qs_augIx (qv 5) (q_add (q_mul (q_mul (qv 6) (q_div (qv 4) (qv 1))) (qv 3)) (qv 7)) (q_ix (qv 2) (qv 7)) ip_add r_ip)))))
      (qs_one (qs_ret (qv 5))))))))
theorem cal_L_on_turns {f : Addr} {fd : FuncData} (F : Fun K "_law_on_turns" "_law_on_turns" s_L_on_turns f fd) (g : mg "_law_on_turns" = some (.ref f)) (B : Bt mg)  : Cal P w K mg base "_law_on_turns" 3 1 F_L_on_turns :=
  ⟨⟨f, fd, ["_law_world_here", "_law_f", "_law_row_here"], rfl, ok_L_on_turns F B , F.binds fun _ _ _ _ _ _ us hl => match us, hl with | [_, _, _], _ => rfl, g, F.kp⟩⟩
/-! ### _law_of_sets -/
theorem sc_L_of_sets : FnScope n_L_of_sets ["_law_world_here", "_law_seat"] (defScope s_L_of_sets) := ⟨rfl, rfl, rfl, by decide +kernel, rfl, by decide +kernel, by decide +kernel⟩
theorem ok_L_of_sets {f : Addr} {fd : FuncData} (F : Fun K "_law_of_sets" "_law_of_sets" s_L_of_sets f fd) (B : Bt mg) (c_row_after : Cal P w K mg base "row_after" 2 7 F_row_after) (c_L_same : Cal P w K mg base "_law_same" 2 5 (F_L_same 5)) (c_even_after : Cal P w K mg base "even_after" 2 7 F_even_after) (c_deal_on : Cal P w K mg base "deal_on" 2 5 F_deal_on) (c_L_level : Cal P w K mg base "_law_level" 1 1 F_L_level) (c_L_times : Cal P w K mg base "_law_times" 3 1 F_L_times) (c_L_next : Cal P w K mg base "_law_next" 2 1 F_L_next) (c_L_set : Cal P w K mg base "_law_set" 2 3 F_L_set) : FnOk P w K mg base CX0 8 f fd ["_law_world_here", "_law_seat"] (spM F_L_of_sets) :=
  qdef (k := 7) F sc_L_of_sets fun cdv A outer s H E hr0 =>
      (show QSs _ _ b_L_of_sets from (qs_cons (qs_set (i := 2) sc_L_of_sets.nd (q_ix (qv 0) qint))
      (qs_cons (qs_setLc (i := 3) (own := [("_law_k", 8)]) rfl sc_L_of_sets.nd (sw_true rfl rfl rfl (by decide +kernel)) (show blkC n_L_of_sets (defScope s_L_of_sets) _ [("_law_k", 8)] = true by decide +kernel) (qi_rng1 B.range (qa_cons (q_add qint (q_callM c_L_next (hr0.mono (by decide)) (qa_cons (qv 1) (qa_cons qint qa_nil)))) qa_nil)) (fun _ _ _ _ _ => (qgw_name (i := 8) sc_L_of_sets.nd (by decide))) (fun _ _ _ _ _ => qts_nil) (fun _ _ _ _ _ => (q_callF c_L_set (hr0.mono (by decide)) (qa_cons (qv 0) (qa_cons (qv 1) qa_nil)))))
      (qs_cons (qs_set (i := 4) sc_L_of_sets.nd qnon)
      (qs_cons (qs_if (qt_eq (q_callB (cr_sumA rfl) cb_sumA B.sum (by decide +kernel) (qa_cons (q_ix (q_ix (qv 3) qint) qint) qa_nil)) (q_callB call_len cb_len B.len (by decide +kernel) (qa_cons (q_ix (qv 0) qint) qa_nil))) (qs_one (qs_set (i := 4) sc_L_of_sets.nd qint)) qs_nil)
      (qs_cons (qs_set (i := 5) sc_L_of_sets.nd qint)
      (qs_cons (qs_set (i := 6) sc_L_of_sets.nd qnon)
      (qs_cons (qs_setLc (i := 7) (own := [("_law_k", 8)]) rfl sc_L_of_sets.nd (sw_true rfl rfl rfl (by decide +kernel)) (show blkC n_L_of_sets (defScope s_L_of_sets) _ [("_law_k", 8)] = true by decide +kernel) (qi_rng1 B.range (qa_cons (q_callB call_len cb_len B.len (by decide +kernel) (qa_cons (q_ix (qv 0) qint) qa_nil)) qa_nil)) (fun _ _ _ _ _ => (qgw_name (i := 8) sc_L_of_sets.nd (by decide))) (fun _ _ _ _ _ => qts_nil) (fun _ _ _ _ _ => (q_callTy call_int1 cb_int B.int (by decide +kernel) (qa_cons (q_eq (qv 8) qint) qa_nil))))
      (qs_cons (qs_for PassesOwn.never rfl (qi_rng1 B.range (qa_cons (q_callB call_len cb_len B.len (by decide +kernel) (qa_cons (qv 3) qa_nil)) qa_nil)) (qg_name (i := 8) sc_L_of_sets.nd) (qs_one (qs_if (qt_isN (qv 6)) (qs_cons (qs_set (i := 7) sc_L_of_sets.nd (q_callF c_L_times (hr0.mono (by decide)) (qa_cons (qv 0) (qa_cons (qv 7) (qa_cons (q_ix (q_ix (qv 3) (qv 8)) qint) qa_nil)))))
      (qs_cons (qs_set (i := 5) sc_L_of_sets.nd (q_mul (qv 5) (q_callB call_len cb_len B.len (by decide +kernel) (qa_cons (q_ix (q_ix (qv 3) (qv 8)) qint) qa_nil))))
      (qs_one (qs_if (qt (q_callF c_L_level (hr0.mono (by decide)) (qa_cons (qv 7) qa_nil))) (qs_one (qs_set (i := 6) sc_L_of_sets.nd (q_add (qv 8) qint))) qs_nil)))) qs_nil)))
      (qs_cons (qs_if (PW.pt (qw_and (qt_notN (qv 6)) (qw_and1 (qt_ne (q_mod (q_callTy call_int1 cb_int B.int (by decide +kernel) (qa_cons (qv 5) qa_nil)) (q_callB call_len cb_len B.len (by decide +kernel) (qa_cons (q_ix (qv 0) qint) qa_nil))) qint)))) (qs_one (qs_ret qbl)) qs_nil)
      (qs_cons (qs_setLc (i := 9) (own := [("_law_chosen", 10)]) rfl sc_L_of_sets.nd (sw_true rfl rfl rfl (by decide +kernel)) (show blkC n_L_of_sets (defScope s_L_of_sets) _ [("_law_chosen", 10)] = true by decide +kernel) (qi_lst (qv 3)) (fun _ _ _ _ _ => (qgw_name (i := 10) sc_L_of_sets.nd (by decide))) (fun _ _ _ _ _ => qts_nil) (fun _ _ _ _ _ => (q_callN c_deal_on (hr0.mono (by decide)) (qa_cons (qv 2) (qa_cons (q_ix (qv 10) qint) qa_nil)))))
      (qs_cons (qs_if (PW.pt (qw_or (qt_neD hr0.units (q_ix (qv 9) qint) (q_tup (qa_cons qint (qa_cons (q_ix (q_ix (qv 3) qint) qint) qa_nil)))) (qw_or1 (qt_not (qt (q_callN c_L_same (hr0.mono (by decide)) (qa_cons (q_callN c_even_after (hr0.mono (by decide)) (qa_cons (qv 2) (qa_cons (q_ix (qv 9) qint) qa_nil))) (qa_cons (qv 4) qa_nil)))))))) (qs_one (qs_ret qbl)) qs_nil)
      (qs_one (qs_ret (q_callN c_L_same (hr0.mono (by decide)) (qa_cons (q_callN c_row_after (hr0.mono (by decide)) (qa_cons (qv 2) (qa_cons (q_callTy call_tuple_of cb_tuple B.tuple (by decide +kernel) (qa_cons (qv 9) qa_nil)) qa_nil))) (qa_cons (qv 6) qa_nil)))))))))))))))))
theorem cal_L_of_sets {f : Addr} {fd : FuncData} (F : Fun K "_law_of_sets" "_law_of_sets" s_L_of_sets f fd) (g : mg "_law_of_sets" = some (.ref f)) (B : Bt mg) (c_row_after : Cal P w K mg base "row_after" 2 7 F_row_after) (c_L_same : Cal P w K mg base "_law_same" 2 5 (F_L_same 5)) (c_even_after : Cal P w K mg base "even_after" 2 7 F_even_after) (c_deal_on : Cal P w K mg base "deal_on" 2 5 F_deal_on) (c_L_level : Cal P w K mg base "_law_level" 1 1 F_L_level) (c_L_times : Cal P w K mg base "_law_times" 3 1 F_L_times) (c_L_next : Cal P w K mg base "_law_next" 2 1 F_L_next) (c_L_set : Cal P w K mg base "_law_set" 2 3 F_L_set) : Cal P w K mg base "_law_of_sets" 2 8 F_L_of_sets :=
  ⟨⟨f, fd, ["_law_world_here", "_law_seat"], rfl, ok_L_of_sets F B c_row_after c_L_same c_even_after c_deal_on c_L_level c_L_times c_L_next c_L_set, F.binds fun _ _ _ _ _ _ us hl => match us, hl with | [_, _], _ => rfl, g, F.kp⟩⟩
end
end Mir
/-! ## WP3 -/
set_option Elab.async false
set_option linter.all false
set_option maxRecDepth 100000
set_option maxHeartbeats 4000000
namespace Mir
open PySem PySem.Spec PyProof.Rows L2
section
variable {P : Program} {w : World} {K : PySem.W.Frag} {mg : Str → Option Value} {base : Heap}

/-! ### primes_in -/
theorem sc_primes_in : FnScope n_primes_in ["number"] (defScope s_primes_in) := ⟨rfl, rfl, rfl, by decide +kernel, rfl, by decide +kernel, by decide +kernel⟩
theorem ok_primes_in {f : Addr} {fd : FuncData} (F : Fun K "primes_in" "primes_in" s_primes_in f fd) (B : Bt mg)  : FnOk P w K mg base CX0 1 f fd ["number"] (spM F_primes_in) :=
  qdef (k := 0) F sc_primes_in fun cdv A outer s H E hr0 =>
      (show QSs _ _ b_primes_in from (qs_cons (qs_set (i := 1) sc_primes_in.nd (q_lst qa_nil))
      (qs_cons (qs_set (i := 2) sc_primes_in.nd (qv 0))
      (qs_cons (qs_set (i := 3) sc_primes_in.nd qint)
      (qs_cons (qs_while 200 PassesOwn.never (qt_le (q_mul (qv 3) (qv 3)) (qv 2)) (qs_cons (qs_if (qt_eq (q_mod (qv 2) (qv 3)) qint) (qs_cons (qs_drop (q_app (qv 1) (qv 3)))
      (qs_one (qs_while 200 PassesOwn.never (qt_eq (q_mod (qv 2) (qv 3)) qint) (qs_one (qs_set (i := 2) sc_primes_in.nd (q_div (qv 2) (qv 3))))))) qs_nil)
      (qs_one (qs_aug (i := 3) sc_primes_in.nd ip_add r_ip qint))))
      (qs_cons (qs_if (qt_gt (qv 2) qint) (qs_one (qs_drop (q_app (qv 1) (qv 2)))) qs_nil)
      (qs_one (qs_ret (q_callTy call_tuple_of cb_tuple B.tuple (by decide +kernel) (qa_cons (qv 1) qa_nil))))))))))
theorem cal_primes_in {f : Addr} {fd : FuncData} (F : Fun K "primes_in" "primes_in" s_primes_in f fd) (g : mg "primes_in" = some (.ref f)) (B : Bt mg)  : Cal P w K mg base "primes_in" 1 1 F_primes_in :=
  ⟨⟨f, fd, ["number"], rfl, ok_primes_in F B , F.binds fun _ _ _ _ _ _ us hl => match us, hl with | [_], _ => rfl, g, F.kp⟩⟩
/-! ### is_move -/
theorem sc_is_move : FnScope n_is_move ["clock", "thing"] (defScope s_is_move) := ⟨rfl, rfl, rfl, by decide +kernel, rfl, by decide +kernel, by decide +kernel⟩
theorem ok_is_move {f : Addr} {fd : FuncData} (F : Fun K "is_move" "is_move" s_is_move f fd) (c_turns_in : Cal P w K mg base "turns_in" 1 1 F_turns_in) (c_is_number : Cal P w K mg base "is_number" 1 2 F_is_number) (c_is_pair : Cal P w K mg base "is_pair" 1 1 F_is_pair) : FnOk P w K mg base CX0 3 f fd ["clock", "thing"] (spM F_is_move) :=
  qdef (k := 2) F sc_is_move fun cdv A outer s H E hr0 =>
      (show QSs _ _ b_is_move from (qs_cons (qs_if (qt_not (qt (q_callN c_is_pair (hr0.mono (by decide)) (qa_cons (qv 1) qa_nil)))) (qs_one (qs_ret qbl)) qs_nil)
      (qs_cons (qs_asg (qv 1) (qg_tup rfl (qg_cons (qg_name (i := 2) sc_is_move.nd) (qg_cons (qg_name (i := 3) sc_is_move.nd) qg_nil))))
      (qs_one (qs_ret (q_and (q_callN c_is_number (hr0.mono (by decide)) (qa_cons (qv 2) qa_nil)) (q_and (q_lt (qv 2) (q_ix (qv 0) qint)) (q_and (q_callN c_is_number (hr0.mono (by decide)) (qa_cons (qv 3) qa_nil)) (q_one (q_lt (qv 3) (q_callN c_turns_in (hr0.mono (by decide)) (qa_cons (qv 0) qa_nil))))))))))))
theorem cal_is_move {f : Addr} {fd : FuncData} (F : Fun K "is_move" "is_move" s_is_move f fd) (g : mg "is_move" = some (.ref f)) (c_turns_in : Cal P w K mg base "turns_in" 1 1 F_turns_in) (c_is_number : Cal P w K mg base "is_number" 1 2 F_is_number) (c_is_pair : Cal P w K mg base "is_pair" 1 1 F_is_pair) : Cal P w K mg base "is_move" 2 3 F_is_move :=
  ⟨⟨f, fd, ["clock", "thing"], rfl, ok_is_move F c_turns_in c_is_number c_is_pair, F.binds fun _ _ _ _ _ _ us hl => match us, hl with | [_, _], _ => rfl, g, F.kp⟩⟩
/-! ### is_deal -/
theorem sc_is_deal : FnScope n_is_deal ["clock", "thing"] (defScope s_is_deal) := ⟨rfl, rfl, rfl, by decide +kernel, rfl, by decide +kernel, by decide +kernel⟩
theorem ok_is_deal {f : Addr} {fd : FuncData} (F : Fun K "is_deal" "is_deal" s_is_deal f fd) (B : Bt mg) (c_is_integer : Cal P w K mg base "is_integer" 1 2 F_is_integer) (c_moves_many : Cal P w K mg base "moves_many" 1 2 F_moves_many) : FnOk P w K mg base CX0 3 f fd ["clock", "thing"] (spM F_is_deal) :=
  qdef (k := 2) F sc_is_deal fun cdv A outer s H E hr0 =>
      (show QSs _ _ b_is_deal from (qs_cons (qs_if (PW.pt (qw_or (qt_not (qt (q_isi .tuple B.isinstance B.tuple (by decide +kernel) (qv 1)))) (qw_or1 (qt_ne (q_callB call_len cb_len B.len (by decide +kernel) (qa_cons (qv 1) qa_nil)) qint)))) (qs_one (qs_ret qbl)) qs_nil)
      (qs_cons (qs_asg (qv 1) (qg_tup rfl (qg_cons (qg_name (i := 2) sc_is_deal.nd) (qg_cons (qg_name (i := 3) sc_is_deal.nd) qg_nil))))
      (qs_cons (qs_if (PW.pt (qw_or (qt_not (qt (q_callN c_is_integer (hr0.mono (by decide)) (qa_cons (qv 2) qa_nil)))) (qw_or1 (qt_lt (qv 2) qint)))) (qs_one (qs_ret qbl)) qs_nil)
      (qs_cons (qs_if (PW.pt (qw_or (qt_not (qt (q_isi .tuple B.isinstance B.tuple (by decide +kernel) (qv 3)))) (qw_or1 (qt_ne (q_callB call_len cb_len B.len (by decide +kernel) (qa_cons (qv 3) qa_nil)) (q_callN c_moves_many (hr0.mono (by decide)) (qa_cons (qv 0) qa_nil)))))) (qs_one (qs_ret qbl)) qs_nil)
      (qs_cons (qs_set (i := 4) sc_is_deal.nd (qv 2))
      (qs_cons (qs_for PassesOwn.never rfl (qi_tup (qv 3)) (qg_name (i := 5) sc_is_deal.nd) (qs_cons (qs_if (qt_not (qt (q_callN c_is_integer (hr0.mono (by decide)) (qa_cons (qv 5) qa_nil)))) (qs_one (qs_ret qbl)) qs_nil)
      (qs_one (qs_set (i := 4) sc_is_deal.nd (q_callBfun cr_gcd cb_gcd B.gcd (qa_cons (qv 4) (qa_cons (qv 5) qa_nil)))))))
      (qs_one (qs_ret (q_eq (qv 4) qint))))))))))
theorem cal_is_deal {f : Addr} {fd : FuncData} (F : Fun K "is_deal" "is_deal" s_is_deal f fd) (g : mg "is_deal" = some (.ref f)) (B : Bt mg) (c_is_integer : Cal P w K mg base "is_integer" 1 2 F_is_integer) (c_moves_many : Cal P w K mg base "moves_many" 1 2 F_moves_many) : Cal P w K mg base "is_deal" 2 3 F_is_deal :=
  ⟨⟨f, fd, ["clock", "thing"], rfl, ok_is_deal F B c_is_integer c_moves_many, F.binds fun _ _ _ _ _ _ us hl => match us, hl with | [_, _], _ => rfl, g, F.kp⟩⟩
/-! ### want_kept -/
theorem sc_want_kept : FnScope n_want_kept ["clock", "thing"] (defScope s_want_kept) := ⟨rfl, rfl, rfl, by decide +kernel, rfl, by decide +kernel, by decide +kernel⟩
theorem ok_want_kept {f : Addr} {fd : FuncData} (F : Fun K "want_kept" "want_kept" s_want_kept f fd) (c_is_kept : Cal P w K mg base "is_kept" 2 4 F_is_kept) (c_want_part_as : Cal P w K mg base "want_part_b_wants" 2 4 F_want_part) : FnOk P w K mg base CX0 5 f fd ["clock", "thing"] (spM F_want_kept) :=
  qdef (k := 4) F sc_want_kept fun cdv A outer s H E hr0 =>
      (show QSs _ _ b_want_kept from (qs_cons (qs_drop (q_callN c_want_part_as (hr0.mono (by decide)) (qa_cons (qv 0) (qa_cons (qv 1) qa_nil))))
      (qs_one (qs_if (qt_not (qt (q_callN c_is_kept (hr0.mono (by decide)) (qa_cons (qv 0) (qa_cons (qv 1) qa_nil))))) (qs_one qs_never) qs_nil))))
theorem cal_want_kept {f : Addr} {fd : FuncData} (F : Fun K "want_kept" "want_kept" s_want_kept f fd) (g : mg "want_kept" = some (.ref f)) (c_is_kept : Cal P w K mg base "is_kept" 2 4 F_is_kept) (c_want_part_as : Cal P w K mg base "want_part_b_wants" 2 4 F_want_part) : Cal P w K mg base "want_kept" 2 5 F_want_kept :=
  ⟨⟨f, fd, ["clock", "thing"], rfl, ok_want_kept F c_is_kept c_want_part_as, F.binds fun _ _ _ _ _ _ us hl => match us, hl with | [_, _], _ => rfl, g, F.kp⟩⟩
/-! ### usable_part -/
theorem sc_usable_part : FnScope n_usable_part ["clock", "part"] (defScope s_usable_part) := ⟨rfl, rfl, rfl, by decide +kernel, rfl, by decide +kernel, by decide +kernel⟩
theorem ok_usable_part {f : Addr} {fd : FuncData} (F : Fun K "usable_part" "usable_part" s_usable_part f fd) (c_spots_in : Cal P w K mg base "spots_in" 3 2 F_spots_in) (c_usable : Cal P w K mg base "usable" 2 1 F_usable) (c_is_part : Cal P w K mg base "is_part" 2 3 F_is_part) : FnOk P w K mg base CX0 4 f fd ["clock", "part"] (spM F_usable_part) :=
  qdef (k := 3) F sc_usable_part fun cdv A outer s H E hr0 =>
      (show QSs _ _ b_usable_part from (qs_cons (qs_drop (q_callN c_usable (hr0.mono (by decide)) (qa_cons (q_callN c_is_part (hr0.mono (by decide)) (qa_cons (qv 0) (qa_cons (qv 1) qa_nil))) (qa_cons qstr qa_nil))))
      (qs_one (qs_drop (q_callN c_usable (hr0.mono (by decide)) (qa_cons (q_eq (q_callN c_spots_in (hr0.mono (by decide)) (qa_cons (qv 0) (qa_cons (q_ix (qv 1) qint) (qa_cons (q_ix (qv 1) qint) qa_nil)))) qint) (qa_cons qstr qa_nil)))))))
theorem cal_usable_part {f : Addr} {fd : FuncData} (F : Fun K "usable_part" "usable_part" s_usable_part f fd) (g : mg "usable_part" = some (.ref f)) (c_spots_in : Cal P w K mg base "spots_in" 3 2 F_spots_in) (c_usable : Cal P w K mg base "usable" 2 1 F_usable) (c_is_part : Cal P w K mg base "is_part" 2 3 F_is_part) : Cal P w K mg base "usable_part" 2 4 F_usable_part :=
  ⟨⟨f, fd, ["clock", "part"], rfl, ok_usable_part F c_spots_in c_usable c_is_part, F.binds fun _ _ _ _ _ _ us hl => match us, hl with | [_, _], _ => rfl, g, F.kp⟩⟩
/-! ### dealt_again -/
theorem sc_dealt_again : FnScope n_dealt_again ["clock", "deal", "many"] (defScope s_dealt_again) := ⟨rfl, rfl, rfl, by decide +kernel, rfl, by decide +kernel, by decide +kernel⟩
theorem ok_dealt_again {f : Addr} {fd : FuncData} (F : Fun K "dealt_again" "dealt_again" s_dealt_again f fd) (c_dealt : Cal P w K mg base "dealt" 3 6 F_dealt) (c_idle_deal : Cal P w K mg base "idle_deal" 1 3 F_idle_deal) (c_want_many : Cal P w K mg base "want_many" 1 3 F_want_many) (c_want_deal : Cal P w K mg base "want_deal" 3 4 F_want_deal) : FnOk P w K mg base CX0 7 f fd ["clock", "deal", "many"] (spM F_dealt_again) :=
  qdef (k := 6) F sc_dealt_again fun cdv A outer s H E hr0 =>
      (show QSs _ _ b_dealt_again from (qs_cons (qs_drop (q_callN c_want_deal (hr0.mono (by decide)) (qa_cons (qv 0) (qa_cons (qv 1) (qa_cons qstr qa_nil)))))
      (qs_cons (qs_drop (q_callN c_want_many (hr0.mono (by decide)) (qa_cons (qv 2) qa_nil)))
      (qs_cons (qs_set (i := 3) sc_dealt_again.nd (q_callN c_idle_deal (hr0.mono (by decide)) (qa_cons (qv 0) qa_nil)))
      (qs_cons (qs_set (i := 4) sc_dealt_again.nd (qv 1))
      (qs_cons (qs_set (i := 5) sc_dealt_again.nd (qv 2))
      (qs_cons (qs_while 200 PassesOwn.never (qt_gt (qv 5) qint) (qs_cons (qs_if (qt_eq (q_mod (qv 5) qint) qint) (qs_one (qs_set (i := 3) sc_dealt_again.nd (q_callN c_dealt (hr0.mono (by decide)) (qa_cons (qv 0) (qa_cons (qv 3) (qa_cons (qv 4) qa_nil)))))) qs_nil)
      (qs_cons (qs_set (i := 5) sc_dealt_again.nd (q_div (qv 5) qint))
      (qs_one (qs_if (qt_gt (qv 5) qint) (qs_one (qs_set (i := 4) sc_dealt_again.nd (q_callN c_dealt (hr0.mono (by decide)) (qa_cons (qv 0) (qa_cons (qv 4) (qa_cons (qv 4) qa_nil)))))) qs_nil)))))
      (qs_one (qs_ret (qv 3))))))))))
theorem cal_dealt_again {f : Addr} {fd : FuncData} (F : Fun K "dealt_again" "dealt_again" s_dealt_again f fd) (g : mg "dealt_again" = some (.ref f)) (c_dealt : Cal P w K mg base "dealt" 3 6 F_dealt) (c_idle_deal : Cal P w K mg base "idle_deal" 1 3 F_idle_deal) (c_want_many : Cal P w K mg base "want_many" 1 3 F_want_many) (c_want_deal : Cal P w K mg base "want_deal" 3 4 F_want_deal) : Cal P w K mg base "dealt_again" 3 7 F_dealt_again :=
  ⟨⟨f, fd, ["clock", "deal", "many"], rfl, ok_dealt_again F c_dealt c_idle_deal c_want_many c_want_deal, F.binds fun _ _ _ _ _ _ us hl => match us, hl with | [_, _, _], _ => rfl, g, F.kp⟩⟩
/-! ### even_paper -/
theorem sc_even_paper : FnScope n_even_paper ["clock", "deal"] (defScope s_even_paper) := ⟨rfl, rfl, rfl, by decide +kernel, rfl, by decide +kernel, by decide +kernel⟩
theorem ok_even_paper {f : Addr} {fd : FuncData} (F : Fun K "even_paper" "even_paper" s_even_paper f fd) (c_dealt_again : Cal P w K mg base "dealt_again" 3 7 F_dealt_again) (c_first_unlike : Cal P w K mg base "first_unlike" 2 4 F_first_unlike) (c_last_edge : Cal P w K mg base "last_edge" 1 2 F_last_edge) (c_even_after : Cal P w K mg base "even_after" 2 7 F_even_after) : FnOk P w K mg base CX0 8 f fd ["clock", "deal"] (spM F_even_paper) :=
  qdef (k := 7) F sc_even_paper fun cdv A outer s H E hr0 =>
      (show QSs _ _ b_even_paper from (qs_cons (qs_set (i := 2) sc_even_paper.nd (q_callN c_even_after (hr0.mono (by decide)) (qa_cons (qv 0) (qa_cons (qv 1) qa_nil))))
      (qs_cons (qs_if (qt_isN (qv 2)) (qs_one (qs_ret (q_tup (qa_cons qstr (qa_cons (q_callN c_first_unlike (hr0.mono (by decide)) (qa_cons (qv 0) (qa_cons (q_callN c_dealt_again (hr0.mono (by decide)) (qa_cons (qv 0) (qa_cons (qv 1) (qa_cons (q_callN c_last_edge (hr0.mono (by decide)) (qa_cons (qv 0) qa_nil)) qa_nil)))) qa_nil))) qa_nil))))) qs_nil)
      (qs_cons (qs_if (qt_eq (qv 2) qint) (qs_one (qs_ret (q_tup (qa_cons qstr (qa_cons qint (qa_cons (q_tup qa_nil) qa_nil)))))) qs_nil)
      (qs_one (qs_ret (q_tup (qa_cons qstr (qa_cons (qv 2) (qa_cons (q_callN c_first_unlike (hr0.mono (by decide)) (qa_cons (qv 0) (qa_cons (q_callN c_dealt_again (hr0.mono (by decide)) (qa_cons (qv 0) (qa_cons (qv 1) (qa_cons (q_sub (qv 2) qint) qa_nil)))) qa_nil))) qa_nil))))))))))
theorem cal_even_paper {f : Addr} {fd : FuncData} (F : Fun K "even_paper" "even_paper" s_even_paper f fd) (g : mg "even_paper" = some (.ref f)) (c_dealt_again : Cal P w K mg base "dealt_again" 3 7 F_dealt_again) (c_first_unlike : Cal P w K mg base "first_unlike" 2 4 F_first_unlike) (c_last_edge : Cal P w K mg base "last_edge" 1 2 F_last_edge) (c_even_after : Cal P w K mg base "even_after" 2 7 F_even_after) : Cal P w K mg base "even_paper" 2 8 F_even_paper :=
  ⟨⟨f, fd, ["clock", "deal"], rfl, ok_even_paper F c_dealt_again c_first_unlike c_last_edge c_even_after, F.binds fun _ _ _ _ _ _ us hl => match us, hl with | [_, _], _ => rfl, g, F.kp⟩⟩
/-! ### _law_edge -/
theorem sc_L_edge : FnScope n_L_edge ["_law_clock_here", "_law_a"] (defScope s_L_edge) := ⟨rfl, rfl, rfl, by decide +kernel, rfl, by decide +kernel, by decide +kernel⟩
theorem ok_L_edge {f : Addr} {fd : FuncData} (F : Fun K "_law_edge" "_law_edge" s_L_edge f fd)  : FnOk P w K mg base CX0 1 f fd ["_law_clock_here", "_law_a"] (spM F_L_edge) :=
  qdef (k := 0) F sc_L_edge fun cdv A outer s H E hr0 =>
      (show QSs _ _ b_L_edge from (qs_cons (qs_set (i := 2) sc_L_edge.nd qint)
      (qs_cons (qs_for PassesOwn.never rfl (qi_tup (q_ix (qv 0) qint)) (qg_name (i := 3) sc_L_edge.nd) (qs_one (qs_if (qt_ne (q_mod (q_ix (qv 3) qint) (qv 1)) (q_mod qint (qv 1))) (qs_one (qs_set (i := 2) sc_L_edge.nd (q_mul (qv 2) (q_ix (qv 3) qint)))) qs_nil)))
      (qs_one (qs_ret (qv 2))))))
theorem cal_L_edge {f : Addr} {fd : FuncData} (F : Fun K "_law_edge" "_law_edge" s_L_edge f fd) (g : mg "_law_edge" = some (.ref f))  : Cal P w K mg base "_law_edge" 2 1 F_L_edge :=
  ⟨⟨f, fd, ["_law_clock_here", "_law_a"], rfl, ok_L_edge F , F.binds fun _ _ _ _ _ _ us hl => match us, hl with | [_, _], _ => rfl, g, F.kp⟩⟩
/-! ### _law_traceless -/
theorem sc_L_traceless : FnScope n_L_traceless ["_law_world_here", "_law_f", "_law_row_here"] (defScope s_L_traceless) := ⟨rfl, rfl, rfl, by decide +kernel, rfl, by decide +kernel, by decide +kernel⟩
theorem ok_L_traceless {f : Addr} {fd : FuncData} (F : Fun K "_law_traceless" "_law_traceless" s_L_traceless f fd) (B : Bt mg) (c_L_on_turns : Cal P w K mg base "_law_on_turns" 3 1 F_L_on_turns) (c_L_moved : Cal P w K mg base "_law_moved" 2 1 F_L_moved) : FnOk P w K mg base CX0 2 f fd ["_law_world_here", "_law_f", "_law_row_here"] (spM F_L_traceless) :=
  qdef (k := 1) F sc_L_traceless fun cdv A outer s H E hr0 =>
      (show QSs _ _ b_L_traceless from (qs_cons (qs_set (i := 3) sc_L_traceless.nd (q_div (q_callB call_len cb_len B.len (by decide +kernel) (qa_cons (q_ix (qv 0) qint) qa_nil)) (q_ix (q_ix (qv 0) qint) qint)))
      (qs_cons (qs_set (i := 4) sc_L_traceless.nd (q_callF c_L_moved (hr0.mono (by decide)) (qa_cons (qv 2) (qa_cons (q_ix (q_ix (qv 0) qint) (q_mod (q_callTy call_int1 cb_int B.int (by decide +kernel) (qa_cons (q_div (qv 3) (qv 1)) qa_nil)) (qv 3))) qa_nil))))
      (qs_one (qs_ret (q_callF c_L_on_turns (hr0.mono (by decide)) (qa_cons (qv 0) (qa_cons (qv 1) (qa_cons (q_comp (own := [("_law_k", 5)]) rfl sc_L_traceless.nd (show blkC n_L_traceless (defScope s_L_traceless) _ [("_law_k", 5)] = true by decide +kernel) (qi_rng1 B.range (qa_cons (q_callB call_len cb_len B.len (by decide +kernel) (qa_cons (qv 2) qa_nil)) qa_nil)) (fun _ _ _ _ _ => (qgw_name (i := 5) sc_L_traceless.nd (by decide))) (fun _ _ _ _ _ => qts_nil) (fun _ _ _ _ _ => (q_sub (q_ix (qv 2) (qv 5)) (q_ix (qv 4) (qv 5))))) qa_nil)))))))))
theorem cal_L_traceless {f : Addr} {fd : FuncData} (F : Fun K "_law_traceless" "_law_traceless" s_L_traceless f fd) (g : mg "_law_traceless" = some (.ref f)) (B : Bt mg) (c_L_on_turns : Cal P w K mg base "_law_on_turns" 3 1 F_L_on_turns) (c_L_moved : Cal P w K mg base "_law_moved" 2 1 F_L_moved) : Cal P w K mg base "_law_traceless" 3 2 F_L_traceless :=
  ⟨⟨f, fd, ["_law_world_here", "_law_f", "_law_row_here"], rfl, ok_L_traceless F B c_L_on_turns c_L_moved, F.binds fun _ _ _ _ _ _ us hl => match us, hl with | [_, _, _], _ => rfl, g, F.kp⟩⟩
/-! ### _law_part -/
theorem sc_L_part : FnScope n_L_part ["_law_world_here", "_law_seat"] (defScope s_L_part) := ⟨rfl, rfl, rfl, by decide +kernel, rfl, by decide +kernel, by decide +kernel⟩
theorem ok_L_part {f : Addr} {fd : FuncData} (F : Fun K "_law_part" "_law_part" s_L_part f fd) (B : Bt mg) (c_L_next : Cal P w K mg base "_law_next" 2 1 F_L_next) (c_L_units : Cal P w K mg base "_law_units" 1 1 F_L_units) (c_L_divisors : Cal P w K mg base "_law_divisors" 1 1 F_L_divisors) : FnOk P w K mg base CX0 2 f fd ["_law_world_here", "_law_seat"] (spM F_L_part) :=
  qdef (k := 1) F sc_L_part fun cdv A outer s H E hr0 =>
      (show QSs _ _ b_L_part from (qs_cons (qs_set (i := 2) sc_L_part.nd (q_ix (qv 0) qint))
      (qs_cons (qs_set (i := 3) sc_L_part.nd (q_div (q_callB call_len cb_len B.len (by decide +kernel) (qa_cons (q_ix (qv 0) qint) qa_nil)) (q_ix (qv 2) qint)))
      (qs_cons (qs_set (i := 4) sc_L_part.nd (q_callN c_L_divisors (hr0.mono (by decide)) (qa_cons (q_ix (qv 2) qint) qa_nil)))
      (qs_cons (qs_set (i := 5) sc_L_part.nd (q_ix (qv 4) (q_callM c_L_next (hr0.mono (by decide)) (qa_cons (qv 1) (qa_cons (q_callB call_len cb_len B.len (by decide +kernel) (qa_cons (qv 4) qa_nil)) qa_nil)))))
      (qs_cons (qs_set (i := 4) sc_L_part.nd (q_callN c_L_divisors (hr0.mono (by decide)) (qa_cons (qv 3) qa_nil)))
      (qs_cons (qs_set (i := 6) sc_L_part.nd (q_ix (qv 4) (q_callM c_L_next (hr0.mono (by decide)) (qa_cons (qv 1) (qa_cons (q_callB call_len cb_len B.len (by decide +kernel) (qa_cons (qv 4) qa_nil)) qa_nil)))))
      (qs_cons (qs_set (i := 7) sc_L_part.nd qint)
      (qs_cons (qs_for PassesOwn.never rfl (qi_rng2 B.range (qa_cons qint (qa_cons (q_add (q_ix (qv 2) qint) qint) qa_nil))) (qg_name (i := 8) sc_L_part.nd) (qs_one (qs_if (PW.pt (qw_and (qt_eq (q_mod (q_ix (qv 2) qint) (qv 8)) qint) (qw_and (qt_eq (q_callN c_L_units (hr0.mono (by decide)) (qa_cons (qv 8) qa_nil)) (q_sub (qv 8) qint)) (qw_and1 (qt_ne (q_mod (qv 5) (qv 8)) qint))))) (qs_one (qs_if (qt_gt (q_callB call_len cb_len B.len (by decide +kernel) (qa_cons (q_comp (own := [("_law_mover", 14)]) rfl sc_L_part.nd (show blkC n_L_part (defScope s_L_part) _ [("_law_mover", 14)] = true by decide +kernel) (qi_tup (q_ix (qv 2) qint)) (fun _ _ _ _ _ => (qgw_name (i := 14) sc_L_part.nd (by decide))) (fun _ _ _ _ _ => (qts_one (PW.pt (qw_and (qt_eq (q_mod (qv 6) (q_ix (qv 14) qint)) qint) (qw_and1 (qt_ne (q_mod (q_ix (qv 14) qint) (qv 8)) qint)))))) (fun _ _ _ _ _ => (qv 14))) qa_nil)) qint) (qs_one (qs_set (i := 7) sc_L_part.nd (q_mul (qv 7) (qv 8)))) qs_nil)) qs_nil)))
      (qs_cons (qs_set (i := 9) sc_L_part.nd (q_callM c_L_next (hr0.mono (by decide)) (qa_cons (qv 1) (qa_cons (qv 7) qa_nil))))
      (qs_cons (qs_set (i := 10) sc_L_part.nd (q_lst qa_nil))
      (qs_cons (qs_for PassesOwn.never rfl (qi_rng1 B.range (qa_cons (q_callB call_len cb_len B.len (by decide +kernel) (qa_cons (q_ix (qv 0) qint) qa_nil)) qa_nil)) (qg_name (i := 11) sc_L_part.nd) (qs_cons (qs_set (i := 12) sc_L_part.nd (q_div (qv 11) (q_ix (qv 2) qint)))
      (qs_cons (qs_set (i := 13) sc_L_part.nd (q_sub (q_mod (q_callTy call_int1 cb_int B.int (by decide +kernel) (qa_cons (qv 11) qa_nil)) (q_ix (qv 2) qint)) (q_mul (q_sub qint (q_ix (q_ix (qv 0) qint) (qv 12))) (qv 9))))
      (qs_one (qs_drop (q_app (qv 10) (q_callTy call_int1 cb_int B.int (by decide +kernel) (qa_cons (q_and (q_eq (q_mod (q_callTy call_int1 cb_int B.int (by decide +kernel) (qa_cons (qv 12) qa_nil)) (q_div (qv 3) (qv 6))) qint) (q_one (q_eq (q_mod (q_callTy call_int1 cb_int B.int (by decide +kernel) (qa_cons (qv 13) qa_nil)) (q_div (q_ix (qv 2) qint) (qv 5))) qint))) qa_nil))))))))
      (qs_one (qs_ret (q_tup (qa_cons (q_tup (qa_cons (qv 5) (qa_cons (qv 6) (qa_cons (qv 9) qa_nil)))) (qa_cons (q_callTy call_tuple_of cb_tuple B.tuple (by decide +kernel) (qa_cons (qv 10) qa_nil)) qa_nil)))))))))))))))))
theorem cal_L_part {f : Addr} {fd : FuncData} (F : Fun K "_law_part" "_law_part" s_L_part f fd) (g : mg "_law_part" = some (.ref f)) (B : Bt mg) (c_L_next : Cal P w K mg base "_law_next" 2 1 F_L_next) (c_L_units : Cal P w K mg base "_law_units" 1 1 F_L_units) (c_L_divisors : Cal P w K mg base "_law_divisors" 1 1 F_L_divisors) : Cal P w K mg base "_law_part" 2 2 F_L_part :=
  ⟨⟨f, fd, ["_law_world_here", "_law_seat"], rfl, ok_L_part F B c_L_next c_L_units c_L_divisors, F.binds fun _ _ _ _ _ _ us hl => match us, hl with | [_, _], _ => rfl, g, F.kp⟩⟩
end
end Mir
/-! ## WP4 -/
set_option Elab.async false
set_option linter.all false
set_option maxRecDepth 100000
set_option maxHeartbeats 4000000
namespace Mir
open PySem PySem.Spec PyProof.Rows L2
section
variable {P : Program} {w : World} {K : PySem.W.Frag} {mg : Str → Option Value} {base : Heap}

/-! ### turns_in -/
theorem sc_turns_in : FnScope n_turns_in ["clock"] (defScope s_turns_in) := ⟨rfl, rfl, rfl, by decide +kernel, rfl, by decide +kernel, by decide +kernel⟩
theorem ok_turns_in {f : Addr} {fd : FuncData} (F : Fun K "turns_in" "turns_in" s_turns_in f fd)  : FnOk P w K mg base CX0 1 f fd ["clock"] (spM F_turns_in) :=
  qdef (k := 0) F sc_turns_in fun cdv A outer s H E hr0 =>
      (show QSs _ _ b_turns_in from (qs_cons (qs_set (i := 1) sc_turns_in.nd qint)
      (qs_cons (qs_for PassesOwn.never rfl (qi_tup (q_ix (qv 0) qint)) (qg_tup rfl (qg_cons (qg_name (i := 2) sc_turns_in.nd) (qg_cons (qg_name (i := 3) sc_turns_in.nd) qg_nil))) (qs_one (qs_set (i := 1) sc_turns_in.nd (q_mul (qv 1) (qv 2)))))
      (qs_one (qs_ret (qv 1))))))
theorem cal_turns_in {f : Addr} {fd : FuncData} (F : Fun K "turns_in" "turns_in" s_turns_in f fd) (g : mg "turns_in" = some (.ref f))  : Cal P w K mg base "turns_in" 1 1 F_turns_in :=
  ⟨⟨f, fd, ["clock"], rfl, ok_turns_in F , F.binds fun _ _ _ _ _ _ us hl => match us, hl with | [_], _ => rfl, g, F.kp⟩⟩
/-! ### is_moves -/
theorem sc_is_moves : FnScope n_is_moves ["clock", "thing"] (defScope s_is_moves) := ⟨rfl, rfl, rfl, by decide +kernel, rfl, by decide +kernel, by decide +kernel⟩
theorem ok_is_moves {f : Addr} {fd : FuncData} (F : Fun K "is_moves" "is_moves" s_is_moves f fd) (B : Bt mg) (c_is_move : Cal P w K mg base "is_move" 2 3 F_is_move) : FnOk P w K mg base CX0 4 f fd ["clock", "thing"] (spM F_is_moves) :=
  qdef (k := 3) F sc_is_moves fun cdv A outer s H E hr0 =>
      (show QSs _ _ b_is_moves from (qs_cons (qs_if (PW.pt (qw_or (qt_not (qt (q_isi .tuple B.isinstance B.tuple (by decide +kernel) (qv 1)))) (qw_or1 (qt_eq (q_callB call_len cb_len B.len (by decide +kernel) (qa_cons (qv 1) qa_nil)) qint)))) (qs_one (qs_ret qbl)) qs_nil)
      (qs_cons (qs_set (i := 2) sc_is_moves.nd (q_tup (qa_cons (q_neg qint) (qa_cons (q_neg qint) qa_nil))))
      (qs_cons (qs_for PassesOwn.never rfl (qi_tup (qv 1)) (qg_name (i := 3) sc_is_moves.nd) (qs_cons (qs_if (PW.pt (qw_or (qt_not (qt (q_callN c_is_move (hr0.mono (by decide)) (qa_cons (qv 0) (qa_cons (qv 3) qa_nil))))) (qw_or1 (qt_leT (hu_of hr0) (qv 3) (qv 2))))) (qs_one (qs_ret qbl)) qs_nil)
      (qs_one (qs_set (i := 2) sc_is_moves.nd (qv 3)))))
      (qs_one (qs_ret qbl))))))
theorem cal_is_moves {f : Addr} {fd : FuncData} (F : Fun K "is_moves" "is_moves" s_is_moves f fd) (g : mg "is_moves" = some (.ref f)) (B : Bt mg) (c_is_move : Cal P w K mg base "is_move" 2 3 F_is_move) : Cal P w K mg base "is_moves" 2 4 F_is_moves :=
  ⟨⟨f, fd, ["clock", "thing"], rfl, ok_is_moves F B c_is_move, F.binds fun _ _ _ _ _ _ us hl => match us, hl with | [_, _], _ => rfl, g, F.kp⟩⟩
/-! ### judge_deal -/
theorem sc_judge_deal : FnScope n_judge_deal ["clock", "thing", "name"] (defScope s_judge_deal) := ⟨rfl, rfl, rfl, by decide +kernel, rfl, by decide +kernel, by decide +kernel⟩
theorem ok_judge_deal {f : Addr} {fd : FuncData} (F : Fun K "judge_deal" "judge_deal" s_judge_deal f fd) (c_is_deal : Cal P w K mg base "is_deal" 2 3 F_is_deal) : FnOk P w K mg base CX0 4 f fd ["clock", "thing", "name"] (spM F_judge_deal) :=
  qdef (k := 3) F sc_judge_deal fun cdv A outer s H E hr0 =>
      (show QSs _ _ b_judge_deal from (qs_one (qs_if (qt_not (qt (q_callN c_is_deal (hr0.mono (by decide)) (qa_cons (qv 0) (qa_cons (qv 1) qa_nil))))) (qs_one qs_never) qs_nil)))
theorem cal_judge_deal {f : Addr} {fd : FuncData} (F : Fun K "judge_deal" "judge_deal" s_judge_deal f fd) (g : mg "judge_deal" = some (.ref f)) (c_is_deal : Cal P w K mg base "is_deal" 2 3 F_is_deal) : Cal P w K mg base "judge_deal" 3 4 F_judge_deal :=
  ⟨⟨f, fd, ["clock", "thing", "name"], rfl, ok_judge_deal F c_is_deal, F.binds fun _ _ _ _ _ _ us hl => match us, hl with | [_, _, _], _ => rfl, g, F.kp⟩⟩
/-! ### factor_at -/
theorem sc_factor_at : FnScope n_factor_at ["clock", "turn"] (defScope s_factor_at) := ⟨rfl, rfl, rfl, by decide +kernel, rfl, by decide +kernel, by decide +kernel⟩
theorem ok_factor_at {f : Addr} {fd : FuncData} (F : Fun K "factor_at" "factor_at" s_factor_at f fd) (c_factor_of : Cal P w K mg base "factor_of" 2 1 F_factor_of) (c_turns_in : Cal P w K mg base "turns_in" 1 1 F_turns_in) (c_is_number : Cal P w K mg base "is_number" 1 2 F_is_number) (c_usable : Cal P w K mg base "usable" 2 1 F_usable) : FnOk P w K mg base CX0 3 f fd ["clock", "turn"] (spM F_factor_at) :=
  qdef (k := 2) F sc_factor_at fun cdv A outer s H E hr0 =>
      (show QSs _ _ b_factor_at from (qs_cons (qs_drop (q_callN c_usable (hr0.mono (by decide)) (qa_cons (q_and (q_callN c_is_number (hr0.mono (by decide)) (qa_cons (qv 1) qa_nil)) (q_one (q_lt (qv 1) (q_callN c_turns_in (hr0.mono (by decide)) (qa_cons (qv 0) qa_nil))))) (qa_cons qstr qa_nil))))
      (qs_one (qs_ret (q_callN c_factor_of (hr0.mono (by decide)) (qa_cons (qv 0) (qa_cons (qv 1) qa_nil)))))))
theorem cal_factor_at {f : Addr} {fd : FuncData} (F : Fun K "factor_at" "factor_at" s_factor_at f fd) (g : mg "factor_at" = some (.ref f)) (c_factor_of : Cal P w K mg base "factor_of" 2 1 F_factor_of) (c_turns_in : Cal P w K mg base "turns_in" 1 1 F_turns_in) (c_is_number : Cal P w K mg base "is_number" 1 2 F_is_number) (c_usable : Cal P w K mg base "usable" 2 1 F_usable) : Cal P w K mg base "factor_at" 2 3 F_factor_at :=
  ⟨⟨f, fd, ["clock", "turn"], rfl, ok_factor_at F c_factor_of c_turns_in c_is_number c_usable, F.binds fun _ _ _ _ _ _ us hl => match us, hl with | [_, _], _ => rfl, g, F.kp⟩⟩
/-! ### folded_clock -/
theorem sc_folded_clock : FnScope n_folded_clock ["clock", "part"] (defScope s_folded_clock) := ⟨rfl, rfl, rfl, by decide +kernel, rfl, by decide +kernel, by decide +kernel⟩
theorem ok_folded_clock {f : Addr} {fd : FuncData} (F : Fun K "folded_clock" "folded_clock" s_folded_clock f fd) (B : Bt mg) (c_usable_part : Cal P w K mg base "usable_part" 2 4 F_usable_part) : FnOk P w K mg base CX0 5 f fd ["clock", "part"] (spM F_folded_clock) :=
  qdef (k := 4) F sc_folded_clock fun cdv A outer s H E hr0 =>
      (show QSs _ _ b_folded_clock from (qs_cons (qs_drop (q_callN c_usable_part (hr0.mono (by decide)) (qa_cons (qv 0) (qa_cons (qv 1) qa_nil))))
      (qs_cons (qs_asg (qv 0) (qg_tup rfl (qg_cons (qg_name (i := 2) sc_folded_clock.nd) (qg_cons (qg_name (i := 3) sc_folded_clock.nd) qg_nil))))
      (qs_cons (qs_set (i := 4) sc_folded_clock.nd (q_div (qv 2) (q_ix (qv 1) qint)))
      (qs_cons (qs_set (i := 5) sc_folded_clock.nd (q_lst qa_nil))
      (qs_cons (qs_for PassesOwn.never rfl (qi_tup (qv 3)) (qg_tup rfl (qg_cons (qg_name (i := 6) sc_folded_clock.nd) (qg_cons (qg_name (i := 7) sc_folded_clock.nd) qg_nil))) (qs_one (qs_if (qt_ne (q_mod (q_ix (qv 1) qint) (qv 6)) qint) (qs_one (qs_drop (q_app (qv 5) (q_tup (qa_cons (qv 6) (qa_cons (q_if (qt_gt (qv 4) qint) (q_mod (qv 7) (qv 4)) qint) qa_nil)))))) qs_nil)))
      (qs_one (qs_ret (q_tup (qa_cons (qv 4) (qa_cons (q_callTy call_tuple_of cb_tuple B.tuple (by decide +kernel) (qa_cons (qv 5) qa_nil)) qa_nil)))))))))))
theorem cal_folded_clock {f : Addr} {fd : FuncData} (F : Fun K "folded_clock" "folded_clock" s_folded_clock f fd) (g : mg "folded_clock" = some (.ref f)) (B : Bt mg) (c_usable_part : Cal P w K mg base "usable_part" 2 4 F_usable_part) : Cal P w K mg base "folded_clock" 2 5 F_folded_clock :=
  ⟨⟨f, fd, ["clock", "part"], rfl, ok_folded_clock F B c_usable_part, F.binds fun _ _ _ _ _ _ us hl => match us, hl with | [_, _], _ => rfl, g, F.kp⟩⟩
/-! ### is_even -/
theorem sc_is_even : FnScope n_is_even ["clock", "deal"] (defScope s_is_even) := ⟨rfl, rfl, rfl, by decide +kernel, rfl, by decide +kernel, by decide +kernel⟩
theorem ok_is_even {f : Addr} {fd : FuncData} (F : Fun K "is_even" "is_even" s_is_even f fd) (B : Bt mg) (c_want_deal : Cal P w K mg base "want_deal" 3 4 F_want_deal) : FnOk P w K mg base CX0 5 f fd ["clock", "deal"] (spM F_is_even) :=
  qdef (k := 4) F sc_is_even fun cdv A outer s H E hr0 =>
      (show QSs _ _ b_is_even from (qs_cons (qs_drop (q_callN c_want_deal (hr0.mono (by decide)) (qa_cons (qv 0) (qa_cons (qv 1) (qa_cons qstr qa_nil)))))
      (qs_cons (qs_set (i := 2) sc_is_even.nd (q_ix (q_ix (qv 1) qint) qint))
      (qs_one (qs_ret (q_callB (cr_all rfl) cb_all B.all (by decide +kernel) (qa_cons (q_comp (own := [("weight", 3)]) rfl sc_is_even.nd (show blkC n_is_even (defScope s_is_even) _ [("weight", 3)] = true by decide +kernel) (qi_tup (q_ix (qv 1) qint)) (fun _ _ _ _ _ => (qgw_name (i := 3) sc_is_even.nd (by decide))) (fun _ _ _ _ _ => qts_nil) (fun _ _ _ _ _ => (q_eq (qv 3) (qv 2)))) qa_nil)))))))
theorem cal_is_even {f : Addr} {fd : FuncData} (F : Fun K "is_even" "is_even" s_is_even f fd) (g : mg "is_even" = some (.ref f)) (B : Bt mg) (c_want_deal : Cal P w K mg base "want_deal" 3 4 F_want_deal) : Cal P w K mg base "is_even" 2 5 F_is_even :=
  ⟨⟨f, fd, ["clock", "deal"], rfl, ok_is_even F B c_want_deal, F.binds fun _ _ _ _ _ _ us hl => match us, hl with | [_, _], _ => rfl, g, F.kp⟩⟩
/-! ### want_part_77 -/
theorem sc_want_part_77 : FnScope n_want_part_77 ["clock", "thing", "name"] (defScope s_want_part_77) := ⟨rfl, rfl, rfl, by decide +kernel, rfl, by decide +kernel, by decide +kernel⟩
theorem ok_want_part_77 {f : Addr} {fd : FuncData} (F : Fun K "want_part" "want_part" s_want_part_77 f fd) (c_is_part : Cal P w K mg base "is_part" 2 3 F_is_part) : FnOk P w K mg base CX0 4 f fd ["clock", "thing", "name"] (spM F_want_part_77) :=
  qdef (k := 3) F sc_want_part_77 fun cdv A outer s H E hr0 =>
      (show QSs _ _ b_want_part_77 from (qs_one (qs_if (qt_not (qt (q_callN c_is_part (hr0.mono (by decide)) (qa_cons (qv 0) (qa_cons (qv 1) qa_nil))))) (qs_one qs_never) qs_nil)))
theorem cal_want_part_77 {f : Addr} {fd : FuncData} (F : Fun K "want_part" "want_part" s_want_part_77 f fd) (g : mg "want_part" = some (.ref f)) (c_is_part : Cal P w K mg base "is_part" 2 3 F_is_part) : Cal P w K mg base "want_part" 3 4 F_want_part_77 :=
  ⟨⟨f, fd, ["clock", "thing", "name"], rfl, ok_want_part_77 F c_is_part, F.binds fun _ _ _ _ _ _ us hl => match us, hl with | [_, _, _], _ => rfl, g, F.kp⟩⟩
theorem cal_want_part_77_as {f : Addr} {fd : FuncData} (F : Fun K "want_part" "want_part" s_want_part_77 f fd) (g : mg "want_part_c_wants" = some (.ref f)) (c_is_part : Cal P w K mg base "is_part" 2 3 F_is_part) : Cal P w K mg base "want_part_c_wants" 3 4 F_want_part_77 :=
  ⟨⟨f, fd, ["clock", "thing", "name"], rfl, ok_want_part_77 F c_is_part, F.binds fun _ _ _ _ _ _ us hl => match us, hl with | [_, _, _], _ => rfl, g, F.kp⟩⟩
/-! ### _law_pieces -/
theorem sc_L_pieces : FnScope n_L_pieces ["_law_clock_here"] (defScope s_L_pieces) := ⟨rfl, rfl, rfl, by decide +kernel, rfl, by decide +kernel, by decide +kernel⟩
theorem ok_L_pieces {f : Addr} {fd : FuncData} (F : Fun K "_law_pieces" "_law_pieces" s_L_pieces f fd) (c_L_divisors : Cal P w K mg base "_law_divisors" 1 1 F_L_divisors) (c_L_units : Cal P w K mg base "_law_units" 1 1 F_L_units) (c_L_edge : Cal P w K mg base "_law_edge" 2 1 F_L_edge) : FnOk P w K mg base CX0 2 f fd ["_law_clock_here"] (spM F_L_pieces) :=
  qdef (k := 1) F sc_L_pieces fun cdv A outer s H E hr0 =>
      (show QSs _ _ b_L_pieces from (qs_cons (qs_set (i := 1) sc_L_pieces.nd qint)
      (qs_cons (qs_for PassesOwn.never rfl (qi_tup (q_ix (qv 0) qint)) (qg_name (i := 2) sc_L_pieces.nd) (qs_one (qs_set (i := 1) sc_L_pieces.nd (q_mul (qv 1) (q_ix (qv 2) qint)))))
      (qs_cons (qs_set (i := 3) sc_L_pieces.nd (q_lst qa_nil))
      (qs_cons (qs_for PassesOwn.never rfl (qi_lst (q_callN c_L_divisors (hr0.mono (by decide)) (qa_cons (q_ix (qv 0) qint) qa_nil))) (qg_name (i := 4) sc_L_pieces.nd) (qs_cons (qs_set (i := 5) sc_L_pieces.nd (q_callN c_L_edge (hr0.mono (by decide)) (qa_cons (qv 0) (qa_cons (qv 4) qa_nil))))
      (qs_one (qs_for PassesOwn.never rfl (qi_lst (q_callN c_L_divisors (hr0.mono (by decide)) (qa_cons (q_div (qv 1) (qv 5)) qa_nil))) (qg_name (i := 6) sc_L_pieces.nd) (qs_one (qs_drop (q_app (qv 3) (q_tup (qa_cons (qv 4) (qa_cons (qv 6) (qa_cons (qv 5) (qa_cons (q_div (q_mul (q_callN c_L_units (hr0.mono (by decide)) (qa_cons (qv 4) qa_nil)) (q_callN c_L_units (hr0.mono (by decide)) (qa_cons (qv 6) qa_nil))) (qv 5)) qa_nil))))))))))))
      (qs_one (qs_ret (qv 3))))))))
theorem cal_L_pieces {f : Addr} {fd : FuncData} (F : Fun K "_law_pieces" "_law_pieces" s_L_pieces f fd) (g : mg "_law_pieces" = some (.ref f)) (c_L_divisors : Cal P w K mg base "_law_divisors" 1 1 F_L_divisors) (c_L_units : Cal P w K mg base "_law_units" 1 1 F_L_units) (c_L_edge : Cal P w K mg base "_law_edge" 2 1 F_L_edge) : Cal P w K mg base "_law_pieces" 1 2 F_L_pieces :=
  ⟨⟨f, fd, ["_law_clock_here"], rfl, ok_L_pieces F c_L_divisors c_L_units c_L_edge, F.binds fun _ _ _ _ _ _ us hl => match us, hl with | [_], _ => rfl, g, F.kp⟩⟩
/-! ### _law_sevens -/
theorem sc_L_sevens : FnScope n_L_sevens ["_law_world_here", "_law_unit"] (defScope s_L_sevens) := ⟨rfl, rfl, rfl, by decide +kernel, rfl, by decide +kernel, by decide +kernel⟩
theorem ok_L_sevens {f : Addr} {fd : FuncData} (F : Fun K "_law_sevens" "_law_sevens" s_L_sevens f fd) (B : Bt mg) (c_L_on_turns : Cal P w K mg base "_law_on_turns" 3 1 F_L_on_turns) (c_L_times : Cal P w K mg base "_law_times" 3 1 F_L_times) : FnOk P w K mg base CX0 2 f fd ["_law_world_here", "_law_unit"] (spM F_L_sevens) :=
  qdef (k := 1) F sc_L_sevens fun cdv A outer s H E hr0 =>
      (show QSs _ _ b_L_sevens from (qs_cons (qs_set (i := 2) sc_L_sevens.nd (q_ix (q_ix (qv 0) qint) qint))
      (qs_cons (qs_set (i := 3) sc_L_sevens.nd (q_mul (q_div (qv 2) qint) (qv 1)))
      (qs_cons (qs_setLc (i := 4) (own := [("_law_k", 6)]) rfl sc_L_sevens.nd (sw_true rfl rfl rfl (by decide +kernel)) (show blkC n_L_sevens (defScope s_L_sevens) _ [("_law_k", 6)] = true by decide +kernel) (qi_rng1 B.range (qa_cons (qv 2) qa_nil)) (fun _ _ _ _ _ => (qgw_name (i := 6) sc_L_sevens.nd (by decide))) (fun _ _ _ _ _ => qts_nil) (fun _ _ _ _ _ => qint))
      (qs_cons (qs_setLc (i := 5) (own := [("_law_k", 6)]) rfl sc_L_sevens.nd (sw_true rfl rfl rfl (by decide +kernel)) (show blkC n_L_sevens (defScope s_L_sevens) _ [("_law_k", 6)] = true by decide +kernel) (qi_rng1 B.range (qa_cons (qv 2) qa_nil)) (fun _ _ _ _ _ => (qgw_name (i := 6) sc_L_sevens.nd (by decide))) (fun _ _ _ _ _ => qts_nil) (fun _ _ _ _ _ => qint))
      (qs_cons (qs_for PassesOwn.never rfl (qi_rng1 B.range (qa_cons qint qa_nil)) (qg_name (i := 6) sc_L_sevens.nd) (qs_cons (qs_asg (q_ix (q_tup (qa_cons qint (qa_cons qint (qa_cons qint (qa_cons (q_neg qint) (qa_cons (q_neg qint) (qa_cons (q_neg qint) (qa_cons qint qa_nil)))))))) (qv 6)) (qg_sub (qv 4) (q_mod (q_callTy call_int1 cb_int B.int (by decide +kernel) (qa_cons (q_mul (qv 3) (qv 6)) qa_nil)) (qv 2))))
      (qs_one (qs_asg (q_ix (q_tup (qa_cons qint (qa_cons qint (qa_cons (q_neg qint) (qa_cons qint (qa_cons qint (qa_cons qint (qa_cons qint qa_nil)))))))) (qv 6)) (qg_sub (qv 5) (q_mod (q_callTy call_int1 cb_int B.int (by decide +kernel) (qa_cons (q_mul (qv 3) (qv 6)) qa_nil)) (qv 2)))))))
      (qs_cons (qs_setLc (i := 7) (own := [("_law_k", 6)]) rfl sc_L_sevens.nd (sw_true rfl rfl rfl (by decide +kernel)) (show blkC n_L_sevens (defScope s_L_sevens) _ [("_law_k", 6)] = true by decide +kernel) (qi_lst (q_ix (qv 0) qint)) (fun _ _ _ _ _ => (qgw_name (i := 6) sc_L_sevens.nd (by decide))) (fun _ _ _ _ _ => qts_nil) (fun _ _ _ _ _ => qint))
      (qs_cons (qs_asg qint (qg_sub (qv 7) (q_mod (q_callTy call_int1 cb_int B.int (by decide +kernel) (qa_cons (q_mul qint (qv 3)) qa_nil)) (qv 2))))
      (qs_cons (qs_set (i := 8) sc_L_sevens.nd (q_callF c_L_times (hr0.mono (by decide)) (qa_cons (qv 0) (qa_cons (qv 7) (qa_cons (q_callF c_L_on_turns (hr0.mono (by decide)) (qa_cons (qv 0) (qa_cons qint (qa_cons (qv 4) qa_nil)))) qa_nil)))))
      (qs_cons (qs_set (i := 9) sc_L_sevens.nd (q_callF c_L_on_turns (hr0.mono (by decide)) (qa_cons (qv 0) (qa_cons qint (qa_cons (qv 5) qa_nil)))))
      (qs_one (qs_ret (q_comp (own := [("_law_k", 6)]) rfl sc_L_sevens.nd (show blkC n_L_sevens (defScope s_L_sevens) _ [("_law_k", 6)] = true by decide +kernel) (qi_rng1 B.range (qa_cons (q_callB call_len cb_len B.len (by decide +kernel) (qa_cons (qv 8) qa_nil)) qa_nil)) (fun _ _ _ _ _ => (qgw_name (i := 6) sc_L_sevens.nd (by decide))) (fun _ _ _ _ _ => qts_nil) (fun _ _ _ _ _ => (q_add (q_ix (qv 8) (qv 6)) (q_ix (qv 9) (qv 6)))))))))))))))))
theorem cal_L_sevens {f : Addr} {fd : FuncData} (F : Fun K "_law_sevens" "_law_sevens" s_L_sevens f fd) (g : mg "_law_sevens" = some (.ref f)) (B : Bt mg) (c_L_on_turns : Cal P w K mg base "_law_on_turns" 3 1 F_L_on_turns) (c_L_times : Cal P w K mg base "_law_times" 3 1 F_L_times) : Cal P w K mg base "_law_sevens" 2 2 F_L_sevens :=
  ⟨⟨f, fd, ["_law_world_here", "_law_unit"], rfl, ok_L_sevens F B c_L_on_turns c_L_times, F.binds fun _ _ _ _ _ _ us hl => match us, hl with | [_, _], _ => rfl, g, F.kp⟩⟩
/-! ### _law_of_parts -/
theorem sc_L_of_parts : FnScope n_L_of_parts ["_law_world_here", "_law_seat"] (defScope s_L_of_parts) := ⟨rfl, rfl, rfl, by decide +kernel, rfl, by decide +kernel, by decide +kernel⟩
theorem ok_L_of_parts {f : Addr} {fd : FuncData} (F : Fun K "_law_of_parts" "_law_of_parts" s_L_of_parts f fd) (B : Bt mg) (c_row_after : Cal P w K mg base "row_after" 2 7 F_row_after) (c_L_same : Cal P w K mg base "_law_same" 2 5 (F_L_same 5)) (c_parts_cover : Cal P w K mg base "parts_cover" 3 5 F_parts_cover) (c_L_level : Cal P w K mg base "_law_level" 1 1 F_L_level) (c_L_times : Cal P w K mg base "_law_times" 3 1 F_L_times) (c_L_divisors : Cal P w K mg base "_law_divisors" 1 1 F_L_divisors) (c_L_units : Cal P w K mg base "_law_units" 1 1 F_L_units) (c_L_part : Cal P w K mg base "_law_part" 2 2 F_L_part) : FnOk P w K mg base CX0 8 f fd ["_law_world_here", "_law_seat"] (spM F_L_of_parts) :=
  qdef (k := 7) F sc_L_of_parts fun cdv A outer s H E hr0 =>
      (show QSs _ _ b_L_of_parts from (qs_cons (qs_set (i := 2) sc_L_of_parts.nd (q_ix (qv 0) qint))
      (qs_cons (qs_set (i := 3) sc_L_of_parts.nd (q_callB call_len cb_len B.len (by decide +kernel) (qa_cons (q_ix (qv 0) qint) qa_nil)))
      (qs_cons (qs_asg (q_callF c_L_part (hr0.mono (by decide)) (qa_cons (qv 0) (qa_cons (qv 1) qa_nil))) (qg_tup rfl (qg_cons (qg_name (i := 4) sc_L_of_parts.nd) (qg_cons (qg_name (i := 5) sc_L_of_parts.nd) qg_nil))))
      (qs_cons (qs_asg (q_callF c_L_part (hr0.mono (by decide)) (qa_cons (qv 0) (qa_cons (qv 1) qa_nil))) (qg_tup rfl (qg_cons (qg_name (i := 6) sc_L_of_parts.nd) (qg_cons (qg_name (i := 7) sc_L_of_parts.nd) qg_nil))))
      (qs_cons (qs_set (i := 8) sc_L_of_parts.nd (q_tup (qa_cons (q_mul (q_ix (qv 4) qint) (q_ix (qv 4) qint)) (qa_cons (q_mul (q_ix (qv 6) qint) (q_ix (qv 6) qint)) qa_nil))))
      (qs_cons (qs_setLc (i := 9) (own := [("_law_q", 14)]) rfl sc_L_of_parts.nd (sw_true rfl rfl rfl (by decide +kernel)) (show blkC n_L_of_parts (defScope s_L_of_parts) _ [("_law_q", 14)] = true by decide +kernel) (qi_lst (q_callN c_L_divisors (hr0.mono (by decide)) (qa_cons (qv 3) qa_nil))) (fun _ _ _ _ _ => (qgw_name (i := 14) sc_L_of_parts.nd (by decide))) (fun _ _ _ _ _ => (qts_one (PW.pt (qw_and (qt_eq (q_callN c_L_units (hr0.mono (by decide)) (qa_cons (qv 14) qa_nil)) (q_sub (qv 14) qint)) (qw_and1 (qt_gt (qv 14) qint)))))) (fun _ _ _ _ _ => (qv 14)))
      (qs_cons (qs_setLc (i := 10) (own := [("_law_q", 14)]) rfl sc_L_of_parts.nd (sw_true rfl rfl rfl (by decide +kernel)) (show blkC n_L_of_parts (defScope s_L_of_parts) _ [("_law_q", 14)] = true by decide +kernel) (qi_lst (qv 9)) (fun _ _ _ _ _ => (qgw_name (i := 14) sc_L_of_parts.nd (by decide))) (fun _ _ _ _ _ => (qts_one (PW.pt (qw_and (qt_ne (q_mod (q_ix (qv 8) qint) (qv 14)) qint) (qw_and1 (qt_ne (q_mod (q_ix (qv 8) qint) (qv 14)) qint)))))) (fun _ _ _ _ _ => (qv 14)))
      (qs_cons (qs_set (i := 11) sc_L_of_parts.nd (q_eq (q_callB call_len cb_len B.len (by decide +kernel) (qa_cons (qv 10) qa_nil)) qint))
      (qs_cons (qs_set (i := 12) sc_L_of_parts.nd (q_callF c_L_times (hr0.mono (by decide)) (qa_cons (qv 0) (qa_cons (qv 5) (qa_cons (qv 7) qa_nil)))))
      (qs_cons (qs_if (PW.pt (qw_or (qt_ne (q_callB (cr_sumA rfl) cb_sumA B.sum (by decide +kernel) (qa_cons (qv 5) qa_nil)) (q_ix (qv 8) qint)) (qw_or (qt_ne (qv 11) (q_gt (q_callB (cr_min rfl) cb_min B.min (by decide +kernel) (qa_cons (qv 12) qa_nil)) qint)) (qw_or1 (qt_ne (qv 11) (q_callF c_L_level (hr0.mono (by decide)) (qa_cons (qv 12) qa_nil))))))) (qs_one (qs_ret qbl)) qs_nil)
      (qs_cons (qs_if (qt_not (qt (q_callN c_L_same (hr0.mono (by decide)) (qa_cons (q_callN c_parts_cover (hr0.mono (by decide)) (qa_cons (qv 2) (qa_cons (qv 4) (qa_cons (qv 6) qa_nil)))) (qa_cons (qv 11) qa_nil))))) (qs_one (qs_ret qbl)) qs_nil)
      (qs_cons (qs_set (i := 13) sc_L_of_parts.nd qnon)
      (qs_cons (qs_if (qt_eq (q_ix (qv 8) qint) (qv 3)) (qs_one (qs_set (i := 13) sc_L_of_parts.nd qint)) (qs_one (qs_if (qt (qv 11)) (qs_one (qs_set (i := 13) sc_L_of_parts.nd qint)) qs_nil)))
      (qs_one (qs_ret (q_callN c_L_same (hr0.mono (by decide)) (qa_cons (q_callN c_row_after (hr0.mono (by decide)) (qa_cons (qv 2) (qa_cons (q_tup (qa_cons (q_tup (qa_cons qint (qa_cons (qv 5) qa_nil))) (qa_cons (q_tup (qa_cons qint (qa_cons (qv 7) qa_nil))) qa_nil))) qa_nil))) (qa_cons (qv 13) qa_nil)))))))))))))))))))
theorem cal_L_of_parts {f : Addr} {fd : FuncData} (F : Fun K "_law_of_parts" "_law_of_parts" s_L_of_parts f fd) (g : mg "_law_of_parts" = some (.ref f)) (B : Bt mg) (c_row_after : Cal P w K mg base "row_after" 2 7 F_row_after) (c_L_same : Cal P w K mg base "_law_same" 2 5 (F_L_same 5)) (c_parts_cover : Cal P w K mg base "parts_cover" 3 5 F_parts_cover) (c_L_level : Cal P w K mg base "_law_level" 1 1 F_L_level) (c_L_times : Cal P w K mg base "_law_times" 3 1 F_L_times) (c_L_divisors : Cal P w K mg base "_law_divisors" 1 1 F_L_divisors) (c_L_units : Cal P w K mg base "_law_units" 1 1 F_L_units) (c_L_part : Cal P w K mg base "_law_part" 2 2 F_L_part) : Cal P w K mg base "_law_of_parts" 2 8 F_L_of_parts :=
  ⟨⟨f, fd, ["_law_world_here", "_law_seat"], rfl, ok_L_of_parts F B c_row_after c_L_same c_parts_cover c_L_level c_L_times c_L_divisors c_L_units c_L_part, F.binds fun _ _ _ _ _ _ us hl => match us, hl with | [_, _], _ => rfl, g, F.kp⟩⟩
end
end Mir
/-! ## WP5 -/
set_option Elab.async false
set_option linter.all false
set_option maxRecDepth 100000
set_option maxHeartbeats 4000000
namespace Mir
open PySem PySem.Spec PyProof.Rows L2
section
variable {P : Program} {w : World} {K : PySem.W.Frag} {mg : Str → Option Value} {base : Heap}

/-! ### factor_of -/
theorem sc_factor_of : FnScope n_factor_of ["clock", "turn"] (defScope s_factor_of) := ⟨rfl, rfl, rfl, by decide +kernel, rfl, by decide +kernel, by decide +kernel⟩
theorem ok_factor_of {f : Addr} {fd : FuncData} (F : Fun K "factor_of" "factor_of" s_factor_of f fd) (B : Bt mg)  : FnOk P w K mg base CX0 1 f fd ["clock", "turn"] (spM F_factor_of) :=
  qdef (k := 0) F sc_factor_of fun cdv A outer s H E hr0 =>
      (show QSs _ _ b_factor_of from (qs_cons (qs_asg (qv 0) (qg_tup rfl (qg_cons (qg_name (i := 2) sc_factor_of.nd) (qg_cons (qg_name (i := 3) sc_factor_of.nd) qg_nil))))
      (qs_cons (qs_set (i := 4) sc_factor_of.nd (q_mod qint (qv 2)))
      (qs_cons (qs_for PassesOwn.never rfl (qi_tup (qv 3)) (qg_tup rfl (qg_cons (qg_name (i := 5) sc_factor_of.nd) (qg_cons (qg_name (i := 6) sc_factor_of.nd) qg_nil))) (qs_one (qs_for PassesOwn.never rfl (qi_rng1 B.range (qa_cons (q_mod (qv 1) (qv 5)) qa_nil)) (qg_name (i := 7) sc_factor_of.nd) (qs_one (qs_set (i := 4) sc_factor_of.nd (q_mod (q_mul (qv 4) (qv 6)) (qv 2)))))))
      (qs_one (qs_ret (qv 4)))))))
theorem cal_factor_of {f : Addr} {fd : FuncData} (F : Fun K "factor_of" "factor_of" s_factor_of f fd) (g : mg "factor_of" = some (.ref f)) (B : Bt mg)  : Cal P w K mg base "factor_of" 2 1 F_factor_of :=
  ⟨⟨f, fd, ["clock", "turn"], rfl, ok_factor_of F B , F.binds fun _ _ _ _ _ _ us hl => match us, hl with | [_, _], _ => rfl, g, F.kp⟩⟩
/-! ### divides -/
theorem sc_divides : FnScope n_divides ["thing", "number"] (defScope s_divides) := ⟨rfl, rfl, rfl, by decide +kernel, rfl, by decide +kernel, by decide +kernel⟩
theorem ok_divides {f : Addr} {fd : FuncData} (F : Fun K "divides" "divides" s_divides f fd) (c_whole : Cal P w K mg base "whole" 1 1 F_whole) : FnOk P w K mg base CX0 2 f fd ["thing", "number"] (spM F_divides) :=
  qdef (k := 1) F sc_divides fun cdv A outer s H E hr0 =>
      (show QSs _ _ b_divides from (qs_one (qs_ret (q_and (q_callN c_whole (hr0.mono (by decide)) (qa_cons (qv 0) qa_nil)) (q_and (q_ge (qv 0) qint) (q_one (q_eq (q_mod (qv 1) (qv 0)) qint)))))))
theorem cal_divides {f : Addr} {fd : FuncData} (F : Fun K "divides" "divides" s_divides f fd) (g : mg "divides" = some (.ref f)) (c_whole : Cal P w K mg base "whole" 1 1 F_whole) : Cal P w K mg base "divides" 2 2 F_divides :=
  ⟨⟨f, fd, ["thing", "number"], rfl, ok_divides F c_whole, F.binds fun _ _ _ _ _ _ us hl => match us, hl with | [_, _], _ => rfl, g, F.kp⟩⟩
/-! ### part_size -/
theorem sc_part_size : FnScope n_part_size ["clock", "part"] (defScope s_part_size) := ⟨rfl, rfl, rfl, by decide +kernel, rfl, by decide +kernel, by decide +kernel⟩
theorem ok_part_size {f : Addr} {fd : FuncData} (F : Fun K "part_size" "part_size" s_part_size f fd) (c_is_part : Cal P w K mg base "is_part" 2 3 F_is_part) (c_usable : Cal P w K mg base "usable" 2 1 F_usable) : FnOk P w K mg base CX0 4 f fd ["clock", "part"] (spM F_part_size) :=
  qdef (k := 3) F sc_part_size fun cdv A outer s H E hr0 =>
      (show QSs _ _ b_part_size from (qs_cons (qs_drop (q_callN c_usable (hr0.mono (by decide)) (qa_cons (q_callN c_is_part (hr0.mono (by decide)) (qa_cons (qv 0) (qa_cons (qv 1) qa_nil))) (qa_cons qstr qa_nil))))
      (qs_one (qs_ret (q_mul (q_ix (qv 1) qint) (q_ix (qv 1) qint))))))
theorem cal_part_size {f : Addr} {fd : FuncData} (F : Fun K "part_size" "part_size" s_part_size f fd) (g : mg "part_size" = some (.ref f)) (c_is_part : Cal P w K mg base "is_part" 2 3 F_is_part) (c_usable : Cal P w K mg base "usable" 2 1 F_usable) : Cal P w K mg base "part_size" 2 4 F_part_size :=
  ⟨⟨f, fd, ["clock", "part"], rfl, ok_part_size F c_is_part c_usable, F.binds fun _ _ _ _ _ _ us hl => match us, hl with | [_, _], _ => rfl, g, F.kp⟩⟩
/-! ### number_of -/
theorem sc_number_of : FnScope n_number_of ["clock", "move"] (defScope s_number_of) := ⟨rfl, rfl, rfl, by decide +kernel, rfl, by decide +kernel, by decide +kernel⟩
theorem ok_number_of {f : Addr} {fd : FuncData} (F : Fun K "number_of" "number_of" s_number_of f fd) (c_is_move : Cal P w K mg base "is_move" 2 3 F_is_move) (c_usable : Cal P w K mg base "usable" 2 1 F_usable) : FnOk P w K mg base CX0 4 f fd ["clock", "move"] (spM F_number_of) :=
  qdef (k := 3) F sc_number_of fun cdv A outer s H E hr0 =>
      (show QSs _ _ b_number_of from (qs_cons (qs_drop (q_callN c_usable (hr0.mono (by decide)) (qa_cons (q_callN c_is_move (hr0.mono (by decide)) (qa_cons (qv 0) (qa_cons (qv 1) qa_nil))) (qa_cons qstr qa_nil))))
      (qs_one (qs_ret (q_add (q_mul (q_ix (qv 1) qint) (q_ix (qv 0) qint)) (q_ix (qv 1) qint))))))
theorem cal_number_of {f : Addr} {fd : FuncData} (F : Fun K "number_of" "number_of" s_number_of f fd) (g : mg "number_of" = some (.ref f)) (c_is_move : Cal P w K mg base "is_move" 2 3 F_is_move) (c_usable : Cal P w K mg base "usable" 2 1 F_usable) : Cal P w K mg base "number_of" 2 4 F_number_of :=
  ⟨⟨f, fd, ["clock", "move"], rfl, ok_number_of F c_is_move c_usable, F.binds fun _ _ _ _ _ _ us hl => match us, hl with | [_, _], _ => rfl, g, F.kp⟩⟩
/-! ### folded_move -/
theorem sc_folded_move : FnScope n_folded_move ["clock", "part", "move"] (defScope s_folded_move) := ⟨rfl, rfl, rfl, by decide +kernel, rfl, by decide +kernel, by decide +kernel⟩
theorem ok_folded_move {f : Addr} {fd : FuncData} (F : Fun K "folded_move" "folded_move" s_folded_move f fd) (c_turns_in : Cal P w K mg base "turns_in" 1 1 F_turns_in) (c_is_move : Cal P w K mg base "is_move" 2 3 F_is_move) (c_usable : Cal P w K mg base "usable" 2 1 F_usable) (c_usable_part : Cal P w K mg base "usable_part" 2 4 F_usable_part) : FnOk P w K mg base CX0 5 f fd ["clock", "part", "move"] (spM F_folded_move) :=
  qdef (k := 4) F sc_folded_move fun cdv A outer s H E hr0 =>
      (show QSs _ _ b_folded_move from (qs_cons (qs_drop (q_callN c_usable_part (hr0.mono (by decide)) (qa_cons (qv 0) (qa_cons (qv 1) qa_nil))))
      (qs_cons (qs_drop (q_callN c_usable (hr0.mono (by decide)) (qa_cons (q_callN c_is_move (hr0.mono (by decide)) (qa_cons (qv 0) (qa_cons (qv 2) qa_nil))) (qa_cons qstr qa_nil))))
      (qs_one (qs_ret (q_tup (qa_cons (q_mod (q_ix (qv 2) qint) (q_div (q_ix (qv 0) qint) (q_ix (qv 1) qint))) (qa_cons (q_mod (q_ix (qv 2) qint) (q_div (q_callN c_turns_in (hr0.mono (by decide)) (qa_cons (qv 0) qa_nil)) (q_ix (qv 1) qint))) qa_nil))))))))
theorem cal_folded_move {f : Addr} {fd : FuncData} (F : Fun K "folded_move" "folded_move" s_folded_move f fd) (g : mg "folded_move" = some (.ref f)) (c_turns_in : Cal P w K mg base "turns_in" 1 1 F_turns_in) (c_is_move : Cal P w K mg base "is_move" 2 3 F_is_move) (c_usable : Cal P w K mg base "usable" 2 1 F_usable) (c_usable_part : Cal P w K mg base "usable_part" 2 4 F_usable_part) : Cal P w K mg base "folded_move" 3 5 F_folded_move :=
  ⟨⟨f, fd, ["clock", "part", "move"], rfl, ok_folded_move F c_turns_in c_is_move c_usable c_usable_part, F.binds fun _ _ _ _ _ _ us hl => match us, hl with | [_, _, _], _ => rfl, g, F.kp⟩⟩
/-! ### is_moved -/
theorem sc_is_moved : FnScope n_is_moved ["clock", "prime"] (defScope s_is_moved) := ⟨rfl, rfl, rfl, by decide +kernel, rfl, by decide +kernel, by decide +kernel⟩
theorem ok_is_moved {f : Addr} {fd : FuncData} (F : Fun K "is_moved" "is_moved" s_is_moved f fd) (c_does_move : Cal P w K mg base "does_move" 3 2 F_does_move) : FnOk P w K mg base CX0 3 f fd ["clock", "prime"] (spM F_is_moved) :=
  qdef (k := 2) F sc_is_moved fun cdv A outer s H E hr0 =>
      (show QSs _ _ b_is_moved from (qs_cons (qs_for PassesOwn.never rfl (qi_tup (q_ix (qv 0) qint)) (qg_tup rfl (qg_cons (qg_name (i := 2) sc_is_moved.nd) (qg_cons (qg_name (i := 3) sc_is_moved.nd) qg_nil))) (qs_one (qs_if (qt (q_callN c_does_move (hr0.mono (by decide)) (qa_cons (qv 0) (qa_cons (qv 2) (qa_cons (qv 1) qa_nil))))) (qs_one (qs_ret qbl)) qs_nil)))
      (qs_one (qs_ret qbl))))
theorem cal_is_moved {f : Addr} {fd : FuncData} (F : Fun K "is_moved" "is_moved" s_is_moved f fd) (g : mg "is_moved" = some (.ref f)) (c_does_move : Cal P w K mg base "does_move" 3 2 F_does_move) : Cal P w K mg base "is_moved" 2 3 F_is_moved :=
  ⟨⟨f, fd, ["clock", "prime"], rfl, ok_is_moved F c_does_move, F.binds fun _ _ _ _ _ _ us hl => match us, hl with | [_, _], _ => rfl, g, F.kp⟩⟩
/-! ### parts_cover -/
theorem sc_parts_cover : FnScope n_parts_cover ["clock", "one", "other"] (defScope s_parts_cover) := ⟨rfl, rfl, rfl, by decide +kernel, rfl, by decide +kernel, by decide +kernel⟩
theorem ok_parts_cover {f : Addr} {fd : FuncData} (F : Fun K "parts_cover" "parts_cover" s_parts_cover f fd) (c_moves_many : Cal P w K mg base "moves_many" 1 2 F_moves_many) (c_primes_of : Cal P w K mg base "primes_of" 1 3 F_primes_of) (c_part_size : Cal P w K mg base "part_size" 2 4 F_part_size) (c_want_part_77_as : Cal P w K mg base "want_part_c_wants" 3 4 F_want_part_77) : FnOk P w K mg base CX0 5 f fd ["clock", "one", "other"] (spM F_parts_cover) :=
  qdef (k := 4) F sc_parts_cover fun cdv A outer s H E hr0 =>
      (show QSs _ _ b_parts_cover from (qs_cons (qs_drop (q_callN c_want_part_77_as (hr0.mono (by decide)) (qa_cons (qv 0) (qa_cons (qv 1) (qa_cons qstr qa_nil)))))
      (qs_cons (qs_drop (q_callN c_want_part_77_as (hr0.mono (by decide)) (qa_cons (qv 0) (qa_cons (qv 2) (qa_cons qstr qa_nil)))))
      (qs_cons (qs_par (i := 3) (j := 4) rfl sc_parts_cover.nd (q_callN c_part_size (hr0.mono (by decide)) (qa_cons (qv 0) (qa_cons (qv 1) qa_nil))) (q_callN c_part_size (hr0.mono (by decide)) (qa_cons (qv 0) (qa_cons (qv 2) qa_nil))) (by rfl) (by decide))
      (qs_cons (qs_for PassesOwn.never rfl (qi_tup (q_callN c_primes_of (hr0.mono (by decide)) (qa_cons (q_callN c_moves_many (hr0.mono (by decide)) (qa_cons (qv 0) qa_nil)) qa_nil))) (qg_name (i := 5) sc_parts_cover.nd) (qs_one (qs_if (PW.pt (qw_and (qt_ne (q_mod (qv 3) (qv 5)) qint) (qw_and1 (qt_ne (q_mod (qv 4) (qv 5)) qint)))) (qs_one (qs_ret qbl)) qs_nil)))
      (qs_one (qs_ret qbl)))))))
theorem cal_parts_cover {f : Addr} {fd : FuncData} (F : Fun K "parts_cover" "parts_cover" s_parts_cover f fd) (g : mg "parts_cover" = some (.ref f)) (c_moves_many : Cal P w K mg base "moves_many" 1 2 F_moves_many) (c_primes_of : Cal P w K mg base "primes_of" 1 3 F_primes_of) (c_part_size : Cal P w K mg base "part_size" 2 4 F_part_size) (c_want_part_77_as : Cal P w K mg base "want_part_c_wants" 3 4 F_want_part_77) : Cal P w K mg base "parts_cover" 3 5 F_parts_cover :=
  ⟨⟨f, fd, ["clock", "one", "other"], rfl, ok_parts_cover F c_moves_many c_primes_of c_part_size c_want_part_77_as, F.binds fun _ _ _ _ _ _ us hl => match us, hl with | [_, _, _], _ => rfl, g, F.kp⟩⟩
/-! ### _law_world -/
theorem sc_L_world : FnScope n_L_world ["_law_clock_here"] (defScope s_L_world) := ⟨rfl, rfl, rfl, by decide +kernel, rfl, by decide +kernel, by decide +kernel⟩
theorem ok_L_world {f : Addr} {fd : FuncData} (F : Fun K "_law_world" "_law_world" s_L_world f fd) (B : Bt mg) (c_L_pieces : Cal P w K mg base "_law_pieces" 1 2 F_L_pieces) : FnOk P w K mg base CX0 3 f fd ["_law_clock_here"] (spM F_L_world) :=
  qdef (k := 2) F sc_L_world fun cdv A outer s H E hr0 =>
      (show QSs _ _ b_L_world from (qs_cons (qs_set (i := 1) sc_L_world.nd (q_ix (qv 0) qint))
      (qs_cons (qs_set (i := 2) sc_L_world.nd qint)
      (qs_cons (qs_set (i := 3) sc_L_world.nd qint)
      (qs_cons (qs_for PassesOwn.never rfl (qi_tup (q_ix (qv 0) qint)) (qg_name (i := 4) sc_L_world.nd) (qs_cons (qs_set (i := 2) sc_L_world.nd (q_mul (qv 2) (q_ix (qv 4) qint)))
      (qs_one (qs_set (i := 3) sc_L_world.nd (q_mul (qv 3) (q_ix (qv 4) qint))))))
      (qs_cons (qs_set (i := 5) sc_L_world.nd (q_lst (qa_cons (q_mod qint (qv 1)) qa_nil)))
      (qs_cons (qs_for PassesOwn.never rfl (qi_rng1 B.range (qa_cons (q_sub (qv 2) qint) qa_nil)) (qg_name (i := 6) sc_L_world.nd) (qs_one (qs_drop (q_app (qv 5) (q_mod (q_callTy call_int1 cb_int B.int (by decide +kernel) (qa_cons (q_mul (q_ix (qv 5) (qv 6)) (qv 3)) qa_nil)) (qv 1))))))
      (qs_cons (qs_set (i := 7) sc_L_world.nd (q_lst qa_nil))
      (qs_cons (qs_for PassesOwn.never rfl (qi_rng1 B.range (qa_cons (q_mul (qv 1) (qv 2)) qa_nil)) (qg_name (i := 8) sc_L_world.nd) (qs_cons (qs_set (i := 9) sc_L_world.nd (q_lst qa_nil))
      (qs_cons (qs_for PassesOwn.never rfl (qi_rng1 B.range (qa_cons (q_mul (qv 1) (qv 2)) qa_nil)) (qg_name (i := 10) sc_L_world.nd) (qs_cons (qs_set (i := 11) sc_L_world.nd (q_mod (q_callTy call_int1 cb_int B.int (by decide +kernel) (qa_cons (q_add (q_mul (q_ix (qv 5) (q_div (qv 10) (qv 1))) (q_mod (qv 8) (qv 1))) (qv 10)) qa_nil)) (qv 1)))
      (qs_one (qs_drop (q_app (qv 9) (q_add (q_mul (q_mod (q_callTy call_int1 cb_int B.int (by decide +kernel) (qa_cons (q_add (q_div (qv 8) (qv 1)) (q_div (qv 10) (qv 1))) qa_nil)) (qv 2)) (qv 1)) (qv 11)))))))
      (qs_one (qs_drop (q_app (qv 7) (qv 9)))))))
      (qs_one (qs_ret (q_tup (qa_cons (qv 0) (qa_cons (qv 7) (qa_cons (qv 5) (qa_cons (q_callN c_L_pieces (hr0.mono (by decide)) (qa_cons (qv 0) qa_nil)) qa_nil))))))))))))))))
theorem cal_L_world {f : Addr} {fd : FuncData} (F : Fun K "_law_world" "_law_world" s_L_world f fd) (g : mg "_law_world" = some (.ref f)) (B : Bt mg) (c_L_pieces : Cal P w K mg base "_law_pieces" 1 2 F_L_pieces) : Cal P w K mg base "_law_world" 1 3 F_L_world :=
  ⟨⟨f, fd, ["_law_clock_here"], rfl, ok_L_world F B c_L_pieces, F.binds fun _ _ _ _ _ _ us hl => match us, hl with | [_], _ => rfl, g, F.kp⟩⟩
/-! ### _law_clock -/
theorem sc_L_clock : FnScope n_L_clock ["_law_seat"] (defScope s_L_clock) := ⟨rfl, rfl, rfl, by decide +kernel, rfl, by decide +kernel, by decide +kernel⟩
theorem ok_L_clock {f : Addr} {fd : FuncData} (F : Fun K "_law_clock" "_law_clock" s_L_clock f fd) (B : Bt mg) (c_L_next : Cal P w K mg base "_law_next" 2 1 F_L_next) : FnOk P w K mg base CX0 2 f fd ["_law_seat"] (spM F_L_clock) :=
  qdef (k := 1) F sc_L_clock fun cdv A outer s H E hr0 =>
      (show QSs _ _ b_L_clock from (qs_cons (qs_set (i := 1) sc_L_clock.nd (q_lst (qa_cons (q_tup (qa_cons qint (qa_cons (q_tup (qa_cons (q_tup (qa_cons qint (qa_cons qint qa_nil))) qa_nil)) qa_nil))) (qa_cons (q_tup (qa_cons qint (qa_cons (q_tup (qa_cons (q_tup (qa_cons qint (qa_cons qint qa_nil))) qa_nil)) qa_nil))) (qa_cons (q_tup (qa_cons qint (qa_cons (q_tup (qa_cons (q_tup (qa_cons qint (qa_cons qint qa_nil))) qa_nil)) qa_nil))) (qa_cons (q_tup (qa_cons qint (qa_cons (q_tup (qa_cons (q_tup (qa_cons qint (qa_cons qint qa_nil))) qa_nil)) qa_nil))) (qa_cons (q_tup (qa_cons qint (qa_cons (q_tup (qa_cons (q_tup (qa_cons qint (qa_cons qint qa_nil))) qa_nil)) qa_nil))) (qa_cons (q_tup (qa_cons qint (qa_cons (q_tup (qa_cons (q_tup (qa_cons qint (qa_cons qint qa_nil))) qa_nil)) qa_nil))) (qa_cons (q_tup (qa_cons qint (qa_cons (q_tup (qa_cons (q_tup (qa_cons qint (qa_cons qint qa_nil))) qa_nil)) qa_nil))) (qa_cons (q_tup (qa_cons qint (qa_cons (q_tup qa_nil) qa_nil))) (qa_cons (q_tup (qa_cons qint (qa_cons (q_tup (qa_cons (q_tup (qa_cons qint (qa_cons qint qa_nil))) qa_nil)) qa_nil))) (qa_cons (q_tup (qa_cons qint (qa_cons (q_tup (qa_cons (q_tup (qa_cons qint (qa_cons qint qa_nil))) qa_nil)) qa_nil))) (qa_cons (q_tup (qa_cons qint (qa_cons (q_tup (qa_cons (q_tup (qa_cons qint (qa_cons qint qa_nil))) (qa_cons (q_tup (qa_cons qint (qa_cons qint qa_nil))) qa_nil))) qa_nil))) (qa_cons (q_tup (qa_cons qint (qa_cons (q_tup qa_nil) qa_nil))) qa_nil))))))))))))))
      (qs_cons (qs_set (i := 2) sc_L_clock.nd (q_lst (qa_cons (q_tup (qa_cons qint (qa_cons (q_tup (qa_cons (q_tup (qa_cons qint (qa_cons qint qa_nil))) (qa_cons (q_tup (qa_cons qint (qa_cons qint qa_nil))) qa_nil))) qa_nil))) (qa_cons (q_tup (qa_cons qint (qa_cons (q_tup (qa_cons (q_tup (qa_cons qint (qa_cons qint qa_nil))) qa_nil)) qa_nil))) (qa_cons (q_tup (qa_cons qint (qa_cons (q_tup (qa_cons (q_tup (qa_cons qint (qa_cons qint qa_nil))) qa_nil)) qa_nil))) (qa_cons (q_tup (qa_cons qint (qa_cons (q_tup (qa_cons (q_tup (qa_cons qint (qa_cons qint qa_nil))) qa_nil)) qa_nil))) (qa_cons (q_tup (qa_cons qint (qa_cons (q_tup (qa_cons (q_tup (qa_cons qint (qa_cons qint qa_nil))) (qa_cons (q_tup (qa_cons qint (qa_cons qint qa_nil))) qa_nil))) qa_nil))) (qa_cons (q_tup (qa_cons qint (qa_cons (q_tup (qa_cons (q_tup (qa_cons qint (qa_cons qint qa_nil))) qa_nil)) qa_nil))) (qa_cons (q_tup (qa_cons qint (qa_cons (q_tup (qa_cons (q_tup (qa_cons qint (qa_cons qint qa_nil))) qa_nil)) qa_nil))) (qa_cons (q_tup (qa_cons qint (qa_cons (q_tup (qa_cons (q_tup (qa_cons qint (qa_cons qint qa_nil))) qa_nil)) qa_nil))) qa_nil))))))))))
      (qs_cons (qs_set (i := 3) sc_L_clock.nd (q_callM c_L_next (hr0.mono (by decide)) (qa_cons (qv 0) (qa_cons qint qa_nil))))
      (qs_cons (qs_if (qt_lt (qv 3) qint) (qs_one (qs_ret (q_ix (qv 1) (q_mod (q_callTy call_int1 cb_int B.int (by decide +kernel) (qa_cons (qv 3) qa_nil)) qint)))) qs_nil)
      (qs_one (qs_ret (q_ix (qv 2) (q_mod (q_callTy call_int1 cb_int B.int (by decide +kernel) (qa_cons (q_add (q_sub (qv 3) qint) (q_mul qint (q_callM c_L_next (hr0.mono (by decide)) (qa_cons (qv 0) (qa_cons qint qa_nil))))) qa_nil)) qint)))))))))
theorem cal_L_clock {f : Addr} {fd : FuncData} (F : Fun K "_law_clock" "_law_clock" s_L_clock f fd) (g : mg "_law_clock" = some (.ref f)) (B : Bt mg) (c_L_next : Cal P w K mg base "_law_next" 2 1 F_L_next) : Cal P w K mg base "_law_clock" 1 2 F_L_clock :=
  ⟨⟨f, fd, ["_law_seat"], rfl, ok_L_clock F B c_L_next, F.binds fun _ _ _ _ _ _ us hl => match us, hl with | [_], _ => rfl, g, F.kp⟩⟩
end
end Mir
/-! ## WP6 -/
set_option Elab.async false
set_option linter.all false
set_option maxRecDepth 100000
set_option maxHeartbeats 4000000
namespace Mir
open PySem PySem.Spec PyProof.Rows L2
section
variable {P : Program} {w : World} {K : PySem.W.Frag} {mg : Str → Option Value} {base : Heap}

/-! ### moves_in -/
theorem sc_moves_in : FnScope n_moves_in ["clock"] (defScope s_moves_in) := ⟨rfl, rfl, rfl, by decide +kernel, rfl, by decide +kernel, by decide +kernel⟩
theorem ok_moves_in {f : Addr} {fd : FuncData} (F : Fun K "moves_in" "moves_in" s_moves_in f fd) (B : Bt mg) (c_turns_in : Cal P w K mg base "turns_in" 1 1 F_turns_in) : FnOk P w K mg base CX0 2 f fd ["clock"] (spM F_moves_in) :=
  qdef (k := 1) F sc_moves_in fun cdv A outer s H E hr0 =>
      (show QSs _ _ b_moves_in from (qs_one (qs_ret (q_comp2 (own := [("turn", 1), ("shift", 2)]) (vs1 := [2]) rfl sc_moves_in.nd (show blkC n_moves_in (defScope s_moves_in) _ [("turn", 1), ("shift", 2)] = true by decide +kernel) (by decide) (qi_rng1 B.range (qa_cons (q_callN c_turns_in (hr0.mono (by decide)) (qa_cons (qv 0) qa_nil)) qa_nil)) (fun _ _ _ _ _ => (qgw_name (i := 1) sc_moves_in.nd (by decide))) (fun _ _ _ _ _ => (qi_rng1 B.range (qa_cons (q_ix (qv 0) qint) qa_nil))) (fun _ _ _ _ _ => (qgw_name (i := 2) sc_moves_in.nd (by decide))) (fun _ _ _ _ _ => (q_tup (qa_cons (qv 2) (qa_cons (qv 1) qa_nil))))))))
theorem cal_moves_in {f : Addr} {fd : FuncData} (F : Fun K "moves_in" "moves_in" s_moves_in f fd) (g : mg "moves_in" = some (.ref f)) (B : Bt mg) (c_turns_in : Cal P w K mg base "turns_in" 1 1 F_turns_in) : Cal P w K mg base "moves_in" 1 2 F_moves_in :=
  ⟨⟨f, fd, ["clock"], rfl, ok_moves_in F B c_turns_in, F.binds fun _ _ _ _ _ _ us hl => match us, hl with | [_], _ => rfl, g, F.kp⟩⟩
/-! ### is_part -/
theorem sc_is_part : FnScope n_is_part ["clock", "thing"] (defScope s_is_part) := ⟨rfl, rfl, rfl, by decide +kernel, rfl, by decide +kernel, by decide +kernel⟩
theorem ok_is_part {f : Addr} {fd : FuncData} (F : Fun K "is_part" "is_part" s_is_part f fd) (B : Bt mg) (c_spots_in : Cal P w K mg base "spots_in" 3 2 F_spots_in) (c_is_number : Cal P w K mg base "is_number" 1 2 F_is_number) (c_turns_in : Cal P w K mg base "turns_in" 1 1 F_turns_in) (c_divides : Cal P w K mg base "divides" 2 2 F_divides) : FnOk P w K mg base CX0 3 f fd ["clock", "thing"] (spM F_is_part) :=
  qdef (k := 2) F sc_is_part fun cdv A outer s H E hr0 =>
      (show QSs _ _ b_is_part from (qs_cons (qs_if (PW.pt (qw_or (qt_not (qt (q_isi .tuple B.isinstance B.tuple (by decide +kernel) (qv 1)))) (qw_or1 (qt_ne (q_callB call_len cb_len B.len (by decide +kernel) (qa_cons (qv 1) qa_nil)) qint)))) (qs_one (qs_ret qbl)) qs_nil)
      (qs_cons (qs_asg (qv 1) (qg_tup rfl (qg_cons (qg_name (i := 2) sc_is_part.nd) (qg_cons (qg_name (i := 3) sc_is_part.nd) (qg_cons (qg_name (i := 4) sc_is_part.nd) qg_nil)))))
      (qs_cons (qs_if (PW.pt (qw_or (qt_not (qt (q_callN c_divides (hr0.mono (by decide)) (qa_cons (qv 2) (qa_cons (q_ix (qv 0) qint) qa_nil))))) (qw_or1 (qt_not (qt (q_callN c_divides (hr0.mono (by decide)) (qa_cons (qv 3) (qa_cons (q_callN c_turns_in (hr0.mono (by decide)) (qa_cons (qv 0) qa_nil)) qa_nil)))))))) (qs_one (qs_ret qbl)) qs_nil)
      (qs_one (qs_ret (q_and (q_callN c_is_number (hr0.mono (by decide)) (qa_cons (qv 4) qa_nil)) (q_one (q_lt (qv 4) (q_callN c_spots_in (hr0.mono (by decide)) (qa_cons (qv 0) (qa_cons (qv 2) (qa_cons (qv 3) qa_nil)))))))))))))
theorem cal_is_part {f : Addr} {fd : FuncData} (F : Fun K "is_part" "is_part" s_is_part f fd) (g : mg "is_part" = some (.ref f)) (B : Bt mg) (c_spots_in : Cal P w K mg base "spots_in" 3 2 F_spots_in) (c_is_number : Cal P w K mg base "is_number" 1 2 F_is_number) (c_turns_in : Cal P w K mg base "turns_in" 1 1 F_turns_in) (c_divides : Cal P w K mg base "divides" 2 2 F_divides) : Cal P w K mg base "is_part" 2 3 F_is_part :=
  ⟨⟨f, fd, ["clock", "thing"], rfl, ok_is_part F B c_spots_in c_is_number c_turns_in c_divides, F.binds fun _ _ _ _ _ _ us hl => match us, hl with | [_, _], _ => rfl, g, F.kp⟩⟩
/-! ### is_kept -/
theorem sc_is_kept : FnScope n_is_kept ["clock", "part"] (defScope s_is_kept) := ⟨rfl, rfl, rfl, by decide +kernel, rfl, by decide +kernel, by decide +kernel⟩
theorem ok_is_kept {f : Addr} {fd : FuncData} (F : Fun K "is_kept" "is_kept" s_is_kept f fd) (c_spots_in : Cal P w K mg base "spots_in" 3 2 F_spots_in) (c_is_part : Cal P w K mg base "is_part" 2 3 F_is_part) (c_usable : Cal P w K mg base "usable" 2 1 F_usable) : FnOk P w K mg base CX0 4 f fd ["clock", "part"] (spM F_is_kept) :=
  qdef (k := 3) F sc_is_kept fun cdv A outer s H E hr0 =>
      (show QSs _ _ b_is_kept from (qs_cons (qs_drop (q_callN c_usable (hr0.mono (by decide)) (qa_cons (q_callN c_is_part (hr0.mono (by decide)) (qa_cons (qv 0) (qa_cons (qv 1) qa_nil))) (qa_cons qstr qa_nil))))
      (qs_one (qs_ret (q_eq (q_callN c_spots_in (hr0.mono (by decide)) (qa_cons (qv 0) (qa_cons (q_ix (qv 1) qint) (qa_cons (q_ix (qv 1) qint) qa_nil)))) qint)))))
theorem cal_is_kept {f : Addr} {fd : FuncData} (F : Fun K "is_kept" "is_kept" s_is_kept f fd) (g : mg "is_kept" = some (.ref f)) (c_spots_in : Cal P w K mg base "spots_in" 3 2 F_spots_in) (c_is_part : Cal P w K mg base "is_part" 2 3 F_is_part) (c_usable : Cal P w K mg base "usable" 2 1 F_usable) : Cal P w K mg base "is_kept" 2 4 F_is_kept :=
  ⟨⟨f, fd, ["clock", "part"], rfl, ok_is_kept F c_spots_in c_is_part c_usable, F.binds fun _ _ _ _ _ _ us hl => match us, hl with | [_, _], _ => rfl, g, F.kp⟩⟩
/-! ### move_at -/
theorem sc_move_at : FnScope n_move_at ["clock", "number"] (defScope s_move_at) := ⟨rfl, rfl, rfl, by decide +kernel, rfl, by decide +kernel, by decide +kernel⟩
theorem ok_move_at {f : Addr} {fd : FuncData} (F : Fun K "move_at" "move_at" s_move_at f fd) (c_turns_in : Cal P w K mg base "turns_in" 1 1 F_turns_in) (c_is_number : Cal P w K mg base "is_number" 1 2 F_is_number) (c_usable : Cal P w K mg base "usable" 2 1 F_usable) : FnOk P w K mg base CX0 3 f fd ["clock", "number"] (spM F_move_at) :=
  qdef (k := 2) F sc_move_at fun cdv A outer s H E hr0 =>
      (show QSs _ _ b_move_at from (qs_cons (qs_drop (q_callN c_usable (hr0.mono (by decide)) (qa_cons (q_and (q_callN c_is_number (hr0.mono (by decide)) (qa_cons (qv 1) qa_nil)) (q_one (q_lt (qv 1) (q_mul (q_ix (qv 0) qint) (q_callN c_turns_in (hr0.mono (by decide)) (qa_cons (qv 0) qa_nil)))))) (qa_cons qstr qa_nil))))
      (qs_one (qs_ret (q_tup (qa_cons (q_mod (qv 1) (q_ix (qv 0) qint)) (qa_cons (q_div (qv 1) (q_ix (qv 0) qint)) qa_nil)))))))
theorem cal_move_at {f : Addr} {fd : FuncData} (F : Fun K "move_at" "move_at" s_move_at f fd) (g : mg "move_at" = some (.ref f)) (c_turns_in : Cal P w K mg base "turns_in" 1 1 F_turns_in) (c_is_number : Cal P w K mg base "is_number" 1 2 F_is_number) (c_usable : Cal P w K mg base "usable" 2 1 F_usable) : Cal P w K mg base "move_at" 2 3 F_move_at :=
  ⟨⟨f, fd, ["clock", "number"], rfl, ok_move_at F c_turns_in c_is_number c_usable, F.binds fun _ _ _ _ _ _ us hl => match us, hl with | [_, _], _ => rfl, g, F.kp⟩⟩
/-! ### folded_numbers -/
theorem sc_folded_numbers : FnScope n_folded_numbers ["clock", "part", "small"] (defScope s_folded_numbers) := ⟨rfl, rfl, rfl, by decide +kernel, rfl, by decide +kernel, by decide +kernel⟩
theorem ok_folded_numbers {f : Addr} {fd : FuncData} (F : Fun K "folded_numbers" "folded_numbers" s_folded_numbers f fd) (c_all_moves : Cal P w K mg base "all_moves" 1 3 F_all_moves) (c_folded_move : Cal P w K mg base "folded_move" 3 5 F_folded_move) (c_number_of : Cal P w K mg base "number_of" 2 4 F_number_of) : FnOk P w K mg base CX0 6 f fd ["clock", "part", "small"] (spM F_folded_numbers) :=
  qdef (k := 5) F sc_folded_numbers fun cdv A outer s H E hr0 =>
      (show QSs _ _ b_folded_numbers from (qs_one (qs_ret (q_comp (own := [("move", 3)]) rfl sc_folded_numbers.nd (show blkC n_folded_numbers (defScope s_folded_numbers) _ [("move", 3)] = true by decide +kernel) (qi_tup (q_callN c_all_moves (hr0.mono (by decide)) (qa_cons (qv 0) qa_nil))) (fun _ _ _ _ _ => (qgw_name (i := 3) sc_folded_numbers.nd (by decide))) (fun _ _ _ _ _ => qts_nil) (fun _ _ _ _ _ => (q_callN c_number_of (hr0.mono (by decide)) (qa_cons (qv 2) (qa_cons (q_callN c_folded_move (hr0.mono (by decide)) (qa_cons (qv 0) (qa_cons (qv 1) (qa_cons (qv 3) qa_nil)))) qa_nil))))))))
theorem cal_folded_numbers {f : Addr} {fd : FuncData} (F : Fun K "folded_numbers" "folded_numbers" s_folded_numbers f fd) (g : mg "folded_numbers" = some (.ref f)) (c_all_moves : Cal P w K mg base "all_moves" 1 3 F_all_moves) (c_folded_move : Cal P w K mg base "folded_move" 3 5 F_folded_move) (c_number_of : Cal P w K mg base "number_of" 2 4 F_number_of) : Cal P w K mg base "folded_numbers" 3 6 F_folded_numbers :=
  ⟨⟨f, fd, ["clock", "part", "small"], rfl, ok_folded_numbers F c_all_moves c_folded_move c_number_of, F.binds fun _ _ _ _ _ _ us hl => match us, hl with | [_, _, _], _ => rfl, g, F.kp⟩⟩
/-! ### moved_part -/
theorem sc_moved_part : FnScope n_moved_part ["clock"] (defScope s_moved_part) := ⟨rfl, rfl, rfl, by decide +kernel, rfl, by decide +kernel, by decide +kernel⟩
theorem ok_moved_part {f : Addr} {fd : FuncData} (F : Fun K "moved_part" "moved_part" s_moved_part f fd) (c_primes_of : Cal P w K mg base "primes_of" 1 3 F_primes_of) (c_is_moved : Cal P w K mg base "is_moved" 2 3 F_is_moved) : FnOk P w K mg base CX0 4 f fd ["clock"] (spM F_moved_part) :=
  qdef (k := 3) F sc_moved_part fun cdv A outer s H E hr0 =>
      (show QSs _ _ b_moved_part from (qs_cons (qs_set (i := 1) sc_moved_part.nd qint)
      (qs_cons (qs_for PassesOwn.never rfl (qi_tup (q_callN c_primes_of (hr0.mono (by decide)) (qa_cons (q_ix (qv 0) qint) qa_nil))) (qg_name (i := 2) sc_moved_part.nd) (qs_one (qs_if (qt (q_callN c_is_moved (hr0.mono (by decide)) (qa_cons (qv 0) (qa_cons (qv 2) qa_nil)))) (qs_one (qs_set (i := 1) sc_moved_part.nd (q_mul (qv 1) (qv 2)))) qs_nil)))
      (qs_one (qs_ret (q_tup (qa_cons (qv 1) (qa_cons qint (qa_cons qint qa_nil)))))))))
theorem cal_moved_part {f : Addr} {fd : FuncData} (F : Fun K "moved_part" "moved_part" s_moved_part f fd) (g : mg "moved_part" = some (.ref f)) (c_primes_of : Cal P w K mg base "primes_of" 1 3 F_primes_of) (c_is_moved : Cal P w K mg base "is_moved" 2 3 F_is_moved) : Cal P w K mg base "moved_part" 1 4 F_moved_part :=
  ⟨⟨f, fd, ["clock"], rfl, ok_moved_part F c_primes_of c_is_moved, F.binds fun _ _ _ _ _ _ us hl => match us, hl with | [_], _ => rfl, g, F.kp⟩⟩
/-! ### are_deals -/
theorem sc_are_deals : FnScope n_are_deals ["clock", "thing"] (defScope s_are_deals) := ⟨rfl, rfl, rfl, by decide +kernel, rfl, by decide +kernel, by decide +kernel⟩
theorem ok_are_deals {f : Addr} {fd : FuncData} (F : Fun K "are_deals" "are_deals" s_are_deals f fd) (B : Bt mg) (c_is_deal : Cal P w K mg base "is_deal" 2 3 F_is_deal) : FnOk P w K mg base CX0 4 f fd ["clock", "thing"] (spM F_are_deals) :=
  qdef (k := 3) F sc_are_deals fun cdv A outer s H E hr0 =>
      (show QSs _ _ b_are_deals from (qs_cons (qs_if (qt_not (qt (q_isi .tuple B.isinstance B.tuple (by decide +kernel) (qv 1)))) (qs_one (qs_ret qbl)) qs_nil)
      (qs_cons (qs_for PassesOwn.never rfl (qi_tup (qv 1)) (qg_name (i := 2) sc_are_deals.nd) (qs_one (qs_if (qt_not (qt (q_callN c_is_deal (hr0.mono (by decide)) (qa_cons (qv 0) (qa_cons (qv 2) qa_nil))))) (qs_one (qs_ret qbl)) qs_nil)))
      (qs_one (qs_ret qbl)))))
theorem cal_are_deals {f : Addr} {fd : FuncData} (F : Fun K "are_deals" "are_deals" s_are_deals f fd) (g : mg "are_deals" = some (.ref f)) (B : Bt mg) (c_is_deal : Cal P w K mg base "is_deal" 2 3 F_is_deal) : Cal P w K mg base "are_deals" 2 4 F_are_deals :=
  ⟨⟨f, fd, ["clock", "thing"], rfl, ok_are_deals F B c_is_deal, F.binds fun _ _ _ _ _ _ us hl => match us, hl with | [_, _], _ => rfl, g, F.kp⟩⟩
/-! ### _law_times -/
theorem sc_L_times : FnScope n_L_times ["_law_world_here", "_law_one", "_law_other"] (defScope s_L_times) := ⟨rfl, rfl, rfl, by decide +kernel, rfl, by decide +kernel, by decide +kernel⟩
theorem ok_L_times {f : Addr} {fd : FuncData} (F : Fun K "_law_times" "_law_times" s_L_times f fd) (B : Bt mg)  : FnOk P w K mg base CX0 1 f fd ["_law_world_here", "_law_one", "_law_other"] (spM F_L_times) :=
  qdef (k := 0) F sc_L_times fun cdv A outer s H E hr0 =>
      (show QSs _ _ b_L_times from (qs_cons (qs_set (i := 3) sc_L_times.nd (q_ix (qv 0) qint))
      (qs_cons (qs_set (i := 4) sc_L_times.nd (q_callB call_len cb_len B.len (by decide +kernel) (qa_cons (qv 3) qa_nil)))
      (qs_cons (qs_setLc (i := 5) (own := [("_law_k", 6)]) rfl sc_L_times.nd (sw_true rfl rfl rfl (by decide +kernel)) (show blkC n_L_times (defScope s_L_times) _ [("_law_k", 6)] = true by decide +kernel) (qi_rng1 B.range (qa_cons (qv 4) qa_nil)) (fun _ _ _ _ _ => (qgw_name (i := 6) sc_L_times.nd (by decide))) (fun _ _ _ _ _ => qts_nil) (fun _ _ _ _ _ => qint))
      (qs_cons (qs_for PassesOwn.never rfl (qi_rng1 B.range (qa_cons (qv 4) qa_nil)) (qg_name (i := 6) sc_L_times.nd) (qs_cons (qs_set (i := 7) sc_L_times.nd (q_ix (qv 1) (qv 6)))
      (qs_one (qs_if (qt_ne (qv 7) qint) (qs_cons (qs_set (i := 8) sc_L_times.nd (q_ix (qv 3) (qv 6)))
      (qs_one (qs_for PassesOwn.never rfl (qi_rng1 B.range (qa_cons (qv 4) qa_nil)) (qg_name (i := 9) sc_L_times.nd) (qs_one (qs_augIx (qv 5) (q_ix (qv 8) (qv 9)) (q_mul (qv 7) (q_ix (qv 2) (qv 9))) ip_add r_ip))))) qs_nil))))
      (qs_one (qs_ret (qv 5))))))))
theorem cal_L_times {f : Addr} {fd : FuncData} (F : Fun K "_law_times" "_law_times" s_L_times f fd) (g : mg "_law_times" = some (.ref f)) (B : Bt mg)  : Cal P w K mg base "_law_times" 3 1 F_L_times :=
  ⟨⟨f, fd, ["_law_world_here", "_law_one", "_law_other"], rfl, ok_L_times F B , F.binds fun _ _ _ _ _ _ us hl => match us, hl with | [_, _, _], _ => rfl, g, F.kp⟩⟩
/-! ### _law_weights -/
theorem sc_L_weights : FnScope n_L_weights ["_law_world_here", "_law_seat"] (defScope s_L_weights) := ⟨rfl, rfl, rfl, by decide +kernel, rfl, by decide +kernel, by decide +kernel⟩
theorem ok_L_weights {f : Addr} {fd : FuncData} (F : Fun K "_law_weights" "_law_weights" s_L_weights f fd) (B : Bt mg) (c_L_next : Cal P w K mg base "_law_next" 2 1 F_L_next) (c_L_sevens : Cal P w K mg base "_law_sevens" 2 2 F_L_sevens) (c_L_row : Cal P w K mg base "_law_row" 2 2 F_L_row) (c_L_traceless : Cal P w K mg base "_law_traceless" 3 2 F_L_traceless) (c_L_divisors : Cal P w K mg base "_law_divisors" 1 1 F_L_divisors) : FnOk P w K mg base CX0 3 f fd ["_law_world_here", "_law_seat"] (spM F_L_weights) :=
  qdef (k := 2) F sc_L_weights fun cdv A outer s H E hr0 =>
      (show QSs _ _ b_L_weights from (qs_cons (qs_set (i := 2) sc_L_weights.nd (q_ix (q_ix (qv 0) qint) qint))
      (qs_cons (qs_set (i := 3) sc_L_weights.nd (q_callB call_len cb_len B.len (by decide +kernel) (qa_cons (q_ix (qv 0) qint) qa_nil)))
      (qs_cons (qs_set (i := 4) sc_L_weights.nd (q_callM c_L_next (hr0.mono (by decide)) (qa_cons (qv 1) (qa_cons qint qa_nil))))
      (qs_cons (qs_set (i := 5) sc_L_weights.nd (q_callN c_L_divisors (hr0.mono (by decide)) (qa_cons (q_div (qv 3) (qv 2)) qa_nil)))
      (qs_cons (qs_set (i := 6) sc_L_weights.nd (q_ix (qv 5) (q_sub (q_sub (q_callB call_len cb_len B.len (by decide +kernel) (qa_cons (qv 5) qa_nil)) qint) (q_callM c_L_next (hr0.mono (by decide)) (qa_cons (qv 1) (qa_cons (q_callB call_len cb_len B.len (by decide +kernel) (qa_cons (qv 5) qa_nil)) qa_nil))))))
      (qs_cons (qs_if (qt_eq (qv 4) qint) (qs_cons (qs_set (i := 7) sc_L_weights.nd (q_mod (q_callTy call_int1 cb_int B.int (by decide +kernel) (qa_cons (q_add qint (q_callM c_L_next (hr0.mono (by decide)) (qa_cons (qv 1) (qa_cons (qv 2) qa_nil)))) qa_nil)) (qv 2)))
      (qs_cons (qs_set (i := 8) sc_L_weights.nd (q_callF c_L_traceless (hr0.mono (by decide)) (qa_cons (qv 0) (qa_cons (qv 6) (qa_cons (q_comp (own := [("_law_k", 10)]) rfl sc_L_weights.nd (show blkC n_L_weights (defScope s_L_weights) _ [("_law_k", 10)] = true by decide +kernel) (qi_rng1 B.range (qa_cons (qv 2) qa_nil)) (fun _ _ _ _ _ => (qgw_name (i := 10) sc_L_weights.nd (by decide))) (fun _ _ _ _ _ => qts_nil) (fun _ _ _ _ _ => (q_callTy call_int1 cb_int B.int (by decide +kernel) (qa_cons (q_eq (qv 10) (qv 7)) qa_nil)))) qa_nil)))))
      (qs_one (qs_ret (q_comp (own := [("_law_weight", 11)]) rfl sc_L_weights.nd (show blkC n_L_weights (defScope s_L_weights) _ [("_law_weight", 11)] = true by decide +kernel) (qi_lst (qv 8)) (fun _ _ _ _ _ => (qgw_name (i := 11) sc_L_weights.nd (by decide))) (fun _ _ _ _ _ => qts_nil) (fun _ _ _ _ _ => (q_add (qv 11) qint))))))) qs_nil)
      (qs_cons (qs_if (PW.pt (qw_and (qt_eq (qv 4) qint) (qw_and (qt_eq (q_mod (qv 2) qint) qint) (qw_and1 (qt_eq (q_mod (q_div (qv 3) (qv 2)) qint) qint))))) (qs_one (qs_set (i := 8) sc_L_weights.nd (q_callF c_L_sevens (hr0.mono (by decide)) (qa_cons (qv 0) (qa_cons (q_add qint (q_callM c_L_next (hr0.mono (by decide)) (qa_cons (qv 1) (qa_cons qint qa_nil)))) qa_nil))))) (qs_one (qs_if (qt_in (qv 4) (q_tup (qa_cons qint (qa_cons qint qa_nil)))) (qs_one (qs_setLc (i := 8) (own := [("_law_k", 10)]) rfl sc_L_weights.nd (sw_true rfl rfl rfl (by decide +kernel)) (show blkC n_L_weights (defScope s_L_weights) _ [("_law_k", 10)] = true by decide +kernel) (qi_rng1 B.range (qa_cons (qv 3) qa_nil)) (fun _ _ _ _ _ => (qgw_name (i := 10) sc_L_weights.nd (by decide))) (fun _ _ _ _ _ => qts_nil) (fun _ _ _ _ _ => (q_callM c_L_next (hr0.mono (by decide)) (qa_cons (qv 1) (qa_cons qint qa_nil)))))) (qs_one (qs_set (i := 8) sc_L_weights.nd (q_callF c_L_traceless (hr0.mono (by decide)) (qa_cons (qv 0) (qa_cons (qv 6) (qa_cons (q_callF c_L_row (hr0.mono (by decide)) (qa_cons (qv 1) (qa_cons (qv 2) qa_nil))) qa_nil)))))))))
      (qs_cons (qs_set (i := 9) sc_L_weights.nd (q_sub (q_callM c_L_next (hr0.mono (by decide)) (qa_cons (qv 1) (qa_cons qint qa_nil))) qint))
      (qs_cons (qs_setLc (i := 8) (own := [("_law_weight", 11)]) rfl sc_L_weights.nd (sw_true rfl rfl rfl (by decide +kernel)) (show blkC n_L_weights (defScope s_L_weights) _ [("_law_weight", 11)] = true by decide +kernel) (qi_lst (qv 8)) (fun _ _ _ _ _ => (qgw_name (i := 11) sc_L_weights.nd (by decide))) (fun _ _ _ _ _ => qts_nil) (fun _ _ _ _ _ => (q_add (qv 11) (qv 9))))
      (qs_cons (qs_if (qt_eq (qv 4) qint) (qs_one (qs_augIx (qv 8) (q_callM c_L_next (hr0.mono (by decide)) (qa_cons (qv 1) (qa_cons (qv 3) qa_nil))) (q_sub (qv 3) (q_mod (q_callTy call_int1 cb_int B.int (by decide +kernel) (qa_cons (q_callB (cr_sumA rfl) cb_sumA B.sum (by decide +kernel) (qa_cons (qv 8) qa_nil)) qa_nil)) (qv 3))) ip_add r_ip)) qs_nil)
      (qs_one (qs_ret (qv 8))))))))))))))
theorem cal_L_weights {f : Addr} {fd : FuncData} (F : Fun K "_law_weights" "_law_weights" s_L_weights f fd) (g : mg "_law_weights" = some (.ref f)) (B : Bt mg) (c_L_next : Cal P w K mg base "_law_next" 2 1 F_L_next) (c_L_sevens : Cal P w K mg base "_law_sevens" 2 2 F_L_sevens) (c_L_row : Cal P w K mg base "_law_row" 2 2 F_L_row) (c_L_traceless : Cal P w K mg base "_law_traceless" 3 2 F_L_traceless) (c_L_divisors : Cal P w K mg base "_law_divisors" 1 1 F_L_divisors) : Cal P w K mg base "_law_weights" 2 3 F_L_weights :=
  ⟨⟨f, fd, ["_law_world_here", "_law_seat"], rfl, ok_L_weights F B c_L_next c_L_sevens c_L_row c_L_traceless c_L_divisors, F.binds fun _ _ _ _ _ _ us hl => match us, hl with | [_, _], _ => rfl, g, F.kp⟩⟩
end
end Mir
/-! ## WP7 -/
set_option Elab.async false
set_option linter.all false
set_option maxRecDepth 100000
set_option maxHeartbeats 4000000
namespace Mir
open PySem PySem.Spec PyProof.Rows L2
section
variable {P : Program} {w : World} {K : PySem.W.Frag} {mg : Str → Option Value} {base : Heap}

/-! ### edge_in -/
theorem sc_edge_in : FnScope n_edge_in ["clock", "a"] (defScope s_edge_in) := ⟨rfl, rfl, rfl, by decide +kernel, rfl, by decide +kernel, by decide +kernel⟩
theorem ok_edge_in {f : Addr} {fd : FuncData} (F : Fun K "edge_in" "edge_in" s_edge_in f fd)  : FnOk P w K mg base CX0 1 f fd ["clock", "a"] (spM F_edge_in) :=
  qdef (k := 0) F sc_edge_in fun cdv A outer s H E hr0 =>
      (show QSs _ _ b_edge_in from (qs_cons (qs_set (i := 2) sc_edge_in.nd qint)
      (qs_cons (qs_for PassesOwn.never rfl (qi_tup (q_ix (qv 0) qint)) (qg_tup rfl (qg_cons (qg_name (i := 3) sc_edge_in.nd) (qg_cons (qg_name (i := 4) sc_edge_in.nd) qg_nil))) (qs_one (qs_if (qt_ne (q_mod (q_sub (qv 4) qint) (qv 1)) qint) (qs_one (qs_set (i := 2) sc_edge_in.nd (q_mul (qv 2) (qv 3)))) qs_nil)))
      (qs_one (qs_ret (qv 2))))))
theorem cal_edge_in {f : Addr} {fd : FuncData} (F : Fun K "edge_in" "edge_in" s_edge_in f fd) (g : mg "edge_in" = some (.ref f))  : Cal P w K mg base "edge_in" 2 1 F_edge_in :=
  ⟨⟨f, fd, ["clock", "a"], rfl, ok_edge_in F , F.binds fun _ _ _ _ _ _ us hl => match us, hl with | [_, _], _ => rfl, g, F.kp⟩⟩
/-! ### moves_many -/
theorem sc_moves_many : FnScope n_moves_many ["clock"] (defScope s_moves_many) := ⟨rfl, rfl, rfl, by decide +kernel, rfl, by decide +kernel, by decide +kernel⟩
theorem ok_moves_many {f : Addr} {fd : FuncData} (F : Fun K "moves_many" "moves_many" s_moves_many f fd) (c_turns_in : Cal P w K mg base "turns_in" 1 1 F_turns_in) : FnOk P w K mg base CX0 2 f fd ["clock"] (spM F_moves_many) :=
  qdef (k := 1) F sc_moves_many fun cdv A outer s H E hr0 =>
      (show QSs _ _ b_moves_many from (qs_one (qs_ret (q_mul (q_ix (qv 0) qint) (q_callN c_turns_in (hr0.mono (by decide)) (qa_cons (qv 0) qa_nil))))))
theorem cal_moves_many {f : Addr} {fd : FuncData} (F : Fun K "moves_many" "moves_many" s_moves_many f fd) (g : mg "moves_many" = some (.ref f)) (c_turns_in : Cal P w K mg base "turns_in" 1 1 F_turns_in) : Cal P w K mg base "moves_many" 1 2 F_moves_many :=
  ⟨⟨f, fd, ["clock"], rfl, ok_moves_many F c_turns_in, F.binds fun _ _ _ _ _ _ us hl => match us, hl with | [_], _ => rfl, g, F.kp⟩⟩
/-! ### want_deal -/
theorem sc_want_deal : FnScope n_want_deal ["clock", "thing", "word"] (defScope s_want_deal) := ⟨rfl, rfl, rfl, by decide +kernel, rfl, by decide +kernel, by decide +kernel⟩
theorem ok_want_deal {f : Addr} {fd : FuncData} (F : Fun K "want_deal" "want_deal" s_want_deal f fd) (c_is_deal : Cal P w K mg base "is_deal" 2 3 F_is_deal) : FnOk P w K mg base CX0 4 f fd ["clock", "thing", "word"] (spM F_want_deal) :=
  qdef (k := 3) F sc_want_deal fun cdv A outer s H E hr0 =>
      (show QSs _ _ b_want_deal from (qs_one (qs_if (qt_not (qt (q_callN c_is_deal (hr0.mono (by decide)) (qa_cons (qv 0) (qa_cons (qv 1) qa_nil))))) (qs_one qs_never) qs_nil)))
theorem cal_want_deal {f : Addr} {fd : FuncData} (F : Fun K "want_deal" "want_deal" s_want_deal f fd) (g : mg "want_deal" = some (.ref f)) (c_is_deal : Cal P w K mg base "is_deal" 2 3 F_is_deal) : Cal P w K mg base "want_deal" 3 4 F_want_deal :=
  ⟨⟨f, fd, ["clock", "thing", "word"], rfl, ok_want_deal F c_is_deal, F.binds fun _ _ _ _ _ _ us hl => match us, hl with | [_, _, _], _ => rfl, g, F.kp⟩⟩
/-! ### all_moves -/
theorem sc_all_moves : FnScope n_all_moves ["clock"] (defScope s_all_moves) := ⟨rfl, rfl, rfl, by decide +kernel, rfl, by decide +kernel, by decide +kernel⟩
theorem ok_all_moves {f : Addr} {fd : FuncData} (F : Fun K "all_moves" "all_moves" s_all_moves f fd) (B : Bt mg) (c_moves_in : Cal P w K mg base "moves_in" 1 2 F_moves_in) : FnOk P w K mg base CX0 3 f fd ["clock"] (spM F_all_moves) :=
  qdef (k := 2) F sc_all_moves fun cdv A outer s H E hr0 =>
      (show QSs _ _ b_all_moves from (qs_one (qs_ret (q_callTy call_tuple_of cb_tuple B.tuple (by decide +kernel) (qa_cons (q_callN c_moves_in (hr0.mono (by decide)) (qa_cons (qv 0) qa_nil)) qa_nil)))))
theorem cal_all_moves {f : Addr} {fd : FuncData} (F : Fun K "all_moves" "all_moves" s_all_moves f fd) (g : mg "all_moves" = some (.ref f)) (B : Bt mg) (c_moves_in : Cal P w K mg base "moves_in" 1 2 F_moves_in) : Cal P w K mg base "all_moves" 1 3 F_all_moves :=
  ⟨⟨f, fd, ["clock"], rfl, ok_all_moves F B c_moves_in, F.binds fun _ _ _ _ _ _ us hl => match us, hl with | [_], _ => rfl, g, F.kp⟩⟩
/-! ### folded_deal -/
theorem sc_folded_deal : FnScope n_folded_deal ["clock", "part", "deal"] (defScope s_folded_deal) := ⟨rfl, rfl, rfl, by decide +kernel, rfl, by decide +kernel, by decide +kernel⟩
theorem ok_folded_deal {f : Addr} {fd : FuncData} (F : Fun K "folded_deal" "folded_deal" s_folded_deal f fd) (B : Bt mg) (c_settled : Cal P w K mg base "settled" 3 3 F_settled) (c_folded_numbers : Cal P w K mg base "folded_numbers" 3 6 F_folded_numbers) (c_moves_many : Cal P w K mg base "moves_many" 1 2 F_moves_many) (c_folded_clock : Cal P w K mg base "folded_clock" 2 5 F_folded_clock) (c_want_deal : Cal P w K mg base "want_deal" 3 4 F_want_deal) (c_want_kept : Cal P w K mg base "want_kept" 2 5 F_want_kept) : FnOk P w K mg base CX0 7 f fd ["clock", "part", "deal"] (spM F_folded_deal) :=
  qdef (k := 6) F sc_folded_deal fun cdv A outer s H E hr0 =>
      (show QSs _ _ b_folded_deal from (qs_cons (qs_drop (q_callN c_want_kept (hr0.mono (by decide)) (qa_cons (qv 0) (qa_cons (qv 1) qa_nil))))
      (qs_cons (qs_drop (q_callN c_want_deal (hr0.mono (by decide)) (qa_cons (qv 0) (qa_cons (qv 2) (qa_cons qstr qa_nil)))))
      (qs_cons (qs_set (i := 3) sc_folded_deal.nd (q_callN c_folded_clock (hr0.mono (by decide)) (qa_cons (qv 0) (qa_cons (qv 1) qa_nil))))
      (qs_cons (qs_setLc (i := 4) (own := [("_", 7)]) rfl sc_folded_deal.nd (sw_true rfl rfl rfl (by decide +kernel)) (show blkC n_folded_deal (defScope s_folded_deal) _ [("_", 7)] = true by decide +kernel) (qi_rng1 B.range (qa_cons (q_callN c_moves_many (hr0.mono (by decide)) (qa_cons (qv 3) qa_nil)) qa_nil)) (fun _ _ _ _ _ => (qgw_name (i := 7) sc_folded_deal.nd (by decide))) (fun _ _ _ _ _ => qts_nil) (fun _ _ _ _ _ => qint))
      (qs_cons (qs_for PassesOwn.never rfl (qi_zip B.zip (qa_cons (q_callN c_folded_numbers (hr0.mono (by decide)) (qa_cons (qv 0) (qa_cons (qv 1) (qa_cons (qv 3) qa_nil)))) (qa_cons (q_ix (qv 2) qint) qa_nil))) (qg_tup rfl (qg_cons (qg_name (i := 5) sc_folded_deal.nd) (qg_cons (qg_name (i := 6) sc_folded_deal.nd) qg_nil))) (qs_one (qs_asg (q_add (q_ix (qv 4) (qv 5)) (qv 6)) (qg_sub (qv 4) (qv 5)))))
      (qs_one (qs_ret (q_callN c_settled (hr0.mono (by decide)) (qa_cons (qv 3) (qa_cons (q_ix (qv 2) qint) (qa_cons (q_callTy call_tuple_of cb_tuple B.tuple (by decide +kernel) (qa_cons (qv 4) qa_nil)) qa_nil))))))))))))
theorem cal_folded_deal {f : Addr} {fd : FuncData} (F : Fun K "folded_deal" "folded_deal" s_folded_deal f fd) (g : mg "folded_deal" = some (.ref f)) (B : Bt mg) (c_settled : Cal P w K mg base "settled" 3 3 F_settled) (c_folded_numbers : Cal P w K mg base "folded_numbers" 3 6 F_folded_numbers) (c_moves_many : Cal P w K mg base "moves_many" 1 2 F_moves_many) (c_folded_clock : Cal P w K mg base "folded_clock" 2 5 F_folded_clock) (c_want_deal : Cal P w K mg base "want_deal" 3 4 F_want_deal) (c_want_kept : Cal P w K mg base "want_kept" 2 5 F_want_kept) : Cal P w K mg base "folded_deal" 3 7 F_folded_deal :=
  ⟨⟨f, fd, ["clock", "part", "deal"], rfl, ok_folded_deal F B c_settled c_folded_numbers c_moves_many c_folded_clock c_want_deal c_want_kept, F.binds fun _ _ _ _ _ _ us hl => match us, hl with | [_, _, _], _ => rfl, g, F.kp⟩⟩
/-! ### folds_evenly -/
theorem sc_folds_evenly : FnScope n_folds_evenly ["clock", "deal"] (defScope s_folds_evenly) := ⟨rfl, rfl, rfl, by decide +kernel, rfl, by decide +kernel, by decide +kernel⟩
theorem ok_folds_evenly {f : Addr} {fd : FuncData} (F : Fun K "folds_evenly" "folds_evenly" s_folds_evenly f fd) (c_folded_deal : Cal P w K mg base "folded_deal" 3 7 F_folded_deal) (c_folded_clock : Cal P w K mg base "folded_clock" 2 5 F_folded_clock) (c_is_even : Cal P w K mg base "is_even" 2 5 F_is_even) (c_moved_part : Cal P w K mg base "moved_part" 1 4 F_moved_part) (c_judge_deal : Cal P w K mg base "judge_deal" 3 4 F_judge_deal) : FnOk P w K mg base CX0 8 f fd ["clock", "deal"] (spM F_folds_evenly) :=
  qdef (k := 7) F sc_folds_evenly fun cdv A outer s H E hr0 =>
      (show QSs _ _ b_folds_evenly from (qs_cons (qs_drop (q_callN c_judge_deal (hr0.mono (by decide)) (qa_cons (qv 0) (qa_cons (qv 1) (qa_cons qstr qa_nil)))))
      (qs_cons (qs_set (i := 2) sc_folds_evenly.nd (q_callN c_moved_part (hr0.mono (by decide)) (qa_cons (qv 0) qa_nil)))
      (qs_one (qs_ret (q_callN c_is_even (hr0.mono (by decide)) (qa_cons (q_callN c_folded_clock (hr0.mono (by decide)) (qa_cons (qv 0) (qa_cons (qv 2) qa_nil))) (qa_cons (q_callN c_folded_deal (hr0.mono (by decide)) (qa_cons (qv 0) (qa_cons (qv 2) (qa_cons (qv 1) qa_nil)))) qa_nil))))))))
theorem cal_folds_evenly {f : Addr} {fd : FuncData} (F : Fun K "folds_evenly" "folds_evenly" s_folds_evenly f fd) (g : mg "folds_evenly" = some (.ref f)) (c_folded_deal : Cal P w K mg base "folded_deal" 3 7 F_folded_deal) (c_folded_clock : Cal P w K mg base "folded_clock" 2 5 F_folded_clock) (c_is_even : Cal P w K mg base "is_even" 2 5 F_is_even) (c_moved_part : Cal P w K mg base "moved_part" 1 4 F_moved_part) (c_judge_deal : Cal P w K mg base "judge_deal" 3 4 F_judge_deal) : Cal P w K mg base "folds_evenly" 2 8 F_folds_evenly :=
  ⟨⟨f, fd, ["clock", "deal"], rfl, ok_folds_evenly F c_folded_deal c_folded_clock c_is_even c_moved_part c_judge_deal, F.binds fun _ _ _ _ _ _ us hl => match us, hl with | [_, _], _ => rfl, g, F.kp⟩⟩
/-! ### row_after -/
theorem sc_row_after : FnScope n_row_after ["clock", "deals"] (defScope s_row_after) := ⟨rfl, rfl, rfl, by decide +kernel, rfl, by decide +kernel, by decide +kernel⟩
theorem ok_row_after {f : Addr} {fd : FuncData} (F : Fun K "row_after" "row_after" s_row_after f fd) (B : Bt mg) (c_is_even : Cal P w K mg base "is_even" 2 5 F_is_even) (c_dealt : Cal P w K mg base "dealt" 3 6 F_dealt) (c_are_deals : Cal P w K mg base "are_deals" 2 4 F_are_deals) : FnOk P w K mg base CX0 7 f fd ["clock", "deals"] (spM F_row_after) :=
  qdef (k := 6) F sc_row_after fun cdv A outer s H E hr0 =>
      (show QSs _ _ b_row_after from (qs_cons (qs_if (qt_not (qt (q_callN c_are_deals (hr0.mono (by decide)) (qa_cons (qv 0) (qa_cons (qv 1) qa_nil))))) (qs_one qs_never) qs_nil)
      (qs_cons (qs_if (qt_eq (q_callB call_len cb_len B.len (by decide +kernel) (qa_cons (qv 1) qa_nil)) qint) (qs_one (qs_ret qnon)) qs_nil)
      (qs_cons (qs_set (i := 2) sc_row_after.nd (q_ix (qv 1) qint))
      (qs_cons (qs_for PassesOwn.never rfl (qi_rng2 B.range (qa_cons qint (qa_cons (q_callB call_len cb_len B.len (by decide +kernel) (qa_cons (qv 1) qa_nil)) qa_nil))) (qg_name (i := 3) sc_row_after.nd) (qs_cons (qs_if (qt (q_callN c_is_even (hr0.mono (by decide)) (qa_cons (qv 0) (qa_cons (qv 2) qa_nil)))) (qs_one (qs_ret (qv 3))) qs_nil)
      (qs_one (qs_set (i := 2) sc_row_after.nd (q_callN c_dealt (hr0.mono (by decide)) (qa_cons (qv 0) (qa_cons (qv 2) (qa_cons (q_ix (qv 1) (qv 3)) qa_nil))))))))
      (qs_cons (qs_if (qt (q_callN c_is_even (hr0.mono (by decide)) (qa_cons (qv 0) (qa_cons (qv 2) qa_nil)))) (qs_one (qs_ret (q_callB call_len cb_len B.len (by decide +kernel) (qa_cons (qv 1) qa_nil)))) qs_nil)
      (qs_one (qs_ret qnon))))))))
theorem cal_row_after {f : Addr} {fd : FuncData} (F : Fun K "row_after" "row_after" s_row_after f fd) (g : mg "row_after" = some (.ref f)) (B : Bt mg) (c_is_even : Cal P w K mg base "is_even" 2 5 F_is_even) (c_dealt : Cal P w K mg base "dealt" 3 6 F_dealt) (c_are_deals : Cal P w K mg base "are_deals" 2 4 F_are_deals) : Cal P w K mg base "row_after" 2 7 F_row_after :=
  ⟨⟨f, fd, ["clock", "deals"], rfl, ok_row_after F B c_is_even c_dealt c_are_deals, F.binds fun _ _ _ _ _ _ us hl => match us, hl with | [_, _], _ => rfl, g, F.kp⟩⟩
/-! ### _law_level -/
theorem sc_L_level : FnScope n_L_level ["_law_weights_here"] (defScope s_L_level) := ⟨rfl, rfl, rfl, by decide +kernel, rfl, by decide +kernel, by decide +kernel⟩
theorem ok_L_level {f : Addr} {fd : FuncData} (F : Fun K "_law_level" "_law_level" s_L_level f fd) (B : Bt mg)  : FnOk P w K mg base CX0 1 f fd ["_law_weights_here"] (spM F_L_level) :=
  qdef (k := 0) F sc_L_level fun cdv A outer s H E hr0 =>
      (show QSs _ _ b_L_level from (qs_one (qs_ret (q_eq (q_callB call_len cb_len B.len (by decide +kernel) (qa_cons (q_comp (own := [("_law_k", 1)]) rfl sc_L_level.nd (show blkC n_L_level (defScope s_L_level) _ [("_law_k", 1)] = true by decide +kernel) (qi_lst (qv 0)) (fun _ _ _ _ _ => (qgw_name (i := 1) sc_L_level.nd (by decide))) (fun _ _ _ _ _ => (qts_one (qt_ne (qv 1) (q_ix (qv 0) qint)))) (fun _ _ _ _ _ => (qv 1))) qa_nil)) qint))))
theorem cal_L_level {f : Addr} {fd : FuncData} (F : Fun K "_law_level" "_law_level" s_L_level f fd) (g : mg "_law_level" = some (.ref f)) (B : Bt mg)  : Cal P w K mg base "_law_level" 1 1 F_L_level :=
  ⟨⟨f, fd, ["_law_weights_here"], rfl, ok_L_level F B , F.binds fun _ _ _ _ _ _ us hl => match us, hl with | [_], _ => rfl, g, F.kp⟩⟩
/-! ### _law_moved_totals -/
theorem sc_L_moved_totals : FnScope n_L_moved_totals ["_law_world_here", "_law_weights_here"] (defScope s_L_moved_totals) := ⟨rfl, rfl, rfl, by decide +kernel, rfl, by decide +kernel, by decide +kernel⟩
theorem ok_L_moved_totals {f : Addr} {fd : FuncData} (F : Fun K "_law_moved_totals" "_law_moved_totals" s_L_moved_totals f fd) (B : Bt mg) (c_L_edge : Cal P w K mg base "_law_edge" 2 1 F_L_edge) (c_L_units : Cal P w K mg base "_law_units" 1 1 F_L_units) : FnOk P w K mg base CX0 2 f fd ["_law_world_here", "_law_weights_here"] (spM F_L_moved_totals) :=
  qdef (k := 1) F sc_L_moved_totals fun cdv A outer s H E hr0 =>
      (show QSs _ _ b_L_moved_totals from (qs_cons (qs_set (i := 2) sc_L_moved_totals.nd (q_ix (qv 0) qint))
      (qs_cons (qs_set (i := 3) sc_L_moved_totals.nd (q_ix (qv 2) qint))
      (qs_cons (qs_for PassesOwn.never rfl (qi_rng2 B.range (qa_cons qint (qa_cons (q_add (q_ix (qv 2) qint) qint) qa_nil))) (qg_name (i := 4) sc_L_moved_totals.nd) (qs_one (qs_if (PW.pt (qw_and (qt_eq (q_mod (q_ix (qv 2) qint) (qv 4)) qint) (qw_and (qt_eq (q_callN c_L_units (hr0.mono (by decide)) (qa_cons (qv 4) qa_nil)) (q_sub (qv 4) qint)) (qw_and1 (qt_gt (q_callN c_L_edge (hr0.mono (by decide)) (qa_cons (qv 2) (qa_cons (qv 4) qa_nil))) qint))))) (qs_one (qs_set (i := 3) sc_L_moved_totals.nd (q_div (qv 3) (qv 4)))) qs_nil)))
      (qs_cons (qs_setLc (i := 5) (own := [("_law_k", 7)]) rfl sc_L_moved_totals.nd (sw_true rfl rfl rfl (by decide +kernel)) (show blkC n_L_moved_totals (defScope s_L_moved_totals) _ [("_law_k", 7)] = true by decide +kernel) (qi_rng1 B.range (qa_cons (q_mul (q_div (q_callB call_len cb_len B.len (by decide +kernel) (qa_cons (qv 1) qa_nil)) (q_ix (qv 2) qint)) (qv 3)) qa_nil)) (fun _ _ _ _ _ => (qgw_name (i := 7) sc_L_moved_totals.nd (by decide))) (fun _ _ _ _ _ => qts_nil) (fun _ _ _ _ _ => qint))
      (qs_cons (qs_for PassesOwn.never rfl (qi_rng1 B.range (qa_cons (q_callB call_len cb_len B.len (by decide +kernel) (qa_cons (qv 1) qa_nil)) qa_nil)) (qg_name (i := 6) sc_L_moved_totals.nd) (qs_one (qs_augIx (qv 5) (q_add (q_mul (q_div (qv 6) (q_ix (qv 2) qint)) (qv 3)) (q_mod (q_mod (q_callTy call_int1 cb_int B.int (by decide +kernel) (qa_cons (qv 6) qa_nil)) (q_ix (qv 2) qint)) (qv 3))) (q_ix (qv 1) (qv 6)) ip_add r_ip)))
      (qs_one (qs_ret (q_tup (qa_cons (q_div (q_ix (qv 2) qint) (qv 3)) (qa_cons (qv 5) qa_nil)))))))))))
theorem cal_L_moved_totals {f : Addr} {fd : FuncData} (F : Fun K "_law_moved_totals" "_law_moved_totals" s_L_moved_totals f fd) (g : mg "_law_moved_totals" = some (.ref f)) (B : Bt mg) (c_L_edge : Cal P w K mg base "_law_edge" 2 1 F_L_edge) (c_L_units : Cal P w K mg base "_law_units" 1 1 F_L_units) : Cal P w K mg base "_law_moved_totals" 2 2 F_L_moved_totals :=
  ⟨⟨f, fd, ["_law_world_here", "_law_weights_here"], rfl, ok_L_moved_totals F B c_L_edge c_L_units, F.binds fun _ _ _ _ _ _ us hl => match us, hl with | [_, _], _ => rfl, g, F.kp⟩⟩
end
end Mir
/-! ## WN -/
set_option Elab.async false
set_option linter.all false
set_option maxRecDepth 100000
set_option maxHeartbeats 4000000
namespace Mir
open PySem PySem.Spec PyProof.Rows L2

/-! ### _law_begin -/
abbrev s_L_begin : Stmt := topS 85
abbrev n_L_begin : List Str := ["_law_script", "_law_mix", "_law_great", "_law_k", "_law_size"]
def b_L_begin : SM := (sSeq (sSet 1 (eC (.int 0)))
    (sSeq (sSet 2 (eLst aNil))
    (sSeq (sFor (iRng1M (aCons (eCB fMin2 (aCons (eC (.int 63)) (aCons (eCB fLen (aCons (eVar 0) aNil)) aNil))) aNil)) (gtName 3) (sSeq (sSet 4 (eCB fAbs (aCons (eIx (eVar 0) (eVar 3)) aNil)))
    (sSeq (sIf (tOf (e2 dGe (eVar 4) (e2 dPow (eC (.int 10)) (eC (.int 18))))) (sDrop (eApp (eVar 2) (eVar 4))) sNil)
    (sSet 1 (e2 dMod (eCB fInt (aCons (e2 dAdd (e2 dAdd (e2 dAdd (e2 dMul (eVar 1) (eC (.int 62089911))) (eVar 4)) (eC (.int 1))) (e2 dMul (eC (.int 5)) (eCB fInt (aCons (e2 dLt (eIx (eVar 0) (eVar 3)) (eC (.int 0))) aNil)))) aNil)) (eC (.int 2147483489)))))))
    (sRet (eLst (aCons (eVar 2) (aCons (e2 dMod (eCB fInt (aCons (e2 dAdd (e2 dMul (eVar 1) (eVar 1)) (e2 dMul (eVar 1) (eC (.int 90001)))) aNil)) (eC (.int 2147483489))) aNil)))))))
def F_L_begin : MF := runDef 1 5 b_L_begin
/-! ### _law_next -/
abbrev s_L_nextraw : Stmt := topS 86
abbrev n_L_nextraw : List Str := ["_law_seat", "_law_most", "_law_number"]
def b_L_nextraw : SM := (sSeq (sIf (tOf (e2 dGt (eCB fLen (aCons (eIx (eVar 0) (eC (.int 0))) aNil)) (eC (.int 0)))) (sSeq (sSet 2 (eIx (eIx (eVar 0) (eC (.int 0))) (eC (.int 0))))
    (sSeq (sIf (tOf (e2 dLt (eVar 2) (eVar 1))) (sAsg (eSl1 (eIx (eVar 0) (eC (.int 0)))) (gtSub (eVar 0) (eC (.int 0)))) (sAsg (e2 dDiv (eVar 2) (eVar 1)) (gtSub (eIx (eVar 0) (eC (.int 0))) (eC (.int 0)))))
    (sRet (e2 dMod (eCB fInt (aCons (eVar 2) aNil)) (eVar 1))))) sNil)
    (sSeq (sAsg (e2 dMod (eCB fInt (aCons (e2 dMul (eIx (eVar 0) (eC (.int 1))) (eC (.int 62089911))) aNil)) (eC (.int 2147483489))) (gtSub (eVar 0) (eC (.int 1))))
    (sRet (e2 dMod (eCB fInt (aCons (e2 dDiv (eIx (eVar 0) (eC (.int 1))) (eC (.int 41))) aNil)) (eVar 1)))))
def F_L_nextraw : MF := runDef 2 3 b_L_nextraw
section
variable {P : Program} {w : World} {K : PySem.W.Frag} {mg : Str → Option Value} {base : Heap}

/-! ### _law_begin -/
theorem sc_L_begin : FnScope n_L_begin ["_law_script"] (defScope s_L_begin) := ⟨rfl, rfl, rfl, by decide +kernel, rfl, by decide +kernel, by decide +kernel⟩
theorem ok_L_begin {f : Addr} {fd : FuncData} (F : Fun K "_law_begin" "_law_begin" s_L_begin f fd) (B : Bt mg)  : FnOk P w K mg base CX0 1 f fd ["_law_script"] (spM F_L_begin) :=
  qdef (k := 0) F sc_L_begin fun cdv A outer s H E hr0 =>
      (show QSs _ _ b_L_begin from (qs_cons (qs_set (i := 1) sc_L_begin.nd qint)
      (qs_cons (qs_set (i := 2) sc_L_begin.nd (q_lst qa_nil))
      (qs_cons (qs_for PassesOwn.never rfl (qi_rng1 B.range (qa_cons (q_callB (call_min2 rfl) cb_min2 B.min (by decide +kernel) (qa_cons qint (qa_cons (q_callB call_len cb_len B.len (by decide +kernel) (qa_cons (qv 0) qa_nil)) qa_nil))) qa_nil)) (qg_name (i := 3) sc_L_begin.nd) (qs_cons (qs_set (i := 4) sc_L_begin.nd (q_callB call_abs cb_abs B.abs (by decide +kernel) (qa_cons (q_ix (qv 0) (qv 3)) qa_nil)))
      (qs_cons (qs_if (qt_ge (qv 4) (q_pow qint qint)) (qs_one (qs_drop (q_app (qv 2) (qv 4)))) qs_nil)
      (qs_one (qs_set (i := 1) sc_L_begin.nd (q_mod (q_callTy call_int1 cb_int B.int (by decide +kernel) (qa_cons (q_add (q_add (q_add (q_mul (qv 1) qint) (qv 4)) qint) (q_mul qint (q_callTy call_int1 cb_int B.int (by decide +kernel) (qa_cons (q_lt (q_ix (qv 0) (qv 3)) qint) qa_nil)))) qa_nil)) qint))))))
      (qs_one (qs_ret (q_lst (qa_cons (qv 2) (qa_cons (q_mod (q_callTy call_int1 cb_int B.int (by decide +kernel) (qa_cons (q_add (q_mul (qv 1) (qv 1)) (q_mul (qv 1) qint)) qa_nil)) qint) qa_nil)))))))))
theorem cal_L_begin {f : Addr} {fd : FuncData} (F : Fun K "_law_begin" "_law_begin" s_L_begin f fd) (g : mg "_law_begin" = some (.ref f)) (B : Bt mg)  : Cal P w K mg base "_law_begin" 1 1 F_L_begin :=
  ⟨⟨f, fd, ["_law_script"], rfl, ok_L_begin F B , F.binds fun _ _ _ _ _ _ us hl => match us, hl with | [_], _ => rfl, g, F.kp⟩⟩
/-! ### _law_next -/
theorem sc_L_nextraw : FnScope n_L_nextraw ["_law_seat", "_law_most"] (defScope s_L_nextraw) := ⟨rfl, rfl, rfl, by decide +kernel, rfl, by decide +kernel, by decide +kernel⟩
theorem ok_L_nextraw {f : Addr} {fd : FuncData} (F : Fun K "_law_next" "_law_next" s_L_nextraw f fd) (B : Bt mg)  : FnOk P w K mg base CX0 1 f fd ["_law_seat", "_law_most"] (spM F_L_nextraw) :=
  qdef (k := 0) F sc_L_nextraw fun cdv A outer s H E hr0 =>
      (show QSs _ _ b_L_nextraw from (qs_cons (qs_if (qt_gt (q_callB call_len cb_len B.len (by decide +kernel) (qa_cons (q_ix (qv 0) qint) qa_nil)) qint) (qs_cons (qs_set (i := 2) sc_L_nextraw.nd (q_ix (q_ix (qv 0) qint) qint))
      (qs_cons (qs_if (qt_lt (qv 2) (qv 1)) (qs_one (qs_asg (q_sl1 (q_ix (qv 0) qint)) (qg_sub (qv 0) qint))) (qs_one (qs_asg (q_div (qv 2) (qv 1)) (qg_sub (q_ix (qv 0) qint) qint))))
      (qs_one (qs_ret (q_mod (q_callTy call_int1 cb_int B.int (by decide +kernel) (qa_cons (qv 2) qa_nil)) (qv 1)))))) qs_nil)
      (qs_cons (qs_asg (q_mod (q_callTy call_int1 cb_int B.int (by decide +kernel) (qa_cons (q_mul (q_ix (qv 0) qint) qint) qa_nil)) qint) (qg_sub (qv 0) qint))
      (qs_one (qs_ret (q_mod (q_callTy call_int1 cb_int B.int (by decide +kernel) (qa_cons (q_div (q_ix (qv 0) qint) qint) qa_nil)) (qv 1)))))))
theorem cal_L_nextraw {f : Addr} {fd : FuncData} (F : Fun K "_law_next" "_law_next" s_L_nextraw f fd) (g : mg "_law_next" = some (.ref f)) (B : Bt mg)  : Cal P w K mg base "_law_next" 2 1 F_L_nextraw :=
  ⟨⟨f, fd, ["_law_seat", "_law_most"], rfl, ok_L_nextraw F B , F.binds fun _ _ _ _ _ _ us hl => match us, hl with | [_, _], _ => rfl, g, F.kp⟩⟩
end
end Mir
/-! ## PA -/
set_option maxHeartbeats 200000
set_option Elab.async false
set_option linter.all false
set_option maxRecDepth 100000
/-! The plain law: what a mirror answers, told by what holds of the answer. -/
namespace Mir
open PySem PySem.Spec PyProof.Rows L2

/-- it answers, and Q holds of the answer -/
def W {α : Type} (o : Option (α × MS)) (Q : α → MS → Prop) : Prop := ∃ a s, o = some (a, s) ∧ Q a s
theorem W_some {α : Type} {a : α} {s : MS} {Q : α → MS → Prop} (h : Q a s) : W (some (a, s)) Q := ⟨a, s, rfl, h⟩
theorem W_eq {α : Type} {o : Option (α × MS)} {a : α} {s : MS} {Q : α → MS → Prop} (e : o = some (a, s)) (h : Q a s) : W o Q := ⟨a, s, e, h⟩
theorem W_mono {α : Type} {o : Option (α × MS)} {Q R : α → MS → Prop} (h : W o Q) (hr : ∀ a s, Q a s → R a s) : W o R := by
  obtain ⟨a, s, e, q⟩ := h
  exact ⟨a, s, e, hr a s q⟩
theorem W_bnd {α β : Type} {o : Option (α × MS)} {f : α → MS → Option (β × MS)} {Q : β → MS → Prop} (h : W o fun a s => W (f a s) Q) : W (bnd o f) Q := by
  obtain ⟨a, s, rfl, h⟩ := h
  exact h
theorem W_ret {α : Type} {o : Option α} {a : α} {s : MS} {Q : α → MS → Prop} (h : Q a s) (e : o = some a := by rfl) : W (ret o s) Q := ⟨a, s, by rw [e]; rfl, h⟩
theorem W_if {α : Type} {c : Prop} [Decidable c] {a b : Option (α × MS)} {Q : α → MS → Prop} (ha : c → W a Q) (hb : ¬ c → W b Q) : W (if c then a else b) Q := by
  split
  · exact ha (by assumption)
  · exact hb (by assumption)
theorem W_ifp {α : Type} {c : Prop} [Decidable c] {a b : Option (α × MS)} {Q : α → MS → Prop} (hc : c) (ha : W a Q) : W (if c then a else b) Q := by rw [if_pos hc]; exact ha
theorem W_ifn {α : Type} {c : Prop} [Decidable c] {a b : Option (α × MS)} {Q : α → MS → Prop} (hc : ¬ c) (ha : W b Q) : W (if c then a else b) Q := by rw [if_neg hc]; exact ha

section
variable {env : Env} {s : MS} {Q : D → MS → Prop}
theorem W_eVar {i : Nat} {d : D} (h : Q d s) (e : env[i]? = some (some d) := by rfl) : W (eVar i env s) Q := ⟨d, s, by unfold eVar; rw [e], h⟩
theorem W_eC {d : D} (h : Q d s) : W (eC d env s) Q := ⟨d, s, rfl, h⟩
theorem W_e1 {f : D → Option D} {a : EM} (h : W (a env s) fun x s1 => W (ret (f x) s1) Q) : W (e1 f a env s) Q := W_bnd h
theorem W_e2 {f : D → D → Option D} {a b : EM} (h : W (a env s) fun x s1 => W (b env s1) fun y s2 => W (ret (f x y) s2) Q) : W (e2 f a b env s) Q := W_bnd (W_mono h fun _ _ h => W_bnd h)
theorem W_eIx {a b : EM} (h : W (a env s) fun x s1 => W (b env s1) fun y s2 => W (ret (dIx s2 x y) s2) Q) : W (eIx a b env s) Q := W_bnd (W_mono h fun _ _ h => W_bnd h)
theorem W_eCB {f : CM} {a : AM} (h : W (a env s) fun ds s1 => W (f ds s1) Q) : W (eCB f a env s) Q := W_bnd h
theorem W_eTup {a : AM} (h : W (a env s) fun xs s1 => xs.length ≤ 1000 ∧ Q (.tup xs) s1) : W (eTup a env s) Q := W_bnd (W_mono h fun xs s1 h => by rw [if_pos h.1]; exact W_some h.2)
theorem W_eLst {a : AM} (h : W (a env s) fun xs s1 => xs.length ≤ 1000 ∧ Q (.ref s1.st.length) (s1.add xs)) : W (eLst a env s) Q := W_bnd (W_mono h fun xs s1 h => by rw [if_pos h.1]; exact W_some h.2)
theorem W_aNil {Q : List D → MS → Prop} (h : Q [] s) : W (aNil env s) Q := ⟨[], s, rfl, h⟩
theorem W_aCons {Q : List D → MS → Prop} {a : EM} {r : AM} (h : W (a env s) fun x s1 => W (r env s1) fun xs s2 => Q (x :: xs) s2) : W (aCons a r env s) Q := W_bnd (W_mono h fun _ _ h => W_bnd (W_mono h fun _ _ h => W_some h))
theorem W_eAnd {p q : EM} (h : W (p env s) fun d s1 => ∃ b, d = .bl b ∧ if b = true then W (q env s1) Q else Q (.bl false) s1) : W (eAnd p q env s) Q := W_bnd (W_mono h fun d s1 h => by
  obtain ⟨b, rfl, h⟩ := h
  cases b with
  | true => exact h
  | false => exact W_some h)
theorem W_eOr {p q : EM} (h : W (p env s) fun d s1 => ∃ b, d = .bl b ∧ if b = true then Q (.bl true) s1 else W (q env s1) Q) : W (eOr p q env s) Q := W_bnd (W_mono h fun d s1 h => by
  obtain ⟨b, rfl, h⟩ := h
  cases b with
  | true => exact W_some h
  | false => exact h)
theorem W_eNot {p : EM} (h : W (p env s) fun d s1 => ∃ b, d = .bl b ∧ Q (.bl (!b)) s1) : W (eNot p env s) Q := W_bnd (W_mono h fun d s1 h => by
  obtain ⟨b, rfl, h⟩ := h
  exact W_some h)
theorem W_eIf {c : TM} {a b : EM} (h : W (c env s) fun t s1 => if t = true then W (a env s1) Q else W (b env s1) Q) : W (eIf c a b env s) Q := W_bnd (W_mono h fun t s1 h => by
  cases t with
  | true => exact h
  | false => exact h)
end
section
variable {env : Env} {s : MS} {Q : Bool → MS → Prop}
theorem W_tOf {m : EM} (h : W (m env s) fun d s1 => ∃ b, d = .bl b ∧ Q b s1) : W (tOf m env s) Q := W_bnd (W_mono h fun d s1 h => by
  obtain ⟨b, rfl, h⟩ := h
  exact W_some h)
theorem W_tAnd {p q : TM} (h : W (p env s) fun b s1 => if b = true then W (q env s1) Q else Q false s1) : W (tAndM p q env s) Q := W_bnd (W_mono h fun b s1 h => by
  cases b with
  | true => exact h
  | false => exact W_some h)
theorem W_tOr {p q : TM} (h : W (p env s) fun b s1 => if b = true then Q true s1 else W (q env s1) Q) : W (tOrM p q env s) Q := W_bnd (W_mono h fun b s1 h => by
  cases b with
  | true => exact W_some h
  | false => exact h)
theorem W_tNot {p : TM} (h : W (p env s) fun b s1 => Q (!b) s1) : W (tNotM p env s) Q := W_bnd (W_mono h fun b s1 h => W_some h)
theorem W_tYes (h : Q true s) : W (tYesM env s) Q := W_some h
theorem W_tLst {m : EM} {xs : List D} (h : W (m env s) fun d s1 => ∃ r xs, d = .ref r ∧ s1.st[r]? = some xs ∧ Q (!xs.isEmpty) s1) : W (tLst' m env s) Q := W_bnd (W_mono h fun d s1 h => by
  obtain ⟨r, xs, rfl, e, h⟩ := h
  simp only [e]
  exact W_some h)
end
/-- what follows a statement -/
def SK (b : SM) (Q : Out → MS → Prop) : Out → MS → Prop
  | .nx env, s => W (b env s) Q
  | .rt d, s => Q (.rt d) s
theorem SK_nx {b : SM} {Q : Out → MS → Prop} {env : Env} {s : MS} (h : W (b env s) Q) : SK b Q (.nx env) s := h
theorem SK_rt {b : SM} {Q : Out → MS → Prop} {d : D} {s : MS} (h : Q (.rt d) s) : SK b Q (.rt d) s := h
section
variable {env : Env} {s : MS} {Q : Out → MS → Prop}
theorem W_sNil (h : Q (.nx env) s) : W (sNil env s) Q := W_some h
theorem W_sSeq {a b : SM} (h : W (a env s) (SK b Q)) : W (sSeq a b env s) Q := W_bnd (W_mono h fun o s1 h => by
  cases o with
  | nx e => exact h
  | rt d => exact W_some h)
theorem W_sDrop {a : EM} (h : W (a env s) fun _ s1 => Q (.nx env) s1) : W (sDrop a env s) Q := W_bnd (W_mono h fun _ _ h => W_some h)
theorem W_sRet {a : EM} (h : W (a env s) fun d s1 => Q (.rt d) s1) : W (sRet a env s) Q := W_bnd (W_mono h fun _ _ h => W_some h)
theorem W_sIf {c : TM} {a b : SM} (h : W (c env s) fun t s1 => if t = true then W (a env s1) Q else W (b env s1) Q) : W (sIf c a b env s) Q := W_bnd (W_mono h fun t s1 h => by
  cases t with
  | true => exact h
  | false => exact h)
theorem W_sSet {i : Nat} {a : EM} (h : W (a env s) fun d s1 => Q (.nx (env.set i (some d))) s1) : W (sSet i a env s) Q := W_bnd (W_mono h fun _ _ h => W_some h)
theorem W_sAsg {a : EM} {g : GM} (h : W (a env s) fun d s1 => W (g d env s1) fun env1 s2 => Q (.nx env1) s2) : W (sAsg a g env s) Q := W_bnd (W_mono h fun _ _ h => W_bnd (W_mono h fun _ _ h => W_some h))
theorem W_sAug {i : Nat} {f : D → D → Option D} {a : EM} {x z : D} (h : W (a env s) fun y s1 => ∃ z, f x y = some z ∧ Q (.nx (env.set i (some z))) s1) (e : env[i]? = some (some x) := by rfl) : W (sAug i f a env s) Q := by
  unfold sAug
  rw [e]
  exact W_bnd (W_mono h fun y s1 ⟨z, e, h⟩ => by rw [e]; exact W_some h)
theorem W_sPar {i j : Nat} {a b : EM} (h : W (a env s) fun x s1 => W (b env s1) fun y s2 => Q (.nx ((env.set i (some x)).set j (some y))) s2) : W (sPar i j a b env s) Q := W_bnd (W_mono h fun _ _ h => W_bnd (W_mono h fun _ _ h => W_some h))
theorem W_sAugIx {o i : EM} {f : D → D → Option D} {e : EM} (h : W (o env s) fun x s1 => W (i env s1) fun y s2 => ∃ old, dIx s2 x y = some old ∧ W (e env s2) fun z s3 => ∃ new s4, f old z = some new ∧ dSet s3 new x y = some s4 ∧ Q (.nx env) s4) : W (sAugIx o i f e env s) Q :=
  W_bnd (W_mono h fun x s1 h => W_bnd (W_mono h fun y s2 ⟨old, e, h⟩ => by
    rw [e]
    exact W_bnd (W_mono h fun z s3 ⟨new, s4, e1, e2, h⟩ => by
      rw [e1]
      dsimp only
      rw [e2]
      exact W_some h)))
theorem W_gtSub {o i : EM} {d : D} {Q : Env → MS → Prop} (h : W (o env s) fun x s1 => W (i env s1) fun y s2 => ∃ s3, dSet s2 d x y = some s3 ∧ Q env s3) : W (gtSub o i d env s) Q :=
  W_bnd (W_mono h fun x s1 h => W_bnd (W_mono h fun y s2 ⟨s3, e, h⟩ => by
    rw [e]
    exact W_some h))
theorem W_eApp {o e : EM} {Q : D → MS → Prop} (h : W (o env s) fun x s1 => W (e env s1) fun y s2 => ∃ s3, dApp s2 y x = some s3 ∧ Q .non s3) : W (eApp o e env s) Q :=
  W_bnd (W_mono h fun x s1 h => W_bnd (W_mono h fun y s2 ⟨s3, e, h⟩ => by
    rw [e]
    exact W_some h))
theorem W_gtName {i : Nat} {d : D} {Q : Env → MS → Prop} (h : Q (env.set i (some d)) s) : W (gtName i d env s) Q := W_some h
theorem W_gtNil {Q : Env → MS → Prop} (h : Q env s) : W (gtNil [] env s) Q := W_some h
theorem W_gtCons {g : GM} {r : GsM} {d : D} {ds : List D} {Q : Env → MS → Prop} (h : W (g d env s) fun env1 s1 => W (r ds env1 s1) Q) : W (gtCons g r (d :: ds) env s) Q := W_bnd h
theorem W_gtTup {n : Nat} {g : GsM} {ds : List D} {Q : Env → MS → Prop} (h : W (g ds env s) Q) (e : ds.length = n := by rfl) : W (gtTup n g (.tup ds) env s) Q := by
  show W (if ds.length = n then _ else _) Q
  rw [if_pos e]
  exact h
/-! for -/
theorem W_sFor {src : IM} {tg : GM} {body : SM} (h : W (src env s) fun p s1 => W (forL tg body p.2 p.1 env s1) Q) : W (sFor src tg body env s) Q := W_bnd h
/-- one turn -/
def turn (Q : Out → MS → Prop) (I : Env → MS → Prop) : Out → MS → Prop
  | .nx env, s => I env s
  | .rt d, s => Q (.rt d) s
theorem W_forL {tg : GM} {body : SM} {g : Guard} : ∀ {items : List D} {env : Env} {s : MS} (I : Nat → Env → MS → Prop), I 0 env s → (∀ i env s, I i env s → gOk g s = true) →
    (∀ i d env s, items[i]? = some d → I i env s → W (tg d env s) fun env1 s1 => W (body env1 s1) (turn Q (I (i + 1)))) → (∀ env s, I items.length env s → Q (.nx env) s) → W (forL tg body g items env s) Q
  | [], env, s, I, h0, hg, _, he => by
    rw [forL_nil, if_pos (hg _ _ _ h0)]
    exact W_some (he _ _ h0)
  | d :: ds, env, s, I, h0, hg, hs, he => by
    rw [forL_cons, if_pos (hg _ _ _ h0)]
    refine W_bnd (W_mono (hs 0 d env s rfl h0) fun env1 s1 h => W_bnd (W_mono h fun o s2 h => ?_))
    cases o with
    | nx env2 => exact W_forL (fun i => I (i + 1)) h (fun i => hg (i + 1)) (fun i d env s e => hs (i + 1) d env s (by simpa using e)) he
    | rt v => exact W_some h
theorem W_sWhile {c : TM} {b : SM} {n : Nat} (h : W (c env s) fun t s1 => if t = true then W (b env s1) (SK (sWhile c b n) Q) else Q (.nx env) s1) : W (sWhile c b (n + 1) env s) Q := W_bnd (W_mono h fun t s1 h => by
  cases t with
  | true => exact W_bnd (W_mono h fun o s2 h => by
      cases o with
      | nx e => exact h
      | rt d => exact W_some h)
  | false => exact W_some h)
end
/-! comprehensions -/
theorem W_compL {tg : GM} {tt : TM} {te : EM} {g : Guard} {env : Env} {Q : List D → MS → Prop} : ∀ {items : List D} {s : MS} (I : Nat → List D → MS → Prop), I 0 [] s → (∀ i acc s, I i acc s → gOk g s = true) →
    (∀ i d acc s, items[i]? = some d → I i acc s → W (tg d env s) fun env1 s1 => W (tt env1 s1) fun b s2 => if b = true then W (te env1 s2) fun y s3 => I (i + 1) (acc ++ [y]) s3 else I (i + 1) acc s2) → (∀ acc s, I items.length acc s → Q acc s) →
    W (compL tg tt te g env items s) Q := by
  have gen : ∀ {items : List D} {s : MS} (acc : List D) (I : Nat → List D → MS → Prop), I 0 acc s → (∀ i acc s, I i acc s → gOk g s = true) →
    (∀ i d acc s, items[i]? = some d → I i acc s → W (tg d env s) fun env1 s1 => W (tt env1 s1) fun b s2 => if b = true then W (te env1 s2) fun y s3 => I (i + 1) (acc ++ [y]) s3 else I (i + 1) acc s2) →
    W (compL tg tt te g env items s) fun ys s => I items.length (acc ++ ys) s := by
    intro items
    induction items with
    | nil =>
      intro s acc I h0 hg _
      rw [compL, if_pos (hg _ _ _ h0)]
      exact W_some (by rw [List.append_nil]; exact h0)
    | cons d ds ih =>
      intro s acc I h0 hg hs
      rw [compL, if_pos (hg _ _ _ h0)]
      refine W_bnd (W_mono (hs 0 d acc s rfl h0) fun env1 s1 h => W_bnd (W_mono h fun b s2 h => ?_))
      cases b with
      | true =>
        rw [if_pos rfl] at h ⊢
        refine W_bnd (W_mono h fun y s3 h => W_bnd (W_mono (ih (acc ++ [y]) (fun i => I (i + 1)) h (fun i => hg (i + 1)) fun i d acc s e => hs (i + 1) d acc s (by simpa using e)) fun ys s4 h => W_some ?_))
        rw [List.append_assoc] at h
        exact h
      | false =>
        rw [if_neg Bool.false_ne_true] at h ⊢
        exact ih acc (fun i => I (i + 1)) h (fun i => hg (i + 1)) fun i d acc s e => hs (i + 1) d acc s (by simpa using e)
  intro items s I h0 hg hs he
  exact W_mono (gen [] I h0 hg hs) fun ys s h => he _ _ h
theorem W_eComp {vs : List Nat} {src : IM} {tg : GM} {tt : TM} {te : EM} {env : Env} {s : MS} {Q : D → MS → Prop} (h : W (src env s) fun p s1 => p.1.length < 100000 ∧ W (compL tg tt te p.2 (wipeE env vs) p.1 s1) fun ys s2 => Q (.ref s2.st.length) (s2.add ys)) : W (eComp vs src tg tt te env s) Q :=
  W_bnd (W_mono h fun p s1 h => by rw [if_pos h.1]; exact W_bnd (W_mono h.2 fun ys s2 h => W_some h))
/-! what is walked -/
section
variable {env : Env} {s : MS} {Q : List D × Guard → MS → Prop}
theorem W_iTup {a : EM} (h : W (a env s) fun d s1 => ∃ ds, d = .tup ds ∧ Q (ds, none) s1) : W (iTupM a env s) Q := W_bnd (W_mono h fun d s1 h => by
  obtain ⟨ds, rfl, h⟩ := h
  exact W_some h)
theorem W_iLst {a : EM} (h : W (a env s) fun d s1 => ∃ r xs, d = .ref r ∧ s1.st[r]? = some xs ∧ Q (xs, some (r, xs)) s1) : W (iLstM a env s) Q := W_bnd (W_mono h fun d s1 h => by
  obtain ⟨r, xs, rfl, e, h⟩ := h
  refine W_ret h ?_
  show (match s1.st[r]? with | some xs => _ | none => _) = _
  rw [e])
theorem W_iRng1 {a : AM} (h : W (a env s) fun ds s1 => ∃ j : Int, ds = [.int j] ∧ j.natAbs ≤ 1000000 ∧ Q (rngItems 0 j.toNat, none) s1) : W (iRng1M a env s) Q := W_bnd (W_mono h fun d s1 h => by
  obtain ⟨j, rfl, e, h⟩ := h
  refine W_ret h ?_
  show (if j.natAbs ≤ 1000000 then _ else _) = _
  rw [if_pos e])
theorem W_iRng2 {a : AM} (h : W (a env s) fun ds s1 => ∃ i j : Int, ds = [.int i, .int j] ∧ i.natAbs ≤ 1000000 ∧ j.natAbs ≤ 1000000 ∧ Q (rngItems i (j - i).toNat, none) s1) : W (iRng2M a env s) Q := W_bnd (W_mono h fun d s1 h => by
  obtain ⟨i, j, rfl, e1, e2, h⟩ := h
  refine W_ret h ?_
  show (if i.natAbs ≤ 1000000 ∧ j.natAbs ≤ 1000000 then _ else _) = _
  rw [if_pos ⟨e1, e2⟩])
theorem W_iEnum {a : AM} (h : W (a env s) fun ds s1 => ∃ xs, ds = [.tup xs] ∧ Q (enumL 0 xs, none) s1) : W (iEnumM a env s) Q := W_bnd (W_mono h fun d s1 h => by
  obtain ⟨xs, rfl, h⟩ := h
  exact W_ret h rfl)
theorem W_iZip {a : AM} (h : W (a env s) fun ds s1 => ∃ r xs es, ds = [.ref r, .tup es] ∧ s1.st[r]? = some xs ∧ xs.length = es.length ∧ Q (zipL xs es, some (r, xs)) s1) : W (iZipM a env s) Q := W_bnd (W_mono h fun d s1 h => by
  obtain ⟨r, xs, es, rfl, e1, e2, h⟩ := h
  refine W_ret h ?_
  show (match s1.st[r]? with | some xs => _ | none => _) = _
  rw [e1]
  dsimp only
  rw [if_pos e2])
end
/-! defs -/
theorem W_def {n m : Nat} {b : SM} {ds : List D} {s : MS} {Q : D → MS → Prop} (h : W (b (ds.map some ++ List.replicate (m - n) none) s) fun o s1 => match o with
    | .nx _ => Q .non s1
    | .rt d => Q d s1) (e : ds.length = n := by rfl) : W (runDef n m b ds s) Q := by
  unfold runDef
  rw [if_pos e]
  refine W_bnd (W_mono h fun o s1 h => ?_)
  cases o with
  | nx _ => exact W_some h
  | rt d => exact W_some h
/-- in a world of its own it answers the data d -/
def Pu (F : MF) (ds : List D) (d : D) : Prop := D.norefs ds = true ∧ d.noref = true ∧ ∃ s1, F ds MS0 = some (d, s1)
theorem Pu.call {F : MF} {ds : List D} {d : D} (h : Pu F ds d) (s : MS) : callN F ds s = some (d, s) := by
  obtain ⟨h1, h2, s1, h3⟩ := h
  unfold callN
  rw [if_pos h1, h3]
  dsimp only
  rw [if_pos h2]
theorem Pu.of {F : MF} {ds : List D} {d : D} (h : W (F ds MS0) fun d' _ => d' = d) (h1 : D.norefs ds = true) (h2 : d.noref = true) : Pu F ds d := by
  obtain ⟨a, s, e, rfl⟩ := h
  exact ⟨h1, h2, s, e⟩
theorem W_pu {F : MF} {ds : List D} {d : D} {s : MS} {Q : D → MS → Prop} (h : Pu F ds d) (q : Q d s) : W (callN F ds s) Q := ⟨d, s, h.call s, q⟩
/-- by the kernel -/
def puB (F : MF) (ds : List D) (d : D) : Bool := D.norefs ds && d.noref && (match F ds MS0 with
  | some (e, _) => decide (e = d)
  | none => false)
theorem Pu.by {F : MF} {ds : List D} {d : D} (h : puB F ds d = true) : Pu F ds d := by
  unfold puB at h
  rw [Bool.and_eq_true, Bool.and_eq_true] at h
  obtain ⟨⟨h1, h2⟩, h3⟩ := h
  split at h3
  · rename_i e s1 he
    cases of_decide_eq_true h3
    exact ⟨h1, h2, s1, he⟩
  · cases h3
end Mir
/-! ## PB -/
set_option maxHeartbeats 200000
set_option Elab.async false
set_option linter.all false
set_option maxRecDepth 100000
/-! The plain law: vectors. -/
namespace Mir
open PySem PySem.Spec PyProof.Rows L2

/-! ### sums -/
def lsum (L : List Nat) (f : Nat → Int) : Int := (L.map f).sum
theorem lsum_nil {f : Nat → Int} : lsum [] f = 0 := rfl
theorem lsum_cons {j : Nat} {L : List Nat} {f : Nat → Int} : lsum (j :: L) f = f j + lsum L f := by simp [lsum]
theorem lsum_append {L M : List Nat} {f : Nat → Int} : lsum (L ++ M) f = lsum L f + lsum M f := by
  induction L with
  | nil => simp [lsum_nil]
  | cons j L ih => rw [List.cons_append, lsum_cons, lsum_cons, ih]; omega
theorem lsum_congr {L : List Nat} {f g : Nat → Int} (h : ∀ j ∈ L, f j = g j) : lsum L f = lsum L g := by
  unfold lsum
  rw [List.map_congr_left h]
theorem lsum_zero {L : List Nat} : lsum L (fun _ => 0) = 0 := by
  induction L with
  | nil => rfl
  | cons j L ih => rw [lsum_cons, ih]; rfl
theorem lsum_add {L : List Nat} {f g : Nat → Int} : lsum L (fun j => f j + g j) = lsum L f + lsum L g := by
  induction L with
  | nil => rfl
  | cons j L ih => rw [lsum_cons, lsum_cons, lsum_cons, ih]; omega
theorem lsum_mul {L : List Nat} {f : Nat → Int} (c : Int) : lsum L (fun j => c * f j) = c * lsum L f := by
  induction L with
  | nil => simp [lsum_nil]
  | cons j L ih => rw [lsum_cons, lsum_cons, ih, Int.mul_add]
theorem lsum_mulr {L : List Nat} {f : Nat → Int} (c : Int) : lsum L (fun j => f j * c) = lsum L f * c := by
  rw [Int.mul_comm, ← lsum_mul]
  exact lsum_congr fun j _ => Int.mul_comm _ _
theorem lsum_swap {L M : List Nat} {f : Nat → Nat → Int} : lsum L (fun i => lsum M (f i)) = lsum M (fun j => lsum L fun i => f i j) := by
  induction L with
  | nil => rw [lsum_nil, ← lsum_zero (L := M)]; rfl
  | cons i L ih => rw [lsum_cons, ih, ← lsum_add]; exact lsum_congr fun j _ => (lsum_cons (f := fun i => f i j)).symm
theorem lsum_filter {L : List Nat} {p : Nat → Bool} {f : Nat → Int} : lsum (L.filter p) f = lsum L (fun j => if p j = true then f j else 0) := by
  induction L with
  | nil => rfl
  | cons j L ih =>
    rw [List.filter_cons, lsum_cons]
    split
    · rw [lsum_cons, ih]
    · rw [ih]; omega
def S (n : Nat) (f : Nat → Int) : Int := lsum (List.range n) f
theorem S_succ {n : Nat} {f : Nat → Int} : S (n + 1) f = S n f + f n := by
  unfold S
  rw [List.range_succ, lsum_append, lsum_cons, lsum_nil]; omega
theorem S_zero {f : Nat → Int} : S 0 f = 0 := rfl
theorem S_congr {n : Nat} {f g : Nat → Int} (h : ∀ j, j < n → f j = g j) : S n f = S n g := lsum_congr fun j hj => h j (List.mem_range.mp hj)
theorem S_swap {n m : Nat} {f : Nat → Nat → Int} : S n (fun i => S m (f i)) = S m (fun j => S n fun i => f i j) := lsum_swap
theorem S_mul {n : Nat} {f : Nat → Int} (c : Int) : S n (fun j => c * f j) = c * S n f := lsum_mul c
theorem S_mulr {n : Nat} {f : Nat → Int} (c : Int) : S n (fun j => f j * c) = S n f * c := lsum_mulr c
theorem S_add {n : Nat} {f g : Nat → Int} : S n (fun j => f j + g j) = S n f + S n g := lsum_add
theorem S_const0 {n : Nat} : S n (fun _ => 0) = 0 := lsum_zero
/-- one place alone -/
theorem S_at {n a : Nat} (h : a < n) (f : Nat → Int) : S n (fun j => if a = j then f j else 0) = f a := by
  induction n with
  | zero => omega
  | succ n ih =>
    rw [S_succ]
    by_cases e : a = n
    · subst e
      rw [if_pos rfl, S_congr (g := fun _ => 0) (fun j hj => if_neg (by omega)), S_const0]; omega
    · rw [ih (by omega), if_neg e]; omega

/-! ### vectors -/
def V (n : Nat) (A : Nat → Int) : List D := (List.range n).map fun g => D.int (A g)
theorem V_len {n : Nat} {A : Nat → Int} : (V n A).length = n := by simp [V]
theorem V_get {n : Nat} {A : Nat → Int} {i : Nat} (h : i < n) : (V n A)[i]? = some (.int (A i)) := by
  unfold V
  rw [List.getElem?_map, List.getElem?_range h]
  rfl
theorem V_get' {n : Nat} {A : Nat → Int} {i : Nat} {d : D} (h : (V n A)[i]? = some d) : i < n ∧ d = .int (A i) := by
  have hi : i < n := by rw [← V_len (n := n) (A := A)]; exact (List.getElem?_eq_some_iff.mp h).1
  rw [V_get hi] at h
  exact ⟨hi, (Option.some.inj h).symm⟩
theorem V_ints {n : Nat} {A : Nat → Int} : asInts (V n A) = some ((List.range n).map A) := by
  have e : V n A = ((List.range n).map A).map D.int := by unfold V; rw [List.map_map]; rfl
  rw [e, asInts_map]
theorem V_ext {n : Nat} {A B : Nat → Int} (h : ∀ i, i < n → A i = B i) : V n A = V n B := by
  unfold V
  refine List.map_congr_left fun i hi => ?_
  rw [h i (List.mem_range.mp hi)]
theorem V_inj {n : Nat} {A B : Nat → Int} (h : V n A = V n B) {i : Nat} (hi : i < n) : A i = B i := by
  have := V_get (A := A) hi
  rw [h, V_get hi] at this
  exact (D.int.inj (Option.some.inj this)).symm
theorem V_set {n : Nat} {A : Nat → Int} {i : Nat} {v : Int} : (V n A).set i (.int v) = V n (fun g => if i = g then v else A g) := by
  apply List.ext_getElem?
  intro k
  rw [List.getElem?_set]
  by_cases hk : k < n
  · rw [V_get hk, V_get hk, V_len]
    by_cases e : i = k
    · subst e
      rw [if_pos rfl, if_pos hk, if_pos rfl]
    · rw [if_neg e, if_neg e]
  · have h1 : (V n A)[k]? = none := List.getElem?_eq_none (by rw [V_len]; omega)
    have h2 : (V n fun g => if i = g then v else A g)[k]? = none := List.getElem?_eq_none (by rw [V_len]; omega)
    rw [h1, h2, V_len]
    split
    · rw [if_neg (by omega)]
    · rfl
theorem V_append {n : Nat} {A : Nat → Int} {v : Int} (h : v = A n) : V n A ++ [.int v] = V (n + 1) A := by
  unfold V
  rw [List.range_succ, List.map_append, h]
  rfl
theorem rng_V {n : Nat} : rngItems 0 n = V n (fun i => (i : Int)) := by
  apply List.ext_getElem?
  intro k
  by_cases hk : k < n
  · rw [V_get hk, rngItems_get n 0 k hk, Int.zero_add]
  · rw [List.getElem?_eq_none (by rw [rngItems_len]; omega), List.getElem?_eq_none (by rw [V_len]; omega)]
theorem rng_at {lo : Int} {n i : Nat} {d : D} (h : (rngItems lo n)[i]? = some d) : i < n ∧ d = .int (lo + i) := by
  have hi : i < n := by rw [← rngItems_len n lo]; exact (List.getElem?_eq_some_iff.mp h).1
  rw [rngItems_get n lo i hi] at h
  exact ⟨hi, (Option.some.inj h).symm⟩
theorem rng_at0 {n i : Nat} {d : D} (h : (rngItems 0 n)[i]? = some d) : i < n ∧ d = .int (i : Int) := by
  obtain ⟨h1, h2⟩ := rng_at h
  exact ⟨h1, by rw [h2, Int.zero_add]⟩
theorem enum_at {n : Nat} {A : Nat → Int} {i : Nat} {d : D} (h : (enumL 0 (V n A))[i]? = some d) : i < n ∧ d = .tup [.int (i : Int), .int (A i)] := by
  have hi : i < n := by rw [← V_len (n := n) (A := A), ← enumL_len 0]; exact (List.getElem?_eq_some_iff.mp h).1
  rw [enumL_get 0 _ i _ (V_get hi), Nat.zero_add] at h
  exact ⟨hi, (Option.some.inj h).symm⟩
theorem zip_at {n : Nat} {A B : Nat → Int} {i : Nat} {d : D} (h : (zipL (V n A) (V n B))[i]? = some d) : i < n ∧ d = .tup [.int (A i), .int (B i)] := by
  have hi : i < n := by rw [← V_len (n := n) (A := A), ← zipL_len (V n A) (V n B) (by rw [V_len, V_len])]; exact (List.getElem?_eq_some_iff.mp h).1
  rw [zipL_get _ _ i _ _ (V_get hi) (V_get hi)] at h
  exact ⟨hi, (Option.some.inj h).symm⟩
/-- the store's list at r -/
abbrev At (s : MS) (r : Nat) (xs : List D) : Prop := s.st[r]? = some xs
theorem At.add {s : MS} {r : Nat} {xs ys : List D} (h : At s r xs) : At (s.add ys) r xs := by
  have hr := (List.getElem?_eq_some_iff.mp h).1
  show (s.st ++ [ys])[r]? = _
  rw [List.getElem?_append_left hr]
  exact h
theorem At.new {s : MS} {ys : List D} : At (s.add ys) s.st.length ys := by
  show (s.st ++ [ys])[s.st.length]? = _
  simp
theorem At.set {s : MS} {r : Nat} {xs ys : List D} (h : At s r xs) : At (s.setAt r ys) r ys := by
  have hr := (List.getElem?_eq_some_iff.mp h).1
  show (s.st.set r ys)[r]? = _
  rw [List.getElem?_set_self hr]
theorem At.setNe {s : MS} {r q : Nat} {xs ys : List D} (h : At s r xs) (hn : q ≠ r) : At (s.setAt q ys) r xs := by
  show (s.st.set q ys)[r]? = _
  rw [List.getElem?_set_ne hn]
  exact h
theorem At.lt {s : MS} {r : Nat} {xs : List D} (h : At s r xs) : r < s.st.length := (List.getElem?_eq_some_iff.mp h).1

/-! ### the steps with a condition -/
section
variable {s s2 : MS} {Q : D → MS → Prop}
theorem W_mulI {i j : Int} (h : Q (.int (i * j)) s) (c : i.natAbs < 18446744073709551616 ∨ j.natAbs < 18446744073709551616 := by omega) : W (ret (dMul (.int i) (.int j)) s) Q := by
  refine W_ret h ?_
  show (if mulOk i j = true then _ else _) = _
  rw [if_pos]
  unfold mulOk
  rw [Bool.or_eq_true, decide_eq_true_iff, decide_eq_true_iff]
  exact c
theorem W_mulN {i j : Nat} (h : Q (.int ((i * j : Nat) : Int)) s) (c : i < 18446744073709551616 ∨ j < 18446744073709551616 := by omega) : W (ret (dMul (.int (i : Int)) (.int (j : Int))) s) Q :=
  W_mulI (by rw [← Int.natCast_mul]; exact h) (by omega)
theorem W_divI {i j : Int} (h : Q (.int (i / j)) s) (c : 0 < j ∧ j < 1073741824 := by omega) : W (ret (dDiv (.int i) (.int j)) s) Q := by
  refine W_ret h ?_
  show (if divOk i j = true then _ else _) = _
  rw [if_pos]
  unfold divOk
  rw [Bool.and_eq_true, decide_eq_true_iff, decide_eq_true_iff]
  exact c
theorem W_divN {i j : Nat} (h : Q (.int ((i / j : Nat) : Int)) s) (c : 0 < j ∧ j < 1073741824 := by omega) : W (ret (dDiv (.int (i : Int)) (.int (j : Int))) s) Q :=
  W_divI (by rw [← Int.natCast_ediv]; exact h) (by omega)
theorem W_modI {i j : Int} (h : Q (.int (i % j)) s) (c : 0 < j := by omega) : W (ret (dMod (.int i) (.int j)) s) Q := by
  refine W_ret h ?_
  show (if modOk i j = true then _ else _) = _
  rw [if_pos]
  unfold modOk
  rw [decide_eq_true_iff]
  exact c
theorem W_modN {i j : Nat} (h : Q (.int ((i % j : Nat) : Int)) s) (c : 0 < j := by omega) : W (ret (dMod (.int (i : Int)) (.int (j : Int))) s) Q :=
  W_modI (by rw [← Int.natCast_emod]; exact h) (by omega)
theorem W_addN {i j : Nat} (h : Q (.int ((i + j : Nat) : Int)) s) : W (ret (dAdd (.int (i : Int)) (.int (j : Int))) s) Q := W_ret (by show Q (.int ((i : Int) + (j : Int))) s; rw [← Int.natCast_add]; exact h) rfl
theorem W_ixT {ds : List D} {i : Nat} {d : D} (h : Q d s) (e : ds[i]? = some d := by first | rfl | assumption) : W (ret (dIx s2 (.tup ds) (.int (i : Int))) s) Q := by
  refine W_ret h ?_
  show (if 0 ≤ (i : Int) then ds[(i : Int).toNat]? else none) = _
  rw [if_pos (by omega), Int.toNat_natCast]
  exact e
theorem W_ixTV {n : Nat} {A : Nat → Int} {i : Nat} (h : Q (.int (A i)) s) (e : i < n := by first | assumption | omega) : W (ret (dIx s2 (.tup (V n A)) (.int (i : Int))) s) Q := W_ixT h (V_get e)
theorem W_ixL {xs : List D} {r i : Nat} {d : D} (hr : At s2 r xs) (h : Q d s) (e : xs[i]? = some d := by first | rfl | assumption) : W (ret (dIx s2 (.ref r) (.int (i : Int))) s) Q := by
  refine W_ret h ?_
  show (if 0 ≤ (i : Int) then (match s2.st[r]? with | some xs => xs[(i : Int).toNat]? | none => none) else none) = _
  rw [if_pos (by omega), Int.toNat_natCast, hr]
  exact e
theorem dIx_L {xs : List D} {r i : Nat} {d : D} (hr : At s r xs) (e : xs[i]? = some d) : dIx s (.ref r) (.int (i : Int)) = some d := by
  show (if 0 ≤ (i : Int) then (match s.st[r]? with | some xs => xs[(i : Int).toNat]? | none => none) else none) = _
  rw [if_pos (by omega), Int.toNat_natCast, hr]
  exact e
theorem dSet_L {xs : List D} {r i : Nat} {d : D} (hr : At s r xs) (e : i < xs.length) : dSet s d (.ref r) (.int (i : Int)) = some (s.setAt r (xs.set i d)) := by
  show (if 0 ≤ (i : Int) then (match s.st[r]? with | some xs => if (i : Int).toNat < xs.length then some (s.setAt r (xs.set (i : Int).toNat d)) else none | none => none) else none) = _
  rw [if_pos (by omega), Int.toNat_natCast, hr]
  dsimp only
  rw [if_pos e]
theorem dApp_L {xs : List D} {r : Nat} {d : D} (hr : At s r xs) (e : xs.length < 100000) : dApp s d (.ref r) = some (s.setAt r (xs ++ [d])) := by
  show (match s.st[r]? with | some xs => if xs.length < 100000 then some (s.setAt r (xs ++ [d])) else none | none => none) = _
  rw [hr]
  dsimp only
  rw [if_pos e]
theorem W_lenT {ds : List D} {n : Nat} (h : Q (.int (n : Int)) s) (e : ds.length = n := by first | rfl | exact V_len) : W (fLen [.tup ds] s) Q := by rw [← e] at h; exact W_some h
theorem W_lenL {ds : List D} {r n : Nat} (hr : At s r ds) (h : Q (.int (n : Int)) s) (e : ds.length = n := by first | rfl | exact V_len) : W (fLen [.ref r] s) Q := by
  refine W_eq ?_ h
  show (match s.st[r]? with | some xs => some (D.int xs.length, s) | none => none) = _
  rw [hr, ← e]
theorem W_tupL {ds : List D} {r : Nat} (hr : At s r ds) (h : Q (.tup ds) s) : W (fTuple [.ref r] s) Q := by
  refine W_eq ?_ h
  show (match s.st[r]? with | some xs => some (D.tup xs, s) | none => none) = _
  rw [hr]
theorem gOk_of {r : Nat} {xs : List D} (h : At s r xs) : gOk (some (r, xs)) s = true := by
  unfold gOk
  dsimp only
  rw [h]
  exact decide_eq_true rfl
end
end Mir
/-! ## PC -/
set_option maxHeartbeats 200000
set_option Elab.async false
set_option linter.all false
set_option maxRecDepth 100000
/-! The plain law: deals. -/
namespace Mir
open PySem PySem.Spec PyProof.Rows L2
theorem ite_t {c : Bool} {p q : Prop} (e : c = true) (h : p) : if c = true then p else q := by rw [if_pos e]; exact h
theorem ite_f {c : Bool} {p q : Prop} (e : c = false) (h : q) : if c = true then p else q := by rw [e]; exact h
section
variable {env : Env} {s s2 : MS} {Q : D → MS → Prop}
theorem Y_eVar {i : Nat} {d : D} (e : env[i]? = some (some d)) (h : Q d s) : W (eVar i env s) Q := W_eVar h e
theorem Y_ret {α : Type} {o : Option α} {a : α} {Q : α → MS → Prop} (e : o = some a) (h : Q a s) : W (ret o s) Q := W_ret h e
theorem Y_mulN {i j : Nat} (c : i < 18446744073709551616 ∨ j < 18446744073709551616) (h : Q (.int ((i * j : Nat) : Int)) s) : W (ret (dMul (.int (i : Int)) (.int (j : Int))) s) Q := W_mulN h c
theorem Y_divN {i j : Nat} (c : 0 < j ∧ j < 1073741824) (h : Q (.int ((i / j : Nat) : Int)) s) : W (ret (dDiv (.int (i : Int)) (.int (j : Int))) s) Q := W_divN h c
theorem Y_modN {i j : Nat} (c : 0 < j) (h : Q (.int ((i % j : Nat) : Int)) s) : W (ret (dMod (.int (i : Int)) (.int (j : Int))) s) Q := W_modN h c
theorem Y_mulI {i j : Int} (c : i.natAbs < 18446744073709551616 ∨ j.natAbs < 18446744073709551616) (h : Q (.int (i * j)) s) : W (ret (dMul (.int i) (.int j)) s) Q := W_mulI h c
theorem Y_divI {i j : Int} (c : 0 < j ∧ j < 1073741824) (h : Q (.int (i / j)) s) : W (ret (dDiv (.int i) (.int j)) s) Q := W_divI h c
theorem Y_modI {i j : Int} (c : 0 < j) (h : Q (.int (i % j)) s) : W (ret (dMod (.int i) (.int j)) s) Q := W_modI h c
theorem Y_gtTup {n : Nat} {g : GsM} {ds : List D} {Q : Env → MS → Prop} (e : ds.length = n) (h : W (g ds env s) Q) : W (gtTup n g (.tup ds) env s) Q := W_gtTup h e
theorem Y_lenT {ds : List D} {n : Nat} (e : ds.length = n) (h : Q (.int (n : Int)) s) : W (fLen [.tup ds] s) Q := W_lenT h e
theorem Y_lenV {n : Nat} {A : Nat → Int} (h : Q (.int (n : Int)) s) : W (fLen [.tup (V n A)] s) Q := W_lenT h V_len
theorem not_t {b : Bool} (h : b = false) : (!b) = true := by rw [h]; rfl
theorem not_f {b : Bool} (h : b = true) : (!b) = false := by rw [h]; rfl
theorem Y_ixLV {n : Nat} {A : Nat → Int} {r i : Nat} (hr : At s2 r (V n A)) (e : i < n) (h : Q (.int (A i)) s) : W (ret (dIx s2 (.ref r) (.int (i : Int))) s) Q := W_ixL hr h (V_get e)
theorem Y_ixTV {n : Nat} {A : Nat → Int} {i : Nat} (e : i < n) (h : Q (.int (A i)) s) : W (ret (dIx s2 (.tup (V n A)) (.int (i : Int))) s) Q := W_ixTV h e
theorem Y_ixTV0 {n : Nat} {A : Nat → Int} (e : 0 < n) (h : Q (.int (A 0)) s) : W (ret (dIx s2 (.tup (V n A)) (.int 0)) s) Q := W_ixTV h e
theorem Y_ixLV0 {n : Nat} {A : Nat → Int} {r : Nat} (hr : At s2 r (V n A)) (e : 0 < n) (h : Q (.int (A 0)) s) : W (ret (dIx s2 (.ref r) (.int 0)) s) Q := W_ixL (i := 0) hr h (V_get e)
end
local macro_rules | `(tactic| infer_instance) => `(tactic| first
  | with_reducible apply W_sSeq | with_reducible apply W_sSet | with_reducible apply SK_nx | with_reducible apply SK_rt | ((with_reducible apply Y_eVar); rfl) | with_reducible apply W_eC | with_reducible apply W_aCons | with_reducible apply W_aNil | with_reducible apply W_e2 | with_reducible apply W_e1 | with_reducible apply W_eCB
  | ((with_reducible apply Y_mulN); omega) | ((with_reducible apply Y_divN); omega) | ((with_reducible apply Y_modN); omega) | with_reducible apply W_addN | ((with_reducible apply Y_ret); rfl) | ((with_reducible apply Y_mulI); omega) | ((with_reducible apply Y_divI); omega) | ((with_reducible apply Y_modI); omega)
  | with_reducible apply W_tOf | with_reducible apply W_tNot | with_reducible apply W_tAnd | with_reducible apply W_tOr | with_reducible apply W_tYes | with_reducible apply W_eAnd | with_reducible apply W_eOr | with_reducible apply W_eNot | with_reducible apply W_eIf | with_reducible apply W_eIx | with_reducible apply W_eTup | with_reducible apply W_eLst
  | with_reducible apply W_sIf | with_reducible apply W_sRet | with_reducible apply W_sDrop | with_reducible apply W_sNil | with_reducible apply W_sAsg | with_reducible apply W_sPar | with_reducible apply W_sAugIx | with_reducible apply W_sFor | with_reducible apply W_gtName | ((with_reducible apply Y_gtTup); rfl) | with_reducible apply W_gtCons | with_reducible apply W_gtNil | with_reducible apply W_gtSub
  | with_reducible apply W_iTup | with_reducible apply W_iRng1 | with_reducible apply W_iRng2 | with_reducible apply W_iEnum | with_reducible apply W_iLst | with_reducible apply W_eComp | with_reducible apply W_eApp
  | (with_reducible apply Y_lenV) | ((with_reducible apply Y_lenT); rfl) | ((with_reducible apply ite_t); exact rfl) | ((with_reducible apply ite_f); exact rfl) | ((with_reducible apply ite_t); exact decide_eq_true (by omega)) | ((with_reducible apply ite_f); exact decide_eq_false (by omega)) | ((with_reducible apply ite_t); exact not_t (decide_eq_false (by omega))) | ((with_reducible apply ite_f); exact not_f (decide_eq_true (by omega)))
   | ((with_reducible apply Y_ixLV); (rfl); (first | assumption | omega)) | ((with_reducible apply Y_ixTV); (first | assumption | omega)) | ((with_reducible apply Y_ixTV0); (first | assumption | omega)) | ((with_reducible apply Y_ixLV0); (rfl); (first | assumption | omega)) | ((with_reducible apply W_tupL); rfl) | with_reducible refine ⟨_, rfl, ?_⟩ | exact rfl | refine ⟨(Nat.le_of_ble_eq_true rfl : List.length _ ≤ 1000), ?_⟩)
theorem pu_whole (i : Int) : Pu F_whole [.int i] (.bl true) := by
  refine .of (W_def ?_) rfl rfl
  unfold b_whole
  repeat infer_instance
theorem pu_is_integer (i : Int) : Pu F_is_integer [.int i] (.bl true) := by
  refine .of (W_def ?_) rfl rfl
  unfold b_is_integer
  repeat infer_instance
  refine W_pu (pu_whole i) ?_
  repeat infer_instance
/-- how many weights, which turns' factors: what is known of a clock -/
structure CK (clk : D) (b T : Nat) (f : Nat → Nat) : Prop where
  hb : 0 < b
  hT : 0 < T
  hn : b * T ≤ 60
  hf : ∀ t, t < T → f t ≤ b
  ck : ∃ mv, clk = .tup [.int b, mv]
  nr : clk.noref = true
  tm : Pu F_turns_many [clk] (.int T)
  mm : Pu F_moves_many [clk] (.int (b * T : Nat))
  fa : ∀ t, t < T → Pu F_factor_at [clk, .int t] (.int (f t))
  f0 : f 0 % b = 1 % b
  fm : ∀ s t, s < T → t < T → f ((s + t) % T) % b = f s * f t % b
/-- the great common divisors, weight by weight -/
def gcds (c : Nat) (A : Nat → Int) : Nat → Nat
  | 0 => c
  | i + 1 => Nat.gcd (gcds c A i) (A i).natAbs
theorem gcds_one {A : Nat → Int} : ∀ i, gcds 1 A i = 1
  | 0 => rfl
  | i + 1 => by rw [gcds, gcds_one i]; exact Nat.gcd_one_left _
theorem norefs_V {n : Nat} {A : Nat → Int} : D.norefs (V n A) = true := by
  unfold V
  generalize List.range n = l
  induction l with
  | nil => rfl
  | cons a l ih => rw [List.map_cons, D.norefs, ih]; rfl
/-! comprehensions and loops over many -/
theorem W_compF {tg : GM} {tt : TM} {te : EM} {g : Guard} {env : Env} {Q : List D → MS → Prop} {items : List D} {s : MS} (n : Nat) (p : Nat → Bool) (h : Nat → D) (hl : items.length = n) (hg : gOk g s = true)
    (hs : ∀ i d, i < n → items[i]? = some d → W (tg d env s) fun env1 s1 => W (tt env1 s1) fun b s2 => b = p i ∧ s2 = s ∧ (p i = true → W (te env1 s) fun y s3 => y = h i ∧ s3 = s)) (he : Q (((List.range n).filter p).map h) s) : W (compL tg tt te g env items s) Q := by
  refine W_compL (fun i acc s' => i ≤ n ∧ acc = ((List.range i).filter p).map h ∧ s' = s) ⟨Nat.zero_le _, rfl, rfl⟩ (fun i acc s' ⟨_, _, e⟩ => by rw [e]; exact hg) (fun i d acc s' e ⟨h1, h2, h3⟩ => ?_) (fun acc s' ⟨h1, h2, h3⟩ => by rw [h2, h3, hl]; exact he)
  subst h3
  have hi : i < n := by rw [← hl]; exact (List.getElem?_eq_some_iff.mp e).1
  refine W_mono (hs i d hi e) fun env1 s1 h => W_mono h fun b s2 ⟨hb, h3, h4⟩ => ?_
  subst h3
  subst hb
  by_cases hp : p i = true
  · rw [if_pos hp]
    refine W_mono (h4 hp) fun y s3 ⟨h5, h6⟩ => ⟨hi, ?_, h6⟩
    rw [List.range_succ, List.filter_append, List.map_append, ← h2, List.filter_cons, if_pos hp, h5]
    rfl
  · rw [if_neg hp]
    refine ⟨hi, ?_, rfl⟩
    rw [List.range_succ, List.filter_append, List.map_append, ← h2, List.filter_cons, if_neg hp]
    simp
theorem W_compD {tg : GM} {tt : TM} {te : EM} {g : Guard} {env : Env} {Q : List D → MS → Prop} {items : List D} {s : MS} (n : Nat) (h : Nat → D) (hl : items.length = n) (hg : gOk g s = true)
    (hs : ∀ i d, i < n → items[i]? = some d → W (tg d env s) fun env1 s1 => W (tt env1 s1) fun b s2 => b = true ∧ s2 = s ∧ W (te env1 s) fun y s3 => y = h i ∧ s3 = s) (he : Q ((List.range n).map h) s) : W (compL tg tt te g env items s) Q := by
  refine W_compF n (fun _ => true) h hl hg (fun i d hi e => W_mono (hs i d hi e) fun env1 s1 h => W_mono h fun b s2 ⟨h1, h2, h3⟩ => ⟨h1, h2, fun _ => h3⟩) ?_
  rw [List.filter_eq_self.mpr fun _ _ => rfl]
  exact he
theorem W_compV {tg : GM} {tt : TM} {te : EM} {g : Guard} {env : Env} {Q : List D → MS → Prop} {items : List D} {s : MS} (n : Nat) (A : Nat → Int) (hl : items.length = n) (hg : gOk g s = true)
    (hs : ∀ i d, i < n → items[i]? = some d → W (tg d env s) fun env1 s1 => W (tt env1 s1) fun b s2 => b = true ∧ s2 = s ∧ W (te env1 s) fun y s3 => y = .int (A i) ∧ s3 = s) (he : Q (V n A) s) : W (compL tg tt te g env items s) Q :=
  W_compD n (fun i => .int (A i)) hl hg hs he
theorem W_forM {tg : GM} {body : SM} {g : Guard} {env : Env} {s : MS} {Q : Out → MS → Prop} (L : List Nat) (h : Nat → D) (I : List Nat → Env → MS → Prop) (h0 : I [] env s) (hg : ∀ l env s, I l env s → gOk g s = true)
    (hs : ∀ l j env s, j ∈ L → I l env s → W (tg (h j) env s) fun env1 s1 => W (body env1 s1) (turn Q (I (l ++ [j])))) (he : ∀ env s, I L env s → Q (.nx env) s) : W (forL tg body g (L.map h) env s) Q := by
  refine W_forL (fun i => I (L.take i)) h0 (fun i => hg _) (fun i d env s e hI => ?_) (fun env s hI => he env s (by rw [List.length_map, List.take_length] at hI; exact hI))
  rw [List.getElem?_map] at e
  cases hj : L[i]? with
  | none => rw [hj] at e; cases e
  | some j =>
    rw [hj] at e
    cases e
    have := hs (L.take i) j env s (List.mem_of_getElem? hj) hI
    rw [show L.take i ++ [j] = L.take (i + 1) by rw [List.take_succ, hj]; rfl] at this
    exact this
theorem st3 {q : Option (List Int × Int)} {a b : List D} {n : Nat} {A B : Nat → Int} (h : ∀ g, A g = B g) : (⟨q, [a, b, V n A]⟩ : MS) = ⟨q, [a, b, V n B]⟩ := by rw [funext h]
/-- a deal of bottom 1 -/
def dl (n : Nat) (A : Nat → Int) : D := .tup [.int 1, .tup (V n A)]
theorem noref_dl {n : Nat} {A : Nat → Int} : (dl n A).noref = true := by simp [dl, D.norefs, D.noref, norefs_V]
/-- the number of the one move, then the other -/
def gm (b T : Nat) (f : Nat → Nat) (x y : Nat) : Nat := (x / b + y / b) % T * b + (f (y / b) * (x % b) + y % b) % b
def cv (n : Nat) (m : Nat → Nat → Nat) (A B : Nat → Int) (g : Nat) : Int := S n fun x => S n fun y => if m x y = g then A x * B y else 0
def small (n : Nat) (A : Nat → Int) : Prop := ∀ i, i < n → (A i).natAbs < 18446744073709551616
section
variable {clk : D} {b T : Nat} {f : Nat → Nat} (K : CK clk b T f)
include K
theorem CK.gm_lt {x y : Nat} : gm b T f x y < b * T := by
  have h1 : (x / b + y / b) % T < T := Nat.mod_lt _ K.hT
  have h2 : (f (y / b) * (x % b) + y % b) % b < b := Nat.mod_lt _ K.hb
  unfold gm
  generalize (x / b + y / b) % T = u at *
  generalize (f (y / b) * (x % b) + y % b) % b = v at *
  have h3 : (u + 1) * b ≤ T * b := Nat.mul_le_mul_right b h1
  rw [Nat.add_mul, Nat.one_mul, Nat.mul_comm T b] at h3
  omega
theorem CK.b60 : b ≤ 60 := Nat.le_trans (Nat.le_mul_of_pos_right b K.hT) K.hn
theorem CK.T60 : T ≤ 60 := Nat.le_trans (Nat.le_mul_of_pos_left T K.hb) K.hn
theorem CK.div_lt {x : Nat} (h : x < b * T) : x / b < T := by
  rw [Nat.div_lt_iff_lt_mul K.hb, Nat.mul_comm]; exact h
theorem pu_is_deal {c : Nat} (hc : 0 < c) (A : Nat → Int) : Pu F_is_deal [clk, .tup [.int c, .tup (V (b * T) A)]] (.bl (decide (gcds c A (b * T) = 1))) := by
  refine .of (W_def ?_) (by simp [D.norefs, D.noref, K.nr, norefs_V]) rfl
  unfold b_is_deal
  repeat infer_instance
  refine W_pu (pu_is_integer _) ?_
  repeat infer_instance
  refine W_pu K.mm ?_
  repeat infer_instance
  refine W_forL (fun i env s => ∃ x, env = [some clk, some (.tup [.int c, .tup (V (b * T) A)]), some (.int c), some (.tup (V (b * T) A)), some (.int (gcds c A i)), x]) ⟨none, rfl⟩ (fun _ _ _ _ => rfl) (fun i d env s e ⟨x, hx⟩ => ?_) (fun env s ⟨x, hx⟩ => ?_)
  · subst hx
    obtain ⟨hi, rfl⟩ := V_get' e
    repeat infer_instance
    refine W_pu (pu_is_integer _) ?_
    repeat infer_instance
    exact W_some ⟨_, rfl⟩
  · subst hx
    rw [V_len]
    repeat infer_instance
    show D.bl (decide ((gcds c A (b * T) : Int) = 1)) = _
    congr 1
    rw [Bool.eq_iff_iff]
    simp
    omega
theorem pu_is_dl (A : Nat → Int) : Pu F_is_deal [clk, dl (b * T) A] (.bl true) := by
  have h := pu_is_deal K (c := 1) (by omega) A
  rw [gcds_one] at h
  exact h
theorem pu_want_deal (A : Nat → Int) (x : Str) : Pu F_want_deal [clk, dl (b * T) A, .str x] .non := by
  refine .of (W_def ?_) (by simp [D.norefs, D.noref, K.nr, noref_dl]) rfl
  unfold b_want_deal
  repeat infer_instance
  refine W_pu (pu_is_dl K A) ?_
  repeat infer_instance
theorem pu_judge_deal (A : Nat → Int) (x : Str) : Pu F_judge_deal [clk, dl (b * T) A, .str x] .non := by
  refine .of (W_def ?_) (by simp [D.norefs, D.noref, K.nr, noref_dl]) rfl
  unfold b_judge_deal
  repeat infer_instance
  refine W_pu (pu_is_dl K A) ?_
  repeat infer_instance
theorem pu_want_two (A B : Nat → Int) : Pu F_want_two [clk, dl (b * T) A, dl (b * T) B] .non := by
  refine .of (W_def ?_) (by simp [D.norefs, D.noref, K.nr, noref_dl]) rfl
  unfold b_want_two
  repeat infer_instance
  refine W_pu (pu_want_deal K A _) ?_
  repeat infer_instance
  refine W_pu (pu_want_deal K B _) ?_
  repeat infer_instance
theorem pu_settled (A : Nat → Int) : Pu F_settled [clk, .int 1, .tup (V (b * T) A)] (dl (b * T) A) := by
  refine .of (W_def ?_) (by simp [D.norefs, D.noref, K.nr, norefs_V]) noref_dl
  unfold b_settled
  repeat infer_instance
  refine W_pu (pu_is_integer _) ?_
  repeat infer_instance
  refine W_pu K.mm ?_
  repeat infer_instance
  refine W_some ?_
  repeat infer_instance
  refine W_forL (fun i env s => s = MS0 ∧ ∃ x, env = [some clk, some (.int 1), some (.tup (V (b * T) A)), some (.int 1), x]) ⟨rfl, none, rfl⟩ (fun _ _ _ _ => rfl) (fun i d env s e ⟨hs, x, hx⟩ => ?_) (fun env s ⟨hs, x, hx⟩ => ?_)
  · subst hx
    obtain ⟨hi, rfl⟩ := V_get' e
    repeat infer_instance
    refine W_pu (pu_is_integer _) ?_
    repeat infer_instance
    refine W_some ⟨hs, some (.int (A i)), ?_⟩
    rw [show ((Nat.gcd (1 : Int).natAbs (A i).natAbs : Nat) : Int) = 1 from by rw [show (1 : Int).natAbs = 1 from rfl, Nat.gcd_one_left]; rfl]
    rfl
  · subst hx
    repeat infer_instance
    refine ⟨by rw [V_len]; exact Nat.lt_of_le_of_lt K.hn (by omega), ?_⟩
    refine W_compV (b * T) A V_len rfl (fun i d hi e => ?_) ?_
    · obtain ⟨_, rfl⟩ := V_get' e
      repeat infer_instance
      refine ⟨rfl, rfl, ?_⟩
      repeat infer_instance
      exact ⟨congrArg D.int (Int.ediv_one _), rfl⟩
    · subst hs
      repeat infer_instance
def kron0 (g : Nat) : Int := if g = 0 then 1 else 0
theorem pu_idle : Pu F_idle_deal [clk] (dl (b * T) kron0) := by
  refine .of (W_def ?_) (by simp [D.norefs, D.noref, K.nr, norefs_V]) noref_dl
  unfold b_idle_deal
  repeat infer_instance
  refine W_pu K.mm ?_
  repeat infer_instance
  refine ⟨by have := K.hn; omega, ?_⟩
  repeat infer_instance
  refine ⟨by rw [rngItems_len]; have := K.hn; omega, ?_⟩
  refine W_compV (b * T) kron0 (by rw [rngItems_len]; rfl) rfl (fun i d hi e => ?_) ?_
  · obtain ⟨_, rfl⟩ := rng_at0 e
    by_cases h : i = 0
    · repeat infer_instance
      refine ⟨rfl, rfl, ?_⟩
      repeat infer_instance
      exact ⟨by rw [kron0, if_pos h], rfl⟩
    · repeat infer_instance
      refine ⟨rfl, rfl, ?_⟩
      repeat infer_instance
      exact ⟨by rw [kron0, if_neg h], rfl⟩
  · repeat infer_instance
def secs (n b : Nat) (B : Nat → Int) : List D := ((List.range n).filter fun i => decide (B i ≠ 0)).map fun (i : Nat) => D.tup [.int ((i / b : Nat) : Int), .int ((i % b : Nat) : Int), .int (B i)]
theorem pu_dealt (A B : Nat → Int) (hs : small (b * T) A ∨ small (b * T) B) : Pu F_dealt [clk, dl (b * T) A, dl (b * T) B] (dl (b * T) (cv (b * T) (gm b T f) A B)) := by
  have hn := K.hn
  have hb := K.hb
  have hT := K.hT
  have h6 := K.b60
  have h7 := K.T60
  obtain ⟨mv, rfl⟩ := K.ck
  refine .of (W_def ?_) (by have := K.nr; simp [D.norefs, noref_dl, this]) noref_dl
  unfold b_dealt
  repeat infer_instance
  refine W_pu (pu_want_two K A B) ?_
  repeat infer_instance
  refine W_pu K.tm ?_
  repeat infer_instance
  refine ⟨by omega, ?_⟩
  repeat infer_instance
  refine ⟨by rw [rngItems_len]; omega, ?_⟩
  refine W_compV T (fun t => (f t : Int)) (by rw [rngItems_len]; rfl) rfl (fun i d hi e => ?_) ?_
  · obtain ⟨_, rfl⟩ := rng_at0 e
    repeat infer_instance
    refine ⟨rfl, rfl, ?_⟩
    repeat infer_instance
    refine W_pu (K.fa i hi) ⟨rfl, rfl⟩
  repeat infer_instance
  refine ⟨by rw [enumL_len, V_len]; omega, ?_⟩
  refine W_compF (b * T) (fun i => decide (B i ≠ 0)) (fun (i : Nat) => D.tup [.int ((i / b : Nat) : Int), .int ((i % b : Nat) : Int), .int (B i)]) (by rw [enumL_len, V_len]) rfl (fun i d hi e => ?_) ?_
  · obtain ⟨_, rfl⟩ := enum_at e
    repeat infer_instance
    refine ⟨by simp, rfl, fun hp => ?_⟩
    repeat infer_instance
    exact ⟨rfl, rfl⟩
  repeat infer_instance
  refine ⟨by omega, ?_⟩
  refine ⟨by rw [rngItems_len]; omega, ?_⟩
  refine W_compV (b * T) (fun _ => 0) (by rw [rngItems_len]; rfl) rfl (fun i d hi e => ?_) ?_
  · obtain ⟨_, rfl⟩ := rng_at0 e
    repeat infer_instance
    refine ⟨rfl, rfl, ?_⟩
    repeat infer_instance
    exact ⟨rfl, rfl⟩
  repeat infer_instance
  refine W_forL (fun i env s => (∃ x8 x9 x10 x11 x12 x13 x14 x15 x16, env = [some (.tup [.int b, mv]), some (dl (b * T) A), some (dl (b * T) B), some (.int b), some (.int T), some (.ref 0), some (.ref 1), some (.ref 2), x8, x9, x10, x11, x12, x13, x14, x15, x16]) ∧
      s = ⟨none, [V T fun t => (f t : Int), secs (b * T) b B, V (b * T) fun g => S i fun x => S (b * T) fun y => if gm b T f x y = g then A x * B y else 0]⟩) ⟨⟨_, _, _, _, _, _, _, _, _, rfl⟩, rfl⟩ (fun _ _ _ _ => rfl) (fun i d env s e h => ?_) (fun env s h => ?_)
  · obtain ⟨⟨x8, x9, x10, x11, x12, x13, x14, x15, x16, rfl⟩, rfl⟩ := h
    obtain ⟨hi, rfl⟩ := enum_at e
    have hdi := K.div_lt hi
    by_cases h0 : A i = 0
    · repeat infer_instance
      refine ⟨⟨_, _, _, _, _, _, _, _, _, rfl⟩, ?_⟩
      refine st3 fun g => ?_
      rw [S_succ]
      have hz : (S (b * T) fun y => if gm b T f i y = g then A i * B y else 0) = 0 := by
        rw [S_congr (g := fun _ => 0) (fun y _ => by rw [h0, Int.zero_mul]; split <;> rfl), S_const0]
      omega
    · repeat infer_instance
      refine ⟨1, secs (b * T) b B, rfl, rfl, ?_⟩
      refine W_forM ((List.range (b * T)).filter fun i => decide (B i ≠ 0)) (fun (i : Nat) => D.tup [.int ((i / b : Nat) : Int), .int ((i % b : Nat) : Int), .int (B i)]) (fun l env s => (∃ x12 x13 x14 x15 x16, env = [some (.tup [.int b, mv]), some (dl (b * T) A), some (dl (b * T) B), some (.int b), some (.int T), some (.ref 0), some (.ref 1), some (.ref 2), some (.int i), some (.int (A i)), some (.int ((i / b : Nat) : Int)), some (.int ((i % b : Nat) : Int)), x12, x13, x14, x15, x16]) ∧
        s = ⟨none, [V T fun t => (f t : Int), secs (b * T) b B, V (b * T) fun g => (S i fun x => S (b * T) fun y => if gm b T f x y = g then A x * B y else 0) + lsum l fun y => if gm b T f i y = g then A i * B y else 0]⟩) ⟨⟨_, _, _, _, _, rfl⟩, ?_⟩ (fun l env s h => ?_) (fun l j env s hj h => ?_) (fun env s h => ?_)
      · refine st3 fun g => ?_
        rw [lsum_nil]; omega
      · obtain ⟨_, rfl⟩ := h
        exact gOk_of rfl
      · obtain ⟨⟨x12, x13, x14, x15, x16, rfl⟩, rfl⟩ := h
        have hj := List.mem_range.mp (List.mem_filter.mp hj).1
        have hdj := K.div_lt hj
        have hfj := K.hf _ hdj
        have hp : f (j / b) < 18446744073709551616 := by omega
        have hm : (A i).natAbs < 18446744073709551616 ∨ (B j).natAbs < 18446744073709551616 := by
          rcases hs with h | h
          · exact .inl (h i hi)
          · exact .inr (h j hj)
        have hg : gm b T f i j < b * T := K.gm_lt
        repeat infer_instance
        refine ⟨_, dSet_L rfl (by rw [V_len]; exact hg), ⟨_, _, _, _, _, rfl⟩, ?_⟩
        rw [V_set]
        refine st3 fun g => ?_
        show (if gm b T f i j = g then _ else _) = _
        rw [lsum_append, lsum_cons, lsum_nil]
        split
        · rename_i hgg
          show (S i fun x => S (b * T) fun y => if gm b T f x y = gm b T f i j then A x * B y else 0) + (lsum l fun y => if gm b T f i y = gm b T f i j then A i * B y else 0) + A i * B j = _
          rw [hgg]
          omega
        · omega
      · obtain ⟨⟨x12, x13, x14, x15, x16, rfl⟩, rfl⟩ := h
        refine ⟨⟨_, _, _, _, _, _, _, _, _, rfl⟩, ?_⟩
        refine st3 fun g => ?_
        rw [S_succ, lsum_filter]
        congr 1
        refine lsum_congr fun y _ => ?_
        by_cases hy : B y = 0
        · rw [hy, Int.mul_zero]
          simp
        · simp [hy]
  · obtain ⟨⟨x8, x9, x10, x11, x12, x13, x14, x15, x16, rfl⟩, rfl⟩ := h
    rw [enumL_len, V_len]
    repeat infer_instance
    refine W_pu (pu_settled K _) ?_
    repeat infer_instance
end
end Mir
/-! ## PM -/
set_option maxHeartbeats 200000
set_option Elab.async false
set_option linter.all false
set_option maxRecDepth 100000
/-! The plain law: products of vectors over a group's places. -/
namespace Mir
/-- places 0 .. n-1 with a product -/
structure Mon (n : Nat) (m : Nat → Nat → Nat) : Prop where
  pos : 0 < n
  lt : ∀ x, x < n → ∀ y, y < n → m x y < n
  assoc : ∀ x, x < n → ∀ y, y < n → ∀ z, z < n → m (m x y) z = m x (m y z)
  idl : ∀ y, y < n → m 0 y = y
  idr : ∀ x, x < n → m x 0 = x
/-- equal at the places -/
def Eqv (n : Nat) (A B : Nat → Int) : Prop := ∀ g, g < n → A g = B g
theorem Eqv.refl {n : Nat} (A : Nat → Int) : Eqv n A A := fun _ _ => rfl
theorem Eqv.symm {n : Nat} {A B : Nat → Int} (h : Eqv n A B) : Eqv n B A := fun g hg => (h g hg).symm
theorem Eqv.trans {n : Nat} {A B C : Nat → Int} (h : Eqv n A B) (k : Eqv n B C) : Eqv n A C := fun g hg => (h g hg).trans (k g hg)
theorem V_eqv {n : Nat} {A B : Nat → Int} (h : Eqv n A B) : V n A = V n B := V_ext h
theorem dl_eqv {n : Nat} {A B : Nat → Int} (h : Eqv n A B) : dl n A = dl n B := by unfold dl; rw [V_eqv h]
theorem cv_eqv {n : Nat} {m : Nat → Nat → Nat} {A A' B B' : Nat → Int} (h : Eqv n A A') (k : Eqv n B B') (g : Nat) : cv n m A B g = cv n m A' B' g :=
  S_congr fun x hx => S_congr fun y hy => by rw [h x hx, k y hy]
theorem cv_eqv' {n : Nat} {m : Nat → Nat → Nat} {A A' B B' : Nat → Int} (h : Eqv n A A') (k : Eqv n B B') : Eqv n (cv n m A B) (cv n m A' B') := fun g _ => cv_eqv h k g
theorem ite_mul' {p : Prop} [Decidable p] {a c : Int} : (if p then a else 0) * c = if p then a * c else 0 := by split <;> simp
theorem mul_ite' {p : Prop} [Decidable p] {a c : Int} : c * (if p then a else 0) = if p then c * a else 0 := by split <;> simp
section
variable {n : Nat} {m : Nat → Nat → Nat}
/-- weighed over a product -/
theorem push (hm : ∀ x, x < n → ∀ y, y < n → m x y < n) {A B : Nat → Int} (h : Nat → Int) : S n (fun u => h u * cv n m A B u) = S n fun x => S n fun y => h (m x y) * (A x * B y) := by
  have e1 : S n (fun u => h u * cv n m A B u) = S n fun u => S n fun x => S n fun y => if m x y = u then h u * (A x * B y) else 0 := S_congr fun u _ => by
    unfold cv
    rw [← S_mul]
    refine S_congr fun x _ => ?_
    rw [← S_mul]
    exact S_congr fun y _ => mul_ite'
  rw [e1, S_swap]
  refine S_congr fun x hx => ?_
  rw [S_swap]
  refine S_congr fun y hy => ?_
  exact S_at (hm x hx y hy) fun u => h u * (A x * B y)
theorem total_cv (hm : ∀ x, x < n → ∀ y, y < n → m x y < n) {A B : Nat → Int} : S n (cv n m A B) = S n A * S n B := by
  have e := push hm (A := A) (B := B) fun _ => 1
  rw [S_congr (g := cv n m A B) fun u _ => Int.one_mul _] at e
  rw [e, ← S_mulr]
  refine S_congr fun x _ => ?_
  rw [← S_mul]
  exact S_congr fun y _ => Int.one_mul _
theorem cv_assoc (M : Mon n m) {A B C : Nat → Int} (g : Nat) : cv n m (cv n m A B) C g = cv n m A (cv n m B C) g := by
  have e1 : cv n m (cv n m A B) C g = S n fun z => S n fun x => S n fun y => (if m (m x y) z = g then C z else 0) * (A x * B y) := by
    unfold cv
    rw [S_swap]
    refine S_congr fun z _ => ?_
    rw [← push M.lt fun u => if m u z = g then C z else 0]
    refine S_congr fun u _ => ?_
    rw [ite_mul', Int.mul_comm]
    rfl
  have e2 : cv n m A (cv n m B C) g = S n fun x => S n fun y => S n fun z => (if m x (m y z) = g then A x else 0) * (B y * C z) := by
    unfold cv
    refine S_congr fun x _ => ?_
    rw [← push M.lt fun v => if m x v = g then A x else 0]
    refine S_congr fun v _ => ?_
    rw [ite_mul']
    rfl
  rw [e1, e2, S_swap]
  refine S_congr fun x hx => ?_
  rw [S_swap]
  refine S_congr fun y hy => S_congr fun z hz => ?_
  rw [M.assoc x hx y hy z hz, ite_mul', ite_mul', Int.mul_comm (C z), Int.mul_assoc]
theorem cv_idl (M : Mon n m) {B : Nat → Int} : Eqv n (cv n m kron0 B) B := fun g hg => by
  have e : cv n m kron0 B g = S n fun x => if 0 = x then (S n fun y => if m x y = g then B y else 0) else 0 := by
    unfold cv
    refine S_congr fun x _ => ?_
    by_cases hx : 0 = x
    · rw [if_pos hx]
      subst hx
      exact S_congr fun y _ => by simp [kron0]
    · rw [if_neg hx]
      refine (S_congr (g := fun _ => 0) fun y _ => ?_).trans S_const0
      have hd : kron0 x = 0 := if_neg fun h => hx h.symm
      rw [hd, Int.zero_mul]
      split <;> rfl
  rw [e, S_at M.pos fun x => S n fun y => if m x y = g then B y else 0]
  refine Eq.trans ?_ (S_at hg B)
  refine S_congr fun y hy => ?_
  rw [M.idl y hy]
  by_cases h : g = y
  · rw [if_pos h, if_pos h.symm]
  · rw [if_neg h, if_neg fun q => h q.symm]
theorem cv_idr (M : Mon n m) {B : Nat → Int} : Eqv n (cv n m B kron0) B := fun g hg => by
  have e : cv n m B kron0 g = S n fun y => if 0 = y then (S n fun x => if m x y = g then B x else 0) else 0 := by
    unfold cv
    rw [S_swap]
    refine S_congr fun x _ => ?_
    by_cases hx : 0 = x
    · rw [if_pos hx]
      subst hx
      exact S_congr fun y _ => by simp [kron0]
    · rw [if_neg hx]
      refine (S_congr (g := fun _ => 0) fun y _ => ?_).trans S_const0
      have hd : kron0 x = 0 := if_neg fun h => hx h.symm
      rw [hd, Int.mul_zero]
      split <;> rfl
  rw [e, S_at M.pos fun y => S n fun x => if m x y = g then B x else 0]
  refine Eq.trans ?_ (S_at hg B)
  refine S_congr fun y hy => ?_
  rw [M.idr y hy]
  by_cases h : g = y
  · rw [if_pos h, if_pos h.symm]
  · rw [if_neg h, if_neg fun q => h q.symm]
/-- the k-th power, from the left; a row of vectors, from the left -/
def pwr (n : Nat) (m : Nat → Nat → Nat) (A : Nat → Int) : Nat → Nat → Int
  | 0 => kron0
  | k + 1 => cv n m (pwr n m A k) A
def rowp (n : Nat) (m : Nat → Nat → Nat) (E : Nat → Nat → Int) : Nat → Nat → Int
  | 0 => E 0
  | k + 1 => cv n m (rowp n m E k) (E (k + 1))
theorem pwr_one (M : Mon n m) {A : Nat → Int} : Eqv n (pwr n m A 1) A := cv_idl M
theorem pwr_add (M : Mon n m) {A : Nat → Int} (r : Nat) : ∀ p, Eqv n (cv n m (pwr n m A r) (pwr n m A p)) (pwr n m A (r + p))
  | 0 => cv_idr M
  | p + 1 => by
    refine Eqv.trans (fun g _ => (cv_assoc M g).symm) ?_
    exact cv_eqv' (pwr_add M r p) (.refl A)
theorem rowp_pwr (M : Mon n m) {A : Nat → Int} : ∀ k, Eqv n (rowp n m (fun _ => A) k) (pwr n m A (k + 1))
  | 0 => (pwr_one M).symm
  | k + 1 => cv_eqv' (rowp_pwr M k) (.refl A)
theorem total_rowp (hm : ∀ x, x < n → ∀ y, y < n → m x y < n) {E : Nat → Nat → Int} (k : Nat) : S n (rowp n m E (k + 1)) = S n (rowp n m E k) * S n (E (k + 1)) := total_cv hm
theorem total_pow (hm : ∀ x, x < n → ∀ y, y < n → m x y < n) {A : Nat → Int} : ∀ k, S n (rowp n m (fun _ => A) k) = S n A ^ (k + 1)
  | 0 => by rw [Int.pow_succ, Int.pow_zero, Int.one_mul]; rfl
  | k + 1 => by rw [total_rowp hm, total_pow hm k, ← Int.pow_succ]
end
/-! ### the level vectors -/
def Lev (n : Nat) (A : Nat → Int) : Prop := ∀ i, i < n → A i = A 0
def evn (n : Nat) (A : Nat → Int) : Bool := (List.range n).all fun i => decide (A i = A 0)
theorem evn_iff {n : Nat} {A : Nat → Int} : evn n A = true ↔ Lev n A := by
  unfold evn Lev
  rw [List.all_eq_true]
  constructor
  · intro h i hi
    exact of_decide_eq_true (h i (List.mem_range.mpr hi))
  · intro h i hi
    exact decide_eq_true (h i (List.mem_range.mp hi))
theorem Lev.eqv {n : Nat} {A B : Nat → Int} (h : Lev n A) (e : Eqv n A B) : Lev n B := fun i hi => by
  rw [← e i hi, ← e 0 (Nat.lt_of_le_of_lt (Nat.zero_le i) hi)]
  exact h i hi
theorem evn_eqv {n : Nat} {A B : Nat → Int} (e : Eqv n A B) : evn n A = evn n B := by
  rw [Bool.eq_iff_iff, evn_iff, evn_iff]
  exact ⟨fun h => h.eqv e, fun h => h.eqv e.symm⟩
theorem S_const {n : Nat} (c : Int) : S n (fun _ => c) = n * c := by
  induction n with
  | zero => simp [S_zero]
  | succ n ih => rw [S_succ, ih, Int.natCast_add, Int.add_mul]; simp
theorem Lev.total {n : Nat} {A : Nat → Int} (h : Lev n A) : S n A = n * A 0 := by
  rw [S_congr h, S_const]
/-! ### over an abelian group, no vector but 0 has a power 0 -/
structure Abel (n : Nat) (m : Nat → Nat → Nat) (inv : Nat → Nat) : Prop extends Mon n m where
  comm : ∀ x, x < n → ∀ y, y < n → m x y = m y x
  ilt : ∀ x, x < n → inv x < n
  ii : ∀ x, x < n → inv (inv x) = x
  im : ∀ x, x < n → ∀ y, y < n → inv (m x y) = m (inv y) (inv x)
  iu : ∀ x, x < n → ∀ y, y < n → (m x y = 0 ↔ inv x = y)
section
variable {n : Nat} {m : Nat → Nat → Nat} {inv : Nat → Nat}
theorem S_inv (G : Abel n m inv) (h : Nat → Int) : S n (fun x => h (inv x)) = S n h := by
  have e1 : S n (fun x => h (inv x)) = S n fun x => S n fun u => if inv x = u then h u else 0 := S_congr fun x hx => (S_at (G.ilt x hx) h).symm
  rw [e1, S_swap]
  refine S_congr fun u hu => ?_
  refine Eq.trans ?_ (S_at (G.ilt u hu) fun _ => h u)
  refine S_congr fun x hx => ?_
  by_cases e : inv x = u
  · rw [if_pos e, if_pos (by rw [← e, G.ii x hx])]
  · rw [if_neg e, if_neg fun q => e (by rw [← q, G.ii u hu])]
theorem cv_comm (G : Abel n m inv) {A B : Nat → Int} (g : Nat) : cv n m A B g = cv n m B A g := by
  unfold cv
  rw [S_swap]
  exact S_congr fun y hy => S_congr fun x hx => by rw [G.comm x hx y hy, Int.mul_comm]
def star (inv : Nat → Nat) (A : Nat → Int) (g : Nat) : Int := A (inv g)
theorem cv_zero (G : Abel n m inv) {A B : Nat → Int} : cv n m A B 0 = S n fun x => A x * B (inv x) := by
  unfold cv
  refine S_congr fun x hx => ?_
  refine Eq.trans ?_ (S_at (G.ilt x hx) fun y => A x * B y)
  refine S_congr fun y hy => ?_
  by_cases h : inv x = y
  · rw [if_pos h, if_pos ((G.iu x hx y hy).mpr h)]
  · rw [if_neg h, if_neg fun q => h ((G.iu x hx y hy).mp q)]
theorem star_cv (G : Abel n m inv) {A B : Nat → Int} {g : Nat} (hg : g < n) : cv n m A B (inv g) = cv n m (star inv B) (star inv A) g := by
  unfold cv star
  rw [S_swap, ← S_inv G fun j => S n fun i => if m i j = inv g then A i * B j else 0]
  refine S_congr fun x hx => ?_
  rw [← S_inv G fun i => if m i (inv x) = inv g then A i * B (inv x) else 0]
  refine S_congr fun y hy => ?_
  have e : m (inv y) (inv x) = inv g ↔ m x y = g := by
    rw [← G.im x hx y hy]
    constructor
    · intro h
      rw [← G.ii _ (G.lt x hx y hy), h, G.ii g hg]
    · intro h
      rw [h]
  by_cases h : m x y = g
  · rw [if_pos h, if_pos (e.mpr h), Int.mul_comm]
  · rw [if_neg h, if_neg fun q => h (e.mp q)]
theorem sq_nonneg' (a : Int) : 0 ≤ a * a := by
  rcases Int.le_total 0 a with h | h
  · exact Int.mul_nonneg h h
  · exact Int.mul_nonneg_of_nonpos_of_nonpos h h
theorem S_sq {A : Nat → Int} : ∀ {n : Nat}, 0 ≤ S n (fun x => A x * A x) ∧ (S n (fun x => A x * A x) = 0 → ∀ i, i < n → A i = 0)
  | 0 => ⟨Int.le_refl _, fun _ i hi => by omega⟩
  | n + 1 => by
    obtain ⟨h1, h2⟩ := S_sq (A := A) (n := n)
    have h3 := sq_nonneg' (A n)
    rw [S_succ]
    refine ⟨by omega, fun e i hi => ?_⟩
    by_cases hin : i = n
    · subst hin
      have : A i * A i = 0 := by omega
      rcases Int.mul_eq_zero.mp this with h | h <;> exact h
    · exact h2 (by omega) i (by omega)
theorem cv_zl {A B : Nat → Int} (h : Eqv n A fun _ => 0) (g : Nat) : cv n m A B g = 0 := by
  rw [cv_eqv h (.refl B)]
  unfold cv
  rw [S_congr (g := fun _ => 0), S_const0]
  intro x _
  rw [S_congr (g := fun _ => 0), S_const0]
  intro y _
  rw [Int.zero_mul]
  split <;> rfl
theorem sq_zero (G : Abel n m inv) {Y : Nat → Int} (h : Eqv n (cv n m Y Y) fun _ => 0) : Eqv n Y fun _ => 0 := by
  have hZs : ∀ x, x < n → cv n m Y (star inv Y) (inv x) = cv n m Y (star inv Y) x := fun x hx => by
    rw [star_cv G hx]
    exact cv_eqv (fun g hg => by show Y (inv (inv g)) = Y g; rw [G.ii g hg]) (.refl _) x
  have hZ2 : ∀ g, cv n m (cv n m Y (star inv Y)) (cv n m Y (star inv Y)) g = 0 := fun g => by
    have e1 : cv n m (cv n m Y (star inv Y)) (cv n m Y (star inv Y)) g = cv n m (cv n m Y Y) (cv n m (star inv Y) (star inv Y)) g := by
      rw [cv_assoc G.toMon, cv_assoc G.toMon]
      refine cv_eqv (.refl Y) (fun u hu => ?_) g
      rw [← cv_assoc G.toMon, ← cv_assoc G.toMon]
      exact cv_eqv (fun v hv => cv_comm G v) (.refl _) u
    rw [e1]
    exact cv_zl h g
  have hZ : ∀ i, i < n → cv n m Y (star inv Y) i = 0 := by
    have e := cv_zero G (A := cv n m Y (star inv Y)) (B := cv n m Y (star inv Y))
    rw [hZ2 0, S_congr (g := fun x => cv n m Y (star inv Y) x * cv n m Y (star inv Y) x) fun x hx => by rw [hZs x hx]] at e
    exact S_sq.2 e.symm
  have e := cv_zero G (A := Y) (B := star inv Y)
  rw [hZ 0 G.pos, S_congr (g := fun x => Y x * Y x) fun x hx => by show Y x * Y (inv (inv x)) = _; rw [G.ii x hx]] at e
  exact S_sq.2 e.symm
/-- the differences along a -/
def dif (m : Nat → Nat → Nat) (a : Nat) (A : Nat → Int) (g : Nat) : Int := A g - A (m g a)
end
end Mir
/-! ## PN -/
set_option maxHeartbeats 200000
set_option Elab.async false
set_option linter.all false
set_option maxRecDepth 100000
/-! The plain law: a power that is level; folds; the clocks' places. -/
namespace Mir
section
variable {n : Nat} {m : Nat → Nat → Nat} {inv : Nat → Nat}
theorem Abel.ml (G : Abel n m inv) {y : Nat} (hy : y < n) : m y (inv y) = 0 := (G.iu y hy (inv y) (G.ilt y hy)).mpr rfl
theorem Abel.il (G : Abel n m inv) {y : Nat} (hy : y < n) : m (inv y) y = 0 := (G.iu (inv y) (G.ilt y hy) y hy).mpr (G.ii y hy)
theorem Abel.iv (G : Abel n m inv) {x y g : Nat} (hx : x < n) (hy : y < n) (hg : g < n) : m x y = g ↔ m g (inv y) = x := by
  constructor
  · intro h
    rw [← h, G.assoc x hx y hy _ (G.ilt y hy), G.ml hy, G.idr x hx]
  · intro h
    rw [← h, G.assoc g hg _ (G.ilt y hy) y hy, G.il hy, G.idr g hg]
theorem cv_by (G : Abel n m inv) {A B : Nat → Int} {g : Nat} (hg : g < n) : cv n m A B g = S n fun y => A (m g (inv y)) * B y := by
  unfold cv
  rw [S_swap]
  refine S_congr fun y hy => ?_
  refine Eq.trans ?_ (S_at (G.lt g hg _ (G.ilt y hy)) fun x => A x * B y)
  refine S_congr fun x hx => ?_
  by_cases h : m x y = g
  · rw [if_pos h, if_pos ((G.iv hx hy hg).mp h)]
  · rw [if_neg h, if_neg fun q => h ((G.iv hx hy hg).mpr q)]
theorem cv_lev0 (G : Abel n m inv) {P U : Nat → Int} (h : Lev n P) (hu : S n U = 0) : Eqv n (cv n m P U) fun _ => 0 := fun g hg => by
  rw [cv_by G hg, S_congr (g := fun y => P 0 * U y) fun y hy => by rw [h _ (G.lt g hg _ (G.ilt y hy))], S_mul, hu, Int.mul_zero]
theorem cv_zr {A B : Nat → Int} (h : Eqv n B fun _ => 0) (g : Nat) : cv n m A B g = 0 := by
  rw [cv_eqv (.refl A) h]
  unfold cv
  rw [S_congr (g := fun _ => 0), S_const0]
  intro x _
  rw [S_congr (g := fun _ => 0), S_const0]
  intro y _
  rw [Int.mul_zero]
  split <;> rfl
theorem pwr_cv (G : Abel n m inv) {X U : Nat → Int} : ∀ k, Eqv n (pwr n m (cv n m X U) k) (cv n m (pwr n m X k) (pwr n m U k))
  | 0 => fun g hg => by
    show kron0 g = cv n m kron0 kron0 g
    rw [cv_idl G.toMon g hg]
  | k + 1 => fun g hg => by
    show cv n m (pwr n m (cv n m X U) k) (cv n m X U) g = cv n m (cv n m (pwr n m X k) X) (cv n m (pwr n m U k) U) g
    rw [cv_eqv (pwr_cv G k) (.refl _), cv_assoc G.toMon, cv_assoc G.toMon]
    refine cv_eqv (.refl _) (fun u hu => ?_) g
    rw [← cv_assoc G.toMon, ← cv_assoc G.toMon]
    exact cv_eqv (fun v hv => cv_comm G v) (.refl _) u
theorem kron0_eq (y : Nat) : kron0 y = if 0 = y then 1 else 0 := by
  unfold kron0
  by_cases h : y = 0
  · rw [if_pos h, if_pos h.symm]
  · rw [if_neg h, if_neg fun q => h q.symm]
theorem lev_of_pow (G : Abel n m inv) {X : Nat → Int} {k : Nat} (hk : k + 1 ≤ 8) (h : Lev n (pwr n m X (k + 1))) : Lev n X := by
  intro b hb
  have M := G.toMon
  let U : Nat → Int := fun y => kron0 y - if b = y then 1 else 0
  have hu : S n U = 0 := by
    have e : S n U = S n (fun y => if 0 = y then 1 else 0) + S n (fun y => (-1) * if b = y then 1 else 0) := by
      rw [← S_add]
      refine S_congr fun y _ => ?_
      show kron0 y - (if b = y then (1 : Int) else 0) = _
      rw [kron0_eq]
      generalize (if 0 = y then (1 : Int) else 0) = u
      generalize (if b = y then (1 : Int) else 0) = w
      omega
    rw [e, S_mul, S_at G.pos fun _ => (1 : Int), S_at hb fun _ => (1 : Int)]
    rfl
  have h1 : Eqv n (pwr n m (cv n m X U) (k + 1)) fun _ => 0 := fun g hg => by
    rw [pwr_cv G (k + 1) g hg]
    have e : Eqv n (pwr n m U (k + 1)) (cv n m U (pwr n m U k)) := fun v _ => cv_comm G v
    rw [cv_eqv (.refl _) e, ← cv_assoc M]
    exact cv_zl (cv_lev0 G h hu) g
  have h8 : Eqv n (pwr n m (cv n m X U) 8) fun _ => 0 := fun g hg => by
    have e := pwr_add M (A := cv n m X U) (k + 1) (8 - (k + 1)) g hg
    rw [show k + 1 + (8 - (k + 1)) = 8 by omega] at e
    rw [← e]
    exact cv_zl h1 g
  have half : ∀ j, Eqv n (pwr n m (cv n m X U) (j + j)) (fun _ => 0) → Eqv n (pwr n m (cv n m X U) j) fun _ => 0 := fun j hj =>
    sq_zero G fun g hg => by rw [pwr_add M j j g hg]; exact hj g hg
  have hD : Eqv n (cv n m X U) fun _ => 0 := ((pwr_one M).symm).trans (half 1 (half 2 (half 4 h8)))
  have e := hD b hb
  rw [cv_by G hb] at e
  have e2 : S n (fun y => X (m b (inv y)) * U y) = S n (fun y => if 0 = y then X (m b (inv y)) else 0) + S n (fun y => (-1) * if b = y then X (m b (inv y)) else 0) := by
    rw [← S_add]
    refine S_congr fun y _ => ?_
    show X (m b (inv y)) * (kron0 y - (if b = y then (1 : Int) else 0)) = _
    rw [kron0_eq, Int.mul_sub, mul_ite', mul_ite', Int.mul_one]
    generalize (if 0 = y then X (m b (inv y)) else 0) = u
    generalize (if b = y then X (m b (inv y)) else 0) = w
    omega
  have i0 : inv 0 = 0 := (G.iu 0 G.pos 0 G.pos).mp (G.idl 0 G.pos)
  rw [e2, S_mul, S_at G.pos fun y => X (m b (inv y)), S_at hb fun y => X (m b (inv y)), i0, G.idr b hb, G.ml hb] at e
  have e : X b + (-1) * X 0 = 0 := e
  omega
end
/-! ### folds -/
structure Fold (n : Nat) (m : Nat → Nat → Nat) (q : Nat) (m' : Nat → Nat → Nat) (φ : Nat → Nat) (c : Nat) : Prop where
  lt : ∀ x, x < n → φ x < q
  hom : ∀ x, x < n → ∀ y, y < n → φ (m x y) = m' (φ x) (φ y)
  cnt : ∀ p, p < q → S n (fun x => if φ x = p then 1 else 0) = c
  nq : n = q * c
def fold (n : Nat) (φ : Nat → Nat) (A : Nat → Int) (p : Nat) : Int := S n fun x => if φ x = p then A x else 0
section
variable {n q c : Nat} {m m' : Nat → Nat → Nat} {φ : Nat → Nat} (F : Fold n m q m' φ c)
include F
theorem fold_push {A : Nat → Int} (h : Nat → Int) : S q (fun p => h p * fold n φ A p) = S n fun x => h (φ x) * A x := by
  have e : S q (fun p => h p * fold n φ A p) = S q fun p => S n fun x => if φ x = p then h p * A x else 0 := S_congr fun p _ => by
    unfold fold
    rw [← S_mul]
    exact S_congr fun x _ => mul_ite'
  rw [e, S_swap]
  exact S_congr fun x hx => S_at (F.lt x hx) fun p => h p * A x
theorem fold_total {A : Nat → Int} : S q (fold n φ A) = S n A := by
  have e := fold_push F (A := A) fun _ => 1
  rw [S_congr (g := fold n φ A) fun u _ => Int.one_mul _] at e
  rw [e]
  exact S_congr fun u _ => Int.one_mul _
theorem fold_cv (hm : ∀ x, x < n → ∀ y, y < n → m x y < n) {A B : Nat → Int} (p : Nat) : fold n φ (cv n m A B) p = cv q m' (fold n φ A) (fold n φ B) p := by
  have e1 : fold n φ (cv n m A B) p = S n fun u => (if φ u = p then 1 else 0) * cv n m A B u := S_congr fun u _ => by split <;> simp
  have e2 : cv q m' (fold n φ A) (fold n φ B) p = S n fun x => S n fun y => (if m' (φ x) (φ y) = p then A x else 0) * B y := by
    have e3 : cv q m' (fold n φ A) (fold n φ B) p = S q fun u => (S n fun y => if m' u (φ y) = p then B y else 0) * fold n φ A u := by
      unfold cv
      refine S_congr fun u _ => ?_
      have e4 := fold_push F (A := B) fun r => (if m' u r = p then 1 else 0) * fold n φ A u
      have e5 : S n (fun y => (if m' u (φ y) = p then 1 else 0) * fold n φ A u * B y) = S n fun y => (if m' u (φ y) = p then B y else 0) * fold n φ A u := S_congr fun y _ => by
        rw [Int.mul_assoc, Int.mul_comm (fold n φ A u), ← Int.mul_assoc]
        split <;> simp
      rw [← S_mulr, ← e5, ← e4]
      refine S_congr fun r _ => ?_
      split <;> simp
    rw [e3, fold_push F]
    refine S_congr fun x _ => ?_
    rw [← S_mulr]
    refine S_congr fun y _ => ?_
    split <;> simp [Int.mul_comm]
  rw [e1, push hm, e2]
  refine S_congr fun x hx => S_congr fun y hy => ?_
  rw [F.hom x hx y hy]
  split <;> simp
theorem fold_lev {A : Nat → Int} (h : Lev n A) : Lev q (fold n φ A) := fun i hi => by
  have e : ∀ p, p < q → fold n φ A p = A 0 * c := fun p hp => by
    rw [← F.cnt p hp, ← S_mul]
    refine S_congr fun x hx => ?_
    rw [h x hx]
    split <;> simp
  rw [e i hi, e 0 (by omega)]
theorem fold_rowp (hm : ∀ x, x < n → ∀ y, y < n → m x y < n) {A : Nat → Int} : ∀ k, Eqv q (fold n φ (rowp n m (fun _ => A) k)) (rowp q m' (fun _ => fold n φ A) k)
  | 0 => .refl _
  | k + 1 => fun p _ => by
    show fold n φ (cv n m _ _) p = cv q m' _ _ p
    rw [fold_cv F hm]
    exact cv_eqv (fold_rowp hm k) (.refl _) p
end
/-! ### powers and divisors -/
def sqf (n : Nat) : Bool := (List.range n).all fun r => (List.range 8).all fun k => r == 0 || decide (r ^ (k + 1) % n ≠ 0)
theorem pow_emod (t n : Int) : ∀ k : Nat, t ^ k % n = (t % n) ^ k % n
  | 0 => by rw [Int.pow_zero, Int.pow_zero]
  | k + 1 => by rw [Int.pow_succ, Int.mul_emod, pow_emod t n k, ← Int.mul_emod, Int.pow_succ, Int.mul_emod, Int.mul_emod ((t % n) ^ k) (t % n), Int.emod_emod_of_dvd _ (Int.dvd_refl n)]
theorem sqf_dvd {n : Nat} (hn : 0 < n) (h : sqf n = true) {t v : Int} {k : Nat} (hk : k < 8) (e : t ^ (k + 1) = n * v) : t % n = 0 := by
  have h0 : 0 ≤ t % (n : Int) := Int.emod_nonneg _ (by omega)
  have h1 : t % (n : Int) < n := Int.emod_lt_of_pos _ (by omega)
  have e2 := pow_emod t n (k + 1)
  rw [e, Int.mul_emod_right] at e2
  obtain ⟨r, hr⟩ := Int.eq_ofNat_of_zero_le h0
  rw [hr] at e2 h1 ⊢
  have hr' : r < n := by omega
  unfold sqf at h
  have h3 := List.all_eq_true.mp (List.all_eq_true.mp h r (List.mem_range.mpr hr')) k (List.mem_range.mpr hk)
  rw [Bool.or_eq_true, decide_eq_true_iff] at h3
  rcases h3 with h3 | h3
  · have : r = 0 := by simpa using h3
    omega
  · exfalso
    apply h3
    have : ((r ^ (k + 1) % n : Nat) : Int) = 0 := by
      rw [Int.natCast_emod, Int.natCast_pow]
      exact e2.symm
    omega
/-- what a level power says -/
theorem power_says {n q c : Nat} {m m' : Nat → Nat → Nat} {φ inv : Nat → Nat} (hm : Mon n m) (F : Fold n m q m' φ c) (G : Abel q m' inv) (hs : sqf n = true) {A : Nat → Int} {k : Nat} (hk : k + 1 ≤ 8) (h : Lev n (rowp n m (fun _ => A) k)) :
    S n A % n = 0 ∧ Lev q (fold n φ A) ∧ ∀ p, p < q → fold n φ A p % c = 0 := by
  have hd : S n A % n = 0 := by
    have e := h.total
    rw [total_pow hm.lt] at e
    exact sqf_dvd hm.pos hs (by omega) e
  have hl : Lev q (fold n φ A) := by
    refine lev_of_pow G hk ?_
    exact (fold_lev F h).eqv ((fold_rowp F hm.lt k).trans (rowp_pwr G.toMon k))
  refine ⟨hd, hl, fun p hp => ?_⟩
  rw [hl p hp]
  have e := hl.total
  rw [fold_total F] at e
  obtain ⟨z, hz⟩ := Int.dvd_of_emod_eq_zero hd
  rw [hz, show (n : Int) = (q : Int) * c from by rw [← Int.natCast_mul, ← F.nq], Int.mul_assoc] at e
  have hq : (q : Int) ≠ 0 := by have := G.pos; omega
  have e2 := Int.eq_of_mul_eq_mul_left hq e
  rw [← e2]
  exact Int.mul_emod_right _ _
end Mir
/-! ## PD -/
set_option maxHeartbeats 200000
set_option Elab.async false
set_option linter.all false
set_option maxRecDepth 100000
/-! The plain law: the clocks' places; powers, rows of deals as the package tells them. -/
namespace Mir
open PySem PySem.Spec PyProof.Rows L2
local macro_rules | `(tactic| infer_instance) => `(tactic| first
  | with_reducible apply W_sSeq | with_reducible apply W_sSet | with_reducible apply SK_nx | with_reducible apply SK_rt | ((with_reducible apply Y_eVar); rfl) | with_reducible apply W_eC | with_reducible apply W_aCons | with_reducible apply W_aNil | with_reducible apply W_e2 | with_reducible apply W_e1 | with_reducible apply W_eCB
  | ((with_reducible apply Y_mulN); omega) | ((with_reducible apply Y_divN); omega) | ((with_reducible apply Y_modN); omega) | with_reducible apply W_addN | ((with_reducible apply Y_ret); rfl) | ((with_reducible apply Y_mulI); omega) | ((with_reducible apply Y_divI); omega) | ((with_reducible apply Y_modI); omega)
  | with_reducible apply W_tOf | with_reducible apply W_tNot | with_reducible apply W_tAnd | with_reducible apply W_tOr | with_reducible apply W_tYes | with_reducible apply W_eAnd | with_reducible apply W_eOr | with_reducible apply W_eNot | with_reducible apply W_eIf | with_reducible apply W_eIx | with_reducible apply W_eTup | with_reducible apply W_eLst
  | with_reducible apply W_sIf | with_reducible apply W_sRet | with_reducible apply W_sDrop | with_reducible apply W_sNil | with_reducible apply W_sAsg | with_reducible apply W_sPar | with_reducible apply W_sAugIx | with_reducible apply W_sFor | with_reducible apply W_gtName | ((with_reducible apply Y_gtTup); rfl) | with_reducible apply W_gtCons | with_reducible apply W_gtNil | with_reducible apply W_gtSub
  | with_reducible apply W_iTup | with_reducible apply W_iRng1 | with_reducible apply W_iRng2 | with_reducible apply W_iEnum | with_reducible apply W_iLst | with_reducible apply W_eComp | with_reducible apply W_eApp
  | (with_reducible apply Y_lenV) | ((with_reducible apply Y_lenT); rfl) | ((with_reducible apply ite_t); exact rfl) | ((with_reducible apply ite_f); exact rfl) | ((with_reducible apply ite_t); exact decide_eq_true (by omega)) | ((with_reducible apply ite_f); exact decide_eq_false (by omega)) | ((with_reducible apply ite_t); exact not_t (decide_eq_false (by omega))) | ((with_reducible apply ite_f); exact not_f (decide_eq_true (by omega)))
   | ((with_reducible apply Y_ixLV); (rfl); (first | assumption | omega)) | ((with_reducible apply Y_ixTV); (first | assumption | omega)) | ((with_reducible apply Y_ixTV0); (first | assumption | omega)) | ((with_reducible apply Y_ixLV0); (rfl); (first | assumption | omega)) | ((with_reducible apply W_tupL); rfl) | with_reducible refine ⟨_, rfl, ?_⟩ | exact rfl | refine ⟨(Nat.le_of_ble_eq_true rfl : List.length _ ≤ 1000), ?_⟩)
theorem pack_div {b u v : Nat} (h : v < b) : (u * b + v) / b = u := by
  rw [Nat.add_comm, Nat.add_mul_div_right _ _ (by omega), Nat.div_eq_of_lt h]; omega
theorem pack_mod {b u v : Nat} (h : v < b) : (u * b + v) % b = v := by
  rw [Nat.add_comm, Nat.add_mul_mod_self_right, Nat.mod_eq_of_lt h]
section
variable {clk : D} {b T : Nat} {f : Nat → Nat} (K : CK clk b T f)
include K
theorem CK.mon : Mon (b * T) (gm b T f) := by
  have hb := K.hb
  have hT := K.hT
  have dv : ∀ x y, gm b T f x y / b = (x / b + y / b) % T := fun x y => pack_div (Nat.mod_lt _ hb)
  have md : ∀ x y, gm b T f x y % b = (f (y / b) * (x % b) + y % b) % b := fun x y => pack_mod (Nat.mod_lt _ hb)
  refine ⟨Nat.mul_pos hb hT, fun x _ y _ => K.gm_lt, fun x hx y hy z hz => ?_, fun y hy => ?_, fun x hx => ?_⟩
  · have e : ∀ x y, gm b T f x y = gm b T f x y / b * b + gm b T f x y % b := fun x y => by rw [Nat.mul_comm]; exact (Nat.div_add_mod _ _).symm
    rw [e (gm b T f x y) z, e x (gm b T f y z)]
    simp only [dv, md]
    have e1 : ((x / b + y / b) % T + z / b) % T = (x / b + (y / b + z / b) % T) % T := by
      rw [Nat.mod_add_mod, Nat.add_mod_mod, Nat.add_assoc]
    have e2 : (f (z / b) * ((f (y / b) * (x % b) + y % b) % b) + z % b) % b = (f ((y / b + z / b) % T) * (x % b) + (f (z / b) * (y % b) + z % b) % b) % b := by
      have h := K.fm (y / b) (z / b) (K.div_lt hy) (K.div_lt hz)
      generalize x % b = a
      generalize y % b = c
      generalize z % b = d
      generalize f (y / b) = p at *
      generalize f (z / b) = r at *
      generalize f ((y / b + z / b) % T) = w at *
      have l : (r * ((p * a + c) % b) + d) % b = (r * (p * a + c) + d) % b := by
        rw [Nat.add_mod, Nat.mul_mod, Nat.mod_mod, ← Nat.mul_mod, ← Nat.add_mod]
      have q : (w * a + (r * c + d) % b) % b = (p * r * a + (r * c + d)) % b := by
        rw [Nat.add_mod_mod, Nat.add_mod, Nat.mul_mod, h, ← Nat.mul_mod, ← Nat.add_mod]
      rw [l, q, Nat.mul_add, Nat.add_assoc, Nat.mul_comm p r, Nat.mul_assoc]
    rw [e1, e2]
  · unfold gm
    rw [Nat.zero_div, Nat.zero_mod, Nat.zero_add, Nat.mul_zero, Nat.zero_add, Nat.mod_eq_of_lt (K.div_lt hy), Nat.mod_mod, Nat.mul_comm]
    exact Nat.div_add_mod _ _
  · unfold gm
    rw [Nat.zero_div, Nat.zero_mod, Nat.add_zero, Nat.add_zero, Nat.mod_eq_of_lt (K.div_lt hx), Nat.mul_mod, K.f0, ← Nat.mul_mod, Nat.one_mul, Nat.mod_mod, Nat.mul_comm]
    exact Nat.div_add_mod _ _
theorem CK.npos : 0 < b * T := Nat.mul_pos K.hb K.hT
theorem pu_is_even (A : Nat → Int) : Pu F_is_even [clk, dl (b * T) A] (.bl (evn (b * T) A)) := by
  have hp := K.npos
  have hn := K.hn
  refine .of (W_def ?_) (by simp [D.norefs, D.noref, K.nr, noref_dl]) rfl
  unfold b_is_even
  repeat infer_instance
  refine W_pu (pu_want_deal K A _) ?_
  repeat infer_instance
  refine ⟨by rw [V_len]; omega, ?_⟩
  refine W_compD (b * T) (fun i => .bl (decide (A i = A 0))) V_len rfl (fun i d hi e => ?_) ?_
  · obtain ⟨_, rfl⟩ := V_get' e
    repeat infer_instance
    refine ⟨rfl, rfl, ?_⟩
    repeat infer_instance
    exact ⟨rfl, rfl⟩
  · have e : asBls ((List.range (b * T)).map fun i => D.bl (decide (A i = A 0))) = some ((List.range (b * T)).map fun i => decide (A i = A 0)) := by
      have e2 : ((List.range (b * T)).map fun i => D.bl (decide (A i = A 0))) = ((List.range (b * T)).map fun i => decide (A i = A 0)).map D.bl := by rw [List.map_map]; rfl
      rw [e2, asBls_map]
    repeat infer_instance
    refine W_eq (a := .bl (evn (b * T) A)) (s := MS0.add ((List.range (b * T)).map fun i => D.bl (decide (A i = A 0)))) ?_ rfl
    show (match asBls ((List.range (b * T)).map fun i => D.bl (decide (A i = A 0))) with | some bs => some (D.bl (bs.all id), _) | none => none) = _
    rw [e]
    show some (D.bl (List.all (List.map _ _) id), _) = _
    rw [List.all_map]
    rfl
/-- told after how many -/
def Aft (p : Nat → Bool) (e : Nat) (d : D) : Prop := (∃ k, k < e ∧ p k = true ∧ (∀ j, j < k → p j = false) ∧ d = .int (k + 1 : Nat)) ∨ ((∀ j, j < e → p j = false) ∧ d = .non)
omit K in
theorem Aft.uniq {p : Nat → Bool} {e : Nat} {d d' : D} (h : Aft p e d) (h' : Aft p e d') : d = d' := by
  rcases h with ⟨k, k1, k2, k3, rfl⟩ | ⟨k1, rfl⟩ <;> rcases h' with ⟨j, j1, j2, j3, rfl⟩ | ⟨j1, rfl⟩
  · have : k = j := by
      rcases Nat.lt_trichotomy k j with h | h | h
      · rw [j3 k h] at k2; cases k2
      · exact h
      · rw [k3 j h] at j2; cases j2
    rw [this]
  · rw [j1 k k1] at k2; cases k2
  · rw [k1 j j1] at j2; cases j2
  · rfl
omit K in
theorem Aft.noref {p : Nat → Bool} {e : Nat} {d : D} (h : Aft p e d) : d.noref = true := by
  rcases h with ⟨k, _, _, _, rfl⟩ | ⟨_, rfl⟩ <;> rfl
omit K in
theorem W_pu_ex {F : MF} {ds : List D} {R : D → Prop} (h : W (F ds MS0) fun d' _ => R d' ∧ d'.noref = true) (h1 : D.norefs ds = true) : ∃ d, Pu F ds d ∧ R d := by
  obtain ⟨a, s, e, h2, h3⟩ := h
  exact ⟨a, ⟨h1, h3, s, e⟩, h2⟩
theorem pu_even_after {e : Nat} (he : Pu F_last_edge [clk] (.int e)) (h6 : e ≤ 1000) (A : Nat → Int) (hs : small (b * T) A) :
    ∃ d, Pu F_even_after [clk, dl (b * T) A] d ∧ Aft (fun k => evn (b * T) (rowp (b * T) (gm b T f) (fun _ => A) k)) e d := by
  refine W_pu_ex (W_def ?_) (by simp [D.norefs, D.noref, K.nr, noref_dl])
  unfold b_even_after
  repeat infer_instance
  refine W_pu (pu_judge_deal K A _) ?_
  repeat infer_instance
  refine W_pu he ?_
  repeat infer_instance
  refine ⟨_, _, rfl, by omega, by omega, ?_⟩
  have hl : ((e : Int) + 1 - 1).toNat = e := by omega
  refine W_forL (fun i env s => (∀ j, j < i → evn (b * T) (rowp (b * T) (gm b T f) (fun _ => A) j) = false) ∧ ∃ d x, env = [some clk, some (dl (b * T) A), some (.int e), some d, x] ∧ (i < e → d = dl (b * T) (rowp (b * T) (gm b T f) (fun _ => A) i)))
    ⟨fun j hj => by omega, _, _, rfl, fun _ => rfl⟩ (fun _ _ _ _ => rfl) (fun i d env s h1 h => ?_) (fun env s h => ?_)
  · obtain ⟨h2, d', x, rfl, h3⟩ := h
    obtain ⟨hi, rfl⟩ := rng_at h1
    have hi : i < e := by omega
    cases h3 hi
    repeat infer_instance
    refine W_pu (pu_is_even K _) ?_
    repeat infer_instance
    cases hev : evn (b * T) (rowp (b * T) (gm b T f) (fun _ => A) i) with
    | true =>
      repeat infer_instance
      refine ⟨.inl ⟨i, hi, hev, h2, ?_⟩, rfl⟩
      congr 1
      omega
    | false =>
      have h4 : ∀ j, j < i + 1 → evn (b * T) (rowp (b * T) (gm b T f) (fun _ => A) j) = false := fun j hj => by
        by_cases hji : j = i
        · rw [hji]; exact hev
        · exact h2 j (by omega)
      by_cases hlt : i + 1 < e
      · repeat infer_instance
        refine W_pu (pu_dealt K _ A (.inr hs)) ?_
        repeat infer_instance
        exact ⟨h4, _, _, rfl, fun _ => rfl⟩
      · repeat infer_instance
        exact ⟨h4, _, _, rfl, fun q => absurd q hlt⟩
  · obtain ⟨h2, d', x, rfl, h3⟩ := h
    rw [rngItems_len, hl] at h2
    repeat infer_instance
    exact ⟨.inr ⟨h2, rfl⟩, rfl⟩
end
end Mir
/-! ## PE -/
set_option maxHeartbeats 200000
set_option Elab.async false
set_option linter.all false
set_option maxRecDepth 100000
/-! The plain law: powers, rows of deals, papers. -/
namespace Mir
open PySem PySem.Spec PyProof.Rows L2
local macro_rules | `(tactic| infer_instance) => `(tactic| first
  | with_reducible apply W_sSeq | with_reducible apply W_sSet | with_reducible apply SK_nx | with_reducible apply SK_rt | ((with_reducible apply Y_eVar); rfl) | with_reducible apply W_eC | with_reducible apply W_aCons | with_reducible apply W_aNil | with_reducible apply W_e2 | with_reducible apply W_e1 | with_reducible apply W_eCB
  | ((with_reducible apply Y_mulN); omega) | ((with_reducible apply Y_divN); omega) | ((with_reducible apply Y_modN); omega) | with_reducible apply W_addN | ((with_reducible apply Y_ret); rfl) | ((with_reducible apply Y_mulI); omega) | ((with_reducible apply Y_divI); omega) | ((with_reducible apply Y_modI); omega)
  | with_reducible apply W_tOf | with_reducible apply W_tNot | with_reducible apply W_tAnd | with_reducible apply W_tOr | with_reducible apply W_tYes | with_reducible apply W_eAnd | with_reducible apply W_eOr | with_reducible apply W_eNot | with_reducible apply W_eIf | with_reducible apply W_eIx | with_reducible apply W_eTup | with_reducible apply W_eLst
  | with_reducible apply W_sIf | with_reducible apply W_sRet | with_reducible apply W_sDrop | with_reducible apply W_sNil | with_reducible apply W_sAsg | with_reducible apply W_sPar | with_reducible apply W_sAugIx | with_reducible apply W_sFor | with_reducible apply W_gtName | ((with_reducible apply Y_gtTup); rfl) | with_reducible apply W_gtCons | with_reducible apply W_gtNil | with_reducible apply W_gtSub
  | with_reducible apply W_iTup | with_reducible apply W_iRng1 | with_reducible apply W_iRng2 | with_reducible apply W_iEnum | with_reducible apply W_iLst | with_reducible apply W_eComp | with_reducible apply W_eApp
  | (with_reducible apply Y_lenV) | ((with_reducible apply Y_lenT); rfl) | ((with_reducible apply ite_t); exact rfl) | ((with_reducible apply ite_f); exact rfl) | ((with_reducible apply ite_t); exact decide_eq_true (by omega)) | ((with_reducible apply ite_f); exact decide_eq_false (by omega)) | ((with_reducible apply ite_t); exact not_t (decide_eq_false (by omega))) | ((with_reducible apply ite_f); exact not_f (decide_eq_true (by omega)))
   | ((with_reducible apply Y_ixLV); (rfl); (first | assumption | omega)) | ((with_reducible apply Y_ixTV); (first | assumption | omega)) | ((with_reducible apply Y_ixTV0); (first | assumption | omega)) | ((with_reducible apply Y_ixLV0); (rfl); (first | assumption | omega)) | ((with_reducible apply W_tupL); rfl) | with_reducible refine ⟨_, rfl, ?_⟩ | exact rfl | refine ⟨(Nat.le_of_ble_eq_true rfl : List.length _ ≤ 1000), ?_⟩)
section
variable {clk : D} {b T : Nat} {f : Nat → Nat} (K : CK clk b T f)
include K
theorem pu_is_number {i : Int} (h : 0 ≤ i) : Pu F_is_number [.int i] (.bl true) := by
  refine .of (W_def ?_) rfl rfl
  unfold b_is_number
  repeat infer_instance
  refine W_pu (pu_whole i) ?_
  repeat infer_instance
  exact congrArg D.bl (decide_eq_true h)
omit K in
theorem pu_want_many (k : Nat) : Pu F_want_many [.int k] .non := by
  refine .of (W_def ?_) rfl rfl
  unfold b_want_many
  repeat infer_instance
  refine W_pu (d := .bl true) ?_ ?_
  · refine .of (W_def ?_) rfl rfl
    unfold b_is_number
    repeat infer_instance
    refine W_pu (pu_whole _) ?_
    repeat infer_instance
  repeat infer_instance
/-- dealt again: left stands at 2^s·... -/
theorem pu_dealt_again (A : Nat → Int) (k : Nat) (hk : 1 ≤ k) (h6 : k ≤ 6) (hs : ∀ j, j ≤ 2 → small (b * T) (pwr (b * T) (gm b T f) A j)) :
    Pu F_dealt_again [clk, dl (b * T) A, .int k] (dl (b * T) (pwr (b * T) (gm b T f) A k)) := by
  have M := K.mon
  have dd : ∀ r p, (r ≤ 2 ∨ p ≤ 2) → Pu F_dealt [clk, dl (b * T) (pwr (b * T) (gm b T f) A r), dl (b * T) (pwr (b * T) (gm b T f) A p)] (dl (b * T) (pwr (b * T) (gm b T f) A (r + p))) := fun r p h => by
    have e := pu_dealt K (pwr (b * T) (gm b T f) A r) (pwr (b * T) (gm b T f) A p) (h.imp (hs r) (hs p))
    rw [dl_eqv (pwr_add M r p)] at e
    exact e
  refine .of (W_def ?_) (by simp [D.norefs, D.noref, K.nr, noref_dl]) noref_dl
  unfold b_dealt_again
  repeat infer_instance
  refine W_pu (pu_want_deal K A _) ?_
  repeat infer_instance
  refine W_pu (pu_want_many k) ?_
  repeat infer_instance
  refine W_pu (pu_idle K) ?_
  repeat infer_instance
  rw [dl_eqv (pwr_one M).symm]
  have hk' : k = 1 ∨ k = 2 ∨ k = 3 ∨ k = 4 ∨ k = 5 ∨ k = 6 := by omega
  rcases hk' with h | h | h | h | h | h
  · subst h
    refine W_sWhile ?_
    repeat infer_instance
    refine W_pu (dd 0 1 (by omega)) ?_
    repeat infer_instance
    refine W_sWhile ?_
    repeat infer_instance
  · subst h
    refine W_sWhile ?_
    repeat infer_instance
    refine W_pu (dd 1 1 (by omega)) ?_
    repeat infer_instance
    refine W_sWhile ?_
    repeat infer_instance
    refine W_pu (dd 0 2 (by omega)) ?_
    repeat infer_instance
    refine W_sWhile ?_
    repeat infer_instance
  · subst h
    refine W_sWhile ?_
    repeat infer_instance
    refine W_pu (dd 0 1 (by omega)) ?_
    repeat infer_instance
    refine W_pu (dd 1 1 (by omega)) ?_
    repeat infer_instance
    refine W_sWhile ?_
    repeat infer_instance
    refine W_pu (dd 1 2 (by omega)) ?_
    repeat infer_instance
    refine W_sWhile ?_
    repeat infer_instance
  · subst h
    refine W_sWhile ?_
    repeat infer_instance
    refine W_pu (dd 1 1 (by omega)) ?_
    repeat infer_instance
    refine W_sWhile ?_
    repeat infer_instance
    refine W_pu (dd 2 2 (by omega)) ?_
    repeat infer_instance
    refine W_sWhile ?_
    repeat infer_instance
    refine W_pu (dd 0 4 (by omega)) ?_
    repeat infer_instance
    refine W_sWhile ?_
    repeat infer_instance
  · subst h
    refine W_sWhile ?_
    repeat infer_instance
    refine W_pu (dd 0 1 (by omega)) ?_
    repeat infer_instance
    refine W_pu (dd 1 1 (by omega)) ?_
    repeat infer_instance
    refine W_sWhile ?_
    repeat infer_instance
    refine W_pu (dd 2 2 (by omega)) ?_
    repeat infer_instance
    refine W_sWhile ?_
    repeat infer_instance
    refine W_pu (dd 1 4 (by omega)) ?_
    repeat infer_instance
    refine W_sWhile ?_
    repeat infer_instance
  · subst h
    refine W_sWhile ?_
    repeat infer_instance
    refine W_pu (dd 1 1 (by omega)) ?_
    repeat infer_instance
    refine W_sWhile ?_
    repeat infer_instance
    refine W_pu (dd 0 2 (by omega)) ?_
    repeat infer_instance
    refine W_pu (dd 2 2 (by omega)) ?_
    repeat infer_instance
    refine W_sWhile ?_
    repeat infer_instance
    refine W_pu (dd 2 4 (by omega)) ?_
    repeat infer_instance
    refine W_sWhile ?_
    repeat infer_instance
theorem pu_are_deals (m : Nat) (E : Nat → Nat → Int) : Pu F_are_deals [clk, .tup ((List.range m).map fun k => dl (b * T) (E k))] (.bl true) := by
  have hnr : D.norefs ((List.range m).map fun k => dl (b * T) (E k)) = true := by
    generalize List.range m = l
    induction l with
    | nil => rfl
    | cons a l ih => rw [List.map_cons, D.norefs, ih, noref_dl]; rfl
  refine .of (W_def ?_) (by simp [D.norefs, D.noref, K.nr, hnr]) rfl
  unfold b_are_deals
  repeat infer_instance
  refine W_forL (fun i env s => ∃ x, env = [some clk, some (.tup ((List.range m).map fun k => dl (b * T) (E k))), x]) ⟨none, rfl⟩ (fun _ _ _ _ => rfl) (fun i d env s e ⟨x, hx⟩ => ?_) (fun env s ⟨x, hx⟩ => ?_)
  · subst hx
    rw [List.getElem?_map] at e
    cases hj : (List.range m)[i]? with
    | none => rw [hj] at e; cases e
    | some j =>
      rw [hj] at e
      cases e
      repeat infer_instance
      refine W_pu (pu_is_dl K (E j)) ?_
      repeat infer_instance
      exact ⟨_, rfl⟩
  · subst hx
    repeat infer_instance
omit K in
theorem norefs_deals {n m : Nat} {E : Nat → Nat → Int} : D.norefs ((List.range m).map fun k => dl n (E k)) = true := by
  generalize List.range m = l
  induction l with
  | nil => rfl
  | cons a l ih => rw [List.map_cons, D.norefs, ih, noref_dl]; rfl
theorem pu_row_after (m : Nat) (hm : 1 ≤ m) (h9 : m ≤ 1000) (E : Nat → Nat → Int) (hs : ∀ j, j < m → small (b * T) (E j)) :
    ∃ d, Pu F_row_after [clk, .tup ((List.range m).map fun k => dl (b * T) (E k))] d ∧ Aft (fun k => evn (b * T) (rowp (b * T) (gm b T f) E k)) m d := by
  have hlen : ((List.range m).map fun k => dl (b * T) (E k)).length = m := by simp
  have hget : ∀ j, j < m → ((List.range m).map fun k => dl (b * T) (E k))[j]? = some (dl (b * T) (E j)) := fun j hj => by
    rw [List.getElem?_map, List.getElem?_range hj]; rfl
  refine W_pu_ex (W_def ?_) (by simp [D.norefs, D.noref, K.nr, norefs_deals])
  unfold b_row_after
  repeat infer_instance
  refine W_pu (pu_are_deals K m E) ?_
  repeat infer_instance
  refine W_ixT (i := 0) ?_ (hget 0 hm)
  repeat infer_instance
  refine ⟨_, _, rfl, by omega, by omega, ?_⟩
  simp only [hlen]
  have hl : ((m : Int) - 1).toNat = m - 1 := by omega
  refine W_forL (fun i env s => (∀ j, j < i → evn (b * T) (rowp (b * T) (gm b T f) E j) = false) ∧ ∃ x, env = [some clk, some (.tup ((List.range m).map fun k => dl (b * T) (E k))), some (dl (b * T) (rowp (b * T) (gm b T f) E i)), x])
    ⟨fun j hj => by omega, _, rfl⟩ (fun _ _ _ _ => rfl) (fun i d env s h1 h => ?_) (fun env s h => ?_)
  · obtain ⟨h2, x, rfl⟩ := h
    obtain ⟨hi, rfl⟩ := rng_at h1
    have hi : i + 1 < m := by omega
    repeat infer_instance
    refine W_pu (pu_is_even K _) ?_
    repeat infer_instance
    cases hev : evn (b * T) (rowp (b * T) (gm b T f) E i) with
    | true =>
      repeat infer_instance
      refine ⟨.inl ⟨i, by omega, hev, h2, ?_⟩, rfl⟩
      congr 1
      omega
    | false =>
      have h4 : ∀ j, j < i + 1 → evn (b * T) (rowp (b * T) (gm b T f) E j) = false := fun j hj => by
        by_cases hji : j = i
        · rw [hji]; exact hev
        · exact h2 j (by omega)
      have ei : (1 : Int) + i = ((i + 1 : Nat) : Int) := by omega
      rw [ei]
      repeat infer_instance
      refine W_ixT (i := i + 1) ?_ (hget (i + 1) hi)
      repeat infer_instance
      refine W_pu (pu_dealt K _ _ (.inr (hs (i + 1) hi))) ?_
      repeat infer_instance
      exact ⟨h4, _, rfl⟩
  · obtain ⟨h2, x, rfl⟩ := h
    rw [rngItems_len, hl] at h2 ⊢
    repeat infer_instance
    refine W_pu (pu_is_even K _) ?_
    repeat infer_instance
    cases hev : evn (b * T) (rowp (b * T) (gm b T f) E (m - 1)) with
    | true =>
      repeat infer_instance
      refine ⟨.inl ⟨m - 1, by omega, hev, h2, ?_⟩, rfl⟩
      congr 1
      omega
    | false =>
      repeat infer_instance
      refine ⟨.inr ⟨fun j hj => ?_, rfl⟩, rfl⟩
      by_cases hji : j = m - 1
      · rw [hji]; exact hev
      · exact h2 j (by omega)
theorem pu_divides_total (A : Nat → Int) : Pu F_divides_total [clk, dl (b * T) A] (.bl (decide (S (b * T) A % (b * T : Nat) = 0))) := by
  have hp := K.npos
  refine .of (W_def ?_) (by simp [D.norefs, D.noref, K.nr, noref_dl]) rfl
  unfold b_divides_total
  repeat infer_instance
  refine W_pu (pu_judge_deal K A _) ?_
  repeat infer_instance
  refine W_eq (a := .int (S (b * T) A)) (s := MS0) ?_ ?_
  · show (match asInts (V (b * T) A) with | some is => some (D.int is.sum, MS0) | none => none) = _
    rw [V_ints]
    rfl
  repeat infer_instance
  refine W_pu K.mm ?_
  repeat infer_instance
theorem pu_first_unlike (hmv : ∀ k, k < b * T → ∃ d, Pu F_move_at [clk, .int k] d) (A : Nat → Int) : ∃ d, Pu F_first_unlike [clk, dl (b * T) A] d := by
  have hp := K.npos
  have hn := K.hn
  have key : ∃ d, Pu F_first_unlike [clk, dl (b * T) A] d ∧ True := by
    refine W_pu_ex (W_def ?_) (by simp [D.norefs, D.noref, K.nr, noref_dl])
    unfold b_first_unlike
    repeat infer_instance
    refine ⟨_, _, rfl, by omega, by omega, ?_⟩
    have hl : (((b * T : Nat) : Int) - 1).toNat = b * T - 1 := by omega
    refine W_forL (fun i env s => ∃ x, env = [some clk, some (dl (b * T) A), some (.tup (V (b * T) A)), x]) ⟨_, rfl⟩ (fun _ _ _ _ => rfl) (fun i d env s h1 h => ?_) (fun env s h => ?_)
    · obtain ⟨x, rfl⟩ := h
      obtain ⟨hi, rfl⟩ := rng_at h1
      have hi : i + 1 < b * T := by omega
      have ei : (1 : Int) + i = ((i + 1 : Nat) : Int) := by omega
      rw [ei]
      by_cases hx : A (i + 1) = A 0
      · repeat infer_instance
        exact ⟨_, rfl⟩
      · repeat infer_instance
        obtain ⟨d0, h0⟩ := hmv 0 hp
        refine W_pu h0 ?_
        repeat infer_instance
        obtain ⟨d1, h3⟩ := hmv (i + 1) hi
        refine W_pu h3 ?_
        repeat infer_instance
        exact ⟨trivial, by simp [D.noref, D.norefs, h0.2.1, h3.2.1]⟩
    · obtain ⟨x, rfl⟩ := h
      repeat infer_instance
      exact ⟨trivial, rfl⟩
  obtain ⟨d, h, _⟩ := key
  exact ⟨d, h⟩
end
end Mir
/-! ## PF -/
set_option maxHeartbeats 200000
set_option Elab.async false
set_option linter.all false
set_option maxRecDepth 100000
/-! The plain law: the same; sets of moves; folds; what is known of a clock. -/
namespace Mir
open PySem PySem.Spec PyProof.Rows L2
local macro_rules | `(tactic| infer_instance) => `(tactic| first
  | with_reducible apply W_sSeq | with_reducible apply W_sSet | with_reducible apply SK_nx | with_reducible apply SK_rt | ((with_reducible apply Y_eVar); rfl) | with_reducible apply W_eC | with_reducible apply W_aCons | with_reducible apply W_aNil | with_reducible apply W_e2 | with_reducible apply W_e1 | with_reducible apply W_eCB
  | ((with_reducible apply Y_mulN); omega) | ((with_reducible apply Y_divN); omega) | ((with_reducible apply Y_modN); omega) | with_reducible apply W_addN | ((with_reducible apply Y_ret); rfl) | ((with_reducible apply Y_mulI); omega) | ((with_reducible apply Y_divI); omega) | ((with_reducible apply Y_modI); omega)
  | with_reducible apply W_tOf | with_reducible apply W_tNot | with_reducible apply W_tAnd | with_reducible apply W_tOr | with_reducible apply W_tYes | with_reducible apply W_eAnd | with_reducible apply W_eOr | with_reducible apply W_eNot | with_reducible apply W_eIf | with_reducible apply W_eIx | with_reducible apply W_eTup | with_reducible apply W_eLst
  | with_reducible apply W_sIf | with_reducible apply W_sRet | with_reducible apply W_sDrop | with_reducible apply W_sNil | with_reducible apply W_sAsg | with_reducible apply W_sPar | with_reducible apply W_sAugIx | with_reducible apply W_sFor | with_reducible apply W_gtName | ((with_reducible apply Y_gtTup); rfl) | with_reducible apply W_gtCons | with_reducible apply W_gtNil | with_reducible apply W_gtSub
  | with_reducible apply W_iTup | with_reducible apply W_iRng1 | with_reducible apply W_iRng2 | with_reducible apply W_iEnum | with_reducible apply W_iLst | with_reducible apply W_eComp | with_reducible apply W_eApp
  | (with_reducible apply Y_lenV) | ((with_reducible apply Y_lenT); rfl) | ((with_reducible apply ite_t); exact rfl) | ((with_reducible apply ite_f); exact rfl) | ((with_reducible apply ite_t); exact decide_eq_true (by omega)) | ((with_reducible apply ite_f); exact decide_eq_false (by omega)) | ((with_reducible apply ite_t); exact not_t (decide_eq_false (by omega))) | ((with_reducible apply ite_f); exact not_f (decide_eq_true (by omega)))
   | ((with_reducible apply Y_ixLV); (rfl); (first | assumption | omega)) | ((with_reducible apply Y_ixTV); (first | assumption | omega)) | ((with_reducible apply Y_ixTV0); (first | assumption | omega)) | ((with_reducible apply Y_ixLV0); (rfl); (first | assumption | omega)) | ((with_reducible apply W_tupL); rfl) | with_reducible refine ⟨_, rfl, ?_⟩ | exact rfl | refine ⟨(Nat.le_of_ble_eq_true rfl : List.length _ ≤ 1000), ?_⟩)
/-! ### the same -/
theorem same_non (n : Nat) : Pu (F_L_same (n + 1)) [.non, .non] (.bl true) := by
  refine .of (W_def ?_) rfl rfl
  unfold b_L_same
  repeat infer_instance
theorem same_bl (n : Nat) (b : Bool) : Pu (F_L_same (n + 1)) [.bl b, .bl b] (.bl true) := by
  refine .of (W_def ?_) rfl rfl
  unfold b_L_same
  repeat infer_instance
  exact congrArg D.bl (decide_eq_true rfl)
theorem same_int (n : Nat) (i : Int) : Pu (F_L_same (n + 1)) [.int i, .int i] (.bl true) := by
  refine .of (W_def ?_) rfl rfl
  unfold b_L_same
  repeat infer_instance
  exact congrArg D.bl (decide_eq_true rfl)
theorem same_str (n : Nat) (x : Str) : Pu (F_L_same (n + 1)) [.str x, .str x] (.bl true) := by
  refine .of (W_def ?_) rfl rfl
  unfold b_L_same
  repeat infer_instance
  exact congrArg D.bl (decide_eq_true rfl)
theorem same_tup (n : Nat) (xs : List D) (hl : xs.length < 1000) (hn : D.norefs xs = true) (h : ∀ (i : Nat) (d : D), xs[i]? = some d → Pu (F_L_same n) [d, d] (.bl true)) : Pu (F_L_same (n + 1)) [.tup xs, .tup xs] (.bl true) := by
  refine .of (W_def ?_) (by simp [D.norefs, D.noref, hn]) rfl
  unfold b_L_same
  repeat infer_instance
  refine ⟨by omega, ?_⟩
  repeat infer_instance
  refine ⟨by rw [rngItems_len]; omega, ?_⟩
  refine W_compF xs.length (fun _ => false) (fun _ => .non) (by rw [rngItems_len]; omega) rfl (fun i d hi e => ?_) ?_
  · obtain ⟨_, rfl⟩ := rng_at0 e
    have hx : xs[i]? = some xs[i] := List.getElem?_eq_getElem hi
    repeat infer_instance
    refine W_ixT ?_ hx
    repeat infer_instance
    refine W_ixT ?_ hx
    repeat infer_instance
    refine W_pu (h i _ hx) ?_
    repeat infer_instance
    exact ⟨rfl, rfl, fun q => by cases q⟩
  · repeat infer_instance
    refine W_lenL (n := 0) At.new ?_ (by simp)
    repeat infer_instance
theorem same_dl (n N : Nat) (A : Nat → Int) (h : N < 1000) : Pu (F_L_same (n + 3)) [dl N A, dl N A] (.bl true) := by
  refine same_tup (n + 2) _ (by show 2 < 1000; omega) (by simp [D.norefs, D.noref, norefs_V]) fun i d e => ?_
  match i, e with
  | 0, e => cases e; exact same_int _ _
  | 1, e =>
    cases e
    refine same_tup (n + 1) _ (by rw [V_len]; exact h) norefs_V fun j d e => ?_
    obtain ⟨_, rfl⟩ := V_get' e
    exact same_int _ _
  | i + 2, e => cases e
theorem same_aft {p : Nat → Bool} {e : Nat} {d : D} (n : Nat) (h : Aft p e d) : Pu (F_L_same (n + 1)) [d, d] (.bl true) := by
  rcases h with ⟨k, _, _, _, rfl⟩ | ⟨_, rfl⟩
  · exact same_int n _
  · exact same_non n
/-! ### lists out of a world of their own -/
def PuL (F : MF) (ds : List D) (xs : List D) : Prop := D.norefs ds = true ∧ ∃ r s1, F ds MS0 = some (.ref r, s1) ∧ s1.st[r]? = some xs ∧ D.norefs xs = true
mutual
theorem shift_nr (n : Nat) : ∀ d : D, d.noref = true → d.shift n = d
  | .non, _ => rfl
  | .bl _, _ => rfl
  | .int _, _ => rfl
  | .str _, _ => rfl
  | .tup l, h => by rw [D.shift, shifts_nr n l (by simpa [D.noref] using h)]
  | .ref _, h => by simp [D.noref] at h
  | .seat, h => by simp [D.noref] at h
theorem shifts_nr (n : Nat) : ∀ ds : List D, D.norefs ds = true → D.shifts n ds = ds
  | [], _ => rfl
  | d :: ds, h => by
    rw [D.norefs, Bool.and_eq_true] at h
    rw [D.shifts, shift_nr n d h.1, shifts_nr n ds h.2]
end
theorem W_puL {F : MF} {ds xs : List D} {s : MS} {Q : D → MS → Prop} (h : PuL F ds xs) (q : ∀ r more, s.st.length ≤ r → At { s with st := s.st ++ more } r xs → Q (.ref r) { s with st := s.st ++ more }) : W (callN F ds s) Q := by
  obtain ⟨h1, r, s1, h2, h3, h4⟩ := h
  refine ⟨.ref (s.st.length + r), { s with st := s.st ++ s1.st.map (D.shifts s.st.length) }, ?_, q _ _ (by omega) ?_⟩
  · unfold callN
    rw [if_pos h1, h2]
    dsimp only
    rw [if_neg (by simp [D.noref])]
    rfl
  · show (s.st ++ s1.st.map _)[s.st.length + r]? = _
    rw [List.getElem?_append_right (by omega), Nat.add_sub_cancel_left, List.getElem?_map, h3]
    show some (D.shifts _ xs) = _
    rw [shifts_nr _ _ h4]
def puLB (F : MF) (ds xs : List D) : Bool := D.norefs ds && D.norefs xs && (match F ds MS0 with
  | some (.ref r, s1) => decide (s1.st[r]? = some xs)
  | _ => false)
theorem PuL.by {F : MF} {ds xs : List D} (h : puLB F ds xs = true) : PuL F ds xs := by
  unfold puLB at h
  rw [Bool.and_eq_true, Bool.and_eq_true] at h
  obtain ⟨⟨h1, h2⟩, h3⟩ := h
  split at h3
  · rename_i r s1 he
    exact ⟨h1, r, s1, he, of_decide_eq_true h3, h2⟩
  · cases h3
/-! ### a clock of the law -/
/-- the move of number k -/
def mvD (b k : Nat) : D := .tup [.int ((k % b : Nat) : Int), .int ((k / b : Nat) : Int)]
structure CL (clk : D) (b T : Nat) (f : Nat → Nat) (e : Nat) (part small : D) (kb c : Nat) (f' φ : Nat → Nat) (m' : Nat → Nat → Nat) (inv : Nat → Nat) : Prop extends CK clk b T f where
  e1 : 1 ≤ e
  e6 : e ≤ 6
  lastE : Pu F_last_edge [clk] (.int e)
  lawE : Pu F_L_edge [clk, .int b] (.int e)
  mv : ∀ k, k < b * T → ∃ d, Pu F_move_at [clk, .int k] d
  im : ∀ k, k < b * T → Pu F_is_move [clk, mvD b k] (.bl true)
  nb : ∀ k, k < b * T → Pu F_number_of [clk, mvD b k] (.int k)
  b64 : b < 64
  T64 : T < 64
  sq : sqf (b * T) = true
  pm : Pu F_moved_part [clk] part
  wk : Pu F_want_kept [clk, part] .non
  fc : Pu F_folded_clock [clk, part] small
  fn : PuL F_folded_numbers [clk, part, small] (V (b * T) fun k => (φ k : Int))
  sm : CK small kb T f'
  fo : Fold (b * T) (gm b T f) (kb * T) m' φ c
  ab : Abel (kb * T) m' inv
section
variable {clk : D} {b T : Nat} {f : Nat → Nat} {e : Nat} {part small' : D} {kb c : Nat} {f' φ : Nat → Nat} {m' : Nat → Nat → Nat} {inv : Nat → Nat} (C : CL clk b T f e part small' kb c f' φ m' inv)
include C
theorem CL.prt : part.noref = true := by
  have h := C.wk.1
  rw [D.norefs, D.norefs, Bool.and_eq_true, Bool.and_eq_true] at h
  exact h.2.1
theorem CL.snr : small'.noref = true := C.fc.2.1
theorem pu_folded_deal (A : Nat → Int) : Pu F_folded_deal [clk, part, dl (b * T) A] (dl (kb * T) (fold (b * T) φ A)) := by
  have K := C.toCK
  have hn := K.hn
  have hk := C.sm.hn
  refine .of (W_def ?_) (by simp [D.norefs, K.nr, C.prt, noref_dl]) noref_dl
  unfold b_folded_deal
  repeat infer_instance
  refine W_pu C.wk ?_
  repeat infer_instance
  refine W_pu (pu_want_deal K A _) ?_
  repeat infer_instance
  refine W_pu C.fc ?_
  repeat infer_instance
  refine W_pu C.sm.mm ?_
  repeat infer_instance
  refine ⟨by omega, ?_⟩
  refine ⟨by rw [rngItems_len]; omega, ?_⟩
  refine W_compV (kb * T) (fun _ => 0) (by rw [rngItems_len]; rfl) rfl (fun i d hi e => ?_) ?_
  · obtain ⟨_, rfl⟩ := rng_at0 e
    repeat infer_instance
    refine ⟨rfl, rfl, ?_⟩
    repeat infer_instance
    exact ⟨rfl, rfl⟩
  repeat infer_instance
  refine W_iZip ?_
  repeat infer_instance
  refine W_puL C.fn fun r more hr hat => ?_
  repeat infer_instance
  refine ⟨r, _, _, rfl, hat, by rw [V_len, V_len], ?_⟩
  have hr1 : 1 ≤ r := hr
  refine W_forL (fun i env s => (∃ x6 x7, env = [some clk, some part, some (dl (b * T) A), some small', some (.ref 0), x6, x7, none] ) ∧ At s r (V (b * T) fun k => (φ k : Int)) ∧ At s 0 (V (kb * T) fun g => S i fun k => if φ k = g then A k else 0))
    ⟨⟨_, _, rfl⟩, hat, rfl⟩ (fun _ _ _ h => gOk_of h.2.1) (fun i d env s h1 h => ?_) (fun env s h => ?_)
  · obtain ⟨⟨x6, x7, rfl⟩, ha, h0⟩ := h
    obtain ⟨hi, rfl⟩ := zip_at h1
    have hφ := C.fo.lt i hi
    repeat infer_instance
    refine W_ixL h0 ?_ (V_get hφ)
    repeat infer_instance
    refine ⟨_, dSet_L h0 (by rw [V_len]; exact hφ), ⟨_, _, rfl⟩, ha.setNe (by omega), ?_⟩
    have e0 := h0.set (ys := (V (kb * T) fun g => S i fun k => if φ k = g then A k else 0).set (φ i) (.int ((S i fun k => if φ k = φ i then A k else 0) + A i)))
    rw [V_set] at e0
    rw [show (V (kb * T) fun g => S (i + 1) fun k => if φ k = g then A k else 0) = V (kb * T) fun g => if φ i = g then ((S i fun k => if φ k = φ i then A k else 0) + A i) else (S i fun k => if φ k = g then A k else 0) from V_ext fun g _ => by
      rw [S_succ]
      split
      · rename_i hg; rw [hg]
      · omega]
    rw [← V_set] at e0 ⊢
    exact e0
  · obtain ⟨⟨x6, x7, rfl⟩, ha, h0⟩ := h
    rw [zipL_len _ _ (by rw [V_len, V_len]), V_len] at h0
    repeat infer_instance
    refine W_tupL h0 ?_
    repeat infer_instance
    refine W_pu (pu_settled C.sm _) ?_
    repeat infer_instance
theorem pu_folds_evenly (A : Nat → Int) : Pu F_folds_evenly [clk, dl (b * T) A] (.bl (evn (kb * T) (fold (b * T) φ A))) := by
  have K := C.toCK
  refine .of (W_def ?_) (by simp [D.norefs, K.nr, noref_dl]) rfl
  unfold b_folds_evenly
  repeat infer_instance
  refine W_pu (pu_judge_deal K A _) ?_
  repeat infer_instance
  refine W_pu C.pm ?_
  repeat infer_instance
  refine W_pu C.fc ?_
  repeat infer_instance
  refine W_pu (pu_folded_deal C A) ?_
  repeat infer_instance
  refine W_pu (pu_is_even C.sm _) ?_
  repeat infer_instance
theorem pu_even_paper (A : Nat → Int) (hs : ∀ j, j ≤ 2 → small (b * T) (pwr (b * T) (gm b T f) A j)) (h : ∀ j, j < e → evn (b * T) (rowp (b * T) (gm b T f) (fun _ => A) j) = false) : ∃ d, Pu F_even_paper [clk, dl (b * T) A] (.tup [.str "never", d]) := by
  have K := C.toCK
  have hA : small (b * T) A := fun i hi => by
    have := hs 1 (by omega) i hi
    rwa [pwr_one K.mon i hi] at this
  obtain ⟨d, h1, h2⟩ := pu_even_after K C.lastE (by have := C.e6; omega) A hA
  cases h2.uniq (.inr ⟨h, rfl⟩)
  obtain ⟨d', h3⟩ := pu_first_unlike K C.mv (pwr (b * T) (gm b T f) A e)
  refine ⟨d', .of (W_def ?_) (by simp [D.norefs, K.nr, noref_dl]) (by simp [D.noref, D.norefs, h3.2.1])⟩
  unfold b_even_paper
  repeat infer_instance
  refine W_pu h1 ?_
  repeat infer_instance
  refine W_pu C.lastE ?_
  repeat infer_instance
  refine W_pu (pu_dealt_again K A e C.e1 C.e6 hs) ?_
  repeat infer_instance
  refine W_pu h3 ?_
  repeat infer_instance
end
end Mir
/-! ## PG -/
set_option maxHeartbeats 200000
set_option Elab.async false
set_option linter.all false
set_option maxRecDepth 100000
/-! The plain law: sets of moves, covers, the undivided. -/
namespace Mir
open PySem PySem.Spec PyProof.Rows L2
local macro_rules | `(tactic| infer_instance) => `(tactic| first
  | with_reducible apply W_sSeq | with_reducible apply W_sSet | with_reducible apply SK_nx | with_reducible apply SK_rt | ((with_reducible apply Y_eVar); rfl) | with_reducible apply W_eC | with_reducible apply W_aCons | with_reducible apply W_aNil | with_reducible apply W_e2 | with_reducible apply W_e1 | with_reducible apply W_eCB
  | ((with_reducible apply Y_mulN); omega) | ((with_reducible apply Y_divN); omega) | ((with_reducible apply Y_modN); omega) | with_reducible apply W_addN | ((with_reducible apply Y_ret); rfl) | ((with_reducible apply Y_mulI); omega) | ((with_reducible apply Y_divI); omega) | ((with_reducible apply Y_modI); omega)
  | with_reducible apply W_tOf | with_reducible apply W_tNot | with_reducible apply W_tAnd | with_reducible apply W_tOr | with_reducible apply W_tYes | with_reducible apply W_eAnd | with_reducible apply W_eOr | with_reducible apply W_eNot | with_reducible apply W_eIf | with_reducible apply W_eIx | with_reducible apply W_eTup | with_reducible apply W_eLst
  | with_reducible apply W_sIf | with_reducible apply W_sRet | with_reducible apply W_sDrop | with_reducible apply W_sNil | with_reducible apply W_sAsg | with_reducible apply W_sPar | with_reducible apply W_sAugIx | with_reducible apply W_sFor | with_reducible apply W_gtName | ((with_reducible apply Y_gtTup); rfl) | with_reducible apply W_gtCons | with_reducible apply W_gtNil | with_reducible apply W_gtSub
  | with_reducible apply W_iTup | with_reducible apply W_iRng1 | with_reducible apply W_iRng2 | with_reducible apply W_iEnum | with_reducible apply W_iLst | with_reducible apply W_eComp | with_reducible apply W_eApp
  | (with_reducible apply Y_lenV) | ((with_reducible apply Y_lenT); rfl) | ((with_reducible apply ite_t); exact rfl) | ((with_reducible apply ite_f); exact rfl) | ((with_reducible apply ite_t); exact decide_eq_true (by omega)) | ((with_reducible apply ite_f); exact decide_eq_false (by omega)) | ((with_reducible apply ite_t); exact not_t (decide_eq_false (by omega))) | ((with_reducible apply ite_f); exact not_f (decide_eq_true (by omega)))
   | ((with_reducible apply Y_ixLV); (rfl); (first | assumption | omega)) | ((with_reducible apply Y_ixTV); (first | assumption | omega)) | ((with_reducible apply Y_ixTV0); (first | assumption | omega)) | ((with_reducible apply Y_ixLV0); (rfl); (first | assumption | omega)) | ((with_reducible apply W_tupL); rfl) | with_reducible refine ⟨_, rfl, ?_⟩ | exact rfl | refine ⟨(Nat.le_of_ble_eq_true rfl : List.length _ ≤ 1000), ?_⟩)
theorem gcds_two {A : Nat → Int} : ∀ i, gcds 2 (fun i => 2 * A i + 1) (i + 1) = 1
  | 0 => by
    show Nat.gcd 2 (2 * A 0 + 1).natAbs = 1
    rw [Nat.gcd_rec, show (2 * A 0 + 1).natAbs % 2 = 1 by omega, Nat.gcd_one_left]
  | i + 1 => by rw [gcds, gcds_two i]; exact Nat.gcd_one_left _
section
variable {clk : D} {b T : Nat} {f : Nat → Nat} (K : CK clk b T f)
include K
theorem pu_undivided (A : Nat → Int) : Pu F_L_undivided [clk, .tup [.int 2, .tup (V (b * T) fun i => 2 * A i + 1)]] (.tup [.str "deal", .int (-1)]) := by
  have hp := K.npos
  have h1 : Pu F_is_deal [clk, .tup [.int 2, .tup (V (b * T) fun i => 2 * A i + 1)]] (.bl true) := by
    have h := pu_is_deal K (c := 2) (by omega) fun i => 2 * A i + 1
    obtain ⟨k, hk⟩ : ∃ k, b * T = k + 1 := ⟨b * T - 1, by omega⟩
    have e : gcds 2 (fun i => 2 * A i + 1) (b * T) = 1 := by rw [hk]; exact gcds_two k
    rw [e] at h
    exact h
  have h2 : Pu F_judge_deal [clk, .tup [.int 2, .tup (V (b * T) fun i => 2 * A i + 1)], .str "deal"] .non := by
    refine .of (W_def ?_) (by simp [D.norefs, D.noref, K.nr, norefs_V]) rfl
    unfold b_judge_deal
    repeat infer_instance
    refine W_pu h1 ?_
    repeat infer_instance
  obtain ⟨_, _, s1, h3⟩ := h2
  have hn : D.norefs [clk, .tup [.int 2, .tup (V (b * T) fun i => 2 * A i + 1)]] = true := by simp [D.norefs, D.noref, K.nr, norefs_V]
  refine ⟨hn, rfl, MS0, ?_⟩
  show (if D.norefs [clk, .tup [.int 2, .tup (V (b * T) fun i => 2 * A i + 1)]] = true then (match F_judge_deal [clk, .tup [.int 2, .tup (V (b * T) fun i => 2 * A i + 1)], .str "deal"] MS0 with
    | some (.non, _) => if (2 : Int) = 1 then none else some (D.tup [.str "deal", .int (-1)], MS0)
    | _ => none) else none) = _
  rw [if_pos hn, h3]
  rfl
/-- which primes the one or the other has -/
def cover (ps : List Nat) (a c : Nat) : Bool := ps.all fun p => !(decide (a % p ≠ 0) && decide (c % p ≠ 0))
omit K in
theorem decide_cast {a p : Nat} : (!decide (((a % p : Nat) : Int) = 0)) = decide (a % p ≠ 0) := by
  rw [Bool.eq_iff_iff]
  simp
  omega
theorem pu_parts_cover {p1 p2 : D} {a c : Nat} {ps : List Nat} (h1 : Pu F_is_part [clk, p1] (.bl true)) (h2 : Pu F_is_part [clk, p2] (.bl true)) (h3 : Pu F_part_size [clk, p1] (.int a)) (h4 : Pu F_part_size [clk, p2] (.int c))
    (hps : Pu F_primes_of [.int (b * T : Nat)] (.tup (ps.map fun p => D.int (p : Nat)))) (hp0 : ∀ p ∈ ps, 0 < p) : Pu F_parts_cover [clk, p1, p2] (.bl (cover ps a c)) := by
  have n1 : p1.noref = true := by have h := h1.1; rw [D.norefs, D.norefs, Bool.and_eq_true, Bool.and_eq_true] at h; exact h.2.1
  have n2 : p2.noref = true := by have h := h2.1; rw [D.norefs, D.norefs, Bool.and_eq_true, Bool.and_eq_true] at h; exact h.2.1
  have hw : ∀ (p : D) (x : Str), Pu F_is_part [clk, p] (.bl true) → p.noref = true → Pu F_want_part_77 [clk, p, .str x] .non := fun p x hp hn => by
    refine .of (W_def ?_) (by simp [D.norefs, D.noref, K.nr, hn]) rfl
    unfold b_want_part_77
    repeat infer_instance
    refine W_pu hp ?_
    repeat infer_instance
  refine .of (W_def ?_) (by simp [D.norefs, K.nr, n1, n2]) rfl
  unfold b_parts_cover
  repeat infer_instance
  refine W_pu (hw p1 _ h1 n1) ?_
  repeat infer_instance
  refine W_pu (hw p2 _ h2 n2) ?_
  repeat infer_instance
  refine W_pu h3 ?_
  repeat infer_instance
  refine W_pu h4 ?_
  repeat infer_instance
  refine W_pu K.mm ?_
  repeat infer_instance
  refine W_pu hps ?_
  repeat infer_instance
  refine W_forL (fun i env s => (∀ p ∈ ps.take i, (!(decide (a % p ≠ 0) && decide (c % p ≠ 0))) = true) ∧ ∃ x, env = [some clk, some p1, some p2, some (.int a), some (.int c), x]) ⟨fun _ h => by simp at h, _, rfl⟩ (fun _ _ _ _ => rfl) (fun i d env s e h => ?_) (fun env s h => ?_)
  · obtain ⟨h5, x, rfl⟩ := h
    rw [List.getElem?_map] at e
    cases hj : ps[i]? with
    | none => rw [hj] at e; cases e
    | some p =>
      rw [hj] at e
      cases e
      have hm := List.mem_of_getElem? hj
      have hp := hp0 p hm
      repeat infer_instance
      rw [decide_cast]
      cases hx : decide (a % p ≠ 0) with
      | false =>
        repeat infer_instance
        refine ⟨fun q hq => ?_, _, rfl⟩
        rw [List.take_succ, hj] at hq
        rcases List.mem_append.mp hq with hq | hq
        · exact h5 q hq
        · have : q = p := by simpa using hq
          rw [this, hx]; rfl
      | true =>
        repeat infer_instance
        rw [decide_cast]
        cases hy : decide (c % p ≠ 0) with
        | false =>
          repeat infer_instance
          refine ⟨fun q hq => ?_, _, rfl⟩
          rw [List.take_succ, hj] at hq
          rcases List.mem_append.mp hq with hq | hq
          · exact h5 q hq
          · have : q = p := by simpa using hq
            rw [this, hx, hy]; rfl
        | true =>
          repeat infer_instance
          have : cover ps a c = false := by
            unfold cover
            rw [List.all_eq_false]
            exact ⟨p, hm, by rw [hx, hy]; simp⟩
          rw [this]
          exact rfl
  · obtain ⟨h5, x, rfl⟩ := h
    rw [List.length_map, List.take_length] at h5
    repeat infer_instance
    have : cover ps a c = true := by
      unfold cover
      rw [List.all_eq_true]
      exact h5
    rw [this]
end
/-! ### sets of moves -/
section
variable {clk : D} {b T : Nat} {f : Nat → Nat} {e : Nat} {part small' : D} {kb c : Nat} {f' φ : Nat → Nat} {m' : Nat → Nat → Nat} {inv : Nat → Nat} (C : CL clk b T f e part small' kb c f' φ m' inv)
/-- the moves of the chosen numbers, as the law lays them -/
def mvs (b n : Nat) (p : Nat → Bool) : List D := sortD (((List.range n).filter p).map (mvD b))
def ind (p : Nat → Bool) (g : Nat) : Int := if p g = true then 1 else 0
include C
theorem mvD_key {k : Nat} (hk : k < b * T) : pairKey (mvD b k) = some (((k % b : Nat) : Int) * 64 + ((k / b : Nat) : Int)) := by
  have h1 : k % b < b := Nat.mod_lt _ C.hb
  have h2 := C.toCK.div_lt hk
  have h3 := C.b64
  have h4 := C.T64
  show (if 0 ≤ ((k % b : Nat) : Int) ∧ ((k % b : Nat) : Int) < 64 ∧ 0 ≤ ((k / b : Nat) : Int) ∧ ((k / b : Nat) : Int) < 64 then _ else _) = _
  generalize k % b = u at *
  generalize k / b = v at *
  rw [if_pos (by omega)]
theorem mvD_inj {k j : Nat} (h : mvD b k = mvD b j) : k = j := by
  unfold mvD at h
  have h1 := D.tup.inj h
  have h2 := D.int.inj (List.cons.inj h1).1
  have h3 := D.int.inj (List.cons.inj (List.cons.inj h1).2).1
  have h4 := Nat.div_add_mod k b
  have h5 := Nat.div_add_mod j b
  have h6 : k % b = j % b := by omega
  have h7 : k / b = j / b := by omega
  rw [← h4, ← h5, h6, h7]
theorem mvs_mem {p : Nat → Bool} {d : D} : d ∈ mvs b (b * T) p ↔ ∃ k, k < b * T ∧ p k = true ∧ d = mvD b k := by
  unfold mvs
  rw [(sortD_perm _).mem_iff, List.mem_map]
  constructor
  · rintro ⟨k, hk, rfl⟩
    have := List.mem_filter.mp hk
    exact ⟨k, List.mem_range.mp this.1, this.2, rfl⟩
  · rintro ⟨k, hk, hp, rfl⟩
    exact ⟨k, List.mem_filter.mpr ⟨List.mem_range.mpr hk, hp⟩, rfl⟩
theorem mvs_sorted (p : Nat → Bool) : (mvs b (b * T) p).Pairwise fun x y => keyOf x < keyOf y := by
  have h1 : (mvs b (b * T) p).Pairwise fun x y => keyOf x ≤ keyOf y := sortD_sorted _
  have h2 : (mvs b (b * T) p).Nodup := by
    unfold mvs
    rw [(sortD_perm _).nodup_iff]
    have h3 : ((List.range (b * T)).filter p).Nodup := List.nodup_range.filter _
    refine List.Pairwise.map _ (fun x y hne q => hne (mvD_inj C q)) h3
  refine (h1.and h2).imp_of_mem fun {x y} hx hy ⟨q1, q2⟩ => ?_
  obtain ⟨i, hi, _, rfl⟩ := (mvs_mem C).mp hx
  obtain ⟨j, hj, _, rfl⟩ := (mvs_mem C).mp hy
  have ki : keyOf (mvD b i) = ((i % b : Nat) : Int) * 64 + ((i / b : Nat) : Int) := by unfold keyOf; rw [mvD_key C hi]; rfl
  have kj : keyOf (mvD b j) = ((j % b : Nat) : Int) * 64 + ((j / b : Nat) : Int) := by unfold keyOf; rw [mvD_key C hj]; rfl
  have ne : keyOf (mvD b i) ≠ keyOf (mvD b j) := fun q => q2 (by
    have a1 := C.toCK.div_lt hi
    have a2 := C.toCK.div_lt hj
    have a3 := C.T64
    rw [ki, kj] at q
    unfold mvD
    generalize i % b = u1 at *
    generalize i / b = u2 at *
    generalize j % b = u3 at *
    generalize j / b = u4 at *
    rw [show u1 = u3 by omega, show u2 = u4 by omega])
  omega
theorem norefs_mvs (p : Nat → Bool) : D.norefs (mvs b (b * T) p) = true := by
  have key : ∀ l : List D, (∀ d ∈ l, d.noref = true) → D.norefs l = true := by
    intro l
    induction l with
    | nil => intro _; rfl
    | cons a l ih => intro h; rw [D.norefs, h a List.mem_cons_self, ih fun d hd => h d (List.mem_cons_of_mem _ hd)]; rfl
  refine key _ fun d hd => ?_
  obtain ⟨k, _, _, rfl⟩ := (mvs_mem C).mp hd
  rfl
theorem mvs_len (p : Nat → Bool) : (mvs b (b * T) p).length = ((List.range (b * T)).filter p).length := by
  unfold mvs
  rw [(sortD_perm _).length_eq, List.length_map]
theorem pu_is_moves (p : Nat → Bool) (h0 : mvs b (b * T) p ≠ []) : Pu F_is_moves [clk, .tup (mvs b (b * T) p)] (.bl true) := by
  have K := C.toCK
  have hl0 : 0 < (mvs b (b * T) p).length := List.length_pos_iff.mpr h0
  refine .of (W_def ?_) (by simp [D.norefs, D.noref, K.nr, norefs_mvs C]) rfl
  unfold b_is_moves
  repeat infer_instance
  refine W_forL (fun i env s => ∃ (u v : Int) (x : Option D), env = [some clk, some (.tup (mvs b (b * T) p)), some (.tup [.int u, .int v]), x] ∧ ∀ (k : Nat), (mvs b (b * T) p)[i]? = some (mvD b k) → k < b * T → ¬ (if ((k % b : Nat) : Int) = u then decide (((k / b : Nat) : Int) ≤ v) else decide (((k % b : Nat) : Int) ≤ u)) = true)
    ⟨-1, -1, none, rfl, fun k _ _ => ?_⟩ (fun _ _ _ _ => rfl) (fun i d env s h1 h => ?_) (fun env s h => ?_)
  · rw [if_neg (by omega), decide_eq_true_iff]; omega
  · obtain ⟨u, v, x, rfl, h2⟩ := h
    have hm := List.mem_of_getElem? h1
    obtain ⟨k, hk, _, rfl⟩ := (mvs_mem C).mp hm
    have h3 := Bool.eq_false_iff.mpr (h2 k h1 hk)
    repeat infer_instance
    refine W_pu (C.im k hk) ?_
    repeat infer_instance
    refine ite_f h3 ?_
    repeat infer_instance
    refine ⟨_, _, _, rfl, fun j hj hjn => ?_⟩
    have hi : i + 1 < (mvs b (b * T) p).length := (List.getElem?_eq_some_iff.mp hj).1
    have lt := List.pairwise_iff_getElem.mp (mvs_sorted C p) i (i + 1) (by omega) hi (by omega)
    rw [(List.getElem?_eq_some_iff.mp h1).2, (List.getElem?_eq_some_iff.mp hj).2] at lt
    have ki : keyOf (mvD b k) = ((k % b : Nat) : Int) * 64 + ((k / b : Nat) : Int) := by unfold keyOf; rw [mvD_key C hk]; rfl
    have kj : keyOf (mvD b j) = ((j % b : Nat) : Int) * 64 + ((j / b : Nat) : Int) := by unfold keyOf; rw [mvD_key C hjn]; rfl
    have a1 := K.div_lt hk
    have a2 := K.div_lt hjn
    have a3 := C.T64
    rw [ki, kj] at lt
    generalize k % b = u1 at *
    generalize k / b = u2 at *
    generalize j % b = u3 at *
    generalize j / b = u4 at *
    split
    · rw [decide_eq_true_iff]; omega
    · rw [decide_eq_true_iff]; omega
  · obtain ⟨u, v, x, rfl, h2⟩ := h
    repeat infer_instance
theorem pu_deal_on (p : Nat → Bool) (h0 : mvs b (b * T) p ≠ []) : Pu F_deal_on [clk, .tup (mvs b (b * T) p)] (dl (b * T) (ind p)) := by
  have K := C.toCK
  have hn := K.hn
  have hl0 : 0 < (mvs b (b * T) p).length := List.length_pos_iff.mpr h0
  refine .of (W_def ?_) (by simp [D.norefs, D.noref, K.nr, norefs_mvs C]) noref_dl
  unfold b_deal_on
  repeat infer_instance
  refine W_pu (pu_is_moves C p h0) ?_
  repeat infer_instance
  refine W_pu K.mm ?_
  repeat infer_instance
  refine ⟨by omega, ?_⟩
  refine ⟨by rw [rngItems_len]; omega, ?_⟩
  refine W_compV (b * T) (fun _ => 0) (by rw [rngItems_len]; rfl) rfl (fun i d hi e => ?_) ?_
  · obtain ⟨_, rfl⟩ := rng_at0 e
    repeat infer_instance
    refine ⟨rfl, rfl, ?_⟩
    repeat infer_instance
    exact ⟨rfl, rfl⟩
  repeat infer_instance
  refine W_forL (fun i env s => (∃ x y z, env = [some clk, some (.tup (mvs b (b * T) p)), x, some (.ref 0), y, z]) ∧ s = ⟨none, [V (b * T) fun g => if mvD b g ∈ (mvs b (b * T) p).take i then 1 else 0]⟩) ⟨⟨_, _, _, rfl⟩, ?_⟩ (fun _ _ _ _ => rfl) (fun i d env s h1 h => ?_) (fun env s h => ?_)
  · show (⟨none, [_]⟩ : MS) = _
    rfl
  · obtain ⟨⟨x, y, z, rfl⟩, rfl⟩ := h
    have hm := List.mem_of_getElem? h1
    obtain ⟨k, hk, _, rfl⟩ := (mvs_mem C).mp hm
    repeat infer_instance
    refine W_pu (C.nb k hk) ?_
    repeat infer_instance
    refine ⟨_, dSet_L rfl (by rw [V_len]; exact hk), ⟨_, _, _, rfl⟩, ?_⟩
    rw [V_set]
    show (⟨none, [_]⟩ : MS) = _
    congr 2
    refine V_ext fun g _ => ?_
    rw [List.take_succ, h1, show (some (mvD b k)).toList = [mvD b k] from rfl]
    by_cases hkg : k = g
    · subst hkg
      rw [if_pos rfl, if_pos (List.mem_append_right _ (show mvD b k ∈ [mvD b k] from List.mem_singleton.mpr rfl))]
    · rw [if_neg hkg]
      have e : mvD b g ∈ (mvs b (b * T) p).take i ++ [mvD b k] ↔ mvD b g ∈ (mvs b (b * T) p).take i := by
        rw [List.mem_append]
        constructor
        · rintro (q | q)
          · exact q
          · exact absurd (mvD_inj C (List.mem_singleton.mp q)).symm hkg
        · exact .inl
      by_cases hq : mvD b g ∈ (mvs b (b * T) p).take i
      · rw [if_pos hq, if_pos (e.mpr hq)]
      · rw [if_neg hq, if_neg fun z => hq (e.mp z)]
  · obtain ⟨⟨x, y, z, rfl⟩, rfl⟩ := h
    rw [List.take_length]
    rw [show (V (b * T) fun g => if mvD b g ∈ mvs b (b * T) p then 1 else 0) = V (b * T) (ind p) from V_ext fun g hg => by
      unfold ind
      by_cases hp : p g = true
      · rw [if_pos hp, if_pos ((mvs_mem C).mpr ⟨g, hg, hp, rfl⟩)]
      · rw [if_neg hp, if_neg]
        intro q
        obtain ⟨k, _, h2, h3⟩ := (mvs_mem C).mp q
        rw [mvD_inj C h3] at hp
        exact hp h2]
    repeat infer_instance
end
end Mir
/-! ## PH -/
set_option maxHeartbeats 200000
set_option Elab.async false
set_option linter.all false
set_option maxRecDepth 100000
/-! The plain law: the law's own words over a world of lists. -/
namespace Mir
open PySem PySem.Spec PyProof.Rows L2
theorem Y_lenLV {s : MS} {Q : D → MS → Prop} {n : Nat} {A : Nat → Int} {r : Nat} (hr : At s r (V n A)) (h : Q (.int (n : Int)) s) : W (fLen [.ref r] s) Q := W_lenL hr h V_len
local macro_rules | `(tactic| infer_instance) => `(tactic| first
  | with_reducible apply W_sSeq | with_reducible apply W_sSet | with_reducible apply SK_nx | with_reducible apply SK_rt | ((with_reducible apply Y_eVar); rfl) | with_reducible apply W_eC | with_reducible apply W_aCons | with_reducible apply W_aNil | with_reducible apply W_e2 | with_reducible apply W_e1 | with_reducible apply W_eCB
  | ((with_reducible apply Y_mulN); omega) | ((with_reducible apply Y_divN); omega) | ((with_reducible apply Y_modN); omega) | with_reducible apply W_addN | ((with_reducible apply Y_ret); rfl) | ((with_reducible apply Y_mulI); omega) | ((with_reducible apply Y_divI); omega) | ((with_reducible apply Y_modI); omega)
  | with_reducible apply W_tOf | with_reducible apply W_tNot | with_reducible apply W_tAnd | with_reducible apply W_tOr | with_reducible apply W_tYes | with_reducible apply W_eAnd | with_reducible apply W_eOr | with_reducible apply W_eNot | with_reducible apply W_eIf | with_reducible apply W_eIx | with_reducible apply W_eTup | with_reducible apply W_eLst
  | with_reducible apply W_sIf | with_reducible apply W_sRet | with_reducible apply W_sDrop | with_reducible apply W_sNil | with_reducible apply W_sAsg | with_reducible apply W_sPar | with_reducible apply W_sAugIx | with_reducible apply W_sFor | with_reducible apply W_gtName | ((with_reducible apply Y_gtTup); rfl) | with_reducible apply W_gtCons | with_reducible apply W_gtNil | with_reducible apply W_gtSub
  | with_reducible apply W_iTup | with_reducible apply W_iRng1 | with_reducible apply W_iRng2 | with_reducible apply W_iEnum | with_reducible apply W_iLst | with_reducible apply W_eApp
  | (with_reducible apply Y_lenV) | ((with_reducible apply Y_lenT); rfl) | ((with_reducible apply ite_t); exact rfl) | ((with_reducible apply ite_f); exact rfl) | ((with_reducible apply ite_t); exact decide_eq_true (by omega)) | ((with_reducible apply ite_f); exact decide_eq_false (by omega)) | ((with_reducible apply ite_t); exact not_t (decide_eq_false (by omega))) | ((with_reducible apply ite_f); exact not_f (decide_eq_true (by omega)))
   | ((with_reducible apply Y_ixLV); (first | assumption | rfl); (first | assumption | omega)) | ((with_reducible apply Y_ixTV); (first | assumption | omega)) | ((with_reducible apply Y_ixTV0); (first | assumption | omega)) | ((with_reducible apply Y_ixLV0); (first | assumption | rfl); (first | assumption | omega)) | ((with_reducible apply W_tupL); (first | assumption | rfl)) | ((with_reducible apply Y_lenLV); (first | assumption | rfl)) | with_reducible refine ⟨_, rfl, ?_⟩ | exact rfl | refine ⟨(Nat.le_of_ble_eq_true rfl : List.length _ ≤ 1000), ?_⟩)
/-- all lists of s stand in s', the seat too -/
structure Kp (s s' : MS) : Prop where
  at_ : ∀ q xs, At s q xs → At s' q xs
  seat : s.seat.isSome = true → s'.seat.isSome = true
theorem Kp.refl (s : MS) : Kp s s := ⟨fun _ _ h => h, fun h => h⟩
theorem Kp.trans {s s' s'' : MS} (h : Kp s s') (k : Kp s' s'') : Kp s s'' := ⟨fun q xs z => k.at_ q xs (h.at_ q xs z), fun z => k.seat (h.seat z)⟩
theorem Kp.set {s s' : MS} (h : Kp s s') {r : Nat} (hr : s.st.length ≤ r) {ys : List D} : Kp s (s'.setAt r ys) := ⟨fun q xs z => (h.at_ q xs z).setNe (by have := z.lt; omega), h.seat⟩
theorem Kp.sit {s s' : MS} (h : Kp s s') {z : List Int × Int} : Kp s { s' with seat := some z } := ⟨h.at_, fun _ => rfl⟩
structure New (s s' : MS) (r : Nat) (ys : List D) : Prop extends Kp s s' where
  new : At s' r ys
  ne : ∀ q xs, At s q xs → q ≠ r
  le : s.st.length ≤ r
theorem New.of {s : MS} {ys : List D} : New s (s.add ys) s.st.length ys := ⟨⟨fun q xs h => h.add, fun h => h⟩, At.new, fun q xs h => by have := h.lt; omega, Nat.le_refl _⟩
theorem take_kp {s s' : MS} (h : Kp s s') : s'.st.take s.st.length = s.st := by
  apply List.ext_getElem?
  intro q
  by_cases hq : q < s.st.length
  · rw [List.getElem?_take_of_lt hq]
    have := h.at_ q s.st[q] (List.getElem?_eq_getElem hq)
    rw [this, List.getElem?_eq_getElem hq]
  · rw [List.getElem?_eq_none (by rw [List.length_take]; omega), List.getElem?_eq_none (by omega)]
mutual
theorem und_nr (n : Nat) : ∀ d : D, d.noref = true → d.und n = true
  | .non, _ => rfl
  | .bl _, _ => rfl
  | .int _, _ => rfl
  | .str _, _ => rfl
  | .tup l, h => by rw [D.und, unds_nr n l (by simpa [D.noref] using h)]
  | .ref _, h => by simp [D.noref] at h
  | .seat, h => by simp [D.noref] at h
theorem unds_nr (n : Nat) : ∀ ds : List D, D.norefs ds = true → D.unds n ds = true
  | [], _ => rfl
  | d :: ds, h => by
    rw [D.norefs, Bool.and_eq_true] at h
    rw [D.unds, und_nr n d h.1, unds_nr n ds h.2]; rfl
end
theorem W_callFd {F : MF} {ds : List D} {s : MS} {Q : D → MS → Prop} (h : W (F ds s) fun d s2 => d.noref = true ∧ Kp s s2 ∧ ∀ s3, Kp s s3 → Q d s3) : W (callF F ds s) Q := by
  obtain ⟨d, s2, e, h1, h2, h3⟩ := h
  refine ⟨d, { s2 with st := s.st }, ?_, h3 _ ⟨fun _ _ h => h, h2.seat⟩⟩
  unfold callF
  rw [e]
  show trim s d s2 = _
  unfold trim
  rw [if_pos (take_kp h2), if_pos (und_nr _ _ h1)]
theorem W_callFr {F : MF} {ds : List D} {s : MS} {Q : D → MS → Prop} (h : W (F ds s) fun d s2 => ∃ r xs, d = .ref r ∧ s.st.length ≤ r ∧ At s2 r xs ∧ D.norefs xs = true ∧ Kp s s2 ∧ ∀ q s3, New s s3 q xs → Q (.ref q) s3) : W (callF F ds s) Q := by
  obtain ⟨d, s2, e, r, xs, rfl, h1, h2, h3, h4, h5⟩ := h
  have hn : New s { s2 with st := s.st ++ [xs] } s.st.length xs := ⟨⟨fun q ys h => (h.add (ys := xs) : At (s.add xs) q ys), h4.seat⟩, (At.new (s := s) : At (s.add xs) s.st.length xs), fun q xs h => by have := h.lt; omega, Nat.le_refl _⟩
  refine ⟨.ref s.st.length, { s2 with st := s.st ++ [xs] }, ?_, h5 _ _ hn⟩
  unfold callF
  rw [e]
  show trim s (.ref r) s2 = _
  unfold trim
  rw [if_pos (take_kp h4), if_neg (by rw [D.und, decide_eq_true_iff]; omega)]
  show (match s2.st[r]? with
      | some xs => if D.unds s.st.length xs = true then some (D.ref s.st.length, { s2 with st := s.st ++ [xs] }) else none
      | none => none) = _
  rw [h2]
  dsimp only
  rw [if_pos (unds_nr _ _ h3)]
theorem W_next {m : Nat} {s : MS} {Q : D → MS → Prop} (hs : s.seat.isSome = true) (h0 : 0 < m) (hm : m < 1000000) (h : ∀ (v : Nat) z, v < m → Q (.int v) { s with seat := some z }) : W (F_L_next [.seat, .int m] s) Q := by
  obtain ⟨q, st⟩ := s
  cases q with
  | none => cases hs
  | some q =>
    obtain ⟨gs, mix⟩ := q
    have e : F_L_next [.seat, .int m] ⟨some (gs, mix), st⟩ = some (.int (drawn gs mix m).1, ⟨some (drawn gs mix m).2, st⟩) := by
      show (if 0 < (m : Int) ∧ (m : Int) < 1000000 then _ else _) = _
      rw [if_pos (by omega)]
    have hb : 0 ≤ (drawn gs mix m).1 ∧ (drawn gs mix m).1 < m := by
      unfold drawn
      split
      · exact ⟨Int.emod_nonneg _ (by omega), Int.emod_lt_of_pos _ (by omega)⟩
      · exact ⟨Int.emod_nonneg _ (by omega), Int.emod_lt_of_pos _ (by omega)⟩
    obtain ⟨v, hv⟩ := Int.eq_ofNat_of_zero_le hb.1
    refine W_eq e ?_
    rw [hv]
    exact h v _ (by omega)
/-- a comprehension of ints, a list of its own -/
theorem W_eCompV {vs : List Nat} {src : IM} {tg : GM} {tt : TM} {te : EM} {env : Env} {s : MS} {Q : D → MS → Prop} (n : Nat) (A : Nat → Int) (hn : n < 100000)
    (hsrc : W (src env s) fun p s1 => s1 = s ∧ p.1.length = n ∧ gOk p.2 s = true ∧ ∀ i d, i < n → p.1[i]? = some d → W (tg d (wipeE env vs) s) fun env1 s1 => W (tt env1 s1) fun b s2 => b = true ∧ s2 = s ∧ W (te env1 s) fun y s3 => y = .int (A i) ∧ s3 = s)
    (h : ∀ r s', New s s' r (V n A) → Q (.ref r) s') : W (eComp vs src tg tt te env s) Q := by
  refine W_eComp (W_mono hsrc fun p s1 ⟨h1, h2, h3, h4⟩ => ?_)
  subst h1
  refine ⟨by omega, W_compV n A h2 h3 (fun i d hi e => h4 i d hi e) (h _ _ .of)⟩
/-- .. of draws -/
theorem W_eCompR {vs : List Nat} {src : IM} {tg : GM} {tt : TM} {te : EM} {env : Env} {s : MS} {Q : D → MS → Prop} (n : Nat) (P : Nat → Int → Prop) (hn : n < 100000) (hseat : s.seat.isSome = true)
    (hsrc : W (src env s) fun p s1 => s1 = s ∧ p.1.length = n ∧ p.2 = none ∧ ∀ i d z, i < n → p.1[i]? = some d → W (tg d (wipeE env vs) { s with seat := some z }) fun env1 s1 => W (tt env1 s1) fun b s2 => b = true ∧ s2 = { s with seat := some z } ∧ W (te env1 { s with seat := some z }) fun y s3 => ∃ v z', y = .int v ∧ P i v ∧ s3 = { s with seat := some z' })
    (h : ∀ A r s', (∀ i, i < n → P i (A i)) → New s s' r (V n A) → Q (.ref r) s') : W (eComp vs src tg tt te env s) Q := by
  obtain ⟨q, st⟩ := s
  cases q with
  | none => cases hseat
  | some q =>
    refine W_eComp (W_mono hsrc fun p s1 ⟨h1, h2, h3, h4⟩ => ?_)
    subst h1
    refine ⟨by omega, W_compL (fun i acc s' => (∃ A, acc = V i A ∧ ∀ j, j < i → P j (A j)) ∧ ∃ z, s' = ⟨some z, st⟩) ⟨⟨fun _ => 0, rfl, fun j hj => by omega⟩, q, rfl⟩ (fun i acc s' _ => by rw [h3]; rfl) (fun i d acc s' e hI => ?_) (fun acc s' hI => ?_)⟩
    · obtain ⟨⟨A, rfl, hA⟩, z, rfl⟩ := hI
      have hi : i < n := by rw [← h2]; exact (List.getElem?_eq_some_iff.mp e).1
      refine W_mono (h4 i d z hi e) fun env1 s1 h5 => W_mono h5 fun b s2 ⟨hb, hs2, h6⟩ => ?_
      subst hb
      subst hs2
      rw [if_pos rfl]
      refine W_mono h6 fun y s3 ⟨v, z', hy, hP, hs3⟩ => ?_
      subst hy
      subst hs3
      refine ⟨⟨fun j => if i = j then v else A j, ?_, fun j hj => ?_⟩, z', rfl⟩
      · rw [show V i A = V i (fun j => if i = j then v else A j) from V_ext fun j hj => by rw [if_neg (by omega)]]
        exact V_append (by rw [if_pos rfl])
      · show P j (if i = j then v else A j)
        by_cases e : i = j
        · rw [if_pos e]; subst e; exact hP
        · rw [if_neg e]; exact hA j (by omega)
    · obtain ⟨⟨A, rfl, hA⟩, z, rfl⟩ := hI
      rw [h2] at hA ⊢
      exact h A _ _ hA ⟨⟨fun q xs h => (h.add (ys := V n A) : At ((⟨some z, st⟩ : MS).add (V n A)) q xs), fun h => h⟩, At.new, fun q xs h => by have := h.lt; have : q < st.length := this; show q ≠ st.length; omega, Nat.le_refl _⟩
/-- a vector to be read: a list, a tuple -/
def Rd (s : MS) (d : D) (n : Nat) (A : Nat → Int) : Prop := (∃ r, d = .ref r ∧ At s r (V n A)) ∨ d = .tup (V n A)
theorem Rd.kp {s s' : MS} (k : Kp s s') {d : D} {n : Nat} {A : Nat → Int} (h : Rd s d n A) : Rd s' d n A := by
  rcases h with ⟨r, rfl, h⟩ | rfl
  · exact .inl ⟨r, rfl, k.at_ _ _ h⟩
  · exact .inr rfl
theorem W_ixRd {s s2 : MS} {Q : D → MS → Prop} {d : D} {n i : Nat} {A : Nat → Int} (hr : Rd s2 d n A) (hi : i < n) (h : Q (.int (A i)) s) : W (ret (dIx s2 d (.int (i : Int))) s) Q := by
  rcases hr with ⟨r, rfl, hr⟩ | rfl
  · exact Y_ixLV hr hi h
  · exact Y_ixTV hi h
/-- the world -/
structure WO (s : MS) (wd clk : D) (b T : Nat) (f : Nat → Nat) : Prop where
  ex : ∃ t fa pc, ∃ row : Nat → Nat, wd = .tup [clk, .ref t, .ref fa, pc] ∧ At s t ((List.range (b * T)).map fun k => D.ref (row k)) ∧ (∀ k, k < b * T → At s (row k) (V (b * T) fun j => (gm b T f k j : Int))) ∧ At s fa (V T fun t => (f t : Int))
theorem WO.kp {s s' : MS} (k : Kp s s') {wd clk : D} {b T : Nat} {f : Nat → Nat} (h : WO s wd clk b T f) : WO s' wd clk b T f := by
  obtain ⟨t, fa, pc, row, e, h1, h2, h3⟩ := h.ex
  exact ⟨t, fa, pc, row, e, k.at_ _ _ h1, fun j hj => k.at_ _ _ (h2 j hj), k.at_ _ _ h3⟩
section
variable {clk wd : D} {b T : Nat} {f : Nat → Nat} (K : CK clk b T f)
include K
theorem w_times {s : MS} (wo : WO s wd clk b T f) {d1 d2 : D} {A B : Nat → Int} (r1 : Rd s d1 (b * T) A) (r2 : Rd s d2 (b * T) B) (hs : small (b * T) A ∨ small (b * T) B) {Q : D → MS → Prop}
    (h : ∀ q s3, New s s3 q (V (b * T) (cv (b * T) (gm b T f) A B)) → Q (.ref q) s3) : W (callF F_L_times [wd, d1, d2] s) Q := by
  have hn := K.hn
  obtain ⟨t, fa, pc, row, rfl, ht, hrow, hfa⟩ := wo.ex
  have hlen : ((List.range (b * T)).map fun k => D.ref (row k)).length = b * T := by simp
  have hget : ∀ j, j < b * T → ((List.range (b * T)).map fun k => D.ref (row k))[j]? = some (.ref (row j)) := fun j hj => by
    rw [List.getElem?_map, List.getElem?_range hj]; rfl
  refine W_callFr (W_def ?_)
  unfold b_L_times
  repeat infer_instance
  refine W_lenL ht ?_ hlen
  repeat infer_instance
  refine W_eCompV (b * T) (fun _ => 0) (by omega) ?_ fun r s1 hnew => ?_
  · repeat infer_instance
    refine ⟨by omega, ?_⟩
    refine ⟨rfl, by rw [rngItems_len]; rfl, rfl, fun i d hi e => ?_⟩
    obtain ⟨_, rfl⟩ := rng_at0 e
    repeat infer_instance
    refine ⟨rfl, rfl, ?_⟩
    repeat infer_instance
    exact ⟨rfl, rfl⟩
  repeat infer_instance
  refine ⟨by omega, ?_⟩
  have hro : ∀ q xs, At s q xs → q ≠ r := hnew.ne
  refine W_forL (fun i env s' => (∃ x6 x7 x8 x9, env = [some (.tup [clk, .ref t, .ref fa, pc]), some d1, some d2, some (.ref t), some (.int (b * T : Nat)), some (.ref r), x6, x7, x8, x9]) ∧ Kp s s' ∧
      At s' r (V (b * T) fun g => S i fun x => S (b * T) fun y => if gm b T f x y = g then A x * B y else 0)) ⟨⟨_, _, _, _, rfl⟩, hnew.toKp, hnew.new⟩ (fun _ _ _ _ => rfl) (fun i d env s' e h2 => ?_) (fun env s' h2 => ?_)
  · obtain ⟨⟨x6, x7, x8, x9, rfl⟩, hk, hat⟩ := h2
    obtain ⟨hi, rfl⟩ := rng_at0 e
    have hi : i < b * T := hi
    repeat infer_instance
    refine W_ixRd (r1.kp hk) hi ?_
    repeat infer_instance
    by_cases h0 : A i = 0
    · repeat infer_instance
      refine ⟨⟨_, _, _, _, rfl⟩, hk, ?_⟩
      rw [show (V (b * T) fun g => S (i + 1) fun x => S (b * T) fun y => if gm b T f x y = g then A x * B y else 0) = V (b * T) fun g => S i fun x => S (b * T) fun y => if gm b T f x y = g then A x * B y else 0 from V_ext fun g _ => by
        rw [S_succ]
        have hz : (S (b * T) fun y => if gm b T f i y = g then A i * B y else 0) = 0 := by
          rw [S_congr (g := fun _ => 0) (fun y _ => by rw [h0, Int.zero_mul]; split <;> rfl), S_const0]
        omega]
      exact hat
    · repeat infer_instance
      refine W_ixL (hk.at_ _ _ ht) ?_ (hget i hi)
      repeat infer_instance
      refine ⟨by omega, ?_⟩
      refine W_forL (fun j env s' => (∃ x9, env = [some (.tup [clk, .ref t, .ref fa, pc]), some d1, some d2, some (.ref t), some (.int (b * T : Nat)), some (.ref r), some (.int i), some (.int (A i)), some (.ref (row i)), x9]) ∧ Kp s s' ∧
        At s' r (V (b * T) fun g => (S i fun x => S (b * T) fun y => if gm b T f x y = g then A x * B y else 0) + S j fun y => if gm b T f i y = g then A i * B y else 0)) ⟨⟨_, rfl⟩, hk, ?_⟩ (fun _ _ _ _ => rfl) (fun j d env s' e h2 => ?_) (fun env s' h2 => ?_)
      · rw [show (V (b * T) fun g => (S i fun x => S (b * T) fun y => if gm b T f x y = g then A x * B y else 0) + S 0 fun y => if gm b T f i y = g then A i * B y else 0) = V (b * T) fun g => S i fun x => S (b * T) fun y => if gm b T f x y = g then A x * B y else 0 from V_ext fun g _ => by rw [S_zero]; omega]
        exact hat
      · obtain ⟨⟨x9, rfl⟩, hk, hat⟩ := h2
        obtain ⟨hj, rfl⟩ := rng_at0 e
        have hj : j < b * T := hj
        have hg : gm b T f i j < b * T := K.gm_lt
        have hm : (A i).natAbs < 18446744073709551616 ∨ (B j).natAbs < 18446744073709551616 := by
          rcases hs with h | h
          · exact .inl (h i hi)
          · exact .inr (h j hj)
        have hrw := hk.at_ _ _ (hrow i hi)
        repeat infer_instance
        refine ⟨_, dIx_L hat (V_get hg), ?_⟩
        repeat infer_instance
        refine W_ixRd (r2.kp hk) hj ?_
        repeat infer_instance
        refine ⟨_, _, rfl, dSet_L hat (by rw [V_len]; exact hg), ⟨_, rfl⟩, hk.set hnew.le, ?_⟩
        rw [V_set]
        have e0 := hat.set (ys := V (b * T) fun g => (S i fun x => S (b * T) fun y => if gm b T f x y = g then A x * B y else 0) + S (j + 1) fun y => if gm b T f i y = g then A i * B y else 0)
        rw [show (V (b * T) fun g => if gm b T f i j = g then (((S i fun x => S (b * T) fun y => if gm b T f x y = gm b T f i j then A x * B y else 0) + S j fun y => if gm b T f i y = gm b T f i j then A i * B y else 0) + A i * B j) else ((S i fun x => S (b * T) fun y => if gm b T f x y = g then A x * B y else 0) + S j fun y => if gm b T f i y = g then A i * B y else 0)) = V (b * T) fun g => (S i fun x => S (b * T) fun y => if gm b T f x y = g then A x * B y else 0) + S (j + 1) fun y => if gm b T f i y = g then A i * B y else 0 from V_ext fun g _ => by
          rw [S_succ]
          split
          · rename_i hgg; rw [hgg]; omega
          · omega]
        exact e0
      · obtain ⟨⟨x9, rfl⟩, hk, hat⟩ := h2
        rw [rngItems_len] at hat
        refine ⟨⟨_, _, _, _, rfl⟩, hk, ?_⟩
        rw [show (V (b * T) fun g => S (i + 1) fun x => S (b * T) fun y => if gm b T f x y = g then A x * B y else 0) = V (b * T) fun g => (S i fun x => S (b * T) fun y => if gm b T f x y = g then A x * B y else 0) + S (b * T) fun y => if gm b T f i y = g then A i * B y else 0 from V_ext fun g _ => S_succ]
        exact hat
  · obtain ⟨⟨x6, x7, x8, x9, rfl⟩, hk, hat⟩ := h2
    rw [rngItems_len] at hat
    repeat infer_instance
    exact ⟨r, _, rfl, hnew.le, hat, norefs_V, hk, h⟩
end
end Mir
/-! ## PI -/
set_option maxHeartbeats 200000
set_option Elab.async false
set_option linter.all false
set_option maxRecDepth 100000
/-! The plain law: the law's weights, bounded. -/
namespace Mir
open PySem PySem.Spec PyProof.Rows L2
local macro_rules | `(tactic| infer_instance) => `(tactic| first
  | with_reducible apply W_sSeq | with_reducible apply W_sSet | with_reducible apply SK_nx | with_reducible apply SK_rt | ((with_reducible apply Y_eVar); rfl) | with_reducible apply W_eC | with_reducible apply W_aCons | with_reducible apply W_aNil | with_reducible apply W_e2 | with_reducible apply W_e1 | with_reducible apply W_eCB
  | ((with_reducible apply Y_mulN); omega) | ((with_reducible apply Y_divN); omega) | ((with_reducible apply Y_modN); omega) | with_reducible apply W_addN | ((with_reducible apply Y_ret); rfl) | ((with_reducible apply Y_mulI); omega) | ((with_reducible apply Y_divI); omega) | ((with_reducible apply Y_modI); omega)
  | with_reducible apply W_tOf | with_reducible apply W_tNot | with_reducible apply W_tAnd | with_reducible apply W_tOr | with_reducible apply W_tYes | with_reducible apply W_eAnd | with_reducible apply W_eOr | with_reducible apply W_eNot | with_reducible apply W_eIf | with_reducible apply W_eIx | with_reducible apply W_eTup | with_reducible apply W_eLst
  | with_reducible apply W_sIf | with_reducible apply W_sRet | with_reducible apply W_sDrop | with_reducible apply W_sNil | with_reducible apply W_sAsg | with_reducible apply W_sPar | with_reducible apply W_sAugIx | with_reducible apply W_sFor | with_reducible apply W_gtName | ((with_reducible apply Y_gtTup); rfl) | with_reducible apply W_gtCons | with_reducible apply W_gtNil | with_reducible apply W_gtSub
  | with_reducible apply W_iTup | with_reducible apply W_iRng1 | with_reducible apply W_iRng2 | with_reducible apply W_iEnum | with_reducible apply W_iLst | with_reducible apply W_eApp
  | (with_reducible apply Y_lenV) | ((with_reducible apply Y_lenT); rfl) | ((with_reducible apply ite_t); exact rfl) | ((with_reducible apply ite_f); exact rfl) | ((with_reducible apply ite_t); exact decide_eq_true (by omega)) | ((with_reducible apply ite_f); exact decide_eq_false (by omega)) | ((with_reducible apply ite_t); exact not_t (decide_eq_false (by omega))) | ((with_reducible apply ite_f); exact not_f (decide_eq_true (by omega)))
   | ((with_reducible apply Y_ixLV); (first | assumption | rfl); (first | assumption | omega)) | ((with_reducible apply Y_ixTV); (first | assumption | omega)) | ((with_reducible apply Y_ixTV0); (first | assumption | omega)) | ((with_reducible apply Y_ixLV0); (first | assumption | rfl); (first | assumption | omega)) | ((with_reducible apply W_tupL); (first | assumption | rfl)) | ((with_reducible apply Y_lenLV); (first | assumption | rfl)) | with_reducible refine ⟨_, rfl, ?_⟩ | exact rfl | refine ⟨(Nat.le_of_ble_eq_true rfl : List.length _ ≤ 1000), ?_⟩)
def Bd (n c : Nat) (A : Nat → Int) : Prop := ∀ i, i < n → (A i).natAbs ≤ c
theorem S_bd {n c : Nat} {f : Nat → Int} (h : ∀ j, j < n → (f j).natAbs ≤ c) : (S n f).natAbs ≤ n * c := by
  induction n with
  | zero => simp [S_zero]
  | succ n ih =>
    rw [S_succ, Nat.succ_mul]
    have h1 := ih fun j hj => h j (by omega)
    have h2 := h n (by omega)
    omega
theorem cv_bd {n a c : Nat} {m : Nat → Nat → Nat} {A B : Nat → Int} (h : Bd n a A) (k : Bd n c B) : Bd n (n * (n * (a * c))) (cv n m A B) := fun g _ =>
  S_bd fun x hx => S_bd fun y hy => by
    split
    · rw [Int.natAbs_mul]
      exact Nat.mul_le_mul (h x hx) (k y hy)
    · exact Nat.zero_le _
theorem Bd.small {n c : Nat} {A : Nat → Int} (h : Bd n c A) (hc : c < 18446744073709551616) : small n A := fun i hi => Nat.lt_of_le_of_lt (h i hi) hc
section
variable {s : MS} {Q : D → MS → Prop}
/-- level -/
theorem w_level {n : Nat} (h0 : 0 < n) (hn : n < 100000) {r : Nat} {A : Nat → Int} (hr : At s r (V n A)) (h : ∀ s3, Kp s s3 → Q (.bl (evn n A)) s3) : W (callF F_L_level [.ref r] s) Q := by
  refine W_callFd (W_def ?_)
  unfold b_L_level
  repeat infer_instance
  refine W_eComp ?_
  repeat infer_instance
  refine ⟨_, _, rfl, hr, by rw [V_len]; exact hn, ?_⟩
  refine W_compF n (fun i => !decide (A i = A 0)) (fun i => .int (A i)) V_len (gOk_of hr) (fun i d hi e => ?_) ?_
  · obtain ⟨_, rfl⟩ := V_get' e
    repeat infer_instance
    exact ⟨rfl, rfl, fun _ => ⟨_, _, rfl, rfl, rfl⟩⟩
  · repeat infer_instance
    refine W_lenL At.new ?_ rfl
    repeat infer_instance
    refine ⟨rfl, (New.of (s := s)).toKp, fun s3 hk => ?_⟩
    have e : decide (((((List.range n).filter fun i => !decide (A i = A 0)).map fun i => D.int (A i)).length : Int) = 0) = evn n A := by
      rw [Bool.eq_iff_iff, decide_eq_true_iff, evn_iff, List.length_map]
      constructor
      · intro h i hi
        have h1 : (List.range n).filter (fun i => !decide (A i = A 0)) = [] := List.length_eq_zero_iff.mp (by omega)
        have h2 := List.filter_eq_nil_iff.mp h1 i (List.mem_range.mpr hi)
        simpa using h2
      · intro h
        have h1 : (List.range n).filter (fun i => !decide (A i = A 0)) = [] := List.filter_eq_nil_iff.mpr fun i hi => by
          have := h i (List.mem_range.mp hi)
          simp [this]
        rw [h1]
        rfl
    rw [e]
    exact h s3 hk
/-- a row moved -/
theorem w_moved {b c : Nat} (h0 : 0 < b) (hb : b ≤ 60) {r F : Nat} {R : Nat → Int} (hr : At s r (V b R)) (hR : Bd b c R) (hF : F < 1000000) (h : ∀ A q s3, Bd b (b * c) A → New s s3 q (V b A) → Q (.ref q) s3) : W (callF F_L_moved [.ref r, .int F] s) Q := by
  refine W_callFr (W_def ?_)
  unfold b_L_moved
  repeat infer_instance
  refine W_eCompV b (fun _ => 0) (by omega) ?_ fun r1 s1 hnew => ?_
  · repeat infer_instance
    refine ⟨_, _, rfl, hr, rfl, V_len, gOk_of hr, fun i d hi e => ?_⟩
    obtain ⟨_, rfl⟩ := V_get' e
    repeat infer_instance
    refine ⟨rfl, rfl, ?_⟩
    repeat infer_instance
    exact ⟨rfl, rfl⟩
  have hr' := hnew.at_ _ _ hr
  repeat infer_instance
  refine ⟨by omega, ?_⟩
  refine W_forL (fun i env s' => (∃ x, env = [some (.ref r), some (.int F), some (.ref r1), x]) ∧ Kp s s' ∧ ∃ A, Bd b (i * c) A ∧ At s' r1 (V b A)) ⟨⟨_, rfl⟩, hnew.toKp, _, fun i hi => by simp, hnew.new⟩ (fun _ _ _ _ => rfl) (fun i d env s' e h2 => ?_) (fun env s' h2 => ?_)
  · obtain ⟨⟨x, rfl⟩, hk, A, hA, hat⟩ := h2
    obtain ⟨hi, rfl⟩ := rng_at0 e
    have hi : i < b := hi
    have hr2 := hk.at_ _ _ hr
    have hlt : i * F % b < b := Nat.mod_lt _ h0
    repeat infer_instance
    refine W_some ?_
    repeat infer_instance
    refine ⟨_, dIx_L hat (V_get hlt), ?_⟩
    repeat infer_instance
    refine ⟨.int (A (i * F % b) + R i), _, rfl, dSet_L hat (by rw [V_len]; exact hlt), ⟨_, rfl⟩, hk.set hnew.le, (fun g => if i * F % b = g then A (i * F % b) + R i else A g), ?_, by rw [V_set]; exact hat.set⟩
    · intro g hg
      have h3 := hA g hg
      have h4 := hA _ hlt
      have h5 := hR i hi
      rw [Nat.add_mul, Nat.one_mul]
      show (if i * F % b = g then A (i * F % b) + R i else A g : Int).natAbs ≤ _
      split
      · omega
      · omega
  · obtain ⟨⟨x, rfl⟩, hk, A, hA, hat⟩ := h2
    rw [rngItems_len] at hA
    repeat infer_instance
    exact ⟨r1, _, rfl, hnew.le, hat, norefs_V, hk, fun q s3 hn => h A q s3 hA hn⟩
end
section
variable {clk wd : D} {b T : Nat} {f : Nat → Nat} (K : CK clk b T f)
include K
theorem w_on_turns {s : MS} (wo : WO s wd clk b T f) {F : Nat} (hF : 0 < F) (hFT : F ≤ T) {r c : Nat} {R : Nat → Int} (hr : At s r (V b R)) (hR : Bd b c R) {Q : D → MS → Prop}
    (h : ∀ A q s3, Bd (b * T) (60 * c) A → New s s3 q (V (b * T) A) → Q (.ref q) s3) : W (callF F_L_on_turns [wd, .int F, .ref r] s) Q := by
  have hn := K.hn
  have hb := K.hb
  have hT := K.hT
  have h60 := K.b60
  have h61 := K.T60
  obtain ⟨mv, rfl⟩ := K.ck
  obtain ⟨t, fa, pc, row, rfl, ht, hrow, hfa⟩ := wo.ex
  have hlen : ((List.range (b * T)).map fun k => D.ref (row k)).length = b * T := by simp
  have hdiv : b * T / b = T := Nat.mul_div_cancel_left T hb
  refine W_callFr (W_def ?_)
  unfold b_L_on_turns
  repeat infer_instance
  refine W_lenL ht ?_ hlen
  repeat infer_instance
  rw [hdiv]
  refine W_eCompV (b * T) (fun _ => 0) (by omega) ?_ fun r1 s1 hnew => ?_
  · repeat infer_instance
    refine ⟨by omega, ?_⟩
    refine ⟨rfl, by rw [rngItems_len]; rfl, rfl, fun i d hi e => ?_⟩
    obtain ⟨_, rfl⟩ := rng_at0 e
    repeat infer_instance
    refine ⟨rfl, rfl, ?_⟩
    repeat infer_instance
    exact ⟨rfl, rfl⟩
  repeat infer_instance
  refine ⟨by omega, ?_⟩
  have hFb : F * b ≤ 60 := Nat.le_trans (Nat.mul_le_mul_right b hFT) (by rw [Nat.mul_comm]; exact hn)
  refine W_forL (fun i env s' => (∃ x6 x7, env = [some (.tup [.tup [.int b, mv], .ref t, .ref fa, pc]), some (.int F), some (.ref r), some (.int b), some (.int T), some (.ref r1), x6, x7]) ∧ Kp s s' ∧ ∃ A, Bd (b * T) (i * b * c) A ∧ At s' r1 (V (b * T) A)) ⟨⟨_, _, rfl⟩, hnew.toKp, _, fun i hi => by simp, hnew.new⟩ (fun _ _ _ _ => rfl) (fun i d env s' e h2 => ?_) (fun env s' h2 => ?_)
  · obtain ⟨⟨x6, x7, rfl⟩, hk, A, hA, hat⟩ := h2
    obtain ⟨hi, rfl⟩ := rng_at0 e
    have hi : i < F := hi
    repeat infer_instance
    refine ⟨by omega, ?_⟩
    refine W_forL (fun j env s' => (∃ x7, env = [some (.tup [.tup [.int b, mv], .ref t, .ref fa, pc]), some (.int F), some (.ref r), some (.int b), some (.int T), some (.ref r1), some (.int i), x7]) ∧ Kp s s' ∧ ∃ A, Bd (b * T) ((i * b + j) * c) A ∧ At s' r1 (V (b * T) A)) ⟨⟨_, rfl⟩, hk, A, hA, hat⟩ (fun _ _ _ _ => rfl) (fun j d env s' e h2 => ?_) (fun env s' h2 => ?_)
    · obtain ⟨⟨x7, rfl⟩, hk, A, hA, hat⟩ := h2
      obtain ⟨hj, rfl⟩ := rng_at0 e
      have hj : j < b := hj
      have hr2 := hk.at_ _ _ hr
      have hlt : i * (T / F) * b + j < b * T := by
        have h3 : (i + 1) * (T / F) ≤ T := Nat.le_trans (Nat.mul_le_mul_right _ hi) (Nat.mul_div_le T F)
        have hq := Nat.div_pos hFT hF
        have h4 : i * (T / F) + 1 ≤ T := by
          rw [Nat.add_mul, Nat.one_mul] at h3
          generalize T / F = u at *
          generalize i * u = w at *
          omega
        have h5 := Nat.mul_le_mul_right b h4
        rw [Nat.add_mul, Nat.one_mul, Nat.mul_comm T b] at h5
        omega
      have hc1 : i < 18446744073709551616 := by omega
      have hc2 : b < 18446744073709551616 := by omega
      repeat infer_instance
      refine ⟨_, dIx_L hat (V_get hlt), ?_⟩
      repeat infer_instance
      refine ⟨.int (A (i * (T / F) * b + j) + R j), _, rfl, dSet_L hat (by rw [V_len]; exact hlt), ⟨_, rfl⟩, hk.set hnew.le, (fun g => if i * (T / F) * b + j = g then A (i * (T / F) * b + j) + R j else A g), ?_, by rw [V_set]; exact hat.set⟩
      · intro g hg
        have h3 := hA g hg
        have h4 := hA _ hlt
        have h5 := hR j hj
        rw [← Nat.add_assoc, Nat.add_mul _ 1, Nat.one_mul]
        show (if i * (T / F) * b + j = g then A (i * (T / F) * b + j) + R j else A g : Int).natAbs ≤ _
        split
        · omega
        · omega
    · obtain ⟨⟨x7, rfl⟩, hk, A, hA, hat⟩ := h2
      rw [rngItems_len] at hA
      refine ⟨⟨_, _, rfl⟩, hk, A, ?_, hat⟩
      rw [Nat.add_mul i 1, Nat.one_mul]
      exact hA
  · obtain ⟨⟨x6, x7, rfl⟩, hk, A, hA, hat⟩ := h2
    rw [rngItems_len] at hA
    repeat infer_instance
    exact ⟨r1, _, rfl, hnew.le, hat, norefs_V, hk, fun q s3 hn => h A q s3 (fun g hg => Nat.le_trans (hA g hg) (Nat.mul_le_mul_right c hFb)) hn⟩
end
end Mir
/-! ## PJ -/
set_option maxHeartbeats 200000
set_option Elab.async false
set_option linter.all false
set_option maxRecDepth 100000
/-! The plain law: the law's weights, bounded, on. -/
namespace Mir
open PySem PySem.Spec PyProof.Rows L2
theorem Y_int {s : MS} {Q : D → MS → Prop} {i : Int} (h : Q (.int i) s) : W (fInt [.int i] s) Q := W_some h
theorem Y_intB {s : MS} {Q : D → MS → Prop} {b : Bool} (h : Q (.int (if b then 1 else 0)) s) : W (fInt [.bl b] s) Q := W_some h
local macro_rules | `(tactic| infer_instance) => `(tactic| first
  | with_reducible apply W_sSeq | with_reducible apply W_sSet | with_reducible apply SK_nx | with_reducible apply SK_rt | ((with_reducible apply Y_eVar); rfl) | with_reducible apply W_eC | with_reducible apply W_aCons | with_reducible apply W_aNil | with_reducible apply W_e2 | with_reducible apply W_e1 | with_reducible apply W_eCB
  | ((with_reducible apply Y_mulN); omega) | ((with_reducible apply Y_divN); omega) | ((with_reducible apply Y_modN); omega) | with_reducible apply W_addN | ((with_reducible apply Y_ret); rfl) | ((with_reducible apply Y_mulI); omega) | ((with_reducible apply Y_divI); omega) | ((with_reducible apply Y_modI); omega)
  | with_reducible apply W_tOf | with_reducible apply W_tNot | with_reducible apply W_tAnd | with_reducible apply W_tOr | with_reducible apply W_tYes | with_reducible apply W_eAnd | with_reducible apply W_eOr | with_reducible apply W_eNot | with_reducible apply W_eIf | with_reducible apply W_eIx | with_reducible apply W_eTup | with_reducible apply W_eLst
  | with_reducible apply W_sIf | with_reducible apply W_sRet | with_reducible apply W_sDrop | with_reducible apply W_sNil | with_reducible apply W_sAsg | with_reducible apply W_sPar | with_reducible apply W_sAugIx | with_reducible apply W_sFor | with_reducible apply W_gtName | ((with_reducible apply Y_gtTup); rfl) | with_reducible apply W_gtCons | with_reducible apply W_gtNil | with_reducible apply W_gtSub
  | with_reducible apply W_iTup | with_reducible apply W_iRng1 | with_reducible apply W_iRng2 | with_reducible apply W_iEnum | with_reducible apply W_iLst | with_reducible apply W_eApp
  | (with_reducible apply Y_lenV) | ((with_reducible apply Y_lenT); rfl) | ((with_reducible apply ite_t); exact rfl) | ((with_reducible apply ite_f); exact rfl) | ((with_reducible apply ite_t); exact decide_eq_true (by omega)) | ((with_reducible apply ite_f); exact decide_eq_false (by omega)) | ((with_reducible apply ite_t); exact not_t (decide_eq_false (by omega))) | ((with_reducible apply ite_f); exact not_f (decide_eq_true (by omega)))
   | ((with_reducible apply Y_ixLV); (first | assumption | rfl); (first | assumption | omega)) | ((with_reducible apply Y_ixTV); (first | assumption | omega)) | ((with_reducible apply Y_ixTV0); (first | assumption | omega)) | ((with_reducible apply Y_ixLV0); (first | assumption | rfl); (first | assumption | omega)) | with_reducible apply Y_int | with_reducible apply Y_intB | ((with_reducible apply W_tupL); (first | assumption | rfl)) | ((with_reducible apply Y_lenLV); (first | assumption | rfl)) | with_reducible refine ⟨_, rfl, ?_⟩ | exact rfl | refine ⟨(Nat.le_of_ble_eq_true rfl : List.length _ ≤ 1000), ?_⟩)
theorem Kp.len {s s' : MS} (h : Kp s s') : s.st.length ≤ s'.st.length := by
  rcases Nat.lt_or_ge s'.st.length s.st.length with hh | hh
  · exfalso
    have := (h.at_ _ _ (List.getElem?_eq_getElem hh)).lt
    omega
  · exact hh
section
variable {clk wd : D} {b T : Nat} {f : Nat → Nat} (K : CK clk b T f)
include K
theorem w_traceless {s : MS} (wo : WO s wd clk b T f) {F : Nat} (hF : 0 < F) (hFT : F ≤ T) {r c : Nat} {R : Nat → Int} (hr : At s r (V b R)) (hR : Bd b c R) {Q : D → MS → Prop}
    (h : ∀ A q s3, Bd (b * T) (60 * (c + 60 * c)) A → New s s3 q (V (b * T) A) → Q (.ref q) s3) : W (callF F_L_traceless [wd, .int F, .ref r] s) Q := by
  have hn := K.hn
  have hb := K.hb
  have hT := K.hT
  have h60 := K.b60
  have h61 := K.T60
  have wo0 := wo
  have K0 := K
  obtain ⟨mv, rfl⟩ := K.ck
  obtain ⟨t, fa, pc, row, rfl, ht, hrow, hfa⟩ := wo.ex
  have hlen : ((List.range (b * T)).map fun k => D.ref (row k)).length = b * T := by simp
  have hdiv : b * T / b = T := Nat.mul_div_cancel_left T hb
  refine W_callFr (W_def ?_)
  unfold b_L_traceless
  repeat infer_instance
  refine W_lenL ht ?_ hlen
  repeat infer_instance
  rw [hdiv]
  have hlt : T / F % T < T := Nat.mod_lt _ hT
  have hFF : F < 1073741824 := by omega
  repeat infer_instance
  have hf := K0.hf _ hlt
  refine w_moved hb h60 hr hR (by omega) fun A q s1 hA hnew => ?_
  have hr1 := hnew.at_ _ _ hr
  have hq1 := hnew.new
  repeat infer_instance
  refine W_eCompV b (fun i => R i - A i) (by omega) ?_ fun q2 s2 hnew2 => ?_
  · repeat infer_instance
    refine ⟨by omega, ?_⟩
    refine ⟨rfl, by rw [rngItems_len]; rfl, rfl, fun i d hi e => ?_⟩
    obtain ⟨_, rfl⟩ := rng_at0 e
    repeat infer_instance
    refine ⟨rfl, rfl, ?_⟩
    repeat infer_instance
    exact ⟨rfl, rfl⟩
  repeat infer_instance
  have kp := hnew.toKp.trans hnew2.toKp
  refine w_on_turns K0 (wo0.kp kp) hF hFT hnew2.new (c := c + 60 * c) (fun i hi => ?_) fun A' q3 s3 hA' hnew3 => ?_
  · have h1 := hR i hi
    have h2 := Nat.le_trans (hA i hi) (Nat.mul_le_mul_right c h60)
    show (R i - A i).natAbs ≤ _
    omega
  · repeat infer_instance
    exact ⟨q3, _, rfl, Nat.le_trans kp.len hnew3.le, hnew3.new, norefs_V, kp.trans hnew3.toKp, fun q s3 hn => h A' q s3 hA' hn⟩
omit K in
theorem pick7 {k : Nat} (hk : k < 7) : ∃ v : Int, ([.int 0, .int 0, .int 2, .int (-1), .int (-2), .int (-1), .int 2] : List D)[k]? = some (.int v) ∧ v.natAbs ≤ 2 := by
  match k, hk with
  | 0, _ => exact ⟨_, rfl, by decide⟩
  | 1, _ => exact ⟨_, rfl, by decide⟩
  | 2, _ => exact ⟨_, rfl, by decide⟩
  | 3, _ => exact ⟨_, rfl, by decide⟩
  | 4, _ => exact ⟨_, rfl, by decide⟩
  | 5, _ => exact ⟨_, rfl, by decide⟩
  | 6, _ => exact ⟨_, rfl, by decide⟩
omit K in
theorem pick7' {k : Nat} (hk : k < 7) : ∃ v : Int, ([.int 0, .int 1, .int (-1), .int 0, .int 0, .int 0, .int 0] : List D)[k]? = some (.int v) ∧ v.natAbs ≤ 2 := by
  match k, hk with
  | 0, _ => exact ⟨_, rfl, by decide⟩
  | 1, _ => exact ⟨_, rfl, by decide⟩
  | 2, _ => exact ⟨_, rfl, by decide⟩
  | 3, _ => exact ⟨_, rfl, by decide⟩
  | 4, _ => exact ⟨_, rfl, by decide⟩
  | 5, _ => exact ⟨_, rfl, by decide⟩
  | 6, _ => exact ⟨_, rfl, by decide⟩
omit K in
theorem modb {b : Nat} (hb : 0 < b) (z : Int) : ∃ i : Nat, z % (b : Int) = i ∧ i < b := by
  have h0 : 0 ≤ z % (b : Int) := Int.emod_nonneg _ (by omega)
  have h1 : z % (b : Int) < b := Int.emod_lt_of_pos _ (by omega)
  obtain ⟨i, hi⟩ := Int.eq_ofNat_of_zero_le h0
  exact ⟨i, hi, by omega⟩
omit K in
theorem Bd.upd {n c : Nat} {A : Nat → Int} (h : Bd n c A) {k : Nat} {v : Int} (hv : v.natAbs ≤ c) : Bd n c (fun g => if k = g then v else A g) := fun g hg => by
  show (if k = g then v else A g : Int).natAbs ≤ c
  split
  · exact hv
  · exact h g hg
theorem w_sevens {s : MS} (wo : WO s wd clk b T f) {u : Nat} (hu : u < 1000) (h7 : 7 ≤ b) (h3 : 3 ≤ T) {Q : D → MS → Prop}
    (h : ∀ A q s3, Bd (b * T) 500000 A → New s s3 q (V (b * T) A) → Q (.ref q) s3) : W (callF F_L_sevens [wd, .int u] s) Q := by
  have hn := K.hn
  have hb := K.hb
  have hT := K.hT
  have h60 := K.b60
  have h61 := K.T60
  have hbn : b ≤ b * T := Nat.le_mul_of_pos_right b hT
  have wo0 := wo
  have K0 := K
  obtain ⟨mv, rfl⟩ := K.ck
  obtain ⟨t, fa, pc, row, rfl, ht, hrow, hfa⟩ := wo.ex
  have hlen : ((List.range (b * T)).map fun k => D.ref (row k)).length = b * T := by simp
  refine W_callFr (W_def ?_)
  unfold b_L_sevens
  repeat infer_instance
  refine W_eCompV b (fun _ => 0) (by omega) ?_ fun r1 s1 hnew1 => ?_
  · repeat infer_instance
    refine ⟨by omega, ?_⟩
    refine ⟨rfl, by rw [rngItems_len]; rfl, rfl, fun i d hi e => ?_⟩
    obtain ⟨_, rfl⟩ := rng_at0 e
    repeat infer_instance
    refine ⟨rfl, rfl, ?_⟩
    repeat infer_instance
    exact ⟨rfl, rfl⟩
  repeat infer_instance
  refine W_eCompV b (fun _ => 0) (by omega) ?_ fun r2 s2 hnew2 => ?_
  · repeat infer_instance
    refine ⟨by omega, ?_⟩
    refine ⟨rfl, by rw [rngItems_len]; rfl, rfl, fun i d hi e => ?_⟩
    obtain ⟨_, rfl⟩ := rng_at0 e
    repeat infer_instance
    refine ⟨rfl, rfl, ?_⟩
    repeat infer_instance
    exact ⟨rfl, rfl⟩
  repeat infer_instance
  refine ⟨by decide, ?_⟩
  have ne12 : r1 ≠ r2 := hnew2.ne _ _ hnew1.new
  have le1 := hnew1.le
  have le2 : s.st.length ≤ r2 := Nat.le_trans hnew1.toKp.len hnew2.le
  refine W_forL (fun i env s' => (∃ x6 x7 x8 x9, env = [some (.tup [.tup [.int b, mv], .ref t, .ref fa, pc]), some (.int u), some (.int b), some (.int ((b : Int) / 7 * u)), some (.ref r1), some (.ref r2), x6, x7, x8, x9]) ∧ Kp s s' ∧ (∃ A, Bd b 2 A ∧ At s' r1 (V b A)) ∧ ∃ A, Bd b 2 A ∧ At s' r2 (V b A))
    ⟨⟨_, _, _, _, rfl⟩, hnew1.toKp.trans hnew2.toKp, ⟨_, fun i hi => by simp, hnew2.at_ _ _ hnew1.new⟩, ⟨_, fun i hi => by simp, hnew2.new⟩⟩ (fun _ _ _ _ => rfl) (fun i d env s' e h2 => ?_) (fun env s' h2 => ?_)
  · obtain ⟨⟨x6, x7, x8, x9, rfl⟩, hk, ⟨A, hA, hat⟩, ⟨B, hB, hbt⟩⟩ := h2
    obtain ⟨hi, rfl⟩ := rng_at0 e
    have hi : i < 7 := hi
    obtain ⟨v, hv, hvb⟩ := pick7 hi
    obtain ⟨v', hv', hvb'⟩ := pick7' hi
    obtain ⟨z, hz, hzb⟩ := modb hb ((b : Int) / 7 * u * i)
    repeat infer_instance
    refine W_ixT ?_ hv
    repeat infer_instance
    rw [hz]
    refine ⟨_, dSet_L hat (by rw [V_len]; exact hzb), ?_⟩
    rw [V_set]
    repeat infer_instance
    refine W_ixT ?_ hv'
    repeat infer_instance
    rw [hz]
    refine ⟨_, dSet_L (hbt.setNe ne12) (by rw [V_len]; exact hzb), ?_⟩
    rw [V_set]
    exact ⟨⟨_, _, _, _, rfl⟩, (hk.set le1).set le2, ⟨_, hA.upd hvb, (hat.set).setNe ne12.symm⟩, ⟨_, hB.upd hvb', (hbt.setNe ne12).set⟩⟩
  · obtain ⟨⟨x6, x7, x8, x9, rfl⟩, hk, ⟨A, hA, hat⟩, ⟨B, hB, hbt⟩⟩ := h2
    have ht' := hk.at_ _ _ ht
    repeat infer_instance
    refine W_eCompV (b * T) (fun _ => 0) (by omega) ?_ fun r3 s3 hnew3 => ?_
    · repeat infer_instance
      refine ⟨_, _, rfl, ht', rfl, hlen, gOk_of ht', fun i d hi e => ?_⟩
      repeat infer_instance
      refine ⟨rfl, rfl, ?_⟩
      repeat infer_instance
      exact ⟨rfl, rfl⟩
    obtain ⟨z, hz, hzb⟩ := modb hb (6 * ((b : Int) / 7 * u))
    repeat infer_instance
    rw [hz]
    refine ⟨_, dSet_L hnew3.new (by rw [V_len]; omega), ?_⟩
    rw [V_set]
    repeat infer_instance
    have kp4 : Kp s (s3.setAt r3 (V (b * T) fun g => if z = g then 1 else 0)) := (hk.trans hnew3.toKp).set (Nat.le_trans hk.len hnew3.le)
    have at4 : At (s3.setAt r3 (V (b * T) fun g => if z = g then 1 else 0)) r1 (V b A) := (hnew3.at_ _ _ hat).setNe (hnew3.ne _ _ hat).symm
    have bt4 : At (s3.setAt r3 (V (b * T) fun g => if z = g then 1 else 0)) r2 (V b B) := (hnew3.at_ _ _ hbt).setNe (hnew3.ne _ _ hbt).symm
    have ft4 : At (s3.setAt r3 (V (b * T) fun g => if z = g then 1 else 0)) r3 (V (b * T) fun g => if z = g then 1 else 0) := hnew3.new.set
    have fb : Bd (b * T) 1 (fun g => if z = g then (1 : Int) else 0) := fun g _ => by
      show (if z = g then (1 : Int) else 0).natAbs ≤ 1
      split <;> decide
    refine w_on_turns K0 (wo0.kp kp4) (F := 3) (by omega) h3 at4 hA fun A5 r5 s5 hA5 hnew5 => ?_
    repeat infer_instance
    refine w_times K0 (wo0.kp (kp4.trans hnew5.toKp)) (.inl ⟨_, rfl, hnew5.at_ _ _ ft4⟩) (.inl ⟨_, rfl, hnew5.new⟩) (.inl (fb.small (by decide))) fun r6 s6 hnew6 => ?_
    repeat infer_instance
    have kp6 := (kp4.trans hnew5.toKp).trans hnew6.toKp
    refine w_on_turns K0 (wo0.kp kp6) (F := 3) (by omega) h3 (hnew6.at_ _ _ (hnew5.at_ _ _ bt4)) hB fun A7 r7 s7 hA7 hnew7 => ?_
    have at6 := hnew7.at_ _ _ hnew6.new
    have at7 := hnew7.new
    repeat infer_instance
    refine W_eCompV (b * T) (fun i => cv (b * T) (gm b T f) (fun g => if z = g then 1 else 0) A5 i + A7 i) (by omega) ?_ fun r8 s8 hnew8 => ?_
    · repeat infer_instance
      refine ⟨by omega, ?_⟩
      refine ⟨rfl, by rw [rngItems_len]; rfl, rfl, fun i d hi e => ?_⟩
      obtain ⟨_, rfl⟩ := rng_at0 e
      repeat infer_instance
      refine ⟨rfl, rfl, ?_⟩
      repeat infer_instance
      exact ⟨rfl, rfl⟩
    repeat infer_instance
    have kp7 := kp6.trans hnew7.toKp
    refine ⟨r8, _, rfl, Nat.le_trans kp7.len hnew8.le, hnew8.new, norefs_V, kp7.trans hnew8.toKp, fun q s9 hn9 => h _ q s9 (fun g hg => ?_) hn9⟩
    have e1 := cv_bd (m := gm b T f) fb hA5 g hg
    have e2 := hA7 g hg
    have e3 : b * T * (b * T * (1 * (60 * 2))) ≤ 60 * (60 * (1 * (60 * 2))) := Nat.mul_le_mul hn (Nat.mul_le_mul_right _ hn)
    show (cv (b * T) (gm b T f) (fun g => if z = g then 1 else 0) A5 g + A7 g).natAbs ≤ 500000
    omega
end
end Mir
/-! ## PK -/
set_option maxHeartbeats 200000
set_option Elab.async false
set_option linter.all false
set_option maxRecDepth 100000
/-! The plain law: the law's weights. -/
namespace Mir
open PySem PySem.Spec PyProof.Rows L2
theorem Y_sumL {s : MS} {Q : D → MS → Prop} {n : Nat} {A : Nat → Int} {r : Nat} (hr : At s r (V n A)) (h : Q (.int (S n A)) s) : W (fSum [.ref r] s) Q := by
  refine W_eq (a := .int (S n A)) (s := s) ?_ h
  show (match s.st[r]? with | some xs => (match asInts xs with | some is => some (D.int is.sum, s) | none => none) | none => none) = _
  rw [hr]
  show (match asInts (V n A) with | some is => some (D.int is.sum, s) | none => none) = _
  rw [V_ints]
  rfl
theorem W_puN {F : MF} {ds xs : List D} {s : MS} {Q : D → MS → Prop} (h : PuL F ds xs) (q : ∀ r s', New s s' r xs → s'.seat = s.seat → Q (.ref r) s') : W (callN F ds s) Q :=
  W_puL h fun r more hr hat => q r _ ⟨⟨fun k ys hk => by
    show (s.st ++ more)[k]? = _
    rw [List.getElem?_append_left hk.lt]
    exact hk, fun h => h⟩, hat, fun k ys hk => by have := hk.lt; omega, hr⟩ rfl
local macro_rules | `(tactic| infer_instance) => `(tactic| first
  | with_reducible apply W_sSeq | with_reducible apply W_sSet | with_reducible apply SK_nx | with_reducible apply SK_rt | ((with_reducible apply Y_eVar); rfl) | with_reducible apply W_eC | with_reducible apply W_aCons | with_reducible apply W_aNil | with_reducible apply W_e2 | with_reducible apply W_e1 | with_reducible apply W_eCB
  | ((with_reducible apply Y_mulN); omega) | ((with_reducible apply Y_divN); omega) | ((with_reducible apply Y_modN); omega) | with_reducible apply W_addN | ((with_reducible apply Y_ret); rfl) | ((with_reducible apply Y_mulI); omega) | ((with_reducible apply Y_divI); omega) | ((with_reducible apply Y_modI); omega)
  | with_reducible apply W_tOf | with_reducible apply W_tNot | with_reducible apply W_tAnd | with_reducible apply W_tOr | with_reducible apply W_tYes | with_reducible apply W_eAnd | with_reducible apply W_eOr | with_reducible apply W_eNot | with_reducible apply W_eIf | with_reducible apply W_eIx | with_reducible apply W_eTup | with_reducible apply W_eLst
  | with_reducible apply W_sIf | with_reducible apply W_sRet | with_reducible apply W_sDrop | with_reducible apply W_sNil | with_reducible apply W_sAsg | with_reducible apply W_sPar | with_reducible apply W_sAugIx | with_reducible apply W_sFor | with_reducible apply W_gtName | ((with_reducible apply Y_gtTup); rfl) | with_reducible apply W_gtCons | with_reducible apply W_gtNil | with_reducible apply W_gtSub
  | with_reducible apply W_iTup | with_reducible apply W_iRng1 | with_reducible apply W_iRng2 | with_reducible apply W_iEnum | with_reducible apply W_iLst | with_reducible apply W_eApp
  | (with_reducible apply Y_lenV) | ((with_reducible apply Y_lenT); rfl) | ((with_reducible apply ite_t); exact rfl) | ((with_reducible apply ite_f); exact rfl) | ((with_reducible apply ite_t); exact decide_eq_true (by omega)) | ((with_reducible apply ite_f); exact decide_eq_false (by omega)) | ((with_reducible apply ite_t); exact not_t (decide_eq_false (by omega))) | ((with_reducible apply ite_f); exact not_f (decide_eq_true (by omega)))
   | ((with_reducible apply Y_ixLV); (first | assumption | rfl); (first | assumption | omega)) | ((with_reducible apply Y_ixTV); (first | assumption | omega)) | ((with_reducible apply Y_ixTV0); (first | assumption | omega)) | ((with_reducible apply Y_ixLV0); (first | assumption | rfl); (first | assumption | omega)) | with_reducible apply Y_int | ((with_reducible apply Y_sumL); (first | assumption | rfl)) | with_reducible apply Y_intB | ((with_reducible apply W_tupL); (first | assumption | rfl)) | ((with_reducible apply Y_lenLV); (first | assumption | rfl)) | with_reducible refine ⟨_, rfl, ?_⟩ | exact rfl | refine ⟨(Nat.le_of_ble_eq_true rfl : List.length _ ≤ 1000), ?_⟩)
theorem w_row {s : MS} (hseat : s.seat.isSome = true) {b : Nat} (hb : b ≤ 60) {Q : D → MS → Prop} (h : ∀ A q s3, Bd b 4 A → New s s3 q (V b A) → Q (.ref q) s3) : W (callF F_L_row [.seat, .int b] s) Q := by
  refine W_callFr (W_def ?_)
  unfold b_L_row
  repeat infer_instance
  refine W_eCompR b (fun _ v => v.natAbs ≤ 4) (by omega) hseat ?_ fun A r s1 hA hnew => ?_
  · repeat infer_instance
    refine ⟨by omega, ?_⟩
    refine ⟨rfl, by rw [rngItems_len]; rfl, rfl, fun i d z hi e => ?_⟩
    obtain ⟨_, rfl⟩ := rng_at0 e
    repeat infer_instance
    refine ⟨rfl, rfl, ?_⟩
    repeat infer_instance
    refine W_next (m := 8) rfl (by omega) (by omega) fun v z' hv => ?_
    repeat infer_instance
    refine ⟨_, z', rfl, ?_, rfl⟩
    show (((v : Int) + 2 * i + 1) % 8 - 3).natAbs ≤ 4
    omega
  · exact ⟨r, _, rfl, hnew.le, hnew.new, norefs_V, hnew.toKp, fun q s3 hn => h A q s3 hA hn⟩
def tailW : SM := (sSeq (sSet 9 (e2 dSub (eCB F_L_next (aCons (eVar 1) (aCons (eC (.int 9)) aNil))) (eC (.int 1))))
    (sSeq (sSet 8 (eComp [11] (iLstM (eVar 8)) (gtName 11) tYesM (e2 dAdd (eVar 11) (eVar 9))))
    (sSeq (sIf (tOf (e2 dEq (eVar 4) (eC (.int 3)))) (sAugIx (eVar 8) (eCB F_L_next (aCons (eVar 1) (aCons (eVar 3) aNil))) dAdd (e2 dSub (eVar 3) (e2 dMod (eCB fInt (aCons (eCB fSum (aCons (eVar 8) aNil)) aNil)) (eVar 3)))) sNil)
    (sRet (eVar 8)))))
theorem w_tailW {s0 s : MS} {n kind r : Nat} {A : Nat → Int} {x0 x2 x5 x6 x7 x9 x10 x11 : Option D} (h0 : 0 < n) (hn : n ≤ 60) (hk : Kp s0 s) (hseat : s.seat.isSome = true) (hr : At s r (V n A)) (hA : Bd n 600000 A) {Q : D → MS → Prop}
    (h : ∀ A r' s', Bd n 1000000 A → At s' r' (V n A) → s0.st.length ≤ r' → Kp s0 s' → Q (.ref r') s') :
    W (tailW [x0, some .seat, x2, some (.int n), some (.int kind), x5, x6, x7, some (.ref r), x9, x10, x11] s) fun o s1 => match o with
      | .nx _ => Q .non s1
      | .rt d => Q d s1 := by
  unfold tailW
  repeat infer_instance
  refine W_next (m := 9) hseat (by omega) (by omega) fun v z hv => ?_
  have hr2 : At { s with seat := some z } r (V n A) := hr
  repeat infer_instance
  refine W_eCompV n (fun i => A i + (v - 1)) (by omega) ?_ fun r1 s1 hnew => ?_
  · repeat infer_instance
    refine ⟨_, _, rfl, hr, rfl, V_len, gOk_of hr2, fun i d hi e => ?_⟩
    obtain ⟨_, rfl⟩ := V_get' e
    repeat infer_instance
    refine ⟨rfl, rfl, ?_⟩
    repeat infer_instance
    exact ⟨rfl, rfl⟩
  have kp1 : Kp s0 s1 := (hk.sit (z := z)).trans hnew.toKp
  have hr1 := hnew.new
  have ha1 : Bd n 600008 (fun i => A i + (v - 1)) := fun i hi => by
    have := hA i hi
    show (A i + ((v : Int) - 1)).natAbs ≤ _
    omega
  have hle : s0.st.length ≤ r1 := Nat.le_trans hk.len hnew.le
  by_cases h3 : kind = 3
  · repeat infer_instance
    refine W_next (m := n) (hnew.toKp.seat rfl) h0 (by omega) fun v2 z2 hv2 => ?_
    have hr3 : At { s1 with seat := some z2 } r1 (V n fun i => A i + (v - 1)) := hr1
    repeat infer_instance
    refine ⟨_, dIx_L hr3 (V_get hv2), ?_⟩
    repeat infer_instance
    refine ⟨.int ((A v2 + (v - 1)) + (n - S n (fun i => A i + (v - 1)) % n)), _, rfl, dSet_L hr3 (by rw [V_len]; exact hv2), ?_⟩
    rw [V_set]
    repeat infer_instance
    refine h _ _ _ ?_ hr3.set hle (kp1.sit.set hle)
    have h5 := ha1 v2 hv2
    have h6 : 0 ≤ S n (fun i => A i + ((v : Int) - 1)) % (n : Int) := Int.emod_nonneg _ (by omega)
    have h7 : S n (fun i => A i + ((v : Int) - 1)) % (n : Int) < n := Int.emod_lt_of_pos _ (by omega)
    refine Bd.upd (fun g hg => Nat.le_trans (ha1 g hg) (by omega)) ?_
    generalize S n (fun i => A i + ((v : Int) - 1)) % (n : Int) = w at *
    have h5 : (A v2 + ((v : Int) - 1)).natAbs ≤ 600008 := h5
    omega
  · repeat infer_instance
    exact h _ _ _ (fun g hg => Nat.le_trans (ha1 g hg) (by omega)) hr1 hle kp1
section
variable {clk wd : D} {b T : Nat} {f : Nat → Nat} (K : CK clk b T f)
include K
theorem w_weights {s : MS} (wo : WO s wd clk b T f) (hseat : s.seat.isSome = true) {dvT : List Nat} (hdT : PuL F_L_divisors [.int T] (dvT.map fun d => D.int (d : Nat))) (hd0 : dvT ≠ []) (hdl : dvT.length < 1000) (hdv : ∀ d ∈ dvT, 0 < d ∧ d ≤ T) {Q : D → MS → Prop}
    (h : ∀ A q s3, Bd (b * T) 1000000 A → New s s3 q (V (b * T) A) → Q (.ref q) s3) : W (callF F_L_weights [wd, .seat] s) Q := by
  have hn := K.hn
  have hb := K.hb
  have hT := K.hT
  have h60 := K.b60
  have h61 := K.T60
  have h0 := K.npos
  have wo0 := wo
  have K0 := K
  have hl0 : 0 < dvT.length := List.length_pos_iff.mpr hd0
  obtain ⟨mv, rfl⟩ := K.ck
  obtain ⟨t, fa, pc, row, rfl, ht, hrow, hfa⟩ := wo.ex
  have hlen : ((List.range (b * T)).map fun k => D.ref (row k)).length = b * T := by simp
  have hdiv : b * T / b = T := Nat.mul_div_cancel_left T hb
  refine W_callFr (W_def ?_)
  unfold b_L_weights
  repeat infer_instance
  refine W_lenL ht ?_ hlen
  repeat infer_instance
  refine W_next (m := 5) hseat (by omega) (by omega) fun kind z hkind => ?_
  repeat infer_instance
  rw [hdiv]
  refine W_puN hdT fun r1 s1 hnew1 hs1 => ?_
  have hlenD : (dvT.map fun d => D.int (d : Nat)).length = dvT.length := by simp
  repeat infer_instance
  refine W_lenL hnew1.new ?_ hlenD
  repeat infer_instance
  refine W_lenL hnew1.new ?_ hlenD
  repeat infer_instance
  refine W_next (m := dvT.length) (hnew1.toKp.seat rfl) hl0 (by omega) fun v z2 hv => ?_
  repeat infer_instance
  have hidx : dvT.length - 1 - v < dvT.length := by omega
  obtain ⟨F, hFe⟩ : ∃ F, dvT[dvT.length - 1 - v]? = some F := ⟨_, List.getElem?_eq_getElem hidx⟩
  have hF := hdv F (List.mem_of_getElem? hFe)
  refine (show ∀ {R : Prop}, R → R from fun h => h) ?_
  show W (ret (dIx { s1 with seat := some z2 } (.ref r1) (.int ((dvT.length : Int) - 1 - v))) _) _
  rw [show (dvT.length : Int) - 1 - v = ((dvT.length - 1 - v : Nat) : Int) by omega]
  refine W_ixL (xs := dvT.map fun d => D.int (d : Nat)) hnew1.new ?_ (d := .int F) (by rw [List.getElem?_map, hFe]; rfl)
  have kp2 : Kp s { s1 with seat := some z2 } := (((Kp.refl s).sit (z := z)).trans hnew1.toKp).sit
  have seat2 : ({ s1 with seat := some z2 } : MS).seat.isSome = true := rfl
  have wo2 := wo0.kp kp2
  generalize ({ s1 with seat := some z2 } : MS) = s2 at kp2 seat2 wo2 ⊢
  by_cases k0 : kind = 0
  · repeat infer_instance
    refine W_next (m := b) seat2 hb (by omega) fun sh z3 hsh => ?_
    repeat infer_instance
    refine W_eCompV b (fun i => if decide ((i : Int) = (1 + (sh : Int)) % b) then 1 else 0) (by omega) ?_ fun r3 s3 hnew3 => ?_
    · repeat infer_instance
      refine ⟨by omega, ?_⟩
      refine ⟨rfl, by rw [rngItems_len]; rfl, rfl, fun i d hi e => ?_⟩
      obtain ⟨_, rfl⟩ := rng_at0 e
      repeat infer_instance
      refine ⟨rfl, rfl, ?_⟩
      repeat infer_instance
      exact ⟨rfl, rfl⟩
    have kp3 : Kp s s3 := kp2.sit.trans hnew3.toKp
    repeat infer_instance
    refine w_traceless K0 (wo0.kp kp3) hF.1 hF.2 hnew3.new (c := 1) (fun i _ => ?_) fun A4 r4 s4 hA4 hnew4 => ?_
    · show (if decide ((i : Int) = (1 + (sh : Int)) % b) then (1 : Int) else 0).natAbs ≤ 1
      split <;> decide
    have kp4 := kp3.trans hnew4.toKp
    repeat infer_instance
    refine W_eCompV (b * T) (fun i => A4 i + 1) (by omega) ?_ fun r5 s5 hnew5 => ?_
    · repeat infer_instance
      refine ⟨_, _, rfl, hnew4.new, rfl, V_len, gOk_of hnew4.new, fun i d hi e => ?_⟩
      obtain ⟨_, rfl⟩ := V_get' e
      repeat infer_instance
      refine ⟨rfl, rfl, ?_⟩
      repeat infer_instance
      exact ⟨rfl, rfl⟩
    exact ⟨r5, _, rfl, Nat.le_trans kp4.len hnew5.le, hnew5.new, norefs_V, kp4.trans hnew5.toKp, fun q s6 hn6 => h _ q s6 (fun g hg => by
      have := hA4 g hg
      show (A4 g + 1).natAbs ≤ _
      omega) hn6⟩
  · have tail : ∀ {x5 x6 x7 x9 x10 x11 : Option D} (s' : MS) (r' : Nat) (A : Nat → Int), Kp s s' → s'.seat.isSome = true → At s' r' (V (b * T) A) → Bd (b * T) 600000 A →
        W (tailW [some (.tup [.tup [.int b, mv], .ref t, .ref fa, pc]), some .seat, some (.int b), some (.int (b * T : Nat)), some (.int kind), x5, x6, x7, some (.ref r'), x9, x10, x11] s') fun o s1 => match o with
          | .nx _ => ∃ r xs, D.non = D.ref r ∧ s.st.length ≤ r ∧ At s1 r xs ∧ D.norefs xs = true ∧ Kp s s1 ∧ ∀ (q : Nat) (s3 : MS), New s s3 q xs → Q (D.ref q) s3
          | .rt d => ∃ r xs, d = D.ref r ∧ s.st.length ≤ r ∧ At s1 r xs ∧ D.norefs xs = true ∧ Kp s s1 ∧ ∀ (q : Nat) (s3 : MS), New s s3 q xs → Q (D.ref q) s3 := fun s' r' A hk hs hr hA =>
      w_tailW (s0 := s) h0 hn hk hs hr hA (Q := fun d s1 => ∃ r xs, d = D.ref r ∧ s.st.length ≤ r ∧ At s1 r xs ∧ D.norefs xs = true ∧ Kp s s1 ∧ ∀ (q : Nat) (s3 : MS), New s s3 q xs → Q (D.ref q) s3) fun A r'' s'' hA2 hat2 hle2 hk2 =>
        ⟨r'', _, rfl, hle2, hat2, norefs_V, hk2, fun q s3 hn3 => h A q s3 hA2 hn3⟩
    have rest : ∀ {P : Prop}, (¬ (kind = 1 ∧ b % 7 = 0 ∧ T % 3 = 0) → P) → (kind = 1 ∧ b % 7 = 0 ∧ T % 3 = 0 → P) → P := fun h1 h2 => by
      by_cases hh : kind = 1 ∧ b % 7 = 0 ∧ T % 3 = 0
      · exact h2 hh
      · exact h1 hh
    refine rest (fun hno => ?_) fun hyes => ?_
    · have hno' : kind ≠ 1 ∨ (kind = 1 ∧ b % 7 ≠ 0) ∨ (kind = 1 ∧ b % 7 = 0 ∧ T % 3 ≠ 0) := by omega
      rcases hno' with q | ⟨q1, q2⟩ | ⟨q1, q2, q3⟩
      all_goals (repeat infer_instance)
      all_goals
        cases hc : ([3, 4] : List Int).any fun j => j == (kind : Int) with
        | true =>
          repeat infer_instance
          refine W_eCompR (b * T) (fun _ v => v.natAbs ≤ 8) (by omega) seat2 ?_ fun A r5 s5 hA hnew5 => ?_
          · repeat infer_instance
            refine ⟨by omega, ?_⟩
            refine ⟨rfl, by rw [rngItems_len]; rfl, rfl, fun i d z hi e => ?_⟩
            obtain ⟨_, rfl⟩ := rng_at0 e
            repeat infer_instance
            refine ⟨rfl, rfl, ?_⟩
            repeat infer_instance
            refine W_next (m := 8) rfl (by omega) (by omega) fun v z' hv => ?_
            exact ⟨_, z', rfl, by omega, rfl⟩
          · exact tail s5 r5 A (kp2.trans hnew5.toKp) (hnew5.toKp.seat seat2) hnew5.new fun g hg => Nat.le_trans (hA g hg) (by omega)
        | false =>
          repeat infer_instance
          refine w_row seat2 h60 fun A r5 s5 hA hnew5 => ?_
          repeat infer_instance
          have kp5 := kp2.trans hnew5.toKp
          refine w_traceless K0 (wo0.kp kp5) hF.1 hF.2 hnew5.new hA fun A6 r6 s6 hA6 hnew6 => ?_
          exact tail s6 r6 A6 (kp5.trans hnew6.toKp) (hnew6.toKp.seat (hnew5.toKp.seat seat2)) hnew6.new fun g hg => Nat.le_trans (hA6 g hg) (by omega)
    · obtain ⟨k1, k2, k3⟩ := hyes
      repeat infer_instance
      refine W_next (m := 6) seat2 (by omega) (by omega) fun v z' hv => ?_
      repeat infer_instance
      show W (callF F_L_sevens [_, .int ((1 : Int) + v)] _) _
      rw [show (1 : Int) + v = ((1 + v : Nat) : Int) by omega]
      refine w_sevens K0 (wo0.kp kp2.sit) (u := 1 + v) (by omega) (by omega) (by omega) fun A5 r5 s5 hA5 hnew5 => ?_
      exact tail s5 r5 A5 (kp2.sit.trans hnew5.toKp) (hnew5.toKp.seat rfl) hnew5.new fun g hg => Nat.le_trans (hA5 g hg) (by omega)
end
end Mir
/-! ## PL -/
set_option maxHeartbeats 200000
set_option Elab.async false
set_option linter.all false
set_option maxRecDepth 100000
/-! The plain law: the way of weights. -/
namespace Mir
open PySem PySem.Spec PyProof.Rows L2
local macro_rules | `(tactic| infer_instance) => `(tactic| first
  | with_reducible apply W_sSeq | with_reducible apply W_sSet | with_reducible apply SK_nx | with_reducible apply SK_rt | ((with_reducible apply Y_eVar); rfl) | with_reducible apply W_eC | with_reducible apply W_aCons | with_reducible apply W_aNil | with_reducible apply W_e2 | with_reducible apply W_e1 | with_reducible apply W_eCB
  | ((with_reducible apply Y_mulN); omega) | ((with_reducible apply Y_divN); omega) | ((with_reducible apply Y_modN); omega) | with_reducible apply W_addN | ((with_reducible apply Y_ret); rfl) | ((with_reducible apply Y_mulI); omega) | ((with_reducible apply Y_divI); omega) | ((with_reducible apply Y_modI); omega)
  | with_reducible apply W_tOf | with_reducible apply W_tNot | with_reducible apply W_tAnd | with_reducible apply W_tOr | with_reducible apply W_tYes | with_reducible apply W_eAnd | with_reducible apply W_eOr | with_reducible apply W_eNot | with_reducible apply W_eIf | with_reducible apply W_eIx | with_reducible apply W_eTup | with_reducible apply W_eLst
  | with_reducible apply W_sIf | with_reducible apply W_sRet | with_reducible apply W_sDrop | with_reducible apply W_sNil | with_reducible apply W_sAsg | with_reducible apply W_sPar | with_reducible apply W_sAugIx | with_reducible apply W_sFor | with_reducible apply W_gtName | ((with_reducible apply Y_gtTup); rfl) | with_reducible apply W_gtCons | with_reducible apply W_gtNil | with_reducible apply W_gtSub
  | with_reducible apply W_iTup | with_reducible apply W_iRng1 | with_reducible apply W_iRng2 | with_reducible apply W_iEnum | with_reducible apply W_iLst | with_reducible apply W_eApp
  | (with_reducible apply Y_lenV) | ((with_reducible apply Y_lenT); rfl) | ((with_reducible apply ite_t); exact rfl) | ((with_reducible apply ite_f); exact rfl) | ((with_reducible apply ite_t); exact decide_eq_true (by omega)) | ((with_reducible apply ite_f); exact decide_eq_false (by omega)) | ((with_reducible apply ite_t); exact not_t (decide_eq_false (by omega))) | ((with_reducible apply ite_f); exact not_f (decide_eq_true (by omega)))
   | ((with_reducible apply Y_ixLV); (first | assumption | rfl); (first | assumption | omega)) | ((with_reducible apply Y_ixTV); (first | assumption | omega)) | ((with_reducible apply Y_ixTV0); (first | assumption | omega)) | ((with_reducible apply Y_ixLV0); (first | assumption | rfl); (first | assumption | omega)) | with_reducible apply Y_int | ((with_reducible apply Y_sumL); (first | assumption | rfl)) | with_reducible apply Y_intB | ((with_reducible apply W_tupL); (first | assumption | rfl)) | ((with_reducible apply Y_lenLV); (first | assumption | rfl)) | with_reducible refine ⟨_, rfl, ?_⟩ | exact rfl | refine ⟨(Nat.le_of_ble_eq_true rfl : List.length _ ≤ 1000), ?_⟩)
/-- what is kept of the beats, prime by prime -/
def keptf (b : Nat) (un ed : Nat → Nat) : Nat → Nat
  | 0 => b
  | i + 1 => if b % (i + 2) = 0 ∧ un (i + 2) + 1 = i + 2 ∧ 1 < ed (i + 2) then keptf b un ed i / (i + 2) else keptf b un ed i
def phiF (b kb k : Nat) : Nat := k / b * kb + k % b % kb
/-- what more the law asks of a clock -/
structure CW (clk : D) (b T : Nat) (kb c : Nat) (un ed : Nat → Nat) (dvT : List Nat) : Prop where
  un_ : ∀ q, 2 ≤ q → q ≤ b → Pu F_L_units [.int q] (.int (un q))
  ed_ : ∀ q, 2 ≤ q → q ≤ b → Pu F_L_edge [clk, .int q] (.int (ed q))
  kept : keptf b un ed (b - 1) = kb
  bc : b / kb = c
  k0 : 0 < kb
  c0 : 0 < c
  dT : PuL F_L_divisors [.int T] (dvT.map fun d => D.int (d : Nat))
  d0 : dvT ≠ []
  dl_ : dvT.length < 1000
  dv : ∀ d ∈ dvT, 0 < d ∧ d ≤ T
section
variable {clk wd : D} {b T : Nat} {f : Nat → Nat} {e : Nat} {part small' : D} {kb c : Nat} {f' : Nat → Nat} {m' : Nat → Nat → Nat} {inv : Nat → Nat} (C : CL clk b T f e part small' kb c f' (phiF b kb) m' inv)
variable {un ed : Nat → Nat} {dvT : List Nat} (X : CW clk b T kb c un ed dvT)
include C X
theorem w_moved_totals {s : MS} (wo : WO s wd clk b T f) {r : Nat} {A : Nat → Int} (hr : At s r (V (b * T) A)) {Q : D → MS → Prop}
    (h : ∀ r' s', Kp s s' → At s' r' (V (kb * T) (fold (b * T) (phiF b kb) A)) → Q (.tup [.int c, .ref r']) s') : W (F_L_moved_totals [wd, .ref r] s) Q := by
  have K := C.toCK
  have hn := K.hn
  have hb := K.hb
  have hT := K.hT
  have h60 := K.b60
  have h61 := K.T60
  have hk0 := X.k0
  have hkn := C.sm.hn
  have hkb := C.sm.b60
  have C0 := C
  have X0 := X
  obtain ⟨mv, rfl⟩ := K.ck
  obtain ⟨t, fa, pc, row, rfl, ht, hrow, hfa⟩ := wo.ex
  have hdiv : b * T / b = T := Nat.mul_div_cancel_left T hb
  refine W_def ?_
  unfold b_L_moved_totals
  repeat infer_instance
  refine ⟨_, _, rfl, by omega, by omega, ?_⟩
  have hl : ((b : Int) + 1 - 2).toNat = b - 1 := by omega
  refine W_forL (fun i env s' => s' = s ∧ ∃ x, env = [some (.tup [.tup [.int b, mv], .ref t, .ref fa, pc]), some (.ref r), some (.tup [.int b, mv]), some (.int (keptf b un ed i)), x, none, none, none]) ⟨rfl, _, rfl⟩ (fun _ _ _ _ => rfl) (fun i d env s' e h2 => ?_) (fun env s' h2 => ?_)
  · obtain ⟨rfl, x, rfl⟩ := h2
    obtain ⟨hi, rfl⟩ := rng_at e
    have hi : i + 2 ≤ b := by omega
    rw [show (2 : Int) + i = ((i + 2 : Nat) : Int) by omega]
    have hq : 0 < i + 2 ∧ i + 2 < 1073741824 := by omega
    have step : keptf b un ed (i + 1) = if b % (i + 2) = 0 ∧ un (i + 2) + 1 = i + 2 ∧ 1 < ed (i + 2) then keptf b un ed i / (i + 2) else keptf b un ed i := rfl
    by_cases h1 : b % (i + 2) = 0
    · have h1' : ((b % (i + 2) : Nat) : Int) = 0 := by omega
      repeat infer_instance
      refine W_pu (X.un_ (i + 2) (by omega) hi) ?_
      by_cases h2 : un (i + 2) + 1 = i + 2
      · repeat infer_instance
        refine W_pu (X.ed_ (i + 2) (by omega) hi) ?_
        by_cases h3 : 1 < ed (i + 2)
        · repeat infer_instance
          rw [step, if_pos ⟨h1, h2, h3⟩]
          exact ⟨rfl, _, rfl⟩
        · repeat infer_instance
          rw [step, if_neg fun q => h3 q.2.2]
          exact ⟨rfl, _, rfl⟩
      · repeat infer_instance
        rw [step, if_neg fun q => h2 q.2.1]
        exact ⟨rfl, _, rfl⟩
    · have h1' : ¬ ((b % (i + 2) : Nat) : Int) = 0 := by omega
      repeat infer_instance
      rw [step, if_neg fun q => h1 q.1]
      exact ⟨rfl, _, rfl⟩
  · obtain ⟨rfl, x, rfl⟩ := h2
    rw [rngItems_len, hl, X.kept]
    repeat infer_instance
    refine W_eCompV (kb * T) (fun _ => 0) (by omega) ?_ fun r1 s1 hnew => ?_
    · repeat infer_instance
      rw [hdiv, Nat.mul_comm T kb]
      refine ⟨by omega, ?_⟩
      refine ⟨rfl, by rw [rngItems_len]; rfl, rfl, fun i d hi e => ?_⟩
      obtain ⟨_, rfl⟩ := rng_at0 e
      repeat infer_instance
      refine ⟨rfl, rfl, ?_⟩
      repeat infer_instance
      exact ⟨rfl, rfl⟩
    have hr1 := hnew.at_ _ _ hr
    repeat infer_instance
    refine ⟨by omega, ?_⟩
    refine W_forL (fun i env s2 => (∃ x4 x6, env = [some (.tup [.tup [.int b, mv], .ref t, .ref fa, pc]), some (.ref r), some (.tup [.int b, mv]), some (.int kb), x4, some (.ref r1), x6, none]) ∧ Kp s' s2 ∧ At s2 r1 (V (kb * T) fun g => S i fun k => if phiF b kb k = g then A k else 0)) ⟨⟨_, _, rfl⟩, hnew.toKp, hnew.new⟩ (fun _ _ _ _ => rfl) (fun i d env s2 e h2 => ?_) (fun env s2 h2 => ?_)
    · obtain ⟨⟨x4, x6, rfl⟩, hk, hat⟩ := h2
      obtain ⟨hi, rfl⟩ := rng_at0 e
      have hi : i < b * T := hi
      have hφ := C0.fo.lt i hi
      have hr2 := hk.at_ _ _ hr
      repeat infer_instance
      refine ⟨_, dIx_L hat (V_get hφ), ?_⟩
      repeat infer_instance
      refine ⟨.int ((S i fun k => if phiF b kb k = phiF b kb i then A k else 0) + A i), _, rfl, dSet_L hat (by rw [V_len]; exact hφ), ⟨_, _, rfl⟩, hk.set hnew.le, ?_⟩
      have e0 := hat.set (ys := (V (kb * T) fun g => S i fun k => if phiF b kb k = g then A k else 0).set (phiF b kb i) (.int ((S i fun k => if phiF b kb k = phiF b kb i then A k else 0) + A i)))
      rw [show (V (kb * T) fun g => S (i + 1) fun k => if phiF b kb k = g then A k else 0) = (V (kb * T) fun g => S i fun k => if phiF b kb k = g then A k else 0).set (phiF b kb i) (.int ((S i fun k => if phiF b kb k = phiF b kb i then A k else 0) + A i)) from by
        rw [V_set]
        refine V_ext fun g _ => ?_
        rw [S_succ]
        split
        · rename_i hg; rw [hg]
        · omega]
      exact e0
    · obtain ⟨⟨x4, x6, rfl⟩, hk, hat⟩ := h2
      rw [rngItems_len] at hat
      repeat infer_instance
      rw [X.bc]
      exact h r1 s2 hk hat
end
end Mir
/-! ## PO -/
set_option maxHeartbeats 200000
set_option Elab.async false
set_option linter.all false
set_option maxRecDepth 100000
/-! The plain law: the way of weights, whole. -/
namespace Mir
open PySem PySem.Spec PyProof.Rows L2
local macro_rules | `(tactic| infer_instance) => `(tactic| first
  | with_reducible apply W_sSeq | with_reducible apply W_sSet | with_reducible apply SK_nx | with_reducible apply SK_rt | ((with_reducible apply Y_eVar); rfl) | with_reducible apply W_eC | with_reducible apply W_aCons | with_reducible apply W_aNil | with_reducible apply W_e2 | with_reducible apply W_e1 | with_reducible apply W_eCB
  | ((with_reducible apply Y_mulN); omega) | ((with_reducible apply Y_divN); omega) | ((with_reducible apply Y_modN); omega) | with_reducible apply W_addN | ((with_reducible apply Y_ret); rfl) | ((with_reducible apply Y_mulI); omega) | ((with_reducible apply Y_divI); omega) | ((with_reducible apply Y_modI); omega)
  | with_reducible apply W_tOf | with_reducible apply W_tNot | with_reducible apply W_tAnd | with_reducible apply W_tOr | with_reducible apply W_tYes | with_reducible apply W_eAnd | with_reducible apply W_eOr | with_reducible apply W_eNot | with_reducible apply W_eIf | with_reducible apply W_eIx | with_reducible apply W_eTup | with_reducible apply W_eLst
  | with_reducible apply W_sIf | with_reducible apply W_sRet | with_reducible apply W_sDrop | with_reducible apply W_sNil | with_reducible apply W_sAsg | with_reducible apply W_sPar | with_reducible apply W_sAugIx | with_reducible apply W_sFor | with_reducible apply W_gtName | ((with_reducible apply Y_gtTup); rfl) | with_reducible apply W_gtCons | with_reducible apply W_gtNil | with_reducible apply W_gtSub
  | with_reducible apply W_iTup | with_reducible apply W_iRng1 | with_reducible apply W_iRng2 | with_reducible apply W_iEnum | with_reducible apply W_iLst | with_reducible apply W_eApp
  | (with_reducible apply Y_lenV) | ((with_reducible apply Y_lenT); rfl) | ((with_reducible apply ite_t); exact rfl) | ((with_reducible apply ite_f); exact rfl) | ((with_reducible apply ite_t); exact decide_eq_true (by omega)) | ((with_reducible apply ite_f); exact decide_eq_false (by omega)) | ((with_reducible apply ite_t); exact not_t (decide_eq_false (by omega))) | ((with_reducible apply ite_f); exact not_f (decide_eq_true (by omega)))
   | ((with_reducible apply Y_ixLV); (first | assumption | rfl); (first | assumption | omega)) | ((with_reducible apply Y_ixTV); (first | assumption | omega)) | ((with_reducible apply Y_ixTV0); (first | assumption | omega)) | ((with_reducible apply Y_ixLV0); (first | assumption | rfl); (first | assumption | omega)) | with_reducible apply Y_int | ((with_reducible apply Y_sumL); (first | assumption | rfl)) | with_reducible apply Y_intB | ((with_reducible apply W_tupL); (first | assumption | rfl)) | ((with_reducible apply Y_lenLV); (first | assumption | rfl)) | with_reducible refine ⟨_, rfl, ?_⟩ | exact rfl | refine ⟨(Nat.le_of_ble_eq_true rfl : List.length _ ≤ 1000), ?_⟩)
section
variable {clk wd : D} {b T : Nat} {f : Nat → Nat} {e : Nat} {part small' : D} {kb c : Nat} {f' : Nat → Nat} {m' : Nat → Nat → Nat} {inv : Nat → Nat} (C : CL clk b T f e part small' kb c f' (phiF b kb) m' inv)
variable {un ed : Nat → Nat} {dvT : List Nat} (X : CW clk b T kb c un ed dvT)
include C X
theorem w_of_weights {s : MS} (wo : WO s wd clk b T f) (hseat : s.seat.isSome = true) {Q : D → MS → Prop} (h : ∀ s', Q (.bl true) s') : W (callF F_L_of_weights [wd, .seat] s) Q := by
  have K := C.toCK
  have hn := K.hn
  have hb := K.hb
  have hT := K.hT
  have h60 := K.b60
  have h61 := K.T60
  have h0 := K.npos
  have he6 := C.e6
  have he1 := C.e1
  have C0 := C
  have X0 := X
  have K0 := K
  have wo0 := wo
  have lastE := C.lastE
  have lawE := C.lawE
  obtain ⟨mv, rfl⟩ := K.ck
  obtain ⟨t, fa, pc, row, hwd, ht, hrow, hfa⟩ := wo.ex
  have hlen : ((List.range (b * T)).map fun k => D.ref (row k)).length = b * T := by simp
  refine W_callFd (W_def ?_)
  unfold b_L_of_weights
  subst hwd
  repeat infer_instance
  refine W_lenL ht ?_ hlen
  repeat infer_instance
  refine w_weights K0 wo0 hseat X.dT X.d0 X.dl_ X.dv fun A0 rw1 s1 hA0 hnew1 => ?_
  have kp1 := hnew1.toKp
  have seat1 := kp1.seat hseat
  have at1 := hnew1.new
  repeat infer_instance
  refine W_next (m := 3) seat1 (by omega) (by omega) fun v z hv => ?_
  repeat infer_instance
  refine W_next (m := b * T) rfl h0 (by omega) fun v2 z2 hv2 => ?_
  have at2 : At ({ ({ s1 with seat := some z } : MS) with seat := some z2 } : MS) rw1 (V (b * T) A0) := at1
  have kp2 : Kp s ({ ({ s1 with seat := some z } : MS) with seat := some z2 } : MS) := kp1.sit.sit
  generalize ({ ({ s1 with seat := some z } : MS) with seat := some z2 } : MS) = s2 at at2 kp2 ⊢
  repeat infer_instance
  refine ⟨_, dIx_L at2 (V_get hv2), ?_⟩
  repeat infer_instance
  refine ⟨.int (A0 v2 + (if decide ((v : Int) = 2) then 1 else 0)), _, rfl, dSet_L at2 (by rw [V_len]; exact hv2), ?_⟩
  rw [V_set]
  have hA : Bd (b * T) 1000001 (fun g => if v2 = g then A0 v2 + (if decide ((v : Int) = 2) then 1 else 0) else A0 g) := Bd.upd (fun g hg => Nat.le_trans (hA0 g hg) (by omega)) (by
    have := hA0 v2 hv2
    split <;> omega)
  have at3 := at2.set (ys := V (b * T) fun g => if v2 = g then A0 v2 + (if decide ((v : Int) = 2) then 1 else 0) else A0 g)
  have kp3 := kp2.set hnew1.le (ys := V (b * T) fun g => if v2 = g then A0 v2 + (if decide ((v : Int) = 2) then 1 else 0) else A0 g)
  generalize (fun g => if v2 = g then A0 v2 + (if decide ((v : Int) = 2) then 1 else 0) else A0 g : Nat → Int) = A at *
  generalize s2.setAt rw1 (V (b * T) A) = s3 at at3 kp3 ⊢
  have hAs : small (b * T) A := hA.small (by decide)
  have M := K0.mon
  have hpw : ∀ j, j ≤ 2 → small (b * T) (pwr (b * T) (gm b T f) A j) := fun j hj => by
    have h1 : small (b * T) (pwr (b * T) (gm b T f) A 1) := fun i hi => by rw [pwr_one M i hi]; exact hAs i hi
    match j, hj with
    | 0, _ => intro i hi; show (kron0 i).natAbs < _; unfold kron0; split <;> decide
    | 1, _ => exact h1
    | 2, _ =>
      have hb1 : Bd (b * T) 1000001 (pwr (b * T) (gm b T f) A 1) := fun i hi => by rw [pwr_one M i hi]; exact hA i hi
      intro i hi
      have e1 := cv_bd (m := gm b T f) hb1 hA i hi
      have e3 : b * T * (b * T * (1000001 * 1000001)) ≤ 60 * (60 * (1000001 * 1000001)) := Nat.mul_le_mul hn (Nat.mul_le_mul_right _ hn)
      show (cv (b * T) (gm b T f) (pwr (b * T) (gm b T f) A 1) A i).natAbs < _
      omega
  repeat infer_instance
  refine W_eq (a := .ref s3.st.length) (s := s3.add (V (b * T) A)) (by
    show (match s3.st[rw1]? with | some xs => some (D.ref s3.st.length, s3.add xs) | none => none) = _
    rw [at3]) ?_
  have hnew4 : New s3 (s3.add (V (b * T) A)) s3.st.length (V (b * T) A) := .of
  generalize s3.add (V (b * T) A) = s4 at hnew4 ⊢
  generalize s3.st.length = rp at hnew4 ⊢
  have at4 := hnew4.at_ _ _ at3
  have kp4 := kp3.trans hnew4.toKp
  have hrw : s.st.length ≤ rw1 := hnew1.le
  repeat infer_instance
  refine W_pu lawE ?_
  repeat infer_instance
  refine ⟨_, _, rfl, by omega, by omega, ?_⟩
  have hl : ((e : Int) + 1 - 1).toNat = e := by omega
  let p : Nat → Bool := fun k => evn (b * T) (rowp (b * T) (gm b T f) (fun _ => A) k)
  let clk : D := .tup [.int b, mv]
  let wd : D := .tup [clk, .ref t, .ref fa, pc]
  refine W_forL (fun i env s' => ∃ d r P x9, env = [some wd, some .seat, some clk, some (.int (b * T : Nat)), some (.ref rw1), some (.int (if decide ((v : Int) = 2) then 1 else 0)), some (dl (b * T) A), some (.ref r), some d, x9, none, none, none, none, none] ∧ Aft p i d ∧ (d = .non → P = rowp (b * T) (gm b T f) (fun _ => A) (i - 1)) ∧ Kp s s' ∧ At s' rw1 (V (b * T) A) ∧ At s' r (V (b * T) P))
    ⟨_, _, _, _, rfl, .inr ⟨fun j hj => by omega, rfl⟩, fun _ => rfl, kp4, at4, hnew4.new⟩ (fun _ _ _ _ => rfl) (fun i d env s' h1 h2 => ?_) (fun env s' h2 => ?_)
  · obtain ⟨d, r, P, x9, rfl, hd, hP, hk, ha, hr⟩ := h2
    obtain ⟨hi, rfl⟩ := rng_at h1
    rcases hd with ⟨k, k1, k2, k3, rfl⟩ | ⟨k1, rfl⟩
    · by_cases h1i : i = 0
      · repeat infer_instance
        exact ⟨_, _, _, _, rfl, .inl ⟨k, by omega, k2, k3, rfl⟩, fun q => (nomatch q), hk, ha, hr⟩
      · repeat infer_instance
        exact ⟨_, _, _, _, rfl, .inl ⟨k, by omega, k2, k3, rfl⟩, fun q => (nomatch q), hk, ha, hr⟩
    · have lvl : ∀ (r' : Nat) (s6 : MS), Kp s s6 → At s6 rw1 (V (b * T) A) → At s6 r' (V (b * T) (rowp (b * T) (gm b T f) (fun _ => A) i)) →
          ∀ {R : D → MS → Prop}, (∀ s7, Kp s s7 → At s7 rw1 (V (b * T) A) → At s7 r' (V (b * T) (rowp (b * T) (gm b T f) (fun _ => A) i)) → R (.bl (p i)) s7) → W (callF F_L_level [.ref r'] s6) R := fun r' s6 hk6 ha6 hr6 R hR =>
        w_level h0 (by omega) hr6 fun s7 hk7 => hR s7 (hk6.trans hk7) (hk7.at_ _ _ ha6) (hk7.at_ _ _ hr6)
      have hP' := hP rfl
      subst hP'
      by_cases h1i : i = 0
      · subst h1i
        repeat infer_instance
        refine lvl r s' hk ha hr fun s7 hk7 ha7 hr7 => ?_
        cases hev : p 0 with
        | true =>
          repeat infer_instance
          exact ⟨_, _, _, _, rfl, .inl ⟨0, by omega, hev, k1, congrArg D.int (by omega)⟩, fun q => (nomatch q), hk7, ha7, hr7⟩
        | false =>
          repeat infer_instance
          refine ⟨_, _, _, _, rfl, .inr ⟨fun j hj => ?_, rfl⟩, fun _ => rfl, hk7, ha7, hr7⟩
          by_cases hji : j = 0
          · rw [hji]; exact hev
          · exact k1 j (by omega)
      · obtain ⟨j0, rfl⟩ : ∃ j, i = j + 1 := ⟨i - 1, by omega⟩
        repeat infer_instance
        refine w_times K0 (wo0.kp hk) (.inl ⟨_, rfl, hr⟩) (.inl ⟨_, rfl, ha⟩) (.inr hAs) fun r6 s6 hnew6 => ?_
        repeat infer_instance
        refine lvl r6 s6 (hk.trans hnew6.toKp) (hnew6.at_ _ _ ha) hnew6.new fun s7 hk7 ha7 hr7 => ?_
        cases hev : p (j0 + 1) with
        | true =>
          repeat infer_instance
          exact ⟨_, _, _, _, rfl, .inl ⟨(j0 + 1), by omega, hev, k1, congrArg D.int (by omega)⟩, fun q => (nomatch q), hk7, ha7, hr7⟩
        | false =>
          repeat infer_instance
          refine ⟨_, _, _, _, rfl, .inr ⟨fun j hj => ?_, rfl⟩, fun _ => rfl, hk7, ha7, hr7⟩
          by_cases hji : j = (j0 + 1)
          · rw [hji]; exact hev
          · exact k1 j (by omega)
  · obtain ⟨d, r, P, x9, rfl, hAft, _, hk, ha, hr⟩ := h2
    rw [rngItems_len, hl] at hAft
    obtain ⟨d', hea, hAft'⟩ := pu_even_after K0 lastE (by omega) A hAs
    have hdd := hAft.uniq hAft'
    subst hdd
    have hq0 := C0.ab.pos
    have hkn := C0.sm.hn
    have hc0 := X0.c0
    have hsame : Pu (F_L_same 5) [.tup [.str "deal", .int (-1)], .tup [.str "deal", .int (-1)]] (.bl true) := by
      refine same_tup 4 _ (by show 2 < 1000; omega) rfl fun i d e => ?_
      match i, e with
      | 0, e => cases e; exact same_str _ _
      | 1, e => cases e; exact same_int _ _
      | i + 2, e => cases e
    repeat infer_instance
    refine w_moved_totals C0 X0 (wo0.kp hk) ha fun rt s6 hk6 at6t => ?_
    have at6 := hk6.at_ _ _ ha
    rcases hAft with ⟨k, hke, hev, hmin, hd⟩ | ⟨hmin, hd⟩
    · subst hd
      have hAft : Aft p e (.int (k + 1 : Nat)) := .inl ⟨k, hke, hev, hmin, rfl⟩
      have hlev : Lev (b * T) (rowp (b * T) (gm b T f) (fun _ => A) k) := evn_iff.mp hev
      obtain ⟨P1, P2, P3⟩ := power_says M C0.fo C0.ab C0.sq (by omega) hlev
      have P2' : evn (kb * T) (fold (b * T) (phiF b kb) A) = true := evn_iff.mpr P2
      repeat infer_instance
      refine W_eComp ?_
      repeat infer_instance
      refine ⟨_, _, rfl, at6t, by rw [V_len]; omega, ?_⟩
      refine W_compF (kb * T) (fun _ => false) (fun _ => .non) V_len (gOk_of at6t) (fun i d hi e => ?_) ?_
      · obtain ⟨_, rfl⟩ := V_get' e
        have hz := P3 i hi
        repeat infer_instance
        exact ⟨by rw [hz]; rfl, rfl, fun q => by cases q⟩
      have hnew6 : New s6 (s6.add (((List.range (kb * T)).filter fun _ => false).map fun _ => D.non)) s6.st.length (((List.range (kb * T)).filter fun _ => false).map fun _ => D.non) := .of
      repeat infer_instance
      refine W_lenL hnew6.new (n := 0) ?_ (by simp)
      have at7a := hnew6.at_ _ _ at6
      have at7ta := hnew6.at_ _ _ at6t
      have kp65 := (hk.trans hk6).trans hnew6.toKp
      clear hnew6
      generalize s6.add (((List.range (kb * T)).filter fun _ => false).map fun _ => D.non) = s65 at at7a at7ta kp65 ⊢
      repeat infer_instance
      refine w_level hq0 (by omega) at7ta fun s7 hk7 => ?_
      have at7 := hk7.at_ _ _ at7a
      have at7t := hk7.at_ _ _ at7ta
      have kp7 := kp65.trans hk7
      rw [P2']
      repeat infer_instance
      refine W_pu (pu_divides_total K0 A) ?_
      repeat infer_instance
      refine W_pu (same_bl 4 _) ?_
      repeat infer_instance
      refine W_pu hea ?_
      repeat infer_instance
      refine W_pu (same_aft 4 hAft) ?_
      repeat infer_instance
      refine W_pu (pu_folds_evenly C0 A) ?_
      repeat infer_instance
      refine w_level hq0 (by omega) at7t fun s8 hk8 => ?_
      have at8 := hk8.at_ _ _ at7
      repeat infer_instance
      refine W_pu (same_bl 4 _) ?_
      repeat infer_instance
      refine W_eCompV (b * T) (fun i => 2 * A i + 1) (by omega) ?_ fun r9 s9 hnew9 => ?_
      · repeat infer_instance
        refine ⟨_, _, rfl, at8, rfl, V_len, gOk_of at8, fun i d hi e => ?_⟩
        obtain ⟨_, rfl⟩ := V_get' e
        repeat infer_instance
        refine ⟨rfl, rfl, ?_⟩
        repeat infer_instance
        exact ⟨rfl, rfl⟩
      have at9 := hnew9.new
      have at9w := hnew9.at_ _ _ at8
      have kp9 := (kp7.trans hk8).trans hnew9.toKp
      repeat infer_instance
      refine W_pu (pu_undivided K0 A) ?_
      repeat infer_instance
      refine W_pu hsame ?_
      repeat infer_instance
      refine ⟨by show (((k + 1 : Nat) : Int)).natAbs ≤ _; omega, ?_⟩
      have hS : (S (b * T) A).natAbs < 18446744073709551616 := by
        have e1 := S_bd (n := b * T) (c := 1000001) fun j hj => hA j hj
        have e2 : b * T * 1000001 ≤ 60 * 1000001 := Nat.mul_le_mul_right _ hn
        omega
      have hpow : S (b * T) A ^ (k + 1) = (b * T : Nat) * rowp (b * T) (gm b T f) (fun _ => A) k 0 := by
        rw [← total_pow M.lt k]
        exact hlev.total
      refine W_forL (fun i env s' => s' = s9 ∧ ∃ x9, env = [some wd, some .seat, some clk, some (.int (b * T : Nat)), some (.ref rw1), some (.int (if decide ((v : Int) = 2) then 1 else 0)), some (dl (b * T) A), some (.ref r), some (.int (k + 1 : Nat)), x9, some (.int (S (b * T) A)), some (.int c), some (.ref rt), none, some (.int (S (b * T) A ^ i))]) ⟨rfl, x9, by rw [Int.pow_zero]; rfl⟩ (fun _ _ _ _ => rfl) (fun i d env s' h1 h2 => ?_) (fun env s' h2 => ?_)
      · obtain ⟨rfl, x9, rfl⟩ := h2
        obtain ⟨hi, rfl⟩ := rng_at0 h1
        repeat infer_instance
        exact ⟨rfl, some (.int i), by rw [Int.pow_succ]; rfl⟩
      · obtain ⟨rfl, x9, rfl⟩ := h2
        rw [rngItems_len, show (((k + 1 : Nat) : Int)).toNat = k + 1 from rfl]
        have hz : S (b * T) A ^ (k + 1) % ((b * T : Nat) : Int) = 0 := by rw [hpow]; exact Int.mul_emod_right _ _
        repeat infer_instance
        refine W_pu (pu_dealt_again K0 A (k + 1) (by omega) (by omega) hpw) ?_
        repeat infer_instance
        refine W_eCompV (b * T) (fun _ => S (b * T) A ^ (k + 1) / (b * T : Nat)) (by omega) ?_ fun r10 s10 hnew10 => ?_
        · repeat infer_instance
          refine ⟨_, _, rfl, at9w, rfl, V_len, gOk_of at9w, fun i d hi e => ?_⟩
          obtain ⟨_, rfl⟩ := V_get' e
          repeat infer_instance
          refine ⟨rfl, rfl, ?_⟩
          repeat infer_instance
          exact ⟨rfl, rfl⟩
        have at10 := hnew10.new
        repeat infer_instance
        have hEq : V (b * T) (fun _ => S (b * T) A ^ (k + 1) / ((b * T : Nat) : Int)) = V (b * T) (pwr (b * T) (gm b T f) A (k + 1)) := V_ext fun g hg => by
          rw [hpow, Int.mul_ediv_cancel_left _ (by omega), ← rowp_pwr M k g hg]
          exact (hlev g hg).symm
        rw [hEq]
        refine W_pu (same_dl 2 (b * T) (pwr (b * T) (gm b T f) A (k + 1)) (by omega)) ?_
        exact ⟨rfl, kp9.trans hnew10.toKp, fun s3 _ => h s3⟩
    · subst hd
      have hAft : Aft p e .non := .inr ⟨hmin, rfl⟩
      repeat infer_instance
      have at7 := at6
      have at7t := at6t
      have kp7 := hk.trans hk6
      refine W_pu (pu_divides_total K0 A) ?_
      repeat infer_instance
      refine W_pu (same_bl 4 _) ?_
      repeat infer_instance
      refine W_pu hea ?_
      repeat infer_instance
      refine W_pu (same_aft 4 hAft) ?_
      repeat infer_instance
      refine W_pu (pu_folds_evenly C0 A) ?_
      repeat infer_instance
      refine w_level hq0 (by omega) at7t fun s8 hk8 => ?_
      have at8 := hk8.at_ _ _ at7
      repeat infer_instance
      refine W_pu (same_bl 4 _) ?_
      repeat infer_instance
      refine W_eCompV (b * T) (fun i => 2 * A i + 1) (by omega) ?_ fun r9 s9 hnew9 => ?_
      · repeat infer_instance
        refine ⟨_, _, rfl, at8, rfl, V_len, gOk_of at8, fun i d hi e => ?_⟩
        obtain ⟨_, rfl⟩ := V_get' e
        repeat infer_instance
        refine ⟨rfl, rfl, ?_⟩
        repeat infer_instance
        exact ⟨rfl, rfl⟩
      have at9 := hnew9.new
      have at9w := hnew9.at_ _ _ at8
      have kp9 := (kp7.trans hk8).trans hnew9.toKp
      repeat infer_instance
      refine W_pu (pu_undivided K0 A) ?_
      repeat infer_instance
      refine W_pu hsame ?_
      repeat infer_instance
      obtain ⟨dp, hpap⟩ := pu_even_paper C0 A hpw hmin
      refine W_pu hpap ?_
      repeat infer_instance
      refine W_pu (same_str 4 _) ?_
      exact ⟨rfl, kp9, fun s3 _ => h s3⟩
end
end Mir
/-! ## PP -/
set_option maxHeartbeats 200000
set_option Elab.async false
set_option linter.all false
set_option maxRecDepth 100000
/-! The plain law: parts and sets of the law. -/
namespace Mir
open PySem PySem.Spec PyProof.Rows L2
local macro_rules | `(tactic| infer_instance) => `(tactic| first
  | with_reducible apply W_sSeq | with_reducible apply W_sSet | with_reducible apply SK_nx | with_reducible apply SK_rt | ((with_reducible apply Y_eVar); rfl) | with_reducible apply W_eC | with_reducible apply W_aCons | with_reducible apply W_aNil | with_reducible apply W_e2 | with_reducible apply W_e1 | with_reducible apply W_eCB
  | ((with_reducible apply Y_mulN); omega) | ((with_reducible apply Y_divN); omega) | ((with_reducible apply Y_modN); omega) | with_reducible apply W_addN | ((with_reducible apply Y_ret); rfl) | ((with_reducible apply Y_mulI); omega) | ((with_reducible apply Y_divI); omega) | ((with_reducible apply Y_modI); omega)
  | with_reducible apply W_tOf | with_reducible apply W_tNot | with_reducible apply W_tAnd | with_reducible apply W_tOr | with_reducible apply W_tYes | with_reducible apply W_eAnd | with_reducible apply W_eOr | with_reducible apply W_eNot | with_reducible apply W_eIf | with_reducible apply W_eIx | with_reducible apply W_eTup | with_reducible apply W_eLst
  | with_reducible apply W_sIf | with_reducible apply W_sRet | with_reducible apply W_sDrop | with_reducible apply W_sNil | with_reducible apply W_sAsg | with_reducible apply W_sPar | with_reducible apply W_sAugIx | with_reducible apply W_sFor | with_reducible apply W_gtName | ((with_reducible apply Y_gtTup); rfl) | with_reducible apply W_gtCons | with_reducible apply W_gtNil | with_reducible apply W_gtSub
  | with_reducible apply W_iTup | with_reducible apply W_iRng1 | with_reducible apply W_iRng2 | with_reducible apply W_iEnum | with_reducible apply W_iLst | with_reducible apply W_eApp
  | (with_reducible apply Y_lenV) | ((with_reducible apply Y_lenT); rfl) | ((with_reducible apply ite_t); exact rfl) | ((with_reducible apply ite_f); exact rfl) | ((with_reducible apply ite_t); exact decide_eq_true (by omega)) | ((with_reducible apply ite_f); exact decide_eq_false (by omega)) | ((with_reducible apply ite_t); exact not_t (decide_eq_false (by omega))) | ((with_reducible apply ite_f); exact not_f (decide_eq_true (by omega)))
   | ((with_reducible apply Y_ixLV); (first | assumption | rfl); (first | assumption | omega)) | ((with_reducible apply Y_ixTV); (first | assumption | omega)) | ((with_reducible apply Y_ixTV0); (first | assumption | omega)) | ((with_reducible apply Y_ixLV0); (first | assumption | rfl); (first | assumption | omega)) | with_reducible apply Y_int | ((with_reducible apply Y_sumL); (first | assumption | rfl)) | with_reducible apply Y_intB | ((with_reducible apply W_tupL); (first | assumption | rfl)) | ((with_reducible apply Y_lenLV); (first | assumption | rfl)) | with_reducible refine ⟨_, rfl, ?_⟩ | exact rfl | refine ⟨(Nat.le_of_ble_eq_true rfl : List.length _ ≤ 1000), ?_⟩)
def rowD (p : Nat × Nat) : D := .tup [.int (p.1 : Nat), .int (p.2 : Nat)]
def pmv (rows : List (Nat × Nat)) (F q i : Nat) : Bool := decide (F % (rows.getD i (1, 0)).1 = 0) && decide ((rows.getD i (1, 0)).2 % q ≠ 1)
def spotsf (b : Nat) (rows : List (Nat × Nat)) (un : Nat → Nat) (a F : Nat) : Nat → Nat
  | 0 => 1
  | i + 1 => if b % (i + 2) = 0 ∧ un (i + 2) + 1 = i + 2 ∧ a % (i + 2) ≠ 0 ∧ 0 < ((List.range rows.length).filter (pmv rows F (i + 2))).length then spotsf b rows un a F i * (i + 2) else spotsf b rows un a F i
def pcI (f : Nat → Nat) (b T a F sp k : Nat) : Int := if k / b % (T / F) = 0 ∧ (((k % b : Nat) : Int) - (1 - (f (k / b) : Int)) * sp) % ((b / a : Nat) : Int) = 0 then 1 else 0
structure CP (clk : D) (b T : Nat) (rows : List (Nat × Nat)) (un : Nat → Nat) (dvB dvT : List Nat) : Prop where
  ck : clk = .tup [.int b, .tup (rows.map rowD)]
  rl : rows.length < 100
  r0 : ∀ i, i < rows.length → 0 < (rows.getD i (1, 0)).1
  dB : PuL F_L_divisors [.int b] (dvB.map fun d => D.int (d : Nat))
  b0 : dvB ≠ []
  bl : dvB.length < 1000
  bv : ∀ d ∈ dvB, 0 < d ∧ d ≤ b
  sp : ∀ a ∈ dvB, ∀ F ∈ dvT, 0 < spotsf b rows un a F (b - 1) ∧ spotsf b rows un a F (b - 1) < 1000000
theorem dcast1 (a : Nat) : (!decide ((a : Int) = 1)) = decide (a ≠ 1) := by
  by_cases h : a = 1
  · have h' : (a : Int) = 1 := by omega
    rw [decide_eq_true h', decide_eq_false (by omega)]
    rfl
  · have h' : ¬ (a : Int) = 1 := by omega
    rw [decide_eq_false h', decide_eq_true h]
    rfl
theorem rows_at {rows : List (Nat × Nat)} {i : Nat} {d : D} (h : (rows.map rowD)[i]? = some d) : i < rows.length ∧ d = .tup [.int ((rows.getD i (1, 0)).1 : Nat), .int ((rows.getD i (1, 0)).2 : Nat)] := by
  have hi : i < rows.length := by
    have := (List.getElem?_eq_some_iff.mp h).1
    simpa using this
  rw [List.getElem?_map, List.getElem?_eq_getElem hi] at h
  refine ⟨hi, ?_⟩
  have e2 : rows.getD i (1, 0) = rows[i] := by simp [List.getD, List.getElem?_eq_getElem hi]
  rw [e2]
  exact (Option.some.inj h).symm
section
variable {clk wd : D} {b T : Nat} {f : Nat → Nat} {e : Nat} {part small' : D} {kb c : Nat} {f' : Nat → Nat} {m' : Nat → Nat → Nat} {inv : Nat → Nat} (C : CL clk b T f e part small' kb c f' (phiF b kb) m' inv)
variable {un ed : Nat → Nat} {dvT dvB : List Nat} {rows : List (Nat × Nat)} (X : CW clk b T kb c un ed dvT) (Y : CP clk b T rows un dvB dvT)
include C X Y
theorem w_part {s : MS} (wo : WO s wd clk b T f) (hseat : s.seat.isSome = true) {Q : D → MS → Prop}
    (h : ∀ a F sp s3, a ∈ dvB → F ∈ dvT → sp < spotsf b rows un a F (b - 1) → Kp s s3 → Q (.tup [.tup [.int (a : Nat), .int (F : Nat), .int (sp : Nat)], .tup (V (b * T) (pcI f b T a F sp))]) s3) : W (callF F_L_part [wd, .seat] s) Q := by
  have K := C.toCK
  have hn := K.hn
  have hb := K.hb
  have hT := K.hT
  have h60 := K.b60
  have h61 := K.T60
  have h0 := K.npos
  have C0 := C
  have X0 := X
  have K0 := K
  have wo0 := wo
  have hl0 : 0 < dvT.length := List.length_pos_iff.mpr X.d0
  have hlb : 0 < dvB.length := List.length_pos_iff.mpr Y.b0
  have hl1 := X.dl_
  have hlb1 := Y.bl
  have hck := Y.ck
  subst hck
  obtain ⟨t, fa, pc, row, rfl, ht, hrow, hfa⟩ := wo.ex
  have hlen : ((List.range (b * T)).map fun k => D.ref (row k)).length = b * T := by simp
  have hdiv : b * T / b = T := Nat.mul_div_cancel_left T hb
  refine W_callFd (W_def ?_)
  unfold b_L_part
  repeat infer_instance
  refine W_lenL ht ?_ hlen
  repeat infer_instance
  rw [hdiv]
  refine W_puN Y.dB fun r1 s1 hnew1 hs1 => ?_
  have hlenB : (dvB.map fun d => D.int (d : Nat)).length = dvB.length := by simp
  repeat infer_instance
  refine W_lenL hnew1.new ?_ hlenB
  repeat infer_instance
  refine W_next (m := dvB.length) (hnew1.toKp.seat hseat) hlb (by omega) fun v1 z1 hv1 => ?_
  obtain ⟨a, hae⟩ : ∃ a, dvB[v1]? = some a := ⟨_, List.getElem?_eq_getElem hv1⟩
  have ham := List.mem_of_getElem? hae
  have ha := Y.bv a ham
  refine W_ixL (xs := dvB.map fun d => D.int (d : Nat)) hnew1.new ?_ (d := .int a) (by rw [List.getElem?_map, hae]; rfl)
  have kp1 : Kp s { s1 with seat := some z1 } := hnew1.toKp.sit
  generalize ({ s1 with seat := some z1 } : MS) = s2 at kp1 ⊢
  repeat infer_instance
  refine W_puN X.dT fun r3 s3 hnew3 hs3 => ?_
  have hlenT : (dvT.map fun d => D.int (d : Nat)).length = dvT.length := by simp
  repeat infer_instance
  refine W_lenL hnew3.new ?_ hlenT
  repeat infer_instance
  refine W_next (m := dvT.length) ((kp1.trans hnew3.toKp).seat hseat) hl0 (by omega) fun v2 z2 hv2 => ?_
  obtain ⟨F, hFe⟩ : ∃ F, dvT[v2]? = some F := ⟨_, List.getElem?_eq_getElem hv2⟩
  have hFm := List.mem_of_getElem? hFe
  have hF := X.dv F hFm
  refine W_ixL (xs := dvT.map fun d => D.int (d : Nat)) hnew3.new ?_ (d := .int F) (by rw [List.getElem?_map, hFe]; rfl)
  have kp4 : Kp s { s3 with seat := some z2 } := (kp1.trans hnew3.toKp).sit
  generalize ({ s3 with seat := some z2 } : MS) = s4 at kp4 ⊢
  repeat infer_instance
  refine ⟨_, _, rfl, by omega, by omega, ?_⟩
  have hl : ((b : Int) + 1 - 2).toNat = b - 1 := by omega
  refine W_forL (fun i env s' => Kp s s' ∧ ∃ x8, env = [some (.tup [.tup [.int b, .tup (rows.map rowD)], .ref t, .ref fa, pc]), some .seat, some (.tup [.int b, .tup (rows.map rowD)]), some (.int T), some (.ref r3), some (.int a), some (.int F), some (.int (spotsf b rows un a F i)), x8, none, none, none, none, none, none]) ⟨kp4, _, rfl⟩ (fun _ _ _ _ => rfl) (fun i d env s' e h2 => ?_) (fun env s' h2 => ?_)
  · obtain ⟨hk, x8, rfl⟩ := h2
    obtain ⟨hi, rfl⟩ := rng_at e
    have hi : i + 2 ≤ b := by omega
    rw [show (2 : Int) + i = ((i + 2 : Nat) : Int) by omega]
    have step : spotsf b rows un a F (i + 1) = if b % (i + 2) = 0 ∧ un (i + 2) + 1 = i + 2 ∧ a % (i + 2) ≠ 0 ∧ 0 < ((List.range rows.length).filter (pmv rows F (i + 2))).length then spotsf b rows un a F i * (i + 2) else spotsf b rows un a F i := rfl
    have hq : i + 2 < 18446744073709551616 := by omega
    by_cases h1 : b % (i + 2) = 0
    · have h1' : ((b % (i + 2) : Nat) : Int) = 0 := by omega
      repeat infer_instance
      refine W_pu (X.un_ (i + 2) (by omega) hi) ?_
      by_cases h2 : un (i + 2) + 1 = i + 2
      · by_cases h3 : a % (i + 2) = 0
        · have h3' : ((a % (i + 2) : Nat) : Int) = 0 := by omega
          repeat infer_instance
          rw [step, if_neg fun q => q.2.2.1 h3]
          exact ⟨hk, _, rfl⟩
        · have h3' : ¬ ((a % (i + 2) : Nat) : Int) = 0 := by omega
          repeat infer_instance
          refine W_eComp ?_
          repeat infer_instance
          refine ⟨by rw [List.length_map]; have := Y.rl; omega, ?_⟩
          refine W_compF rows.length (pmv rows F (i + 2)) (fun i => .tup [.int ((rows.getD i (1, 0)).1 : Nat), .int ((rows.getD i (1, 0)).2 : Nat)]) (by rw [List.length_map]) rfl (fun j d hj e => ?_) ?_
          · obtain ⟨_, rfl⟩ := rows_at e
            have hr0 := Y.r0 j hj
            by_cases g1 : F % (rows.getD j (1, 0)).1 = 0
            · have g1' : ((F % (rows.getD j (1, 0)).1 : Nat) : Int) = 0 := by omega
              repeat infer_instance
              refine ⟨?_, rfl, fun _ => ⟨_, _, rfl, rfl, rfl⟩⟩
              unfold pmv
              rw [decide_eq_true g1, Bool.true_and]
              exact dcast1 _
            · have g1' : ¬ ((F % (rows.getD j (1, 0)).1 : Nat) : Int) = 0 := by omega
              repeat infer_instance
              have g2 : pmv rows F (i + 2) j = false := by unfold pmv; rw [decide_eq_false g1]; rfl
              exact ⟨g2.symm, rfl, fun q => by rw [g2] at q; cases q⟩
          · have hnew5 : New s' (s'.add (((List.range rows.length).filter (pmv rows F (i + 2))).map fun i => D.tup [.int ((rows.getD i (1, 0)).1 : Nat), .int ((rows.getD i (1, 0)).2 : Nat)])) s'.st.length (((List.range rows.length).filter (pmv rows F (i + 2))).map fun i => D.tup [.int ((rows.getD i (1, 0)).1 : Nat), .int ((rows.getD i (1, 0)).2 : Nat)]) := .of
            repeat infer_instance
            refine W_lenL hnew5.new (n := ((List.range rows.length).filter (pmv rows F (i + 2))).length) ?_ (by rw [List.length_map])
            have kp5 := hk.trans hnew5.toKp
            by_cases h4 : 0 < ((List.range rows.length).filter (pmv rows F (i + 2))).length
            · repeat infer_instance
              rw [step, if_pos ⟨h1, h2, h3, h4⟩]
              exact ⟨kp5, _, rfl⟩
            · repeat infer_instance
              rw [step, if_neg fun q => h4 q.2.2.2]
              exact ⟨kp5, _, rfl⟩
      · repeat infer_instance
        rw [step, if_neg fun q => h2 q.2.1]
        exact ⟨hk, _, rfl⟩
    · have h1' : ¬ ((b % (i + 2) : Nat) : Int) = 0 := by omega
      repeat infer_instance
      rw [step, if_neg fun q => h1 q.1]
      exact ⟨hk, _, rfl⟩
  · obtain ⟨hk, x8, rfl⟩ := h2
    rw [rngItems_len, hl]
    have hsp := Y.sp a ham F hFm
    repeat infer_instance
    refine W_next (m := spotsf b rows un a F (b - 1)) (hk.seat hseat) hsp.1 hsp.2 fun sp z3 hsp3 => ?_
    have kp6 : Kp s { s' with seat := some z3 } := hk.sit
    generalize ({ s' with seat := some z3 } : MS) = s6 at kp6 ⊢
    repeat infer_instance
    have hnew7 : New s6 (s6.add []) s6.st.length [] := .of
    have hle7 : s.st.length ≤ s6.st.length := kp6.len
    have kp7 := kp6.trans hnew7.toKp
    have at7 : At (s6.add []) s6.st.length (V 0 (pcI f b T a F sp)) := hnew7.new
    clear hnew7
    generalize s6.add [] = s7 at kp7 at7 ⊢
    generalize s6.st.length = r7 at hle7 at7 ⊢
    repeat infer_instance
    refine W_lenL (kp7.at_ _ _ ht) ?_ hlen
    repeat infer_instance
    refine ⟨by omega, ?_⟩
    have hTF : 0 < T / F := Nat.div_pos hF.2 hF.1
    have hba : 0 < b / a := Nat.div_pos ha.2 ha.1
    refine W_forL (fun i env s' => Kp s s' ∧ At s' r7 (V i (pcI f b T a F sp)) ∧ ∃ x8 x11 x12 x13, env = [some (.tup [.tup [.int b, .tup (rows.map rowD)], .ref t, .ref fa, pc]), some .seat, some (.tup [.int b, .tup (rows.map rowD)]), some (.int T), some (.ref r3), some (.int a), some (.int F), some (.int (spotsf b rows un a F (b - 1))), x8, some (.int sp), some (.ref r7), x11, x12, x13, none]) ⟨kp7, at7, _, _, _, _, rfl⟩ (fun _ _ _ _ => rfl) (fun i d env s' e h2 => ?_) (fun env s' h2 => ?_)
    · obtain ⟨hk, hat, x8, x11, x12, x13, rfl⟩ := h2
      obtain ⟨hi, rfl⟩ := rng_at0 e
      have hi : i < b * T := hi
      have hdi := K0.div_lt hi
      have hfi := K0.hf _ hdi
      have hfa2 := hk.at_ _ _ hfa
      repeat infer_instance
      by_cases g1 : i / b % (T / F) = 0
      · have g1' : ((i / b % (T / F) : Nat) : Int) = 0 := by omega
        refine ite_t (decide_eq_true g1') ?_
        repeat infer_instance
        refine ⟨_, dApp_L hat (by rw [V_len]; omega), hk.set hle7, ?_, _, _, _, _, rfl⟩
        rw [V_append (A := pcI f b T a F sp) (n := i)]
        · exact hat.set
        · show (if decide ((((i % b : Nat) : Int) - (1 - (f (i / b) : Int)) * sp) % ((b / a : Nat) : Int) = 0) then (1 : Int) else 0) = _
          unfold pcI
          by_cases g2 : (((i % b : Nat) : Int) - (1 - (f (i / b) : Int)) * sp) % ((b / a : Nat) : Int) = 0
          · rw [if_pos (decide_eq_true g2), if_pos ⟨g1, g2⟩]
          · rw [if_neg (by rw [decide_eq_false g2]; exact Bool.false_ne_true), if_neg fun q => g2 q.2]
      · have g1' : ¬ ((i / b % (T / F) : Nat) : Int) = 0 := by omega
        refine ite_f (decide_eq_false g1') ?_
        repeat infer_instance
        refine ⟨_, dApp_L hat (by rw [V_len]; omega), hk.set hle7, ?_, _, _, _, _, rfl⟩
        rw [V_append (A := pcI f b T a F sp) (n := i)]
        · exact hat.set
        · exact (if_neg fun q => g1 q.1).symm
    · obtain ⟨hk, hat, x8, x11, x12, x13, rfl⟩ := h2
      rw [rngItems_len] at hat
      have hat : At s' r7 (V (b * T) (pcI f b T a F sp)) := hat
      repeat infer_instance
      exact ⟨by simp [D.noref, D.norefs, norefs_V], hk, fun s3 hk3 => h a F sp s3 ham hFm hsp3 hk3⟩
end
end Mir
/-! ## PQ -/
set_option maxHeartbeats 200000
set_option Elab.async false
set_option linter.all false
set_option maxRecDepth 100000
/-! The plain law: the law's sets. -/
namespace Mir
open PySem PySem.Spec PyProof.Rows L2
local macro_rules | `(tactic| infer_instance) => `(tactic| first
  | with_reducible apply W_sSeq | with_reducible apply W_sSet | with_reducible apply SK_nx | with_reducible apply SK_rt | ((with_reducible apply Y_eVar); rfl) | with_reducible apply W_eC | with_reducible apply W_aCons | with_reducible apply W_aNil | with_reducible apply W_e2 | with_reducible apply W_e1 | with_reducible apply W_eCB
  | ((with_reducible apply Y_mulN); omega) | ((with_reducible apply Y_divN); omega) | ((with_reducible apply Y_modN); omega) | with_reducible apply W_addN | ((with_reducible apply Y_ret); rfl) | ((with_reducible apply Y_mulI); omega) | ((with_reducible apply Y_divI); omega) | ((with_reducible apply Y_modI); omega)
  | with_reducible apply W_tOf | with_reducible apply W_tNot | with_reducible apply W_tAnd | with_reducible apply W_tOr | with_reducible apply W_tYes | with_reducible apply W_eAnd | with_reducible apply W_eOr | with_reducible apply W_eNot | with_reducible apply W_eIf | with_reducible apply W_eIx | with_reducible apply W_eTup | with_reducible apply W_eLst
  | with_reducible apply W_sIf | with_reducible apply W_sRet | with_reducible apply W_sDrop | with_reducible apply W_sNil | with_reducible apply W_sAsg | with_reducible apply W_sPar | with_reducible apply W_sAugIx | with_reducible apply W_sFor | with_reducible apply W_gtName | ((with_reducible apply Y_gtTup); rfl) | with_reducible apply W_gtCons | with_reducible apply W_gtNil | with_reducible apply W_gtSub
  | with_reducible apply W_iTup | with_reducible apply W_iRng1 | with_reducible apply W_iRng2 | with_reducible apply W_iEnum | with_reducible apply W_iLst | with_reducible apply W_eApp
  | (with_reducible apply Y_lenV) | ((with_reducible apply Y_lenT); rfl) | ((with_reducible apply ite_t); exact rfl) | ((with_reducible apply ite_f); exact rfl) | ((with_reducible apply ite_t); exact decide_eq_true (by omega)) | ((with_reducible apply ite_f); exact decide_eq_false (by omega)) | ((with_reducible apply ite_t); exact not_t (decide_eq_false (by omega))) | ((with_reducible apply ite_f); exact not_f (decide_eq_true (by omega)))
   | ((with_reducible apply Y_ixLV); (first | assumption | rfl); (first | assumption | omega)) | ((with_reducible apply Y_ixTV); (first | assumption | omega)) | ((with_reducible apply Y_ixTV0); (first | assumption | omega)) | ((with_reducible apply Y_ixLV0); (first | assumption | rfl); (first | assumption | omega)) | with_reducible apply Y_int | ((with_reducible apply Y_sumL); (first | assumption | rfl)) | with_reducible apply Y_intB | ((with_reducible apply W_tupL); (first | assumption | rfl)) | ((with_reducible apply Y_lenLV); (first | assumption | rfl)) | with_reducible refine ⟨_, rfl, ?_⟩ | exact rfl | refine ⟨(Nat.le_of_ble_eq_true rfl : List.length _ ≤ 1000), ?_⟩)
theorem Y_sumT {s : MS} {Q : D → MS → Prop} {n : Nat} {A : Nat → Int} (h : Q (.int (S n A)) s) : W (fSum [.tup (V n A)] s) Q := by
  refine W_eq (a := .int (S n A)) (s := s) ?_ h
  show (match asInts (V n A) with | some is => some (D.int is.sum, s) | none => none) = _
  rw [V_ints]
  rfl
theorem W_sorted {s : MS} {Q : D → MS → Prop} {xs : List D} {r : Nat} (hr : At s r xs) (hl : xs.length < 64) (hk : ∀ d ∈ xs, (pairKey d).isSome = true) (h : ∀ r' s', New s s' r' (sortD xs) → Q (.ref r') s') : W (fSorted [.ref r] s) Q := by
  refine W_eq (a := .ref s.st.length) (s := s.add (sortD xs)) ?_ (h _ _ .of)
  show (match s.st[r]? with | some xs => if xs.length < 64 ∧ xs.all (fun d => (pairKey d).isSome) = true then some (D.ref s.st.length, s.add (sortD xs)) else none | none => none) = _
  rw [hr]
  dsimp only
  rw [if_pos ⟨hl, List.all_eq_true.mpr hk⟩]
/-- noughts and ones -/
def Bin (n : Nat) (A : Nat → Int) : Prop := ∀ i, i < n → A i = 0 ∨ A i = 1
theorem Bin.ind {n : Nat} {A : Nat → Int} (h : Bin n A) : V n A = V n (ind fun i => decide (A i = 1)) := V_ext fun i hi => by
  unfold Mir.ind
  rcases h i hi with e | e
  · rw [e, if_neg (by simp [e])]
  · rw [e, if_pos (by simp [e])]
theorem S_nonneg {n : Nat} {A : Nat → Int} (h : ∀ i, i < n → 0 ≤ A i) : 0 ≤ S n A := by
  induction n with
  | zero => exact Int.le_refl _
  | succ n ih =>
    rw [S_succ]
    have h1 := ih fun i hi => h i (by omega)
    have h2 := h n (by omega)
    omega
theorem S_pos {n : Nat} {A : Nat → Int} (h : ∀ i, i < n → 0 ≤ A i) {k : Nat} (hk : k < n) (h1 : 0 < A k) : 0 < S n A := by
  induction n with
  | zero => omega
  | succ n ih =>
    rw [S_succ]
    have h2 := S_nonneg fun i (hi : i < n) => h i (by omega)
    have h3 := h n (by omega)
    by_cases e : k = n
    · subst e; omega
    · have := ih (fun i hi => h i (by omega)) (by omega)
      omega
theorem Bin.some {n : Nat} {A : Nat → Int} (h : Bin n A) (hs : S n A ≠ 0) : ∃ k, k < n ∧ decide (A k = 1) = true := by
  by_cases hc : ∃ k, k < n ∧ decide (A k = 1) = true
  · exact hc
  · exfalso
    apply hs
    rw [S_congr (g := fun _ => 0) fun i hi => ?_, S_const0]
    rcases h i hi with e | e
    · exact e
    · exact absurd ⟨i, hi, decide_eq_true e⟩ hc
def setD (b n : Nat) (p : Nat → Bool) : D := .tup [.tup (mvs b n p), .tup (V n (ind p))]
def tailS : SM := (sSeq (sIf (tOf (e2 dEq (eCB fSum (aCons (eVar 5) aNil)) (eC (.int 0)))) (sAsg (eC (.int 1)) (gtSub (eVar 5) (eCB F_L_next (aCons (eVar 1) (aCons (eVar 2) aNil))))) sNil)
    (sSeq (sSet 6 (eCB fSorted (aCons (eComp [7] (iRng1M (aCons (eVar 2) aNil)) (gtName 7) (tOf (e2 dEq (eIx (eVar 5) (eVar 7)) (eC (.int 1)))) (eTup (aCons (e2 dMod (eCB fInt (aCons (eVar 7) aNil)) (eVar 3)) (aCons (e2 dDiv (eVar 7) (eVar 3)) aNil)))) aNil)))
    (sRet (eTup (aCons (eCB fTuple (aCons (eVar 6) aNil)) (aCons (eCB fTuple (aCons (eVar 5) aNil)) aNil))))))
section
variable {clk wd : D} {b T : Nat} {f : Nat → Nat} {e : Nat} {part small' : D} {kb c : Nat} {f' : Nat → Nat} {m' : Nat → Nat → Nat} {inv : Nat → Nat} (C : CL clk b T f e part small' kb c f' (phiF b kb) m' inv)
include C
theorem w_tailS {s0 s : MS} (hk : Kp s0 s) (hseat : s.seat.isSome = true) {r : Nat} {A : Nat → Int} (hr : At s r (V (b * T) A)) (hle : s0.st.length ≤ r) (hA : Bin (b * T) A) {x0 x4 x6 x7 : Option D} {Q : D → MS → Prop}
    (h : ∀ p s', (∃ k, k < b * T ∧ p k = true) → Kp s0 s' → Q (setD b (b * T) p) s') :
    W (tailS [x0, some .seat, some (.int (b * T : Nat)), some (.int b), x4, some (.ref r), x6, x7] s) fun o s1 => match o with
      | .nx _ => Q .non s1
      | .rt d => Q d s1 := by
  have K := C.toCK
  have hn := K.hn
  have hb := K.hb
  have h60 := K.b60
  have h0 := K.npos
  have rest : ∀ {x6 x7 : Option D} (s' : MS) (A' : Nat → Int), Kp s0 s' → At s' r (V (b * T) A') → Bin (b * T) A' → (∃ k, k < b * T ∧ decide (A' k = 1) = true) →
      W ((sSeq (sSet 6 (eCB fSorted (aCons (eComp [7] (iRng1M (aCons (eVar 2) aNil)) (gtName 7) (tOf (e2 dEq (eIx (eVar 5) (eVar 7)) (eC (.int 1)))) (eTup (aCons (e2 dMod (eCB fInt (aCons (eVar 7) aNil)) (eVar 3)) (aCons (e2 dDiv (eVar 7) (eVar 3)) aNil)))) aNil)))
    (sRet (eTup (aCons (eCB fTuple (aCons (eVar 6) aNil)) (aCons (eCB fTuple (aCons (eVar 5) aNil)) aNil))))) [x0, some .seat, some (.int (b * T : Nat)), some (.int b), x4, some (.ref r), x6, x7] s') (fun o s1 => match o with
      | .nx _ => Q .non s1
      | .rt d => Q d s1) := by
    intro x6 x7 s' A' hk' hat hA' hex
    repeat infer_instance
    refine W_eComp ?_
    repeat infer_instance
    refine ⟨by omega, by rw [rngItems_len]; omega, ?_⟩
    refine W_compF (b * T) (fun i => decide (A' i = 1)) (mvD b) (by rw [rngItems_len]; rfl) rfl (fun i d hi e => ?_) ?_
    · obtain ⟨_, rfl⟩ := rng_at0 e
      repeat infer_instance
      refine ⟨rfl, rfl, fun _ => ?_⟩
      repeat infer_instance
      exact ⟨rfl, rfl⟩
    have hnew : New s' (s'.add (((List.range (b * T)).filter fun i => decide (A' i = 1)).map (mvD b))) s'.st.length (((List.range (b * T)).filter fun i => decide (A' i = 1)).map (mvD b)) := .of
    generalize s'.add (((List.range (b * T)).filter fun i => decide (A' i = 1)).map (mvD b)) = s2 at hnew ⊢
    generalize s'.st.length = r2 at hnew ⊢
    repeat infer_instance
    refine W_sorted hnew.new ?_ (fun d hd => ?_) fun r3 s3 hnew3 => ?_
    · rw [List.length_map]
      have := List.length_filter_le (fun i => decide (A' i = 1)) (List.range (b * T))
      rw [List.length_range] at this
      omega
    · obtain ⟨k, hk, rfl⟩ := List.mem_map.mp hd
      rw [mvD_key C (List.mem_range.mp (List.mem_filter.mp hk).1)]
      rfl
    have at3 := hnew3.at_ _ _ (hnew.at_ _ _ hat)
    have at3m := hnew3.new
    repeat infer_instance
    rw [hA'.ind]
    exact h (fun i => decide (A' i = 1)) s3 hex ((hk'.trans hnew.toKp).trans hnew3.toKp)
  unfold tailS
  refine W_sSeq (W_mono (Q := fun o s' => ∃ A', o = .nx [x0, some .seat, some (.int (b * T : Nat)), some (.int b), x4, some (.ref r), x6, x7] ∧ Kp s0 s' ∧ At s' r (V (b * T) A') ∧ Bin (b * T) A' ∧ ∃ k, k < b * T ∧ decide (A' k = 1) = true) ?_ fun o s' ⟨A', ho, h1, h2, h3, h4⟩ => by rw [ho]; exact rest s' A' h1 h2 h3 h4)
  by_cases hs : S (b * T) A = 0
  · repeat infer_instance
    refine W_next (m := b * T) hseat h0 (by omega) fun v z hv => ?_
    have hr2 : At { s with seat := some z } r (V (b * T) A) := hr
    refine ⟨_, dSet_L hr2 (by rw [V_len]; exact hv), ?_⟩
    rw [V_set]
    refine ⟨_, rfl, hk.sit.set hle, hr2.set, fun i hi => ?_, v, hv, ?_⟩
    · show (if v = i then (1 : Int) else A i) = 0 ∨ (if v = i then (1 : Int) else A i) = 1
      split
      · exact .inr rfl
      · exact hA i hi
    · exact decide_eq_true (if_pos rfl)
  · repeat infer_instance
    exact ⟨A, rfl, hk, hr, hA, hA.some hs⟩
variable {un ed : Nat → Nat} {dvT dvB : List Nat} {rows : List (Nat × Nat)} (X : CW clk b T kb c un ed dvT) (Y : CP clk b T rows un dvB dvT)
include X Y
theorem w_set {s : MS} (wo : WO s wd clk b T f) (hseat : s.seat.isSome = true) {Q : D → MS → Prop}
    (h : ∀ p s3, (∃ k, k < b * T ∧ p k = true) → Kp s s3 → Q (setD b (b * T) p) s3) : W (callF F_L_set [wd, .seat] s) Q := by
  have K := C.toCK
  have hn := K.hn
  have hb := K.hb
  have hT := K.hT
  have h60 := K.b60
  have h0 := K.npos
  have C0 := C
  have X0 := X
  have Y0 := Y
  have K0 := K
  have wo0 := wo
  obtain ⟨mv, rfl⟩ := K.ck
  obtain ⟨t, fa, pc, row, rfl, ht, hrow, hfa⟩ := wo.ex
  have hlen : ((List.range (b * T)).map fun k => D.ref (row k)).length = b * T := by simp
  have fin : ∀ {x0 x4 x6 x7 : Option D} (s' : MS) (r : Nat) (A : Nat → Int), Kp s s' → At s' r (V (b * T) A) → s.st.length ≤ r → Bin (b * T) A → W (tailS [x0, some .seat, some (.int (b * T : Nat)), some (.int b), x4, some (.ref r), x6, x7] s') fun o s1 => match o with
      | .nx _ => D.non.noref = true ∧ Kp s s1 ∧ ∀ s3, Kp s s3 → Q .non s3
      | .rt d => d.noref = true ∧ Kp s s1 ∧ ∀ s3, Kp s s3 → Q d s3 := fun s' r A hk hat hle hA =>
    w_tailS C0 hk (hk.seat hseat) hat hle hA (Q := fun d s1 => d.noref = true ∧ Kp s s1 ∧ ∀ s3, Kp s s3 → Q d s3) fun p s'' hex hk2 => ⟨by simp [setD, D.noref, D.norefs, norefs_mvs C0, norefs_V], hk2, fun s3 hk3 => h p s3 hex hk3⟩
  refine W_callFd (W_def ?_)
  unfold b_L_set
  repeat infer_instance
  refine W_lenL ht ?_ hlen
  repeat infer_instance
  refine W_next (m := 4) hseat (by omega) (by omega) fun way z hway => ?_
  repeat infer_instance
  refine W_eCompR (b * T) (fun _ v => v = 0 ∨ v = 1) (by omega) rfl ?_ fun A r1 s1 hA hnew1 => ?_
  · repeat infer_instance
    refine ⟨by omega, ?_⟩
    refine ⟨rfl, by rw [rngItems_len]; rfl, rfl, fun i d z hi e => ?_⟩
    obtain ⟨_, rfl⟩ := rng_at0 e
    repeat infer_instance
    refine ⟨rfl, rfl, ?_⟩
    repeat infer_instance
    refine W_next (m := 2) rfl (by omega) (by omega) fun v z' hv => ?_
    by_cases hv0 : v = 0
    · repeat infer_instance
      exact ⟨_, z', rfl, .inr rfl, rfl⟩
    · repeat infer_instance
      refine ⟨_, z', rfl, ?_, rfl⟩
      split
      · exact .inr rfl
      · exact .inl rfl
  have kp1 : Kp s s1 := (Kp.refl s).sit.trans hnew1.toKp
  have seat1 := kp1.seat hseat
  have hle1 : s.st.length ≤ r1 := hnew1.le
  have at1 := hnew1.new
  refine SK_nx (W_sSeq (W_mono (Q := (fun o s' => ∃ r A, o = .nx [some (.tup [.tup [.int b, mv], .ref t, .ref fa, pc]), some .seat, some (.int (b * T : Nat)), some (.int b), some (.int way), some (.ref r), none, none] ∧ Kp s s' ∧ At s' r (V (b * T) A) ∧ s.st.length ≤ r ∧ Bin (b * T) A)) ?_ fun o s' ⟨r, A, ho, h1, h2, h3, h4⟩ => ?_))
  · by_cases hw : way = 1
    · repeat infer_instance
      refine W_eCompR (b * T) (fun _ v => v = 0 ∨ v = 1) (by omega) seat1 ?_ fun A2 r2 s2 hA2 hnew2 => ?_
      · repeat infer_instance
        refine ⟨by omega, ?_⟩
        refine ⟨rfl, by rw [rngItems_len]; rfl, rfl, fun i d z hi e => ?_⟩
        obtain ⟨_, rfl⟩ := rng_at0 e
        repeat infer_instance
        refine ⟨rfl, rfl, ?_⟩
        repeat infer_instance
        refine W_next (m := 3) rfl (by omega) (by omega) fun v z' hv => ?_
        repeat infer_instance
        refine ⟨_, z', rfl, ?_, rfl⟩
        split
        · exact .inr rfl
        · exact .inl rfl
      exact ⟨r2, A2, rfl, kp1.trans hnew2.toKp, hnew2.new, Nat.le_trans kp1.len hnew2.le, hA2⟩
    · repeat infer_instance
      exact ⟨r1, A, rfl, kp1, at1, hle1, hA⟩
  · subst ho
    refine SK_nx (W_sSeq (W_mono (Q := (fun o s' => ∃ r A, o = .nx [some (.tup [.tup [.int b, mv], .ref t, .ref fa, pc]), some .seat, some (.int (b * T : Nat)), some (.int b), some (.int way), some (.ref r), none, none] ∧ Kp s s' ∧ At s' r (V (b * T) A) ∧ s.st.length ≤ r ∧ Bin (b * T) A)) ?_ fun o s' ⟨r, A, ho, h1, h2, h3, h4⟩ => ?_))
    · by_cases hw : way = 2
      · repeat infer_instance
        refine w_part C0 X0 Y0 (wo0.kp h1) (h1.seat hseat) fun a F sp s2 ha hF hsp kp2 => ?_
        repeat infer_instance
        refine W_eq (a := .ref s2.st.length) (s := s2.add (V (b * T) (pcI f b T a F sp))) rfl ?_
        have hnew3 : New s2 (s2.add (V (b * T) (pcI f b T a F sp))) s2.st.length (V (b * T) (pcI f b T a F sp)) := .of
        refine ⟨_, pcI f b T a F sp, rfl, (h1.trans kp2).trans hnew3.toKp, hnew3.new, Nat.le_trans (h1.trans kp2).len hnew3.le, fun i _ => ?_⟩
        unfold pcI
        split
        · exact .inr rfl
        · exact .inl rfl
      · repeat infer_instance
        exact ⟨r, A, rfl, h1, h2, h3, h4⟩
    · subst ho
      exact fin s' r A h1 h2 h3 h4
end
end Mir
/-! ## PR -/
set_option maxHeartbeats 200000
set_option Elab.async false
set_option linter.all false
set_option maxRecDepth 100000
/-! The plain law: the way of sets. -/
namespace Mir
open PySem PySem.Spec PyProof.Rows L2
local macro_rules | `(tactic| infer_instance) => `(tactic| first
  | with_reducible apply W_sSeq | with_reducible apply W_sSet | with_reducible apply SK_nx | with_reducible apply SK_rt | ((with_reducible apply Y_eVar); rfl) | with_reducible apply W_eC | with_reducible apply W_aCons | with_reducible apply W_aNil | with_reducible apply W_e2 | with_reducible apply W_e1 | with_reducible apply W_eCB
  | ((with_reducible apply Y_mulN); omega) | ((with_reducible apply Y_divN); omega) | ((with_reducible apply Y_modN); omega) | with_reducible apply W_addN | ((with_reducible apply Y_ret); rfl) | ((with_reducible apply Y_mulI); omega) | ((with_reducible apply Y_divI); omega) | ((with_reducible apply Y_modI); omega)
  | with_reducible apply W_tOf | with_reducible apply W_tNot | with_reducible apply W_tAnd | with_reducible apply W_tOr | with_reducible apply W_tYes | with_reducible apply W_eAnd | with_reducible apply W_eOr | with_reducible apply W_eNot | with_reducible apply W_eIf | with_reducible apply W_eIx | with_reducible apply W_eTup | with_reducible apply W_eLst
  | with_reducible apply W_sIf | with_reducible apply W_sRet | with_reducible apply W_sDrop | with_reducible apply W_sNil | with_reducible apply W_sAsg | with_reducible apply W_sPar | with_reducible apply W_sAugIx | with_reducible apply W_sFor | with_reducible apply W_gtName | ((with_reducible apply Y_gtTup); rfl) | with_reducible apply W_gtCons | with_reducible apply W_gtNil | with_reducible apply W_gtSub
  | with_reducible apply W_iTup | with_reducible apply W_iRng1 | with_reducible apply W_iRng2 | with_reducible apply W_iEnum | with_reducible apply W_iLst | with_reducible apply W_eApp
  | (with_reducible apply Y_lenV) | ((with_reducible apply Y_lenT); rfl) | ((with_reducible apply ite_t); exact rfl) | ((with_reducible apply ite_f); exact rfl) | ((with_reducible apply ite_t); exact decide_eq_true (by omega)) | ((with_reducible apply ite_f); exact decide_eq_false (by omega)) | ((with_reducible apply ite_t); exact not_t (decide_eq_false (by omega))) | ((with_reducible apply ite_f); exact not_f (decide_eq_true (by omega)))
   | ((with_reducible apply Y_ixLV); (first | assumption | rfl); (first | assumption | omega)) | ((with_reducible apply Y_ixTV); (first | assumption | omega)) | ((with_reducible apply Y_ixTV0); (first | assumption | omega)) | ((with_reducible apply Y_ixLV0); (first | assumption | rfl); (first | assumption | omega)) | with_reducible apply Y_int | with_reducible apply Y_sumT | ((with_reducible apply Y_sumL); (first | assumption | rfl)) | with_reducible apply Y_intB | ((with_reducible apply W_tupL); (first | assumption | rfl)) | ((with_reducible apply Y_lenLV); (first | assumption | rfl)) | with_reducible refine ⟨_, rfl, ?_⟩ | exact rfl | refine ⟨(Nat.le_of_ble_eq_true rfl : List.length _ ≤ 1000), ?_⟩)
theorem dNeD_dl {n : Nat} {A : Nat → Int} : dNeD (dl n A) (dl n A) = some (.bl false) := by
  show (match asInts (V n A), asInts (V n A) with | some is, some js => if (1 : Int) = 1 ∧ is = js then some (D.bl false) else none | _, _ => none) = _
  rw [V_ints]
  exact if_pos ⟨rfl, rfl⟩
theorem ind_small {n : Nat} {p : Nat → Bool} : small n (ind p) := fun i _ => by
  unfold ind
  split <;> decide
theorem ind_nonneg (p : Nat → Bool) (i : Nat) : 0 ≤ ind p i := by
  unfold ind
  split <;> decide
theorem ind_le (p : Nat → Bool) (i : Nat) : ind p i ≤ 1 := by
  unfold ind
  split <;> decide
theorem S_ind {n : Nat} {p : Nat → Bool} : S n (ind p) = ((List.range n).filter p).length := by
  induction n with
  | zero => rfl
  | succ n ih =>
    rw [S_succ, ih, List.range_succ, List.filter_append, List.length_append]
    unfold ind
    rw [List.filter_cons]
    split <;> simp
theorem S_le {n : Nat} {A : Nat → Int} (h : ∀ i, i < n → A i ≤ 1) : S n A ≤ n := by
  induction n with
  | zero => exact Int.le_refl _
  | succ n ih =>
    rw [S_succ]
    have h1 := ih fun i hi => h i (by omega)
    have h2 := h n (by omega)
    omega
theorem S_full {n : Nat} {A : Nat → Int} (h : ∀ i, i < n → A i ≤ 1) (e : S n A = n) : ∀ i, i < n → A i = 1 := by
  induction n with
  | zero => intro i hi; omega
  | succ n ih =>
    rw [S_succ] at e
    have h1 := S_le fun i (hi : i < n) => h i (by omega)
    have h2 := h n (by omega)
    intro i hi
    by_cases hin : i = n
    · subst hin; omega
    · exact ih (fun j hj => h j (by omega)) (by omega) i (by omega)
/-- noughts and ones: full, or no power is level -/
theorem ones_aft {n : Nat} {m : Nat → Nat → Nat} (M : Mon n m) (hs : sqf n = true) {p : Nat → Bool} (hex : ∃ k, k < n ∧ p k = true) {e : Nat} (he1 : 1 ≤ e) (he : e ≤ 6) :
    Aft (fun k => evn n (rowp n m (fun _ => ind p) k)) e (if S n (ind p) = n then .int 1 else .non) := by
  obtain ⟨k0, hk0, hp0⟩ := hex
  have hpos : 0 < S n (ind p) := S_pos (fun i _ => ind_nonneg p i) hk0 (by unfold ind; rw [if_pos hp0]; decide)
  have hle : S n (ind p) ≤ n := S_le fun i _ => ind_le p i
  by_cases hf : S n (ind p) = n
  · rw [if_pos hf]
    refine .inl ⟨0, by omega, ?_, fun j hj => by omega, rfl⟩
    have h1 := S_full (fun i _ => ind_le p i) hf
    rw [evn_iff]
    intro i hi
    show ind p i = ind p 0
    rw [h1 i hi, h1 0 M.pos]
  · rw [if_neg hf]
    refine .inr ⟨fun j hj => ?_, rfl⟩
    cases hev : evn n (rowp n m (fun _ => ind p) j) with
    | false => exact hev
    | true =>
      exfalso
      have h1 := (evn_iff.mp hev).total
      rw [total_pow M.lt] at h1
      have h2 := sqf_dvd M.pos hs (by omega) h1
      have h3 : S n (ind p) % (n : Int) = S n (ind p) := Int.emod_eq_of_lt (by omega) (by omega)
      omega
def cur (n : Nat) (m : Nat → Nat → Nat) (E : Nat → Nat → Int) : Nat → Nat → Int
  | 0 => kron0
  | i + 1 => rowp n m E i
def szf (n : Nat) (m : Nat → Nat → Nat) (E : Nat → Nat → Int) : Nat → Int
  | 0 => 1
  | i + 1 => S n (rowp n m E i)
theorem cur_next {n : Nat} {m : Nat → Nat → Nat} (M : Mon n m) {E : Nat → Nat → Int} : ∀ i, Eqv n (cv n m (cur n m E i) (E i)) (rowp n m E i)
  | 0 => cv_idl M
  | i + 1 => .refl _
theorem S_delta {n : Nat} (h : 0 < n) : S n kron0 = 1 := by
  rw [S_congr (g := fun y => if 0 = y then 1 else 0) fun y _ => kron0_eq y]
  exact S_at h fun _ => (1 : Int)
theorem szf_next {n : Nat} {m : Nat → Nat → Nat} (M : Mon n m) {E : Nat → Nat → Int} : ∀ i, szf n m E i * S n (E i) = szf n m E (i + 1)
  | 0 => by show 1 * S n (E 0) = S n (E 0); rw [Int.one_mul]
  | i + 1 => (total_rowp M.lt i).symm
section
variable {clk wd : D} {b T : Nat} {f : Nat → Nat} {e : Nat} {part small' : D} {kb c : Nat} {f' : Nat → Nat} {m' : Nat → Nat → Nat} {inv : Nat → Nat} (C : CL clk b T f e part small' kb c f' (phiF b kb) m' inv)
variable {un ed : Nat → Nat} {dvT dvB : List Nat} {rows : List (Nat × Nat)} (X : CW clk b T kb c un ed dvT) (Y : CP clk b T rows un dvB dvT)
include C X Y
theorem w_of_sets {s : MS} (wo : WO s wd clk b T f) (hseat : s.seat.isSome = true) {Q : D → MS → Prop} (h : ∀ s', Q (.bl true) s') : W (callF F_L_of_sets [wd, .seat] s) Q := by
  have K := C.toCK
  have hn := K.hn
  have hb := K.hb
  have hT := K.hT
  have h60 := K.b60
  have h0 := K.npos
  have he1 := C.e1
  have he6 := C.e6
  have C0 := C
  have X0 := X
  have Y0 := Y
  have K0 := K
  have wo0 := wo
  have M := K.mon
  obtain ⟨mv, rfl⟩ := K.ck
  obtain ⟨t, fa, pc, row, rfl, ht, hrow, hfa⟩ := wo.ex
  have hlen : ((List.range (b * T)).map fun k => D.ref (row k)).length = b * T := by simp
  refine W_callFd (W_def ?_)
  unfold b_L_of_sets
  repeat infer_instance
  refine W_eComp ?_
  repeat infer_instance
  refine W_next (m := 4) hseat (by omega) (by omega) fun v z hv => ?_
  repeat infer_instance
  refine ⟨by show ((1 : Int) + v).natAbs ≤ _; omega, ?_⟩
  have hm : ((1 : Int) + v).toNat = v + 1 := by omega
  refine ⟨by show (rngItems 0 ((1 : Int) + v).toNat).length < _; rw [rngItems_len]; omega, ?_⟩
  refine W_compL (fun i acc s' => ∃ P : Nat → Nat → Bool, acc = (List.range i).map (fun j => setD b (b * T) (P j)) ∧ (∀ j, j < i → ∃ k, k < b * T ∧ P j k = true) ∧ Kp s s') ⟨fun _ _ => false, rfl, fun j hj => by omega, (Kp.refl s).sit⟩ (fun _ _ _ _ => rfl) (fun i d acc s' e h2 => ?_) (fun acc s' h2 => ?_)
  · obtain ⟨P, rfl, hP, hk⟩ := h2
    obtain ⟨_, rfl⟩ := rng_at0 e
    repeat infer_instance
    refine w_set C0 X0 Y0 (wo0.kp hk) (hk.seat hseat) fun p s3 hex hk3 => ?_
    refine ⟨fun j => if j = i then p else P j, ?_, fun j hj => ?_, hk.trans hk3⟩
    · rw [List.range_succ, List.map_append]
      congr 1
      · refine List.map_congr_left fun j hj => ?_
        show setD b (b * T) (P j) = setD b (b * T) (if j = i then p else P j)
        rw [if_neg (by have := List.mem_range.mp hj; omega)]
      · show _ = [setD b (b * T) (if i = i then p else P i)]
        rw [if_pos rfl]
    · show ∃ k, k < b * T ∧ (if j = i then p else P j) k = true
      by_cases hji : j = i
      · rw [if_pos hji]; exact hex
      · rw [if_neg hji]; exact hP j (by omega)
  obtain ⟨P, rfl, hP, hk⟩ := h2
  have hl : (rngItems 0 ((1 : Int) + v).toNat).length = v + 1 := by rw [rngItems_len, hm]
  have hP : ∀ j, j < v + 1 → ∃ k, k < b * T ∧ P j k = true := fun j hj => hP j (by show j < (rngItems 0 ((1 : Int) + v).toNat).length; omega)
  have hnew0 : New s' (s'.add ((List.range (v + 1)).map fun j => setD b (b * T) (P j))) s'.st.length ((List.range (v + 1)).map fun j => setD b (b * T) (P j)) := .of
  show SK _ _ _ (s'.add ((List.range (rngItems 0 ((1 : Int) + v).toNat).length).map fun j => setD b (b * T) (P j)))
  rw [hl]
  generalize s'.add ((List.range (v + 1)).map fun j => setD b (b * T) (P j)) = s1 at hnew0 ⊢
  generalize s'.st.length = rs at hnew0 ⊢
  have kp1 := hk.trans hnew0.toKp
  have at1 := hnew0.new
  have hget : ∀ j, j < v + 1 → ((List.range (v + 1)).map fun j => setD b (b * T) (P j))[j]? = some (setD b (b * T) (P j)) := fun j hj => by
    rw [List.getElem?_map, List.getElem?_range hj]; rfl
  have hlS : ((List.range (v + 1)).map fun j => setD b (b * T) (P j)).length = v + 1 := by simp
  have aft1 := ones_aft M C0.sq (hP 0 (by omega)) he1 he6
  refine SK_nx (W_sSeq (W_sSet (W_eC (SK_nx (W_sSeq (W_mono (Q := fun o s' => o = .nx [some (.tup [.tup [.int b, mv], .ref t, .ref fa, pc]), some .seat, some (.tup [.int b, mv]), some (.ref rs), some (if S (b * T) (ind (P 0)) = (b * T : Nat) then .int 1 else .non), none, none, none, none, none, none] ∧ s' = s1) ?_ fun o s' ⟨ho, hs'⟩ => ?_))))))
  · repeat infer_instance
    refine W_ixL (i := 0) at1 ?_ (hget 0 (by omega))
    repeat infer_instance
    refine W_lenL (kp1.at_ _ _ ht) ?_ hlen
    by_cases hf : S (b * T) (ind (P 0)) = (b * T : Nat)
    · rw [if_pos hf]
      repeat infer_instance
      exact ⟨rfl, rfl⟩
    · rw [if_neg hf]
      repeat infer_instance
      exact ⟨rfl, rfl⟩
  subst ho
  subst hs'
  generalize hd1 : ((if S (b * T) (ind (P 0)) = (b * T : Nat) then .int 1 else .non) : D) = d1 at aft1 ⊢
  repeat infer_instance
  refine W_eCompV (b * T) (fun i => if decide ((i : Int) = 0) then 1 else 0) (by omega) ?_ fun r2 s2 hnew2 => ?_
  · repeat infer_instance
    refine W_lenL (kp1.at_ _ _ ht) ?_ hlen
    repeat infer_instance
    refine ⟨by omega, ?_⟩
    refine ⟨rfl, by rw [rngItems_len]; rfl, rfl, fun i d hi e => ?_⟩
    obtain ⟨_, rfl⟩ := rng_at0 e
    repeat infer_instance
    refine ⟨rfl, rfl, ?_⟩
    repeat infer_instance
    exact ⟨rfl, rfl⟩
  have kp2 := kp1.trans hnew2.toKp
  have at2 := hnew2.at_ _ _ at1
  have at2p : At s2 r2 (V (b * T) (cur (b * T) (gm b T f) (fun j => ind (P j)) 0)) := by
    have e0 := hnew2.new
    rw [show (V (b * T) fun i => if decide ((i : Int) = 0) then (1 : Int) else 0) = V (b * T) (cur (b * T) (gm b T f) (fun j => ind (P j)) 0) from V_ext fun i _ => by
      show _ = kron0 i
      unfold kron0
      by_cases hi : i = 0
      · rw [if_pos (decide_eq_true (by omega)), if_pos hi]
      · rw [if_neg (by rw [decide_eq_false (by omega)]; exact Bool.false_ne_true), if_neg hi]] at e0
    exact e0
  repeat infer_instance
  refine W_lenL at2 ?_ hlS
  repeat infer_instance
  refine ⟨by omega, ?_⟩
  let p : Nat → Bool := fun k => evn (b * T) (rowp (b * T) (gm b T f) (fun j => ind (P j)) k)
  refine W_forL (fun i env s' => ∃ d r x8 sz, env = [some (.tup [.tup [.int b, mv], .ref t, .ref fa, pc]), some .seat, some (.tup [.int b, mv]), some (.ref rs), some d1, some (.int sz), some d, some (.ref r), x8, none, none] ∧ Kp s s' ∧ At s' rs ((List.range (v + 1)).map fun j => setD b (b * T) (P j)) ∧
      ((∃ k, k < i ∧ p k = true ∧ (∀ j, j < k → p j = false) ∧ d = .int (k + 1 : Nat) ∧ sz = szf (b * T) (gm b T f) (fun j => ind (P j)) (k + 1)) ∨ ((∀ j, j < i → p j = false) ∧ d = .non ∧ sz = szf (b * T) (gm b T f) (fun j => ind (P j)) i ∧ At s' r (V (b * T) (cur (b * T) (gm b T f) (fun j => ind (P j)) i)))))
    ⟨_, _, _, _, rfl, kp2, at2, .inr ⟨fun j hj => by omega, rfl, rfl, at2p⟩⟩ (fun _ _ _ _ => rfl) (fun i d env s' e h2 => ?_) (fun env s' h2 => ?_)
  · obtain ⟨d, r, x8, sz, rfl, hk, hat, h2⟩ := h2
    obtain ⟨hi, rfl⟩ := rng_at0 e
    have hi : i < v + 1 := hi
    rcases h2 with ⟨k, k1, k2, k3, rfl, rfl⟩ | ⟨k1, rfl, rfl, hr⟩
    · repeat infer_instance
      exact ⟨_, _, _, _, rfl, hk, hat, .inl ⟨k, by omega, k2, k3, rfl, rfl⟩⟩
    · have hml : (mvs b (b * T) (P i)).length ≤ 60 := by
        rw [mvs_len C0]
        have := List.length_filter_le (P i) (List.range (b * T))
        rw [List.length_range] at this
        omega
      repeat infer_instance
      refine W_ixL hat ?_ (hget i hi)
      repeat infer_instance
      refine w_times K0 (wo0.kp hk) (.inl ⟨_, rfl, hr⟩) (.inr rfl) (.inr ind_small) fun r3 s3 hnew3 => ?_
      have hat3 := hnew3.at_ _ _ hat
      have hr3 := hnew3.new
      rw [V_eqv (cur_next M i)] at hr3
      repeat infer_instance
      refine W_ixL hat3 ?_ (hget i hi)
      repeat infer_instance
      refine w_level h0 (by omega) hr3 fun s4 hk4 => ?_
      have esz : szf (b * T) (gm b T f) (fun j => ind (P j)) i * ((mvs b (b * T) (P i)).length : Int) = szf (b * T) (gm b T f) (fun j => ind (P j)) (i + 1) := by
        rw [← szf_next M i, mvs_len C0]
        show _ = _ * S (b * T) (ind (P i))
        rw [S_ind]
      have kp4 := (hk.trans hnew3.toKp).trans hk4
      cases hev : p i with
      | true =>
        have hev' : evn (b * T) (rowp (b * T) (gm b T f) (fun j => ind (P j)) i) = true := hev
        repeat infer_instance
        refine ite_t hev' ?_
        repeat infer_instance
        exact ⟨_, _, _, _, rfl, kp4, hk4.at_ _ _ hat3, .inl ⟨i, by omega, hev, k1, rfl, esz⟩⟩
      | false =>
        have hev' : evn (b * T) (rowp (b * T) (gm b T f) (fun j => ind (P j)) i) = false := hev
        repeat infer_instance
        refine ite_f hev' ?_
        repeat infer_instance
        refine ⟨_, _, _, _, rfl, kp4, hk4.at_ _ _ hat3, .inr ⟨fun j hj => ?_, rfl, esz, hk4.at_ _ _ hr3⟩⟩
        by_cases hji : j = i
        · rw [hji]; exact hev
        · exact k1 j (by omega)
  · obtain ⟨d, r, x8, sz, rfl, hk, hat, h2⟩ := h2
    have hlr : (rngItems 0 (((v + 1 : Nat) : Int)).toNat).length = v + 1 := by rw [rngItems_len]; rfl
    have hAft : Aft p (v + 1) d := by
      rcases h2 with ⟨k, k1, k2, k3, rfl, _⟩ | ⟨k1, rfl, _⟩
      · exact .inl ⟨k, by rw [← hlr]; exact k1, k2, k3, rfl⟩
      · exact .inr ⟨fun j hj => k1 j (by rw [← hlr] at hj; exact hj), rfl⟩
    obtain ⟨d', hea, hAft'⟩ := pu_even_after K0 C0.lastE (by omega) (ind (P 0)) ind_small
    cases aft1.uniq hAft'
    obtain ⟨d'', hro, hAft''⟩ := pu_row_after K0 (v + 1) (by omega) (by omega) (fun j => ind (P j)) fun j _ => ind_small
    cases hAft.uniq hAft''
    refine SK_nx (W_sSeq (W_mono (Q := fun o s'' => o = .nx [some (.tup [.tup [.int b, mv], .ref t, .ref fa, pc]), some .seat, some (.tup [.int b, mv]), some (.ref rs), some d1, some (.int sz), some d, some (.ref r), x8, none, none] ∧ s'' = s') ?_ fun o s'' ⟨ho, hs'⟩ => ?_))
    · rcases h2 with ⟨k, k1, k2, k3, rfl, rfl⟩ | ⟨k1, rfl, rfl, hr⟩
      · have hz : szf (b * T) (gm b T f) (fun j => ind (P j)) (k + 1) % ((b * T : Nat) : Int) = 0 := by
          show S (b * T) (rowp (b * T) (gm b T f) (fun j => ind (P j)) k) % _ = 0
          rw [(evn_iff.mp k2).total]
          exact Int.mul_emod_right _ _
        repeat infer_instance
        refine W_lenL (hk.at_ _ _ ht) ?_ hlen
        repeat infer_instance
        exact ⟨rfl, rfl⟩
      · repeat infer_instance
        exact ⟨rfl, rfl⟩
    subst ho
    subst hs'
    repeat infer_instance
    refine W_eComp ?_
    repeat infer_instance
    refine ⟨_, _, rfl, hat, by rw [hlS]; omega, ?_⟩
    refine W_compD (v + 1) (fun j => dl (b * T) (ind (P j))) hlS (gOk_of hat) (fun i d hi e => ?_) ?_
    · rw [hget i hi] at e
      cases e
      have hne : mvs b (b * T) (P i) ≠ [] := by
        obtain ⟨k, hk1, hk2⟩ := hP i hi
        exact List.ne_nil_of_mem ((mvs_mem C0).mpr ⟨k, hk1, hk2, rfl⟩)
      repeat infer_instance
      refine ⟨rfl, rfl, ?_⟩
      repeat infer_instance
      refine W_pu (pu_deal_on C0 (P i) hne) ⟨rfl, rfl⟩
    have hnew5 : New s'' (s''.add ((List.range (v + 1)).map fun j => dl (b * T) (ind (P j)))) s''.st.length ((List.range (v + 1)).map fun j => dl (b * T) (ind (P j))) := .of
    generalize s''.add ((List.range (v + 1)).map fun j => dl (b * T) (ind (P j))) = s5 at hnew5 ⊢
    generalize s''.st.length = r5 at hnew5 ⊢
    have at5 := hnew5.new
    have hat5 := hnew5.at_ _ _ hat
    have kp5 := hk.trans hnew5.toKp
    have hget5 : ((List.range (v + 1)).map fun j => dl (b * T) (ind (P j)))[0]? = some (dl (b * T) (ind (P 0))) := by
      rw [List.getElem?_map, List.getElem?_range (by omega)]; rfl
    repeat infer_instance
    refine W_ixL (i := 0) at5 ?_ hget5
    repeat infer_instance
    refine W_ixL (i := 0) hat5 ?_ (hget 0 (by omega))
    repeat infer_instance
    refine W_ret ?_ dNeD_dl
    repeat infer_instance
    refine W_ixL (i := 0) at5 ?_ hget5
    repeat infer_instance
    refine W_pu hea ?_
    repeat infer_instance
    refine W_pu (same_aft 4 aft1) ?_
    repeat infer_instance
    refine W_pu hro ?_
    repeat infer_instance
    refine W_pu (same_aft 4 hAft) ?_
    exact ⟨rfl, kp5, fun s3 _ => h s3⟩
end
end Mir
/-! ## PS -/
set_option maxHeartbeats 200000
set_option Elab.async false
set_option linter.all false
set_option maxRecDepth 100000
/-! The plain law: the way of parts. -/
namespace Mir
open PySem PySem.Spec PyProof.Rows L2
local macro_rules | `(tactic| infer_instance) => `(tactic| first
  | with_reducible apply W_sSeq | with_reducible apply W_sSet | with_reducible apply SK_nx | with_reducible apply SK_rt | ((with_reducible apply Y_eVar); rfl) | with_reducible apply W_eC | with_reducible apply W_aCons | with_reducible apply W_aNil | with_reducible apply W_e2 | with_reducible apply W_e1 | with_reducible apply W_eCB
  | ((with_reducible apply Y_mulN); omega) | ((with_reducible apply Y_divN); omega) | ((with_reducible apply Y_modN); omega) | with_reducible apply W_addN | ((with_reducible apply Y_ret); rfl) | ((with_reducible apply Y_mulI); omega) | ((with_reducible apply Y_divI); omega) | ((with_reducible apply Y_modI); omega)
  | with_reducible apply W_tOf | with_reducible apply W_tNot | with_reducible apply W_tAnd | with_reducible apply W_tOr | with_reducible apply W_tYes | with_reducible apply W_eAnd | with_reducible apply W_eOr | with_reducible apply W_eNot | with_reducible apply W_eIf | with_reducible apply W_eIx | with_reducible apply W_eTup | with_reducible apply W_eLst
  | with_reducible apply W_sIf | with_reducible apply W_sRet | with_reducible apply W_sDrop | with_reducible apply W_sNil | with_reducible apply W_sAsg | with_reducible apply W_sPar | with_reducible apply W_sAugIx | with_reducible apply W_sFor | with_reducible apply W_gtName | ((with_reducible apply Y_gtTup); rfl) | with_reducible apply W_gtCons | with_reducible apply W_gtNil | with_reducible apply W_gtSub
  | with_reducible apply W_iTup | with_reducible apply W_iRng1 | with_reducible apply W_iRng2 | with_reducible apply W_iEnum | with_reducible apply W_iLst | with_reducible apply W_eApp
  | (with_reducible apply Y_lenV) | ((with_reducible apply Y_lenT); rfl) | ((with_reducible apply ite_t); exact rfl) | ((with_reducible apply ite_f); exact rfl) | ((with_reducible apply ite_t); exact decide_eq_true (by omega)) | ((with_reducible apply ite_f); exact decide_eq_false (by omega)) | ((with_reducible apply ite_t); exact not_t (decide_eq_false (by omega))) | ((with_reducible apply ite_f); exact not_f (decide_eq_true (by omega)))
   | ((with_reducible apply Y_ixLV); (first | assumption | rfl); (first | assumption | omega)) | ((with_reducible apply Y_ixTV); (first | assumption | omega)) | ((with_reducible apply Y_ixTV0); (first | assumption | omega)) | ((with_reducible apply Y_ixLV0); (first | assumption | rfl); (first | assumption | omega)) | with_reducible apply Y_int | with_reducible apply Y_sumT | ((with_reducible apply Y_sumL); (first | assumption | rfl)) | with_reducible apply Y_intB | ((with_reducible apply W_tupL); (first | assumption | rfl)) | ((with_reducible apply Y_lenLV); (first | assumption | rfl)) | with_reducible refine ⟨_, rfl, ?_⟩ | exact rfl | refine ⟨(Nat.le_of_ble_eq_true rfl : List.length _ ≤ 1000), ?_⟩)
abbrev nd (q : Nat) : D := .int (q : Nat)
theorem W_compQ {tg : GM} {tt : TM} {te : EM} {g : Guard} {env : Env} {Q : List D → MS → Prop} {s : MS} (L : List Nat) (p : Nat → Bool) (hg : gOk g s = true)
    (hs : ∀ q, q ∈ L → W (tg (nd q) env s) fun env1 s1 => W (tt env1 s1) fun b s2 => b = p q ∧ s2 = s ∧ (p q = true → W (te env1 s) fun y s3 => y = nd q ∧ s3 = s)) (he : Q ((L.filter p).map nd) s) : W (compL tg tt te g env (L.map nd) s) Q := by
  refine W_compL (fun i acc s' => acc = ((L.take i).filter p).map nd ∧ s' = s) ⟨by simp, rfl⟩ (fun i acc s' ⟨_, e⟩ => by rw [e]; exact hg) (fun i d acc s' e ⟨h2, h3⟩ => ?_) (fun acc s' ⟨h2, h3⟩ => by rw [List.length_map, List.take_length] at h2; rw [h2, h3]; exact he)
  subst h3
  rw [List.getElem?_map] at e
  cases hj : L[i]? with
  | none => rw [hj] at e; cases e
  | some q =>
    rw [hj] at e
    cases e
    have htk : L.take (i + 1) = L.take i ++ [q] := by rw [List.take_succ, hj]; rfl
    refine W_mono (hs q (List.mem_of_getElem? hj)) fun env1 s1 h => W_mono h fun b s2 ⟨hb, h3, h4⟩ => ?_
    subst h3
    subst hb
    by_cases hp : p q = true
    · rw [if_pos hp]
      refine W_mono (h4 hp) fun y s3 ⟨h5, h6⟩ => ⟨?_, h6⟩
      rw [htk, List.filter_append, List.map_append, ← h2, List.filter_cons, if_pos hp, h5]
      rfl
    · rw [if_neg hp]
      refine ⟨?_, rfl⟩
      rw [htk, List.filter_append, List.map_append, ← h2, List.filter_cons, if_neg hp]
      simp
theorem W_minL {s : MS} {Q : D → MS → Prop} {n : Nat} {A : Nat → Int} {r : Nat} (h0 : 0 < n) (hr : At s r (V n A)) (h : ∀ mn : Int, (0 < mn ↔ ∀ g, g < n → 0 < A g) → Q (.int mn) s) : W (fMin [.ref r] s) Q := by
  obtain ⟨k, rfl⟩ : ∃ k, n = k + 1 := ⟨n - 1, by omega⟩
  have e1 : asInts (V (k + 1) A) = some (A 0 :: (List.range k).map fun i => A (i + 1)) := by
    rw [V_ints, List.range_succ_eq_map, List.map_cons, List.map_map]
    rfl
  obtain ⟨g1, g2, g3⟩ := foldl_min ((List.range k).map fun i => A (i + 1)) (A 0)
  refine W_eq (a := .int (((List.range k).map fun i => A (i + 1)).foldl min (A 0))) (s := s) ?_ (h _ ?_)
  · show (match s.st[r]? with | some xs => (match asInts xs with | some (i :: is) => some (D.int (is.foldl min i), s) | _ => none) | none => none) = _
    rw [hr]
    show (match asInts (V (k + 1) A) with | some (i :: is) => some (D.int (is.foldl min i), s) | _ => none) = _
    rw [e1]
  · generalize ((List.range k).map fun i => A (i + 1)).foldl min (A 0) = mn at *
    constructor
    · intro hp g hg
      cases g with
      | zero => omega
      | succ g =>
        have := g2 (A (g + 1)) (List.mem_map.mpr ⟨g, List.mem_range.mpr (by omega), rfl⟩)
        omega
    · intro hA
      rcases g3 with e | e
      · rw [e]; exact hA 0 (by omega)
      · obtain ⟨g, hg, e⟩ := List.mem_map.mp e
        rw [← e]
        exact hA (g + 1) (by have := List.mem_range.mp hg; omega)
def ptD (a F sp : Nat) : D := .tup [.int (a : Nat), .int (F : Nat), .int (sp : Nat)]
structure CQ (clk : D) (b T : Nat) (f : Nat → Nat) (rows : List (Nat × Nat)) (un : Nat → Nat) (dvB dvT dvN : List Nat) (uN : Nat → Nat) (ps : List Nat) : Prop where
  dN : PuL F_L_divisors [.int (b * T : Nat)] (dvN.map nd)
  nl : dvN.length < 1000
  n1 : ∀ q ∈ dvN, 0 < q ∧ q ≤ 60
  un_ : ∀ q ∈ dvN, Pu F_L_units [.int (q : Nat)] (.int (uN q))
  ps_ : ps = dvN.filter fun q => decide (uN q + 1 = q) && decide (1 < q)
  pr : Pu F_primes_of [.int (b * T : Nat)] (.tup (ps.map nd))
  part : ∀ a ∈ dvB, ∀ F ∈ dvT, ∀ sp, sp < spotsf b rows un a F (b - 1) → Pu F_is_part [clk, ptD a F sp] (.bl true) ∧ Pu F_part_size [clk, ptD a F sp] (.int (a * F : Nat)) ∧ S (b * T) (pcI f b T a F sp) = (a * F : Nat) ∧ evn (b * T) (pcI f b T a F sp) = decide (a * F = b * T)
  pair : ∀ a ∈ dvB, ∀ F ∈ dvT, ∀ sp, sp < spotsf b rows un a F (b - 1) → ∀ a' ∈ dvB, ∀ F' ∈ dvT, ∀ sp', sp' < spotsf b rows un a' F' (b - 1) →
    evn (b * T) (cv (b * T) (gm b T f) (pcI f b T a F sp) (pcI f b T a' F' sp')) = cover ps (a * F) (a' * F') ∧ ((∀ g, g < b * T → 0 < cv (b * T) (gm b T f) (pcI f b T a F sp) (pcI f b T a' F' sp') g) ↔ cover ps (a * F) (a' * F') = true)
theorem pcI_small {n : Nat} {f : Nat → Nat} {b T a F sp : Nat} : small n (pcI f b T a F sp) := fun i _ => by
  unfold pcI
  split <;> decide
section
variable {clk wd : D} {b T : Nat} {f : Nat → Nat} {e : Nat} {part small' : D} {kb c : Nat} {f' : Nat → Nat} {m' : Nat → Nat → Nat} {inv : Nat → Nat} (C : CL clk b T f e part small' kb c f' (phiF b kb) m' inv)
variable {un ed : Nat → Nat} {dvT dvB dvN ps : List Nat} {uN : Nat → Nat} {rows : List (Nat × Nat)} (X : CW clk b T kb c un ed dvT) (Y : CP clk b T rows un dvB dvT) (Z : CQ clk b T f rows un dvB dvT dvN uN ps)
include C X Y Z
set_option maxHeartbeats 2000000 in
theorem w_of_parts {s : MS} (wo : WO s wd clk b T f) (hseat : s.seat.isSome = true) {Q : D → MS → Prop} (h : ∀ s', Q (.bl true) s') : W (callF F_L_of_parts [wd, .seat] s) Q := by
  have K := C.toCK
  have hn := K.hn
  have hb := K.hb
  have hT := K.hT
  have h60 := K.b60
  have h0 := K.npos
  have C0 := C
  have X0 := X
  have Y0 := Y
  have Z0 := Z
  have K0 := K
  have wo0 := wo
  obtain ⟨mv, rfl⟩ := K.ck
  obtain ⟨t, fa, pc, row, rfl, ht, hrow, hfa⟩ := wo.ex
  have hlen : ((List.range (b * T)).map fun k => D.ref (row k)).length = b * T := by simp
  refine W_callFd (W_def ?_)
  unfold b_L_of_parts
  repeat infer_instance
  refine W_lenL ht ?_ hlen
  repeat infer_instance
  refine w_part C0 X0 Y0 wo0 hseat fun a F sp s1 ha hF hsp kp1 => ?_
  repeat infer_instance
  refine w_part C0 X0 Y0 (wo0.kp kp1) (kp1.seat hseat) fun a' F' sp' s2 ha' hF' hsp' kp2' => ?_
  have kp2 := kp1.trans kp2'
  obtain ⟨q1, q2, q3, q4⟩ := Z0.part a ha F hF sp hsp
  obtain ⟨q1', q2', q3', q4'⟩ := Z0.part a' ha' F' hF' sp' hsp'
  obtain ⟨w1, w2⟩ := Z0.pair a ha F hF sp hsp a' ha' F' hF' sp' hsp'
  have hab := (Y0.bv a ha).2
  have hab' := (Y0.bv a' ha').2
  repeat infer_instance
  refine W_eComp ?_
  repeat infer_instance
  refine W_puN Z0.dN fun r3 s3 hnew3 hs3 => ?_
  have at3 := hnew3.new
  repeat infer_instance
  refine ⟨_, _, rfl, at3, by rw [List.length_map]; have := Z0.nl; omega, ?_⟩
  refine W_compQ dvN (fun q => decide (uN q + 1 = q) && decide (1 < q)) (gOk_of at3) (fun q hq => ?_) ?_
  · have hq1 := Z0.n1 q hq
    repeat infer_instance
    refine W_pu (Z0.un_ q hq) ?_
    by_cases h1 : uN q + 1 = q
    · by_cases h2 : 1 < q
      · repeat infer_instance
        refine ⟨by rw [decide_eq_true h1, Bool.true_and, decide_eq_true h2, decide_eq_true (by omega)], rfl, fun _ => ?_⟩
        repeat infer_instance
        exact ⟨rfl, rfl⟩
      · repeat infer_instance
        refine ⟨by rw [decide_eq_true h1, Bool.true_and, decide_eq_false h2, decide_eq_false (by omega)], rfl, fun q => ?_⟩
        rw [decide_eq_true h1, Bool.true_and, decide_eq_false h2] at q
        cases q
    · repeat infer_instance
      refine ⟨by rw [decide_eq_false h1, Bool.false_and], rfl, fun q => ?_⟩
      rw [decide_eq_false h1, Bool.false_and] at q
      cases q
  rw [← Z0.ps_]
  have hnew4 : New s3 (s3.add (ps.map nd)) s3.st.length (ps.map nd) := .of
  generalize s3.add (ps.map nd) = s4 at hnew4 ⊢
  generalize s3.st.length = r4 at hnew4 ⊢
  have at4 := hnew4.new
  have kp4 := (kp2.trans hnew3.toKp).trans hnew4.toKp
  have hps : ∀ q ∈ ps, 0 < q ∧ q ≤ 60 := fun q hq => by
    rw [Z0.ps_] at hq
    exact Z0.n1 q (List.mem_filter.mp hq).1
  have hpl : ps.length < 1000 := by
    rw [Z0.ps_]
    exact Nat.lt_of_le_of_lt (List.length_filter_le _ _) Z0.nl
  repeat infer_instance
  refine W_eComp ?_
  repeat infer_instance
  refine ⟨_, _, rfl, at4, by rw [List.length_map]; omega, ?_⟩
  refine W_compQ ps (fun q => decide (a * F % q ≠ 0) && decide (a' * F' % q ≠ 0)) (gOk_of at4) (fun q hq => ?_) ?_
  · have hq1 := hps q hq
    repeat infer_instance
    rw [decide_cast]
    cases g1 : decide (a * F % q ≠ 0) with
    | true =>
      repeat infer_instance
      rw [decide_cast]
      refine ⟨rfl, rfl, fun _ => ?_⟩
      repeat infer_instance
      exact ⟨rfl, rfl⟩
    | false =>
      repeat infer_instance
      exact ⟨rfl, rfl, fun z => by cases z⟩
  have hnew5 : New s4 (s4.add ((ps.filter fun q => decide (a * F % q ≠ 0) && decide (a' * F' % q ≠ 0)).map nd)) s4.st.length ((ps.filter fun q => decide (a * F % q ≠ 0) && decide (a' * F' % q ≠ 0)).map nd) := .of
  generalize s4.add ((ps.filter fun q => decide (a * F % q ≠ 0) && decide (a' * F' % q ≠ 0)).map nd) = s5 at hnew5 ⊢
  generalize s4.st.length = r5 at hnew5 ⊢
  have at5 := hnew5.new
  have kp5 := kp4.trans hnew5.toKp
  have hcov : decide ((((ps.filter fun q => decide (a * F % q ≠ 0) && decide (a' * F' % q ≠ 0)).length : Nat) : Int) = 0) = cover ps (a * F) (a' * F') := by
    rw [Bool.eq_iff_iff, decide_eq_true_iff]
    unfold cover
    rw [List.all_eq_true]
    constructor
    · intro hz q hq
      have h1 : (ps.filter fun q => decide (a * F % q ≠ 0) && decide (a' * F' % q ≠ 0)) = [] := List.length_eq_zero_iff.mp (by omega)
      have h2 := List.filter_eq_nil_iff.mp h1 q hq
      rw [Bool.not_eq_true] at h2
      rw [h2]; rfl
    · intro hz
      have h1 : (ps.filter fun q => decide (a * F % q ≠ 0) && decide (a' * F' % q ≠ 0)) = [] := List.filter_eq_nil_iff.mpr fun q hq => by
        have := hz q hq
        intro hc
        rw [hc] at this
        cases this
      rw [h1]; rfl
  repeat infer_instance
  refine W_lenL at5 (n := (ps.filter fun q => decide (a * F % q ≠ 0) && decide (a' * F' % q ≠ 0)).length) ?_ (by rw [List.length_map])
  repeat infer_instance
  rw [hcov]
  refine w_times K0 (wo0.kp kp5) (.inr rfl) (.inr rfl) (.inl pcI_small) fun r6 s6 hnew6 => ?_
  have at6 := hnew6.new
  have kp6 := kp5.trans hnew6.toKp
  generalize hcv : cover ps (a * F) (a' * F') = cv0 at *
  have hsz : S (b * T) (pcI f b T a F sp) = ((a * F : Nat) : Int) := q3
  repeat infer_instance
  refine W_minL h0 at6 fun mn hmn => ?_
  have hmc : decide (0 < mn) = cv0 := by
    rw [Bool.eq_iff_iff, decide_eq_true_iff, hmn]
    exact w2
  repeat infer_instance
  rw [hmc]
  refine ite_f (not_f (decide_eq_true rfl)) ?_
  repeat infer_instance
  refine w_level h0 (by omega) at6 fun s7 hk7 => ?_
  have kp7 := kp6.trans hk7
  rw [w1]
  repeat infer_instance
  refine ite_f (not_f (decide_eq_true rfl)) ?_
  repeat infer_instance
  have hpc := pu_parts_cover K0 q1 q1' q2 q2' Z0.pr fun q hq => (hps q hq).1
  rw [hcv] at hpc
  refine W_pu hpc ?_
  repeat infer_instance
  refine W_pu (same_bl 4 _) ?_
  let E : Nat → Nat → Int := fun k => match k with
    | 0 => pcI f b T a F sp
    | _ + 1 => pcI f b T a' F' sp'
  obtain ⟨d, hro, hAft⟩ := pu_row_after K0 2 (by omega) (by omega) E fun j _ => by
    cases j with
    | zero => exact pcI_small
    | succ j => exact pcI_small
  have e0 : evn (b * T) (rowp (b * T) (gm b T f) E 0) = decide (a * F = b * T) := q4
  have e1 : evn (b * T) (rowp (b * T) (gm b T f) E 1) = cv0 := w1
  have hd : d = if a * F = b * T then .int 1 else if cv0 = true then .int 2 else .non := by
    refine hAft.uniq ?_
    by_cases hf : a * F = b * T
    · rw [if_pos hf]
      exact .inl ⟨0, by omega, by show evn _ _ = true; rw [e0]; exact decide_eq_true hf, fun j hj => by omega, rfl⟩
    · rw [if_neg hf]
      have z0 : evn (b * T) (rowp (b * T) (gm b T f) E 0) = false := by rw [e0]; exact decide_eq_false hf
      cases hc : cv0 with
      | true =>
        rw [if_pos rfl]
        refine .inl ⟨1, by omega, by show evn _ _ = true; rw [e1]; exact hc, fun j hj => ?_, rfl⟩
        have : j = 0 := by omega
        subst this
        exact z0
      | false =>
        rw [if_neg Bool.false_ne_true]
        refine .inr ⟨fun j hj => ?_, rfl⟩
        have : j = 0 ∨ j = 1 := by omega
        rcases this with rfl | rfl
        · exact z0
        · show evn _ _ = false
          rw [e1]; exact hc
  have hro' : Pu F_row_after [.tup [.int b, mv], .tup [.tup [.int 1, .tup (V (b * T) (pcI f b T a F sp))], .tup [.int 1, .tup (V (b * T) (pcI f b T a' F' sp'))]]] d := hro
  by_cases hf : a * F = b * T
  · rw [if_pos hf] at hd
    subst hd
    repeat infer_instance
    refine W_pu hro' ?_
    repeat infer_instance
    refine W_pu (same_int 4 _) ?_
    exact ⟨rfl, kp7, fun s3 _ => h s3⟩
  · rw [if_neg hf] at hd
    cases hc : cv0 with
    | true =>
      rw [if_pos hc] at hd
      subst hd
      repeat infer_instance
      refine W_pu hro' ?_
      repeat infer_instance
      refine W_pu (same_int 4 _) ?_
      exact ⟨rfl, kp7, fun s3 _ => h s3⟩
    | false =>
      rw [if_neg (by rw [hc]; exact Bool.false_ne_true)] at hd
      subst hd
      repeat infer_instance
      refine W_pu hro' ?_
      repeat infer_instance
      refine W_pu (same_non 4) ?_
      exact ⟨rfl, kp7, fun s3 _ => h s3⟩
end
end Mir
/-! ## PT -/
set_option maxHeartbeats 200000
set_option Elab.async false
set_option linter.all false
set_option maxRecDepth 100000
/-! The plain law: a clock's facts out of one check. -/
namespace Mir
open PySem PySem.Spec PyProof.Rows L2
/-! ### digits -/
theorem dig {C : Nat → Int} : ∀ {n : Nat}, (∀ u, u < n → 0 ≤ C u ∧ C u < 4096) → (0 ≤ S n (fun u => (4096 : Int) ^ u * C u) ∧ S n (fun u => (4096 : Int) ^ u * C u) < (4096 : Int) ^ n) ∧ ∀ g, g < n → S n (fun u => (4096 : Int) ^ u * C u) / (4096 : Int) ^ g % 4096 = C g
  | 0, _ => ⟨⟨Int.le_refl _, by rw [S_zero, Int.pow_zero]; decide⟩, fun g hg => by omega⟩
  | n + 1, h => by
    obtain ⟨⟨h1, h2⟩, h3⟩ := dig (n := n) fun u hu => h u (by omega)
    have hc := h n (by omega)
    have hp : (0 : Int) < (4096 : Int) ^ n := Int.pow_pos (by decide)
    rw [S_succ]
    have e1 : (4096 : Int) ^ n * C n ≤ (4096 : Int) ^ n * 4095 := Int.mul_le_mul_of_nonneg_left (by omega) (Int.le_of_lt hp)
    have e0 : 0 ≤ (4096 : Int) ^ n * C n := Int.mul_nonneg (Int.le_of_lt hp) hc.1
    refine ⟨⟨by omega, by rw [Int.pow_succ]; omega⟩, fun g hg => ?_⟩
    by_cases hgn : g = n
    · subst hgn
      rw [Int.add_mul_ediv_left _ _ (by omega), Int.ediv_eq_zero_of_lt h1 h2, Int.zero_add]
      exact Int.emod_eq_of_lt hc.1 hc.2
    · have hgl : g < n := by omega
      obtain ⟨d, hd⟩ : ∃ d, n = g + (d + 1) := ⟨n - g - 1, by omega⟩
      have e2 : (4096 : Int) ^ n * C n = (4096 : Int) ^ g * (4096 * ((4096 : Int) ^ d * C n)) := by
        rw [hd, Int.pow_add, Int.pow_succ, Int.mul_assoc, Int.mul_comm ((4096 : Int) ^ d) 4096, Int.mul_assoc]
      have hpg : (4096 : Int) ^ g ≠ 0 := by
        have : (0 : Int) < (4096 : Int) ^ g := Int.pow_pos (by decide)
        omega
      rw [e2, Int.add_mul_ediv_left _ _ hpg, Int.add_mul_emod_self_left]
      exact h3 g hgl
def psum (L : List Nat) (f : Nat → Nat) : Nat := (L.map f).sum
theorem psum_cast {L : List Nat} {f : Nat → Nat} : ((psum L f : Nat) : Int) = lsum L fun x => (f x : Int) := by
  induction L with
  | nil => rfl
  | cons a L ih =>
    show ((f a + psum L f : Nat) : Int) = _
    rw [Int.natCast_add, ih, lsum_cons]
def encN (b T : Nat) (f : Nat → Nat) (LA LB : List Nat) : Nat := psum LA fun x => psum LB fun y => 4096 ^ gm b T f x y
/-- a part's places, as told -/
def LAok (n : Nat) (A : Nat → Int) (LA : List Nat) : Prop := LA = (List.range n).filter fun k => decide (A k = 1)
theorem S_bin {n : Nat} {A : Nat → Int} (hA : Bin n A) {LA : List Nat} (h : LAok n A LA) (g : Nat → Int) : S n (fun x => g x * A x) = lsum LA g := by
  unfold LAok at h
  rw [h, lsum_filter]
  refine S_congr fun x hx => ?_
  rcases hA x hx with e | e
  · rw [e, Int.mul_zero, if_neg (by simp [e])]
  · rw [e, Int.mul_one, if_pos (by simp [e])]
theorem enc_says {b T : Nat} {f : Nat → Nat} (hm : ∀ x, x < b * T → ∀ y, y < b * T → gm b T f x y < b * T) {A B : Nat → Int} (hA : Bin (b * T) A) (hB : Bin (b * T) B) {LA LB : List Nat} (h1 : LAok (b * T) A LA) (h2 : LAok (b * T) B LB) :
    S (b * T) (fun u => (4096 : Int) ^ u * cv (b * T) (gm b T f) A B u) = ((encN b T f LA LB : Nat) : Int) := by
  rw [push hm]
  unfold encN
  rw [psum_cast, ← S_bin hA h1]
  refine S_congr fun x hx => ?_
  rw [psum_cast, ← S_bin hB h2, ← S_mulr]
  refine S_congr fun y hy => ?_
  rw [Int.natCast_pow, Int.mul_comm (A x) (B y), ← Int.mul_assoc]
  rfl
def pairB (n E c0 : Nat) (cov : Bool) : Bool := if cov = true then decide (0 < c0) && (List.range n).all fun g => decide (E / 4096 ^ g % 4096 = c0) else (List.range n).any fun g => decide (E / 4096 ^ g % 4096 = 0)
theorem pair_says {b T : Nat} {f : Nat → Nat} (h0 : 0 < b * T) (hn : b * T ≤ 60) (hm : ∀ x, x < b * T → ∀ y, y < b * T → gm b T f x y < b * T) {A B : Nat → Int} (hA : Bin (b * T) A) (hB : Bin (b * T) B) {LA LB : List Nat} (h1 : LAok (b * T) A LA) (h2 : LAok (b * T) B LB)
    (hpA : 0 < S (b * T) A) (hpB : 0 < S (b * T) B) {c0 : Nat} {cov : Bool} (h : pairB (b * T) (encN b T f LA LB) c0 cov = true) :
    evn (b * T) (cv (b * T) (gm b T f) A B) = cov ∧ ((∀ g, g < b * T → 0 < cv (b * T) (gm b T f) A B g) ↔ cov = true) := by
  have nn : ∀ {X : Nat → Int}, Bin (b * T) X → ∀ i, i < b * T → 0 ≤ X i := fun hX i hi => by rcases hX i hi with e | e <;> omega
  have hC : ∀ u, u < b * T → 0 ≤ cv (b * T) (gm b T f) A B u ∧ cv (b * T) (gm b T f) A B u < 4096 := fun u hu => by
    have b1 : Bd (b * T) 1 A := fun i hi => by rcases hA i hi with e | e <;> rw [e] <;> decide
    have b2 : Bd (b * T) 1 B := fun i hi => by rcases hB i hi with e | e <;> rw [e] <;> decide
    have e1 := cv_bd (m := gm b T f) b1 b2 u hu
    have e2 : b * T * (b * T * (1 * 1)) ≤ 60 * (60 * (1 * 1)) := Nat.mul_le_mul hn (Nat.mul_le_mul_right _ hn)
    have e3 : 0 ≤ cv (b * T) (gm b T f) A B u := S_nonneg fun x hx => S_nonneg fun y hy => by
      split
      · exact Int.mul_nonneg (nn hA x hx) (nn hB y hy)
      · exact Int.le_refl _
    omega
  have hd := (dig hC).2
  rw [enc_says hm hA hB h1 h2] at hd
  have hd' : ∀ g, g < b * T → ((encN b T f LA LB / 4096 ^ g % 4096 : Nat) : Int) = cv (b * T) (gm b T f) A B g := fun g hg => by
    rw [← hd g hg, Int.natCast_emod, Int.natCast_ediv, Int.natCast_pow]
    rfl
  unfold pairB at h
  cases cov with
  | true =>
    rw [if_pos rfl, Bool.and_eq_true, decide_eq_true_iff, List.all_eq_true] at h
    have hall : ∀ g, g < b * T → cv (b * T) (gm b T f) A B g = c0 := fun g hg => by
      rw [← hd' g hg, of_decide_eq_true (h.2 g (List.mem_range.mpr hg))]
    refine ⟨evn_iff.mpr fun i hi => by rw [hall i hi, hall 0 h0], fun _ => rfl, fun _ g hg => ?_⟩
    rw [hall g hg]
    omega
  | false =>
    rw [if_neg Bool.false_ne_true, List.any_eq_true] at h
    obtain ⟨g, hg, hz⟩ := h
    have hg := List.mem_range.mp hg
    have hz' : cv (b * T) (gm b T f) A B g = 0 := by
      rw [← hd' g hg, of_decide_eq_true hz]
      rfl
    refine ⟨?_, fun hall => ?_, fun q => by cases q⟩
    · cases he : evn (b * T) (cv (b * T) (gm b T f) A B) with
      | false => rfl
      | true =>
        exfalso
        have hl := evn_iff.mp he
        have ht := hl.total
        rw [total_cv hm, ← hl g hg, hz', Int.mul_zero] at ht
        have := Int.mul_pos hpA hpB
        omega
    · have := hall g hg
      omega
end Mir
/-! ## PU -/
set_option maxHeartbeats 200000
set_option Elab.async false
set_option linter.all false
set_option maxRecDepth 100000
/-! The plain law: the checks of a clock. -/
namespace Mir
open PySem PySem.Spec PyProof.Rows L2
def unN (n : Nat) : Nat := ((List.range (n - 1)).foldl (fun (p : Nat × Nat) i => if p.1 % (i + 2) = 0 then (p.1 / (i + 2), p.2 * (i + 1)) else p) (n, 1)).2
def edN (rows : List (Nat × Nat)) (q : Nat) : Nat := rows.foldl (fun e p => if p.2 % q ≠ 1 % q then e * p.1 else e) 1
def dvs (n : Nat) : List Nat := ((List.range n).map fun i => i + 1).filter fun d => decide (n % d = 0)
def turnsR (rows : List (Nat × Nat)) : Nat := rows.foldl (fun t p => t * p.1) 1
def rootR (rows : List (Nat × Nat)) : Nat := rows.foldl (fun t p => t * p.2) 1
def fR (b R t : Nat) : Nat := R ^ t % b
def clkD (b : Nat) (rows : List (Nat × Nat)) : D := .tup [.int (b : Nat), .tup (rows.map rowD)]
def keptR (b : Nat) (rows : List (Nat × Nat)) : Nat := keptf b unN (edN rows) (b - 1)
def smallR (kb : Nat) (rows : List (Nat × Nat)) : List (Nat × Nat) := rows.map fun p => (p.1, if kb > 1 then p.2 % kb else 1)
def mQ (kb T x y : Nat) : Nat := (x / kb + y / kb) % T * kb + (x % kb + y % kb) % kb
def iQ (kb T x : Nat) : Nat := (T - x / kb) % T * kb + (kb - x % kb) % kb
def all2 (n : Nat) (p : Nat → Nat → Bool) : Bool := (List.range n).all fun x => (List.range n).all fun y => p x y
theorem all2_says {n : Nat} {p : Nat → Nat → Bool} (h : all2 n p = true) {x y : Nat} (hx : x < n) (hy : y < n) : p x y = true :=
  List.all_eq_true.mp (List.all_eq_true.mp h x (List.mem_range.mpr hx)) y (List.mem_range.mpr hy)
theorem all1_says {n : Nat} {p : Nat → Bool} (h : (List.range n).all p = true) {x : Nat} (hx : x < n) : p x = true :=
  List.all_eq_true.mp h x (List.mem_range.mpr hx)
/-! the kind's first facts -/
def ckB (b : Nat) (rows : List (Nat × Nat)) (T R : Nat) : Bool :=
  decide (0 < b) && (decide (0 < T) && (decide (b * T ≤ 60) && ((List.range T).all (fun t => decide (fR b R t ≤ b)) && ((clkD b rows).noref && (puB F_turns_many [clkD b rows] (.int (T : Nat)) && (puB F_moves_many [clkD b rows] (.int (b * T : Nat)) &&
  ((List.range T).all (fun t => puB F_factor_at [clkD b rows, .int (t : Nat)] (.int (fR b R t : Nat))) && (decide (fR b R 0 % b = 1 % b) && all2 T fun s t => decide (fR b R ((s + t) % T) % b = fR b R s * fR b R t % b)))))))))
theorem ck_of {b T R : Nat} {rows : List (Nat × Nat)} (h : ckB b rows T R = true) : CK (clkD b rows) b T (fR b R) := by
  unfold ckB at h
  simp only [Bool.and_eq_true, decide_eq_true_iff] at h
  obtain ⟨h1, h2, h3, h4, h5, h6, h7, h8, h9, h10⟩ := h
  exact ⟨h1, h2, h3, fun t ht => of_decide_eq_true (all1_says h4 ht), ⟨_, rfl⟩, h5, .by h6, .by h7, fun t ht => .by (all1_says h8 ht), h9, fun s t hs ht => of_decide_eq_true (all2_says h10 hs ht)⟩
/-! the fold's -/
def abB (q kb T : Nat) : Bool := decide (0 < q) && (all2 q (fun x y => decide (mQ kb T x y < q) && decide (mQ kb T x y = mQ kb T y x) && decide (iQ kb T (mQ kb T x y) = mQ kb T (iQ kb T y) (iQ kb T x)) && (decide (mQ kb T x y = 0) == decide (iQ kb T x = y)) && (List.range q).all fun z => decide (mQ kb T (mQ kb T x y) z = mQ kb T x (mQ kb T y z))) &&
  (List.range q).all fun x => decide (mQ kb T 0 x = x) && decide (mQ kb T x 0 = x) && decide (iQ kb T x < q) && decide (iQ kb T (iQ kb T x) = x))
theorem ab_of {q kb T : Nat} (h : abB q kb T = true) : Abel q (mQ kb T) (iQ kb T) := by
  unfold abB at h
  rw [Bool.and_eq_true, Bool.and_eq_true, decide_eq_true_iff] at h
  obtain ⟨h1, h2, h3⟩ := h
  have g2 : ∀ x, x < q → ∀ y, y < q → _ := fun x hx y hy => all2_says h2 hx hy
  have g3 : ∀ x, x < q → _ := fun x hx => all1_says h3 hx
  simp only [Bool.and_eq_true, decide_eq_true_iff, beq_iff_eq] at g2 g3
  exact ⟨⟨h1, fun x hx y hy => (g2 x hx y hy).1.1.1.1, fun x hx y hy z hz => of_decide_eq_true (all1_says (g2 x hx y hy).2 hz), fun y hy => (g3 y hy).1.1.1, fun x hx => (g3 x hx).1.1.2⟩, fun x hx y hy => (g2 x hx y hy).1.1.1.2, fun x hx => (g3 x hx).1.2, fun x hx => (g3 x hx).2, fun x hx y hy => (g2 x hx y hy).1.1.2, fun x hx y hy => by
    have e := (g2 x hx y hy).1.2
    rw [← decide_eq_true_iff (p := mQ kb T x y = 0), ← decide_eq_true_iff (p := iQ kb T x = y), e]⟩
def foB (b T kb c : Nat) (f : Nat → Nat) : Bool := (List.range (b * T)).all (fun x => decide (phiF b kb x < kb * T)) && (all2 (b * T) (fun x y => decide (phiF b kb (gm b T f x y) = mQ kb T (phiF b kb x) (phiF b kb y))) &&
  ((List.range (kb * T)).all (fun p => decide (S (b * T) (fun x => if phiF b kb x = p then 1 else 0) = (c : Int))) && decide (b * T = kb * T * c)))
theorem fo_of {b T kb c : Nat} {f : Nat → Nat} (h : foB b T kb c f = true) : Fold (b * T) (gm b T f) (kb * T) (mQ kb T) (phiF b kb) c := by
  unfold foB at h
  rw [Bool.and_eq_true, Bool.and_eq_true, Bool.and_eq_true, decide_eq_true_iff] at h
  obtain ⟨h1, h2, h3, h4⟩ := h
  exact ⟨fun x hx => of_decide_eq_true (all1_says h1 hx), fun x hx y hy => of_decide_eq_true (all2_says h2 hx hy), fun p hp => of_decide_eq_true (all1_says h3 hp), h4⟩
def partD (c : Nat) : D := .tup [.int (c : Nat), .int 1, .int 0]
def mvB (b : Nat) (rows : List (Nat × Nat)) (k : Nat) : Bool := match F_move_at [clkD b rows, .int (k : Nat)] MS0 with
  | some (d, _) => d.noref && (clkD b rows).noref
  | none => false
theorem mv_of {b k : Nat} {rows : List (Nat × Nat)} (h : mvB b rows k = true) : ∃ d, Pu F_move_at [clkD b rows, .int (k : Nat)] d := by
  unfold mvB at h
  split at h
  · rename_i d s1 he
    rw [Bool.and_eq_true] at h
    exact ⟨d, by simp [D.norefs, h.2, D.noref], h.1, s1, he⟩
  · cases h
def clB (b : Nat) (rows : List (Nat × Nat)) (T R kb c : Nat) : Bool :=
  ckB b rows T R && (decide (1 ≤ edN rows b) && (decide (edN rows b ≤ 6) && (puB F_last_edge [clkD b rows] (.int (edN rows b : Nat)) && (puB F_L_edge [clkD b rows, .int (b : Nat)] (.int (edN rows b : Nat)) && ((List.range (b * T)).all (mvB b rows) &&
  ((List.range (b * T)).all (fun k => puB F_is_move [clkD b rows, mvD b k] (.bl true)) && ((List.range (b * T)).all (fun k => puB F_number_of [clkD b rows, mvD b k] (.int (k : Nat))) && (decide (b < 64) && (decide (T < 64) && (sqf (b * T) && (puB F_moved_part [clkD b rows] (partD c) &&
  (puB F_want_kept [clkD b rows, partD c] .non && (puB F_folded_clock [clkD b rows, partD c] (clkD kb (smallR kb rows)) && (puLB F_folded_numbers [clkD b rows, partD c, clkD kb (smallR kb rows)] (V (b * T) fun k => (phiF b kb k : Int)) && (ckB kb (smallR kb rows) T (rootR (smallR kb rows)) && (foB b T kb c (fR b R) && abB (kb * T) kb T))))))))))))))))
theorem cl_of {b T R kb c : Nat} {rows : List (Nat × Nat)} (h : clB b rows T R kb c = true) : CL (clkD b rows) b T (fR b R) (edN rows b) (partD c) (clkD kb (smallR kb rows)) kb c (fR kb (rootR (smallR kb rows))) (phiF b kb) (mQ kb T) (iQ kb T) := by
  unfold clB at h
  simp only [Bool.and_eq_true, decide_eq_true_iff] at h
  obtain ⟨h1, h2, h3, h4, h5, h6, h7, h8, h9, h10, h11, h12, h13, h14, h15, h16, h17, h18⟩ := h
  exact ⟨ck_of h1, h2, h3, .by h4, .by h5, fun k hk => mv_of (all1_says h6 hk), fun k hk => .by (all1_says h7 hk), fun k hk => .by (all1_says h8 hk), h9, h10, h11, .by h12, .by h13, .by h14, .by h15, ck_of h16, fo_of h17, ab_of h18⟩
/-! the way of weights' -/
def cwB (b : Nat) (rows : List (Nat × Nat)) (T kb c : Nat) : Bool :=
  (List.range (b + 1)).all (fun q => decide (q < 2) || (puB F_L_units [.int (q : Nat)] (.int (unN q : Nat)) && puB F_L_edge [clkD b rows, .int (q : Nat)] (.int (edN rows q : Nat)))) && (decide (keptR b rows = kb) && (decide (b / kb = c) && (decide (0 < kb) && (decide (0 < c) && (puLB F_L_divisors [.int (T : Nat)] ((dvs T).map nd) && (decide (dvs T ≠ []) && (decide ((dvs T).length < 1000) && (dvs T).all fun d => decide (0 < d ∧ d ≤ T))))))))
theorem cw_of {b T kb c : Nat} {rows : List (Nat × Nat)} (h : cwB b rows T kb c = true) : CW (clkD b rows) b T kb c unN (edN rows) (dvs T) := by
  unfold cwB at h
  simp only [Bool.and_eq_true, decide_eq_true_iff] at h
  obtain ⟨h1, h2, h3, h4, h5, h6, h7, h8, h9⟩ := h
  have g1 : ∀ q, 2 ≤ q → q ≤ b → puB F_L_units [.int (q : Nat)] (.int (unN q : Nat)) = true ∧ puB F_L_edge [clkD b rows, .int (q : Nat)] (.int (edN rows q : Nat)) = true := fun q hq hb => by
    have := all1_says h1 (x := q) (by omega)
    rw [Bool.or_eq_true, decide_eq_true_iff, Bool.and_eq_true] at this
    rcases this with z | z
    · omega
    · exact z
  exact ⟨fun q h1 h2 => .by (g1 q h1 h2).1, fun q h1 h2 => .by (g1 q h1 h2).2, h2, h3, h4, h5, .by h6, h7, h8, fun d hd => of_decide_eq_true (List.all_eq_true.mp h9 d hd)⟩
def cpB (b : Nat) (rows : List (Nat × Nat)) (T : Nat) : Bool :=
  decide (rows.length < 100) && ((List.range rows.length).all (fun i => decide (0 < (rows.getD i (1, 0)).1)) && (puLB F_L_divisors [.int (b : Nat)] ((dvs b).map nd) && (decide (dvs b ≠ []) && (decide ((dvs b).length < 1000) && ((dvs b).all (fun d => decide (0 < d ∧ d ≤ b)) && (dvs b).all fun a => (dvs T).all fun F => decide (0 < spotsf b rows unN a F (b - 1) ∧ spotsf b rows unN a F (b - 1) < 1000000))))))
theorem cp_of {b T : Nat} {rows : List (Nat × Nat)} (h : cpB b rows T = true) : CP (clkD b rows) b T rows unN (dvs b) (dvs T) := by
  unfold cpB at h
  simp only [Bool.and_eq_true, decide_eq_true_iff] at h
  obtain ⟨h1, h2, h3, h4, h5, h6, h7⟩ := h
  exact ⟨rfl, h1, fun i hi => of_decide_eq_true (all1_says h2 hi), .by h3, h4, h5, fun d hd => of_decide_eq_true (List.all_eq_true.mp h6 d hd), fun a ha F hF => of_decide_eq_true (List.all_eq_true.mp (List.all_eq_true.mp h7 a ha) F hF)⟩
/-! the way of parts' -/
def psN (n : Nat) : List Nat := (dvs n).filter fun q => decide (unN q + 1 = q) && decide (1 < q)
abbrev PDat := Nat × Nat × Nat × List Nat
def partB (b : Nat) (rows : List (Nat × Nat)) (T R : Nat) (p : PDat) : Bool :=
  puB F_is_part [clkD b rows, ptD p.1 p.2.1 p.2.2.1] (.bl true) && (puB F_part_size [clkD b rows, ptD p.1 p.2.1 p.2.2.1] (.int (p.1 * p.2.1 : Nat)) && (decide (S (b * T) (pcI (fR b R) b T p.1 p.2.1 p.2.2.1) = ((p.1 * p.2.1 : Nat) : Int)) && ((evn (b * T) (pcI (fR b R) b T p.1 p.2.1 p.2.2.1) == decide (p.1 * p.2.1 = b * T)) && (decide (p.2.2.2 = (List.range (b * T)).filter fun k => decide (pcI (fR b R) b T p.1 p.2.1 p.2.2.1 k = 1)) && decide (0 < p.1 * p.2.1)))))
def pairsB (b T R : Nat) (ps : List Nat) (data : List PDat) : Bool := data.all fun p => data.all fun q => pairB (b * T) (encN b T (fR b R) p.2.2.2 q.2.2.2) (p.1 * p.2.1 * (q.1 * q.2.1) / (b * T)) (cover ps (p.1 * p.2.1) (q.1 * q.2.1))
def thereB (b : Nat) (rows : List (Nat × Nat)) (T : Nat) (data : List PDat) : Bool := (dvs b).all fun a => (dvs T).all fun F => (List.range (spotsf b rows unN a F (b - 1))).all fun sp => data.any fun p => decide (p.1 = a ∧ p.2.1 = F ∧ p.2.2.1 = sp)
def cqB (b : Nat) (rows : List (Nat × Nat)) (T R : Nat) (ps : List Nat) (data : List PDat) : Bool :=
  puLB F_L_divisors [.int (b * T : Nat)] ((dvs (b * T)).map nd) && (decide ((dvs (b * T)).length < 1000) && ((dvs (b * T)).all (fun q => decide (0 < q ∧ q ≤ 60)) && ((dvs (b * T)).all (fun q => puB F_L_units [.int (q : Nat)] (.int (unN q : Nat))) && (decide (ps = psN (b * T)) && (puB F_primes_of [.int (b * T : Nat)] (.tup (ps.map nd)) && (data.all (partB b rows T R) && (thereB b rows T data && pairsB b T R ps data)))))))
theorem pcI_bin {n : Nat} {f : Nat → Nat} {b T a F sp : Nat} : Bin n (pcI f b T a F sp) := fun i _ => by
  unfold pcI
  split
  · exact .inr rfl
  · exact .inl rfl
theorem cq_of {b T R : Nat} {rows : List (Nat × Nat)} {ps : List Nat} {data : List PDat} (K : CK (clkD b rows) b T (fR b R)) (h : cqB b rows T R ps data = true) : CQ (clkD b rows) b T (fR b R) rows unN (dvs b) (dvs T) (dvs (b * T)) unN ps := by
  unfold cqB at h
  simp only [Bool.and_eq_true, decide_eq_true_iff] at h
  obtain ⟨h1, h2, h3, h4, h5, h6, h7, h8, h9⟩ := h
  have there : ∀ a ∈ dvs b, ∀ F ∈ dvs T, ∀ sp, sp < spotsf b rows unN a F (b - 1) → ∃ LA, (a, F, sp, LA) ∈ data ∧ partB b rows T R (a, F, sp, LA) = true := fun a ha F hF sp hsp => by
    have g := all1_says (List.all_eq_true.mp (List.all_eq_true.mp h8 a ha) F hF) hsp
    obtain ⟨p, hp, he⟩ := List.any_eq_true.mp g
    obtain ⟨e1, e2, e3⟩ := of_decide_eq_true he
    obtain ⟨p1, p2, p3, p4⟩ := p
    simp only at e1 e2 e3
    subst e1; subst e2; subst e3
    exact ⟨p4, hp, List.all_eq_true.mp h7 _ hp⟩
  refine ⟨.by h1, h2, fun q hq => of_decide_eq_true (List.all_eq_true.mp h3 q hq), fun q hq => .by (List.all_eq_true.mp h4 q hq), h5, .by h6, fun a ha F hF sp hsp => ?_, fun a ha F hF sp hsp a' ha' F' hF' sp' hsp' => ?_⟩
  · obtain ⟨LA, hm, hb⟩ := there a ha F hF sp hsp
    unfold partB at hb
    simp only [Bool.and_eq_true, decide_eq_true_iff, beq_iff_eq] at hb
    obtain ⟨g1, g2, g3, g4, g5, g6⟩ := hb
    exact ⟨.by g1, .by g2, g3, g4⟩
  · obtain ⟨LA, hm, hb⟩ := there a ha F hF sp hsp
    obtain ⟨LB, hm', hb'⟩ := there a' ha' F' hF' sp' hsp'
    unfold partB at hb hb'
    simp only [Bool.and_eq_true, decide_eq_true_iff, beq_iff_eq] at hb hb'
    obtain ⟨g1, g2, g3, g4, g5, g6⟩ := hb
    obtain ⟨g1', g2', g3', g4', g5', g6'⟩ := hb'
    have hp := List.all_eq_true.mp (List.all_eq_true.mp h9 _ hm) _ hm'
    exact pair_says K.npos K.hn (fun x _ y _ => K.gm_lt) pcI_bin pcI_bin g5 g5' (by rw [g3]; omega) (by rw [g3']; omega) hp
/-! the world's -/
def woB (b : Nat) (rows : List (Nat × Nat)) (T R : Nat) : Bool := match F_L_world [clkD b rows] MS0 with
  | some (.tup [c', .ref t, .ref fa, .ref pc], s1) => decide (c' = clkD b rows) && ((clkD b rows).noref && (decide (s1.st[t]? = some ((List.range (b * T)).map fun k => D.ref (2 + k))) && ((List.range (b * T)).all (fun k => decide (s1.st[2 + k]? = some (V (b * T) fun j => (gm b T (fR b R) k j : Int)))) && decide (s1.st[fa]? = some (V T fun t => (fR b R t : Int))))))
  | _ => false
theorem wo_of {b T R : Nat} {rows : List (Nat × Nat)} (h : woB b rows T R = true) (s : MS) : W (callN F_L_world [clkD b rows] s) fun wd s' => Kp s s' ∧ WO s' wd (clkD b rows) b T (fR b R) := by
  unfold woB at h
  split at h
  · rename_i c' t fa pc s1 he
    simp only [Bool.and_eq_true, decide_eq_true_iff] at h
    obtain ⟨h1, h2, h3, h4, h5⟩ := h
    subst h1
    have hat : ∀ {r : Nat} {xs : List D}, s1.st[r]? = some xs → At { s with st := s.st ++ s1.st.map (D.shifts s.st.length) } (s.st.length + r) (D.shifts s.st.length xs) := fun {r xs} hr => by
      show (s.st ++ s1.st.map _)[s.st.length + r]? = _
      rw [List.getElem?_append_right (by omega), Nat.add_sub_cancel_left, List.getElem?_map, hr]
      rfl
    have hV : ∀ n A, D.shifts s.st.length (V n A) = V n A := fun n A => shifts_nr _ _ norefs_V
    refine ⟨.tup [clkD b rows, .ref (s.st.length + t), .ref (s.st.length + fa), .ref (s.st.length + pc)], { s with st := s.st ++ s1.st.map (D.shifts s.st.length) }, ?_, ⟨fun k ys hk => ?_, fun h => h⟩, ⟨_, _, _, fun k => s.st.length + (2 + k), rfl, ?_, fun k hk => ?_, ?_⟩⟩
    · unfold callN
      rw [if_pos (by simp [D.norefs, h2]), he]
      dsimp only
      rw [if_neg (by simp [D.noref, D.norefs])]
      show some (D.tup [D.shift _ (clkD b rows), _, _, _], _) = _
      rw [shift_nr _ _ h2]
      rfl
    · show (s.st ++ _)[k]? = _
      rw [List.getElem?_append_left hk.lt]
      exact hk
    · have := hat h3
      have e : D.shifts s.st.length ((List.range (b * T)).map fun k => D.ref (2 + k)) = (List.range (b * T)).map fun k => D.ref (s.st.length + (2 + k)) := by
        generalize List.range (b * T) = l
        induction l with
        | nil => rfl
        | cons a l ih => rw [List.map_cons, D.shifts, ih]; rfl
      rw [e] at this
      exact this
    · have := hat (of_decide_eq_true (all1_says h4 hk))
      rw [hV] at this
      exact this
    · have := hat h5
      rw [hV] at this
      exact this
  · cases h
end Mir
/-! ## PV -/
set_option maxHeartbeats 200000
set_option Elab.async false
set_option linter.all false
set_option maxRecDepth 100000
/-! The plain law: the law's world, told. -/
namespace Mir
open PySem PySem.Spec PyProof.Rows L2
local macro_rules | `(tactic| infer_instance) => `(tactic| first
  | with_reducible apply W_sSeq | with_reducible apply W_sSet | with_reducible apply SK_nx | with_reducible apply SK_rt | ((with_reducible apply Y_eVar); rfl) | with_reducible apply W_eC | with_reducible apply W_aCons | with_reducible apply W_aNil | with_reducible apply W_e2 | with_reducible apply W_e1 | with_reducible apply W_eCB
  | ((with_reducible apply Y_mulN); omega) | ((with_reducible apply Y_divN); omega) | ((with_reducible apply Y_modN); omega) | with_reducible apply W_addN | ((with_reducible apply Y_ret); rfl) | ((with_reducible apply Y_mulI); omega) | ((with_reducible apply Y_divI); omega) | ((with_reducible apply Y_modI); omega)
  | with_reducible apply W_tOf | with_reducible apply W_tNot | with_reducible apply W_tAnd | with_reducible apply W_tOr | with_reducible apply W_tYes | with_reducible apply W_eAnd | with_reducible apply W_eOr | with_reducible apply W_eNot | with_reducible apply W_eIf | with_reducible apply W_eIx | with_reducible apply W_eTup | with_reducible apply W_eLst
  | with_reducible apply W_sIf | with_reducible apply W_sRet | with_reducible apply W_sDrop | with_reducible apply W_sNil | with_reducible apply W_sAsg | with_reducible apply W_sPar | with_reducible apply W_sAugIx | with_reducible apply W_sFor | with_reducible apply W_gtName | ((with_reducible apply Y_gtTup); rfl) | with_reducible apply W_gtCons | with_reducible apply W_gtNil | with_reducible apply W_gtSub
  | with_reducible apply W_iTup | with_reducible apply W_iRng1 | with_reducible apply W_iRng2 | with_reducible apply W_iEnum | with_reducible apply W_iLst | with_reducible apply W_eApp
  | (with_reducible apply Y_lenV) | ((with_reducible apply Y_lenT); rfl) | ((with_reducible apply ite_t); exact rfl) | ((with_reducible apply ite_f); exact rfl) | ((with_reducible apply ite_t); exact decide_eq_true (by omega)) | ((with_reducible apply ite_f); exact decide_eq_false (by omega)) | ((with_reducible apply ite_t); exact not_t (decide_eq_false (by omega))) | ((with_reducible apply ite_f); exact not_f (decide_eq_true (by omega)))
   | ((with_reducible apply Y_ixLV); (first | assumption | rfl); (first | assumption | omega)) | ((with_reducible apply Y_ixTV); (first | assumption | omega)) | ((with_reducible apply Y_ixTV0); (first | assumption | omega)) | ((with_reducible apply Y_ixLV0); (first | assumption | rfl); (first | assumption | omega)) | with_reducible apply Y_int | with_reducible apply Y_sumT | ((with_reducible apply Y_sumL); (first | assumption | rfl)) | with_reducible apply Y_intB | ((with_reducible apply W_tupL); (first | assumption | rfl)) | ((with_reducible apply Y_lenLV); (first | assumption | rfl)) | with_reducible refine ⟨_, rfl, ?_⟩ | exact rfl | refine ⟨(Nat.le_of_ble_eq_true rfl : List.length _ ≤ 1000), ?_⟩)
theorem W_any {F : MF} {ds : List D} {d : D} {s1 : MS} (h : F ds MS0 = some (d, s1)) (hn : D.norefs ds = true) {s : MS} {Q : D → MS → Prop} (q : ∀ d' s', Kp s s' → Q d' s') : W (callN F ds s) Q := by
  unfold callN
  rw [if_pos hn, h]
  dsimp only
  split
  · exact W_some (q _ _ (Kp.refl s))
  · refine W_some (q _ _ ⟨fun k ys hk => ?_, fun h => h⟩)
    show (s.st ++ _)[k]? = _
    rw [List.getElem?_append_left hk.lt]
    exact hk
def okRow (p : Nat × Nat) : Bool := decide (p.1 < 1000) && decide (p.2 < 1000)
theorem w_world {b : Nat} {rows : List (Nat × Nat)} {T R : Nat} (K : CK (clkD b rows) b T (fR b R)) (hT : turnsR rows = T) (hR : rootR rows = R) (hr : rows.all okRow = true) {dp : D} {sp : MS} (hp : F_L_pieces [clkD b rows] MS0 = some (dp, sp)) :
    W (F_L_world [clkD b rows] MS0) fun wd s1 => WO s1 wd (clkD b rows) b T (fR b R) := by
  have hn := K.hn
  have hb := K.hb
  have hT0 := K.hT
  have h60 := K.b60
  have h61 := K.T60
  have hnr := K.nr
  refine W_def ?_
  unfold b_L_world
  repeat infer_instance
  refine W_forL (fun i env s => s = MS0 ∧ ∃ x4, env = [some (clkD b rows), some (.int b), some (.int (turnsR (rows.take i) : Nat)), some (.int (rootR (rows.take i) : Nat)), x4, none, none, none, none, none, none, none]) ⟨rfl, _, rfl⟩ (fun _ _ _ _ => rfl) (fun i d env s e h2 => ?_) (fun env s h2 => ?_)
  · obtain ⟨rfl, x4, rfl⟩ := h2
    obtain ⟨hi, rfl⟩ := rows_at e
    have hm : rows[i]? = some (rows.getD i (1, 0)) := by simp [List.getD, List.getElem?_eq_getElem hi]
    have hok := List.all_eq_true.mp hr _ (List.mem_of_getElem? hm)
    unfold okRow at hok
    rw [Bool.and_eq_true, decide_eq_true_iff, decide_eq_true_iff] at hok
    have ht : rows.take (i + 1) = rows.take i ++ [rows.getD i (1, 0)] := by rw [List.take_succ, hm]; rfl
    have e1 : turnsR (rows.take (i + 1)) = turnsR (rows.take i) * (rows.getD i (1, 0)).1 := by
      unfold turnsR
      rw [ht, List.foldl_append]
      rfl
    have e2 : rootR (rows.take (i + 1)) = rootR (rows.take i) * (rows.getD i (1, 0)).2 := by
      unfold rootR
      rw [ht, List.foldl_append]
      rfl
    generalize rows.getD i (1, 0) = p at *
    have hp1 : p.1 < 18446744073709551616 := by omega
    have hp2 : p.2 < 18446744073709551616 := by omega
    repeat infer_instance
    rw [e1, e2]
    exact ⟨rfl, _, rfl⟩
  · obtain ⟨rfl, x4, rfl⟩ := h2
    have hlr : ((rows.map rowD), (none : Guard)).1.length = rows.length := by simp
    rw [show (List.map rowD rows).length = rows.length by simp, List.take_length, hT, hR]
    have hR2 : fR b R 0 = 1 % b := by unfold fR; rw [Nat.pow_zero]
    repeat infer_instance
    refine ⟨by omega, ?_⟩
    have hl1 : ((T : Int) - 1).toNat = T - 1 := by omega
    have hnew1 : New MS0 (MS0.add [.int (1 % (b : Int))]) MS0.st.length [.int (1 % (b : Int))] := .of
    have at1 : At (MS0.add [.int (1 % (b : Int))]) 0 (V (0 + 1) fun t => (fR b R t : Int)) := by
      show some [D.int (1 % (b : Int))] = some [D.int (fR b R 0 : Nat)]
      rw [hR2, Int.natCast_emod]
      rfl
    refine W_forL (fun i env s => At s 0 (V (i + 1) fun t => (fR b R t : Int)) ∧ ∃ x4 x6, env = [some (clkD b rows), some (.int b), some (.int T), some (.int R), x4, some (.ref 0), x6, none, none, none, none, none]) ⟨at1, _, _, rfl⟩ (fun _ _ _ _ => rfl) (fun i d env s e h2 => ?_) (fun env s h2 => ?_)
    · obtain ⟨hat, x4, x6, rfl⟩ := h2
      obtain ⟨hi, rfl⟩ := rng_at0 e
      have hfi := K.hf i (by omega)
      have hf2 : fR b R i < 18446744073709551616 := by omega
      have hi1 : i < i + 1 := by omega
      repeat infer_instance
      refine ⟨_, dApp_L hat (by rw [V_len]; omega), ?_, _, _, rfl⟩
      rw [V_append (A := fun t => (fR b R t : Int)) (n := i + 1)]
      · exact hat.set
      · show ((fR b R i * R % b : Nat) : Int) = ((fR b R (i + 1) : Nat) : Int)
        unfold fR
        rw [Nat.pow_succ, Nat.mod_mul_mod]
    · obtain ⟨hat, x4, x6, rfl⟩ := h2
      rw [rngItems_len, hl1, show T - 1 + 1 = T by omega] at hat
      repeat infer_instance
      have hnew2 : New s (s.add []) s.st.length [] := .of
      have hat2 := hnew2.at_ _ _ hat
      have htb := hnew2.new
      have hne := hnew2.ne _ _ hat
      generalize s.add [] = s2 at hat2 htb ⊢
      generalize s.st.length = tb at hne htb ⊢
      repeat infer_instance
      refine ⟨by omega, ?_⟩
      refine W_forL (fun i env s => (∃ x4 x6 x8 x9 x10 x11, env = [some (clkD b rows), some (.int b), some (.int T), some (.int R), x4, some (.ref 0), x6, some (.ref tb), x8, x9, x10, x11]) ∧ At s 0 (V T fun t => (fR b R t : Int)) ∧ ∃ row : Nat → Nat, At s tb ((List.range i).map fun k => D.ref (row k)) ∧ ∀ k, k < i → tb ≠ row k ∧ At s (row k) (V (b * T) fun j => (gm b T (fR b R) k j : Int)))
        ⟨⟨_, _, _, _, _, _, rfl⟩, hat2, fun _ => 0, htb, fun k hk => by omega⟩ (fun _ _ _ _ => rfl) (fun i d env s e h2 => ?_) (fun env s h2 => ?_)
      · obtain ⟨⟨x4, x6, x8, x9, x10, x11, rfl⟩, hfa, row, htb, hrow⟩ := h2
        obtain ⟨hi, rfl⟩ := rng_at0 e
        have hi : i < b * T := hi
        have hdi := K.div_lt hi
        repeat infer_instance
        have hnew3 : New s (s.add []) s.st.length [] := .of
        have kp3 := hnew3.toKp
        have hle3 : s.st.length ≤ s.st.length := Nat.le_refl _
        have hr0 : At (s.add []) s.st.length (V 0 fun j => (gm b T (fR b R) i j : Int)) := hnew3.new
        have hne3 := hnew3.ne
        generalize s.add [] = s3 at kp3 hr0 ⊢
        generalize hr9 : s.st.length = r9 at hle3 hr0 hne3 ⊢
        repeat infer_instance
        refine ⟨by omega, ?_⟩
        refine W_forL (fun j env s' => (∃ x10 x11, env = [some (clkD b rows), some (.int b), some (.int T), some (.int R), x4, some (.ref 0), x6, some (.ref tb), some (.int i), some (.ref r9), x10, x11]) ∧ Kp s s' ∧ At s' r9 (V j fun y => (gm b T (fR b R) i y : Int))) ⟨⟨_, _, rfl⟩, kp3, hr0⟩ (fun _ _ _ _ => rfl) (fun j d env s' e h2 => ?_) (fun env s' h2 => ?_)
        · obtain ⟨⟨x10, x11, rfl⟩, hk, hat9⟩ := h2
          obtain ⟨hj, rfl⟩ := rng_at0 e
          have hj : j < b * T := hj
          have hdj := K.div_lt hj
          have hfa' := hk.at_ _ _ hfa
          have hfj := K.hf _ hdj
          have hf2 : fR b R (j / b) < 18446744073709551616 := by omega
          repeat infer_instance
          refine ⟨_, dApp_L hat9 (by rw [V_len]; omega), ⟨_, _, rfl⟩, hk.set (by omega), ?_⟩
          rw [V_append (A := fun y => (gm b T (fR b R) i y : Int)) (n := j)]
          · exact hat9.set
          · show ((_ : Nat) : Int) = ((gm b T (fR b R) i j : Nat) : Int)
            unfold gm
            rw [Nat.add_mod_mod]
        · obtain ⟨⟨x10, x11, rfl⟩, hk, hat9⟩ := h2
          rw [rngItems_len] at hat9
          have hat9 : At s' r9 (V (b * T) fun y => (gm b T (fR b R) i y : Int)) := hat9
          have htb' := hk.at_ _ _ htb
          have ne9 : tb ≠ r9 := hne3 _ _ htb
          repeat infer_instance
          refine ⟨_, dApp_L htb' (by simp; omega), ⟨_, _, _, _, _, _, rfl⟩, (hk.at_ _ _ hfa).setNe hne.symm, fun k => if k = i then r9 else row k, ?_, fun k hk2 => ?_⟩
          · have e0 := htb'.set (ys := (List.range i).map (fun k => D.ref (row k)) ++ [D.ref r9])
            rw [show (List.range (i + 1)).map (fun k => D.ref (if k = i then r9 else row k)) = (List.range i).map (fun k => D.ref (row k)) ++ [D.ref r9] from by
              rw [List.range_succ, List.map_append]
              congr 1
              · refine List.map_congr_left fun k hk => ?_
                rw [if_neg (by have := List.mem_range.mp hk; omega)]
              · show [D.ref (if i = i then r9 else row i)] = _
                rw [if_pos rfl]]
            exact e0
          · by_cases hki : k = i
            · subst hki
              simp only [if_pos]
              exact ⟨ne9, hat9.setNe ne9⟩
            · simp only [if_neg hki]
              obtain ⟨g1, g2⟩ := hrow k (by omega)
              exact ⟨g1, (hk.at_ _ _ g2).setNe g1⟩
      · obtain ⟨⟨x4, x6, x8, x9, x10, x11, rfl⟩, hfa, row, htb, hrow⟩ := h2
        rw [rngItems_len] at htb hrow
        repeat infer_instance
        refine W_any hp (by simp [D.norefs, hnr]) fun d' s' hk => ?_
        repeat infer_instance
        exact ⟨_, _, _, row, rfl, hk.at_ _ _ htb, fun k hk2 => hk.at_ _ _ (hrow k hk2).2, hk.at_ _ _ hfa⟩
/-- the world in any world -/
theorem w_worldN {b : Nat} {rows : List (Nat × Nat)} {T R : Nat} (K : CK (clkD b rows) b T (fR b R)) (hT : turnsR rows = T) (hR : rootR rows = R) (hr : rows.all okRow = true) {dp : D} {sp : MS} (hp : F_L_pieces [clkD b rows] MS0 = some (dp, sp)) (s : MS) :
    W (callN F_L_world [clkD b rows] s) fun wd s' => Kp s s' ∧ WO s' wd (clkD b rows) b T (fR b R) := by
  obtain ⟨wd, s1, he, hw⟩ := w_world K hT hR hr hp
  obtain ⟨t, fa, pc, row, rfl, h3, h4, h5⟩ := hw.ex
  have h2 := K.nr
  have hat : ∀ {r : Nat} {xs : List D}, s1.st[r]? = some xs → At { s with st := s.st ++ s1.st.map (D.shifts s.st.length) } (s.st.length + r) (D.shifts s.st.length xs) := fun {r xs} hr => by
    show (s.st ++ s1.st.map _)[s.st.length + r]? = _
    rw [List.getElem?_append_right (by omega), Nat.add_sub_cancel_left, List.getElem?_map, hr]
    rfl
  have hV : ∀ n A, D.shifts s.st.length (V n A) = V n A := fun n A => shifts_nr _ _ norefs_V
  refine ⟨.tup [clkD b rows, .ref (s.st.length + t), .ref (s.st.length + fa), pc.shift s.st.length], { s with st := s.st ++ s1.st.map (D.shifts s.st.length) }, ?_, ⟨fun k ys hk => ?_, fun h => h⟩, ⟨_, _, _, fun k => s.st.length + row k, rfl, ?_, fun k hk => ?_, ?_⟩⟩
  · unfold callN
    rw [if_pos (by simp [D.norefs, h2]), he]
    dsimp only
    rw [if_neg (by simp [D.noref, D.norefs])]
    show some (D.tup [D.shift _ (clkD b rows), _, _, _], _) = _
    rw [shift_nr _ _ h2]
    rfl
  · show (s.st ++ _)[k]? = _
    rw [List.getElem?_append_left hk.lt]
    exact hk
  · have := hat h3
    have e : D.shifts s.st.length ((List.range (b * T)).map fun k => D.ref (row k)) = (List.range (b * T)).map fun k => D.ref (s.st.length + row k) := by
      generalize List.range (b * T) = l
      induction l with
      | nil => rfl
      | cons a l ih => rw [List.map_cons, D.shifts, ih]; rfl
    rw [e] at this
    exact this
  · have := hat (h4 k hk)
    rw [hV] at this
    exact this
  · have := hat h5
    rw [hV] at this
    exact this
def piecesB (b : Nat) (rows : List (Nat × Nat)) : Bool := (F_L_pieces [clkD b rows] MS0).isSome
def wB (b : Nat) (rows : List (Nat × Nat)) (T R : Nat) : Bool := decide (turnsR rows = T) && (decide (rootR rows = R) && (rows.all okRow && piecesB b rows))
def Good (clk : D) : Prop := ∃ (b : Nat) (rows : List (Nat × Nat)) (T R kb c : Nat) (ps : List Nat) (data : List PDat), clk = clkD b rows ∧ clB b rows T R kb c = true ∧ cwB b rows T kb c = true ∧ cpB b rows T = true ∧ cqB b rows T R ps data = true ∧ wB b rows T R = true
theorem w_worldB {b : Nat} {rows : List (Nat × Nat)} {T R : Nat} (K : CK (clkD b rows) b T (fR b R)) (h : wB b rows T R = true) (s : MS) :
    W (callN F_L_world [clkD b rows] s) fun wd s' => Kp s s' ∧ WO s' wd (clkD b rows) b T (fR b R) := by
  unfold wB at h
  simp only [Bool.and_eq_true, decide_eq_true_iff] at h
  obtain ⟨h1, h2, h3, h4⟩ := h
  unfold piecesB at h4
  cases hp : F_L_pieces [clkD b rows] MS0 with
  | none => rw [hp] at h4; cases h4
  | some q => exact w_worldN K h1 h2 h3 (dp := q.1) (sp := q.2) hp s
end Mir
/-! ## PX -/
set_option maxHeartbeats 200000
set_option Elab.async false
set_option linter.all false
set_option maxRecDepth 100000
/-! The plain law: the law's clock, the law's rest. -/
namespace Mir
open PySem PySem.Spec PyProof.Rows L2
local macro_rules | `(tactic| infer_instance) => `(tactic| first
  | with_reducible apply W_sSeq | with_reducible apply W_sSet | with_reducible apply SK_nx | with_reducible apply SK_rt | ((with_reducible apply Y_eVar); rfl) | with_reducible apply W_eC | with_reducible apply W_aCons | with_reducible apply W_aNil | with_reducible apply W_e2 | with_reducible apply W_e1 | with_reducible apply W_eCB
  | ((with_reducible apply Y_mulN); omega) | ((with_reducible apply Y_divN); omega) | ((with_reducible apply Y_modN); omega) | with_reducible apply W_addN | ((with_reducible apply Y_ret); rfl) | ((with_reducible apply Y_mulI); omega) | ((with_reducible apply Y_divI); omega) | ((with_reducible apply Y_modI); omega)
  | with_reducible apply W_tOf | with_reducible apply W_tNot | with_reducible apply W_tAnd | with_reducible apply W_tOr | with_reducible apply W_tYes | with_reducible apply W_eAnd | with_reducible apply W_eOr | with_reducible apply W_eNot | with_reducible apply W_eIf | with_reducible apply W_eIx | with_reducible apply W_eTup | with_reducible apply W_eLst
  | with_reducible apply W_sIf | with_reducible apply W_sRet | with_reducible apply W_sDrop | with_reducible apply W_sNil | with_reducible apply W_sAsg | with_reducible apply W_sPar | with_reducible apply W_sAugIx | with_reducible apply W_sFor | with_reducible apply W_gtName | ((with_reducible apply Y_gtTup); rfl) | with_reducible apply W_gtCons | with_reducible apply W_gtNil | with_reducible apply W_gtSub
  | with_reducible apply W_iTup | with_reducible apply W_iRng1 | with_reducible apply W_iRng2 | with_reducible apply W_iEnum | with_reducible apply W_iLst | with_reducible apply W_eApp
  | (with_reducible apply Y_lenV) | ((with_reducible apply Y_lenT); rfl) | ((with_reducible apply ite_t); exact rfl) | ((with_reducible apply ite_f); exact rfl) | ((with_reducible apply ite_t); exact decide_eq_true (by omega)) | ((with_reducible apply ite_f); exact decide_eq_false (by omega)) | ((with_reducible apply ite_t); exact not_t (decide_eq_false (by omega))) | ((with_reducible apply ite_f); exact not_f (decide_eq_true (by omega)))
   | ((with_reducible apply Y_ixLV); (first | assumption | rfl); (first | assumption | omega)) | ((with_reducible apply Y_ixTV); (first | assumption | omega)) | ((with_reducible apply Y_ixTV0); (first | assumption | omega)) | ((with_reducible apply Y_ixLV0); (first | assumption | rfl); (first | assumption | omega)) | with_reducible apply Y_int | with_reducible apply Y_sumT | ((with_reducible apply Y_sumL); (first | assumption | rfl)) | with_reducible apply Y_intB | ((with_reducible apply W_tupL); (first | assumption | rfl)) | ((with_reducible apply Y_lenLV); (first | assumption | rfl)) | with_reducible refine ⟨_, rfl, ?_⟩ | exact rfl | refine ⟨(Nat.le_of_ble_eq_true rfl : List.length _ ≤ 1000), ?_⟩)
def smallC : List D := [clkD 3 [(2, 2)], clkD 7 [(3, 2)], clkD 15 [(2, 4)], clkD 5 [(2, 4)], clkD 15 [(2, 14)], clkD 3 [(2, 1)], clkD 7 [(2, 6)], clkD 6 [], clkD 2 [(3, 1)], clkD 7 [(3, 4)], clkD 1 [(2, 1), (3, 1)], clkD 1 []]
def largeC : List D := [clkD 7 [(2, 6), (3, 2)], clkD 13 [(3, 3)], clkD 19 [(3, 7)], clkD 14 [(3, 9)], clkD 5 [(2, 4), (3, 1)], clkD 29 [(2, 28)], clkD 11 [(5, 3)], clkD 21 [(2, 20)]]
theorem w_clock (hS : ∀ c ∈ smallC, c.noref = true) (hL : ∀ c ∈ largeC, c.noref = true) {s : MS} (hseat : s.seat.isSome = true) {Q : D → MS → Prop} (h : ∀ c s3, c ∈ smallC ∨ c ∈ largeC → Kp s s3 → Q c s3) : W (callF F_L_clock [.seat] s) Q := by
  refine W_callFd (W_def ?_)
  unfold b_L_clock
  repeat infer_instance
  have hnew1 : New s (s.add smallC) s.st.length smallC := .of
  have hnew2 : New (s.add smallC) ((s.add smallC).add largeC) (s.add smallC).st.length largeC := .of
  have at1 := hnew2.at_ _ _ hnew1.new
  have at2 := hnew2.new
  have kp2 := hnew1.toKp.trans hnew2.toKp
  refine W_next (m := 24) (s := (s.add smallC).add largeC) (kp2.seat hseat) (by omega) (by omega) fun v z hv => ?_
  have kp3 : Kp s { (s.add smallC).add largeC with seat := some z } := kp2.sit
  have at1' : At { (s.add smallC).add largeC with seat := some z } s.st.length smallC := at1
  have at2' : At { (s.add smallC).add largeC with seat := some z } (s.add smallC).st.length largeC := at2
  by_cases h20 : v < 20
  · repeat infer_instance
    have hlt : v % 12 < smallC.length := Nat.mod_lt _ (by decide)
    have e1 : (v : Int) % 12 = ((v % 12 : Nat) : Int) := by omega
    show W (ret (dIx _ (.ref s.st.length) (.int ((v : Int) % 12))) _) _
    rw [e1]
    refine W_ixL at1' ?_ (List.getElem?_eq_getElem hlt)
    have hm : smallC[v % 12] ∈ smallC := List.getElem_mem hlt
    exact ⟨hS _ hm, kp3, fun s4 hk => h _ s4 (.inl hm) hk⟩
  · repeat infer_instance
    refine W_next (m := 2) (kp3.seat hseat) (by omega) (by omega) fun v2 z2 hv2 => ?_
    have kp4 : Kp s { ({ (s.add smallC).add largeC with seat := some z } : MS) with seat := some z2 } := kp3.sit
    have at2'' : At { ({ (s.add smallC).add largeC with seat := some z } : MS) with seat := some z2 } (s.add smallC).st.length largeC := at2'
    repeat infer_instance
    have e1 : ((v : Int) - 20 + 4 * v2) % 8 = (((v - 20 + 4 * v2) % 8 : Nat) : Int) := by omega
    show W (ret (dIx _ (.ref (s.add smallC).st.length) (.int (((v : Int) - 20 + 4 * v2) % 8))) _) _
    rw [e1]
    have hlt : (v - 20 + 4 * v2) % 8 < largeC.length := Nat.mod_lt _ (by decide)
    refine W_ixL at2'' ?_ (List.getElem?_eq_getElem hlt)
    have hm : largeC[(v - 20 + 4 * v2) % 8] ∈ largeC := List.getElem_mem hlt
    exact ⟨hL _ hm, kp4, fun s5 hk => h _ s5 (.inr hm) hk⟩
def b_law_rest : SM := (sSeq (sSet 2 (eCB (callN F_L_world) (aCons (eCB (callF F_L_clock) (aCons (eVar 1) aNil)) aNil)))
    (sSeq (sSet 3 (eCB F_L_next (aCons (eVar 1) (aCons (eC (.int 4)) aNil))))
    (sSeq (sIf (tOf (e2 dEq (eVar 3) (eC (.int 2)))) (sRet (eCB (callF F_L_of_sets) (aCons (eVar 2) (aCons (eVar 1) aNil)))) sNil)
    (sSeq (sIf (tOf (e2 dEq (eVar 3) (eC (.int 3)))) (sRet (eCB (callF F_L_of_parts) (aCons (eVar 2) (aCons (eVar 1) aNil)))) sNil)
    (sRet (eCB (callF F_L_of_weights) (aCons (eVar 2) (aCons (eVar 1) aNil))))))))
theorem law_rest (hS : ∀ c ∈ smallC, Good c) (hL : ∀ c ∈ largeC, Good c) {s : MS} (hseat : s.seat.isSome = true) {x0 x2 x3 : Option D} : W (b_law_rest [x0, some .seat, x2, x3] s) fun o _ => o = .rt (.bl true) := by
  have nr : ∀ c, Good c → c.noref = true := fun c hc => by
    obtain ⟨b, rows, T, R, kb, cc, ps, data, rfl, h1, _⟩ := hc
    exact (cl_of h1).toCK.nr
  unfold b_law_rest
  repeat infer_instance
  refine w_clock (fun c hc => nr c (hS c hc)) (fun c hc => nr c (hL c hc)) hseat fun clk s1 hclk kp1 => ?_
  have hg : Good clk := by
    rcases hclk with hc | hc
    · exact hS clk hc
    · exact hL clk hc
  obtain ⟨b, rows, T, R, kb, cc, ps, data, rfl, h1, h2, h3, h4, h5⟩ := hg
  have C := cl_of h1
  have X := cw_of h2
  have Y := cp_of h3
  have Z := cq_of C.toCK h4
  repeat infer_instance
  refine W_mono (w_worldB C.toCK h5 s1) fun wd s2 ⟨kp2, wo⟩ => ?_
  have kp := kp1.trans kp2
  repeat infer_instance
  refine W_next (m := 4) (kp.seat hseat) (by omega) (by omega) fun v z hv => ?_
  have kp3 : Kp s2 { s2 with seat := some z } := (Kp.refl s2).sit
  have wo3 := wo.kp kp3
  have seat3 : ({ s2 with seat := some z } : MS).seat.isSome = true := rfl
  generalize ({ s2 with seat := some z } : MS) = s3 at kp3 wo3 seat3 ⊢
  by_cases hv2 : v = 2
  · repeat infer_instance
    exact w_of_sets C X Y wo3 seat3 fun _ => rfl
  · by_cases hv3 : v = 3
    · repeat infer_instance
      exact w_of_parts C X Y Z wo3 seat3 fun _ => rfl
    · repeat infer_instance
      exact w_of_weights C X wo3 seat3 fun _ => rfl
end Mir
/-! ## PW -/
set_option maxHeartbeats 200000
set_option Elab.async false
set_option linter.all false
set_option maxRecDepth 100000
/-! The plain law: the clocks, checked by the kernel. -/
namespace Mir
/-! clock 0 -/
def pd0 : List PDat := [(1, 1, 0, [0]),
  (1, 2, 0, [0, 3]),
  (1, 2, 1, [0, 5]),
  (1, 2, 2, [0, 4]),
  (3, 1, 0, [0, 1, 2]),
  (3, 2, 0, [0, 1, 2, 3, 4, 5])]
theorem cl0 : clB 3 [(2, 2)] 2 2 1 3 = true := by decide +kernel
theorem cw0 : cwB 3 [(2, 2)] 2 1 3 = true := by decide +kernel
theorem cp0 : cpB 3 [(2, 2)] 2 = true := by decide +kernel
theorem cq0 : cqB 3 [(2, 2)] 2 2 [2, 3] pd0 = true := by decide +kernel
theorem wo0 : wB 3 [(2, 2)] 2 2 = true := by decide +kernel
theorem good0 : Good (clkD 3 [(2, 2)]) := ⟨3, [(2, 2)], 2, 2, 1, 3, [2, 3], pd0, rfl, cl0, cw0, cp0, cq0, wo0⟩
/-! clock 1 -/
def pd1 : List PDat := [(1, 1, 0, [0]),
  (1, 3, 0, [0, 7, 14]),
  (1, 3, 1, [0, 13, 18]),
  (1, 3, 2, [0, 12, 15]),
  (1, 3, 3, [0, 11, 19]),
  (1, 3, 4, [0, 10, 16]),
  (1, 3, 5, [0, 9, 20]),
  (1, 3, 6, [0, 8, 17]),
  (7, 1, 0, [0, 1, 2, 3, 4, 5, 6]),
  (7, 3, 0, [0, 1, 2, 3, 4, 5, 6, 7, 8, 9, 10, 11, 12, 13, 14, 15, 16, 17, 18, 19, 20])]
theorem cl1 : clB 7 [(3, 2)] 3 2 1 7 = true := by decide +kernel
theorem cw1 : cwB 7 [(3, 2)] 3 1 7 = true := by decide +kernel
theorem cp1 : cpB 7 [(3, 2)] 3 = true := by decide +kernel
theorem cq1 : cqB 7 [(3, 2)] 3 2 [3, 7] pd1 = true := by decide +kernel
theorem wo1 : wB 7 [(3, 2)] 3 2 = true := by decide +kernel
theorem good1 : Good (clkD 7 [(3, 2)]) := ⟨7, [(3, 2)], 3, 2, 1, 7, [3, 7], pd1, rfl, cl1, cw1, cp1, cq1, wo1⟩
/-! clock 2 -/
def pd2 : List PDat := [(1, 1, 0, [0]),
  (1, 2, 0, [0, 15]),
  (1, 2, 1, [0, 27]),
  (1, 2, 2, [0, 24]),
  (1, 2, 3, [0, 21]),
  (1, 2, 4, [0, 18]),
  (3, 1, 0, [0, 5, 10]),
  (3, 2, 0, [0, 5, 10, 15, 20, 25]),
  (3, 2, 1, [0, 5, 10, 17, 22, 27]),
  (3, 2, 2, [0, 5, 10, 19, 24, 29]),
  (3, 2, 3, [0, 5, 10, 16, 21, 26]),
  (3, 2, 4, [0, 5, 10, 18, 23, 28]),
  (5, 1, 0, [0, 3, 6, 9, 12]),
  (5, 2, 0, [0, 3, 6, 9, 12, 15, 18, 21, 24, 27]),
  (15, 1, 0, [0, 1, 2, 3, 4, 5, 6, 7, 8, 9, 10, 11, 12, 13, 14]),
  (15, 2, 0, [0, 1, 2, 3, 4, 5, 6, 7, 8, 9, 10, 11, 12, 13, 14, 15, 16, 17, 18, 19, 20, 21, 22, 23, 24, 25, 26, 27, 28, 29])]
theorem cl2 : clB 15 [(2, 4)] 2 4 3 5 = true := by decide +kernel
theorem cw2 : cwB 15 [(2, 4)] 2 3 5 = true := by decide +kernel
theorem cp2 : cpB 15 [(2, 4)] 2 = true := by decide +kernel
theorem cq2 : cqB 15 [(2, 4)] 2 4 [2, 3, 5] pd2 = true := by decide +kernel
theorem wo2 : wB 15 [(2, 4)] 2 4 = true := by decide +kernel
theorem good2 : Good (clkD 15 [(2, 4)]) := ⟨15, [(2, 4)], 2, 4, 3, 5, [2, 3, 5], pd2, rfl, cl2, cw2, cp2, cq2, wo2⟩
/-! clock 3 -/
def pd3 : List PDat := [(1, 1, 0, [0]),
  (1, 2, 0, [0, 5]),
  (1, 2, 1, [0, 7]),
  (1, 2, 2, [0, 9]),
  (1, 2, 3, [0, 6]),
  (1, 2, 4, [0, 8]),
  (5, 1, 0, [0, 1, 2, 3, 4]),
  (5, 2, 0, [0, 1, 2, 3, 4, 5, 6, 7, 8, 9])]
theorem cl3 : clB 5 [(2, 4)] 2 4 1 5 = true := by decide +kernel
theorem cw3 : cwB 5 [(2, 4)] 2 1 5 = true := by decide +kernel
theorem cp3 : cpB 5 [(2, 4)] 2 = true := by decide +kernel
theorem cq3 : cqB 5 [(2, 4)] 2 4 [2, 5] pd3 = true := by decide +kernel
theorem wo3 : wB 5 [(2, 4)] 2 4 = true := by decide +kernel
theorem good3 : Good (clkD 5 [(2, 4)]) := ⟨5, [(2, 4)], 2, 4, 1, 5, [2, 5], pd3, rfl, cl3, cw3, cp3, cq3, wo3⟩
/-! clock 4 -/
def pd4 : List PDat := [(1, 1, 0, [0]),
  (1, 2, 0, [0, 15]),
  (1, 2, 1, [0, 17]),
  (1, 2, 2, [0, 19]),
  (1, 2, 3, [0, 21]),
  (1, 2, 4, [0, 23]),
  (1, 2, 5, [0, 25]),
  (1, 2, 6, [0, 27]),
  (1, 2, 7, [0, 29]),
  (1, 2, 8, [0, 16]),
  (1, 2, 9, [0, 18]),
  (1, 2, 10, [0, 20]),
  (1, 2, 11, [0, 22]),
  (1, 2, 12, [0, 24]),
  (1, 2, 13, [0, 26]),
  (1, 2, 14, [0, 28]),
  (3, 1, 0, [0, 5, 10]),
  (3, 2, 0, [0, 5, 10, 15, 20, 25]),
  (3, 2, 1, [0, 5, 10, 17, 22, 27]),
  (3, 2, 2, [0, 5, 10, 19, 24, 29]),
  (3, 2, 3, [0, 5, 10, 16, 21, 26]),
  (3, 2, 4, [0, 5, 10, 18, 23, 28]),
  (5, 1, 0, [0, 3, 6, 9, 12]),
  (5, 2, 0, [0, 3, 6, 9, 12, 15, 18, 21, 24, 27]),
  (5, 2, 1, [0, 3, 6, 9, 12, 17, 20, 23, 26, 29]),
  (5, 2, 2, [0, 3, 6, 9, 12, 16, 19, 22, 25, 28]),
  (15, 1, 0, [0, 1, 2, 3, 4, 5, 6, 7, 8, 9, 10, 11, 12, 13, 14]),
  (15, 2, 0, [0, 1, 2, 3, 4, 5, 6, 7, 8, 9, 10, 11, 12, 13, 14, 15, 16, 17, 18, 19, 20, 21, 22, 23, 24, 25, 26, 27, 28, 29])]
theorem cl4 : clB 15 [(2, 14)] 2 14 1 15 = true := by decide +kernel
theorem cw4 : cwB 15 [(2, 14)] 2 1 15 = true := by decide +kernel
theorem cp4 : cpB 15 [(2, 14)] 2 = true := by decide +kernel
theorem cq4 : cqB 15 [(2, 14)] 2 14 [2, 3, 5] pd4 = true := by decide +kernel
theorem wo4 : wB 15 [(2, 14)] 2 14 = true := by decide +kernel
theorem good4 : Good (clkD 15 [(2, 14)]) := ⟨15, [(2, 14)], 2, 14, 1, 15, [2, 3, 5], pd4, rfl, cl4, cw4, cp4, cq4, wo4⟩
/-! clock 5 -/
def pd5 : List PDat := [(1, 1, 0, [0]),
  (1, 2, 0, [0, 3]),
  (3, 1, 0, [0, 1, 2]),
  (3, 2, 0, [0, 1, 2, 3, 4, 5])]
theorem cl5 : clB 3 [(2, 1)] 2 1 3 1 = true := by decide +kernel
theorem cw5 : cwB 3 [(2, 1)] 2 3 1 = true := by decide +kernel
theorem cp5 : cpB 3 [(2, 1)] 2 = true := by decide +kernel
theorem cq5 : cqB 3 [(2, 1)] 2 1 [2, 3] pd5 = true := by decide +kernel
theorem wo5 : wB 3 [(2, 1)] 2 1 = true := by decide +kernel
theorem good5 : Good (clkD 3 [(2, 1)]) := ⟨3, [(2, 1)], 2, 1, 3, 1, [2, 3], pd5, rfl, cl5, cw5, cp5, cq5, wo5⟩
/-! clock 6 -/
def pd6 : List PDat := [(1, 1, 0, [0]),
  (1, 2, 0, [0, 7]),
  (1, 2, 1, [0, 9]),
  (1, 2, 2, [0, 11]),
  (1, 2, 3, [0, 13]),
  (1, 2, 4, [0, 8]),
  (1, 2, 5, [0, 10]),
  (1, 2, 6, [0, 12]),
  (7, 1, 0, [0, 1, 2, 3, 4, 5, 6]),
  (7, 2, 0, [0, 1, 2, 3, 4, 5, 6, 7, 8, 9, 10, 11, 12, 13])]
theorem cl6 : clB 7 [(2, 6)] 2 6 1 7 = true := by decide +kernel
theorem cw6 : cwB 7 [(2, 6)] 2 1 7 = true := by decide +kernel
theorem cp6 : cpB 7 [(2, 6)] 2 = true := by decide +kernel
theorem cq6 : cqB 7 [(2, 6)] 2 6 [2, 7] pd6 = true := by decide +kernel
theorem wo6 : wB 7 [(2, 6)] 2 6 = true := by decide +kernel
theorem good6 : Good (clkD 7 [(2, 6)]) := ⟨7, [(2, 6)], 2, 6, 1, 7, [2, 7], pd6, rfl, cl6, cw6, cp6, cq6, wo6⟩
/-! clock 7 -/
def pd7 : List PDat := [(1, 1, 0, [0]),
  (2, 1, 0, [0, 3]),
  (3, 1, 0, [0, 2, 4]),
  (6, 1, 0, [0, 1, 2, 3, 4, 5])]
theorem cl7 : clB 6 [] 1 1 6 1 = true := by decide +kernel
theorem cw7 : cwB 6 [] 1 6 1 = true := by decide +kernel
theorem cp7 : cpB 6 [] 1 = true := by decide +kernel
theorem cq7 : cqB 6 [] 1 1 [2, 3] pd7 = true := by decide +kernel
theorem wo7 : wB 6 [] 1 1 = true := by decide +kernel
theorem good7 : Good (clkD 6 []) := ⟨6, [], 1, 1, 6, 1, [2, 3], pd7, rfl, cl7, cw7, cp7, cq7, wo7⟩
/-! clock 8 -/
def pd8 : List PDat := [(1, 1, 0, [0]),
  (1, 3, 0, [0, 2, 4]),
  (2, 1, 0, [0, 1]),
  (2, 3, 0, [0, 1, 2, 3, 4, 5])]
theorem cl8 : clB 2 [(3, 1)] 3 1 2 1 = true := by decide +kernel
theorem cw8 : cwB 2 [(3, 1)] 3 2 1 = true := by decide +kernel
theorem cp8 : cpB 2 [(3, 1)] 3 = true := by decide +kernel
theorem cq8 : cqB 2 [(3, 1)] 3 1 [2, 3] pd8 = true := by decide +kernel
theorem wo8 : wB 2 [(3, 1)] 3 1 = true := by decide +kernel
theorem good8 : Good (clkD 2 [(3, 1)]) := ⟨2, [(3, 1)], 3, 1, 2, 1, [2, 3], pd8, rfl, cl8, cw8, cp8, cq8, wo8⟩
/-! clock 9 -/
def pd9 : List PDat := [(1, 1, 0, [0]),
  (1, 3, 0, [0, 7, 14]),
  (1, 3, 1, [0, 11, 20]),
  (1, 3, 2, [0, 8, 19]),
  (1, 3, 3, [0, 12, 18]),
  (1, 3, 4, [0, 9, 17]),
  (1, 3, 5, [0, 13, 16]),
  (1, 3, 6, [0, 10, 15]),
  (7, 1, 0, [0, 1, 2, 3, 4, 5, 6]),
  (7, 3, 0, [0, 1, 2, 3, 4, 5, 6, 7, 8, 9, 10, 11, 12, 13, 14, 15, 16, 17, 18, 19, 20])]
theorem cl9 : clB 7 [(3, 4)] 3 4 1 7 = true := by decide +kernel
theorem cw9 : cwB 7 [(3, 4)] 3 1 7 = true := by decide +kernel
theorem cp9 : cpB 7 [(3, 4)] 3 = true := by decide +kernel
theorem cq9 : cqB 7 [(3, 4)] 3 4 [3, 7] pd9 = true := by decide +kernel
theorem wo9 : wB 7 [(3, 4)] 3 4 = true := by decide +kernel
theorem good9 : Good (clkD 7 [(3, 4)]) := ⟨7, [(3, 4)], 3, 4, 1, 7, [3, 7], pd9, rfl, cl9, cw9, cp9, cq9, wo9⟩
/-! clock 10 -/
def pd10 : List PDat := [(1, 1, 0, [0]),
  (1, 2, 0, [0, 3]),
  (1, 3, 0, [0, 2, 4]),
  (1, 6, 0, [0, 1, 2, 3, 4, 5])]
theorem cl10 : clB 1 [(2, 1), (3, 1)] 6 1 1 1 = true := by decide +kernel
theorem cw10 : cwB 1 [(2, 1), (3, 1)] 6 1 1 = true := by decide +kernel
theorem cp10 : cpB 1 [(2, 1), (3, 1)] 6 = true := by decide +kernel
theorem cq10 : cqB 1 [(2, 1), (3, 1)] 6 1 [2, 3] pd10 = true := by decide +kernel
theorem wo10 : wB 1 [(2, 1), (3, 1)] 6 1 = true := by decide +kernel
theorem good10 : Good (clkD 1 [(2, 1), (3, 1)]) := ⟨1, [(2, 1), (3, 1)], 6, 1, 1, 1, [2, 3], pd10, rfl, cl10, cw10, cp10, cq10, wo10⟩
/-! clock 11 -/
def pd11 : List PDat := [(1, 1, 0, [0])]
theorem cl11 : clB 1 [] 1 1 1 1 = true := by decide +kernel
theorem cw11 : cwB 1 [] 1 1 1 = true := by decide +kernel
theorem cp11 : cpB 1 [] 1 = true := by decide +kernel
theorem cq11 : cqB 1 [] 1 1 [] pd11 = true := by decide +kernel
theorem wo11 : wB 1 [] 1 1 = true := by decide +kernel
theorem good11 : Good (clkD 1 []) := ⟨1, [], 1, 1, 1, 1, [], pd11, rfl, cl11, cw11, cp11, cq11, wo11⟩
/-! clock 12 -/
def pd12 : List PDat := [(1, 1, 0, [0]),
  (1, 2, 0, [0, 21]),
  (1, 2, 1, [0, 23]),
  (1, 2, 2, [0, 25]),
  (1, 2, 3, [0, 27]),
  (1, 2, 4, [0, 22]),
  (1, 2, 5, [0, 24]),
  (1, 2, 6, [0, 26]),
  (1, 3, 0, [0, 14, 28]),
  (1, 3, 1, [0, 18, 34]),
  (1, 3, 2, [0, 15, 33]),
  (1, 3, 3, [0, 19, 32]),
  (1, 3, 4, [0, 16, 31]),
  (1, 3, 5, [0, 20, 30]),
  (1, 3, 6, [0, 17, 29]),
  (1, 6, 0, [0, 7, 14, 21, 28, 35]),
  (1, 6, 1, [0, 10, 18, 23, 34, 40]),
  (1, 6, 2, [0, 13, 15, 25, 33, 38]),
  (1, 6, 3, [0, 9, 19, 27, 32, 36]),
  (1, 6, 4, [0, 12, 16, 22, 31, 41]),
  (1, 6, 5, [0, 8, 20, 24, 30, 39]),
  (1, 6, 6, [0, 11, 17, 26, 29, 37]),
  (7, 1, 0, [0, 1, 2, 3, 4, 5, 6]),
  (7, 2, 0, [0, 1, 2, 3, 4, 5, 6, 21, 22, 23, 24, 25, 26, 27]),
  (7, 3, 0, [0, 1, 2, 3, 4, 5, 6, 14, 15, 16, 17, 18, 19, 20, 28, 29, 30, 31, 32, 33, 34]),
  (7, 6, 0, [0, 1, 2, 3, 4, 5, 6, 7, 8, 9, 10, 11, 12, 13, 14, 15, 16, 17, 18, 19, 20, 21, 22, 23, 24, 25, 26, 27, 28, 29, 30, 31, 32, 33, 34, 35, 36, 37, 38, 39, 40, 41])]
theorem cl12 : clB 7 [(2, 6), (3, 2)] 6 12 1 7 = true := by decide +kernel
theorem cw12 : cwB 7 [(2, 6), (3, 2)] 6 1 7 = true := by decide +kernel
theorem cp12 : cpB 7 [(2, 6), (3, 2)] 6 = true := by decide +kernel
theorem cq12 : cqB 7 [(2, 6), (3, 2)] 6 12 [2, 3, 7] pd12 = true := by decide +kernel
theorem wo12 : wB 7 [(2, 6), (3, 2)] 6 12 = true := by decide +kernel
theorem good12 : Good (clkD 7 [(2, 6), (3, 2)]) := ⟨7, [(2, 6), (3, 2)], 6, 12, 1, 7, [2, 3, 7], pd12, rfl, cl12, cw12, cp12, cq12, wo12⟩
/-! clock 13 -/
def pd13 : List PDat := [(1, 1, 0, [0]),
  (1, 3, 0, [0, 13, 26]),
  (1, 3, 1, [0, 24, 31]),
  (1, 3, 2, [0, 22, 36]),
  (1, 3, 3, [0, 20, 28]),
  (1, 3, 4, [0, 18, 33]),
  (1, 3, 5, [0, 16, 38]),
  (1, 3, 6, [0, 14, 30]),
  (1, 3, 7, [0, 25, 35]),
  (1, 3, 8, [0, 23, 27]),
  (1, 3, 9, [0, 21, 32]),
  (1, 3, 10, [0, 19, 37]),
  (1, 3, 11, [0, 17, 29]),
  (1, 3, 12, [0, 15, 34]),
  (13, 1, 0, [0, 1, 2, 3, 4, 5, 6, 7, 8, 9, 10, 11, 12]),
  (13, 3, 0, [0, 1, 2, 3, 4, 5, 6, 7, 8, 9, 10, 11, 12, 13, 14, 15, 16, 17, 18, 19, 20, 21, 22, 23, 24, 25, 26, 27, 28, 29, 30, 31, 32, 33, 34, 35, 36, 37, 38])]
theorem cl13 : clB 13 [(3, 3)] 3 3 1 13 = true := by decide +kernel
theorem cw13 : cwB 13 [(3, 3)] 3 1 13 = true := by decide +kernel
theorem cp13 : cpB 13 [(3, 3)] 3 = true := by decide +kernel
theorem cq13 : cqB 13 [(3, 3)] 3 3 [3, 13] pd13 = true := by decide +kernel
theorem wo13 : wB 13 [(3, 3)] 3 3 = true := by decide +kernel
theorem good13 : Good (clkD 13 [(3, 3)]) := ⟨13, [(3, 3)], 3, 3, 1, 13, [3, 13], pd13, rfl, cl13, cw13, cp13, cq13, wo13⟩
/-! clock 14 -/
def pd14 : List PDat := [(1, 1, 0, [0]),
  (1, 3, 0, [0, 19, 38]),
  (1, 3, 1, [0, 32, 47]),
  (1, 3, 2, [0, 26, 56]),
  (1, 3, 3, [0, 20, 46]),
  (1, 3, 4, [0, 33, 55]),
  (1, 3, 5, [0, 27, 45]),
  (1, 3, 6, [0, 21, 54]),
  (1, 3, 7, [0, 34, 44]),
  (1, 3, 8, [0, 28, 53]),
  (1, 3, 9, [0, 22, 43]),
  (1, 3, 10, [0, 35, 52]),
  (1, 3, 11, [0, 29, 42]),
  (1, 3, 12, [0, 23, 51]),
  (1, 3, 13, [0, 36, 41]),
  (1, 3, 14, [0, 30, 50]),
  (1, 3, 15, [0, 24, 40]),
  (1, 3, 16, [0, 37, 49]),
  (1, 3, 17, [0, 31, 39]),
  (1, 3, 18, [0, 25, 48]),
  (19, 1, 0, [0, 1, 2, 3, 4, 5, 6, 7, 8, 9, 10, 11, 12, 13, 14, 15, 16, 17, 18]),
  (19, 3, 0, [0, 1, 2, 3, 4, 5, 6, 7, 8, 9, 10, 11, 12, 13, 14, 15, 16, 17, 18, 19, 20, 21, 22, 23, 24, 25, 26, 27, 28, 29, 30, 31, 32, 33, 34, 35, 36, 37, 38, 39, 40, 41, 42, 43, 44, 45, 46, 47, 48, 49, 50, 51, 52, 53, 54, 55, 56])]
theorem cl14 : clB 19 [(3, 7)] 3 7 1 19 = true := by decide +kernel
theorem cw14 : cwB 19 [(3, 7)] 3 1 19 = true := by decide +kernel
theorem cp14 : cpB 19 [(3, 7)] 3 = true := by decide +kernel
theorem cq14 : cqB 19 [(3, 7)] 3 7 [3, 19] pd14 = true := by decide +kernel
theorem wo14 : wB 19 [(3, 7)] 3 7 = true := by decide +kernel
theorem good14 : Good (clkD 19 [(3, 7)]) := ⟨19, [(3, 7)], 3, 7, 1, 19, [3, 19], pd14, rfl, cl14, cw14, cp14, cq14, wo14⟩
/-! clock 15 -/
def pd15 : List PDat := [(1, 1, 0, [0]),
  (1, 3, 0, [0, 14, 28]),
  (1, 3, 1, [0, 20, 32]),
  (1, 3, 2, [0, 26, 36]),
  (1, 3, 3, [0, 18, 40]),
  (1, 3, 4, [0, 24, 30]),
  (1, 3, 5, [0, 16, 34]),
  (1, 3, 6, [0, 22, 38]),
  (2, 1, 0, [0, 7]),
  (2, 3, 0, [0, 7, 14, 21, 28, 35]),
  (2, 3, 1, [0, 7, 20, 27, 32, 39]),
  (2, 3, 2, [0, 7, 19, 26, 29, 36]),
  (2, 3, 3, [0, 7, 18, 25, 33, 40]),
  (2, 3, 4, [0, 7, 17, 24, 30, 37]),
  (2, 3, 5, [0, 7, 16, 23, 34, 41]),
  (2, 3, 6, [0, 7, 15, 22, 31, 38]),
  (7, 1, 0, [0, 2, 4, 6, 8, 10, 12]),
  (7, 3, 0, [0, 2, 4, 6, 8, 10, 12, 14, 16, 18, 20, 22, 24, 26, 28, 30, 32, 34, 36, 38, 40]),
  (14, 1, 0, [0, 1, 2, 3, 4, 5, 6, 7, 8, 9, 10, 11, 12, 13]),
  (14, 3, 0, [0, 1, 2, 3, 4, 5, 6, 7, 8, 9, 10, 11, 12, 13, 14, 15, 16, 17, 18, 19, 20, 21, 22, 23, 24, 25, 26, 27, 28, 29, 30, 31, 32, 33, 34, 35, 36, 37, 38, 39, 40, 41])]
theorem cl15 : clB 14 [(3, 9)] 3 9 2 7 = true := by decide +kernel
theorem cw15 : cwB 14 [(3, 9)] 3 2 7 = true := by decide +kernel
theorem cp15 : cpB 14 [(3, 9)] 3 = true := by decide +kernel
theorem cq15 : cqB 14 [(3, 9)] 3 9 [2, 3, 7] pd15 = true := by decide +kernel
theorem wo15 : wB 14 [(3, 9)] 3 9 = true := by decide +kernel
theorem good15 : Good (clkD 14 [(3, 9)]) := ⟨14, [(3, 9)], 3, 9, 2, 7, [2, 3, 7], pd15, rfl, cl15, cw15, cp15, cq15, wo15⟩
/-! clock 16 -/
def pd16 : List PDat := [(1, 1, 0, [0]),
  (1, 2, 0, [0, 15]),
  (1, 2, 1, [0, 17]),
  (1, 2, 2, [0, 19]),
  (1, 2, 3, [0, 16]),
  (1, 2, 4, [0, 18]),
  (1, 3, 0, [0, 10, 20]),
  (1, 6, 0, [0, 5, 10, 15, 20, 25]),
  (1, 6, 1, [0, 7, 10, 17, 20, 27]),
  (1, 6, 2, [0, 9, 10, 19, 20, 29]),
  (1, 6, 3, [0, 6, 10, 16, 20, 26]),
  (1, 6, 4, [0, 8, 10, 18, 20, 28]),
  (5, 1, 0, [0, 1, 2, 3, 4]),
  (5, 2, 0, [0, 1, 2, 3, 4, 15, 16, 17, 18, 19]),
  (5, 3, 0, [0, 1, 2, 3, 4, 10, 11, 12, 13, 14, 20, 21, 22, 23, 24]),
  (5, 6, 0, [0, 1, 2, 3, 4, 5, 6, 7, 8, 9, 10, 11, 12, 13, 14, 15, 16, 17, 18, 19, 20, 21, 22, 23, 24, 25, 26, 27, 28, 29])]
theorem cl16 : clB 5 [(2, 4), (3, 1)] 6 4 1 5 = true := by decide +kernel
theorem cw16 : cwB 5 [(2, 4), (3, 1)] 6 1 5 = true := by decide +kernel
theorem cp16 : cpB 5 [(2, 4), (3, 1)] 6 = true := by decide +kernel
theorem cq16 : cqB 5 [(2, 4), (3, 1)] 6 4 [2, 3, 5] pd16 = true := by decide +kernel
theorem wo16 : wB 5 [(2, 4), (3, 1)] 6 4 = true := by decide +kernel
theorem good16 : Good (clkD 5 [(2, 4), (3, 1)]) := ⟨5, [(2, 4), (3, 1)], 6, 4, 1, 5, [2, 3, 5], pd16, rfl, cl16, cw16, cp16, cq16, wo16⟩
/-! clock 17 -/
def pd17 : List PDat := [(1, 1, 0, [0]),
  (1, 2, 0, [0, 29]),
  (1, 2, 1, [0, 31]),
  (1, 2, 2, [0, 33]),
  (1, 2, 3, [0, 35]),
  (1, 2, 4, [0, 37]),
  (1, 2, 5, [0, 39]),
  (1, 2, 6, [0, 41]),
  (1, 2, 7, [0, 43]),
  (1, 2, 8, [0, 45]),
  (1, 2, 9, [0, 47]),
  (1, 2, 10, [0, 49]),
  (1, 2, 11, [0, 51]),
  (1, 2, 12, [0, 53]),
  (1, 2, 13, [0, 55]),
  (1, 2, 14, [0, 57]),
  (1, 2, 15, [0, 30]),
  (1, 2, 16, [0, 32]),
  (1, 2, 17, [0, 34]),
  (1, 2, 18, [0, 36]),
  (1, 2, 19, [0, 38]),
  (1, 2, 20, [0, 40]),
  (1, 2, 21, [0, 42]),
  (1, 2, 22, [0, 44]),
  (1, 2, 23, [0, 46]),
  (1, 2, 24, [0, 48]),
  (1, 2, 25, [0, 50]),
  (1, 2, 26, [0, 52]),
  (1, 2, 27, [0, 54]),
  (1, 2, 28, [0, 56]),
  (29, 1, 0, [0, 1, 2, 3, 4, 5, 6, 7, 8, 9, 10, 11, 12, 13, 14, 15, 16, 17, 18, 19, 20, 21, 22, 23, 24, 25, 26, 27, 28]),
  (29, 2, 0, [0, 1, 2, 3, 4, 5, 6, 7, 8, 9, 10, 11, 12, 13, 14, 15, 16, 17, 18, 19, 20, 21, 22, 23, 24, 25, 26, 27, 28, 29, 30, 31, 32, 33, 34, 35, 36, 37, 38, 39, 40, 41, 42, 43, 44, 45, 46, 47, 48, 49, 50, 51, 52, 53, 54, 55, 56, 57])]
theorem cl17 : clB 29 [(2, 28)] 2 28 1 29 = true := by decide +kernel
theorem cw17 : cwB 29 [(2, 28)] 2 1 29 = true := by decide +kernel
theorem cp17 : cpB 29 [(2, 28)] 2 = true := by decide +kernel
theorem cq17 : cqB 29 [(2, 28)] 2 28 [2, 29] pd17 = true := by decide +kernel
theorem wo17 : wB 29 [(2, 28)] 2 28 = true := by decide +kernel
theorem good17 : Good (clkD 29 [(2, 28)]) := ⟨29, [(2, 28)], 2, 28, 1, 29, [2, 29], pd17, rfl, cl17, cw17, cp17, cq17, wo17⟩
/-! clock 18 -/
def pd18 : List PDat := [(1, 1, 0, [0]),
  (1, 5, 0, [0, 11, 22, 33, 44]),
  (1, 5, 1, [0, 20, 25, 40, 52]),
  (1, 5, 2, [0, 18, 28, 36, 49]),
  (1, 5, 3, [0, 16, 31, 43, 46]),
  (1, 5, 4, [0, 14, 23, 39, 54]),
  (1, 5, 5, [0, 12, 26, 35, 51]),
  (1, 5, 6, [0, 21, 29, 42, 48]),
  (1, 5, 7, [0, 19, 32, 38, 45]),
  (1, 5, 8, [0, 17, 24, 34, 53]),
  (1, 5, 9, [0, 15, 27, 41, 50]),
  (1, 5, 10, [0, 13, 30, 37, 47]),
  (11, 1, 0, [0, 1, 2, 3, 4, 5, 6, 7, 8, 9, 10]),
  (11, 5, 0, [0, 1, 2, 3, 4, 5, 6, 7, 8, 9, 10, 11, 12, 13, 14, 15, 16, 17, 18, 19, 20, 21, 22, 23, 24, 25, 26, 27, 28, 29, 30, 31, 32, 33, 34, 35, 36, 37, 38, 39, 40, 41, 42, 43, 44, 45, 46, 47, 48, 49, 50, 51, 52, 53, 54])]
theorem cl18 : clB 11 [(5, 3)] 5 3 1 11 = true := by decide +kernel
theorem cw18 : cwB 11 [(5, 3)] 5 1 11 = true := by decide +kernel
theorem cp18 : cpB 11 [(5, 3)] 5 = true := by decide +kernel
theorem cq18 : cqB 11 [(5, 3)] 5 3 [5, 11] pd18 = true := by decide +kernel
theorem wo18 : wB 11 [(5, 3)] 5 3 = true := by decide +kernel
theorem good18 : Good (clkD 11 [(5, 3)]) := ⟨11, [(5, 3)], 5, 3, 1, 11, [5, 11], pd18, rfl, cl18, cw18, cp18, cq18, wo18⟩
/-! clock 19 -/
def pd19 : List PDat := [(1, 1, 0, [0]),
  (1, 2, 0, [0, 21]),
  (1, 2, 1, [0, 23]),
  (1, 2, 2, [0, 25]),
  (1, 2, 3, [0, 27]),
  (1, 2, 4, [0, 29]),
  (1, 2, 5, [0, 31]),
  (1, 2, 6, [0, 33]),
  (1, 2, 7, [0, 35]),
  (1, 2, 8, [0, 37]),
  (1, 2, 9, [0, 39]),
  (1, 2, 10, [0, 41]),
  (1, 2, 11, [0, 22]),
  (1, 2, 12, [0, 24]),
  (1, 2, 13, [0, 26]),
  (1, 2, 14, [0, 28]),
  (1, 2, 15, [0, 30]),
  (1, 2, 16, [0, 32]),
  (1, 2, 17, [0, 34]),
  (1, 2, 18, [0, 36]),
  (1, 2, 19, [0, 38]),
  (1, 2, 20, [0, 40]),
  (3, 1, 0, [0, 7, 14]),
  (3, 2, 0, [0, 7, 14, 21, 28, 35]),
  (3, 2, 1, [0, 7, 14, 23, 30, 37]),
  (3, 2, 2, [0, 7, 14, 25, 32, 39]),
  (3, 2, 3, [0, 7, 14, 27, 34, 41]),
  (3, 2, 4, [0, 7, 14, 22, 29, 36]),
  (3, 2, 5, [0, 7, 14, 24, 31, 38]),
  (3, 2, 6, [0, 7, 14, 26, 33, 40]),
  (7, 1, 0, [0, 3, 6, 9, 12, 15, 18]),
  (7, 2, 0, [0, 3, 6, 9, 12, 15, 18, 21, 24, 27, 30, 33, 36, 39]),
  (7, 2, 1, [0, 3, 6, 9, 12, 15, 18, 23, 26, 29, 32, 35, 38, 41]),
  (7, 2, 2, [0, 3, 6, 9, 12, 15, 18, 22, 25, 28, 31, 34, 37, 40]),
  (21, 1, 0, [0, 1, 2, 3, 4, 5, 6, 7, 8, 9, 10, 11, 12, 13, 14, 15, 16, 17, 18, 19, 20]),
  (21, 2, 0, [0, 1, 2, 3, 4, 5, 6, 7, 8, 9, 10, 11, 12, 13, 14, 15, 16, 17, 18, 19, 20, 21, 22, 23, 24, 25, 26, 27, 28, 29, 30, 31, 32, 33, 34, 35, 36, 37, 38, 39, 40, 41])]
theorem cl19 : clB 21 [(2, 20)] 2 20 1 21 = true := by decide +kernel
theorem cw19 : cwB 21 [(2, 20)] 2 1 21 = true := by decide +kernel
theorem cp19 : cpB 21 [(2, 20)] 2 = true := by decide +kernel
theorem cq19 : cqB 21 [(2, 20)] 2 20 [2, 3, 7] pd19 = true := by decide +kernel
theorem wo19 : wB 21 [(2, 20)] 2 20 = true := by decide +kernel
theorem good19 : Good (clkD 21 [(2, 20)]) := ⟨21, [(2, 20)], 2, 20, 1, 21, [2, 3, 7], pd19, rfl, cl19, cw19, cp19, cq19, wo19⟩
end Mir
/-! ## WR -/
set_option maxHeartbeats 200000
set_option Elab.async false
set_option linter.all false
set_option maxRecDepth 100000
/-! The seat: the raw draw over two lists, told as the draw of the seat. -/
namespace Mir
open PySem PySem.Spec PyProof.Rows L2
local macro_rules | `(tactic| infer_instance) => `(tactic| first
  | with_reducible apply W_sSeq | with_reducible apply W_sSet | with_reducible apply SK_nx | with_reducible apply SK_rt | ((with_reducible apply Y_eVar); rfl) | with_reducible apply W_eC | with_reducible apply W_aCons | with_reducible apply W_aNil | with_reducible apply W_e2 | with_reducible apply W_e1 | with_reducible apply W_eCB
  | ((with_reducible apply Y_mulN); omega) | ((with_reducible apply Y_divN); omega) | ((with_reducible apply Y_modN); omega) | with_reducible apply W_addN | ((with_reducible apply Y_ret); rfl) | ((with_reducible apply Y_mulI); omega) | ((with_reducible apply Y_divI); omega) | ((with_reducible apply Y_modI); omega)
  | with_reducible apply W_tOf | with_reducible apply W_tNot | with_reducible apply W_tAnd | with_reducible apply W_tOr | with_reducible apply W_tYes | with_reducible apply W_eAnd | with_reducible apply W_eOr | with_reducible apply W_eNot | with_reducible apply W_eIf | with_reducible apply W_eIx | with_reducible apply W_eTup | with_reducible apply W_eLst
  | with_reducible apply W_sIf | with_reducible apply W_sRet | with_reducible apply W_sDrop | with_reducible apply W_sNil | with_reducible apply W_sAsg | with_reducible apply W_sPar | with_reducible apply W_sAugIx | with_reducible apply W_sFor | with_reducible apply W_gtName | ((with_reducible apply Y_gtTup); rfl) | with_reducible apply W_gtCons | with_reducible apply W_gtNil | with_reducible apply W_gtSub
  | with_reducible apply W_iTup | with_reducible apply W_iRng1 | with_reducible apply W_iRng2 | with_reducible apply W_iEnum | with_reducible apply W_iLst | with_reducible apply W_eApp
  | (with_reducible apply Y_lenV) | ((with_reducible apply Y_lenT); rfl) | ((with_reducible apply ite_t); exact rfl) | ((with_reducible apply ite_f); exact rfl) | ((with_reducible apply ite_t); exact decide_eq_true (by omega)) | ((with_reducible apply ite_f); exact decide_eq_false (by omega)) | ((with_reducible apply ite_t); exact not_t (decide_eq_false (by omega))) | ((with_reducible apply ite_f); exact not_f (decide_eq_true (by omega)))
   | ((with_reducible apply Y_ixLV); (first | assumption | rfl); (first | assumption | omega)) | ((with_reducible apply Y_ixTV); (first | assumption | omega)) | ((with_reducible apply Y_ixTV0); (first | assumption | omega)) | ((with_reducible apply Y_ixLV0); (first | assumption | rfl); (first | assumption | omega)) | with_reducible apply Y_int | with_reducible apply Y_sumT | ((with_reducible apply Y_sumL); (first | assumption | rfl)) | with_reducible apply Y_intB | ((with_reducible apply W_tupL); (first | assumption | rfl)) | ((with_reducible apply Y_lenLV); (first | assumption | rfl)) | with_reducible refine ⟨_, rfl, ?_⟩ | exact rfl | refine ⟨(Nat.le_of_ble_eq_true rfl : List.length _ ≤ 1000), ?_⟩)
/-- back from the two lists' world -/
theorem relabel {w : Wd} {s : MS} {a g : Addr} (k : WOk w s) (hw : w.w = [a, g]) {w3 : Wd} {s3 : MS} (k3 : WOk w3 s3) (l3 : Le ⟨w.H, [a, g], []⟩ w3) {j : Nat} (hj : 1 ≤ j) {gs' : List Int} {mix' : Int}
    (h0 : s3.st[0]? = some [.ref j, .int mix']) (h1 : s3.st[j]? = some (gs'.map D.int)) : ∃ g', WOk ⟨w3.H, w.r, [a, g']⟩ { s with seat := some (gs', mix') } ∧ Le w ⟨w3.H, w.r, [a, g']⟩ := by
  obtain ⟨more, em⟩ := l3.pre
  have e0 : w3.r[0]? = some a := by rw [em]; rfl
  obtain ⟨a0, vs0, f1, f2, f3⟩ := k3.lst 0 _ h0
  rw [e0] at f1
  cases f1
  obtain ⟨g', us, q1, q2, q3⟩ := k3.lst j _ h1
  obtain ⟨v0, v1, rfl, r0, r1⟩ := f3.two
  cases r1
  cases r0 with
  | ref hr =>
    rw [q1] at hr
    cases hr
    have nd3 : w3.r.Nodup := (List.nodup_append.mp k3.nd).2.1
    have hnd := k.nd
    rw [hw] at hnd
    have nda : ∀ x, x ∈ w.r → x ≠ a ∧ x ≠ g := fun x hx => by
      have := (List.nodup_append.mp hnd).2.2
      exact ⟨fun e => this a (by simp) x hx e.symm, fun e => this g (by simp) x hx e.symm⟩
    have hga : g' ≠ a := fun e => by
      subst e
      have := nd_ix nd3 q1 e0
      omega
    have hg : g' = g ∨ w.H g' = none := by
      rcases l3.ownR g' (List.mem_of_getElem? q1) with z | z
      · rcases List.mem_cons.mp z with e | z
        · exact absurd e hga
        · exact .inl (List.mem_singleton.mp z)
      · exact .inr z
    have hgr : g' ∉ w.r := fun z => by
      rcases hg with e | e
      · exact (nda g' z).2 e
      · exact (k.fresh e).1 z
    have keep : ∀ p o, w.H p = some o → p ≠ a → p ≠ g → w3.H p = some o := fun p o hp n1 n2 => l3.keep p o hp (by simp [n1, n2]) (by simp)
    have sub : Sub w ⟨w3.H, w.r, [a, g']⟩ := ⟨l3.tups, ⟨[], by simp⟩, by rw [hw]; rfl⟩
    refine ⟨g', ⟨k.len, ?_, fun i xs e => ?_, ⟨a, g', rfl, f2, by rw [q2, q3.ints]⟩⟩, ⟨sub, fun p o hp n1 n2 => keep p o hp (fun e => n2 (by rw [hw, e]; simp)) (fun e => n2 (by rw [hw, e]; simp)), fun p hp => l3.there p hp, fun _ h => .inl h, fun p hp => ?_⟩⟩
    · show ([a, g'] ++ w.r).Nodup
      rw [List.nodup_append]
      refine ⟨by simp [hga.symm], (List.nodup_append.mp hnd).2.1, fun x hx y hy => ?_⟩
      rintro rfl
      rcases List.mem_cons.mp hx with e | hx
      · exact (nda x hy).1 e
      · rw [List.mem_singleton.mp hx] at hy
        exact hgr hy
    · obtain ⟨b, us', g1, g2, g3⟩ := k.lst i xs e
      have hb := nda b (List.mem_of_getElem? g1)
      exact ⟨b, us', g1, keep b _ g2 hb.1 hb.2, g3.le sub⟩
    · rcases List.mem_cons.mp hp with e | hp
      · exact .inl (by rw [hw, e]; simp)
      · rw [List.mem_singleton.mp hp]
        rcases hg with e | e
        · exact .inl (by rw [hw, e]; simp)
        · exact .inr e
theorem W_eSl1 {env : Env} {s : MS} {Q : D → MS → Prop} {m : EM} {xs : List D} (h : W (m env s) fun d s1 => ∃ r xs, d = .ref r ∧ At s1 r xs ∧ Q (.ref s1.st.length) (s1.add (xs.drop 1))) : W (eSl1 m env s) Q := W_bnd (W_mono h fun d s1 h => by
  obtain ⟨r, xs, rfl, e, h⟩ := h
  simp only [e]
  exact W_some h)
theorem raw_says {gs : List Int} {mix most : Int} (h0 : 0 < most) (h1 : most < 1000000) : W (F_L_nextraw [.ref 0, .int most] ⟨none, [[.ref 1, .int mix], gs.map D.int]⟩) fun d s3 => d = .int (drawn gs mix most).1 ∧ ∃ j, 1 ≤ j ∧ s3.st[0]? = some [.ref j, .int (drawn gs mix most).2.2] ∧ s3.st[j]? = some ((drawn gs mix most).2.1.map D.int) := by
  refine W_def ?_
  unfold b_L_nextraw
  cases gs with
  | nil =>
    repeat infer_instance
    refine W_lenL (n := 0) rfl ?_ rfl
    repeat infer_instance
    exact ⟨rfl, 1, Nat.le_refl _, rfl, rfl⟩
  | cons n r =>
    repeat infer_instance
    refine W_lenL (n := r.length + 1) rfl ?_ (by simp)
    repeat infer_instance
    by_cases hn : n < most
    · repeat infer_instance
      refine W_eSl1 (xs := (n :: r).map D.int) ?_
      repeat infer_instance
      refine ⟨1, _, rfl, rfl, ?_⟩
      repeat infer_instance
      refine ⟨rfl, 2, by omega, ?_, ?_⟩
      · show _ = some [D.ref 2, D.int (drawn (n :: r) mix most).2.2]
        rfl
      · show _ = some ((if n < most then r else n / most :: r).map D.int)
        rw [if_pos hn]
        rfl
    · repeat infer_instance
      refine ⟨rfl, 1, Nat.le_refl _, rfl, ?_⟩
      show _ = some ((if n < most then r else n / most :: r).map D.int)
      rw [if_neg hn]
      rfl
theorem next_imp (vs : List L2.V) (H : Hp) (Q : VK) (E : XK) (h : spM F_L_next vs H Q E) : spM F_L_nextraw vs H Q E := by
  obtain ⟨w, ds, s, d, s', rfl, k, r, h, q⟩ := h
  unfold F_L_next at h
  split at h
  · rename_i most
    split at h
    · rename_i gs mix hs
      split at h
      · rename_i hm
        cases h
        have hk := k.seat
        rw [hs] at hk
        obtain ⟨a, g, hw, ha, hg⟩ := hk
        obtain ⟨va, vm, rfl, ra, rm⟩ := r.two
        cases rm
        cases ra with
        | seat hh =>
          rw [hw] at hh
          cases hh
          obtain ⟨d, s3, he, hd, j, hj, e0, e1⟩ := raw_says (gs := gs) (mix := mix) hm.1 hm.2
          subst hd
          have hnd := k.nd
          rw [hw] at hnd
          have hnd2 := (List.nodup_append.mp hnd).1
          refine ⟨⟨w.H, [a, g], []⟩, [.ref 0, .int most], _, _, s3, rfl, ⟨rfl, by simpa using hnd2, fun i xs e => ?_, rfl⟩, .cons (.ref rfl) (.cons (.int _) .nil), he, fun w3 v k3 l3 r3 => ?_⟩
          · match i, e with
            | 0, e =>
              cases e
              exact ⟨a, _, rfl, ha, .cons (.ref rfl) (.cons (.int _) .nil)⟩
            | 1, e =>
              cases e
              exact ⟨g, _, rfl, hg, RVs.of_ints gs⟩
            | i + 2, e => cases e
          · obtain ⟨g', k4, l4⟩ := relabel k hw k3 l3 hj e0 e1
            cases r3
            exact q ⟨w3.H, w.r, [a, g']⟩ _ k4 l4 (.int _)
      · cases h
    · cases h
  · cases h
section
variable {P : Program} {w : World} {K : PySem.W.Frag} {mg : Str → Option Value} {base : Heap}
theorem cal_L_next {f : Addr} {fd : FuncData} (F : Fun K "_law_next" "_law_next" s_L_nextraw f fd) (g : mg "_law_next" = some (.ref f)) (B : Bt mg) : Cal P w K mg base "_law_next" 2 1 F_L_next :=
  ⟨⟨f, fd, ["_law_seat", "_law_most"], rfl, (ok_L_nextraw F B).imp next_imp, F.binds fun _ _ _ _ _ _ us hl => match us, hl with | [_, _], _ => rfl, g, F.kp⟩⟩
end
end Mir
/-! ## WB -/
set_option Elab.async false
set_option linter.all false
set_option maxRecDepth 100000
set_option maxHeartbeats 4000000
/-! The seat's beginning out of a script that is only read: native. -/
namespace Mir
open PySem PySem.Spec PyProof.Rows L2
/-- _law_begin: a list of a list of ints and an int, out of a readable list of ints -/
def spBegin (K : PySem.W.Frag) : Sp := fun vs H Q _ => ∃ (a : Addr) (ns : List Int), vs = [.ref a] ∧ SqL K H a (ns.map V.int) ∧ ns.length ≤ 63 ∧ ∀ (p g : Addr) (gs : List Int) (mix : Int) (H' : Hp), p ≠ g → H' p = some (.lst [.ref g, .int mix]) → H' g = some (.lst (gs.map V.int)) → Q (.ref p) H'
theorem sql_stay {K : PySem.W.Frag} {H : Hp} {a p : Addr} {xs : List L2.V} (h : SqL K H a xs) (hp : H p = none) {H' : Hp} (hs : ∀ b, b ≠ p → H' b = H b) : SqL K H' a xs := by
  rcases h with h | h
  · have hap : a ≠ p := by
      rintro rfl
      rcases h with h | ⟨o, h⟩ <;> rw [hp] at h <;> cases h
    refine .inl ?_
    rcases h with h | ⟨o', h⟩
    · exact .inl (by rw [hs a hap]; exact h)
    · exact .inr ⟨o', by rw [hs a hap]; exact h⟩
  · exact .inr h
theorem mul_small {i j : Int} (h : i.natAbs < 18446744073709551616) : CMul i j := mulOk_ok _ _ (by unfold mulOk; rw [decide_eq_true h]; rfl)
section
variable {P : Program} {w : World} {K : PySem.W.Frag} {mg : Str → Option Value} {base : Heap}
theorem ok_begin {f : Addr} {fd : FuncData} (F : Fun K "_law_begin" "_law_begin" s_L_begin f fd) (B : Bt mg) : FnOk P w K mg base CX0 1 f fd ["_law_script"] (spBegin K) := by
  refine F.ok sc_L_begin (fun vs H Q E h => ?_) (fun cdv A outer s H vs Q E hr h => ⟨_, PSs.nox (pss_cons (ps_set (i := 1) sc_L_begin.nd rfl (.inl rfl) pe_int)
      (pss_cons (ps_set (i := 2) sc_L_begin.nd rfl (.inl rfl) (pe_lst pa_nil))
      (pss_cons (ps_for PassesOwn.never rfl (pi_range1 rfl B.range (pa_cons (pe_callB (call_min2 rfl) rfl B.min (by decide +kernel) (pa_cons pe_int (pa_cons (pe_callB call_len rfl B.len (by decide +kernel) (pa_cons (pv 0) pa_nil)) pa_nil))) pa_nil)) (pg_name (i := 3) sc_L_begin.nd rfl (.inl rfl))
        (pss_cons (ps_set (i := 4) sc_L_begin.nd rfl (.inl rfl) (pe_callB call_abs rfl B.abs (by decide +kernel) (pa_cons (pe_ix ix_seq (pv 0) (pv 3) (fun _ _ => rfl)) pa_nil)))
        (pss_cons (ps_if (pt_cmpR op_ge (pv 4) (pe_op op_pow pe_int pe_int) (nomark _)) (pss_one (ps_expr (pe_bm PySem.F.plainAttrs_list PySem.F.slot_list_append PySem.F.type_list_append mt_append (pv 2) (pa_cons (pv 4) pa_nil)))) pss_nil)
        (pss_one (ps_set (i := 1) sc_L_begin.nd rfl (.inl rfl) (pe_op op_mod (pe_callTy call_int1 rfl B.int (by decide +kernel) (pa_cons (pe_op op_add (pe_op op_add (pe_op op_add (pe_op op_mul (pv 1) pe_int) (pv 4)) pe_int) (pe_op op_mul pe_int (pe_callTy call_int1 rfl B.int (by decide +kernel) (pa_cons (pe_cmpR op_lt (pe_ix ix_seq (pv 0) (pv 3) (fun _ _ => rfl)) pe_int (nomark _)) pa_nil)))) pa_nil)) pe_int))))))
      (pss_one (ps_ret (pe_lst (pa_cons (pv 2) (pa_cons (pe_op op_mod (pe_callTy call_int1 rfl B.int (by decide +kernel) (pa_cons (pe_op op_add (pe_op op_mul (pv 1) (pv 1)) (pe_op op_mul (pv 1) pe_int)) pa_nil)) pe_int) pa_nil)))))))), ?_⟩)
  · obtain ⟨a, ns, rfl, _⟩ := h
    rfl
  · obtain ⟨a, ns, rfl, hS, hl, hQ⟩ := h
    refine ⟨Nat.zero_le _, fun p hp => ?_⟩
    refine ⟨.ref a, rfl, ?_⟩
    have st0 : ∀ b, b ≠ p → upd H p (HO.lst []) b = H b := fun b hb => upd_ne hb
    refine ⟨_, _, rfl, .inl ⟨ns.map V.int, sql_stay hS hp st0, rfl⟩, ?_⟩
    refine ⟨63, _, rfl, ?_⟩
    have hN : (if ((ns.map V.int).length : Int) < 63 then ((ns.map V.int).length : Int) else 63) = ns.length := by
      rw [List.length_map]
      split <;> omega
    refine ⟨_, rfl, by rw [hN]; omega, by rw [hN]; omega, ?_⟩
    rw [hN]
    refine ⟨fun i m σ H' => m = ns.length - i ∧ i ≤ ns.length ∧ (∃ x3 x4 mix, σ = [some (.ref a), some (.int mix), some (.ref p), x3, x4] ∧ 0 ≤ mix ∧ mix < 2147483489) ∧ (∃ gs : List Int, gs.length ≤ i ∧ H' p = some (.lst (gs.map V.int))) ∧ ∀ b, b ≠ p → H' b = H b,
      ⟨ns.length, rfl, Nat.zero_le _, ⟨none, none, 0, rfl, by omega, by omega⟩, ⟨[], Nat.le_refl _, upd_same⟩, st0⟩, ?_⟩
    rintro i m σ H1 ⟨rfl, hi, ⟨x3, x4, mix, rfl, hm0, hm1⟩, ⟨gs, hgs, hg⟩, hst⟩
    by_cases hlt : i < ns.length
    · refine .inr ⟨hlt, fun σ' H' => i + 1 ≤ ns.length ∧ (∃ x3 x4 mix, σ' = [some (.ref a), some (.int mix), some (.ref p), x3, x4] ∧ 0 ≤ mix ∧ mix < 2147483489) ∧ (∃ gs : List Int, gs.length ≤ i + 1 ∧ H' p = some (.lst (gs.map V.int))) ∧ ∀ b, b ≠ p → H' b = H b, fun σ' H' z => ⟨ns.length - (i + 1), by omega, rfl, z⟩, fun x H' hy => ?_⟩
      obtain ⟨rfl, rfl⟩ := hy
      rw [Int.zero_add]
      have hget : (ns.map V.int)[i]? = some (V.int ns[i]) := by rw [List.getElem?_map, List.getElem?_eq_getElem hlt]; rfl
      have hS1 := sql_stay hS hp hst
      refine ⟨.ref a, rfl, .int i, rfl, .inl ⟨a, _, i, _, rfl, rfl, hS1, atI_nat hget, ?_⟩⟩
      refine ⟨_, rfl, ?_⟩
      generalize hz : (if ns[i] < 0 then -ns[i] else ns[i]) = z
      refine ⟨.int z, rfl, 10, 18, rfl, rfl, powOk_ok _ _ (by decide), ?_⟩
      refine ⟨_, _, rfl, rfl, ?_⟩
      refine ⟨_, rfl, ?_⟩
      by_cases hbig : (10 : Int) ^ (18 : Int).toNat ≤ z
      · refine (if_pos (decide_eq_true hbig)).mpr ?_
        refine ⟨.ref p, rfl, .inl ⟨rfl, _, SqL.of hg⟩, .int z, rfl, p, gs.map V.int, .int z, rfl, rfl, hg, by rw [List.length_map]; exact lt100000 (by omega), ?_⟩
        have hst2 : ∀ b, b ≠ p → upd H' p (HO.lst (gs.map V.int ++ [V.int z])) b = H b := fun b hb => by rw [upd_ne hb]; exact hst b hb
        refine ⟨.int mix, rfl, mix, 62089911, rfl, rfl, mulOk_ok _ _ (by unfold mulOk; rw [Bool.or_eq_true]; right; decide), ?_⟩
        refine ⟨.int z, rfl, _, _, rfl, rfl, _, _, rfl, rfl, ?_⟩
        refine ⟨.ref a, rfl, .int i, rfl, .inl ⟨a, _, i, _, rfl, rfl, (sql_stay hS hp hst2), atI_nat hget, ?_⟩⟩
        refine ⟨_, _, rfl, rfl, .inr ⟨_, rfl, 5, _, rfl, rfl, mul_small (by decide), _, _, rfl, rfl, .inl ⟨_, rfl, _, 2147483489, rfl, rfl, (by show (0 : Int) < 2147483489; decide), ?_⟩⟩⟩
        exact ⟨hlt, ⟨_, _, _, rfl, Int.emod_nonneg _ (by decide), Int.emod_lt_of_pos _ (by decide)⟩, ⟨gs ++ [z], by simp; omega, by rw [upd_same, List.map_append]; rfl⟩, hst2⟩
      · refine (if_neg (by rw [decide_eq_false hbig]; exact Bool.false_ne_true)).mpr ?_
        refine ⟨.int mix, rfl, mix, 62089911, rfl, rfl, mulOk_ok _ _ (by unfold mulOk; rw [Bool.or_eq_true]; right; decide), ?_⟩
        refine ⟨.int z, rfl, _, _, rfl, rfl, _, _, rfl, rfl, ?_⟩
        refine ⟨.ref a, rfl, .int i, rfl, .inl ⟨a, _, i, _, rfl, rfl, hS1, atI_nat hget, ?_⟩⟩
        refine ⟨_, _, rfl, rfl, .inr ⟨_, rfl, 5, _, rfl, rfl, mul_small (by decide), _, _, rfl, rfl, .inl ⟨_, rfl, _, 2147483489, rfl, rfl, (by show (0 : Int) < 2147483489; decide), ?_⟩⟩⟩
        exact ⟨hlt, ⟨_, _, _, rfl, Int.emod_nonneg _ (by decide), Int.emod_lt_of_pos _ (by decide)⟩, ⟨gs, by omega, hg⟩, hst⟩
    · refine .inl ⟨by show ns.length ≤ i; omega, ?_⟩
      refine ⟨.ref p, rfl, ?_⟩
      refine ⟨.int mix, rfl, .int mix, rfl, mix, mix, rfl, rfl, mul_small (by omega), ?_⟩
      refine ⟨.int mix, rfl, mix, 90001, rfl, rfl, mul_small (by omega), ?_⟩
      refine ⟨_, _, rfl, rfl, .inl ⟨_, rfl, _, 2147483489, rfl, rfl, (by show (0 : Int) < 2147483489; decide), ?_⟩⟩
      refine ⟨le1000 (Nat.le_of_ble_eq_true rfl), fun q hq => ?_⟩
      have hqp : q ≠ p := fun e => by rw [e, hg] at hq; cases hq
      exact hQ q p gs _ _ hqp upd_same (by rw [upd_ne hqp.symm]; exact hg)
end
end Mir
/-! ## WL -/
set_option Elab.async false
set_option linter.all false
set_option maxRecDepth 100000
set_option maxHeartbeats 4000000
/-! The law. -/
namespace Mir
open PySem PySem.Spec PyProof.Rows L2
theorem all_small : ∀ c ∈ smallC, Good c := by
  intro c hc
  simp only [smallC, List.mem_cons, List.not_mem_nil, or_false] at hc
  rcases hc with rfl | rfl | rfl | rfl | rfl | rfl | rfl | rfl | rfl | rfl | rfl | rfl
  · exact good0
  · exact good1
  · exact good2
  · exact good3
  · exact good4
  · exact good5
  · exact good6
  · exact good7
  · exact good8
  · exact good9
  · exact good10
  · exact good11
theorem all_large : ∀ c ∈ largeC, Good c := by
  intro c hc
  simp only [largeC, List.mem_cons, List.not_mem_nil, or_false] at hc
  rcases hc with rfl | rfl | rfl | rfl | rfl | rfl | rfl | rfl
  · exact good12
  · exact good13
  · exact good14
  · exact good15
  · exact good16
  · exact good17
  · exact good18
  · exact good19
abbrev s_law : Stmt := topS 109
abbrev n_law : List Str := ["_law_script", "_law_seat", "_law_world_here", "_law_way"]
def spLaw (K : PySem.W.Frag) : Sp := fun vs H Q _ => ∃ (a : Addr) (ns : List Int), vs = [.ref a] ∧ SqL K H a (ns.map V.int) ∧ ns.length ≤ 63 ∧ ∀ H', Q (.bl true) H'
section
variable {P : Program} {w : World} {K : PySem.W.Frag} {mg : Str → Option Value} {base : Heap}
theorem sc_law : FnScope n_law ["_law_script"] (defScope s_law) := ⟨rfl, rfl, rfl, by decide +kernel, rfl, by decide +kernel, by decide +kernel⟩
theorem ok_law {f fb : Addr} {fd fdb : FuncData} (F : Fun K "law" "law" s_law f fd) (FB : Fun K "_law_begin" "_law_begin" s_L_begin fb fdb) (gb : mg "_law_begin" = some (.ref fb)) (B : Bt mg)
    (c_L_of_weights : Cal P w K mg base "_law_of_weights" 2 11 F_L_of_weights) (c_L_of_parts : Cal P w K mg base "_law_of_parts" 2 8 F_L_of_parts) (c_L_of_sets : Cal P w K mg base "_law_of_sets" 2 8 F_L_of_sets)
    (c_L_next : Cal P w K mg base "_law_next" 2 1 F_L_next) (c_L_clock : Cal P w K mg base "_law_clock" 1 2 F_L_clock) (c_L_world : Cal P w K mg base "_law_world" 1 3 F_L_world) : FnOk P w K mg base CX0 12 f fd ["_law_script"] (spLaw K) := by
  have GB : FnOk P w K mg base CX0 1 fb fdb ["_law_script"] (spBegin K) := ok_begin FB B
  have bB : Binds K fdb ["_law_script"] [] := FB.binds fun _ _ _ _ _ _ us hl => match us, hl with | [_], _ => rfl
  refine F.ok (k := 11) sc_law (fun vs H Q E h => ?_) (fun cdv A outer s H vs Q E hr0 h => ⟨_, PSs.nox (pss_cons (ps_set (i := 1) sc_law.nd rfl (.inl rfl) (pe_call GB (hr0.mono (by decide)) rfl gb FB.kp bB .nil pass0 (pa_cons (pv 0) pa_nil)))
      (show QSs _ _ b_law_rest from (qs_cons (qs_set (i := 2) sc_law.nd (q_callN c_L_world (hr0.mono (by decide)) (qa_cons (q_callF c_L_clock (hr0.mono (by decide)) (qa_cons (qv 1) qa_nil)) qa_nil)))
      (qs_cons (qs_set (i := 3) sc_law.nd (q_callM c_L_next (hr0.mono (by decide)) (qa_cons (qv 1) (qa_cons qint qa_nil))))
      (qs_cons (qs_if (qt_eq (qv 3) qint) (qs_one (qs_ret (q_callF c_L_of_sets (hr0.mono (by decide)) (qa_cons (qv 2) (qa_cons (qv 1) qa_nil))))) qs_nil)
      (qs_cons (qs_if (qt_eq (qv 3) qint) (qs_one (qs_ret (q_callF c_L_of_parts (hr0.mono (by decide)) (qa_cons (qv 2) (qa_cons (qv 1) qa_nil))))) qs_nil)
      (qs_one (qs_ret (q_callF c_L_of_weights (hr0.mono (by decide)) (qa_cons (qv 2) (qa_cons (qv 1) qa_nil))))))))))), ?_⟩)
  · obtain ⟨a, ns, rfl, _⟩ := h
    rfl
  · obtain ⟨a, ns, rfl, hS, hl, hQ⟩ := h
    refine ⟨.ref a, rfl, ?_⟩
    refine ⟨a, ns, rfl, hS, hl, fun p g gs mix H' hpg hp hg => ?_⟩
    obtain ⟨o, s', he, ho⟩ := law_rest all_small all_large (s := ⟨some (gs, mix), []⟩) rfl (x0 := none) (x2 := none) (x3 := none)
    subst ho
    have hk : WOk ⟨H', [], [p, g]⟩ ⟨some (gs, mix), []⟩ := ⟨rfl, by simpa using hpg, fun i xs e => by simp at e, ⟨p, g, rfl, hp, hg⟩⟩
    refine ⟨⟨H', [], [p, g]⟩, [none, some .seat, none, none], ⟨some (gs, mix), []⟩, _, s', rfl, hk, ⟨rfl, fun i d e => ?_⟩, he, fun w' v k l r => ?_⟩
    · match i, e with
      | 0, e => cases e
      | 1, e => cases e; exact ⟨_, rfl, .seat rfl⟩
      | 2, e => cases e
      | 3, e => cases e
      | i + 4, e => cases e
    · cases r
      exact hQ _
end
end Mir
/-! ## WU -/
set_option Elab.async false
set_option linter.all false
set_option maxRecDepth 100000
set_option maxHeartbeats 4000000
/-! The undivided: divides_total refuses; the law catches it. -/
namespace Mir
open PySem PySem.Spec PyProof.Rows L2
abbrev s_NU : Stmt := inClass (topS 4) 0
abbrev n_NU : List Str := ["self", "word", "at"]
abbrev s_L_undivided : Stmt := topS 103
abbrev n_L_undivided : List Str := ["_law_clock_here", "_law_deal", "e"]
/-- NotUsable(word, at): its __init__ -/
def spNU (C : Addr) : Sp := fun vs H Q _ => ∃ (a : Addr) (x y : L2.V), vs = [.ref a, x, y] ∧ H a = some (exo a C none) ∧ ∀ dx, H dx = none → dx ≠ a → Q .non (upd (upd (upd H dx (exd dx [("word", x)])) a (exo a C (some dx))) dx (exd dx [("at", y), ("word", x)]))
/-- the heap with the refusal's fields -/
abbrev exH (H : Hp) (d : Addr) : Hp := upd H d (.xd [("at", .int (-1)), ("word", .str "deal")])
/-- divides_total of a deal with another bottom than 1 -/
def spDX (C : Addr) : Sp := fun vs H _ E => ∃ (w : Wd) (clk : D) (b : Int) (ws : List D) (s1 : MS), w.H = H ∧ WOk w MS0 ∧ RVs w [clk, .tup [.int b, .tup ws]] vs ∧ b ≠ 1 ∧ D.norefs [clk, .tup [.int b, .tup ws]] = true ∧
  F_judge_deal [clk, .tup [.int b, .tup ws], .str "deal"] MS0 = some (.non, s1) ∧ ∀ w' d, WOk w' MS0 → Le w w' → w'.H d = none → E (.ref C) (some d) (exH w'.H d)
theorem mk_heap {H : Hp} {a dx : Addr} {o1 o2 o3 o4 o5 : HO} (ha : H a = none) (hne : dx ≠ a) : upd (del (upd (upd (upd (upd H a o1) dx o2) a o3) dx o4) a) dx o5 = upd H dx o5 := by
  funext b
  by_cases hb : b = dx
  · subst hb
    rw [upd_same, upd_same]
  · rw [upd_ne hb, upd_ne hb]
    by_cases hba : b = a
    · subst hba
      rw [del_same, ha]
    · rw [del_ne hba, upd_ne hb, upd_ne hba, upd_ne hb, upd_ne hba]
/-- behind a call in a world of its own -/
theorem WOk.back {w w1 : Wd} {s : MS} (k : WOk w s) (l1 : Le ⟨w.H, [], []⟩ w1) : WOk ⟨w1.H, w.r, w.w⟩ s ∧ Le w ⟨w1.H, w.r, w.w⟩ := by
  have keep : ∀ a o, w.H a = some o → w1.H a = some o := fun a o ha => l1.keep a o ha (by simp) (by simp)
  have l : Le w ⟨w1.H, w.r, w.w⟩ := ⟨⟨fun a xs h => keep a _ h, ⟨[], by simp⟩, rfl⟩, fun a o h _ _ => keep a o h, fun a h => l1.there a h, fun _ h => .inl h, fun _ h => .inl h⟩
  refine ⟨k.keep l rfl rfl fun a ha => ?_, l⟩
  have : ∃ o, w.H a = some o := by
    rcases ha with ha | ha
    · obtain ⟨i, hi, e⟩ := List.getElem_of_mem ha
      have hi' : i < s.st.length := by rw [← k.len]; exact hi
      obtain ⟨b, us, h1, h2, _⟩ := k.lst i _ (List.getElem?_eq_getElem hi')
      rw [List.getElem?_eq_getElem hi] at h1
      rw [← e, Option.some.inj h1]
      exact ⟨_, h2⟩
    · have hs := k.seat
      cases es : s.seat with
      | none =>
        rw [es] at hs
        have hs : w.w = [] := hs
        rw [hs] at ha; cases ha
      | some p =>
        obtain ⟨gs, mix⟩ := p
        rw [es] at hs
        obtain ⟨b, g, h1, h2, h3⟩ := hs
        rw [h1] at ha
        rcases List.mem_cons.mp ha with rfl | ha
        · exact ⟨_, h2⟩
        · have : a = g := by simpa using ha
          subst this
          exact ⟨_, h3⟩
  obtain ⟨o, ho⟩ := this
  show w1.H a = w.H a
  rw [ho, keep a o ho]
section
variable {P : Program} {w : World} {K : PySem.W.Frag} {mg : Str → Option Value} {base : Heap} {C fI : Addr} {fdI : FuncData}
theorem sc_NU : FnScope n_NU ["self", "word", "at"] (defScope s_NU) := ⟨rfl, rfl, rfl, by decide +kernel, rfl, by decide +kernel, by decide +kernel⟩
theorem ok_NU (FI : Fun K "__init__" "NotUsable.__init__" s_NU fI fdI) (T : ErrC K mg "NotUsable" C fI) : FnOk P w K mg base CX0 1 fI fdI ["self", "word", "at"] (spNU C) := by
  refine FI.ok (k := 0) sc_NU (fun vs H Q E h => ?_) (fun cdv A outer s H vs Q E hr h => ⟨_, PSs.nox (pss_cons (ps_ost (pv 0) (pv 1)) (pss_one (ps_ost (pv 0) (pv 2)))), ?_⟩)
  · obtain ⟨a, x, y, rfl, _⟩ := h
    rfl
  · obtain ⟨a, x, y, rfl, ha, hQ⟩ := h
    refine ⟨x, rfl, .ref a, rfl, a, C, rfl, T.oex, T.noW, .inl ⟨ha, fun dx hd hne => ?_⟩⟩
    refine ⟨y, rfl, .ref a, rfl, a, C, rfl, T.oex, T.noA, .inr ⟨dx, _, upd_same, ?_, Nat.le_of_ble_eq_true rfl, hQ dx hd hne⟩⟩
    rw [upd_ne hne]
    exact upd_same
theorem ok_DX {f : Addr} {fd : FuncData} (F : Fun K "divides_total" "divides_total" s_divides_total f fd) (T : ErrC K mg "NotUsable" C fI) (FI : Fun K "__init__" "NotUsable.__init__" s_NU fI fdI)
    (c_judge_deal : Cal P w K mg base "judge_deal" 3 4 F_judge_deal) : FnOk P w K mg base (L2.CX P w) 6 f fd ["clock", "deal"] (spDX C) := by
  have bI : Binds K fdI ["self", "word", "at"] [] := FI.binds fun _ _ _ _ _ _ us hl => match us, hl with | [_, _, _], _ => rfl
  have GI : FnOk P w K mg base CX0 1 fI fdI ["self", "word", "at"] (spNU C) := ok_NU FI T
  refine F.okX (k := 5) sc_divides_total (fun vs H Q E h => ?_) (fun cdv A outer s H vs Q E hr0 h => ⟨_, pss_cons (qs_drop (q_callN c_judge_deal (hr0.mono (by decide)) (qa_cons (qv 0) (qa_cons (qv 1) (qa_cons qstr qa_nil)))))
      (pss_cons (ps_if (qt_ne (q_ix (qv 1) qint) qint) (pss_one (ps_raise (W := fun cls d _ H => E cls d H) rfl (takes_of rfl rfl rfl rfl) (pmk_oex T.oex T.iC T.tI GI (hr0.mono (by decide)) bI .nil pass0 rfl T.g (qa_cons qstr (qa_cons (q_neg qint) qa_nil))))) pss_nil)
      (pss_one ps_never)), ?_⟩)
  · obtain ⟨w, clk, b, ws, s1, _, _, r, _⟩ := h
    exact r.length.symm
  · obtain ⟨w, clk, b, ws, s1, e, k, r, hb, hn, hj, hE⟩ := h
    have hn3 : D.norefs [clk, .tup [.int b, .tup ws], .str "deal"] = true := by
      simp only [D.norefs, D.noref, Bool.and_true] at hn ⊢
      exact hn
    have hc : callN F_judge_deal [clk, .tup [.int b, .tup ws], .str "deal"] MS0 = some (.non, MS0) := by
      unfold callN
      rw [if_pos hn3, hj]
      rfl
    refine ⟨w, [some clk, some (.tup [.int b, .tup ws])], MS0, .nx [some clk, some (.tup [.int b, .tup ws])], MS0, e, k, eok_start (N := n_divides_total) r, ?_, fun w1 σ1 k1 l1 ek1 => ?_⟩
    · show bnd (callN F_judge_deal [clk, .tup [.int b, .tup ws], .str "deal"] MS0) _ = _
      rw [hc]
      rfl
    refine ⟨w1, _, MS0, true, MS0, rfl, k1, ek1, ?_, fun w2 k2 l2 => ?_⟩
    · show some (!decide (b = 1), MS0) = _
      rw [decide_eq_false hb]
      rfl
    refine (if_pos rfl).mpr ?_
    refine ⟨w2, _, MS0, [.str "deal", .int (-1)], MS0, rfl, k2, ek1.le l2.toSub, rfl, fun w3 vs3 k3 l3 r3 => ?_⟩
    obtain ⟨v1, v2, rfl, rv1, rv2⟩ := r3.two
    cases rv1
    cases rv2
    refine ⟨by decide, fun a ha => ?_⟩
    refine ⟨a, .str "deal", .int (-1), rfl, upd_same, fun dx hd hne => ?_⟩
    rw [upd_ne hne] at hd
    refine ⟨rfl, dx, [("at", .int (-1)), ("word", .str "deal")], ?_, upd_same, hd, ?_⟩
    · rw [upd_ne (Ne.symm hne)]
      exact upd_same
    · rw [mk_heap ha hne]
      exact hE w3 dx k3 ((l1.trans l2).trans l3) hd
theorem sc_L_undivided : FnScope n_L_undivided ["_law_clock_here", "_law_deal"] (defScope s_L_undivided) := ⟨rfl, rfl, rfl, by decide +kernel, rfl, by decide +kernel, by decide +kernel⟩
def tsU (C : Addr) : Addr → Value → Option Addr → TS := fun a cls d => tRet (tTup (tCons (tXf a cls d C "word" (tVar 2)) (tCons (tXf a cls d C "at" (tVar 2)) tNil)))
theorem F_undivided_eq {ds : List D} {s s' : MS} {d : D} (h : F_L_undivided ds s = some (d, s')) : ∃ clk b ws s1, ds = [clk, .tup [.int b, .tup ws]] ∧ D.norefs [clk, .tup [.int b, .tup ws]] = true ∧ F_judge_deal [clk, .tup [.int b, .tup ws], .str "deal"] MS0 = some (.non, s1) ∧ b ≠ 1 ∧ d = .tup [.str "deal", .int (-1)] ∧ s' = s := by
  unfold F_L_undivided at h
  split at h
  · rename_i clk b ws
    split at h
    · rename_i hn
      split at h
      · rename_i s1 hj
        split at h
        · cases h
        · rename_i hb
          cases h
          exact ⟨clk, b, ws, _, rfl, hn, hj, hb, rfl, rfl⟩
      · cases h
    · cases h
  · cases h
theorem ok_L_undivided {f fD : Addr} {fd fdD : FuncData} (F : Fun K "_law_undivided" "_law_undivided" s_L_undivided f fd) (FD : Fun K "divides_total" "divides_total" s_divides_total fD fdD) (gD : mg "divides_total" = some (.ref fD))
    (T : ErrC K mg "NotUsable" C fI) (FI : Fun K "__init__" "NotUsable.__init__" s_NU fI fdI) (c_judge_deal : Cal P w K mg base "judge_deal" 3 4 F_judge_deal) : FnOk P w K mg base CX0 10 f fd ["_law_clock_here", "_law_deal"] (spM F_L_undivided) := by
  have GD : FnOk P w K mg base (L2.CX P w) 6 fD fdD ["clock", "deal"] (spDX C) := ok_DX FD T FI c_judge_deal
  have bD : Binds K fdD ["clock", "deal"] [] := FD.binds fun _ _ _ _ _ _ us hl => match us, hl with | [_, _], _ => rfl
  refine F.ok (k := 9) sc_L_undivided (fun vs H Q E h => ?_) (fun cdv A outer s H vs Q E hr0 h => ⟨_, pss_cons (ps_try_as (i := 2) (tb := fun W => tDrop (tCallS (spDX C) (WE W) (loA (aCons (eVar 0) (aCons (eVar 1) aNil))))) (ts := tsU C) (Wout := fun _ _ _ _ => False) rfl rfl sc_L_undivided.nd rfl rfl ⟨rfl, by decide, Or.inl T.g⟩ takes0
      (fun W pn xe tk _ => pss_one (ps_expr (pe_callS GD (hr0.mono (by decide)) rfl gD FD.kp bD (fun σ => passAt tk σ) (qa_cons (qv 0) (qa_cons (qv 1) qa_nil)))))
      (fun a oe cls d pn hz hf => pss_one (ps_ret (pe_tup (pa_cons (pe_xf T.xf T.noW hz hf (pv 2)) (pa_cons (pe_xf T.xf T.noA hz hf (pv 2)) pa_nil))))))
      (pss_one ps_never), ?_⟩)
  · obtain ⟨w, ds, s, d, s', e, k, r, h, q⟩ := h
    obtain ⟨clk, b, ws, s1, rfl, _⟩ := F_undivided_eq h
    exact r.length.symm
  · obtain ⟨w, ds, sm, d, s', e, k, r, h, q⟩ := h
    obtain ⟨clk, b, ws, s1, rfl, hn, hj, hb, rfl, rfl⟩ := F_undivided_eq h
    obtain ⟨v1, v2, rfl, rv1, rv2⟩ := r.two
    refine ⟨w, [some clk, some (.tup [.int b, .tup ws]), none], s', [clk, .tup [.int b, .tup ws]], s', e, k, eok_start (N := n_L_undivided) (.cons rv1 (.cons rv2 .nil)), rfl, fun w1 vs1 k1 l1 r1 => ?_⟩
    refine ⟨⟨w1.H, [], []⟩, clk, b, ws, s1, rfl, ⟨rfl, List.nodup_nil, fun i xs e => by simp [MS0] at e, rfl⟩, RVs.nr (w := w1) (w' := ⟨w1.H, [], []⟩) (fun _ _ h => h) r1 hn, hb, hn, hj, fun w2 d2 k2 l2 hd2 => ?_⟩
    obtain ⟨k3, l3⟩ := k1.back l2
    refine ⟨true, T.te, fun _ a ha => ?_, fun z => Bool.noConfusion z⟩
    refine ⟨.ref a, rfl, rfl, rfl, d2, _, .str "deal", rfl, upd_same, by decide +kernel, ?_⟩
    refine ⟨.ref a, rfl, rfl, rfl, d2, _, .int (-1), rfl, upd_same, by decide +kernel, ?_⟩
    refine ⟨by show 2 ≤ sizeLine; decide, fun p hp => ?_⟩
    have k4 : WOk ((⟨w2.H, w1.r, w1.w⟩ : Wd).put d2 (.xd [("at", .int (-1)), ("word", .str "deal")])) s' := k3.put hd2
    have l4 : Le (⟨w2.H, w1.r, w1.w⟩ : Wd) ((⟨w2.H, w1.r, w1.w⟩ : Wd).put d2 (.xd [("at", .int (-1)), ("word", .str "deal")])) := Le.tup k3 hd2
    exact q _ _ (k4.put (o := .tup [.str "deal", .int (-1)]) hp) (((l1.trans l3).trans l4).trans (Le.tup k4 hp)) (.tup upd_same (.cons (.str _) (.cons (.int _) .nil)))
theorem cal_L_undivided {f fD : Addr} {fd fdD : FuncData} (F : Fun K "_law_undivided" "_law_undivided" s_L_undivided f fd) (g : mg "_law_undivided" = some (.ref f)) (FD : Fun K "divides_total" "divides_total" s_divides_total fD fdD) (gD : mg "divides_total" = some (.ref fD))
    (T : ErrC K mg "NotUsable" C fI) (FI : Fun K "__init__" "NotUsable.__init__" s_NU fI fdI) (c_judge_deal : Cal P w K mg base "judge_deal" 3 4 F_judge_deal) : Cal P w K mg base "_law_undivided" 2 10 F_L_undivided :=
  ⟨⟨f, fd, ["_law_clock_here", "_law_deal"], rfl, ok_L_undivided F FD gD T FI c_judge_deal, F.binds fun _ _ _ _ _ _ us hl => match us, hl with | [_, _], _ => rfl, g, F.kp⟩⟩
end
end Mir
/-! ## J -/
set_option Elab.async false
set_option linter.all false
set_option maxRecDepth 100000
set_option maxHeartbeats 4000000
/-! The join: the head's facts, every def, the law. -/
namespace Mir
open PySem PySem.Spec PyProof.Rows L2
section
variable {K : PySem.W.Frag}
theorem SaysE.def_ (c : SaysE K) (i : Nat) {d : He.DefD} (h : fnAll[i]? = some d := by rfl) : ∃ fd, FunD K d.name d.qual d.params d.body d.scope (d.dvs K) (d.kws K) (He.fAd K d.at_) fd := by
  have e := c.2.2.2
  have e2 : (fnAll.map fun d => He.fnW K d.at_)[i]? = (fnAll.map He.DefD.val)[i]? := by rw [e]
  rw [List.getElem?_map, List.getElem?_map, h] at e2
  exact He.DefD.funD (Option.some.inj e2) (List.all_eq_true.mp c.2.2.1 d (List.mem_of_getElem? h))
theorem SaysE.fact (c : SaysE K) (i : Nat) {f : He.Fa} (h : faAll[i]? = some f := by rfl) : f.ok K = true := List.all_eq_true.mp c.1 f (List.mem_of_getElem? h)
theorem SaysE.fun_ (c : SaysE K) (i : Nat) (x n : Str) (j : Nat) (h : fnAll[i]? = some (dOf x n j) := by rfl) : ∃ fd, Fun K n n (topS j) (He.ga K x) fd := by
  obtain ⟨fd, F⟩ := c.def_ i h
  exact ⟨fd, fun_of F⟩
end
theorem facts {P : Program} {w : World} {K : PySem.W.Frag} {h : Heap} {mg : Str → Option Value} {f : Addr} (X : K.In h) (G : h.Ns mainGlobals mg) (hfa : mg ("law" : Str) = some (.ref f)) (c : SaysE K) :
    ∃ fd : FuncData, (∀ (s : Shared) (v : Value), BindsTo s fd ⟨[v], []⟩ [("_law_script", v)]) ∧ ∀ base : Heap, K.In base → base.Ns mainGlobals mg → FnOk P w K mg base CX0 12 f fd ["_law_script"] (spLaw K) := by
  have B : Bt mg := ⟨He.free_ok X G (c.fact 81 (f := .free "len")), He.free_ok X G (c.fact 82 (f := .free "range")), He.free_ok X G (c.fact 83 (f := .free "isinstance")), He.free_ok X G (c.fact 84 (f := .free "int")), He.free_ok X G (c.fact 85 (f := .free "bool")), He.free_ok X G (c.fact 86 (f := .free "tuple")), He.free_ok X G (c.fact 87 (f := .free "str")), He.free_ok X G (c.fact 88 (f := .free "list")), He.free_ok X G (c.fact 89 (f := .free "abs")), He.free_ok X G (c.fact 90 (f := .free "sum")), He.free_ok X G (c.fact 91 (f := .free "min")), He.free_ok X G (c.fact 92 (f := .free "all")), He.free_ok X G (c.fact 93 (f := .free "enumerate")), He.free_ok X G (c.fact 94 (f := .free "zip")), He.free_ok X G (c.fact 95 (f := .free "sorted")), He.int_ok X G (c.fact 96 (f := .int "MOST" 10000)), PySem.W.mg_of X G (He.eqO_ok (He.ba c.2.1).1)⟩
  have gNU : mg "NotUsable" = some (.ref (He.ga K "NotUsable")) := He.glo_ok X G (c.fact 97 (f := .glo "NotUsable"))
  have T : ErrC K mg "NotUsable" (He.ga K "NotUsable") (He.ma K (He.ga K "NotUsable") "__init__") := excB_ok (He.ba c.2.1).2 gNU
  obtain ⟨fdI, FI0⟩ := c.def_ 81 (d := ⟨("NotUsable", some "__init__"), "__init__", "NotUsable.__init__", defArgs (inClass (topS 4) 0), defBody (inClass (topS 4) 0), defScope (inClass (topS 4) 0), [], []⟩)
  have FI : Fun K "__init__" "NotUsable.__init__" s_NU (He.ma K (He.ga K "NotUsable") "__init__") fdI := fun_of FI0
  obtain ⟨fd6, H6⟩ := c.fun_ 0 "usable" "usable" 6
  have g6 : mg "usable" = some (.ref (He.ga K "usable")) := He.glo_ok X G (c.fact 0 (f := .glo "usable"))
  obtain ⟨fd7, H7⟩ := c.fun_ 1 "whole" "whole" 7
  have g7 : mg "whole" = some (.ref (He.ga K "whole")) := He.glo_ok X G (c.fact 1 (f := .glo "whole"))
  obtain ⟨fd8, H8⟩ := c.fun_ 2 "is_pair" "is_pair" 8
  have g8 : mg "is_pair" = some (.ref (He.ga K "is_pair")) := He.glo_ok X G (c.fact 2 (f := .glo "is_pair"))
  obtain ⟨fd9, H9⟩ := c.fun_ 3 "primes_in" "primes_in" 9
  have g9 : mg "primes_in" = some (.ref (He.ga K "primes_in")) := He.glo_ok X G (c.fact 3 (f := .glo "primes_in"))
  obtain ⟨fd10, H10⟩ := c.fun_ 4 "turns_in" "turns_in" 10
  have g10 : mg "turns_in" = some (.ref (He.ga K "turns_in")) := He.glo_ok X G (c.fact 4 (f := .glo "turns_in"))
  obtain ⟨fd11, H11⟩ := c.fun_ 5 "factor_of" "factor_of" 11
  have g11 : mg "factor_of" = some (.ref (He.ga K "factor_of")) := He.glo_ok X G (c.fact 5 (f := .glo "factor_of"))
  obtain ⟨fd12, H12⟩ := c.fun_ 6 "moves_in" "moves_in" 12
  have g12 : mg "moves_in" = some (.ref (He.ga K "moves_in")) := He.glo_ok X G (c.fact 6 (f := .glo "moves_in"))
  obtain ⟨fd13, H13⟩ := c.fun_ 7 "edge_in" "edge_in" 13
  have g13 : mg "edge_in" = some (.ref (He.ga K "edge_in")) := He.glo_ok X G (c.fact 7 (f := .glo "edge_in"))
  obtain ⟨fd14, H14⟩ := c.fun_ 8 "spots_in" "spots_in" 14
  have g14 : mg "spots_in" = some (.ref (He.ga K "spots_in")) := He.glo_ok X G (c.fact 8 (f := .glo "spots_in"))
  obtain ⟨fd16, H16⟩ := c.fun_ 9 "is_integer" "is_integer" 16
  have g16 : mg "is_integer" = some (.ref (He.ga K "is_integer")) := He.glo_ok X G (c.fact 9 (f := .glo "is_integer"))
  obtain ⟨fd17, H17⟩ := c.fun_ 10 "is_number" "is_number" 17
  have g17 : mg "is_number" = some (.ref (He.ga K "is_number")) := He.glo_ok X G (c.fact 10 (f := .glo "is_number"))
  obtain ⟨fd18, H18⟩ := c.fun_ 11 "is_move" "is_move" 18
  have g18 : mg "is_move" = some (.ref (He.ga K "is_move")) := He.glo_ok X G (c.fact 11 (f := .glo "is_move"))
  obtain ⟨fd19, H19⟩ := c.fun_ 12 "is_moves" "is_moves" 19
  have g19 : mg "is_moves" = some (.ref (He.ga K "is_moves")) := He.glo_ok X G (c.fact 12 (f := .glo "is_moves"))
  obtain ⟨fd20, H20⟩ := c.fun_ 13 "divides" "divides" 20
  have g20 : mg "divides" = some (.ref (He.ga K "divides")) := He.glo_ok X G (c.fact 13 (f := .glo "divides"))
  obtain ⟨fd21, H21⟩ := c.fun_ 14 "is_part" "is_part" 21
  have g21 : mg "is_part" = some (.ref (He.ga K "is_part")) := He.glo_ok X G (c.fact 14 (f := .glo "is_part"))
  obtain ⟨fd23, H23⟩ := c.fun_ 15 "moves_many" "moves_many" 23
  have g23 : mg "moves_many" = some (.ref (He.ga K "moves_many")) := He.glo_ok X G (c.fact 15 (f := .glo "moves_many"))
  obtain ⟨fd24, H24⟩ := c.fun_ 16 "turns_many" "turns_many" 24
  have g24 : mg "turns_many" = some (.ref (He.ga K "turns_many")) := He.glo_ok X G (c.fact 16 (f := .glo "turns_many"))
  obtain ⟨fd25, H25⟩ := c.fun_ 17 "does_move" "does_move" 25
  have g25 : mg "does_move" = some (.ref (He.ga K "does_move")) := He.glo_ok X G (c.fact 17 (f := .glo "does_move"))
  obtain ⟨fd26, H26⟩ := c.fun_ 18 "last_edge" "last_edge" 26
  have g26 : mg "last_edge" = some (.ref (He.ga K "last_edge")) := He.glo_ok X G (c.fact 18 (f := .glo "last_edge"))
  obtain ⟨fd28, H28⟩ := c.fun_ 19 "is_deal" "is_deal" 28
  have g28 : mg "is_deal" = some (.ref (He.ga K "is_deal")) := He.glo_ok X G (c.fact 19 (f := .glo "is_deal"))
  obtain ⟨fd30, H30⟩ := c.fun_ 20 "judge_deal" "judge_deal" 30
  have g30 : mg "judge_deal" = some (.ref (He.ga K "judge_deal")) := He.glo_ok X G (c.fact 20 (f := .glo "judge_deal"))
  obtain ⟨fd32, H32⟩ := c.fun_ 21 "part_size" "part_size" 32
  have g32 : mg "part_size" = some (.ref (He.ga K "part_size")) := He.glo_ok X G (c.fact 21 (f := .glo "part_size"))
  obtain ⟨fd33, H33⟩ := c.fun_ 22 "is_kept" "is_kept" 33
  have g33 : mg "is_kept" = some (.ref (He.ga K "is_kept")) := He.glo_ok X G (c.fact 22 (f := .glo "is_kept"))
  obtain ⟨fd35, H35⟩ := c.fun_ 23 "want_deal" "want_deal" 35
  have g35 : mg "want_deal" = some (.ref (He.ga K "want_deal")) := He.glo_ok X G (c.fact 23 (f := .glo "want_deal"))
  obtain ⟨fd36, H36⟩ := c.fun_ 24 "want_two" "want_two" 36
  have g36 : mg "want_two" = some (.ref (He.ga K "want_two")) := He.glo_ok X G (c.fact 24 (f := .glo "want_two"))
  obtain ⟨fd37, H37⟩ := c.fun_ 25 "want_many" "want_many" 37
  have g37 : mg "want_many" = some (.ref (He.ga K "want_many")) := He.glo_ok X G (c.fact 25 (f := .glo "want_many"))
  obtain ⟨fd38, H38⟩ := c.fun_ 26 "want_part_b_wants" "want_part" 38
  have g38 : mg "want_part_b_wants" = some (.ref (He.ga K "want_part_b_wants")) := He.glo_ok X G (c.fact 26 (f := .glo "want_part_b_wants"))
  obtain ⟨fd40, H40⟩ := c.fun_ 27 "want_kept" "want_kept" 40
  have g40 : mg "want_kept" = some (.ref (He.ga K "want_kept")) := He.glo_ok X G (c.fact 27 (f := .glo "want_kept"))
  obtain ⟨fd42, H42⟩ := c.fun_ 28 "factor_at" "factor_at" 42
  have g42 : mg "factor_at" = some (.ref (He.ga K "factor_at")) := He.glo_ok X G (c.fact 28 (f := .glo "factor_at"))
  obtain ⟨fd43, H43⟩ := c.fun_ 29 "number_of" "number_of" 43
  have g43 : mg "number_of" = some (.ref (He.ga K "number_of")) := He.glo_ok X G (c.fact 29 (f := .glo "number_of"))
  obtain ⟨fd44, H44⟩ := c.fun_ 30 "move_at" "move_at" 44
  have g44 : mg "move_at" = some (.ref (He.ga K "move_at")) := He.glo_ok X G (c.fact 30 (f := .glo "move_at"))
  obtain ⟨fd45, H45⟩ := c.fun_ 31 "all_moves" "all_moves" 45
  have g45 : mg "all_moves" = some (.ref (He.ga K "all_moves")) := He.glo_ok X G (c.fact 31 (f := .glo "all_moves"))
  obtain ⟨fd47, H47⟩ := c.fun_ 32 "settled" "settled" 47
  have g47 : mg "settled" = some (.ref (He.ga K "settled")) := He.glo_ok X G (c.fact 32 (f := .glo "settled"))
  obtain ⟨fd48, H48⟩ := c.fun_ 33 "idle_deal" "idle_deal" 48
  have g48 : mg "idle_deal" = some (.ref (He.ga K "idle_deal")) := He.glo_ok X G (c.fact 33 (f := .glo "idle_deal"))
  obtain ⟨fd49, H49⟩ := c.fun_ 34 "deal_on" "deal_on" 49
  have g49 : mg "deal_on" = some (.ref (He.ga K "deal_on")) := He.glo_ok X G (c.fact 34 (f := .glo "deal_on"))
  obtain ⟨fd51, H51⟩ := c.fun_ 35 "usable_part" "usable_part" 51
  have g51 : mg "usable_part" = some (.ref (He.ga K "usable_part")) := He.glo_ok X G (c.fact 35 (f := .glo "usable_part"))
  obtain ⟨fd52, H52⟩ := c.fun_ 36 "folded_clock" "folded_clock" 52
  have g52 : mg "folded_clock" = some (.ref (He.ga K "folded_clock")) := He.glo_ok X G (c.fact 36 (f := .glo "folded_clock"))
  obtain ⟨fd53, H53⟩ := c.fun_ 37 "folded_move" "folded_move" 53
  have g53 : mg "folded_move" = some (.ref (He.ga K "folded_move")) := He.glo_ok X G (c.fact 37 (f := .glo "folded_move"))
  obtain ⟨fd55, H55⟩ := c.fun_ 38 "folded_numbers" "folded_numbers" 55
  have g55 : mg "folded_numbers" = some (.ref (He.ga K "folded_numbers")) := He.glo_ok X G (c.fact 38 (f := .glo "folded_numbers"))
  obtain ⟨fd56, H56⟩ := c.fun_ 39 "folded_deal" "folded_deal" 56
  have g56 : mg "folded_deal" = some (.ref (He.ga K "folded_deal")) := He.glo_ok X G (c.fact 39 (f := .glo "folded_deal"))
  obtain ⟨fd59, H59⟩ := c.fun_ 40 "in_range" "in_range" 59
  have g59 : mg "in_range" = some (.ref (He.ga K "in_range")) := He.glo_ok X G (c.fact 40 (f := .glo "in_range"))
  obtain ⟨fd60, H60⟩ := c.fun_ 41 "primes_of" "primes_of" 60
  have g60 : mg "primes_of" = some (.ref (He.ga K "primes_of")) := He.glo_ok X G (c.fact 41 (f := .glo "primes_of"))
  obtain ⟨fd62, H62⟩ := c.fun_ 42 "dealt" "dealt" 62
  have g62 : mg "dealt" = some (.ref (He.ga K "dealt")) := He.glo_ok X G (c.fact 42 (f := .glo "dealt"))
  obtain ⟨fd63, H63⟩ := c.fun_ 43 "dealt_again" "dealt_again" 63
  have g63 : mg "dealt_again" = some (.ref (He.ga K "dealt_again")) := He.glo_ok X G (c.fact 43 (f := .glo "dealt_again"))
  obtain ⟨fd65, H65⟩ := c.fun_ 44 "is_even" "is_even" 65
  have g65 : mg "is_even" = some (.ref (He.ga K "is_even")) := He.glo_ok X G (c.fact 44 (f := .glo "is_even"))
  obtain ⟨fd67, H67⟩ := c.fun_ 45 "is_moved" "is_moved" 67
  have g67 : mg "is_moved" = some (.ref (He.ga K "is_moved")) := He.glo_ok X G (c.fact 45 (f := .glo "is_moved"))
  obtain ⟨fd68, H68⟩ := c.fun_ 46 "moved_part" "moved_part" 68
  have g68 : mg "moved_part" = some (.ref (He.ga K "moved_part")) := He.glo_ok X G (c.fact 46 (f := .glo "moved_part"))
  obtain ⟨fd69, H69⟩ := c.fun_ 47 "folds_evenly" "folds_evenly" 69
  have g69 : mg "folds_evenly" = some (.ref (He.ga K "folds_evenly")) := He.glo_ok X G (c.fact 47 (f := .glo "folds_evenly"))
  obtain ⟨fd70, H70⟩ := c.fun_ 48 "divides_total" "divides_total" 70
  have g70 : mg "divides_total" = some (.ref (He.ga K "divides_total")) := He.glo_ok X G (c.fact 48 (f := .glo "divides_total"))
  obtain ⟨fd72, H72⟩ := c.fun_ 49 "even_after" "even_after" 72
  have g72 : mg "even_after" = some (.ref (He.ga K "even_after")) := He.glo_ok X G (c.fact 49 (f := .glo "even_after"))
  obtain ⟨fd74, H74⟩ := c.fun_ 50 "first_unlike" "first_unlike" 74
  have g74 : mg "first_unlike" = some (.ref (He.ga K "first_unlike")) := He.glo_ok X G (c.fact 50 (f := .glo "first_unlike"))
  obtain ⟨fd75, H75⟩ := c.fun_ 51 "even_paper" "even_paper" 75
  have g75 : mg "even_paper" = some (.ref (He.ga K "even_paper")) := He.glo_ok X G (c.fact 51 (f := .glo "even_paper"))
  obtain ⟨fd77, H77⟩ := c.fun_ 52 "want_part_c_wants" "want_part" 77
  have g77 : mg "want_part_c_wants" = some (.ref (He.ga K "want_part_c_wants")) := He.glo_ok X G (c.fact 52 (f := .glo "want_part_c_wants"))
  obtain ⟨fd80, H80⟩ := c.fun_ 53 "parts_cover" "parts_cover" 80
  have g80 : mg "parts_cover" = some (.ref (He.ga K "parts_cover")) := He.glo_ok X G (c.fact 53 (f := .glo "parts_cover"))
  obtain ⟨fd82, H82⟩ := c.fun_ 54 "are_deals" "are_deals" 82
  have g82 : mg "are_deals" = some (.ref (He.ga K "are_deals")) := He.glo_ok X G (c.fact 54 (f := .glo "are_deals"))
  obtain ⟨fd83, H83⟩ := c.fun_ 55 "row_after" "row_after" 83
  have g83 : mg "row_after" = some (.ref (He.ga K "row_after")) := He.glo_ok X G (c.fact 55 (f := .glo "row_after"))
  obtain ⟨fd85, H85⟩ := c.fun_ 56 "_law_begin" "_law_begin" 85
  have g85 : mg "_law_begin" = some (.ref (He.ga K "_law_begin")) := He.glo_ok X G (c.fact 56 (f := .glo "_law_begin"))
  obtain ⟨fd86, H86⟩ := c.fun_ 57 "_law_next" "_law_next" 86
  have g86 : mg "_law_next" = some (.ref (He.ga K "_law_next")) := He.glo_ok X G (c.fact 57 (f := .glo "_law_next"))
  obtain ⟨fd87, H87⟩ := c.fun_ 58 "_law_same" "_law_same" 87
  have g87 : mg "_law_same" = some (.ref (He.ga K "_law_same")) := He.glo_ok X G (c.fact 58 (f := .glo "_law_same"))
  obtain ⟨fd88, H88⟩ := c.fun_ 59 "_law_divisors" "_law_divisors" 88
  have g88 : mg "_law_divisors" = some (.ref (He.ga K "_law_divisors")) := He.glo_ok X G (c.fact 59 (f := .glo "_law_divisors"))
  obtain ⟨fd89, H89⟩ := c.fun_ 60 "_law_units" "_law_units" 89
  have g89 : mg "_law_units" = some (.ref (He.ga K "_law_units")) := He.glo_ok X G (c.fact 60 (f := .glo "_law_units"))
  obtain ⟨fd90, H90⟩ := c.fun_ 61 "_law_edge" "_law_edge" 90
  have g90 : mg "_law_edge" = some (.ref (He.ga K "_law_edge")) := He.glo_ok X G (c.fact 61 (f := .glo "_law_edge"))
  obtain ⟨fd91, H91⟩ := c.fun_ 62 "_law_pieces" "_law_pieces" 91
  have g91 : mg "_law_pieces" = some (.ref (He.ga K "_law_pieces")) := He.glo_ok X G (c.fact 62 (f := .glo "_law_pieces"))
  obtain ⟨fd92, H92⟩ := c.fun_ 63 "_law_world" "_law_world" 92
  have g92 : mg "_law_world" = some (.ref (He.ga K "_law_world")) := He.glo_ok X G (c.fact 63 (f := .glo "_law_world"))
  obtain ⟨fd93, H93⟩ := c.fun_ 64 "_law_times" "_law_times" 93
  have g93 : mg "_law_times" = some (.ref (He.ga K "_law_times")) := He.glo_ok X G (c.fact 64 (f := .glo "_law_times"))
  obtain ⟨fd94, H94⟩ := c.fun_ 65 "_law_level" "_law_level" 94
  have g94 : mg "_law_level" = some (.ref (He.ga K "_law_level")) := He.glo_ok X G (c.fact 65 (f := .glo "_law_level"))
  obtain ⟨fd95, H95⟩ := c.fun_ 66 "_law_row" "_law_row" 95
  have g95 : mg "_law_row" = some (.ref (He.ga K "_law_row")) := He.glo_ok X G (c.fact 66 (f := .glo "_law_row"))
  obtain ⟨fd96, H96⟩ := c.fun_ 67 "_law_moved" "_law_moved" 96
  have g96 : mg "_law_moved" = some (.ref (He.ga K "_law_moved")) := He.glo_ok X G (c.fact 67 (f := .glo "_law_moved"))
  obtain ⟨fd97, H97⟩ := c.fun_ 68 "_law_on_turns" "_law_on_turns" 97
  have g97 : mg "_law_on_turns" = some (.ref (He.ga K "_law_on_turns")) := He.glo_ok X G (c.fact 68 (f := .glo "_law_on_turns"))
  obtain ⟨fd98, H98⟩ := c.fun_ 69 "_law_traceless" "_law_traceless" 98
  have g98 : mg "_law_traceless" = some (.ref (He.ga K "_law_traceless")) := He.glo_ok X G (c.fact 69 (f := .glo "_law_traceless"))
  obtain ⟨fd99, H99⟩ := c.fun_ 70 "_law_sevens" "_law_sevens" 99
  have g99 : mg "_law_sevens" = some (.ref (He.ga K "_law_sevens")) := He.glo_ok X G (c.fact 70 (f := .glo "_law_sevens"))
  obtain ⟨fd100, H100⟩ := c.fun_ 71 "_law_clock" "_law_clock" 100
  have g100 : mg "_law_clock" = some (.ref (He.ga K "_law_clock")) := He.glo_ok X G (c.fact 71 (f := .glo "_law_clock"))
  obtain ⟨fd101, H101⟩ := c.fun_ 72 "_law_weights" "_law_weights" 101
  have g101 : mg "_law_weights" = some (.ref (He.ga K "_law_weights")) := He.glo_ok X G (c.fact 72 (f := .glo "_law_weights"))
  obtain ⟨fd102, H102⟩ := c.fun_ 73 "_law_moved_totals" "_law_moved_totals" 102
  have g102 : mg "_law_moved_totals" = some (.ref (He.ga K "_law_moved_totals")) := He.glo_ok X G (c.fact 73 (f := .glo "_law_moved_totals"))
  obtain ⟨fd103, H103⟩ := c.fun_ 74 "_law_undivided" "_law_undivided" 103
  have g103 : mg "_law_undivided" = some (.ref (He.ga K "_law_undivided")) := He.glo_ok X G (c.fact 74 (f := .glo "_law_undivided"))
  obtain ⟨fd104, H104⟩ := c.fun_ 75 "_law_of_weights" "_law_of_weights" 104
  have g104 : mg "_law_of_weights" = some (.ref (He.ga K "_law_of_weights")) := He.glo_ok X G (c.fact 75 (f := .glo "_law_of_weights"))
  obtain ⟨fd105, H105⟩ := c.fun_ 76 "_law_set" "_law_set" 105
  have g105 : mg "_law_set" = some (.ref (He.ga K "_law_set")) := He.glo_ok X G (c.fact 76 (f := .glo "_law_set"))
  obtain ⟨fd106, H106⟩ := c.fun_ 77 "_law_of_sets" "_law_of_sets" 106
  have g106 : mg "_law_of_sets" = some (.ref (He.ga K "_law_of_sets")) := He.glo_ok X G (c.fact 77 (f := .glo "_law_of_sets"))
  obtain ⟨fd107, H107⟩ := c.fun_ 78 "_law_part" "_law_part" 107
  have g107 : mg "_law_part" = some (.ref (He.ga K "_law_part")) := He.glo_ok X G (c.fact 78 (f := .glo "_law_part"))
  obtain ⟨fd108, H108⟩ := c.fun_ 79 "_law_of_parts" "_law_of_parts" 108
  have g108 : mg "_law_of_parts" = some (.ref (He.ga K "_law_of_parts")) := He.glo_ok X G (c.fact 79 (f := .glo "_law_of_parts"))
  obtain ⟨fd109, H109⟩ := c.fun_ 80 "law" "law" 109
  have g109 : mg "law" = some (.ref (He.ga K "law")) := He.glo_ok X G (c.fact 80 (f := .glo "law"))
  have e := hfa.symm.trans g109
  cases e
  obtain ⟨fdL, FL⟩ := c.def_ 80 (d := dOf "law" "law" 109)
  have HL : Fun K "law" "law" (topS 109) (He.ga K "law") fdL := fun_of FL
  have bL := FunD.bindsA (ps := ["_law_script"]) FL fun _ _ _ _ _ _ us hl => match us, hl with | [_], _ => rfl
  refine ⟨fdL, fun s v => bL s [v] rfl, fun base _ _ => ?_⟩
  have C7 : Cal P w K mg base "whole" 1 1 F_whole := cal_whole H7 g7 B
  have C16 : Cal P w K mg base "is_integer" 1 2 F_is_integer := cal_is_integer H16 g16 C7
  have C10 : Cal P w K mg base "turns_in" 1 1 F_turns_in := cal_turns_in H10 g10
  have C23 : Cal P w K mg base "moves_many" 1 2 F_moves_many := cal_moves_many H23 g23 C10
  have C47 : Cal P w K mg base "settled" 3 3 F_settled := cal_settled H47 g47 B C16 C23
  have C11 : Cal P w K mg base "factor_of" 2 1 F_factor_of := cal_factor_of H11 g11 B
  have C17 : Cal P w K mg base "is_number" 1 2 F_is_number := cal_is_number H17 g17 C7
  have C6 : Cal P w K mg base "usable" 2 1 F_usable := cal_usable H6 g6
  have C42 : Cal P w K mg base "factor_at" 2 3 F_factor_at := cal_factor_at H42 g42 C11 C10 C17 C6
  have C24 : Cal P w K mg base "turns_many" 1 2 F_turns_many := cal_turns_many H24 g24 C10
  have C28 : Cal P w K mg base "is_deal" 2 3 F_is_deal := cal_is_deal H28 g28 B C16 C23
  have C35 : Cal P w K mg base "want_deal" 3 4 F_want_deal := cal_want_deal H35 g35 C28
  have C36 : Cal P w K mg base "want_two" 3 5 F_want_two := cal_want_two H36 g36 C35
  have C62 : Cal P w K mg base "dealt" 3 6 F_dealt := cal_dealt H62 g62 B C47 C42 C24 C36
  have C48 : Cal P w K mg base "idle_deal" 1 3 F_idle_deal := cal_idle_deal H48 g48 B C23
  have C37 : Cal P w K mg base "want_many" 1 3 F_want_many := cal_want_many H37 g37 C17
  have C63 : Cal P w K mg base "dealt_again" 3 7 F_dealt_again := cal_dealt_again H63 g63 C62 C48 C37 C35
  have C87 : Cal P w K mg base "_law_same" 2 5 (F_L_same 5) := cal_L_same H87 g87 B
  have C44 : Cal P w K mg base "move_at" 2 3 F_move_at := cal_move_at H44 g44 C10 C17 C6
  have C74 : Cal P w K mg base "first_unlike" 2 4 F_first_unlike := cal_first_unlike H74 g74 B C44
  have C13 : Cal P w K mg base "edge_in" 2 1 F_edge_in := cal_edge_in H13 g13
  have C26 : Cal P w K mg base "last_edge" 1 2 F_last_edge := cal_last_edge H26 g26 C13
  have C65 : Cal P w K mg base "is_even" 2 5 F_is_even := cal_is_even H65 g65 B C35
  have C30 : Cal P w K mg base "judge_deal" 3 4 F_judge_deal := cal_judge_deal H30 g30 C28
  have C72 : Cal P w K mg base "even_after" 2 7 F_even_after := cal_even_after H72 g72 B C62 C65 C26 C30
  have C75 : Cal P w K mg base "even_paper" 2 8 F_even_paper := cal_even_paper H75 g75 C63 C74 C26 C72
  have C103 : Cal P w K mg base "_law_undivided" 2 10 F_L_undivided := cal_L_undivided H103 g103 H70 g70 T FI C30
  have C94 : Cal P w K mg base "_law_level" 1 1 F_L_level := cal_L_level H94 g94 B
  have C12 : Cal P w K mg base "moves_in" 1 2 F_moves_in := cal_moves_in H12 g12 B C10
  have C45 : Cal P w K mg base "all_moves" 1 3 F_all_moves := cal_all_moves H45 g45 B C12
  have C8 : Cal P w K mg base "is_pair" 1 1 F_is_pair := cal_is_pair H8 g8 B
  have C18 : Cal P w K mg base "is_move" 2 3 F_is_move := cal_is_move H18 g18 C10 C17 C8
  have C9 : Cal P w K mg base "primes_in" 1 1 F_primes_in := cal_primes_in H9 g9 B
  have C14 : Cal P w K mg base "spots_in" 3 2 F_spots_in := cal_spots_in H14 g14 C9
  have C20 : Cal P w K mg base "divides" 2 2 F_divides := cal_divides H20 g20 C7
  have C21 : Cal P w K mg base "is_part" 2 3 F_is_part := cal_is_part H21 g21 B C14 C17 C10 C20
  have C51 : Cal P w K mg base "usable_part" 2 4 F_usable_part := cal_usable_part H51 g51 C14 C6 C21
  have C53 : Cal P w K mg base "folded_move" 3 5 F_folded_move := cal_folded_move H53 g53 C10 C18 C6 C51
  have C43 : Cal P w K mg base "number_of" 2 4 F_number_of := cal_number_of H43 g43 C18 C6
  have C55 : Cal P w K mg base "folded_numbers" 3 6 F_folded_numbers := cal_folded_numbers H55 g55 C45 C53 C43
  have C52 : Cal P w K mg base "folded_clock" 2 5 F_folded_clock := cal_folded_clock H52 g52 B C51
  have C33 : Cal P w K mg base "is_kept" 2 4 F_is_kept := cal_is_kept H33 g33 C14 C21 C6
  have C38 : Cal P w K mg base "want_part_b_wants" 2 4 F_want_part := cal_want_part_as H38 g38 C21
  have C40 : Cal P w K mg base "want_kept" 2 5 F_want_kept := cal_want_kept H40 g40 C33 C38
  have C56 : Cal P w K mg base "folded_deal" 3 7 F_folded_deal := cal_folded_deal H56 g56 B C47 C55 C23 C52 C35 C40
  have C59 : Cal P w K mg base "in_range" 1 2 F_in_range := cal_in_range H59 g59 B C7
  have C60 : Cal P w K mg base "primes_of" 1 3 F_primes_of := cal_primes_of H60 g60 C9 C59 C6
  have C25 : Cal P w K mg base "does_move" 3 2 F_does_move := cal_does_move H25 g25 B C9 C7 C6
  have C67 : Cal P w K mg base "is_moved" 2 3 F_is_moved := cal_is_moved H67 g67 C25
  have C68 : Cal P w K mg base "moved_part" 1 4 F_moved_part := cal_moved_part H68 g68 C60 C67
  have C69 : Cal P w K mg base "folds_evenly" 2 8 F_folds_evenly := cal_folds_evenly H69 g69 C56 C52 C65 C68 C30
  have C70 : Cal P w K mg base "divides_total" 2 5 F_divides_total := cal_divides_total H70 g70 B C23 C30
  have C90 : Cal P w K mg base "_law_edge" 2 1 F_L_edge := cal_L_edge H90 g90
  have C89 : Cal P w K mg base "_law_units" 1 1 F_L_units := cal_L_units H89 g89 B
  have C102 : Cal P w K mg base "_law_moved_totals" 2 2 F_L_moved_totals := cal_L_moved_totals H102 g102 B C90 C89
  have C93 : Cal P w K mg base "_law_times" 3 1 F_L_times := cal_L_times H93 g93 B
  have C86 : Cal P w K mg base "_law_next" 2 1 F_L_next := cal_L_next H86 g86 B
  have C97 : Cal P w K mg base "_law_on_turns" 3 1 F_L_on_turns := cal_L_on_turns H97 g97 B
  have C99 : Cal P w K mg base "_law_sevens" 2 2 F_L_sevens := cal_L_sevens H99 g99 B C97 C93
  have C95 : Cal P w K mg base "_law_row" 2 2 F_L_row := cal_L_row H95 g95 B C86
  have C96 : Cal P w K mg base "_law_moved" 2 1 F_L_moved := cal_L_moved H96 g96 B
  have C98 : Cal P w K mg base "_law_traceless" 3 2 F_L_traceless := cal_L_traceless H98 g98 B C97 C96
  have C88 : Cal P w K mg base "_law_divisors" 1 1 F_L_divisors := cal_L_divisors H88 g88 B
  have C101 : Cal P w K mg base "_law_weights" 2 3 F_L_weights := cal_L_weights H101 g101 B C86 C99 C95 C98 C88
  have C104 : Cal P w K mg base "_law_of_weights" 2 11 F_L_of_weights := cal_L_of_weights H104 g104 B C63 C87 C75 C103 C94 C69 C72 C70 C102 C90 C93 C86 C101
  have C82 : Cal P w K mg base "are_deals" 2 4 F_are_deals := cal_are_deals H82 g82 B C28
  have C83 : Cal P w K mg base "row_after" 2 7 F_row_after := cal_row_after H83 g83 B C65 C62 C82
  have C32 : Cal P w K mg base "part_size" 2 4 F_part_size := cal_part_size H32 g32 C21 C6
  have C77 : Cal P w K mg base "want_part_c_wants" 3 4 F_want_part_77 := cal_want_part_77_as H77 g77 C21
  have C80 : Cal P w K mg base "parts_cover" 3 5 F_parts_cover := cal_parts_cover H80 g80 C23 C60 C32 C77
  have C107 : Cal P w K mg base "_law_part" 2 2 F_L_part := cal_L_part H107 g107 B C86 C89 C88
  have C108 : Cal P w K mg base "_law_of_parts" 2 8 F_L_of_parts := cal_L_of_parts H108 g108 B C83 C87 C80 C94 C93 C88 C89 C107
  have C19 : Cal P w K mg base "is_moves" 2 4 F_is_moves := cal_is_moves H19 g19 B C18
  have C49 : Cal P w K mg base "deal_on" 2 5 F_deal_on := cal_deal_on H49 g49 B C43 C23 C19
  have C105 : Cal P w K mg base "_law_set" 2 3 F_L_set := cal_L_set H105 g105 B C86 C107
  have C106 : Cal P w K mg base "_law_of_sets" 2 8 F_L_of_sets := cal_L_of_sets H106 g106 B C83 C87 C72 C49 C94 C93 C86 C105
  have C100 : Cal P w K mg base "_law_clock" 1 2 F_L_clock := cal_L_clock H100 g100 B C86
  have C91 : Cal P w K mg base "_law_pieces" 1 2 F_L_pieces := cal_L_pieces H91 g91 C88 C89 C90
  have C92 : Cal P w K mg base "_law_world" 1 3 F_L_world := cal_L_world H92 g92 B C91
  exact ok_law HL H85 g85 B C104 C108 C106 C86 C100 C92
end Mir
open PySem PySem.W PySem.Calls PyProof.Rows
theorem PySem.Challenge.cw_evenlater_k64_whole_totals_of_what_comes_holds : PySem.Challenge.rw_evenlater_k64_whole_totals_of_what_comes.Holds := by
  refine Mir.holds_of (L2.walk_ofE (l := PySem.Challenge.rw_evenlater_k64_whole_totals_of_what_comes) (n := 63) (k := 12) (x := "_law_script") (CX := L2.CX0) rfl (by decide) Mir.law_dfl ⟨rfl, by decide, by decide⟩ ?F (fun _ _ _ _ z => z))
  intro w mg fa h Y G hmg0
  obtain ⟨K, KX, c⟩ := Y
  have hmg : mg ("law" : PySem.Str) = some (.ref fa) := by
    rw [← Mir.law_name]
    exact hmg0
  obtain ⟨fd, hb, hF⟩ := Mir.facts (P := (PySem.Challenge.rw_evenlater_k64_whole_totals_of_what_comes).prog) (w := w) KX G hmg c
  exact ⟨K, fd, Mir.spLaw K, KX, hb, fun H a ns hl _ hS => ⟨a, ns, rfl, hS, hl, fun _ => rfl⟩, hF⟩
