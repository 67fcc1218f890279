import PyProof.Rows.All
import Wide.All
import OpenK.AllK
import Wide.FinOn
import HandS.ForMost
import HandS.Walk
import KE.GoesEnum
import HandS.Set
import HandS.SetFor
import KE.SortData
import HandS.Sort
import HandS.Style
import HandS.TupAny
import HandS.DictComp
import HandS.Zip
import HandS.IsInst
import HandS.More
import HandS.Conv
import HandS.TupMul
import PySem.Challenge.RW_syncedwords_k11_whole_any_evidence
/-! The plain law: dangling suffixes over strings as lists of code points. Core Lean alone. -/
namespace K11
abbrev S := List Nat

/-! ### the mirrors -/
/-- what comes from a rest and a word -/
def onW (r w : S) : List S := if w.isPrefixOf r = true then [r.drop w.length] else if r.isPrefixOf w = true then [w.drop r.length] else []
def on (code : List S) (r : S) : List S := code.flatMap (onW r)
/-- what comes from two words -/
def prW (i : Nat) (w : S) (p : S × Nat) : List S := if p.2 ≠ i ∧ p.1.isPrefixOf w = true then [w.drop p.1.length] else []
def pairs (code : List S) : List S := code.zipIdx.flatMap fun q => code.zipIdx.flatMap fun p => prW q.2 q.1 p
def addNew (row : List S) (m : S) : List S := if m ∈ row then row else row ++ [m]
def turn (code : List S) (row : List S) (t : Nat) : List S :=
  match row[t]? with
  | some r => if r ≠ [] then (on code r).foldl addNew row else row
  | none => row
def rowAt (code : List S) : Nat → List S
  | 0 => pairs code
  | t + 1 => turn code (rowAt code t) t
def addNE (row : List S) (m : S) : List S := if m ∉ row ∧ m ≠ [] then row ++ [m] else row
def gturn (code : List S) (row : List S) (t : Nat) : List S :=
  match row[t]? with
  | some r => (on code r).foldl addNE row
  | none => row
def grow (code : List S) (start : List S) : Nat → List S
  | 0 => start.filter fun r => decide (r ≠ [])
  | t + 1 => gturn code (grow code start t) t
/-- a string of 1 to 5 letters -/
def memS (r : S) : Bool := decide (1 ≤ r.length) && decide (r.length ≤ 5) && r.all fun c => decide (c ∈ [97, 98, 99])
def asc (xs : List S) : Bool := (xs.zip (xs.drop 1)).all fun p => decide (p.1 < p.2)
def closedL (code xs : List S) : Bool :=
  decide (xs.length ≤ 64) && xs.all memS && asc xs && (pairs code).all (fun r => decide (r ∈ xs)) && xs.all fun r => (on code r).all fun m => decide (m ∈ xs)
def cat (code : List S) (ns : List Nat) : S := ns.flatMap fun n => code.getD n []

/-! ### the universe of suffixes -/
def sufs (w : S) : List S := (List.range (w.length + 1)).map w.drop
def U (code : List S) : List S := code.flatMap sufs
theorem mem_sufs {w r : S} : r ∈ sufs w ↔ r <:+ w := by
  unfold sufs
  rw [List.mem_map]
  constructor
  · rintro ⟨k, _, rfl⟩
    exact List.drop_suffix k w
  · rintro h
    refine ⟨w.length - r.length, ?_, ?_⟩
    · rw [List.mem_range]; omega
    · exact (List.suffix_iff_eq_drop.mp h).symm
theorem mem_U {code : List S} {r : S} : r ∈ U code ↔ ∃ w ∈ code, r <:+ w := by
  unfold U
  rw [List.mem_flatMap]
  constructor
  · rintro ⟨w, hw, h⟩
    exact ⟨w, hw, mem_sufs.mp h⟩
  · rintro ⟨w, hw, h⟩
    exact ⟨w, hw, mem_sufs.mpr h⟩
theorem len_flatMap_le {α β : Type} (f : α → List β) (n : Nat) : ∀ l : List α, (∀ x ∈ l, (f x).length ≤ n) → (l.flatMap f).length ≤ l.length * n
  | [], _ => by simp
  | x :: l, h => by
    have h1 := h x List.mem_cons_self
    have h2 := len_flatMap_le f n l fun y hy => h y (List.mem_cons_of_mem _ hy)
    rw [List.flatMap_cons, List.length_append, List.length_cons, Nat.add_mul, Nat.one_mul]
    omega
theorem len_U {code : List S} {L : Nat} (h : ∀ w ∈ code, w.length ≤ L) : (U code).length ≤ code.length * (L + 1) := by
  refine len_flatMap_le sufs (L + 1) code fun w hw => ?_
  unfold sufs
  rw [List.length_map, List.length_range]
  have := h w hw
  omega
theorem nodup_le {α : Type} [DecidableEq α] : ∀ (l u : List α), l.Nodup → (∀ x ∈ l, x ∈ u) → l.length ≤ u.length
  | [], _, _, _ => Nat.zero_le _
  | x :: l, u, hn, hs => by
    have hx : x ∈ u := hs x List.mem_cons_self
    obtain ⟨hxl, hl⟩ := List.nodup_cons.mp hn
    have h1 := nodup_le l (u.erase x) hl fun y hy => (List.mem_erase_of_ne (fun e : y = x => hxl (e ▸ hy))).mpr (hs y (List.mem_cons_of_mem _ hy))
    rw [List.length_erase_of_mem hx] at h1
    have : 0 < u.length := List.length_pos_of_mem hx
    rw [List.length_cons]
    omega

/-! ### what one step gives -/
theorem mem_onW {r w m : S} : m ∈ onW r w ↔ (w <+: r ∧ m = r.drop w.length) ∨ (¬ w <+: r ∧ r <+: w ∧ m = w.drop r.length) := by
  unfold onW
  by_cases h1 : w.isPrefixOf r = true
  · rw [if_pos h1]
    have := List.isPrefixOf_iff_prefix.mp h1
    simp [this]
  · rw [if_neg h1]
    have h1' : ¬ w <+: r := fun z => h1 (List.isPrefixOf_iff_prefix.mpr z)
    by_cases h2 : r.isPrefixOf w = true
    · rw [if_pos h2]
      have := List.isPrefixOf_iff_prefix.mp h2
      simp [this, h1']
    · rw [if_neg h2]
      have h2' : ¬ r <+: w := fun z => h2 (List.isPrefixOf_iff_prefix.mpr z)
      simp [h1', h2']
theorem mem_on {code : List S} {r m : S} : m ∈ on code r ↔ ∃ w ∈ code, m ∈ onW r w := List.mem_flatMap
theorem on_U {code : List S} {u : List S} {r m : S} (hu : ∀ w ∈ code, ∀ k, w.drop k ∈ u) (hr : ∀ k, r.drop k ∈ u) (h : m ∈ on code r) : m ∈ u := by
  obtain ⟨w, hw, h⟩ := mem_on.mp h
  rcases mem_onW.mp h with ⟨_, rfl⟩ | ⟨_, _, rfl⟩
  · exact hr _
  · exact hu w hw _
theorem drop_U {code : List S} {r : S} (h : r ∈ U code) (k : Nat) : r.drop k ∈ U code := by
  obtain ⟨w, hw, hs⟩ := mem_U.mp h
  exact mem_U.mpr ⟨w, hw, (List.drop_suffix k r).trans hs⟩
theorem word_U {code : List S} {w : S} (h : w ∈ code) (k : Nat) : w.drop k ∈ U code := mem_U.mpr ⟨w, h, List.drop_suffix k w⟩
theorem on_in_U {code : List S} {r m : S} (hr : r ∈ U code) (h : m ∈ on code r) : m ∈ U code := on_U (fun w hw k => word_U hw k) (drop_U hr) h
theorem mem_pairs {code : List S} {m : S} : m ∈ pairs code ↔ ∃ i j : Nat, ∃ w p : S, code[i]? = some w ∧ code[j]? = some p ∧ j ≠ i ∧ p <+: w ∧ m = w.drop p.length := by
  unfold pairs
  constructor
  · intro h
    obtain ⟨⟨w, i⟩, hq, h⟩ := List.mem_flatMap.mp h
    obtain ⟨⟨p, j⟩, hp, h⟩ := List.mem_flatMap.mp h
    unfold prW at h
    by_cases c : j ≠ i ∧ p.isPrefixOf w = true
    · rw [if_pos c] at h
      refine ⟨i, j, w, p, List.mem_zipIdx_iff_getElem?.mp hq, List.mem_zipIdx_iff_getElem?.mp hp, c.1, List.isPrefixOf_iff_prefix.mp c.2, by simpa using h⟩
    · rw [if_neg c] at h
      cases h
  · rintro ⟨i, j, w, p, hi, hj, ne, hp, rfl⟩
    refine List.mem_flatMap.mpr ⟨(w, i), List.mem_zipIdx_iff_getElem?.mpr hi, List.mem_flatMap.mpr ⟨(p, j), List.mem_zipIdx_iff_getElem?.mpr hj, ?_⟩⟩
    unfold prW
    rw [if_pos ⟨ne, List.isPrefixOf_iff_prefix.mpr hp⟩]
    exact List.mem_singleton.mpr rfl
theorem pairs_U {code : List S} {m : S} (h : m ∈ pairs code) : m ∈ U code := by
  obtain ⟨i, j, w, p, hi, _, _, _, rfl⟩ := mem_pairs.mp h
  exact word_U (List.mem_of_getElem? hi) _
theorem len_pairs (code : List S) : (pairs code).length ≤ code.length * code.length := by
  unfold pairs
  have h := len_flatMap_le (fun q : S × Nat => code.zipIdx.flatMap fun p => prW q.2 q.1 p) code.length code.zipIdx (fun q _ => ?_)
  · simpa using h
  · have h2 := len_flatMap_le (fun p => prW q.2 q.1 p) 1 code.zipIdx (fun p _ => ?_)
    · simpa using h2
    · unfold prW
      split <;> simp
theorem len_on (code : List S) (r : S) : (on code r).length ≤ code.length := by
  have h := len_flatMap_le (onW r) 1 code (fun w _ => ?_)
  · simpa [on] using h
  · unfold onW
    split
    · simp
    · split <;> simp

/-! ### the row -/
theorem mem_addNew {row : List S} {m x : S} : x ∈ addNew row m ↔ x ∈ row ∨ x = m := by
  unfold addNew
  by_cases h : m ∈ row
  · rw [if_pos h]
    constructor
    · exact Or.inl
    · rintro (z | rfl)
      · exact z
      · exact h
  · rw [if_neg h, List.mem_append, List.mem_singleton]
theorem mem_foldl_addNew : ∀ (ms row : List S) (x : S), x ∈ ms.foldl addNew row ↔ x ∈ row ∨ x ∈ ms
  | [], row, x => by simp
  | m :: ms, row, x => by
    rw [List.foldl_cons, mem_foldl_addNew ms, mem_addNew, List.mem_cons]
    constructor
    · rintro ((a | a) | a)
      · exact .inl a
      · exact .inr (.inl a)
      · exact .inr (.inr a)
    · rintro (a | a | a)
      · exact .inl (.inl a)
      · exact .inl (.inr a)
      · exact .inr a
theorem pre_addNew (row : List S) (m : S) : row <+: addNew row m := by
  unfold addNew
  split
  · exact List.prefix_refl _
  · exact List.prefix_append _ _
theorem pre_foldl_addNew : ∀ (ms row : List S), row <+: ms.foldl addNew row
  | [], row => List.prefix_refl _
  | m :: ms, row => (pre_addNew row m).trans (pre_foldl_addNew ms (addNew row m))
theorem pre_turn (code row : List S) (t : Nat) : row <+: turn code row t := by
  unfold turn
  split
  · split
    · exact pre_foldl_addNew _ _
    · exact List.prefix_refl _
  · exact List.prefix_refl _
theorem pre_row (code : List S) (s : Nat) : ∀ t, rowAt code s <+: rowAt code (s + t)
  | 0 => List.prefix_refl _
  | t + 1 => (pre_row code s t).trans (pre_turn code (rowAt code (s + t)) (s + t))
theorem turn_mem {code row : List S} {t : Nat} {x : S} (h : x ∈ turn code row t) : x ∈ row ∨ ∃ r ∈ row, r ≠ [] ∧ x ∈ on code r := by
  unfold turn at h
  split at h
  · rename_i r hr
    split at h
    · rename_i hn
      rcases (mem_foldl_addNew _ _ _).mp h with z | z
      · exact .inl z
      · exact .inr ⟨r, List.mem_of_getElem? hr, hn, z⟩
    · exact .inl h
  · exact .inl h
/-- what holds of the pairs and is handed on by a step holds of the row -/
theorem row_ind {code : List S} {p : S → Prop} (h0 : ∀ r ∈ pairs code, p r) (h1 : ∀ r, p r → r ≠ [] → ∀ m ∈ on code r, p m) : ∀ t, ∀ r ∈ rowAt code t, p r
  | 0, r, h => h0 r h
  | t + 1, r, h => by
    rcases turn_mem h with z | ⟨q, hq, hn, z⟩
    · exact row_ind h0 h1 t r z
    · exact h1 q (row_ind h0 h1 t q hq) hn r z
theorem row_U {code : List S} {t : Nat} : ∀ r ∈ rowAt code t, r ∈ U code := row_ind (fun _ h => pairs_U h) (fun _ h _ _ hm => on_in_U h hm) t
theorem addNew_split {pre ex : List S} {m : S} {u : List S} (hn : ex.Nodup) (hu : ∀ x ∈ ex, x ∈ u) (hm : m ∈ u) : ∃ ex', addNew (pre ++ ex) m = pre ++ ex' ∧ ex'.Nodup ∧ ∀ x ∈ ex', x ∈ u := by
  unfold addNew
  by_cases h : m ∈ pre ++ ex
  · rw [if_pos h]
    exact ⟨ex, rfl, hn, hu⟩
  · rw [if_neg h]
    have hx : m ∉ ex := fun z => h (List.mem_append_right _ z)
    refine ⟨ex ++ [m], by rw [List.append_assoc], ?_, fun x hx' => ?_⟩
    · refine List.nodup_append.mpr ⟨hn, List.nodup_cons.mpr ⟨by simp, List.nodup_nil⟩, ?_⟩
      intro a ha b hb e
      rw [List.mem_singleton] at hb
      subst hb
      subst e
      exact hx ha
    · rcases List.mem_append.mp hx' with z | z
      · exact hu x z
      · rw [List.mem_singleton] at z
        subst z
        exact hm
theorem foldl_split {pre : List S} {u : List S} : ∀ (ms ex : List S), ex.Nodup → (∀ x ∈ ex, x ∈ u) → (∀ m ∈ ms, m ∈ u) → ∃ ex', ms.foldl addNew (pre ++ ex) = pre ++ ex' ∧ ex'.Nodup ∧ ∀ x ∈ ex', x ∈ u
  | [], ex, hn, hu, _ => ⟨ex, rfl, hn, hu⟩
  | m :: ms, ex, hn, hu, hm => by
    obtain ⟨ex1, e1, n1, u1⟩ := addNew_split (pre := pre) hn hu (hm m List.mem_cons_self)
    rw [List.foldl_cons, e1]
    exact foldl_split ms ex1 n1 u1 fun x hx => hm x (List.mem_cons_of_mem _ hx)
theorem row_split (code : List S) : ∀ t, ∃ ex, rowAt code t = pairs code ++ ex ∧ ex.Nodup ∧ ∀ x ∈ ex, x ∈ U code
  | 0 => ⟨[], by simp [rowAt], List.nodup_nil, fun x hx => by cases hx⟩
  | t + 1 => by
    obtain ⟨ex, e, n, u⟩ := row_split code t
    show ∃ ex', turn code (rowAt code t) t = pairs code ++ ex' ∧ ex'.Nodup ∧ ∀ x ∈ ex', x ∈ U code
    unfold turn
    split
    · rename_i r hr
      split
      · have hru : r ∈ U code := row_U r (List.mem_of_getElem? hr)
        rw [e]
        exact foldl_split _ ex n u fun m hm => on_in_U hru hm
      · exact ⟨ex, e, n, u⟩
    · exact ⟨ex, e, n, u⟩
theorem row_len (code : List S) (t : Nat) : (rowAt code t).length ≤ code.length * code.length + (U code).length := by
  obtain ⟨ex, e, n, u⟩ := row_split code t
  rw [e, List.length_append]
  have h1 := len_pairs code
  have h2 := nodup_le ex (U code) n u
  omega
theorem row_stuck {code : List S} {i : Nat} (h : (rowAt code i).length ≤ i) : ∀ t, rowAt code (i + t) = rowAt code i
  | 0 => rfl
  | t + 1 => by
    have ih := row_stuck h t
    show turn code (rowAt code (i + t)) (i + t) = rowAt code i
    rw [ih]
    unfold turn
    rw [List.getElem?_eq_none_iff.mpr (by omega)]
/-- the row is closed when its length is at most the turns -/
theorem row_closed {code : List S} {n : Nat} (hn : (rowAt code n).length ≤ n) {r m : S} (hr : r ∈ rowAt code n) (h0 : r ≠ []) (hm : m ∈ on code r) : m ∈ rowAt code n := by
  obtain ⟨i, hi, rfl⟩ := List.mem_iff_getElem.mp hr
  have hin : i < n := Nat.lt_of_lt_of_le hi hn
  have h1 : i < (rowAt code i).length := by
    apply Nat.lt_of_not_le
    intro z
    have e := row_stuck z (n - i)
    rw [show i + (n - i) = n by omega] at e
    have hi' := hi
    rw [e] at hi'
    omega
  have pre : rowAt code i <+: rowAt code n := by
    have := pre_row code i (n - i)
    rw [show i + (n - i) = n by omega] at this
    exact this
  have pre1 : rowAt code (i + 1) <+: rowAt code n := by
    have := pre_row code (i + 1) (n - (i + 1))
    rw [show i + 1 + (n - (i + 1)) = n by omega] at this
    exact this
  have e : (rowAt code i)[i]? = some (rowAt code n)[i] := by
    obtain ⟨rest, er⟩ := pre
    rw [List.getElem?_eq_getElem h1]
    have : (rowAt code n)[i]? = (rowAt code i)[i]? := by rw [← er, List.getElem?_append_left h1]
    rw [List.getElem?_eq_getElem hi, List.getElem?_eq_getElem h1] at this
    exact this.symm
  have h2 : m ∈ turn code (rowAt code i) i := by
    unfold turn
    rw [e]
    show m ∈ (if (rowAt code n)[i] ≠ [] then _ else _)
    rw [if_pos h0]
    exact (mem_foldl_addNew _ _ _).mpr (.inr hm)
  exact pre1.subset h2

/-! ### a closed set shows that the empty string is no rest -/
theorem memS_ne {r : S} (h : memS r = true) : r ≠ [] := by
  rintro rfl
  exact absurd h (by decide)
theorem closed_sound {code xs : List S} (h : closedL code xs = true) (t : Nat) : ([] : S) ∉ rowAt code t := by
  unfold closedL at h
  simp only [Bool.and_eq_true, List.all_eq_true, decide_eq_true_eq] at h
  obtain ⟨⟨⟨⟨_, h1⟩, _⟩, h2⟩, h3⟩ := h
  intro z
  have hz := row_ind (p := fun r => r ∈ xs) h2 (fun r hr _ m hm => h3 r hr m hm) t [] z
  exact memS_ne (h1 [] hz) rfl

/-! ### two parses show that it is one -/
theorem go_on {code : List S} {R : S → Prop} (hR : ∀ r, R r → r ≠ [] → ∀ m ∈ on code r, R m) (hne : ∀ w ∈ code, w ≠ []) :
    ∀ (n : Nat) (u v : List S) (r : S), u.length + v.length ≤ n → (∀ w ∈ u, w ∈ code) → (∀ w ∈ v, w ∈ code) → R r → r ≠ [] → r ++ u.flatten = v.flatten → R []
  | n, u, [], r, _, _, _, _, h0, e => by
    have : r ++ u.flatten = [] := e
    exact absurd (List.append_eq_nil_iff.mp this).1 h0
  | 0, u, w :: v, r, hl, _, _, _, _, _ => by
    rw [List.length_cons] at hl
    omega
  | n + 1, u, w :: v, r, hl, hu, hv, hr, h0, e => by
    have hw : w ∈ code := hv w List.mem_cons_self
    have e' : r ++ u.flatten = w ++ v.flatten := by rw [e, List.flatten_cons]
    rw [List.length_cons] at hl
    rcases List.append_eq_append_iff.mp e' with ⟨k, h1, h2⟩ | ⟨k, h1, h2⟩
    · -- w = r ++ k
      by_cases hk : k = []
      · subst hk
        rw [List.append_nil] at h1
        subst h1
        have hm : ([] : S) ∈ on code w := mem_on.mpr ⟨w, hw, mem_onW.mpr (.inl ⟨List.prefix_refl _, by simp⟩)⟩
        exact hR w hr h0 [] hm
      · have np : ¬ w <+: r := fun z => by
          have := z.length_le
          rw [h1, List.length_append] at this
          have : 0 < k.length := List.length_pos_iff.mpr hk
          omega
        have hm : k ∈ on code r := mem_on.mpr ⟨w, hw, mem_onW.mpr (.inr ⟨np, ⟨k, h1.symm⟩, by rw [h1, List.drop_left]⟩)⟩
        exact go_on hR hne n v u k (by omega) (fun x hx => hv x (List.mem_cons_of_mem _ hx)) hu (hR r hr h0 k hm) hk h2.symm
    · -- r = w ++ k
      have hm : k ∈ on code r := mem_on.mpr ⟨w, hw, mem_onW.mpr (.inl ⟨⟨k, h1.symm⟩, by rw [h1, List.drop_left]⟩)⟩
      by_cases hk : k = []
      · subst hk
        exact hR r hr h0 [] hm
      · exact go_on hR hne n u v k (by omega) hu (fun x hx => hv x (List.mem_cons_of_mem _ hx)) (hR r hr h0 k hm) hk h2.symm
theorem getD_mem {code : List S} {n : Nat} (h : n < code.length) : code.getD n [] ∈ code := by
  rw [List.getD_eq_getElem?_getD, List.getElem?_eq_getElem h]
  exact List.getElem_mem h
theorem cat_flatten (code : List S) (ns : List Nat) : cat code ns = (ns.map fun n => code.getD n []).flatten := by
  unfold cat
  rw [List.flatMap_def]
theorem cat_nil_of {code : List S} (hne : ∀ w ∈ code, w ≠ []) : ∀ (ns : List Nat), (∀ n ∈ ns, n < code.length) → cat code ns = [] → ns = []
  | [], _, _ => rfl
  | n :: ns, hn, h => by
    unfold cat at h
    rw [List.flatMap_cons] at h
    exact absurd (List.append_eq_nil_iff.mp h).1 (hne _ (getD_mem (hn n List.mem_cons_self)))
theorem two_go {code : List S} {R : S → Prop} (h0 : ∀ m ∈ pairs code, R m) (hR : ∀ r, R r → r ≠ [] → ∀ m ∈ on code r, R m) (hne : ∀ w ∈ code, w ≠ []) :
    ∀ (p q : List Nat), (∀ n ∈ p, n < code.length) → (∀ n ∈ q, n < code.length) → p ≠ q → cat code p = cat code q → R []
  | [], q, _, hq, ne, e => absurd (cat_nil_of hne q hq e.symm).symm ne
  | a :: p, [], hp, _, _, e => absurd (cat_nil_of hne (a :: p) hp e) (by simp)
  | a :: p, b :: q, hp, hq, ne, e => by
    have ha := hp a List.mem_cons_self
    have hb := hq b List.mem_cons_self
    have hp' : ∀ n ∈ p, n < code.length := fun n h => hp n (List.mem_cons_of_mem _ h)
    have hq' : ∀ n ∈ q, n < code.length := fun n h => hq n (List.mem_cons_of_mem _ h)
    have e' : code.getD a [] ++ cat code p = code.getD b [] ++ cat code q := e
    by_cases hab : a = b
    · subst hab
      exact two_go h0 hR hne p q hp' hq' (fun z => ne (by rw [z])) (List.append_cancel_left e')
    · have key : ∀ (a b : Nat) (p q : List Nat), a < code.length → b < code.length → a ≠ b → (∀ n ∈ p, n < code.length) → (∀ n ∈ q, n < code.length) →
          ∀ k, code.getD a [] = code.getD b [] ++ k → cat code q = k ++ cat code p → R [] := by
        intro a b p q ha hb hab hp hq k h1 h2
        have hm : k ∈ pairs code := mem_pairs.mpr ⟨a, b, code.getD a [], code.getD b [], by rw [List.getD_eq_getElem?_getD, List.getElem?_eq_getElem ha]; rfl,
          by rw [List.getD_eq_getElem?_getD, List.getElem?_eq_getElem hb]; rfl, fun z => hab z.symm, ⟨k, h1.symm⟩, by rw [h1, List.drop_left]⟩
        by_cases hk : k = []
        · rw [← hk]
          exact h0 k hm
        · refine go_on hR hne _ (p.map fun n => code.getD n []) (q.map fun n => code.getD n []) k (Nat.le_refl _) (fun w hw => ?_) (fun w hw => ?_) (h0 k hm) hk ?_
          · obtain ⟨n, hn, rfl⟩ := List.mem_map.mp hw
            exact getD_mem (hp n hn)
          · obtain ⟨n, hn, rfl⟩ := List.mem_map.mp hw
            exact getD_mem (hq n hn)
          · rw [← cat_flatten, ← cat_flatten]
            exact h2.symm
      rcases List.append_eq_append_iff.mp e' with ⟨k, h1, h2⟩ | ⟨k, h1, h2⟩
      · exact key b a q p hb ha (fun z => hab z.symm) hq' hp' k h1 h2
      · exact key a b p q ha hb hab hp' hq' k h1 h2
theorem two_sound {code : List S} {n : Nat} (hne : ∀ w ∈ code, w ≠ []) (hn : (rowAt code n).length ≤ n) {p q : List Nat} (hp : ∀ n ∈ p, n < code.length) (hq : ∀ n ∈ q, n < code.length) (ne : p ≠ q) (e : cat code p = cat code q) :
    ([] : S) ∈ rowAt code n :=
  two_go (R := fun r => r ∈ rowAt code n) (fun m hm => by
    have := pre_row code 0 n
    rw [Nat.zero_add] at this
    exact this.subset hm) (fun r hr h0 m hm => row_closed hn hr h0 hm) hne p q hp hq ne e

/-! ### the row that is grown -/
theorem mem_addNE {row : List S} {m x : S} (h : x ∈ addNE row m) : x ∈ row ∨ x = m := by
  unfold addNE at h
  split at h
  · rcases List.mem_append.mp h with z | z
    · exact .inl z
    · exact .inr (List.mem_singleton.mp z)
  · exact .inl h
theorem mem_foldl_addNE : ∀ (ms row : List S) (x : S), x ∈ ms.foldl addNE row → x ∈ row ∨ x ∈ ms
  | [], row, x, h => .inl h
  | m :: ms, row, x, h => by
    rw [List.foldl_cons] at h
    rcases mem_foldl_addNE ms _ x h with z | z
    · rcases mem_addNE z with z | z
      · exact .inl z
      · exact .inr (z ▸ List.mem_cons_self)
    · exact .inr (List.mem_cons_of_mem _ z)
theorem gturn_mem {code row : List S} {t : Nat} {x : S} (h : x ∈ gturn code row t) : x ∈ row ∨ ∃ r ∈ row, x ∈ on code r := by
  unfold gturn at h
  split at h
  · rename_i r hr
    rcases mem_foldl_addNE _ _ _ h with z | z
    · exact .inl z
    · exact .inr ⟨r, List.mem_of_getElem? hr, z⟩
  · exact .inl h
theorem grow_ind {code start : List S} {p : S → Prop} (h0 : ∀ r ∈ start, p r) (h1 : ∀ r, p r → ∀ m ∈ on code r, p m) : ∀ t, ∀ r ∈ grow code start t, p r
  | 0, r, h => h0 r (List.mem_filter.mp h).1
  | t + 1, r, h => by
    rcases gturn_mem h with z | ⟨q, hq, z⟩
    · exact grow_ind h0 h1 t r z
    · exact h1 q (grow_ind h0 h1 t q hq) r z
/-- its members are suffixes of the words or of the drawn string -/
theorem grow_U {code start : List S} {d : S} (h0 : ∀ r ∈ start, r ∈ U (d :: code)) (t : Nat) : ∀ r ∈ grow code start t, r ∈ U (d :: code) :=
  grow_ind h0 (fun r hr m hm => by
    obtain ⟨w, hw, h⟩ := mem_on.mp hm
    exact on_in_U hr (mem_on.mpr ⟨w, List.mem_cons_of_mem _ hw, h⟩)) t
theorem len_addNE (row : List S) (m : S) : (addNE row m).length ≤ row.length + 1 := by
  unfold addNE
  split
  · rw [List.length_append]; simp
  · omega
theorem len_foldl_addNE : ∀ (ms row : List S), (ms.foldl addNE row).length ≤ row.length + ms.length
  | [], row => by simp
  | m :: ms, row => by
    rw [List.foldl_cons, List.length_cons]
    have h1 := len_foldl_addNE ms (addNE row m)
    have h2 := len_addNE row m
    omega
theorem len_gturn (code row : List S) (t : Nat) : (gturn code row t).length ≤ row.length + code.length := by
  unfold gturn
  split
  · rename_i r hr
    have h1 := len_foldl_addNE (on code r) row
    have h2 := len_on code r
    omega
  · omega
theorem len_grow (code start : List S) : ∀ t, (grow code start t).length ≤ start.length + t * code.length
  | 0 => by
    have := List.length_filter_le (fun r => decide (r ≠ [])) start
    show (start.filter fun r => decide (r ≠ [])).length ≤ _
    omega
  | t + 1 => by
    have h1 := len_grow code start t
    have h2 := len_gturn code (grow code start t) t
    show (gturn code (grow code start t) t).length ≤ _
    rw [Nat.add_mul]
    omega

/-! ### ascending lists -/
theorem lt_irr (x : S) : ¬ x < x := List.lt_irrefl x
theorem lt_tr {x y z : S} (h1 : x < y) (h2 : y < z) : x < z := List.lt_trans h1 h2
theorem asc_iff : ∀ xs : List S, asc xs = true ↔ xs.Pairwise (· < ·)
  | [] => by simp [asc]
  | [x] => by simp [asc]
  | x :: y :: r => by
    have ih := asc_iff (y :: r)
    have e : asc (x :: y :: r) = (decide (x < y) && asc (y :: r)) := by
      unfold asc
      rfl
    rw [e, Bool.and_eq_true, decide_eq_true_eq, ih]
    constructor
    · rintro ⟨h1, h2⟩
      refine List.pairwise_cons.mpr ⟨fun z hz => ?_, h2⟩
      rcases List.mem_cons.mp hz with rfl | hz
      · exact h1
      · exact lt_tr h1 ((List.pairwise_cons.mp h2).1 z hz)
    · intro h
      obtain ⟨h1, h2⟩ := List.pairwise_cons.mp h
      exact ⟨h1 y List.mem_cons_self, h2⟩
theorem asc_uniq : ∀ {xs ys : List S}, xs.Pairwise (· < ·) → ys.Pairwise (· < ·) → (∀ r, r ∈ xs ↔ r ∈ ys) → xs = ys
  | [], [], _, _, _ => rfl
  | [], y :: ys, _, _, h => absurd ((h y).mpr List.mem_cons_self) (by simp)
  | x :: xs, [], _, _, h => absurd ((h x).mp List.mem_cons_self) (by simp)
  | x :: xs, y :: ys, hx, hy, h => by
    obtain ⟨h1, h2⟩ := List.pairwise_cons.mp hx
    obtain ⟨h3, h4⟩ := List.pairwise_cons.mp hy
    have e : x = y := by
      rcases List.mem_cons.mp ((h x).mp List.mem_cons_self) with e | hm
      · exact e
      · rcases List.mem_cons.mp ((h y).mpr List.mem_cons_self) with e | hm'
        · exact e.symm
        · exact absurd (lt_tr (h3 x hm) (h1 y hm')) (lt_irr y)
    subst e
    have t : xs = ys := asc_uniq h2 h4 fun r => by
      constructor
      · intro hr
        rcases List.mem_cons.mp ((h r).mp (List.mem_cons_of_mem _ hr)) with rfl | z
        · exact absurd (h1 r hr) (lt_irr r)
        · exact z
      · intro hr
        rcases List.mem_cons.mp ((h r).mpr (List.mem_cons_of_mem _ hr)) with rfl | z
        · exact absurd (h3 r hr) (lt_irr r)
        · exact z
    rw [t]
theorem asc_nodup {xs : List S} (h : xs.Pairwise (· < ·)) : xs.Nodup := h.imp fun {a b} hab e => by
  subst e
  exact lt_irr a hab
/-- xs is ascending exactly if it is the ascending list of its members -/
theorem asc_eq {xs ys : List S} (hy : ys.Pairwise (· < ·)) (h : ∀ r, r ∈ ys ↔ r ∈ xs) : decide (xs = ys) = asc xs := by
  by_cases e : asc xs = true
  · rw [e]
    exact decide_eq_true (asc_uniq ((asc_iff xs).mp e) hy fun r => (h r).symm)
  · rw [Bool.eq_false_iff.mpr e]
    refine decide_eq_false fun z => e ?_
    subst z
    exact (asc_iff xs).mpr hy
end K11
set_option Elab.async false
set_option linter.all false
set_option maxRecDepth 100000
set_option maxHeartbeats 2000000
/-! enumerate over a tuple -/
namespace K11
open PySem PySem.Spec PyProof.Rows L2

theorem meets_enum1 {v : Value} {o : Obj} {G : Heap → Prop} (B : Begins v o G) :
    Meets (Builtin.«enumerate.__new__» ⟨[.type "enumerate", v], []⟩) (fun _ R s => G s.heap ∧
      R (.ok (.ret (.ref (s.heap.push o).objs.size))) { s with heap := (s.heap.push o).push { cls := .type "enumerate", data := .fields #[.none, .bool false, .ref s.heap.objs.size, rawInt 0, .none, .none] } }) :=
  .of_wp fun prog w A R s h => by
    obtain ⟨hp, g, d, tk, os⟩ := s; obtain ⟨h1, h⟩ := h
    have hsub := sub_enumerate
    have q1 : ∀ {A' : Around} {E : Value → Shared → Prop} {Q : Value → Shared → Prop}, Q (.ref hp.objs.size) ⟨hp.push o, g, d, tk, os⟩ → wpAny (model prog w) A' (pyIter v) Q E ⟨hp, g, d, tk, os⟩ :=
      fun q => B.iter prog w _ _ ⟨hp, g, d, tk, os⟩ _ h1 q
    wp_walk using q1
    refine wpAny_stack_any fun st => wpAny_pure ?_
    split
    · rename_i c _ _ _ _ _
      cases (c == Value.type "enumerate")
      · wp_walk using q1
        exact ⟨_, rfl, h⟩
      · wp_walk using q1
        exact ⟨_, rfl, h⟩
    · wp_walk using q1
      exact ⟨_, rfl, h⟩
section
variable {prog : Program} {w : World} {A : Around} {E : Value → Shared → Prop} {s : Shared}
theorem enum_begins1 {v : Value} {o : Obj} {G : Heap → Prop} {Q : Value → Shared → Prop} (B : Begins v o G) (h1 : G s.heap)
    (h : ∀ h', IsEnum h' (s.heap.objs.size + 1) s.heap.objs.size 0 .none → h'.get? s.heap.objs.size = some o → h'.objs.size = s.heap.objs.size + 2 →
      (∀ b o, s.heap.get? b = some o → h'.get? b = some o) → Q (.ref (s.heap.objs.size + 1)) { s with heap := h' }) :
    wpAny (model prog w) A (call (.type "enumerate") [v]) Q E s := by
  refine callType_new F.called_enumerate (by decide) (F.typeCall_enumerate_1 _) (F.newCall_enumerate_1 _) (fun obj => F.args_object_init_2 obj _) F.entry_enumerate_new
    (meets_enum1 B) ⟨h1, ?_⟩
  have hz : (s.heap.push o).objs.size = s.heap.objs.size + 1 := Heap.size_push ..
  show _ ∧ _
  rw [hz]
  have he : IsEnum ((s.heap.push o).push { cls := .type "enumerate", data := .fields #[.none, .bool false, .ref s.heap.objs.size, rawInt 0, .none, .none] }) (s.heap.objs.size + 1) s.heap.objs.size 0 .none := by
    have := Heap.get?_push_size (s.heap.push o) (o := { cls := .type "enumerate", data := .fields #[.none, .bool false, .ref s.heap.objs.size, rawInt 0, .none, .none] }) rfl
    rw [hz] at this; exact this
  refine ⟨⟨_, he, rfl⟩, h _ he (Heap.get?_push_of_some _ (Heap.get?_push_size _ B.free)) (by rw [Heap.size_push, hz]) fun b o x => Heap.get?_push_of_some _ (Heap.get?_push_of_some _ x)⟩
end
/-- the tuple at a, each item in a new pair -/
def IteT (K : PySem.W.Frag) (a : Addr) : It :=
  ⟨fun i H => ∃ (xs : List V) (x : V), SqT K H a xs ∧ xs[i]? = some x, fun i H v H' => ∃ T x, v = .ref T ∧ H T = none ∧ H' = upd H T (.tup [.int (i : Nat), x]) ∧ ∀ xs, SqT K H a xs → xs[i]? = some x, fun i H => ∃ xs : List V, SqT K H a xs ∧ xs.length ≤ i⟩
theorem enum_apart {h : Heap} {e it t : Addr} {i : Nat} {c : Int} {old : Value} {items : Array Value} (he : IsEnum h e it c old) (hit : h.IsTupleIter it t i) (ht : h.IsTuple t items) : t ≠ it ∧ e ∉ [it, t] ∧ e ≠ it := by
  obtain ⟨o, ho, hc, _⟩ := hit
  obtain ⟨o2, ho2, hc2, _⟩ := ht
  have h1 : t ≠ it := fun z => by
    rw [z, ho] at ho2
    cases ho2
    rw [hc] at hc2
    exact absurd (Value.type.inj hc2) (by decide)
  have h2 : e ≠ it := fun z => by
    rw [← z] at ho
    have z2 : some _ = some o := he.symm.trans ho
    cases z2
    exact absurd (Value.type.inj hc) (by decide)
  have h3 : e ≠ t := fun z => by
    rw [← z] at ho2
    have z2 : some _ = some o2 := he.symm.trans ho2
    cases z2
    exact absurd (Value.type.inj hc2) (by decide)
  exact ⟨h1, by simp [h2, h3], h2⟩
theorem turn_enumT {P : Program} {w : World} {K : PySem.W.Frag} {elts : List Expr} {kk : Nat} {tpos : Pos} (a e it : Addr) :
    Turn P w K (.Tuple elts kk tpos) (IteT K a) [e, it] e (fun i h => (∃ old, IsEnum h e it ((i : Nat) : Int) old) ∧ h.IsTupleIter it a i ∧ e ≠ it) where
  mem := by simp
  obj := fun i h st b hb => by
    obtain ⟨⟨old, he⟩, ⟨o, ho, hc, hd⟩, _⟩ := st
    have e' : b = e ∨ b = it := by simpa using hb
    rcases e' with z | z
    · rw [z]; exact ⟨_, he, fun v q => nomatch q⟩
    · rw [z]; exact ⟨o, ho, fun v q => by rw [hd] at q; cases q⟩
  keep := fun i h h' st k => let ⟨⟨old, he⟩, hi, hne⟩ := st; ⟨⟨old, k e (by simp) _ he⟩, hi.at fun o q => k it (by simp) o q, hne⟩
  item := by
    intro X hP hw hK hc i pins s σ H E I hf st hg
    subst hP hw hK
    obtain ⟨⟨old, he⟩, hit, hne⟩ := st
    obtain ⟨xs, x, hq, hx⟩ := hg
    obtain ⟨its, rv, p, hz⟩ := I.tuple hq
    obtain ⟨u, hu, ru⟩ := rv.get hx
    have ht : s.heap.IsTuple a its.toArray := p
    obtain ⟨n1, n2, _⟩ := enum_apart he hit ht
    have hel : e < s.heap.objs.size := Heap.lt_size he
    have hil : it < s.heap.objs.size := by obtain ⟨_, q, _⟩ := hit; exact Heap.lt_size q
    have hlt : i < its.toArray.size := by
      rw [List.size_toArray]
      exact (List.getElem?_eq_some_iff.mp hu).1
    have D := Draws.tuple (prog := X.prog) (w := X.w) (A := X.A.in1) (show X.A.in1.handled = none from I.ok.hd hc) it a n1 its.toArray
    refine wpAny_pyNext_enum_itemD D he ⟨hit, ht⟩ hlt hne n2 fun u' h' tk hP ho hs' hT hsz hk => ?_
    have eu : u' = u := by
      have : its.toArray[i]? = some u := by simpa using hu
      exact Option.some.inj (hP.symm.trans this)
    subst eu
    refine ⟨_, rfl, wpAny_letOwnedTupleGo_enum (s := { s with heap := h', toks := tk + 1 }) ho fun h'' he' sb => ?_⟩
    have hT2 : h''.get? s.heap.objs.size = some { cls := .type "tuple", data := .seq #[.int i tk, u'] } := (sb.2 _ (Nat.ne_of_gt hel)).trans hT
    have new : ObjOk X.prog X.w (upd H s.heap.objs.size (.tup [.int (i : Nat), x])) h'' s.heap.objs.size (.tup [.int (i : Nat), x]) :=
      ⟨by show 2 ≤ sizeLine; decide, [.int i tk, u'], .cons ⟨_, rfl⟩ (.cons ru .nil), ⟨_, hT2, rfl, _, rfl⟩⟩
    have I1 : Inv X pins σ (upd H s.heap.objs.size (.tup [.int (i : Nat), x])) { s with heap := h'', toks := tk + 1 } :=
      I.turnedNew (ch := [e, it]) (fun b ob hb q => (sb.2 b (fun z => hb (by simp [z]))).trans (hk b ob (fun z => hb (by simp [z])) (fun z => hb (by simp [z])) q)) hf (Nat.le_refl _) new
    refine ⟨.ref s.heap.objs.size, _, I1, rfl, ⟨_, x, rfl, I.hok.fresh (Nat.le_refl _), rfl, fun ys hy => by rw [I.tuple_inj hy hq]; exact hx⟩, ⟨⟨u', ?_⟩, hs'.1.at fun o q => (sb.2 it (Ne.symm hne)).trans q, hne⟩, fun b hb => ?_⟩
    · have e1 : ((i + 1 : Nat) : Int) = (i : Int) + 1 := by omega
      rw [e1]; exact he'
    · have hb' : b < s.heap.objs.size := by
        have e' : b = e ∨ b = it := by simpa using hb
        rcases e' with z | z
        · rw [z]; exact hel
        · rw [z]; exact hil
      rw [upd_ne (Nat.ne_of_lt hb')]
      exact (hf b hb).1
  done := by
    intro X hP hw hK hc i pins s σ H E I hf st hg
    subst hP hw hK
    obtain ⟨⟨old, he⟩, hit, hne⟩ := st
    obtain ⟨xs, hq, hx⟩ := hg
    obtain ⟨its, rv, p, hz⟩ := I.tuple hq
    obtain ⟨f0, f1, f2, f3, f4, f5⟩ := hf it (by simp)
    have hl := rv.length
    have ht : s.heap.IsTuple a its.toArray := p
    obtain ⟨n1, n2, _⟩ := enum_apart he hit ht
    have hT : s.TypeIs (.ref e) "enumerate" := ⟨_, he, rfl⟩
    unfold pyNext
    refine wpAny_bind (wpAny_attempt (wpAny_callSpecial?_slot (name := Str.ofString "__next__") hT PySem.F.slot_enumerate_next
      (wpAny_call_entry PySem.F.slot_enumerate_next hT PySem.F.entry_enumerate_next ?_ (PySem.F.args_enumerate_next_1 _))))
    show wpAny _ _ (field (.ref e) 2 >>= _) _ _ _
    refine wpAny_bind (wpAny_field he rfl (x := .ref it) rfl ?_)
    refine wpAny_bind (wpAny_nextOf_tuple_end (I.ok.hd hc) hit ht (by simp; omega) fun h' x he' hx' => ?_)
    obtain ⟨o, ho, hc'⟩ := hx'
    refine wpAny_bind (wpAny_isInstance (T := "StopIteration") (b := true) ⟨o, ho, hc'⟩ isSubtype_stop ?_)
    exact wpAny_pure ⟨rfl, I.turned (t' := s.toks) (fun b o hb q => he' b o hb q) f0 f1 f3 f4 f5⟩
  self := fun A i s Q E st h => let ⟨⟨_, he⟩, _⟩ := st; wpAny_pyIter_enum he h
def iEnumT (K : PySem.W.Frag) (ta : TA) : TI := fun σ H R => ta σ H fun vs H1 => ∃ a xs, vs = [.ref a] ∧ SqT K H1 a xs ∧ R (IteT K a) H1
theorem pi_enumT {X : Cx} {e : Expr} {ta : TA} {p pos tpos : Pos} {elts : List Expr} {kk : Nat} (hg : Gl X "enumerate") (hm : X.mg "enumerate" = none) (ha : PA X [e] ta) (hs : starEach [e] X.env = [(false, eval e X.env)] := by rfl) :
    PI X (.Tuple elts kk tpos) (.Call (.Name "enumerate" p) [e] [] pos) (iEnumT X.K ta) := by
  refine ⟨fun pins s σ H R I h => ?_⟩
  refine Call_ (ld_blt I hg hm boot_enumerate (PyProof.Rows.callWith_type1 (thn (ha.run pos pins s σ H _ I h) fun us s1 ⟨vs, H1, I1, r1, q1⟩ => ?_) hs rfl))
  obtain ⟨a, xs, ex, hq, q⟩ := q1
  subst ex
  cases r1 with
  | cons r rr =>
    cases rr
    cases r
    obtain ⟨its, rv, p', hz⟩ := I1.tuple hq
    refine enum_begins1 (begins_tuple a its.toArray) (show s1.heap.IsTuple a its.toArray from p') fun h' he hit hsz hk => wpAny_pyIter_enum he ?_
    have I2 : Inv X pins σ H1 { s1 with heap := h' } := I1.kept (t' := s1.toks) hk
    refine ⟨s1.heap.objs.size + 1, [s1.heap.objs.size + 1, s1.heap.objs.size], _, _, H1, rfl, I2, turn_enumT a (s1.heap.objs.size + 1) s1.heap.objs.size, ⟨⟨.none, he⟩, ⟨_, hit, rfl, rfl⟩, Nat.succ_ne_self _⟩, fun b hb => ?_, q⟩
    have e' : b = s1.heap.objs.size + 1 ∨ b = s1.heap.objs.size := by simpa using hb
    have hle : s1.heap.objs.size ≤ b := by
      rcases e' with z | z
      · rw [z]; exact Nat.le_add_right _ _
      · rw [z]; exact Nat.le_refl _
    exact I1.fpOk hle (I1.hok.fresh hle)
theorem walk_enumT {K : PySem.W.Frag} {a : Addr} {xs : List V} : Walk (IteT K a) xs.length (fun H => SqT K H a xs) (YPair (fun i => some (.int (i : Nat))) (fun i => xs[i]?)) := by
  refine ⟨fun i _ hi q => ⟨xs, xs[i], q, by simp [hi]⟩, fun _ q => ⟨xs, q, Nat.le_refl _⟩, fun i H v H' _ q y => ?_⟩
  obtain ⟨T, x, h1, h2, h3, h4⟩ := y
  exact ⟨T, .int (i : Nat), x, h1, h2, h3, rfl, h4 xs q⟩
end K11
set_option Elab.async false
set_option linter.all false
set_option maxRecDepth 100000
set_option maxHeartbeats 4000000
/-! sets of texts: made of a list or a tuple, sorted -/
namespace K11
open PySem PySem.Spec PyProof.Rows L2

def keyT (e : Int × Value) : Str := match e.2 with | .str x _ => x | _ => ⟨#[]⟩
def GoodT (w : World) (e : Int × Value) : Prop := ∃ x tk, e.2 = Value.str x tk ∧ e.1 = hashStr w x
abbrev newSet (w : World) : Obj := { cls := .type "set", dict := none, data := .set #[] 0 (.fresh 0 0 (!w.params.followText "set-order")) }
/-- the set of texts at a: S its members, n their number -/
def SetT (w : World) (h : Heap) (a : Addr) (S : Str → Bool) (n : Nat) : Prop :=
  ∃ o es ep t, h.get? a = some o ∧ o.ExactSet ∧ o.data = .set es ep t ∧ (∀ e ∈ es.toList, GoodT w e) ∧ (es.toList.map keyT).Nodup ∧ (∀ k, S k = true ↔ k ∈ es.toList.map keyT) ∧
    es.size < scanBound ∧ t.fits es.size = true ∧ es.size = n ∧ Ris t.place.toList ∧ (w.params.followText "set-order" = true ∨ t.led = true)
section
variable {P : Program} {w : World} {h h' : Heap} {a : Addr} {S : Str → Bool} {n : Nat}
theorem SetT.at (R : SetT w h a S n) (k : ∀ o, h.get? a = some o → h'.get? a = some o) : SetT w h' a S n :=
  let ⟨o, es, ep, t, ho, r⟩ := R
  ⟨o, es, ep, t, k o ho, r⟩
theorem SetT.congr {S' : Str → Bool} (R : SetT w h a S n) (e : ∀ k, S' k = S k) : SetT w h a S' n := by
  rw [show S' = S from funext e]; exact R
theorem goodT_elems {l : List (Int × Value)} (g : ∀ e ∈ l, GoodT w e) : ElemsOf (strKind P w) l := fun e he => by
  obtain ⟨k, tk, h1, h2⟩ := g e he
  exact ⟨⟨k, by rw [h1]; exact keyIs_str k tk, h2⟩, by rw [h1] <;> rfl⟩
theorem goodT_is {e : Int × Value} (g : GoodT w e) (k : Str) : (strKind P w).is k e.2 = true ↔ keyT e = k := by
  obtain ⟨k0, tk, h1, _⟩ := g
  unfold keyT
  rw [h1]
  constructor
  · intro z
    obtain ⟨u, hu⟩ := Value.isStrOf_shape (x := k) (v := .str k0 tk) z
    injection hu
  · intro z
    rw [← z]
    exact keyIs_str k0 tk
theorem goodT_mem {l : List (Int × Value)} (g : ∀ e ∈ l, GoodT w e) (k : Str) : k ∈ l.map keyT ↔ ∃ e ∈ l, (strKind P w).is k e.2 = true := by
  rw [List.mem_map]
  exact ⟨fun ⟨e, he, q⟩ => ⟨e, he, (goodT_is (g e he) k).2 q⟩, fun ⟨e, he, q⟩ => ⟨e, he, (goodT_is (g e he) k).1 q⟩⟩
theorem setT_new_at (ho : h.get? a = some (newSet w)) : SetT w h a (fun j => decide (j ∈ ([] : List Str))) 0 :=
  ⟨_, #[], 0, _, ho, ⟨rfl, rfl, rfl⟩, rfl, (fun e he => by simp at he), (by simp), (fun k => by simp), (by decide), (by rfl), rfl, List.Pairwise.nil, by
    show _ ∨ (!w.params.followText "set-order") = true
    cases w.params.followText "set-order" <;> simp⟩
end
section
variable {P : Program} {w : World} {A : Around} {E : Value → Shared → Prop} {s : Shared} {a : Addr} {S : Str → Bool} {n : Nat}
theorem setT_tail {g : Bool → Sem Unit} (hg : ∀ (b : Bool) (s₁ : Shared) (Q' : Unit → Shared → Prop), Q' () s₁ → wpAny (model P w) A (g b) Q' E s₁)
    {o : Obj} {es : Array (Int × Value)} {ep : Nat} {t : SetTable} (ho : s.heap.get? a = some o) (hex : o.ExactSet) (hd : o.data = .set es ep t)
    {es1 : Array (Int × Value)} {t2 : SetTable} {S' : Str → Bool} (g1 : ∀ e ∈ es1.toList, GoodT w e) (nd1 : (es1.toList.map keyT).Nodup) (m1 : ∀ k, S' k = true ↔ k ∈ es1.toList.map keyT)
    (hb1 : es1.size < scanBound) (hf2 : t2.fits es1.size = true) (hr : Ris t2.place.toList) (hl : w.params.followText "set-order" = true ∨ t2.led = true) {wasDummy : Bool} {R : Option Bool → Shared → Prop}
    (hR : ∀ h', Heap.SameBut a s.heap h' → SetT w h' a S' es1.size → R (some true) { s with heap := h' }) :
    wpAny (model P w) A (do
        storeSet a es1 t2
        if (!wasDummy && t2.tooFull) = true then do
            g (relayAll t2 es1 (SetTable.grown es1.size)).2.2
            storeSet a (relayAll t2 es1 (SetTable.grown es1.size)).1 (relayAll t2 es1 (SetTable.grown es1.size)).2.1
            pure (some true)
          else pure (some true)) R E s := by
  refine wpAny_bind (wpAny_storeSet_of ho hd ?_ (fits_of_scanBound hb1))
  have ho1 := L2.store_at (es' := es1) (t' := t2) ho hd
  have sb1 := Heap.SameBut.update s.heap a (Obj.putSet es1 t2)
  split
  · have pm := relayAll_perm t2 es1 (SetTable.grown es1.size)
    have hf3 := relayAll_fits t2 es1 (SetTable.grown es1.size)
    have hr3 := relayAll_ris t2 es1 (SetTable.grown es1.size)
    have hl3 := relayAll_led t2 es1 (SetTable.grown es1.size)
    generalize relayAll t2 es1 (SetTable.grown es1.size) = Z at pm hf3 hr3 hl3 ⊢
    obtain ⟨es2, t3, gave⟩ := Z
    dsimp only at pm hf3 hr3 hl3 ⊢
    have hsz : es2.size = es1.size := by simpa using pm.length_eq
    have hb2 : es2.size < scanBound := by rw [hsz]; exact hb1
    refine wpAny_bind (hg _ _ _ (wpAny_bind (wpAny_storeSet_of ho1 rfl ?_ (fits_of_scanBound hb2))))
    have ho2 := L2.store_at (es' := es2) (t' := t3) ho1 rfl
    exact wpAny_pure (hR _ (sb1.trans (Heap.SameBut.update _ a _)) ⟨_, es2, _, t3, ho2, hex, rfl, fun e he => g1 e (pm.mem_iff.mp he), (pm.map keyT).nodup_iff.mpr nd1, fun k => (m1 k).trans (pm.map keyT).mem_iff.symm, hb2, hf3, hsz, hr3,
      hl.imp id fun z => by rw [hl3]; exact z⟩)
  · exact wpAny_pure (hR _ sb1 ⟨_, es1, _, t2, ho1, hex, rfl, g1, nd1, m1, hb1, hf2, rfl, hr, hl⟩)
theorem setT_add {k : Str} {tk : Tok} {Q : Bool → Shared → Prop} (R : SetT w s.heap a S n) (room : n + 1 < scanBound)
    (hQ : ∀ h', Heap.SameBut a s.heap h' → SetT w h' a (fun j => S j || decide (j = k)) (if S k = true then n else n + 1) → Q (!S k) { s with heap := h' }) :
    wpAny (model P w) A (setAddHashed a (.str k tk) ((strKind P w).hash k)) Q E s := by
  obtain ⟨o, es, ep, t, ho, hex, hd, g, nd, hm, hb, hf, hn, hr, hl⟩ := R
  have hkey : (strKind P w).is k (.str k tk) = true := keyIs_str k tk
  have hsc : (Value.str k tk).scannable = true := rfl
  have hel : ElemsOf (strKind P w) es.toList := goodT_elems g
  unfold setAddHashed setAddHashedIn
  refine wpAny_holding (wpAny_bind (wpAny_setState_of ho hd hf ?_))
  dsimp only
  rw [byScan_of hsc hb hel]
  simp only [↓reduceIte]
  unfold setAddByScan
  refine wpAny_bind (wpAny_bind (wpAny_rule (wpAny_bind (wpAny_setScan_of hkey ho hd hf hel ?_))))
  cases hfi : List.findIdx? (fun e => (strKind P w).is k e.2) es.toList with
  | some j =>
    dsimp only
    obtain ⟨hj, pj, _⟩ := List.findIdx?_eq_some_iff_getElem.mp hfi
    have hSk : S k = true := (hm k).2 ((goodT_mem (P := P) (w := w) g k).2 ⟨es.toList[j], List.getElem_mem hj, pj⟩)
    have same : ∀ i, (S i || decide (i = k)) = true ↔ i ∈ es.toList.map keyT := fun i => by
      rw [Bool.or_eq_true, decide_eq_true_eq, ← hm i]
      exact ⟨fun z => z.elim id (fun e => e ▸ hSk), .inl⟩
    have q := hQ s.heap (Heap.SameBut.refl a s.heap) ⟨o, es, ep, t, ho, hex, hd, g, nd, same, hb, hf, by rw [if_pos hSk]; exact hn, hr, hl⟩
    rw [hSk] at q
    exact wpAny_pure (wpAny_pure q)
  | none =>
    dsimp only
    have hnk : k ∉ es.toList.map keyT := fun z => by
      obtain ⟨e, he, q⟩ := (goodT_mem (P := P) (w := w) g k).1 z
      exact absurd q (by rw [List.findIdx?_eq_none_iff.mp hfi e he]; decide)
    have hSk : S k = false := by
      cases q : S k with
      | false => rfl
      | true => exact absurd ((hm k).1 q) hnk
    have hgw : ∀ (b : Bool) {s₁ : Shared} {Q' : Unit → Shared → Prop}, Q' () s₁ → wpAny (model P w) A (match b with | true => rule "set.scan.the-table-gave-way" | false => pure ()) Q' E s₁ :=
      fun b s₁ Q' q => by cases b <;> first | exact wpAny_pure q | exact wpAny_rule q
    have pm := layNew_perm t es ((strKind P w).hash k) (.str k tk)
    have hf1 := layNew_fits t es ((strKind P w).hash k) (.str k tk)
    have hr1 := layNew_ris t es ((strKind P w).hash k) (.str k tk) hr
    have hl1 := layNew_led t es ((strKind P w).hash k) (.str k tk)
    generalize layNew t es ((strKind P w).hash k) (.str k tk) = Z at pm hf1 hr1 hl1 ⊢
    obtain ⟨es1, t1, wasDummy, gave⟩ := Z
    dsimp only at pm hf1 hr1 hl1 ⊢
    rw [Array.toList_push] at pm
    have pc : es1.toList.Perm (((strKind P w).hash k, Value.str k tk) :: es.toList) := pm.trans (List.perm_append_singleton _ _)
    have pk : (es1.toList.map keyT).Perm (k :: es.toList.map keyT) := pc.map keyT
    have g1 : ∀ e ∈ es1.toList, GoodT w e := fun e he => by
      rcases List.mem_cons.mp (pc.mem_iff.mp he) with z | z
      · rw [z]; exact ⟨k, tk, rfl, rfl⟩
      · exact g e z
    have nd1 : (es1.toList.map keyT).Nodup := pk.nodup_iff.mpr (List.nodup_cons.mpr ⟨hnk, nd⟩)
    have m1 : ∀ i, (S i || decide (i = k)) = true ↔ i ∈ es1.toList.map keyT := fun i => by
      rw [Bool.or_eq_true, decide_eq_true_eq, hm i, pk.mem_iff, List.mem_cons]
      exact Or.comm
    have hsz : es1.size = n + 1 := by
      have := pc.length_eq
      rw [List.length_cons, Array.length_toList, Array.length_toList, hn] at this
      exact this
    have hb1 : es1.size < scanBound := by rw [hsz]; exact room
    have hled : w.params.followText "set-order" = true ∨ t1.led = true := hl.imp id fun z => by rw [hl1]; exact z
    have fin : ∀ h', Heap.SameBut a s.heap h' → SetT w h' a (fun j => S j || decide (j = k)) es1.size → Q true { s with heap := h' } := fun h' sb r => by
      have q := hQ h' sb
      rw [hSk] at q
      rw [hsz] at r
      exact q r
    refine wpAny_bind (hgw _ ?_)
    split
    · refine wpAny_bind ?_
      rw [hashByValue_scannable 8 hsc]
      refine wpAny_pure (setT_tail ?_ ho hex hd g1 nd1 m1 hb1 ?_ ?_ ?_ ?_)
      · intro b s₁ Q' q; cases b <;> first | exact wpAny_pure q | exact wpAny_rule q
      · first | (split <;> first | exact hf1 | exact SetTable.fits_plain_off hf1) | exact hf1
      · first | (split <;> exact hr1) | exact hr1
      · first | (split <;> exact hled) | exact hled
      · intro h' sb r; dsimp only; exact wpAny_pure (fin h' sb r)
    · refine wpAny_bind (wpAny_pure ?_)
      simp only [↓reduceIte]
      refine setT_tail ?_ ho hex hd g1 nd1 m1 hb1 hf1 hr1 hled ?_
      · intro b s₁ Q' q; cases b <;> first | exact wpAny_pure q | exact wpAny_rule q
      · intro h' sb r; dsimp only; exact wpAny_pure (fin h' sb r)
/-- the loop of set.update over texts -/
theorem setT_loop {I : Addr} {fp wr : List Addr} {G : Array GenState → Array GenState → Prop} {n : Nat} {Pv : Nat → Value → Prop} {St : Nat → Shared → Prop} {R : Result → Shared → Prop}
    (W : WalksS P w A.in1 I fp wr G n Pv St) (B : Addr) (hSf : B ∉ fp) (ns : List Str) (hn : n = ns.length) (hb : ns.length + 1 < scanBound) (hval : ∀ i v, Pv i v → ∃ k t, ns[i]? = some k ∧ v = .str k t) :
    ∀ (k i : Nat) (s : Shared), n - i = k → i ≤ n → St i s → (∃ c, c ≤ i ∧ SetT w s.heap B (fun j => decide (j ∈ ns.take i)) c) →
      (∀ s' c, Moved (B :: wr) G s s' → c ≤ n → SetT w s'.heap B (fun j => decide (j ∈ ns)) c → R (.ok (.ret .none)) s') →
      codeAny (model P w) A (.builtin "set.update.loop" ⟨[.ref B, .ref I], []⟩) R s := by
  have hSw : B ∉ wr := fun h => hSf (W.sub _ h)
  have hsub : ∀ b ∈ wr, b ∈ B :: wr := fun b hb => List.mem_cons_of_mem _ hb
  intro k
  induction k with
  | zero =>
    intro i s hk' hi hst ⟨c, hc, hS⟩ hR
    obtain rfl : i = n := by omega
    refine codeAny_builtin PyProof.Rows.F.entry_set_update_loop ?_
    rw [Around.under_plainId PyProof.Rows.F.plain_set_update_loop _]
    show wpAny _ A.in1 (pyNext (.ref I) >>= _) _ _ s
    refine wpAny_bind (W.done s _ _ hst fun s' hm => ?_)
    rw [List.take_of_length_le (by omega)] at hS
    exact wpAny_pure (hR s' c (hm.mono hsub) hc (hS.at fun o e => hm.heap B o hSw e))
  | succ k ih =>
    intro i s hk' hi hst ⟨c, hc, hS⟩ hR
    have hlt : i < n := by omega
    refine codeAny_builtin PyProof.Rows.F.entry_set_update_loop ?_
    rw [Around.under_plainId PyProof.Rows.F.plain_set_update_loop _]
    show wpAny _ A.in1 (pyNext (.ref I) >>= _) _ _ s
    refine wpAny_bind (W.item i s _ _ hlt hst fun v s' hP hst' hm => ?_)
    obtain ⟨z, t, hz, rfl⟩ := hval i v hP
    have hS' : SetT w s'.heap B (fun j => decide (j ∈ ns.take i)) c := hS.at fun o e => hm.heap B o hSw e
    show wpAny _ A.in1 (holding [Value.str z t] (setAdd B (.str z t)) >>= _) _ _ s'
    refine wpAny_bind (wpAny_holding ?_)
    unfold setAdd
    refine wpAny_holding (wpAny_bind ((strKind P w).pyHash (k := z) (keyIs_str z t) ?_))
    refine setT_add (s := { s' with toks := s'.toks + 1 }) hS' (by omega) fun h' hsb hS2 => ?_
    have hS3 : SetT w h' B (fun j => decide (j ∈ ns.take (i + 1))) (if decide (z ∈ ns.take i) = true then c else c + 1) := hS2.congr fun j => by
      rw [List.take_add_one, hz]
      simp [List.mem_append]
    have hc3 : (if decide (z ∈ ns.take i) = true then c else c + 1) ≤ i + 1 := by
      split <;> omega
    refine wpAny_pure ⟨plainId_quiet PyProof.Rows.F.plain_set_update_loop _, ih (i + 1) _ (by omega) hlt (W.frame _ s' _ _ hst' (Nat.le_succ _) fun b hb o e => ?_) ⟨_, hc3, hS3⟩ fun s'' c2 hm'' hc'' hS'' => ?_⟩
    · exact (hsb.2 b (fun h : b = B => hSf (h ▸ hb))).trans e
    · exact hR s'' c2 (Moved.trans W.gtrans ((hm.mono hsub).then_heap (Nat.le_succ _) fun b o hb e => (hsb.2 b (fun h : b = B => hb (by rw [h]; exact List.mem_cons_self))).trans e) hm'') hc'' hS''
end

section
variable {P : Program} {w : World} {A : Around} {E : Value → Shared → Prop} {s : Shared}
/-- set(a list of texts) -/
theorem call_setT_list {l : Addr} {items : Array Value} (ns : List Str) {Q : Value → Shared → Prop} (hh : A.handled = none) (hl : s.heap.IsList l items) (hit : Vals (ns.map V.str) items.toList) (hb : ns.length + 1 < scanBound)
    (h : ∀ (h' : Heap) (tk c : Nat), SetT w h' s.heap.objs.size (fun j => decide (j ∈ ns)) c → c ≤ ns.length → (∀ b o, s.heap.get? b = some o → h'.get? b = some o) → Q (.ref s.heap.objs.size) { s with heap := h', toks := tk }) :
    wpAny (model P w) A (call (.type "set") [.ref l]) Q E s := by
  have hisz : items.size = ns.length := by
    have q := hit.length
    simpa using q.symm
  obtain ⟨c, tl, hmro⟩ := PySem.F.called_set.mro
  have hmade := PySem.F.called_set.made
  have hsub := PySem.F.called_set.sub
  refine wpAny_call (codeAny_of_tree ?_)
  show wpAny _ _ (callAny (.type "set") _) _ _ _
  refine wpAny_pure ⟨Code.quiet_builtin _ (by decide +kernel), codeAny_builtin PySem.F.entry_type_call ?_⟩
  rw [Around.under_plain (weight_type_call_type "set" [.ref l] []) rfl]
  have h1 := PySem.F.called_set.notType
  have h2 := PySem.F.called_set.canCreate
  have hct := PySem.F.typeCall_set_1 (.ref l)
  repeat (any_goals (first | assumption | wp_step))
  refine codeAny_mono (code_set_led1 (.ref l) (E := E) (Q₁ := fun obj s₁ => obj = .ref s.heap.objs.size ∧ s₁ = { s with heap := s.heap.push (newSet w) }) ⟨rfl, rfl⟩) fun r s₁ hr => ?_
  cases r with
  | error e => exact hr
  | ok fl =>
    cases fl with
    | ret obj =>
      obtain ⟨rfl, rfl⟩ := hr
      have hS : (s.heap.push (newSet w)).get? s.heap.objs.size = some (newSet w) := Heap.get?_push_size _ rfl
      have hT : Shared.TypeIs { s with heap := s.heap.push (newSet w) } (.ref s.heap.objs.size) "set" := ⟨_, hS, rfl⟩
      have hli := PySem.F.called_set.init.lookup
      have hbi := PySem.F.called_set.init.bind (.ref s.heap.objs.size)
      repeat (any_goals (first | assumption | wp_step))
      refine codeAny_mono (codeAny_call_builtin (R := wants (fun r s₂ => r = .none ∧ ∃ h' tk c, s₂ = { s with heap := h', toks := tk } ∧ SetT w h' s.heap.objs.size (fun j => decide (j ∈ ns)) c ∧ c ≤ ns.length ∧
          (∀ b o, s.heap.get? b = some o → h'.get? b = some o)) E) PySem.F.called_set.init.plain PySem.F.entry_set_init (check_set_init_1 hT ?_)) fun r₂ s₂ hr₂ => ?_
      · obtain ⟨ol, hol, hcl, nl, hdl⟩ := hl
        obtain ⟨ocls, odict, odata, oslots⟩ := ol
        simp only at hcl hdl
        subst hcl; subst hdl
        have hol' : (s.heap.push (newSet w)).get? l = some { cls := .type "list", dict := odict, data := .seq items nl, slots := oslots } := Heap.get?_push_of_some _ hol
        have hsls := PySem.F.sub_list_set
        have hslf := PySem.F.sub_list_frozenset
        have hne : (Value.type "list" == Value.type "dict") = false := by decide
        have hl1 : (s.heap.push (newSet w)).IsList l items := ⟨_, hol', rfl, nl, rfl⟩
        unfold Builtin.«set.__init__» noKeywords Builtin.Frozenset.updateFrom
        generalize hPI : pyIter = PI
        wp_walk
        subst hPI
        refine wpAny_pyIter_list hl1 (wpAny_bind (wpAny_runValue ?_))
        have hlS : l < s.heap.objs.size := Heap.lt_size hol
        have hh3 : A.in1.in1.in1.handled = none := by simp [hh]
        have hneI : l ≠ (s.heap.push (newSet w)).objs.size := by
          rw [Heap.size_push]; exact Nat.ne_of_lt (Nat.lt_succ_of_lt hlS)
        have hSf : s.heap.objs.size ∉ [(s.heap.push (newSet w)).objs.size, l] := by
          rw [Heap.size_push]
          simp only [List.mem_cons, List.not_mem_nil, or_false, not_or]
          exact ⟨Nat.ne_of_lt (Nat.lt_succ_self _), Nat.ne_of_gt hlS⟩
        have hval : ∀ (i : Nat) (v : Value), items[i]? = some v → ∃ k t, ns[i]? = some k ∧ v = .str k t := fun i v hv => by
          have hi : i < ns.length := by rw [← hisz]; exact (Array.getElem?_eq_some_iff.mp hv).1
          obtain ⟨u, hu, ru⟩ := hit.get (i := i) (x := V.str ns[i]) (by rw [List.getElem?_map, List.getElem?_eq_getElem hi]; rfl)
          rw [Array.getElem?_toList, hv] at hu
          cases hu
          obtain ⟨t, e⟩ := ru
          exact ⟨ns[i], t, List.getElem?_eq_getElem hi, e⟩
        refine setT_loop ((Walks.list hh3 _ l hneI items).toS) s.heap.objs.size hSf ns hisz hb hval (items.size - 0) 0 _ (by omega) (Nat.zero_le _)
          ⟨⟨_, Heap.get?_push_size _ rfl, rfl, rfl⟩, (hl1.push _)⟩ ?hS0 ?hR
        case hS0 => exact ⟨0, Nat.le_refl 0, setT_new_at (Heap.get?_push_of_some _ hS)⟩
        case hR =>
          intro s' c' hm hc' hS'
          obtain ⟨h', g2, d', tk', os'⟩ := s'
          obtain rfl : g2 = s.gens := hm.gens
          obtain rfl : d' = s.drawn := hm.drawn
          obtain rfl : os' = s.os := hm.os
          show wpAny _ _ _ _ _ _
          refine wpAny_pure ?_
          show wpAny _ _ (ret Value.none) _ _ _
          rw [hisz] at hc'
          refine wpAny_pure ⟨rfl, h', tk', c', rfl, hS', hc', fun b o e => ?_⟩
          have hb0 : b < s.heap.objs.size := Heap.lt_size e
          refine hm.heap b o ?_ (Heap.get?_push_of_some _ (Heap.get?_push_of_some _ e))
          rw [Heap.size_push]
          simp only [List.mem_cons, List.not_mem_nil, or_false, not_or]
          exact ⟨Nat.ne_of_lt hb0, Nat.ne_of_lt (Nat.lt_succ_of_lt hb0)⟩
      · cases r₂ with
        | error e => exact hr₂
        | ok fl₂ =>
          cases fl₂ with
          | ret r =>
            obtain ⟨rfl, h', tk, c', rfl, hS', hc', hk'⟩ := hr₂
            repeat (any_goals (first | assumption | wp_step))
            exact h _ _ _ hS' hc' hk'
          | _ => exact hr₂.elim
    | _ => exact hr.elim
end

section
variable {P : Program} {w : World} {A : Around} {E : Value → Shared → Prop} {s : Shared}
/-- set(a tuple of texts) -/
theorem call_setT_tuple {l : Addr} {items : Array Value} (ns : List Str) {Q : Value → Shared → Prop} (hh : A.handled = none) (hl : s.heap.IsTuple l items) (hit : Vals (ns.map V.str) items.toList) (hb : ns.length + 1 < scanBound)
    (h : ∀ (h' : Heap) (tk c : Nat), SetT w h' s.heap.objs.size (fun j => decide (j ∈ ns)) c → c ≤ ns.length → (∀ b o, s.heap.get? b = some o → h'.get? b = some o) → Q (.ref s.heap.objs.size) { s with heap := h', toks := tk }) :
    wpAny (model P w) A (call (.type "set") [.ref l]) Q E s := by
  have hisz : items.size = ns.length := by
    have q := hit.length
    simpa using q.symm
  obtain ⟨c, tl, hmro⟩ := PySem.F.called_set.mro
  have hmade := PySem.F.called_set.made
  have hsub := PySem.F.called_set.sub
  refine wpAny_call (codeAny_of_tree ?_)
  show wpAny _ _ (callAny (.type "set") _) _ _ _
  refine wpAny_pure ⟨Code.quiet_builtin _ (by decide +kernel), codeAny_builtin PySem.F.entry_type_call ?_⟩
  rw [Around.under_plain (weight_type_call_type "set" [.ref l] []) rfl]
  have h1 := PySem.F.called_set.notType
  have h2 := PySem.F.called_set.canCreate
  have hct := PySem.F.typeCall_set_1 (.ref l)
  repeat (any_goals (first | assumption | wp_step))
  refine codeAny_mono (code_set_led1 (.ref l) (E := E) (Q₁ := fun obj s₁ => obj = .ref s.heap.objs.size ∧ s₁ = { s with heap := s.heap.push (newSet w) }) ⟨rfl, rfl⟩) fun r s₁ hr => ?_
  cases r with
  | error e => exact hr
  | ok fl =>
    cases fl with
    | ret obj =>
      obtain ⟨rfl, rfl⟩ := hr
      have hS : (s.heap.push (newSet w)).get? s.heap.objs.size = some (newSet w) := Heap.get?_push_size _ rfl
      have hT : Shared.TypeIs { s with heap := s.heap.push (newSet w) } (.ref s.heap.objs.size) "set" := ⟨_, hS, rfl⟩
      have hli := PySem.F.called_set.init.lookup
      have hbi := PySem.F.called_set.init.bind (.ref s.heap.objs.size)
      repeat (any_goals (first | assumption | wp_step))
      refine codeAny_mono (codeAny_call_builtin (R := wants (fun r s₂ => r = .none ∧ ∃ h' tk c, s₂ = { s with heap := h', toks := tk } ∧ SetT w h' s.heap.objs.size (fun j => decide (j ∈ ns)) c ∧ c ≤ ns.length ∧
          (∀ b o, s.heap.get? b = some o → h'.get? b = some o)) E) PySem.F.called_set.init.plain PySem.F.entry_set_init (check_set_init_1 hT ?_)) fun r₂ s₂ hr₂ => ?_
      · obtain ⟨ol, hol, hcl, nl, hdl⟩ := hl
        obtain ⟨ocls, odict, odata, oslots⟩ := ol
        simp only at hcl hdl
        subst hcl; subst hdl
        have hol' : (s.heap.push (newSet w)).get? l = some { cls := .type "tuple", dict := odict, data := .seq items nl, slots := oslots } := Heap.get?_push_of_some _ hol
        have hsls := PySem.F.sub_tuple_set
        have hslf := PySem.F.sub_tuple_frozenset
        have hne : (Value.type "tuple" == Value.type "dict") = false := by decide
        have hl1 : (s.heap.push (newSet w)).IsTuple l items := ⟨_, hol', rfl, nl, rfl⟩
        unfold Builtin.«set.__init__» noKeywords Builtin.Frozenset.updateFrom
        generalize hPI : pyIter = PI
        wp_walk
        subst hPI
        refine wpAny_pyIter_tuple hl1 (wpAny_bind (wpAny_runValue ?_))
        have hlS : l < s.heap.objs.size := Heap.lt_size hol
        have hh3 : A.in1.in1.in1.handled = none := by simp [hh]
        have hneI : l ≠ (s.heap.push (newSet w)).objs.size := by
          rw [Heap.size_push]; exact Nat.ne_of_lt (Nat.lt_succ_of_lt hlS)
        have hSf : s.heap.objs.size ∉ [(s.heap.push (newSet w)).objs.size, l] := by
          rw [Heap.size_push]
          simp only [List.mem_cons, List.not_mem_nil, or_false, not_or]
          exact ⟨Nat.ne_of_lt (Nat.lt_succ_self _), Nat.ne_of_gt hlS⟩
        have hval : ∀ (i : Nat) (v : Value), items[i]? = some v → ∃ k t, ns[i]? = some k ∧ v = .str k t := fun i v hv => by
          have hi : i < ns.length := by rw [← hisz]; exact (Array.getElem?_eq_some_iff.mp hv).1
          obtain ⟨u, hu, ru⟩ := hit.get (i := i) (x := V.str ns[i]) (by rw [List.getElem?_map, List.getElem?_eq_getElem hi]; rfl)
          rw [Array.getElem?_toList, hv] at hu
          cases hu
          obtain ⟨t, e⟩ := ru
          exact ⟨ns[i], t, List.getElem?_eq_getElem hi, e⟩
        refine setT_loop ((Walks.tuple hh3 _ l hneI items).toS) s.heap.objs.size hSf ns hisz hb hval (items.size - 0) 0 _ (by omega) (Nat.zero_le _)
          ⟨⟨_, Heap.get?_push_size _ rfl, rfl, rfl⟩, (hl1.push _)⟩ ?hS0 ?hR
        case hS0 => exact ⟨0, Nat.le_refl 0, setT_new_at (Heap.get?_push_of_some _ hS)⟩
        case hR =>
          intro s' c' hm hc' hS'
          obtain ⟨h', g2, d', tk', os'⟩ := s'
          obtain rfl : g2 = s.gens := hm.gens
          obtain rfl : d' = s.drawn := hm.drawn
          obtain rfl : os' = s.os := hm.os
          show wpAny _ _ _ _ _ _
          refine wpAny_pure ?_
          show wpAny _ _ (ret Value.none) _ _ _
          rw [hisz] at hc'
          refine wpAny_pure ⟨rfl, h', tk', c', rfl, hS', hc', fun b o e => ?_⟩
          have hb0 : b < s.heap.objs.size := Heap.lt_size e
          refine hm.heap b o ?_ (Heap.get?_push_of_some _ (Heap.get?_push_of_some _ e))
          rw [Heap.size_push]
          simp only [List.mem_cons, List.not_mem_nil, or_false, not_or]
          exact ⟨Nat.ne_of_lt hb0, Nat.ne_of_lt (Nat.lt_succ_of_lt hb0)⟩
      · cases r₂ with
        | error e => exact hr₂
        | ok fl₂ =>
          cases fl₂ with
          | ret r =>
            obtain ⟨rfl, h', tk, c', rfl, hS', hc', hk'⟩ := hr₂
            repeat (any_goals (first | assumption | wp_step))
            exact h _ _ _ hS' hc' hk'
          | _ => exact hr₂.elim
    | _ => exact hr.elim
end

/-! sorted(set) -/
section
variable {P : Program} {w : World} {A : Around} {E : Value → Shared → Prop} {s : Shared} {a : Addr}
theorem strs_vals : ∀ (l : List Value), (∀ v ∈ l, ∃ k tk, v = Value.str k tk) → Vals ((l.map fun v => match v with | .str x _ => x | _ => ⟨#[]⟩).map V.str) l
  | [], _ => .nil
  | v :: l, h => by
    obtain ⟨k, tk, rfl⟩ := h v List.mem_cons_self
    exact .cons ⟨tk, rfl⟩ (strs_vals l fun u hu => h u (List.mem_cons_of_mem _ hu))
theorem sorted_setT {S : Str → Bool} {n : Nat} {Q : Value → Shared → Prop} (R : SetT w s.heap a S n) (hh : A.handled = none) (hu : A.units + 8 < cLine)
    (hQ : ∀ s' p (out : List Value) (c : Nat) (ns : List Str), (∀ b o, s.heap.get? b = some o → s'.heap.get? b = some o) → s'.gens = s.gens → s'.os = s.os → s.heap.objs.size ≤ p →
      s'.heap.get? p = some (seqObj "list" out.toArray c) → Vals (ns.map V.str) out → ns.Pairwise (fun x y => x.cps.toList < y.cps.toList) → (∀ k, k ∈ ns ↔ S k = true) → ns.length = n → Q (.ref p) s') :
    wpAny (model P w) A (call (.builtin "sorted") [.ref a]) Q E s := by
  obtain ⟨o, es, ep, t, ho, hex, hd, g, nd, hm, hb, hf, hn, hr, hl⟩ := R
  refine Calls.call_function_entry kind_sorted plain_sorted entry_sorted (args_sorted1 _) ?_
  unfold Builtin.«sorted»
  refine wpAny_bind (m := checkCount "sorted" 1 1 _) (wpAny_pure ?_)
  refine wpAny_bind (collect_set (A := A.in1) hh ⟨o, ho, hex.1, hd⟩ hf hb hr hl fun s1 vs k1 hz g1 o1 pm => ?_)
  have hvl : vs.length = n := by rw [pm.length_eq, List.length_map, Array.length_toList]; exact hn
  have hstr : ∀ v ∈ vs, ∃ k tk, v = Value.str k tk := fun v hv => by
    obtain ⟨e, he, q⟩ := List.mem_map.mp (pm.mem_iff.mp hv)
    obtain ⟨k, tk, h1, _⟩ := g e he
    exact ⟨k, tk, by rw [← q]; exact h1⟩
  have hV := strs_vals vs hstr
  have pk : (vs.map fun v => match v with | .str x _ => x | _ => (⟨#[]⟩ : Str)).Perm (es.toList.map keyT) := by
    have q := pm.map fun v => match v with | .str x _ => x | _ => (⟨#[]⟩ : Str)
    rw [List.map_map] at q
    exact q
  generalize (vs.map fun v => match v with | .str x _ => x | _ => (⟨#[]⟩ : Str)) = ks at hV pk
  have hkl : ks.length = vs.length := by
    have := hV.length
    rw [List.length_map] at this
    exact this
  have hsl : vs.length ≤ sizeLine := by rw [hvl, ← hn]; exact fits_of_scanBound hb
  refine wpAny_bind (wpAny_newList ?_ hsl)
  have hoL : (s1.heap.push (seqObj "list" vs.toArray 0)).get? s1.heap.objs.size = some (seqObj "list" vs.toArray 0) := Heap.get?_push_size _ rfl
  have eR : ∀ {ks : List Str} {vs : List Value}, Vals (ks.map V.str) vs → PySem.W.EachIs (fun v (b : Str) => RelV (.str b) v) vs ks := by
    intro ks
    induction ks with
    | nil => intro vs h; cases h; exact .nil
    | cons x ks ih => intro vs h; cases h with | cons r t => exact .cons r (ih t)
  have eV : ∀ {vs : List Value} {ks : List Str}, PySem.W.EachIs (fun v (b : Str) => RelV (.str b) v) vs ks → Vals (ks.map V.str) vs := by
    intro vs ks h
    induction h with
    | nil => exact .nil
    | cons r t ih => exact .cons r ih
  have hal : PySem.W.AllAlike (ks.map fun x => PyData.str x) := PySem.W.AllAlike.of fun b b' => by simp [PySem.W.alike]
  refine wpAny_bind (wpAny_holding (PySem.W.list_sort_data (vs := vs) (bs := ks) (enc := fun x => PyData.str x) (R := fun v (b : Str) => RelV (.str b) v) hoL (eR hV)
    ((eR hV).mono fun v b r => by obtain ⟨tk, rfl⟩ := r; exact ⟨[], .str _ _, by simp⟩) hal (PySem.W.Sortable.others fun b => ⟨by simp, by simp⟩) (by rw [hkl]; exact hsl)
    (fun b _ => by simp [PyData.depth]; omega) fun out ho' eo => ?_))
  obtain ⟨c, hc⟩ := PyProof.Rows.sortedHeap_at (vs := vs) (out := out.toArray) hoL
  have pn : (ks.mergeSort (PySem.W.dataLe false fun x => PyData.str x)).Perm (es.toList.map keyT) := (List.mergeSort_perm _ _).trans pk
  rw [PySem.W.dataLe_str] at pn eo
  have srt : (ks.mergeSort fun a b => decide (a.cps.toList ≤ b.cps.toList)).Pairwise (fun x y => x.cps.toList ≤ y.cps.toList) := by
    have q := List.pairwise_mergeSort (le := fun (a b : Str) => decide (a.cps.toList ≤ b.cps.toList)) (fun a b c h1 h2 => by
      simp only [decide_eq_true_eq] at *
      exact List.le_trans h1 h2) (fun a b => by
      simp only [Bool.or_eq_true, decide_eq_true_eq]
      exact List.le_total _ _) ks
    exact q.imp fun h => by simpa using h
  have nd' := pn.nodup_iff.mpr nd
  have lt : (ks.mergeSort fun a b => decide (a.cps.toList ≤ b.cps.toList)).Pairwise (fun x y => x.cps.toList < y.cps.toList) := by
    refine (srt.and nd').imp fun {x y} h => ?_
    refine Classical.byContradiction fun q => h.2 (PySem.W.str_of_cps (List.le_antisymm h.1 (List.not_lt.mp q)))
  refine wpAny_pure ⟨_, rfl, hQ _ s1.heap.objs.size out c _ (fun b u e => ?_) g1 o1 hz hc (eV eo) lt (fun k => by rw [pn.mem_iff, ← hm k]) ?_⟩
  · have q := k1 b u e
    have hlt := Heap.lt_size q
    show (sortedHeap (s1.heap.push (seqObj "list" vs.toArray 0)) s1.heap.objs.size vs out.toArray).get? b = some u
    rw [sortedHeap_old (Nat.ne_of_lt hlt) (by rw [size_push']; exact Nat.lt_succ_of_lt hlt)]
    exact Heap.get?_push_of_some _ q
  · rw [pn.length_eq, List.length_map, Array.length_toList]; exact hn
end

/-! as rules -/
/-- the set of texts at a -/
def SetTX (w : World) (a : Addr) (S : Str → Bool) (n : Nat) : HO := .ext fun h => SetT w h a S n
section
variable {X : Cx}
theorem setTX_new {w : World} {P : Program} {H : Hp} {h : Heap} {a : Addr} {S : Str → Bool} {n : Nat} (R : SetT w h a S n) : ObjOk P w H h a (SetTX w a S n) :=
  ⟨R, let ⟨o, _, _, _, ho, _⟩ := R; ⟨o, ho⟩, fun _ _ p k => SetT.at p k⟩
def rSetT (K : PySem.W.Frag) (w : World) : List V → Hp → VK → Prop := fun xs H Q => ∃ (l : Addr) (ns : List Str), xs = [V.ref l] ∧ (SqL K H l (ns.map V.str) ∨ SqT K H l (ns.map V.str)) ∧ ns.length ≤ 1000 ∧
  ∀ a c, H a = none → Q (.ref a) (upd H a (SetTX w a (fun j => decide (j ∈ ns)) c))
theorem cr_setT (hc : X.calm = true) : CallR X (.type "set") (rSetT X.K X.w) := by
  intro pins s σ H xs us Q I r h
  obtain ⟨l, ns, rfl, hs, hn, q⟩ := h
  rw [Vals.ref1 r]
  have hb : ns.length + 1 < scanBound := by show ns.length + 1 < 4096; omega
  have fin : ∀ (h' : Heap) (tk c : Nat), SetT X.w h' s.heap.objs.size (fun j => decide (j ∈ ns)) c → c ≤ ns.length → (∀ b o, s.heap.get? b = some o → h'.get? b = some o) → EP X pins σ Q (.ref s.heap.objs.size) { s with heap := h', toks := tk } := fun h' tk c R _ k =>
    ⟨.ref s.heap.objs.size, _, I.laid (t' := tk) k (Nat.le_refl _) (setTX_new R), rfl, q _ c (I.hok.fresh (Nat.le_refl _))⟩
  rcases hs with hs | hs
  · obtain ⟨its, rv, hl, _⟩ := I.list hs
    exact call_setT_list ns (I.ok.hd hc) hl.isList rv hb fin
  · obtain ⟨its, rv, ht, _⟩ := I.tuple hs
    exact call_setT_tuple ns (I.ok.hd hc) ht rv hb fin
def rSortedT (w : World) : List V → Hp → VK → Prop := fun vs H Q => ∃ (a : Addr) (S : Str → Bool) (n : Nat), vs = [V.ref a] ∧ H a = some (SetTX w a S n) ∧
  ∀ (ns : List Str) (p : Addr), ns.Pairwise (fun x y => x.cps.toList < y.cps.toList) → (∀ k, k ∈ ns ↔ S k = true) → H p = none → Q (.ref p) (upd H p (.lst (ns.map V.str)))
theorem cr_sortedT (hc : X.calm = true) (hu : X.A.units + 64 < cLine) : CallR X (.builtin "sorted") (rSortedT X.w) := by
  intro pins s σ H vs us Q I r h
  obtain ⟨a, S, n, rfl, ha, q⟩ := h
  have R : SetT X.w s.heap a S n := (I.hok a _ ha).1
  have hn : n ≤ sizeLine := by
    obtain ⟨_, es, _, _, _, _, _, _, _, _, hb, _, hn, _⟩ := id R
    rw [← hn]
    exact fits_of_scanBound hb
  rw [Vals.ref1 r]
  refine sorted_setT R (I.ok.hd hc) (by omega) fun s' p out c ns k g o hp hg hi hs hm hl => ?_
  have hlen : (ns.map V.str).length ≤ sizeLine := by rw [List.length_map, hl]; exact hn
  have hfree : H p = none := I.hok.fresh hp
  have J : Inv X pins σ (upd H p (.lst (ns.map V.str))) { s with heap := s'.heap, gens := s'.gens, drawn := s'.drawn, toks := s'.toks } :=
    I.call (ch := []) (Un.laid k hp hfree) (I.hok.laid k hp ⟨hlen, out, c, hi, hg⟩) (by rw [g]; exact I.bare) (fun _ z => nomatch z)
  obtain ⟨h', g', d', t', o'⟩ := s'
  obtain rfl : o' = s.os := o
  exact ⟨.ref p, _, J, rfl, q ns p hs hm hfree⟩
end
end K11
set_option Elab.async false
set_option linter.all false
set_option maxRecDepth 100000
set_option maxHeartbeats 2000000
/-! sorted of a list of tuples of data; a tuple backwards -/
namespace K11
open PySem PySem.Spec PyProof.Rows L2
section
variable {X : Cx}
/-- sorted(xs), xs a list of tuples of data that are alike: a new list of the same in some order -/
def rSortedD (K : PySem.W.Frag) : List V → Hp → VK → Prop := fun vs H Q => ∃ (a : Addr) (B : Type) (bs : List B) (val : B → V) (enc : B → PyData), vs = [V.ref a] ∧ SqL K H a (bs.map val) ∧ (∀ b ∈ bs, Dp K H (val b) (enc b)) ∧ (∀ b ∈ bs, ∃ x r, enc b = .tuple (x :: r)) ∧
  (∀ b ∈ bs, ∀ c ∈ bs, PySem.W.alike (enc b) (enc c) = true) ∧ (∀ b ∈ bs, (enc b).depth ≤ 30) ∧ ∀ (cs : List B) (p : Addr), cs.Perm bs → H p = none → Q (.ref p) (upd H p (.lst (cs.map val)))
theorem cr_sortedD (hu : X.A.units + 64 < cLine) : CallR X (.builtin "sorted") (rSortedD X.K) := by
  intro pins s σ H vs us Q I r h
  obtain ⟨a, B, bs, val, enc, rfl, hs, hd, ht, hal, hdep, q⟩ := h
  obtain ⟨its, rv, hl, hz⟩ := I.list hs
  rw [Vals.ref1 r]
  have eR : ∀ {bs : List B} {vs : List Value}, Vals (bs.map val) vs → PySem.W.EachIs (fun v (b : B) => RelV (val b) v) vs bs := by
    intro bs
    induction bs with
    | nil => intro vs h; cases h; exact .nil
    | cons x ks ih => intro vs h; cases h with | cons r t => exact .cons r (ih t)
  have eV : ∀ {vs : List Value} {bs : List B}, PySem.W.EachIs (fun v (b : B) => RelV (val b) v) vs bs → Vals (bs.map val) vs := by
    intro vs ks h
    induction h with
    | nil => exact .nil
    | cons r t ih => exact .cons r ih
  have eE : ∀ {vs : List Value} {cs : List B}, (∀ b ∈ cs, Dp X.K H (val b) (enc b)) → Vals (cs.map val) vs → PySem.W.EachIs (fun v (b : B) => ∃ as, Reads s.heap v (enc b) as) vs cs := by
    intro vs cs
    induction cs generalizing vs with
    | nil => intro _ h; cases h; exact .nil
    | cons x ks ih =>
      intro hd h
      cases h with
      | cons r t => exact .cons (Dp.reads I _ _ _ (hd x List.mem_cons_self) r) (ih (fun b hb => hd b (List.mem_cons_of_mem _ hb)) t)
  have hbl : bs.length ≤ sizeLine := by
    rw [List.length_map] at hz
    exact hz
  refine PySem.W.sorted_data (bs := bs) (enc := enc) (R := fun v (b : B) => RelV (val b) v) hl.isList (eR rv) (eE hd rv) ?_ (.inl ?_) hbl (fun b hb => ?_) fun out ho eo => ?_
  · intro d hd d' hd'
    obtain ⟨b, hb, rfl⟩ := List.mem_map.mp hd
    obtain ⟨c, hc, rfl⟩ := List.mem_map.mp hd'
    exact hal b hb c hc
  · intro d hd
    obtain ⟨b, hb, rfl⟩ := List.mem_map.mp hd
    exact ht b hb
  · have := hdep b hb
    omega
  · obtain ⟨ep, he'⟩ := PyProof.Rows.sortedAll_at s.heap its out.toArray
    have pm := List.mergeSort_perm bs (PySem.W.dataLe false enc)
    have hlen : ((bs.mergeSort (PySem.W.dataLe false enc)).map val).length ≤ sizeLine := by
      rw [List.length_map, pm.length_eq]
      exact hbl
    exact ⟨.ref _, upd H (s.heap.objs.size + 1) (.lst ((bs.mergeSort (PySem.W.dataLe false enc)).map val)), I.laid (t' := s.toks) (fun _ _ => PyProof.Rows.sortedAll_old) (Nat.le_succ _) ⟨hlen, out, ep, eV eo, he'⟩, rfl,
      q _ _ pm (I.hok.fresh (Nat.le_succ _))⟩
end
end K11
set_option Elab.async false
set_option linter.all false
set_option maxRecDepth 100000
set_option maxHeartbeats 2000000
/-! a tuple backwards -/
namespace K11
open PySem PySem.Spec PyProof.Rows L2 HT
section
variable {prog : Program} {w : World} {A : Around} {E : Value → Shared → Prop} {s : Shared}
theorem applied_back {sl : Addr} {vs : Value} {n : Nat} {Q : Int × Int × Nat → Shared → Prop} (hs : s.heap.IsSliceOf sl .none .none vs) (ps : IsPart vs (some (-1))) (h : Q ((n : Int) - 1, -1, n) s) :
    wpAny (model prog w) A (Builtin.Slice.sliceApplied (.ref sl) (pure (n : Int))) Q E s := by
  obtain ⟨os, hos, hcs, hds⟩ := id hs
  unfold Builtin.Slice.sliceApplied Builtin.Slice.sliceFields
  refine wpAny_bind (wpAny_bind (wpAny_field hos hds (x := .none) rfl (wpAny_bind (wpAny_field hos hds (x := .none) rfl (wpAny_bind (wpAny_field hos hds (x := vs) rfl (wpAny_pure ?_)))))))
  refine wpAny_bind (slicePart_ ps ?_)
  show wpAny _ _ (if ((-1 : Int) == 0) = true then _ else _) _ _ s
  rw [if_neg (by decide)]
  refine wpAny_bind (slicePart_ IsPart.none (wpAny_bind (slicePart_ IsPart.none (wpAny_bind (wpAny_pure ?_)))))
  have e : Builtin.Slice.slicePlaces ((n : Int) - 1) (-1) (-1) = n := by
    unfold Builtin.Slice.slicePlaces
    rw [if_neg (by decide)]
    by_cases h0 : (n : Int) - 1 > -1
    · rw [if_pos h0, show (-(-1 : Int)) = 1 by decide, Int.ediv_one]
      omega
    · rw [if_neg h0]
      omega
  show wpAny _ _ (pure ((n : Int) - 1, (-1 : Int), Builtin.Slice.slicePlaces ((n : Int) - 1) (-1) (-1))) _ _ s
  rw [e]
  exact wpAny_pure h
theorem pick_back (xs : Array Value) : ((List.range xs.size).filterMap fun (k : Nat) => xs[((xs.size : Int) - 1 + (k : Int) * (-1)).toNat]?).toArray = xs.toList.reverse.toArray := by
  have e : (fun (k : Nat) => xs[((xs.size : Int) - 1 + (k : Int) * (-1)).toNat]?) = fun k => xs[xs.size - 1 - k]? := by
    funext k
    rw [show ((xs.size : Int) - 1 + (k : Int) * (-1)).toNat = xs.size - 1 - k by omega]
  have e2 : (List.range xs.size).filterMap (fun k => xs[xs.size - 1 - k]?) = ((List.range xs.size).map fun k => xs.size - 1 - k).filterMap (xs[·]?) := by
    rw [List.filterMap_map]
    rfl
  rw [e, e2, PySem.W.krv_range, List.filterMap_reverse, PySem.W.krv_all]
theorem getItem_tuple_back {t sl : Addr} {items : Array Value} {vs : Value} {Q : Value → Shared → Prop} (ht : IsTup s.heap t items) (hs : s.heap.IsSliceOf sl .none .none vs) (ps : IsPart vs (some (-1)))
    (h : Q (.ref s.heap.objs.size) { s with heap := s.heap.push { cls := .type "tuple", data := .seq items.toList.reverse.toArray } }) (hsz : items.size ≤ sizeLine) : wpAny (model prog w) A (getItem (.ref t) (.ref sl)) Q E s := by
  have hok : sizeOk (.seq items.toList.reverse.toArray) := by
    show items.toList.reverse.toArray.size ≤ sizeLine
    simpa using hsz
  obtain ⟨os, hos, hcs, hds⟩ := id hs
  have hTs : s.TypeIs (.ref sl) "slice" := ⟨os, hos, hcs⟩
  unfold getItem
  try with_reducible refine wpAny_holding ?_
  first | refine wpAny_bind (wpAny_pure ?_) | skip
  refine wpAny_bind (wpAny_sequenceKey ht.typeIs (by decide) ?_)
  refine wpAny_bind (wpAny_callSpecial?_slot (name := Str.ofString "__getitem__") ht.typeIs PyProof.Rows.slot_tuple_getitem
    (wpAny_call_entry PyProof.Rows.slot_tuple_getitem ht.typeIs entry_tuple_getitem ?_ (args_tuple_getitem _ _)))
  show wpAny _ _ (Builtin.Tuple.tupleItemsOf (.ref t) >>= _) _ _ s
  refine wpAny_bind (tupleItemsOf_ ht ?_)
  refine wpAny_bind (wpAny_typeOf hTs ?_)
  rw [if_pos (by decide)]
  refine wpAny_bind (applied_back hs ps ?_)
  have hno : ¬ ((((items.size : Int) - 1) == 0 && (-1 : Int) == 1 && items.size == items.size) = true) := by
    rw [show ((-1 : Int) == 1) = false by decide, Bool.and_false, Bool.false_and]
    exact Bool.false_ne_true
  show wpAny _ _ (if (((items.size : Int) - 1) == 0 && (-1 : Int) == 1 && items.size == items.size) = true then _ else _) _ _ s
  rw [if_neg hno, pick_back]
  first
    | exact wpAny_bind (m := Builtin.Tuple.tupleExact _) (wpAny_newObj_type (wpAny_pure ⟨_, rfl, wpAny_pure h⟩) hok)
    | exact wpAny_bind (m := Builtin.Tuple.tupleExact _) (wpAny_newObj_type (wpAny_bind (wpAny_pure (wpAny_pure ⟨_, rfl, wpAny_pure h⟩))) hok)
    | exact wpAny_bind (wpAny_bind (m := Builtin.Tuple.tupleExact _) (wpAny_newObj_type (wpAny_pure (wpAny_pure ⟨_, rfl, wpAny_pure h⟩)) hok))
    | exact wpAny_bind (wpAny_bind (m := Builtin.Tuple.tupleExact _) (wpAny_newObj_type (wpAny_pure ⟨_, rfl, wpAny_pure h⟩) hok))
end
section
variable {X : Cx}
/-- t[::-1] -/
def tRevT (K : PySem.W.Frag) (te : TE) : TE := fun σ H Q => te σ H fun x H1 => ∃ a xs, x = .ref a ∧ SqT K H1 a xs ∧ ∀ p, H1 p = none → Q (.ref p) (upd H1 p (.tup xs.reverse))
theorem pe_revT {e : Expr} {te : TE} {k : Nat} {p1 p2 p3 pos : Pos} (he : PE X e te) : PE X (.Subscript e (.Slice none none (some (.UnaryOp .USub (.Constant (.int 1) k p1) p2)) p3) pos) (tRevT X.K te) := by
  refine ⟨fun pins s σ H Q I h => ?_⟩
  refine Subscript_ (thn (he.run pins s σ H _ I h) fun v s1 ⟨x, H1, I1, r1, q1⟩ => ?_)
  obtain ⟨a, xs, ex, hx, q⟩ := q1
  subst ex
  cases r1
  have hst : PO X (some (.UnaryOp .USub (.Constant (.int 1) k p1) p2)) (tPart (tUn (rU fun i => .int (-i)) (tC (.int 1)))) := po_some (pe_un un_neg pe_int)
  refine wpAny_Slice (thn (po_none.run pins s1 σ H1 (fun o H2 => o = none ∧ H2 = H1) I1 ⟨rfl, rfl⟩) fun vl s2 ⟨l, H2, I2, pl, el, e2⟩ => ?_)
  subst el e2
  refine thn (po_none.run pins s2 σ H2 (fun o H3 => o = none ∧ H3 = H2) I2 ⟨rfl, rfl⟩) fun vu s3 ⟨u, H3, I3, pu, eu, e3⟩ => ?_
  subst eu e3
  refine thn (hst.run pins s3 σ H3 (fun o H4 => o = some (-1) ∧ H4 = H3) I3 ⟨1, rfl, -1, rfl, rfl, rfl⟩) fun vs s4 ⟨o, H4, I4, ps, eo, e4⟩ => ?_
  subst eo e4
  cases pl
  cases pu
  have I5 : Inv X pins σ H4 { s4 with heap := s4.heap.push { cls := .type "slice", data := .fields #[.none, .none, vs] } } := I4.kept (t' := s4.toks) fun b ob q => Heap.get?_push_of_some _ q
  obtain ⟨its, r, ht, hz⟩ := I5.tuple hx
  have hlen := r.length
  show wpAny (model X.prog X.w) X.A (subscriptTail e (.Slice none none (some (.UnaryOp .USub (.Constant (.int 1) k p1) p2)) p3) (.ref a) (.ref s4.heap.objs.size)) (EP X pins σ Q) X.xe { s4 with heap := s4.heap.push { cls := .type "slice", data := .fields #[.none, .none, vs] } }
  refine tail_any (ops := [.ref a, .ref s4.heap.objs.size]) ht.typeIs PyProof.Rows.slot_tuple_getitem.lookup ?_ (by with_unfolding_all rfl)
  refine getItem_tuple_back ht (Heap.IsSliceOf.new _ .none .none vs) ps ?_ (by rw [List.size_toArray]; omega)
  refine ⟨.ref _, _, I5.laid (t' := s4.toks) (o := .tup xs.reverse) (fun b ob q => Heap.get?_push_of_some _ q) (Nat.le_refl _) ?_, rfl, q _ (I5.hok.fresh (Nat.le_refl _))⟩
  exact ⟨by rw [List.length_reverse]; exact hz, its.reverse, r.reverse, ⟨_, Heap.get?_push_size _ rfl, rfl, _, rfl⟩⟩
end
end K11
set_option Elab.async false
set_option linter.all false
set_option maxRecDepth 100000
set_option maxHeartbeats 2000000
/-! name = {k: v for ..} on one line -/
namespace K11
open PySem PySem.Spec PyProof.Rows L2
section
variable {X : Cx}
theorem ps_setDc {i : Nat} {y : Str} {py : Pos} {kx vx tg iter : Expr} {ifs : List Expr} {scope : Scope} {own : List (Str × Nat)} {pos spos : Pos} {wi : TI} {g : TG} {tt : TT} {tk tv : TE} (hc : X.calm = true) (hN : X.N.Nodup) (hy : X.N[i]? = some y)
    (hyl : X.env.scope.names.lookup y = some .local) (hsw : swapsWith (.DictComp kx vx [⟨tg, iter, ifs, 0⟩] scope pos) (some (.Name y py)) spos.line X.env = pure true) (hi : PI X tg iter wi) (ok : BlkOk X.N X.env.scope scope own)
    (hg : ∀ (s : Shared) (H : Hp) (C : Addr) (cl : List (Str × Addr)) (fp : List Addr), PG (X.blk s H scope (compEnvC scope cl C X.env) fp) tg g) (ht : ∀ (s : Shared) (H : Hp) (C : Addr) (cl : List (Str × Addr)) (fp : List Addr), PTs (X.blk s H scope (compEnvC scope cl C X.env) fp) ifs tt)
    (hk : ∀ (s : Shared) (H : Hp) (C : Addr) (cl : List (Str × Addr)) (fp : List Addr), PE (X.blk s H scope (compEnvC scope cl C X.env) fp) kx tk)
    (he : ∀ (s : Shared) (H : Hp) (C : Addr) (cl : List (Str × Addr)) (fp : List Addr), PE (X.blk s H scope (compEnvC scope cl C X.env) fp) vx tv) (hs : ∀ x, foldedSetIterable iter X.env x = pure x := by intro _; rfl) :
    PS X (.Assign [.Name y py] (.DictComp kx vx [⟨tg, iter, ifs, 0⟩] scope pos) spos) (tAsg (tDc wi g tt tk tv (own.map (·.2))) (gName i)) := by
  refine ⟨fun pins s σ H D I h => ?_⟩
  have h : tDc wi g tt tk tv (own.map (·.2)) σ H (fun x H1 => gName i x σ H1 D.nx) := h
  rw [exec_Assign_Name_used _ _ _ _ hsw]
  refine wpAny_bind (wpAny_standAt (wpAny_bind ?_))
  show wpAny _ X.A (do let _ ← comprehension (.DictComp kx vx [⟨tg, iter, ifs, 0⟩] scope pos) scope X.env (firstIterPos [⟨tg, iter, ifs, 0⟩] pos) newDict false (eval iter X.env) (some (assign (.Name y py) X.env))) _ _ s
  refine wpAny_bind (thn (dc_core (Qf := fun _ s' => SP X pins D .next s') hc hN I hi ok hg ht hk he hs h fun L C s' m H' I' q hn f => ?_) fun _ s' hq => wpAny_pure (wpAny_pure hq))
  show wpAny _ _ (assign (.Name y py) X.env (.ref L)) _ _ _
  obtain ⟨f0, f1, f2, f3, f4, f5⟩ := f
  refine wpAny_assign_Name (store_ok2 (v := V.ref L) I' hN hy (.inl hyl) rfl (fun s2 I2 ⟨a, sb, ha⟩ => ?_) (.inr hyl))
  have haC : C ≠ a := ha.elim (fun z => z ▸ f1) fun z e => f4 y a z e.symm
  exact ⟨m, hn.sameBut sb haC, fun h3 sb3 => ⟨_, H', I2.turned (t' := s2.toks) (fun b o hb e => (sb3.2 b hb).trans e) f0 f1 f3 f4 f5, q⟩⟩
theorem sw_dict {kx vx : Expr} {gs : List Comprehension} {scope : Scope} {pos py : Pos} {y : Str} {l : Nat} {env : Env} (hk : env.scope.kind = .function) (hy : env.scope.names.lookup y = some .local) (hl : (py.line == pos.line) = true)
    (ha : (scope.names.any fun (n, k) => n == y && (k == .local || k == .cell)) = false) : swapsWith (.DictComp kx vx gs scope pos) (some (.Name y py)) l env = pure true := by
  have ky : env.kindOf y = some .local := hy
  have hb : env.blockKind = .function := by unfold Env.blockKind; rw [hk]; rfl
  unfold swapsWith
  simp only [hb, ky, ha, Expr.pos, hl]
  rfl
end
/-- a dict comprehension, the form used here: Pv by the turn and the heap -/
theorem dc_it {J : It} {n : Nat} {G : Hp → Prop} {Y : Nat → Hp → V → Hp → Prop} (w : Walk J n G Y) {g : TG} {tk tv : TE} {vs : List Nat} {σ : L2.St} {H1 : Hp} {D : Addr} {Qd : Hp → Prop} (Pv : Nat → Hp → Prop) (h0 : Pv 0 (upd H1 D (.dK []))) (hG : ∀ i H, i ≤ n → Pv i H → G H)
    (hs : ∀ i x H H', i < n → Pv i H → Y i H x H' → g x (wipe σ vs) H' fun σ2 H2 => wipe σ2 vs = wipe σ vs ∧
      tk σ2 H2 fun y H4 => tv σ2 H4 fun z H5 => ∃ kvs k, y = kV k ∧ H5 D = some (.dK kvs) ∧ kvs.length < sizeLine ∧ Pv (i + 1) (upd H5 D (.dK (putK kvs k z)))) (hd : ∀ H, Pv n H → Qd H) :
    ∃ W : Nat → Nat → Hp → Prop, (∃ m, W 0 m (upd H1 D (.dK []))) ∧ ∀ i m H, W i m H →
      (J.stop i H ∧ Qd H) ∨ (J.go i H ∧ ∃ Nx : Hp → Prop, (∀ H', Nx H' → ∃ m', m' < m ∧ W (i + 1) m' H') ∧ ∀ x H', J.yld i H x H' → g x (wipe σ vs) H' fun σ2 H2 => wipe σ2 vs = wipe σ vs ∧ tYes σ2 H2 fun b H3 =>
        if b = true then tk σ2 H3 fun y H4 => tv σ2 H4 fun z H5 => ∃ kvs k, y = kV k ∧ H5 D = some (.dK kvs) ∧ kvs.length < sizeLine ∧ Nx (upd H5 D (.dK (putK kvs k z))) else Nx H3) := by
  refine ⟨fun i m H => m = n - i ∧ i ≤ n ∧ Pv i H, ⟨n, by simp, Nat.zero_le _, h0⟩, ?_⟩
  rintro i m H ⟨rfl, hi, p⟩
  have q := hG i H hi p
  by_cases hlt : i < n
  · exact .inr ⟨w.goes i H hlt q, Pv (i + 1), fun H' p' => ⟨n - (i + 1), by omega, rfl, hlt, p'⟩, fun x H' y => hs i x H H' hlt p (w.yields i H x H' hlt q y)⟩
  · obtain rfl : i = n := by omega
    exact .inl ⟨w.stops H q, hd H p⟩
end K11
set_option Elab.async false
set_option linter.all false
set_option maxRecDepth 100000
set_option maxHeartbeats 2000000
/-! words, heaps, the text by places -/
namespace K11
open PySem PySem.Spec PyProof.Rows L2

/-! ### texts -/
def mk (s : S) : Str := ⟨s.toArray⟩
abbrev Sv (s : S) : V := .str (mk s)
theorem mk_list (s : S) : (mk s).cps.toList = s := by simp [mk]
theorem mk_len (s : S) : (mk s).length = s.length := by simp [mk, Str.length]
theorem mk_inj {a b : S} (h : mk a = mk b) : a = b := by
  have := congrArg (fun x : Str => x.cps.toList) h
  simpa only [mk_list] using this
theorem mk_of (x : Str) : x = mk x.cps.toList := by
  cases x
  simp [mk]
theorem sv_inj {a b : S} (h : Sv a = Sv b) : a = b := mk_inj (V.str.inj h)
theorem dec_sv (a b : S) : decide (Sv a = Sv b) = decide (a = b) := by
  by_cases h : a = b
  · subst h; simp
  · rw [decide_eq_false h]
    exact decide_eq_false fun z => h (sv_inj z)
theorem dec_mk (a b : S) : (mk a == mk b) = decide (a = b) := by
  by_cases h : a = b
  · subst h; simp
  · rw [decide_eq_false h]
    exact beq_eq_false_iff_ne.mpr fun z => h (mk_inj z)
theorem starts (a b : S) : Txt.startswith (mk a) (mk b) = b.isPrefixOf a := by
  have e : Builtin.Str.subAt (mk a) (mk b) 0 = (a.take b.length == b) := by
    rw [StrLaws.subAt_eq, mk_list, mk_list, mk_len, List.drop_zero]
  unfold Txt.startswith
  rw [e, mk_len, mk_len]
  cases h : b.isPrefixOf a with
  | true =>
    have p := List.isPrefixOf_iff_prefix.mp h
    have q := p.length_le
    have t := List.prefix_iff_eq_take.mp p
    rw [← t]
    simp [q]
  | false =>
    cases h2 : (a.take b.length == b) with
    | false => simp
    | true =>
      have t : a.take b.length = b := eq_of_beq h2
      have p : b <+: a := t ▸ List.take_prefix b.length a
      rw [List.isPrefixOf_iff_prefix.mpr p] at h
      cases h
theorem cut_from (a : S) (n : Nat) : cutS (mk a) (some (n : Int)) none = mk (a.drop n) := by
  show (⟨((mk a).cps.toList.drop (HT.sIx (mk a).length 0 (some (n : Int)))).take (HT.sIx (mk a).length (mk a).length none - HT.sIx (mk a).length 0 (some (n : Int))) |>.toArray⟩ : Str) = _
  rw [mk_list, mk_len, HT.sIx_nat, HT.sIx_none]
  unfold mk
  congr 1
  congr 1
  by_cases h : n ≤ a.length
  · rw [Nat.min_eq_left h]
    exact List.take_of_length_le (by rw [List.length_drop]; exact Nat.le_refl _)
  · rw [Nat.min_eq_right (by omega), List.drop_length, List.drop_eq_nil_of_le (by omega)]
    simp
theorem cut_to (a : S) (n : Nat) : cutS (mk a) none (some (n : Int)) = mk (a.take n) := by
  show (⟨((mk a).cps.toList.drop (HT.sIx (mk a).length 0 none)).take (HT.sIx (mk a).length (mk a).length (some (n : Int)) - HT.sIx (mk a).length 0 none) |>.toArray⟩ : Str) = _
  rw [mk_list, mk_len, HT.sIx_nat, HT.sIx_none, List.drop_zero, Nat.sub_zero]
  unfold mk
  congr 1
  congr 1
  by_cases h : n ≤ a.length
  · rw [Nat.min_eq_left h]
  · rw [Nat.min_eq_right (by omega), List.take_of_length_le (Nat.le_refl _), List.take_of_length_le (by omega)]
theorem mk_app (a b : S) : mk a ++ mk b = mk (a ++ b) := by
  have : (mk a ++ mk b).cps.toList = (mk (a ++ b)).cps.toList := by
    rw [PySem.W.KAf.app_list, mk_list, mk_list, mk_list]
  rw [mk_of (mk a ++ mk b), this, mk_list]
theorem lt_mk (a b : S) : decide ((mk a).cps.toList < (mk b).cps.toList) = decide (a < b) := by rw [mk_list, mk_list]
theorem map_sv (xs : List S) : xs.map Sv = (xs.map mk).map V.str := by rw [List.map_map]; rfl
theorem flat_sv (xs : List S) : (xs.map Sv).all flatV = true := by
  rw [List.all_eq_true]
  intro x hx
  obtain ⟨s, _, rfl⟩ := List.mem_map.mp hx
  rfl
theorem in_sv (s : S) : ∀ xs : List S, inV (Sv s) (xs.map Sv) = decide (s ∈ xs)
  | [] => rfl
  | x :: xs => by
    have ih := in_sv s xs
    unfold inV at ih ⊢
    rw [List.map_cons, List.any_cons, ih]
    show ((mk x == mk s) || decide (s ∈ xs)) = decide (s ∈ x :: xs)
    rw [dec_mk]
    by_cases h : x = s
    · subst h; simp
    · have h' : ¬ s = x := fun z => h z.symm
      simp [h, h']
/-- ascending lists of texts, as the sort gives them -/
theorem asc_mk {ys : List Str} (h : ys.Pairwise (fun x y => x.cps.toList < y.cps.toList)) : ∃ zs : List S, ys = zs.map mk ∧ zs.Pairwise (· < ·) := by
  refine ⟨ys.map fun x => x.cps.toList, ?_, List.pairwise_map.mpr h⟩
  rw [List.map_map]
  have e : (mk ∘ fun x : Str => x.cps.toList) = id := funext fun x => (mk_of x).symm
  rw [e, List.map_id]
theorem mem_mk {s : S} {zs : List S} : mk s ∈ zs.map mk ↔ s ∈ zs := by
  rw [List.mem_map]
  exact ⟨fun ⟨a, h, e⟩ => mk_inj e ▸ h, fun h => ⟨s, h, rfl⟩⟩

theorem map_at {α β : Type} {f : α → β} {xs : List α} {i : Nat} {x : β} (h : (xs.map f)[i]? = some x) : ∃ z, xs[i]? = some z ∧ x = f z := by
  rw [List.getElem?_map] at h
  cases e : xs[i]? with
  | none => rw [e] at h; cases h
  | some z =>
    rw [e] at h
    exact ⟨z, rfl, (Option.some.inj h).symm⟩
theorem at_map {α β : Type} {f : α → β} {xs : List α} {i : Nat} {z : α} (h : xs[i]? = some z) : (xs.map f)[i]? = some (f z) := by
  rw [List.getElem?_map, h]
  rfl

/-! ### heaps -/
theorem Same.tup {K : PySem.W.Frag} {H H' : Hp} {a : Addr} {xs : List V} (e : Same H H') (h : SqT K H a xs) : SqT K H' a xs := by
  rcases h with (h | ⟨o, h⟩) | h
  · exact .inl (.inl (e _ _ h))
  · exact .inl (.inr ⟨o, e _ _ h⟩)
  · exact .inr h
theorem same_upd {H : Hp} {p : Addr} {o : HO} (h : H p = none) : Same H (upd H p o) := fun b x e => by
  rw [upd_ne (ne_of_none e h)]
  exact e
/-- an object that is younger than H is changed -/
theorem same_put {H H1 : Hp} {p : Addr} {o : HO} (s : Same H H1) (h : H p = none) : Same H (upd H1 p o) := fun b x e => by
  rw [upd_ne (ne_of_none e h)]
  exact s b x e
/-- all but st is as it was -/
def SameBut1 (st : Addr) (H H' : Hp) : Prop := ∀ b o, H b = some o → b ≠ st → H' b = some o
theorem Same.but {H H' : Hp} (s : Same H H') (st : Addr) : SameBut1 st H H' := fun b o e _ => s b o e
theorem SameBut1.trans {st : Addr} {H H1 H2 : Hp} (a : SameBut1 st H H1) (b : SameBut1 st H1 H2) : SameBut1 st H H2 := fun c o h n => b c o (a c o h n) n
theorem SameBut1.tup {K : PySem.W.Frag} {st : Addr} {H H' : Hp} {a : Addr} {xs : List V} (e : SameBut1 st H H') (hst : ∃ ys, H st = some (.lst ys)) (h : SqT K H a xs) : SqT K H' a xs := by
  obtain ⟨ys, hs⟩ := hst
  rcases h with (h | ⟨o, h⟩) | h
  · exact .inl (.inl (e _ _ h (ne_of h hs (by intro z; cases z))))
  · exact .inl (.inr ⟨o, e _ _ h (ne_of h hs (by intro z; cases z))⟩)
  · exact .inr h
mutual
theorem Dp.same {K : PySem.W.Frag} {H H' : Hp} (s : Same H H') : ∀ {d : PyData} {v : V}, Dp K H v d → Dp K H' v d
  | .none, _, h => by cases h; exact .non
  | .bool _, _, h => by cases h; exact .bl _
  | .int _, _, h => by cases h; exact .int _
  | .str _, _, h => by cases h; exact .str _
  | .list _, _, h => by cases h with | lst a b => exact .lst (s.seq a) (DpAll.same s b)
  | .tuple _, _, h => by cases h with | tup a b => exact .tup (Same.tup s a) (DpAll.same s b)
  | .dict _, _, h => by cases h
theorem DpAll.same {K : PySem.W.Frag} {H H' : Hp} (s : Same H H') : ∀ {ds : List PyData} {vs : List V}, DpAll K H vs ds → DpAll K H' vs ds
  | [], _, h => by cases h; exact .nil
  | _ :: _, _, h => by cases h with | cons a b => exact .cons (Dp.same s a) (DpAll.same s b)
end
theorem DpAll.len {K : PySem.W.Frag} {H : Hp} : ∀ {ds : List PyData} {vs : List V}, DpAll K H vs ds → vs.length = ds.length
  | [], _, h => by cases h; rfl
  | _ :: _, _, h => by cases h with | cons a b => rw [List.length_cons, List.length_cons, DpAll.len b]
theorem DpAll.get {K : PySem.W.Frag} {H : Hp} : ∀ {ds : List PyData} {vs : List V} {i : Nat} {v : V}, DpAll K H vs ds → vs[i]? = some v → ∃ d, ds[i]? = some d ∧ Dp K H v d
  | [], _, _, _, h, e => by cases h; simp at e
  | _ :: _, _, 0, _, h, e => by
    cases h with
    | cons a b =>
      simp at e
      subst e
      exact ⟨_, rfl, a⟩
  | _ :: _, _, i + 1, v, h, e => by
    cases h with
    | cons a b => exact DpAll.get (i := i) (v := v) b (by simpa using e)
theorem dp_strs {K : PySem.W.Frag} {H : Hp} : ∀ xs : List S, DpAll K H (xs.map Sv) (xs.map fun s => .str (mk s))
  | [] => .nil
  | _ :: xs => .cons (.str _) (dp_strs xs)
abbrev Iv (n : Nat) : V := .int (n : Int)
theorem dp_ints {K : PySem.W.Frag} {H : Hp} : ∀ ns : List Nat, DpAll K H (ns.map Iv) (ns.map fun n : Nat => PyData.int (n : Int))
  | [] => .nil
  | _ :: ns => .cons (.int _) (dp_ints ns)
/-- a list at p of tuples with the contents rows -/
def Rows (K : PySem.W.Frag) (H : Hp) (p : Addr) (rows : List (List V)) : Prop := ∃ as : List Addr, SqL K H p (as.map V.ref) ∧ as.length = rows.length ∧ ∀ (i : Nat) (a : Addr) (r : List V), as[i]? = some a → rows[i]? = some r → SqT K H a r
theorem Rows.same {K : PySem.W.Frag} {H H' : Hp} {p : Addr} {rows : List (List V)} (s : Same H H') (h : Rows K H p rows) : Rows K H' p rows := by
  obtain ⟨as, h1, h2, h3⟩ := h
  exact ⟨as, s.seq h1, h2, fun i a r e1 e2 => Same.tup s (h3 i a r e1 e2)⟩

/-! ### the names that the top and Python's own hold -/
structure Glo (mg : Str → Option Value) : Prop where
  isinstance : mg "isinstance" = none
  len : mg "len" = none
  all : mg "all" = none
  str : mg "str" = none
  tuple : mg "tuple" = none
  list : mg "list" = none
  int : mg "int" = none
  bool : mg "bool" = none
  enumerate : mg "enumerate" = none
  zip : mg "zip" = none
  sorted : mg "sorted" = none
  set : mg "set" = none
  range : mg "range" = none
  abs : mg "abs" = none
  letters : ∃ t, mg "LETTERS" = some (.str "abc" t)
  mostWordsC : ∃ t, mg "MOST_WORDS_codes" = some (.int 6 t)
  longest : ∃ t, mg "LONGEST_WORD" = some (.int 5 t)
  members : ∃ t, mg "MOST_MEMBERS" = some (.int 64 t)
  mostWordsU : ∃ t, mg "MOST_WORDS_unique" = some (.int 100 t)
  mostLetters : ∃ t, mg "MOST_LETTERS" = some (.int 5 t)

/-! ### the text by places -/
def top (i : Nat) : Stmt := PySem.Challenge.pw_syncedwords_k11_whole_any_evidence.main.body.getD i (.Pass ⟨0, 0, 0, 0⟩)
abbrev sSpelled : Stmt := top 7
abbrev sIsCode : Stmt := top 8
abbrev sCheck : Stmt := top 13
abbrev sFirst : Stmt := top 14
abbrev sSteps : Stmt := top 15
abbrev sRests : Stmt := top 16
abbrev sWaysOn : Stmt := top 17
abbrev sFirstWay : Stmt := top 18
abbrev sEvidence : Stmt := top 19
abbrev sMember : Stmt := top 20
abbrev sClosed : Stmt := top 21
abbrev sIsParse : Stmt := top 22
abbrev sTwo : Stmt := top 23
abbrev sAccepts : Stmt := top 24
abbrev sStream : Stmt := top 26
abbrev sNext : Stmt := top 27
abbrev sEqual : Stmt := top 29
abbrev sLCode : Stmt := top 30
abbrev sLLetters : Stmt := top 31
abbrev sLPairs : Stmt := top 32
abbrev sLOn : Stmt := top 33
abbrev sLRests : Stmt := top 34
abbrev sLClosed : Stmt := top 35
abbrev sLTwo : Stmt := top 36
abbrev sLGrown : Stmt := top 37
abbrev sLParse : Stmt := top 38
abbrev sLValues : Stmt := top 39
abbrev sLaw : Stmt := top 40

theorem iteDT {c A B : Prop} [Decidable c] (h : c) (x : A) : if decide c = true then A else B := by
  rw [decide_eq_true h]
  exact iteT x
theorem iteDF {c A B : Prop} [Decidable c] (h : ¬ c) (x : B) : if decide c = true then A else B := by
  rw [decide_eq_false h]
  exact iteF x
theorem iteNT {c A B : Prop} [Decidable c] (h : ¬ c) (x : A) : if (!decide c) = true then A else B := by
  rw [decide_eq_false h]
  exact iteT x
theorem all_true {α : Type} (l : List α) : (l.map fun _ => true).all id = true := by simp
/-! ### loops and comprehensions, the forms used here -/
/-- a comprehension that only makes new things: the list ys -/
theorem lc_new {J : It} {n : Nat} {G : Hp → Prop} {Y : Nat → Hp → V → Hp → Prop} (w : Walk J n G Y) {g : TG} {te : TE} {vs : List Nat} {σ : L2.St} {H1 : Hp} {D : Addr} {Qd : Hp → Prop} (hD : H1 D = none) (ys : List V) (hn : ys.length = n) (hz : n < sizeLine)
    (hG : ∀ H, Same H1 H → G H)
    (hs : ∀ i x H H' (k : V → Hp → Prop), i < n → Same H1 H → Y i H x H' → (∀ y H4, ys[i]? = some y → Same H H4 → k y H4) → g x (wipe σ vs) H' fun σ2 H2 => wipe σ2 vs = wipe σ vs ∧ te σ2 H2 k)
    (hd : ∀ H, Same H1 H → H D = some (.lst ys) → Qd H) :
    ∃ W : Nat → Nat → Hp → Prop, (∃ m, W 0 m (upd H1 D (.lst []))) ∧ ∀ i m H, W i m H →
      (J.stop i H ∧ Qd H) ∨ (J.go i H ∧ ∃ Nx : Hp → Prop, (∀ H', Nx H' → ∃ m', m' < m ∧ W (i + 1) m' H') ∧ ∀ x H', J.yld i H x H' → g x (wipe σ vs) H' fun σ2 H2 => wipe σ2 vs = wipe σ vs ∧ tYes σ2 H2 fun b H3 =>
        if b = true then te σ2 H3 fun y H4 => ∃ acc, H4 D = some (.lst acc) ∧ acc.length < sizeLine ∧ Nx (upd H4 D (.lst (acc ++ [y]))) else Nx H3) := by
  refine lc_it w (tt := tYes) (fun i H => Same H1 H ∧ H D = some (.lst (ys.take i))) ⟨same_upd hD, by rw [upd_same, List.take_zero]⟩ (fun i H _ p => hG H p.1) (fun i x H H' hi p y => ?_) fun H p => hd H p.1 (by
    have := p.2
    rw [List.take_of_length_le (by omega)] at this
    exact this)
  refine hs i x H H' _ hi p.1 y fun y H4 e s4 => ?_
  refine ⟨_, s4 _ _ p.2, ?_, same_put (p.1.trans s4) hD, ?_⟩
  · rw [List.length_take]
    omega
  · rw [upd_same, List.take_add_one, e]
    rfl
/-- all([test for x in ..]) -/
theorem lc_all {J : It} {n : Nat} {G : Hp → Prop} {Y : Nat → Hp → V → Hp → Prop} (w : Walk J n G Y) {g : TG} {te : TE} {vs : List Nat} {σ : L2.St} {H1 : Hp} {D : Addr} {Qd : Hp → Prop} (hD : H1 D = none) (bs : List Bool) (hn : bs.length = n) (hz : n < sizeLine)
    (hG : ∀ H, Same H1 H → G H)
    (hs : ∀ i x H H' (k : V → Hp → Prop), i < n → Same H1 H → Y i H x H' → (∀ b H4, bs[i]? = some b → Same H H4 → k (.bl b) H4) → g x (wipe σ vs) H' fun σ2 H2 => wipe σ2 vs = wipe σ vs ∧ te σ2 H2 k)
    (hd : ∀ H, Same H1 H → H D = some (.lst (bs.map V.bl)) → Qd H) :
    ∃ W : Nat → Nat → Hp → Prop, (∃ m, W 0 m (upd H1 D (.lst []))) ∧ ∀ i m H, W i m H →
      (J.stop i H ∧ Qd H) ∨ (J.go i H ∧ ∃ Nx : Hp → Prop, (∀ H', Nx H' → ∃ m', m' < m ∧ W (i + 1) m' H') ∧ ∀ x H', J.yld i H x H' → g x (wipe σ vs) H' fun σ2 H2 => wipe σ2 vs = wipe σ vs ∧ tYes σ2 H2 fun b H3 =>
        if b = true then te σ2 H3 fun y H4 => ∃ acc, H4 D = some (.lst acc) ∧ acc.length < sizeLine ∧ Nx (upd H4 D (.lst (acc ++ [y]))) else Nx H3) :=
  lc_new w hD (bs.map V.bl) (by rw [List.length_map]; exact hn) hz hG (fun i x H H' k hi s y hk => hs i x H H' k hi s y fun b H4 e s4 => hk _ _ (by rw [List.getElem?_map, e]; rfl) s4) hd
theorem all_map {α : Type} (p : α → Bool) (l : List α) : (l.map p).all id = l.all p := by
  rw [List.all_map]
  rfl
theorem all_zipIdx {α : Type} (p : α → Nat → Bool) (l : List α) : (l.zipIdx.map fun q => p q.1 q.2).all id = l.zipIdx.all fun q => p q.1 q.2 := all_map _ _

/-! ### tuples put together and cut -/
theorem cut_take (xs : List V) (n : Nat) : cutV xs none (some (n : Int)) = xs.take n := by
  show (xs.drop (HT.sIx xs.length 0 none)).take (HT.sIx xs.length xs.length (some (n : Int)) - HT.sIx xs.length 0 none) = _
  rw [HT.sIx_nat, HT.sIx_none, List.drop_zero, Nat.sub_zero]
  by_cases h : n ≤ xs.length
  · rw [Nat.min_eq_left h]
  · rw [Nat.min_eq_right (by omega), List.take_of_length_le (Nat.le_refl _), List.take_of_length_le (by omega)]
theorem cut_drop (xs : List V) (n : Nat) : cutV xs (some (n : Int)) none = xs.drop n := by
  show (xs.drop (HT.sIx xs.length 0 (some (n : Int)))).take (HT.sIx xs.length xs.length none - HT.sIx xs.length 0 (some (n : Int))) = _
  rw [HT.sIx_nat, HT.sIx_none]
  by_cases h : n ≤ xs.length
  · rw [Nat.min_eq_left h]
    exact List.take_of_length_le (by rw [List.length_drop]; exact Nat.le_refl _)
  · rw [Nat.min_eq_right (by omega), List.drop_length, List.drop_eq_nil_of_le (by omega)]
    simp
theorem cut_last (xs : List V) : cutV xs (some (-1)) none = xs.drop (xs.length - 1) := by
  have e : HT.sIx xs.length 0 (some (-1)) = xs.length - 1 := by
    show (if (-1 : Int) < 0 then ((-1 : Int) + (xs.length : Int)).toNat else min (-1 : Int).toNat xs.length) = _
    rw [if_pos (by decide)]
    omega
  show (xs.drop (HT.sIx xs.length 0 (some (-1)))).take (HT.sIx xs.length xs.length none - HT.sIx xs.length 0 (some (-1))) = _
  rw [e, HT.sIx_none]
  exact List.take_of_length_le (by rw [List.length_drop]; exact Nat.le_refl _)
theorem slA {K : PySem.W.Frag} {H : Hp} {a : Addr} {xs : List V} {lo hi : Option Int} {Q : VK} (h : SqT K H a xs) (q : ∀ p H', Same H H' → SqT K H' p (cutV xs lo hi) → Q (.ref p) H') : rSlA K (.ref a) lo hi H Q := by
  refine ⟨a, xs, rfl, h, fun e => q a H (Same.refl H) ?_, fun _ p hp => q p _ (same_upd hp) (SqT.of upd_same)⟩
  have c : cutV xs lo hi = xs := by
    show (xs.drop (HT.sIx xs.length 0 lo)).take (HT.sIx xs.length xs.length hi - HT.sIx xs.length 0 lo) = xs
    rw [e.1, e.2, List.drop_zero, Nat.sub_zero]
    exact List.take_of_length_le (Nat.le_refl _)
  rw [c]
  exact h
theorem catA {K : PySem.W.Frag} {H : Hp} {a b : Addr} {xs ys : List V} {Q : VK} (h : SqT K H a xs) (h' : SqT K H b ys) (hz : xs.length + ys.length ≤ sizeLine) (q : ∀ p H', Same H H' → SqT K H' p (xs ++ ys) → Q (.ref p) H') : rCatA K (.ref a) (.ref b) H Q := by
  refine ⟨a, b, xs, ys, rfl, rfl, h, h', hz, fun e => ?_, fun _ e => ?_, fun _ _ p hp => q p _ (same_upd hp) (SqT.of upd_same)⟩
  · refine q b H (Same.refl H) ?_
    rw [e]
    exact h'
  · refine q a H (Same.refl H) ?_
    rw [e, List.append_nil]
    exact h
end K11
set_option Elab.async false
set_option linter.all false
set_option maxRecDepth 100000
set_option maxHeartbeats 2000000
namespace K11
open PySem PySem.Spec PyProof.Rows L2

/-- words as they are drawn: at most six, all of 1 to 5 of the letters, all different -/
structure CodeOk (code : List S) : Prop where
  few : code.length ≤ 6
  word : ∀ w ∈ code, memS w = true
  nd : code.Nodup
theorem memS_iff {r : S} : memS r = true ↔ 1 ≤ r.length ∧ r.length ≤ 5 ∧ ∀ c ∈ r, c ∈ [97, 98, 99] := by
  unfold memS
  simp only [Bool.and_eq_true, decide_eq_true_eq, List.all_eq_true]
  exact ⟨fun h => ⟨h.1.1, h.1.2, h.2⟩, fun h => ⟨⟨h.1, h.2.1⟩, h.2.2⟩⟩
theorem abc_mk : ("abc" : Str) = mk [97, 98, 99] := by decide +kernel
theorem boot_isinstance : bootBuiltins "isinstance" = some (.builtin "isinstance") := by decide +kernel
theorem boot_all : bootBuiltins "all" = some (.builtin "all") := by decide +kernel
theorem boot_str : bootBuiltins "str" = some (.type "str") := by decide +kernel
theorem boot_tuple : bootBuiltins "tuple" = some (.type "tuple") := by decide +kernel
theorem boot_list : bootBuiltins "list" = some (.type "list") := by decide +kernel
theorem boot_int : bootBuiltins "int" = some (.type "int") := by decide +kernel
theorem boot_bool : bootBuiltins "bool" = some (.type "bool") := by decide +kernel
theorem boot_set : bootBuiltins "set" = some (.type "set") := by decide +kernel
theorem boot_sorted : bootBuiltins "sorted" = some (.builtin "sorted") := by decide +kernel
theorem boot_abs : bootBuiltins "abs" = some (.builtin "abs") := by decide +kernel
section
variable {P : Program} {w : World} {K : PySem.W.Frag} {mg : Str → Option Value} {base : Heap}
theorem small_line {n : Nat} (h : n ≤ 100000) : n ≤ sizeLine := Nat.le_trans h (by decide)
theorem small_lt {n : Nat} (h : n ≤ 100000) : n < sizeLine := Nat.lt_of_le_of_lt h (by decide)

/-! ### is_spelled -/
def spSpelled : Sp := fun vs H Q _ => ∃ s : S, vs = [Sv s, .int 1, .int 5] ∧ memS s = true ∧ ∀ H', Same H H' → Q (.bl true) H'
abbrev nSpelled : List Str := ["value", "low", "high", "letter"]
theorem scSpelled : FnScope nSpelled ["value", "low", "high"] (defScope sSpelled) := ⟨rfl, rfl, rfl, by decide +kernel, rfl, by decide +kernel, by decide +kernel⟩
theorem ok_spelled {f : Addr} {fd : FuncData} (F : Fun K "is_spelled" "is_spelled" sSpelled f fd) (T : Glo mg) : FnOk P w K mg base CX0 1 f fd ["value", "low", "high"] spSpelled := by
  refine F.ok scSpelled (fun vs H Q E h => ?_) (fun cdv A outer s H vs Q E hr h => ?_)
  · obtain ⟨s, rfl, _⟩ := h
    rfl
  · obtain ⟨z, rfl, hm, q⟩ := h
    obtain ⟨h1, h5, hc⟩ := memS_iff.mp hm
    obtain ⟨tl, hl⟩ := T.letters
    refine ⟨_, pss_one (ps_ret (pe_and (pe_callB call_isi (by rfl) T.isinstance boot_isinstance (pa_cons (pv 0) (pa_cons (pe_bltn (v := .ty "str") (by rfl) T.str boot_str rfl) pa_nil)))
      (pe_and (pe_chain op_le op_le (pv 1) (pe_callB call_len_str (by rfl) T.len PySem.boot_len (pa_cons (pv 0) pa_nil)) (pv 2))
      (pe_one (pe_callB (cr_all rfl) (by rfl) T.all boot_all (pa_cons
        (pe_lc (own := [("letter", 3)]) (g := gName 3) (tt := tYes) rfl scSpelled.nd (pi_str (pv 0)) (blkOk_by (N := nSpelled) (sc := defScope sSpelled) (by decide +kernel))
          (fun _ _ _ _ _ => pg_name (i := 3) scSpelled.nd rfl (Or.inl rfl)) (fun _ _ _ _ _ => pts_nil)
          (fun _ _ _ _ _ => pe_cmpR op_in_sign (pv 3) (pe_glob (v := .str "abc") (by rfl) hl ⟨_, rfl⟩) (by rfl))) pa_nil)))))), ?_⟩
    refine ⟨Sv z, rfl, Sv z, .ty "str", .type "str", .type "str", true, rfl, .ty _, .base (.str _), kit_ty (by decide +kernel), true, rfl, iteT ?_⟩
    refine ⟨_, rfl, Sv z, rfl, _, rfl, small_line (by rw [mk_len]; omega), _, _, rfl, rfl, _, rfl, iteDT (by rw [mk_len]; omega) ?_⟩
    refine ⟨_, rfl, _, _, rfl, rfl, _, rfl, iteDT (by rw [mk_len]; omega) ?_⟩
    refine ⟨Sv z, rfl, mk z, rfl, fun D hD => lc_all walk_str hD (z.map fun _ => true) (by simp [mk]) (small_lt (by simp [mk]; omega)) (fun _ _ => trivial) (fun i x H1 H2 k hi s1 y hk => ?_) fun H1 s1 e1 => ⟨D, _, rfl, SqL.of e1, ?_⟩⟩
    · obtain ⟨rfl, c, hc1, rfl⟩ := y
      have hcz : z[i]? = some c := by
        rw [← Array.getElem?_toList, mk_list] at hc1
        exact hc1
      refine ⟨rfl, _, rfl, c, _, rfl, rfl, hk _ _ ?_ (Same.refl _)⟩
      have hm : c ∈ ("abc" : Str).cps.toList := by
        rw [abc_mk, mk_list]
        exact hc c (List.mem_of_getElem? hcz)
      rw [List.getElem?_map, hcz, decide_eq_true hm]
      rfl
    · rw [all_true]
      exact q H1 s1
/-! ### is_code -/
abbrev nIsCode : List Str := ["value", "word", "at"]
def spIsCode (K : PySem.W.Frag) : Sp := fun vs H Q _ => ∃ (c : Addr) (code : List S), vs = [.ref c] ∧ SqT K H c (code.map Sv) ∧ CodeOk code ∧ ∀ H', Same H H' → Q (.bl true) H'
theorem scIsCode : FnScope nIsCode ["value"] (defScope sIsCode) := ⟨rfl, rfl, rfl, by decide +kernel, rfl, by decide +kernel, by decide +kernel⟩
theorem tyx_tup {H : Hp} {a : Addr} {xs : List V} (h : SqT K H a xs) : TyX K H (.ref a) (.type "tuple") := by
  rcases h with (h | ⟨o, h⟩) | ⟨o, its, n, h, hc, _⟩
  · exact .base (.tup h)
  · exact .fTuple h
  · exact .kTuple h hc
theorem tyx_lst {H : Hp} {a : Addr} {xs : List V} (h : SqL K H a xs) : TyX K H (.ref a) (.type "list") := by
  rcases h with (h | ⟨o, h⟩) | ⟨o, its, n, h, hc, _⟩
  · exact .base (.lst h)
  · exact .base (.frz h)
  · exact .kList h hc
theorem ok_isCode {f fS : Addr} {fd fdS : FuncData} (F : Fun K "is_code" "is_code" sIsCode f fd) (T : Glo mg) (FS : Fun K "is_spelled" "is_spelled" sSpelled fS fdS) (bS : Binds K fdS ["value", "low", "high"] []) (gS : mg "is_spelled" = some (.ref fS)) :
    FnOk P w K mg base CX0 2 f fd ["value"] (spIsCode K) := by
  have GS : FnOk P w K mg base CX0 1 fS fdS ["value", "low", "high"] spSpelled := ok_spelled FS T
  refine F.ok scIsCode (fun vs H Q E h => ?_) (fun cdv A outer s H vs Q E hr h => ?_)
  · obtain ⟨c, code, rfl, _⟩ := h
    rfl
  · obtain ⟨c, code, rfl, hC, ok, q⟩ := h
    obtain ⟨t6, h6⟩ := T.mostWordsC
    obtain ⟨t5, h5⟩ := T.longest
    have hlen : (code.map Sv).length = code.length := List.length_map _
    have hfew := ok.few
    refine ⟨_, pss_cons (ps_if (PW.pt (pw_or (pt_not (pt_val (pe_callB call_isi (by rfl) T.isinstance boot_isinstance (pa_cons (pv 0) (pa_cons (pe_bltn (v := .ty "tuple") (by rfl) T.tuple boot_tuple rfl) pa_nil)))))
        (pw_or1 (pt_cmpR op_gt (pe_callB call_len_seq (by rfl) T.len PySem.boot_len (pa_cons (pv 0) pa_nil)) (pe_glob (v := .int 6) (by rfl) h6 ⟨_, rfl⟩) (nomark _)))))
        (pss_one (ps_ret pe_bl)) pss_nil)
      (pss_cons (ps_if (pt_not (pt_val (pe_callB (cr_all rfl) (by rfl) T.all boot_all (pa_cons
          (pe_lc (own := [("word", 1)]) (g := gName 1) (tt := tYes) rfl scIsCode.nd (pi_tup (pv 0)) (blkOk_by (N := nIsCode) (sc := defScope sIsCode) (by decide +kernel))
            (fun _ _ _ _ _ => pg_name (i := 1) scIsCode.nd rfl (Or.inl rfl)) (fun _ _ _ _ _ => pts_nil)
            (fun _ _ _ _ _ => pe_call GS hr (by rfl) gS FS.kp bS .nil pass0 (pa_cons (pv 1) (pa_cons pe_int (pa_cons (pe_glob (v := .int 5) (by rfl) h5 ⟨_, rfl⟩) pa_nil))))) pa_nil))))
        (pss_one (ps_ret pe_bl)) pss_nil)
      (pss_one (ps_ret (pe_callB (cr_all rfl) (by rfl) T.all boot_all (pa_cons
          (pe_lc (own := [("word", 1), ("at", 2)]) (g := gTup K 2 (gCons (gName 2) (gCons (gName 1) gNil))) (tt := tYes) rfl scIsCode.nd (pi_enumT (by rfl) T.enumerate (pa_cons (pv 0) pa_nil)) (blkOk_by (N := nIsCode) (sc := defScope sIsCode) (by decide +kernel))
            (fun _ _ _ _ _ => pg_tup rfl (pgs_cons (pg_name (i := 2) scIsCode.nd rfl (.inl rfl)) (pgs_cons (pg_name (i := 1) scIsCode.nd rfl (.inl rfl)) pgs_nil))) (fun _ _ _ _ _ => pts_nil)
            (fun _ _ _ _ _ => pe_cmpR (r := rIn K true) op_notIn_seq (pv 1) (pe_slice (r := rSlA K) sl_tupA (pv 0) po_none (po_some (pv 2))) (by rfl))) pa_nil))))), ?_⟩
    refine ⟨.ref c, rfl, _, _, _, _, true, rfl, .ty _, tyx_tup hC, kit_ty (by decide +kernel), _, rfl, iteF ?_⟩
    refine ⟨.ref c, rfl, c, _, rfl, .inr hC, _, _, rfl, rfl, _, rfl, iteDF (by rw [hlen]; omega) ?_⟩
    refine ⟨.ref c, rfl, c, rfl, ⟨_, hC⟩, fun D hD => lc_all walk_tup hD (code.map fun _ => true) (by simp) (small_lt (by rw [hlen]; omega)) (fun H1 s1 => Same.tup s1 hC) (fun i x H1 H2 k hi s1 y hk => ?_) fun H1 s1 e1 => ⟨D, _, rfl, SqL.of e1, ?_⟩⟩
    · obtain ⟨rfl, hx⟩ := y
      obtain ⟨z, e, rfl⟩ := map_at hx
      exact ⟨rfl, _, rfl, z, rfl, ok.word z (List.mem_of_getElem? e), fun H3 s3 => hk true H3 (at_map e) s3⟩
    · refine ⟨true, by rw [all_true], iteF ?_⟩
      have hC1 := Same.tup s1 hC
      refine ⟨.ref c, rfl, c, _, rfl, hC1, fun D hD => lc_all walk_enumT hD (code.map fun _ => true) (by simp) (small_lt (by rw [hlen]; omega)) (fun H2 s2 => Same.tup s2 hC1) (fun i x H2 H3 k hi s2 y hk => ?_) fun H2 s2 e2 => ⟨D, _, rfl, SqL.of e2, ?_⟩⟩
      · obtain ⟨A1, x1, x2, rfl, hA, rfl, ex1, hx⟩ := y
        cases ex1
        obtain ⟨z, e, rfl⟩ := map_at hx
        have s3 : Same H2 (upd H2 A1 (.tup [.int (i : Nat), Sv z])) := same_upd hA
        refine ⟨A1, _, rfl, SqT.of upd_same, rfl, _, _, rfl, _, _, rfl, rfl, rfl, ?_⟩
        refine ⟨Sv z, rfl, .ref c, rfl, _, rfl, _, rfl, slA (Same.tup s3 (Same.tup s2 hC1)) fun p H4 s4 hp => ?_⟩
        rw [cut_take, ← List.map_take] at hp
        have nz : z ∉ code.take i := fun hz => by
          obtain ⟨j, hj, ej⟩ := List.mem_iff_getElem.mp hz
          rw [List.length_take] at hj
          rw [List.getElem_take] at ej
          obtain ⟨hi2, ei⟩ := List.getElem?_eq_some_iff.mp e
          have := (List.getElem_inj ok.nd).mp (ej.trans ei.symm)
          omega
        refine ⟨p, _, rfl, .inr hp, rfl, flat_sv _, ?_⟩
        show k (.bl (!inV (Sv z) ((code.take i).map Sv))) H4
        rw [in_sv, decide_eq_false nz]
        exact hk true H4 (at_map e) (s3.trans s4)
      · rw [all_true]
        exact q H2 (s1.trans s2)
/-! ### check_code -/
def spCheck (K : PySem.W.Frag) : Sp := fun vs H Q _ => ∃ (c : Addr) (code : List S), vs = [.ref c] ∧ SqT K H c (code.map Sv) ∧ CodeOk code ∧ ∀ H', Same H H' → Q .non H'
theorem scCheck : FnScope ["value"] ["value"] (defScope sCheck) := ⟨rfl, rfl, rfl, by decide +kernel, rfl, by decide +kernel, by decide +kernel⟩
theorem ok_check {f fI : Addr} {fd fdI : FuncData} (F : Fun K "check_code" "check_code" sCheck f fd) (GI : FnOk P w K mg base CX0 2 fI fdI ["value"] (spIsCode K)) (kpI : PySem.W.keepIn K (.ref fI) = true) (bI : Binds K fdI ["value"] []) (gI : mg "is_code" = some (.ref fI)) :
    FnOk P w K mg base CX0 3 f fd ["value"] (spCheck K) := by
  refine F.ok scCheck (fun vs H Q E h => ?_) (fun cdv A outer s H vs Q E hr h => ?_)
  · obtain ⟨c, code, rfl, _⟩ := h
    rfl
  · obtain ⟨c, code, rfl, hC, ok, q⟩ := h
    refine ⟨_, pss_one (ps_if (pt_not (pt_val (pe_call GI hr (by rfl) gI kpI bI .nil pass0 (pa_cons (pv 0) pa_nil)))) pss_never pss_nil), ?_⟩
    exact ⟨.ref c, rfl, c, code, rfl, hC, ok, fun H1 s1 => ⟨true, rfl, iteF (q H1 s1)⟩⟩
end
end K11
set_option Elab.async false
set_option linter.all false
set_option maxRecDepth 100000
set_option maxHeartbeats 2000000
namespace K11
open PySem PySem.Spec PyProof.Rows L2

/-! ### lists of tuples that grow -/
def RowsAt (K : PySem.W.Frag) (H : Hp) (p : Addr) (rows : List (List V)) : Prop := ∃ as : List Addr, H p = some (.lst (as.map V.ref)) ∧ as.length = rows.length ∧ ∀ (i : Nat) (a : Addr) (r : List V), as[i]? = some a → rows[i]? = some r → SqT K H a r
theorem RowsAt.rows {K : PySem.W.Frag} {H : Hp} {p : Addr} {rows : List (List V)} (h : RowsAt K H p rows) : Rows K H p rows := by
  obtain ⟨as, h1, h2, h3⟩ := h
  exact ⟨as, SqL.of h1, h2, h3⟩
theorem RowsAt.same {K : PySem.W.Frag} {H H' : Hp} {p : Addr} {rows : List (List V)} (s : Same H H') (h : RowsAt K H p rows) : RowsAt K H' p rows := by
  obtain ⟨as, h1, h2, h3⟩ := h
  exact ⟨as, s _ _ h1, h2, fun i a r e1 e2 => Same.tup s (h3 i a r e1 e2)⟩
theorem sqT_upd {K : PySem.W.Frag} {H : Hp} {p a : Addr} {r : List V} {o : HO} (hp : Mut (H p)) (h : SqT K H a r) : SqT K (upd H p o) a r := by
  have ne : ∀ u, H a = some u → ¬ Mut (some u) → a ≠ p := fun u e n z => n (by rw [← e, z]; exact hp)
  rcases h with (h | ⟨u, h⟩) | h
  · exact .inl (.inl (by rw [upd_ne (ne _ h fun z => z)]; exact h))
  · exact .inl (.inr ⟨u, by rw [upd_ne (ne _ h fun z => z)]; exact h⟩)
  · exact .inr h
theorem sqT_put {K : PySem.W.Frag} {H : Hp} {p a : Addr} {xs r : List V} {o : HO} (hp : H p = some (.lst xs)) (h : SqT K H a r) : SqT K (upd H p o) a r := sqT_upd (by rw [hp]; exact True.intro) h
theorem RowsAt.chg {K : PySem.W.Frag} {H : Hp} {p q : Addr} {rows : List (List V)} {o : HO} (hq : Mut (H q)) (ne : p ≠ q) (h : RowsAt K H p rows) : RowsAt K (upd H q o) p rows := by
  obtain ⟨as, h1, h2, h3⟩ := h
  exact ⟨as, by rw [upd_ne ne]; exact h1, h2, fun i a r e1 e2 => sqT_upd hq (h3 i a r e1 e2)⟩
theorem RowsAt.get {K : PySem.W.Frag} {H : Hp} {p : Addr} {rows : List (List V)} (h : RowsAt K H p rows) {as : List Addr} (e : H p = some (.lst (as.map V.ref))) : as.length = rows.length ∧ ∀ (i : Nat) (a : Addr), as[i]? = some a → ∃ r, rows[i]? = some r ∧ SqT K H a r := by
  obtain ⟨bs, h1, h2, h3⟩ := h
  have e2 : as = bs := by
    have := HO.lst.inj (Option.some.inj (e.symm.trans h1))
    exact List.map_inj_right (fun x y z => V.ref.inj z) |>.mp this
  subst e2
  refine ⟨h2, fun i a ha => ?_⟩
  have hi : i < rows.length := by rw [← h2]; exact (List.getElem?_eq_some_iff.mp ha).1
  exact ⟨rows[i], List.getElem?_eq_getElem hi, h3 i a _ ha (List.getElem?_eq_getElem hi)⟩
theorem RowsAt.push {K : PySem.W.Frag} {H : Hp} {p t : Addr} {rows : List (List V)} {r : List V} (h : RowsAt K H p rows) (ht : SqT K H t r) :
    ∃ xs, H p = some (.lst xs) ∧ xs.length = rows.length ∧ RowsAt K (upd H p (.lst (xs ++ [.ref t]))) p (rows ++ [r]) := by
  obtain ⟨as, h1, h2, h3⟩ := h
  refine ⟨_, h1, by rw [List.length_map]; exact h2, as ++ [t], by rw [upd_same, List.map_append]; rfl, by rw [List.length_append, List.length_append, h2]; rfl, fun i a r' e1 e2 => ?_⟩
  rw [List.getElem?_append] at e1 e2
  by_cases hi : i < as.length
  · rw [if_pos hi] at e1
    rw [if_pos (h2 ▸ hi)] at e2
    exact sqT_put h1 (h3 i a r' e1 e2)
  · rw [if_neg hi] at e1
    rw [if_neg (h2 ▸ hi), ← h2] at e2
    cases e : i - as.length with
    | zero =>
      rw [e] at e1 e2
      cases e1
      cases e2
      exact sqT_put h1 ht
    | succ k =>
      rw [e] at e1
      cases e1
theorem rowsAt_nil {K : PySem.W.Frag} {H : Hp} {p : Addr} (h : H p = some (.lst [])) : RowsAt K H p [] := ⟨[], h, rfl, fun i a r e _ => by simp at e⟩
theorem take_flat {α β : Type} {l : List α} {i : Nat} {x : α} (f : α → List β) (h : l[i]? = some x) : (l.take (i + 1)).flatMap f = (l.take i).flatMap f ++ f x := by
  rw [List.take_add_one, h, List.flatMap_append]
  simp
theorem idx_at {code : List S} {i : Nat} {w : S} (h : code[i]? = some w) : code.zipIdx[i]? = some (w, i) := by
  rw [List.getElem?_zipIdx, h]
  simp
theorem flat_le {α β : Type} (f : α → List β) (hf : ∀ x, (f x).length ≤ 1) (l : List α) (i : Nat) : ((l.take i).flatMap f).length ≤ l.length := by
  have h := len_flatMap_le f 1 (l.take i) fun x _ => hf x
  rw [List.length_take] at h
  omega

/-! ### what comes from two words -/
def prT (q p : S × Nat) : List (Nat × Nat × S) := (prW q.2 q.1 p).map fun m => (q.2, p.2, m)
def firstT (code : List S) : List (Nat × Nat × S) := code.zipIdx.flatMap fun q => code.zipIdx.flatMap (prT q)
theorem firstT_rest (code : List S) : (firstT code).map (·.2.2) = pairs code := by
  unfold firstT pairs
  rw [List.map_flatMap]
  congr 1
  funext q
  rw [List.map_flatMap]
  congr 1
  funext p
  unfold prT
  rw [List.map_map]
  exact List.map_id _
theorem prT_len (q p : S × Nat) : (prT q p).length ≤ 1 := by
  unfold prT prW
  split <;> simp
abbrev r3 (t : Nat × Nat × S) : List V := [Iv t.1, Iv t.2.1, Sv t.2.2]
theorem firstT_len (code : List S) (h : code.length ≤ 6) : (firstT code).length ≤ 36 := by
  have := len_pairs code
  have e := congrArg List.length (firstT_rest code)
  rw [List.length_map] at e
  have : code.length * code.length ≤ 6 * 6 := Nat.mul_le_mul h h
  omega
def onT (rest : S) (p : S × Nat) : List (Nat × Bool × S) := (onW rest p.1).map fun m => (p.2, !(p.1.isPrefixOf rest), m)
def stepT (code : List S) (rest : S) : List (Nat × Bool × S) := code.zipIdx.flatMap (onT rest)
theorem stepT_rest (code : List S) (rest : S) : (stepT code rest).map (·.2.2) = on code rest := by
  unfold stepT on
  rw [List.map_flatMap]
  have e : ∀ (l : List S) (n : Nat), (l.zipIdx n).flatMap (fun p => (onT rest p).map (·.2.2)) = l.flatMap (onW rest) := by
    intro l
    induction l with
    | nil => intro n; rfl
    | cons x l ih =>
      intro n
      rw [List.zipIdx_cons, List.flatMap_cons, List.flatMap_cons, ih]
      congr 1
      unfold onT
      rw [List.map_map]
      exact List.map_id _
  exact e code 0
theorem onT_len (rest : S) (p : S × Nat) : (onT rest p).length ≤ 1 := by
  unfold onT onW
  split
  · simp
  · split <;> simp
abbrev r3b (t : Nat × Bool × S) : List V := [Iv t.1, .bl t.2.1, Sv t.2.2]
theorem stepT_len (code : List S) (rest : S) : (stepT code rest).length ≤ code.length := by
  have h := flat_le (onT rest) (onT_len rest) code.zipIdx code.zipIdx.length
  rw [List.take_of_length_le (Nat.le_refl _), List.length_zipIdx] at h
  exact h
section
variable {P : Program} {w : World} {K : PySem.W.Frag} {mg : Str → Option Value} {base : Heap}

/-! ### first_steps -/
abbrev nFirst : List Str := ["code", "found", "one", "word", "other", "part"]
def spFirst (K : PySem.W.Frag) : Sp := fun vs H Q _ => ∃ (c : Addr) (code : List S), vs = [.ref c] ∧ SqT K H c (code.map Sv) ∧ code.length ≤ 6 ∧ (∀ w ∈ code, w.length ≤ 5) ∧ ∀ H' p, Same H H' → H p = none → RowsAt K H' p ((firstT code).map r3) → Q (.ref p) H'
theorem scFirst : FnScope nFirst ["code"] (defScope sFirst) := ⟨rfl, rfl, rfl, by decide +kernel, rfl, by decide +kernel, by decide +kernel⟩
theorem ok_first {f : Addr} {fd : FuncData} (F : Fun K "first_steps" "first_steps" sFirst f fd) (T : Glo mg) : FnOk P w K mg base CX0 1 f fd ["code"] (spFirst K) := by
  refine F.ok scFirst (fun vs H Q E h => ?_) (fun cdv A outer s H vs Q E hr h => ?_)
  · obtain ⟨c, code, rfl, _⟩ := h
    rfl
  · obtain ⟨c, code, rfl, hC, hfew, hw, q⟩ := h
    have hlen : (code.map Sv).length = code.length := List.length_map _
    refine ⟨_, pss_cons (ps_set (i := 1) scFirst.nd rfl (.inl rfl) (pe_lst pa_nil))
      (pss_cons (ps_for PassesOwn.never rfl (pi_enumT (by rfl) T.enumerate (pa_cons (pv 0) pa_nil)) (pg_tup rfl (pgs_cons (pg_name (i := 2) scFirst.nd rfl (.inl rfl)) (pgs_cons (pg_name (i := 3) scFirst.nd rfl (.inl rfl)) pgs_nil)))
        (pss_one (ps_for PassesOwn.never rfl (pi_enumT (by rfl) T.enumerate (pa_cons (pv 0) pa_nil)) (pg_tup rfl (pgs_cons (pg_name (i := 4) scFirst.nd rfl (.inl rfl)) (pgs_cons (pg_name (i := 5) scFirst.nd rfl (.inl rfl)) pgs_nil)))
          (pss_one (ps_if (PW.pt (pw_and (pt_cmpR op_ne (pv 4) (pv 2) (nomark _)) (pw_and1 (pt_val (pe_m1 PySem.F.slot_str_startswith PySem.F.type_str_startswith mt_startswith (pv 3) (pv 5))))))
            (pss_one (ps_expr (pe_bm PySem.F.plainAttrs_list PySem.F.slot_list_append PySem.F.type_list_append mt_append (pv 1) (pa_cons (pe_tup (pa_cons (pv 2) (pa_cons (pv 4) (pa_cons
              (pe_slice sl_str (pv 3) (po_some (pe_callB call_len_str (by rfl) T.len PySem.boot_len (pa_cons (pv 5) pa_nil))) po_none) pa_nil)))) pa_nil)))) pss_nil)))))
      (pss_one (ps_ret (pv 1)))), ?_⟩
    refine ⟨Nat.zero_le _, fun o no => ?_⟩
    have s0 : Same H (upd H o (.lst [])) := same_upd no
    refine ⟨.ref c, rfl, c, _, rfl, Same.tup s0 hC, for_it walk_enumT (fun i σ H1 => ∃ y2 y3 y4 y5, σ = [some (.ref c), some (.ref o), y2, y3, y4, y5] ∧ Same H H1 ∧ RowsAt K H1 o (((code.zipIdx.take i).flatMap fun q => code.zipIdx.flatMap (prT q)).map r3))
      ⟨none, none, none, none, rfl, s0, rowsAt_nil upd_same⟩ (fun i σ H1 _ ⟨_, _, _, _, _, s1, _⟩ => Same.tup s1 hC) ?_ ?_⟩
    · rintro i x σ H1 H2 hi ⟨y2, y3, y4, y5, rfl, s1, R1⟩ ⟨A1, x1, x2, rfl, hA, rfl, ex1, hx⟩
      cases ex1
      obtain ⟨z, ez, rfl⟩ := map_at hx
      have s2 := same_upd (o := .tup [.int (i : Nat), Sv z]) hA
      refine ⟨A1, _, rfl, SqT.of upd_same, rfl, _, _, rfl, _, _, rfl, rfl, ?_⟩
      have s3 := s1.trans s2
      refine ⟨.ref c, rfl, c, _, rfl, Same.tup s3 hC, for_it walk_enumT (fun j σ H3 => ∃ y4 y5, σ = [some (.ref c), some (.ref o), some (Iv i), some (Sv z), y4, y5] ∧ Same H H3 ∧
          RowsAt K H3 o (((code.zipIdx.take i).flatMap fun q => code.zipIdx.flatMap (prT q)).map r3 ++ ((code.zipIdx.take j).flatMap (prT (z, i))).map r3))
        ⟨y4, y5, rfl, s3, by simpa using RowsAt.same s2 R1⟩ (fun j σ H3 _ ⟨_, _, _, s4, _⟩ => Same.tup s4 hC) ?_ ?_⟩
      · rintro j x σ H3 H4 hj ⟨y4, y5, rfl, s4, R4⟩ ⟨A2, x1, x2, rfl, hA2, rfl, ex1, hx⟩
        cases ex1
        obtain ⟨p, ep, rfl⟩ := map_at hx
        have s5 := same_upd (o := .tup [.int (j : Nat), Sv p]) hA2
        refine ⟨A2, _, rfl, SqT.of upd_same, rfl, _, _, rfl, _, _, rfl, rfl, ?_⟩
        have s6 := s4.trans s5
        have R6 := RowsAt.same s5 R4
        obtain ⟨as, h6, hl6, _⟩ := id R6
        have hrow : (((code.zipIdx.take i).flatMap fun q => code.zipIdx.flatMap (prT q)).map r3 ++ ((code.zipIdx.take j).flatMap (prT (z, i))).map r3).length ≤ 72 := by
          have h1 : ((code.zipIdx.take i).flatMap fun q => code.zipIdx.flatMap (prT q)).length ≤ 6 * 6 := by
            have a := len_flatMap_le (fun q => code.zipIdx.flatMap (prT q)) 6 (code.zipIdx.take i) fun q _ => by
              have b := flat_le (prT q) (prT_len q) code.zipIdx code.zipIdx.length
              rw [List.take_of_length_le (Nat.le_refl _), List.length_zipIdx] at b
              omega
            rw [List.length_take, List.length_zipIdx] at a
            have c := Nat.mul_le_mul (show min i code.length ≤ 6 by omega) (Nat.le_refl 6)
            omega
          have h2 := flat_le (prT (z, i)) (prT_len (z, i)) code.zipIdx j
          rw [List.length_zipIdx] at h2
          rw [List.length_append, List.length_map, List.length_map]
          omega
        have step : ∀ ts, prT (z, i) (p, j) = ts → ((code.zipIdx.take i).flatMap fun q => code.zipIdx.flatMap (prT q)).map r3 ++ ((code.zipIdx.take (j + 1)).flatMap (prT (z, i))).map r3 =
            (((code.zipIdx.take i).flatMap fun q => code.zipIdx.flatMap (prT q)).map r3 ++ ((code.zipIdx.take j).flatMap (prT (z, i))).map r3) ++ ts.map r3 := fun ts e => by
          rw [take_flat (prT (z, i)) (idx_at ep), e, List.map_append, List.append_assoc]
        have stay : prT (z, i) (p, j) = [] → RowsAt K (upd H3 A2 (.tup [.int (j : Nat), Sv p])) o (((code.zipIdx.take i).flatMap fun q => code.zipIdx.flatMap (prT q)).map r3 ++ ((code.zipIdx.take (j + 1)).flatMap (prT (z, i))).map r3) := fun e => by
          rw [step _ e]
          simpa using R6
        have hzl : (mk z).length ≤ sizeLine := small_line (by rw [mk_len]; have := hw z (List.mem_of_getElem? ez); omega)
        have hpl : (mk p).length ≤ sizeLine := small_line (by rw [mk_len]; have := hw p (List.mem_of_getElem? ep); omega)
        refine ⟨_, rfl, _, rfl, rfl, _, rfl, ?_⟩
        by_cases hji : j = i
        · subst hji
          exact iteNS rfl (iteF ⟨_, _, rfl, s6, stay (by unfold prT prW; rw [if_neg (by simp)]; rfl)⟩)
        · refine iteNT (fun e => hji (Int.ofNat.inj (V.int.inj e))) ⟨_, rfl, ⟨_, rfl⟩, _, rfl, _, _, rfl, rfl, _, rfl, ?_⟩
          show if Txt.startswith (mk z) (mk p) = true then _ else _
          rw [starts]
          cases hpz : p.isPrefixOf z with
          | false => exact iteF ⟨_, _, rfl, s6, stay (by unfold prT prW; rw [if_neg (by simp [hpz])]; rfl)⟩
          | true =>
            refine iteT ⟨_, rfl, .inl ⟨rfl, _, SqL.of h6⟩, _, rfl, _, rfl, _, rfl, _, rfl, _, rfl, hpl, _, rfl, _, rfl, hzl, small_line (by show 3 ≤ 100000; decide), fun t ht => ?_⟩
            have s7 := same_upd (o := .tup [Iv i, Iv j, .str (cutS (mk z) (some ((mk p).length : Int)) none)]) ht
            have ec : cutS (mk z) (some ((mk p).length : Int)) none = mk (z.drop p.length) := by
              rw [mk_len]
              exact cut_from z _
            obtain ⟨xs, hx, hxl, R8⟩ := RowsAt.push (RowsAt.same s7 R6) (t := t) (r := r3 (i, j, z.drop p.length)) (by
              show SqT K _ t [Iv i, Iv j, .str (mk (z.drop p.length))]
              rw [← ec]
              exact SqT.of upd_same)
            refine ⟨o, xs, .ref t, rfl, rfl, hx, small_lt (by omega), _, _, rfl, same_put (s6.trans s7) no, ?_⟩
            rw [step [(i, j, z.drop p.length)] (by unfold prT prW; rw [if_pos ⟨hji, hpz⟩]; rfl)]
            exact R8
      · rintro σ H3 ⟨y4, y5, rfl, s4, R4⟩
        refine ⟨_, _, _, _, rfl, s4, ?_⟩
        rw [hlen, ← List.length_zipIdx (l := code) (i := 0), List.take_of_length_le (Nat.le_refl _), ← List.map_append] at R4
        rw [take_flat (fun q => code.zipIdx.flatMap (prT q)) (idx_at ez)]
        exact R4
    · rintro σ H1 ⟨y2, y3, y4, y5, rfl, s1, R1⟩
      rw [hlen, ← List.length_zipIdx (l := code) (i := 0), List.take_of_length_le (Nat.le_refl _)] at R1
      exact ⟨.ref o, rfl, q H1 o s1 no R1⟩

/-! ### steps_from -/
abbrev nSteps : List Str := ["code", "rest", "found", "number", "word"]
def spSteps (K : PySem.W.Frag) : Sp := fun vs H Q _ => ∃ (c : Addr) (code : List S) (rest : S), vs = [.ref c, Sv rest] ∧ SqT K H c (code.map Sv) ∧ code.length ≤ 6 ∧ (∀ w ∈ code, w.length ≤ 5) ∧ rest.length ≤ 1000 ∧
  ∀ H' p, Same H H' → H p = none → RowsAt K H' p ((stepT code rest).map r3b) → Q (.ref p) H'
theorem scSteps : FnScope nSteps ["code", "rest"] (defScope sSteps) := ⟨rfl, rfl, rfl, by decide +kernel, rfl, by decide +kernel, by decide +kernel⟩
theorem ok_steps {f : Addr} {fd : FuncData} (F : Fun K "steps_from" "steps_from" sSteps f fd) (T : Glo mg) : FnOk P w K mg base CX0 1 f fd ["code", "rest"] (spSteps K) := by
  refine F.ok scSteps (fun vs H Q E h => ?_) (fun cdv A outer s H vs Q E hr h => ?_)
  · obtain ⟨c, code, rest, rfl, _⟩ := h
    rfl
  · obtain ⟨c, code, rest, rfl, hC, hfew, hw, hrl, q⟩ := h
    have hlen : (code.map Sv).length = code.length := List.length_map _
    refine ⟨_, pss_cons (ps_set (i := 2) scSteps.nd rfl (.inl rfl) (pe_lst pa_nil))
      (pss_cons (ps_for PassesOwn.never rfl (pi_enumT (by rfl) T.enumerate (pa_cons (pv 0) pa_nil)) (pg_tup rfl (pgs_cons (pg_name (i := 3) scSteps.nd rfl (.inl rfl)) (pgs_cons (pg_name (i := 4) scSteps.nd rfl (.inl rfl)) pgs_nil)))
        (pss_one (ps_if (pt_val (pe_m1 PySem.F.slot_str_startswith PySem.F.type_str_startswith mt_startswith (pv 1) (pv 4)))
            (pss_one (ps_expr (pe_bm PySem.F.plainAttrs_list PySem.F.slot_list_append PySem.F.type_list_append mt_append (pv 2) (pa_cons (pe_tup (pa_cons (pv 3) (pa_cons pe_bl (pa_cons
              (pe_slice sl_str (pv 1) (po_some (pe_callB call_len_str (by rfl) T.len PySem.boot_len (pa_cons (pv 4) pa_nil))) po_none) pa_nil)))) pa_nil))))
            (pss_one (ps_if (pt_val (pe_m1 PySem.F.slot_str_startswith PySem.F.type_str_startswith mt_startswith (pv 4) (pv 1)))
              (pss_one (ps_expr (pe_bm PySem.F.plainAttrs_list PySem.F.slot_list_append PySem.F.type_list_append mt_append (pv 2) (pa_cons (pe_tup (pa_cons (pv 3) (pa_cons pe_bl (pa_cons
                (pe_slice sl_str (pv 4) (po_some (pe_callB call_len_str (by rfl) T.len PySem.boot_len (pa_cons (pv 1) pa_nil))) po_none) pa_nil)))) pa_nil)))) pss_nil)))))
      (pss_one (ps_ret (pv 2)))), ?_⟩
    refine ⟨Nat.zero_le _, fun o no => ?_⟩
    have s0 : Same H (upd H o (.lst [])) := same_upd no
    refine ⟨.ref c, rfl, c, _, rfl, Same.tup s0 hC, for_it walk_enumT (fun i σ H1 => ∃ y3 y4, σ = [some (.ref c), some (Sv rest), some (.ref o), y3, y4] ∧ Same H H1 ∧ RowsAt K H1 o (((code.zipIdx.take i).flatMap (onT rest)).map r3b))
      ⟨none, none, rfl, s0, rowsAt_nil upd_same⟩ (fun i σ H1 _ ⟨_, _, _, s1, _⟩ => Same.tup s1 hC) ?_ ?_⟩
    · rintro i x σ H3 H4 hi ⟨y3, y4, rfl, s4, R4⟩ ⟨A2, x1, x2, rfl, hA2, rfl, ex1, hx⟩
      cases ex1
      obtain ⟨p, ep, rfl⟩ := map_at hx
      have s5 := same_upd (o := .tup [.int (i : Nat), Sv p]) hA2
      refine ⟨A2, _, rfl, SqT.of upd_same, rfl, _, _, rfl, _, _, rfl, rfl, ?_⟩
      have s6 := s4.trans s5
      have R6 := RowsAt.same s5 R4
      obtain ⟨as, h6, hl6, _⟩ := id R6
      have hrow : (((code.zipIdx.take i).flatMap (onT rest)).map r3b).length ≤ 6 := by
        have h2 := flat_le (onT rest) (onT_len rest) code.zipIdx i
        rw [List.length_zipIdx] at h2
        rw [List.length_map]
        omega
      have step : ∀ ts, onT rest (p, i) = ts → ((code.zipIdx.take (i + 1)).flatMap (onT rest)).map r3b = ((code.zipIdx.take i).flatMap (onT rest)).map r3b ++ ts.map r3b := fun ts e => by
        rw [take_flat (onT rest) (idx_at ep), e, List.map_append]
      have hzl : (mk rest).length ≤ sizeLine := small_line (by rw [mk_len]; omega)
      have hpl : (mk p).length ≤ sizeLine := small_line (by rw [mk_len]; have := hw p (List.mem_of_getElem? ep); omega)
      -- the new tuple and the longer list
      have fin : ∀ (b : Bool) (x y : S), onT rest (p, i) = [(i, b, x.drop y.length)] → ∀ (t : Addr), upd H3 A2 (.tup [.int (i : Nat), Sv p]) t = none →
          ∃ xs, (upd (upd H3 A2 (.tup [.int (i : Nat), Sv p])) t (.tup [Iv i, .bl b, .str (cutS (mk x) (some ((mk y).length : Int)) none)])) o = some (.lst xs) ∧ xs.length < sizeLine ∧
            Same H (upd (upd (upd H3 A2 (.tup [.int (i : Nat), Sv p])) t (.tup [Iv i, .bl b, .str (cutS (mk x) (some ((mk y).length : Int)) none)])) o (.lst (xs ++ [.ref t]))) ∧
            RowsAt K (upd (upd (upd H3 A2 (.tup [.int (i : Nat), Sv p])) t (.tup [Iv i, .bl b, .str (cutS (mk x) (some ((mk y).length : Int)) none)])) o (.lst (xs ++ [.ref t]))) o (((code.zipIdx.take (i + 1)).flatMap (onT rest)).map r3b) := by
        intro b x y e t ht
        have s7 := same_upd (o := .tup [Iv i, .bl b, .str (cutS (mk x) (some ((mk y).length : Int)) none)]) ht
        have ec : cutS (mk x) (some ((mk y).length : Int)) none = mk (x.drop y.length) := by
          rw [mk_len]
          exact cut_from x _
        obtain ⟨xs, hx, hxl, R8⟩ := RowsAt.push (RowsAt.same s7 R6) (t := t) (r := r3b (i, b, x.drop y.length)) (by
          show SqT K _ t [Iv i, .bl b, .str (mk (x.drop y.length))]
          rw [← ec]
          exact SqT.of upd_same)
        refine ⟨xs, hx, small_lt (by omega), same_put (s6.trans s7) no, ?_⟩
        rw [step _ e]
        exact R8
      refine ⟨_, rfl, ⟨_, rfl⟩, _, rfl, _, _, rfl, rfl, _, rfl, ?_⟩
      show if Txt.startswith (mk rest) (mk p) = true then _ else _
      rw [starts]
      cases h1 : p.isPrefixOf rest with
      | true =>
        refine iteT ⟨_, rfl, .inl ⟨rfl, _, SqL.of h6⟩, _, rfl, _, rfl, _, rfl, _, rfl, hpl, _, rfl, _, rfl, hzl, small_line (by show 3 ≤ 100000; decide), fun t ht => ?_⟩
        obtain ⟨xs, hx, hxl, s8, R8⟩ := fin false rest p (by unfold onT onW; rw [if_pos h1, h1]; rfl) t ht
        exact ⟨o, xs, .ref t, rfl, rfl, hx, hxl, _, _, rfl, s8, R8⟩
      | false =>
        refine iteF ⟨_, rfl, ⟨_, rfl⟩, _, rfl, _, _, rfl, rfl, _, rfl, ?_⟩
        show if Txt.startswith (mk p) (mk rest) = true then _ else _
        rw [starts]
        cases h2 : rest.isPrefixOf p with
        | true =>
          refine iteT ⟨_, rfl, .inl ⟨rfl, _, SqL.of h6⟩, _, rfl, _, rfl, _, rfl, _, rfl, hzl, _, rfl, _, rfl, hpl, small_line (by show 3 ≤ 100000; decide), fun t ht => ?_⟩
          obtain ⟨xs, hx, hxl, s8, R8⟩ := fin true p rest (by unfold onT onW; rw [if_neg (by rw [h1]; decide), if_pos h2, h1]; rfl) t ht
          exact ⟨o, xs, .ref t, rfl, rfl, hx, hxl, _, _, rfl, s8, R8⟩
        | false =>
          refine iteF ⟨_, _, rfl, s6, ?_⟩
          rw [step [] (by unfold onT onW; rw [if_neg (by rw [h1]; decide), if_neg (by rw [h2]; decide)]; rfl)]
          simpa using R6
    · rintro σ H1 ⟨y3, y4, rfl, s1, R1⟩
      rw [hlen, ← List.length_zipIdx (l := code) (i := 0), List.take_of_length_le (Nat.le_refl _)] at R1
      exact ⟨.ref o, rfl, q H1 o s1 no R1⟩
end
end K11
set_option Elab.async false
set_option linter.all false
set_option maxRecDepth 100000
set_option maxHeartbeats 4000000
namespace K11
open PySem PySem.Spec PyProof.Rows L2

/-! ### dicts of texts, all True -/
def dicS (rs : List S) : List (Key × V) := rs.map fun r => (Sum.inr (mk r), .bl true)
theorem dicS_len (rs : List S) : (dicS rs).length = rs.length := List.length_map _
theorem key_mk {a b : S} : (Sum.inr (mk a) : Key) = Sum.inr (mk b) ↔ a = b := ⟨fun h => mk_inj (Sum.inr.inj h), fun h => by rw [h]⟩
theorem valV_dicS (r : S) : ∀ rs : List S, valV (dicS rs) (Sum.inr (mk r) : Key) = if r ∈ rs then some (.bl true) else none
  | [] => rfl
  | x :: rs => by
    have ih := valV_dicS r rs
    unfold valV dicS at ih ⊢
    rw [List.map_cons, List.find?_cons]
    by_cases h : x = r
    · subst h
      simp
    · have e : decide ((Sum.inr (mk x) : Key) = Sum.inr (mk r)) = false := decide_eq_false fun z => h (key_mk.mp z)
      rw [e]
      have e2 : (r ∈ x :: rs) ↔ r ∈ rs := by
        rw [List.mem_cons]
        exact ⟨fun z => z.elim (fun z => absurd z.symm h) id, .inr⟩
      simp only [e2]
      exact ih
theorem putK_dicS (rs : List S) (r : S) : putK (dicS rs) (Sum.inr (mk r) : Key) (.bl true) = dicS (addNew rs r) := by
  have hv := valV_dicS r rs
  unfold addNew
  by_cases h : r ∈ rs
  · rw [if_pos h] at hv ⊢
    have any : (dicS rs).any (fun kv => decide (kv.1 = (Sum.inr (mk r) : Key))) = true := by
      rw [List.any_eq_true]
      exact ⟨(Sum.inr (mk r), .bl true), List.mem_map.mpr ⟨r, h, rfl⟩, by simp⟩
    unfold putK
    rw [if_pos any]
    have : ∀ kv ∈ dicS rs, (if kv.1 = (Sum.inr (mk r) : Key) then (kv.1, V.bl true) else kv) = kv := by
      intro kv hkv
      obtain ⟨x, _, rfl⟩ := List.mem_map.mp hkv
      by_cases e : (Sum.inr (mk x) : Key) = Sum.inr (mk r)
      · rw [if_pos e]
      · rw [if_neg e]
    calc (dicS rs).map _ = (dicS rs).map id := List.map_congr_left this
      _ = dicS rs := List.map_id _
  · rw [if_neg h] at hv ⊢
    rw [putK_new _ hv]
    unfold dicS
    rw [List.map_append]
    rfl
theorem addNew_nd {rs : List S} {r : S} (h : rs.Nodup) : (addNew rs r).Nodup := by
  unfold addNew
  by_cases e : r ∈ rs
  · rw [if_pos e]
    exact h
  · rw [if_neg e]
    refine List.nodup_append.mpr ⟨h, List.nodup_cons.mpr ⟨by simp, List.nodup_nil⟩, ?_⟩
    intro a ha b hb z
    rw [List.mem_singleton] at hb
    subst hb
    subst z
    exact e ha
/-- codes with few and short words -/
structure Small (code : List S) : Prop where
  few : code.length ≤ 6
  word : ∀ w ∈ code, w.length ≤ 5
theorem CodeOk.small {code : List S} (h : CodeOk code) : Small code := ⟨h.few, fun w hw => (memS_iff.mp (h.word w hw)).2.1⟩
theorem Small.lenU {code : List S} (h : Small code) : (U code).length ≤ 36 := by
  have := len_U h.word
  have : code.length * 6 ≤ 6 * 6 := Nat.mul_le_mul_right 6 h.few
  omega
theorem Small.rest {code : List S} (h : Small code) {r : S} (hr : r ∈ U code) : r.length ≤ 5 := by
  obtain ⟨w, hw, s⟩ := mem_U.mp hr
  exact Nat.le_trans s.length_le (h.word w hw)
theorem Small.nd {code : List S} (h : Small code) {rs : List S} (hn : rs.Nodup) (hu : ∀ r ∈ rs, r ∈ U code) : rs.length ≤ 36 := Nat.le_trans (nodup_le rs (U code) hn hu) h.lenU
theorem firstT_U {code : List S} {t : Nat × Nat × S} (h : t ∈ firstT code) : t.2.2 ∈ U code := pairs_U (by rw [← firstT_rest]; exact List.mem_map.mpr ⟨t, h, rfl⟩)
theorem stepT_U {code : List S} {r : S} (hr : r ∈ U code) {t : Nat × Bool × S} (h : t ∈ stepT code r) : t.2.2 ∈ U code := on_in_U hr (by rw [← stepT_rest]; exact List.mem_map.mpr ⟨t, h, rfl⟩)
theorem last_at' {α : Type} {l : List α} {x : α} (h : l[l.length - 1]? = some x) : l = l.dropLast ++ [x] := by
  cases l with
  | nil => simp at h
  | cons a t =>
    have e := List.dropLast_concat_getLast (List.cons_ne_nil a t)
    have : (a :: t).getLast (List.cons_ne_nil a t) = x := by
      rw [List.getLast_eq_getElem]
      rw [List.getElem?_eq_getElem (by simp)] at h
      exact Option.some.inj h
    rw [this] at e
    exact e.symm

section
variable {P : Program} {w : World} {K : PySem.W.Frag} {mg : Str → Option Value} {base : Heap}
/-! ### rests_of -/
abbrev nRests : List Str := ["code", "found", "rest", "waiting", "number", "beyond", "more", "one", "other"]
def spRests (K : PySem.W.Frag) : Sp := fun vs H Q _ => ∃ (c : Addr) (code : List S), vs = [.ref c] ∧ SqT K H c (code.map Sv) ∧ Small code ∧ ∀ H' p (ys : List Str), Same H H' → SqL K H' p (ys.map V.str) → ys.length ≤ 64 → Q (.ref p) H'
theorem scRests : FnScope nRests ["code"] (defScope sRests) := ⟨rfl, rfl, rfl, by decide +kernel, rfl, by decide +kernel, by decide +kernel⟩
/-- between two turns of the while -/
structure RInv (K : PySem.W.Frag) (H0 : Hp) (code : List S) (d wl : Addr) (rs ws : List S) (H : Hp) : Prop where
  same : Same H0 H
  dic : H d = some (.dK (dicS rs))
  lst : H wl = some (.lst (ws.map Sv))
  nd : rs.Nodup
  ru : ∀ r ∈ rs, r ∈ U code
  wu : ∀ r ∈ ws, r ∈ U code
  le : ws.length ≤ rs.length
theorem ok_rests {f f1 f2 : Addr} {fd fd1 fd2 : FuncData} (F : Fun K "rests_of" "rests_of" sRests f fd) (T : Glo mg) (F1 : Fun K "first_steps" "first_steps" sFirst f1 fd1) (b1 : Binds K fd1 ["code"] []) (g1 : mg "first_steps" = some (.ref f1))
    (F2 : Fun K "steps_from" "steps_from" sSteps f2 fd2) (b2 : Binds K fd2 ["code", "rest"] []) (g2 : mg "steps_from" = some (.ref f2)) : FnOk P w K mg base CX0 2 f fd ["code"] (spRests K) := by
  have G1 : FnOk P w K mg base CX0 1 f1 fd1 ["code"] (spFirst K) := ok_first F1 T
  have G2 : FnOk P w K mg base CX0 1 f2 fd2 ["code", "rest"] (spSteps K) := ok_steps F2 T
  refine F.ok scRests (fun vs H Q E h => ?_) (fun cdv A outer s H vs Q E hr h => ?_)
  · obtain ⟨c, code, rfl, _⟩ := h
    rfl
  · obtain ⟨c, code, rfl, hC, sm, q⟩ := h
    have hu := hu_of hr
    refine ⟨_, pss_cons (ps_setDc (i := 1) (own := [("one", 7), ("other", 8), ("rest", 2)]) (g := gTup K 3 (gCons (gName 7) (gCons (gName 8) (gCons (gName 2) gNil)))) (tt := tYes) rfl scRests.nd rfl rfl (sw_dict rfl rfl rfl (by decide +kernel))
        (pi_list (pe_call G1 hr (by rfl) g1 F1.kp b1 .nil pass0 (pa_cons (pv 0) pa_nil))) (blkOk_by (N := nRests) (sc := defScope sRests) (by decide +kernel))
        (fun _ _ _ _ _ => pg_tup rfl (pgs_cons (pg_name (i := 7) scRests.nd rfl (.inl rfl)) (pgs_cons (pg_name (i := 8) scRests.nd rfl (.inl rfl)) (pgs_cons (pg_name (i := 2) scRests.nd rfl (.inl rfl)) pgs_nil)))) (fun _ _ _ _ _ => pts_nil) (fun _ _ _ _ _ => pv 2) (fun _ _ _ _ _ => pe_bl))
      (pss_cons (ps_set (i := 3) scRests.nd rfl (.inl rfl) (pe_callTy (call_list_dK rfl) (by rfl) T.list boot_list (pa_cons (pv 1) pa_nil)))
      (pss_cons (ps_while PassesOwn.never (pt_truth (pv 3) (by intro _; rfl))
        (pss_cons (ps_set (i := 2) scRests.nd rfl (.inl rfl) (pe_bm0 PySem.F.plainAttrs_list PySem.F.slot_list_pop PySem.F.type_list_pop mt_pop (pv 3)))
        (pss_one (ps_if (pt_truth (pv 2) (by intro _; rfl))
          (pss_one (ps_for PassesOwn.never rfl (pi_list (pe_call G2 hr (by rfl) g2 F2.kp b2 .nil pass0 (pa_cons (pv 0) (pa_cons (pv 2) pa_nil))))
              (pg_tup rfl (pgs_cons (pg_name (i := 4) scRests.nd rfl (.inl rfl)) (pgs_cons (pg_name (i := 5) scRests.nd rfl (.inl rfl)) (pgs_cons (pg_name (i := 6) scRests.nd rfl (.inl rfl)) pgs_nil))))
            (pss_one (ps_if (pt_cmp (pc_dnotin hu (pv 6) (pv 1)))
              (pss_cons (ps_dput hu (pv 1) (pv 6) pe_bl rfl)
              (pss_one (ps_expr (pe_bm PySem.F.plainAttrs_list PySem.F.slot_list_append PySem.F.type_list_append mt_append (pv 3) (pa_cons (pv 6) pa_nil))))) pss_nil)))) pss_nil))))
      (pss_one (ps_ret (pe_callB (call_sortedD rfl) (by rfl) T.sorted boot_sorted (pa_cons (pv 1) pa_nil)))))), ?_⟩
    -- the dict of the first rests
    refine ⟨.ref c, rfl, c, code, rfl, hC, sm.few, sm.word, fun H1 p s1 np R1 => ⟨p, rfl, (let ⟨as, h, _⟩ := R1; ⟨_, SqL.of h⟩), fun d nd => ?_⟩⟩
    obtain ⟨as, h1, hl1, _⟩ := id R1
    refine dc_it (walk_list (xs := as.map V.ref)) (fun i H2 => Same H1 H2 ∧ ∃ rs : List S, H2 d = some (.dK (dicS rs)) ∧ rs.Nodup ∧ ∀ r ∈ rs, r ∈ U code)
      ⟨same_upd nd, [], upd_same, List.nodup_nil, fun r h => by cases h⟩ (fun i H2 _ h => SqL.of (h.1 _ _ h1)) ?_ ?_
    · rintro i x H2 H3 hi ⟨s2, rs, hd, hn, hU⟩ ⟨rfl, hx⟩
      obtain ⟨a, ha, rfl⟩ := map_at hx
      obtain ⟨r, hr', ht⟩ := (RowsAt.get (RowsAt.same s2 R1) (s2 _ _ h1)).2 i a ha
      obtain ⟨t, ht3, rfl⟩ := map_at hr'
      refine ⟨a, _, rfl, ht, rfl, _, _, rfl, _, _, rfl, _, _, rfl, rfl, rfl, _, rfl, dicS rs, Sum.inr (mk t.2.2), rfl, hd, small_lt ?_, same_put s2 nd, addNew rs t.2.2, ?_, addNew_nd hn, ?_⟩
      · rw [dicS_len]
        have := sm.nd hn hU
        omega
      · rw [upd_same, putK_dicS]
      · intro r hr2
        rcases mem_addNew.mp hr2 with z | rfl
        · exact hU r z
        · exact firstT_U (List.mem_of_getElem? ht3)
    · rintro H2 ⟨s2, rs, hd, hn, hU⟩
      have s02 := s1.trans s2
      have nd0 : H d = none := s1.free nd
      -- waiting = list(found)
      refine ⟨.ref d, rfl, d, _, rfl, hd, fun wl nw => ?_⟩
      have ndw : d ≠ wl := ne_of_none hd nw
      have nw0 : H wl = none := s02.free nw
      have ek : (dicS rs).map (fun kv => kV kv.1) = rs.map Sv := by
        unfold dicS
        rw [List.map_map]
        rfl
      have I0 : RInv K H code d wl rs rs (upd H2 wl (.lst ((dicS rs).map fun kv => kV kv.1))) := ⟨same_put s02 nw0, by rw [upd_ne ndw]; exact hd, by rw [upd_same, ek], hn, hU, hU, Nat.le_refl _⟩
      refine ⟨fun m σ H3 => ∃ y2 y4 y5 y6 rs ws, σ = [some (.ref c), some (.ref d), y2, some (.ref wl), y4, y5, y6, none, none] ∧ RInv K H code d wl rs ws H3 ∧ m = ws.length + 2 * (36 - rs.length), ⟨_, none, none, none, none, rs, rs, rfl, I0, rfl⟩, ?_⟩
      rintro m σ H3 ⟨y2, y4, y5, y6, rs, ws, rfl, I3, rfl⟩
      refine ⟨_, rfl, !(ws.map Sv).isEmpty, .inl ⟨_, SqL.of I3.lst, rfl⟩, ?_⟩
      by_cases hws : ws = []
      · subst hws
        refine iteF ?_
        -- return sorted(found)
        have ek3 : (dicS rs).map (·.1) = (rs.map mk).map Sum.inr := by
          unfold dicS
          rw [List.map_map, List.map_map]
          rfl
        refine ⟨.ref d, rfl, d, _, rs.map mk, rfl, Rd.of I3.dic, ek3, ?_, fun ys p hp _ hn4 => ?_⟩
        · rw [List.length_map]
          have := sm.nd I3.nd I3.ru
          omega
        · refine q _ p ys (I3.same.trans (same_upd hn4)) (SqL.of upd_same) ?_
          rw [hp.length_eq, List.length_map]
          have := sm.nd I3.nd I3.ru
          omega
      · have hpos : 0 < ws.length := List.length_pos_iff.mpr hws
        have hne : (!(ws.map Sv).isEmpty) = true := by
          cases ws with
          | nil => exact absurd rfl hws
          | cons _ _ => rfl
        rw [hne]
        obtain ⟨l, hl⟩ : ∃ l, ws[ws.length - 1]? = some l := ⟨_, List.getElem?_eq_getElem (by omega)⟩
        have hlU : l ∈ U code := I3.wu l (List.mem_of_getElem? hl)
        have hl5 := sm.rest hlU
        have hrs := sm.nd I3.nd I3.ru
        refine iteT ⟨fun σ' H' => ∃ y2 y4 y5 y6 rs' ws', σ' = [some (.ref c), some (.ref d), y2, some (.ref wl), y4, y5, y6, none, none] ∧ RInv K H code d wl rs' ws' H' ∧ ws'.length + 2 * (36 - rs'.length) < ws.length + 2 * (36 - rs.length),
          fun σ' H' ⟨z2, z4, z5, z6, rs', ws', e1, e2, e3⟩ => ⟨_, e3, z2, z4, z5, z6, rs', ws', e1, e2, rfl⟩, ?_⟩
        refine ⟨_, rfl, .inl ⟨rfl, _, SqL.of I3.lst⟩, wl, _, Sv l, rfl, rfl, I3.lst, by rw [List.length_map]; exact at_map hl, ?_⟩
        have I4 : RInv K H code d wl rs ws.dropLast (upd H3 wl (.lst (ws.map Sv).dropLast)) := ⟨same_put I3.same nw0, by rw [upd_ne ndw]; exact I3.dic, by rw [upd_same, List.map_dropLast], I3.nd, I3.ru, fun r h => I3.wu r ((List.dropLast_sublist _).subset h), by
          rw [List.length_dropLast]
          have := I3.le
          omega⟩
        generalize upd H3 wl (.lst (ws.map Sv).dropLast) = H4 at I4 ⊢
        refine ⟨_, rfl, (((mk l).length : Int) != 0), ⟨small_line (by rw [mk_len]; omega), rfl⟩, ?_⟩
        by_cases hl0 : l = []
        · subst hl0
          refine iteF ⟨_, _, _, _, rs, _, rfl, I4, ?_⟩
          rw [List.length_dropLast]
          omega
        · have hk : (((mk l).length : Int) != 0) = true := by
            rw [mk_len, bne_iff_ne]
            have := List.length_pos_iff.mpr hl0
            omega
          rw [hk]
          refine iteT ⟨_, rfl, _, rfl, c, code, l, rfl, Same.tup I4.same hC, sm.few, sm.word, by omega, fun H5 p5 s5 np5 R5 => ?_⟩
          obtain ⟨as5, h5, hl5', _⟩ := id R5
          have npw : p5 ≠ wl := (ne_of_none I4.lst np5).symm
          have npd : p5 ≠ d := (ne_of_none I4.dic np5).symm
          refine ⟨p5, rfl, ⟨_, SqL.of h5⟩, for_it (walk_list (xs := as5.map V.ref)) (fun j σ H6 => ∃ y4 y5 y6 rs' ws', σ = [some (.ref c), some (.ref d), some (Sv l), some (.ref wl), y4, y5, y6, none, none] ∧ RInv K H code d wl rs' ws' H6 ∧
              RowsAt K H6 p5 ((stepT code l).map r3b) ∧ H6 p5 = some (.lst (as5.map V.ref)) ∧ ws'.length + 2 * (36 - rs'.length) < ws.length + 2 * (36 - rs.length))
            ⟨y4, y5, y6, rs, ws.dropLast, rfl, ⟨I4.same.trans s5, s5 _ _ I4.dic, s5 _ _ I4.lst, I4.nd, I4.ru, I4.wu, I4.le⟩, R5, h5, by rw [List.length_dropLast]; omega⟩ (fun j σ H6 _ ⟨_, _, _, _, _, _, _, _, e, _⟩ => SqL.of e) ?_ ?_⟩
          · rintro j x σ H6 H7 hj ⟨z4, z5, z6, rs', ws', rfl, I6, R6, h6, hm⟩ ⟨rfl, hx⟩
            obtain ⟨a, ha, rfl⟩ := map_at hx
            obtain ⟨r, hr', ht⟩ := (RowsAt.get R6 h6).2 j a ha
            obtain ⟨t, ht3, rfl⟩ := map_at hr'
            have htU : t.2.2 ∈ U code := stepT_U hlU (List.mem_of_getElem? ht3)
            refine ⟨a, _, rfl, ht, rfl, _, _, rfl, _, _, rfl, _, _, rfl, rfl, ?_⟩
            refine ⟨_, rfl, _, rfl, d, _, rfl, DGet.k (k := Sum.inr (mk t.2.2)) I6.dic, _, rfl, ?_⟩
            rw [valV_dicS]
            by_cases hin : t.2.2 ∈ rs'
            · rw [if_pos hin]
              exact iteF ⟨_, _, _, rs', ws', rfl, I6, R6, h6, hm⟩
            · rw [if_neg hin]
              have e1 : addNew rs' t.2.2 = rs' ++ [t.2.2] := by
                unfold addNew
                rw [if_neg hin]
              have hn7 : (rs' ++ [t.2.2]).Nodup := e1 ▸ addNew_nd I6.nd
              have hu7 : ∀ r ∈ rs' ++ [t.2.2], r ∈ U code := fun r hr2 => by
                rcases List.mem_append.mp hr2 with z | z
                · exact I6.ru r z
                · rw [List.mem_singleton.mp z]; exact htU
              have h36 := sm.nd hn7 hu7
              rw [List.length_append, List.length_singleton] at h36
              have hle := I6.le
              refine iteT ⟨_, rfl, _, rfl, d, _, rfl, DPut.k (k := Sum.inr (mk t.2.2)) I6.dic (small_lt (by rw [dicS_len]; omega)), ?_⟩
              have nd0' : ∀ o, (upd H7 d o) wl = H7 wl := fun o => upd_ne ndw.symm
              refine ⟨_, rfl, .inl ⟨rfl, _, SqL.of (by rw [nd0']; exact I6.lst)⟩, _, rfl, wl, _, _, rfl, rfl, by rw [nd0']; exact I6.lst, small_lt (by rw [List.length_map]; omega), ?_⟩
              refine ⟨_, _, _, rs' ++ [t.2.2], ws' ++ [t.2.2], rfl, ⟨same_put (same_put I6.same nd0) nw0, ?_, ?_, hn7, hu7, ?_, ?_⟩, ?_, ?_, ?_⟩
              · rw [upd_ne ndw, upd_same, putK_dicS, e1]
              · rw [upd_same, List.map_append]
                rfl
              · intro r hr2
                rcases List.mem_append.mp hr2 with z | z
                · exact I6.wu r z
                · rw [List.mem_singleton.mp z]; exact htU
              · rw [List.length_append, List.length_append]
                simp only [List.length_singleton]
                omega
              · exact RowsAt.chg (by rw [nd0', I6.lst]; exact True.intro) npw (RowsAt.chg (by rw [I6.dic]; exact True.intro) npd R6)
              · rw [upd_ne npw, upd_ne npd]
                exact h6
              · rw [List.length_append, List.length_append]
                simp only [List.length_singleton]
                omega
          · rintro σ H6 ⟨z4, z5, z6, rs', ws', rfl, I6, R6, h6, hm⟩
            exact ⟨_, _, _, _, rs', ws', rfl, I6, hm⟩
end
end K11
set_option Elab.async false
set_option linter.all false
set_option maxRecDepth 100000
set_option maxHeartbeats 4000000
namespace K11
open PySem PySem.Spec PyProof.Rows L2

/-! ### ways -/
structure WD where
  size : Int
  text : S
  rest : S
  ns : List Nat
  ms : List Nat
def WAt (K : PySem.W.Frag) (H : Hp) (a : Addr) (w : WD) : Prop := ∃ f b : Addr, SqT K H a [.int w.size, Sv w.text, Sv w.rest, .ref f, .ref b] ∧ SqT K H f (w.ns.map Iv) ∧ SqT K H b (w.ms.map Iv)
theorem WAt.same {K : PySem.W.Frag} {H H' : Hp} {a : Addr} {w : WD} (s : Same H H') (h : WAt K H a w) : WAt K H' a w := by
  obtain ⟨f, b, h1, h2, h3⟩ := h
  exact ⟨f, b, Same.tup s h1, Same.tup s h2, Same.tup s h3⟩
theorem WAt.chg {K : PySem.W.Frag} {H : Hp} {p a : Addr} {w : WD} {o : HO} (hp : Mut (H p)) (h : WAt K H a w) : WAt K (upd H p o) a w := by
  obtain ⟨f, b, h1, h2, h3⟩ := h
  exact ⟨f, b, sqT_upd hp h1, sqT_upd hp h2, sqT_upd hp h3⟩
structure WOk (code : List S) (n : Nat) (w : WD) : Prop where
  ns : w.ns.length ≤ n
  ms : w.ms.length ≤ n
  text : w.text.length ≤ 5 * n
  rest : w.rest ∈ U code
theorem WOk.mono {code : List S} {n m : Nat} {w : WD} (h : WOk code n w) (hnm : n ≤ m) : WOk code m w := ⟨Nat.le_trans h.ns hnm, Nat.le_trans h.ms hnm, Nat.le_trans h.text (Nat.mul_le_mul_left 5 hnm), h.rest⟩
/-- a list at p of ways -/
def WaysAt (K : PySem.W.Frag) (H : Hp) (code : List S) (n : Nat) (p : Addr) (bs : List (Addr × WD)) : Prop := H p = some (.lst (bs.map fun b => V.ref b.1)) ∧ ∀ b ∈ bs, WAt K H b.1 b.2 ∧ WOk code n b.2
section
variable {P : Program} {w : World} {K : PySem.W.Frag} {mg : Str → Option Value} {base : Heap}

/-! ### ways_on -/
abbrev nWaysOn : List Str := ["code", "way", "size", "text", "rest", "front", "back", "found", "number", "beyond", "more"]
def spWaysOn (K : PySem.W.Frag) : Sp := fun vs H Q _ => ∃ (c a : Addr) (code : List S) (w : WD) (n : Nat), vs = [.ref c, .ref a] ∧ SqT K H c (code.map Sv) ∧ Small code ∧ WAt K H a w ∧ WOk code n w ∧ n ≤ 100 ∧
  ∀ H' p bs, Same H H' → H p = none → WaysAt K H' code (n + 1) p bs → bs.length ≤ 6 → Q (.ref p) H'
theorem scWaysOn : FnScope nWaysOn ["code", "way"] (defScope sWaysOn) := ⟨rfl, rfl, rfl, by decide +kernel, rfl, by decide +kernel, by decide +kernel⟩
theorem ok_waysOn {f f2 : Addr} {fd fd2 : FuncData} (F : Fun K "ways_on" "ways_on" sWaysOn f fd) (T : Glo mg)
    (F2 : Fun K "steps_from" "steps_from" sSteps f2 fd2) (b2 : Binds K fd2 ["code", "rest"] []) (g2 : mg "steps_from" = some (.ref f2)) : FnOk P w K mg base CX0 2 f fd ["code", "way"] (spWaysOn K) := by
  have G2 : FnOk P w K mg base CX0 1 f2 fd2 ["code", "rest"] (spSteps K) := ok_steps F2 T
  refine F.ok scWaysOn (fun vs H Q E h => ?_) (fun cdv A outer s H vs Q E hr h => ?_)
  · obtain ⟨c, a, code, w, n, rfl, _⟩ := h
    rfl
  · obtain ⟨c, a, code, w, n, rfl, hC, sm, ⟨f, b, ha, hf, hb⟩, ok, hn, q⟩ := h
    refine ⟨_, pss_cons (ps_asg (pv 1) (pg_tup rfl (pgs_cons (pg_name (i := 2) scWaysOn.nd rfl (.inl rfl)) (pgs_cons (pg_name (i := 3) scWaysOn.nd rfl (.inl rfl)) (pgs_cons (pg_name (i := 4) scWaysOn.nd rfl (.inl rfl))
          (pgs_cons (pg_name (i := 5) scWaysOn.nd rfl (.inl rfl)) (pgs_cons (pg_name (i := 6) scWaysOn.nd rfl (.inl rfl)) pgs_nil)))))))
      (pss_cons (ps_set (i := 7) scWaysOn.nd rfl (.inl rfl) (pe_lst pa_nil))
      (pss_cons (ps_for PassesOwn.never rfl (pi_list (pe_call G2 hr (by rfl) g2 F2.kp b2 .nil pass0 (pa_cons (pv 0) (pa_cons (pv 4) pa_nil))))
          (pg_tup rfl (pgs_cons (pg_name (i := 8) scWaysOn.nd rfl (.inl rfl)) (pgs_cons (pg_name (i := 9) scWaysOn.nd rfl (.inl rfl)) (pgs_cons (pg_name (i := 10) scWaysOn.nd rfl (.inl rfl)) pgs_nil))))
        (pss_one (ps_if (pt_truth (pv 9) (by intro _; rfl))
          (pss_one (ps_expr (pe_bm PySem.F.plainAttrs_list PySem.F.slot_list_append PySem.F.type_list_append mt_append (pv 7) (pa_cons
            (pe_tup (pa_cons (pe_op op_add (pv 2) (pe_callB call_len_str (by rfl) T.len PySem.boot_len (pa_cons (pv 10) pa_nil))) (pa_cons (pe_op op_add_str (pv 3) (pv 10)) (pa_cons (pv 10)
              (pa_cons (pe_op op_catA (pv 6) (pe_tup (pa_cons (pv 8) pa_nil))) (pa_cons (pv 5) pa_nil)))))) pa_nil))))
          (pss_one (ps_expr (pe_bm PySem.F.plainAttrs_list PySem.F.slot_list_append PySem.F.type_list_append mt_append (pv 7) (pa_cons
            (pe_tup (pa_cons (pv 2) (pa_cons (pv 3) (pa_cons (pv 10) (pa_cons (pv 5) (pa_cons (pe_op op_catA (pv 6) (pe_tup (pa_cons (pv 8) pa_nil))) pa_nil)))))) pa_nil)))))))
      (pss_one (ps_ret (pv 7))))), ?_⟩
    have hlw := sm.rest ok.rest
    have hln : w.ns.length ≤ 100 := Nat.le_trans ok.ns hn
    have hlm : w.ms.length ≤ 100 := Nat.le_trans ok.ms hn
    have hlt : w.text.length ≤ 500 := Nat.le_trans ok.text (by omega)
    refine ⟨_, rfl, a, _, rfl, ha, rfl, _, _, rfl, _, _, rfl, _, _, rfl, _, _, rfl, _, _, rfl, rfl, ?_⟩
    refine ⟨Nat.zero_le _, fun o no => ?_⟩
    have s0 := same_upd (o := .lst []) no
    refine ⟨_, rfl, _, rfl, c, code, w.rest, rfl, Same.tup s0 hC, sm.few, sm.word, by omega, fun H1 p s1 np R1 => ?_⟩
    obtain ⟨as, h1, hl1, _⟩ := id R1
    have s01 := s0.trans s1
    have npo : p ≠ o := fun e => by rw [e, upd_same] at np; cases np
    refine ⟨p, rfl, ⟨_, SqL.of h1⟩, for_it (walk_list (xs := as.map V.ref)) (fun j σ H2 => ∃ y8 y9 y10 bs, σ = [some (.ref c), some (.ref a), some (.int w.size), some (Sv w.text), some (Sv w.rest), some (.ref f), some (.ref b), some (.ref o), y8, y9, y10] ∧
        Same H H2 ∧ RowsAt K H2 p ((stepT code w.rest).map r3b) ∧ H2 p = some (.lst (as.map V.ref)) ∧ WaysAt K H2 code (n + 1) o bs ∧ bs.length = j)
      ⟨none, none, none, [], rfl, s01, R1, h1, ⟨s1 _ _ upd_same, fun b hb => by cases hb⟩, rfl⟩ (fun j σ H2 _ ⟨_, _, _, _, _, _, _, e, _⟩ => SqL.of e) ?_ ?_⟩
    · rintro j x σ H2 H3 hj ⟨y8, y9, y10, bs, rfl, s2, R2, h2, ⟨h3, hbs⟩, hbl⟩ ⟨rfl, hx⟩
      obtain ⟨a2, ha2, rfl⟩ := map_at hx
      obtain ⟨r, hr', ht⟩ := (RowsAt.get R2 h2).2 j a2 ha2
      obtain ⟨t, ht3, rfl⟩ := map_at hr'
      have htU : t.2.2 ∈ U code := stepT_U ok.rest (List.mem_of_getElem? ht3)
      have ht5 := sm.rest htU
      have hjl : j < 6 := by
        have := stepT_len code w.rest
        have h6 := sm.few
        have := (List.getElem?_eq_some_iff.mp ht3).1
        omega
      -- the longer list
      have fin : ∀ (H5 : Hp) (ad : Addr) (wd : WD), Same H3 H5 → WAt K H5 ad wd → WOk code (n + 1) wd → ∃ xs, H5 o = some (.lst xs) ∧ xs.length < sizeLine ∧ Same H (upd H5 o (.lst (xs ++ [.ref ad]))) ∧ RowsAt K (upd H5 o (.lst (xs ++ [.ref ad]))) p ((stepT code w.rest).map r3b) ∧
          (upd H5 o (.lst (xs ++ [.ref ad]))) p = some (.lst (as.map V.ref)) ∧ WaysAt K (upd H5 o (.lst (xs ++ [.ref ad]))) code (n + 1) o (bs ++ [(ad, wd)]) ∧ (bs ++ [(ad, wd)]).length = j + 1 := by
        intro H5 ad wd s5 hwd hok
        have h5 := s5 _ _ h3
        have hm : Mut (H5 o) := by rw [h5]; exact True.intro
        refine ⟨_, h5, small_lt (by rw [List.length_map]; omega), same_put (s2.trans s5) no, RowsAt.chg hm npo (RowsAt.same s5 R2), by rw [upd_ne npo]; exact s5 _ _ h2, ⟨by rw [upd_same, List.map_append]; rfl, fun b hb => ?_⟩, by rw [List.length_append, hbl]; rfl⟩
        rcases List.mem_append.mp hb with z | z
        · exact ⟨WAt.chg hm (WAt.same s5 (hbs b z).1), (hbs b z).2⟩
        · rw [List.mem_singleton.mp z]
          exact ⟨WAt.chg hm hwd, hok⟩
      have hf3 := Same.tup s2 hf
      have hb3 := Same.tup s2 hb
      refine ⟨a2, _, rfl, ht, rfl, _, _, rfl, _, _, rfl, _, _, rfl, rfl, ?_⟩
      refine ⟨_, rfl, t.2.1, rfl, ?_⟩
      have one : (1 : Nat) ≤ sizeLine := small_line (by decide)
      have hml : (w.ms.map Iv).length + [Iv t.1].length ≤ sizeLine := small_line (by rw [List.length_map]; show w.ms.length + 1 ≤ 100000; omega)
      cases hby : t.2.1 with
      | true =>
        refine iteT ⟨_, rfl, .inl ⟨rfl, _, SqL.of h3⟩, _, rfl, _, rfl, _, rfl, small_line (by rw [mk_len]; omega), _, _, rfl, rfl, _, rfl, _, rfl, _, _, rfl, rfl, small_line (by rw [mk_len, mk_len]; omega), _, rfl, _, rfl, _, rfl, one, fun t1 nt1 => ?_⟩
        have s4 := same_upd (o := .tup [Iv t.1]) nt1
        refine catA (Same.tup s4 hb3) (SqT.of upd_same) hml fun p1 H5 s5 hp1 => ?_
        refine ⟨_, rfl, small_line (by show 5 ≤ 100000; decide), fun t2 nt2 => ?_⟩
        have s6 := same_upd (o := .tup [.int (w.size + (mk t.2.2).length), .str (mk w.text ++ mk t.2.2), Sv t.2.2, .ref p1, .ref f]) nt2
        have s36 := (s4.trans s5).trans s6
        obtain ⟨xs, e1, e2, e3, e4, e5, e6, e7⟩ := fin _ t2 ⟨w.size + (mk t.2.2).length, w.text ++ t.2.2, t.2.2, w.ms ++ [t.1], w.ns⟩ s36 ⟨p1, f, by
            show SqT K _ t2 [.int (w.size + (mk t.2.2).length), Sv (w.text ++ t.2.2), Sv t.2.2, .ref p1, .ref f]
            have e : Sv (w.text ++ t.2.2) = .str (mk w.text ++ mk t.2.2) := by rw [mk_app]
            rw [e]
            exact SqT.of upd_same, by
            rw [List.map_append]
            exact Same.tup s6 hp1, Same.tup s36 hf3⟩ ⟨by
              show (w.ms ++ [t.1]).length ≤ n + 1
              rw [List.length_append]
              have := ok.ms
              show w.ms.length + 1 ≤ n + 1
              omega, Nat.le_trans ok.ns (Nat.le_succ n), by
              show (w.text ++ t.2.2).length ≤ 5 * (n + 1)
              rw [List.length_append]
              have := ok.text
              omega, htU⟩
        exact ⟨o, xs, .ref t2, rfl, rfl, e1, e2, _, _, _, _, rfl, e3, e4, e5, e6, e7⟩
      | false =>
        refine iteF ⟨_, rfl, .inl ⟨rfl, _, SqL.of h3⟩, _, rfl, _, rfl, _, rfl, _, rfl, _, rfl, _, rfl, one, fun t1 nt1 => ?_⟩
        have s4 := same_upd (o := .tup [Iv t.1]) nt1
        refine catA (Same.tup s4 hb3) (SqT.of upd_same) hml fun p1 H5 s5 hp1 => ?_
        refine ⟨small_line (by show 5 ≤ 100000; decide), fun t2 nt2 => ?_⟩
        have s6 := same_upd (o := .tup [.int w.size, Sv w.text, Sv t.2.2, .ref f, .ref p1]) nt2
        have s36 := (s4.trans s5).trans s6
        obtain ⟨xs, e1, e2, e3, e4, e5, e6, e7⟩ := fin _ t2 ⟨w.size, w.text, t.2.2, w.ns, w.ms ++ [t.1]⟩ s36 ⟨f, p1, SqT.of upd_same, Same.tup s36 hf3, by
            rw [List.map_append]
            exact Same.tup s6 hp1⟩ ⟨Nat.le_trans ok.ns (Nat.le_succ n), by
              show (w.ms ++ [t.1]).length ≤ n + 1
              rw [List.length_append]
              have := ok.ms
              show w.ms.length + 1 ≤ n + 1
              omega, Nat.le_trans ok.text (by omega), htU⟩
        exact ⟨o, xs, .ref t2, rfl, rfl, e1, e2, _, _, _, _, rfl, e3, e4, e5, e6, e7⟩
    · rintro σ H2 ⟨y8, y9, y10, bs, rfl, s2, R2, h2, hW, hbl⟩
      have no0 := no
      refine ⟨.ref o, rfl, q H2 o bs s2 no hW ?_⟩
      have := stepT_len code w.rest
      have h6 := sm.few
      rw [List.length_map] at hbl
      rw [List.length_map] at hl1
      omega
end
end K11
set_option Elab.async false
set_option linter.all false
set_option maxRecDepth 100000
set_option maxHeartbeats 4000000
namespace K11
open PySem PySem.Spec PyProof.Rows L2

theorem tYes_k {σ : L2.St} {H : Hp} {A B : Hp → Prop} (h : A H) : tYes σ H fun b H1 => if b = true then A H1 else B H1 := @iteT (A H) (B H) h
/-! ### first_way -/
def wenc (b : Addr × WD) : PyData := .tuple [.int b.2.size, .str (mk b.2.text), .str (mk b.2.rest), .tuple (b.2.ns.map fun n : Nat => PyData.int (n : Int)), .tuple (b.2.ms.map fun n : Nat => PyData.int (n : Int))]
theorem alike_ints : ∀ ns ms : List Nat, PySem.W.alikeAll (ns.map fun n : Nat => PyData.int (n : Int)) (ms.map fun n : Nat => PyData.int (n : Int)) = true
  | [], _ => by cases ‹List Nat› <;> simp [PySem.W.alikeAll]
  | _ :: _, [] => by simp [PySem.W.alikeAll]
  | _ :: ns, _ :: ms => by
    have := alike_ints ns ms
    simp only [List.map_cons, PySem.W.alikeAll, PySem.W.alike, Bool.true_and]
    exact this
theorem wenc_alike (b c : Addr × WD) : PySem.W.alike (wenc b) (wenc c) = true := by
  unfold wenc
  simp only [PySem.W.alike, PySem.W.alikeAll, alike_ints, Bool.and_self]
theorem depth_ints : ∀ ns : List Nat, PyData.depthAll (ns.map fun n : Nat => PyData.int (n : Int)) = 0
  | [] => by simp [PyData.depthAll]
  | _ :: ns => by
    have := depth_ints ns
    simp only [List.map_cons, PyData.depthAll, PyData.depth, Nat.max_eq_right (Nat.zero_le _)]
    exact this
theorem wenc_depth (b : Addr × WD) : (wenc b).depth ≤ 30 := by
  unfold wenc
  simp only [PyData.depth, PyData.depthAll, depth_ints]
  decide
theorem wenc_dp {K : PySem.W.Frag} {H : Hp} {b : Addr × WD} (h : WAt K H b.1 b.2) : Dp K H (.ref b.1) (wenc b) := by
  obtain ⟨f, g, h1, h2, h3⟩ := h
  exact .tup h1 (.cons (.int _) (.cons (.str _) (.cons (.str _) (.cons (.tup h2 (dp_ints _)) (.cons (.tup h3 (dp_ints _)) .nil)))))
section
variable {P : Program} {w : World} {K : PySem.W.Frag} {mg : Str → Option Value} {base : Heap}
theorem firstT_at {code : List S} {t : Nat × Nat × S} (h : t ∈ firstT code) : ∃ wd, code[t.1]? = some wd := by
  obtain ⟨⟨w, i⟩, hq, h⟩ := List.mem_flatMap.mp h
  obtain ⟨⟨p, j⟩, hp, h⟩ := List.mem_flatMap.mp h
  obtain ⟨m, _, rfl⟩ := List.mem_map.mp h
  exact ⟨w, List.mem_zipIdx_iff_getElem?.mp hq⟩
abbrev nFirstWay : List Str := ["code", "waiting", "known", "way", "one", "other", "rest"]
def spFirstWay (K : PySem.W.Frag) : Sp := fun vs H Q _ => ∃ (c : Addr) (code : List S), vs = [.ref c] ∧ SqT K H c (code.map Sv) ∧ Small code ∧ (∀ H', Same H H' → Q .non H') ∧ ∀ H' a wd, Same H H' → WAt K H' a wd → WOk code 40 wd → Q (.ref a) H'
theorem scFirstWay : FnScope nFirstWay ["code"] (defScope sFirstWay) := ⟨rfl, rfl, rfl, by decide +kernel, rfl, by decide +kernel, by decide +kernel⟩
structure FInv (K : PySem.W.Frag) (H0 : Hp) (code : List S) (d wl : Addr) (rs : List S) (bs : List (Addr × WD)) (H : Hp) : Prop where
  same : Same H0 H
  dic : H d = some (.dK (dicS rs))
  ways : WaysAt K H code (rs.length + 1) wl bs
  nd : rs.Nodup
  ru : ∀ r ∈ rs, r ∈ U code
  le : bs.length ≤ 36 + 6 * rs.length
  nd0 : H0 d = none
  nw0 : H0 wl = none
theorem WaysAt.put {K : PySem.W.Frag} {H : Hp} {code : List S} {n m : Nat} {p q : Addr} {bs cs : List (Addr × WD)} (h : WaysAt K H code n p bs) (hnm : n ≤ m) (hq : Mut (H q)) (hsub : ∀ b ∈ cs, b ∈ bs) : WaysAt K (upd H q (.lst (cs.map fun b => V.ref b.1))) code m q cs :=
  ⟨upd_same, fun b hb => ⟨WAt.chg hq (h.2 b (hsub b hb)).1, (h.2 b (hsub b hb)).2.mono hnm⟩⟩
theorem ok_firstWay {f f1 f2 f3 : Addr} {fd fd1 fd2 fd3 : FuncData} (F : Fun K "first_way" "first_way" sFirstWay f fd) (T : Glo mg) (F1 : Fun K "first_steps" "first_steps" sFirst f1 fd1) (b1 : Binds K fd1 ["code"] []) (g1 : mg "first_steps" = some (.ref f1))
    (F2 : Fun K "steps_from" "steps_from" sSteps f2 fd2) (b2 : Binds K fd2 ["code", "rest"] []) (g2 : mg "steps_from" = some (.ref f2))
    (F3 : Fun K "ways_on" "ways_on" sWaysOn f3 fd3) (b3 : Binds K fd3 ["code", "way"] []) (g3 : mg "ways_on" = some (.ref f3)) : FnOk P w K mg base CX0 3 f fd ["code"] (spFirstWay K) := by
  have G1 : FnOk P w K mg base CX0 1 f1 fd1 ["code"] (spFirst K) := ok_first F1 T
  have G3 : FnOk P w K mg base CX0 2 f3 fd3 ["code", "way"] (spWaysOn K) := ok_waysOn F3 T F2 b2 g2
  refine F.ok scFirstWay (fun vs H Q E h => ?_) (fun cdv A outer s H vs Q E hr h => ?_)
  · obtain ⟨c, code, rfl, _⟩ := h
    rfl
  · obtain ⟨c, code, rfl, hC, sm, qN, qW⟩ := h
    have hu := hu_of hr
    refine ⟨_, pss_cons (ps_setLc (i := 1) (own := [("one", 4), ("other", 5), ("rest", 6)]) (g := gTup K 3 (gCons (gName 4) (gCons (gName 5) (gCons (gName 6) gNil)))) (tt := tYes) rfl scFirstWay.nd rfl rfl (sw_true rfl rfl rfl (by decide +kernel))
        (pi_list (pe_call G1 (hr.mono (by decide)) (by rfl) g1 F1.kp b1 .nil pass0 (pa_cons (pv 0) pa_nil))) (blkOk_by (N := nFirstWay) (sc := defScope sFirstWay) (by decide +kernel))
        (fun _ _ _ _ _ => pg_tup rfl (pgs_cons (pg_name (i := 4) scFirstWay.nd rfl (.inl rfl)) (pgs_cons (pg_name (i := 5) scFirstWay.nd rfl (.inl rfl)) (pgs_cons (pg_name (i := 6) scFirstWay.nd rfl (.inl rfl)) pgs_nil)))) (fun _ _ _ _ _ => pts_nil)
        (fun _ _ _ _ _ => pe_tup (pa_cons (pe_callB call_len_str (by rfl) T.len PySem.boot_len (pa_cons (pe_ix (r := rIxT K) ix_tup (pv 0) (pv 4) (fun _ _ => rfl)) pa_nil)) (pa_cons (pe_ix (r := rIxT K) ix_tup (pv 0) (pv 4) (fun _ _ => rfl)) (pa_cons (pv 6)
          (pa_cons (pe_tup (pa_cons (pv 4) pa_nil)) (pa_cons (pe_tup (pa_cons (pv 5) pa_nil)) pa_nil)))))))
      (pss_cons (ps_set (i := 2) scFirstWay.nd rfl (.inl rfl) pe_dnewK)
      (pss_cons (ps_while PassesOwn.never (pt_truth (pv 1) (by intro _; rfl))
        (pss_cons (ps_set (i := 1) scFirstWay.nd rfl (.inl rfl) (pe_callB (cr_sortedD hr.units) (by rfl) T.sorted boot_sorted (pa_cons (pv 1) pa_nil)))
        (pss_cons (ps_set (i := 3) scFirstWay.nd rfl (.inl rfl) (pe_bm PySem.F.plainAttrs_list PySem.F.slot_list_pop PySem.F.type_list_pop mt_popAt (pv 1) (pa_cons pe_int pa_nil)))
        (pss_cons (ps_if (pt_cmpR op_eq (pe_ix (r := rIxT K) ix_tup (pv 3) pe_int (fun _ _ => rfl)) pe_str (nomark _)) (pss_one (ps_ret (pv 3))) pss_nil)
        (pss_one (ps_if (pt_cmp (pc_dnotin hu (pe_ix (r := rIxT K) ix_tup (pv 3) pe_int (fun _ _ => rfl)) (pv 2)))
          (pss_cons (ps_dput hu (pv 2) (pe_ix (r := rIxT K) ix_tup (pv 3) pe_int (fun _ _ => rfl)) pe_bl rfl)
          (pss_one (ps_expr (pe_bm PySem.F.plainAttrs_list PySem.F.slot_list_extend PySem.F.type_list_extend mt_extend (pv 1) (pa_cons (pe_call G3 hr (by rfl) g3 F3.kp b3 .nil pass0 (pa_cons (pv 0) (pa_cons (pv 3) pa_nil))) pa_nil))))) pss_nil))))))
      (pss_one (ps_ret pe_non)))), ?_⟩
    have one : (1 : Nat) ≤ sizeLine := small_line (by decide)
    refine ⟨.ref c, rfl, c, code, rfl, hC, sm.few, sm.word, fun H1 p s1 np R1 => ⟨p, rfl, (let ⟨as, h, _⟩ := R1; ⟨_, SqL.of h⟩), fun D nD => ?_⟩⟩
    obtain ⟨as, h1, hl1, _⟩ := id R1
    have hlen36 : as.length ≤ 36 := by
      rw [hl1, List.length_map]
      have := len_pairs code
      have e : (firstT code).length = (pairs code).length := by rw [← firstT_rest, List.length_map]
      rw [e]
      have := Nat.mul_le_mul sm.few sm.few
      omega
    refine lc_it (tt := tYes) (walk_list (xs := as.map V.ref)) (fun i H2 => Same H1 H2 ∧ ∃ bs, WaysAt K H2 code 1 D bs ∧ bs.length = i)
      ⟨same_upd nD, [], ⟨upd_same, fun b h => by cases h⟩, rfl⟩ (fun i H2 _ h => SqL.of (h.1 _ _ h1)) ?_ ?_
    · rintro i x H2 H3 hi ⟨s2, bs, ⟨hd, hbs⟩, hbl⟩ ⟨rfl, hx⟩
      obtain ⟨a, ha, rfl⟩ := map_at hx
      obtain ⟨r, hr', ht⟩ := (RowsAt.get (RowsAt.same s2 R1) (s2 _ _ h1)).2 i a ha
      obtain ⟨t, ht3, rfl⟩ := map_at hr'
      obtain ⟨wd, hwd⟩ := firstT_at (List.mem_of_getElem? ht3)
      have hw5 : wd.length ≤ 5 := sm.word wd (List.mem_of_getElem? hwd)
      have hC3 := Same.tup (s1.trans s2) hC
      refine ⟨a, _, rfl, ht, rfl, _, _, rfl, _, _, rfl, _, _, rfl, rfl, rfl, ?_⟩
      refine tYes_k ?_
      refine ⟨_, rfl, _, rfl, c, _, _, _, rfl, rfl, hC3, atI_nat (at_map hwd), mk wd, rfl, small_line (by rw [mk_len]; omega), ?_⟩
      refine ⟨_, rfl, _, rfl, c, _, _, _, rfl, rfl, hC3, atI_nat (at_map hwd), _, rfl, _, rfl, one, fun t1 nt1 => ⟨_, rfl, one, fun t2 nt2 => ⟨small_line (by show 5 ≤ 100000; decide), fun t3 nt3 => ?_⟩⟩⟩
      have s3 := same_upd (o := .tup [Iv t.1]) nt1
      have s4 := same_upd (o := .tup [Iv t.2.1]) nt2
      have s5 := same_upd (o := .tup [.int (mk wd).length, Sv wd, Sv t.2.2, .ref t1, .ref t2]) nt3
      have s345 := (s3.trans s4).trans s5
      have hW : WAt K _ t3 ⟨(mk wd).length, wd, t.2.2, [t.1], [t.2.1]⟩ := ⟨t1, t2, SqT.of upd_same, Same.tup (s4.trans s5) (SqT.of upd_same), Same.tup s5 (SqT.of upd_same)⟩
      have h5 := s345 _ _ hd
      refine ⟨_, h5, small_lt (by rw [List.length_map, hbl]; rw [List.length_map] at hi; omega), same_put (s2.trans s345) nD, bs ++ [(t3, ⟨(mk wd).length, wd, t.2.2, [t.1], [t.2.1]⟩)], ⟨by rw [upd_same, List.map_append]; rfl, fun b hb => ?_⟩, by rw [List.length_append, hbl]; rfl⟩
      have hm : Mut ((upd (upd (upd H3 t1 (.tup [Iv t.1])) t2 (.tup [Iv t.2.1])) t3 (.tup [.int (mk wd).length, Sv wd, Sv t.2.2, .ref t1, .ref t2])) D) := by rw [h5]; exact True.intro
      rcases List.mem_append.mp hb with z | z
      · exact ⟨WAt.chg hm (WAt.same s345 (hbs b z).1), (hbs b z).2⟩
      · rw [List.mem_singleton.mp z]
        exact ⟨WAt.chg hm hW, Nat.le_refl 1, Nat.le_refl 1, hw5, firstT_U (List.mem_of_getElem? ht3)⟩
    · rintro H2 ⟨s2, bs, hW, hbl⟩
      have s02 := s1.trans s2
      have nD0 : H D = none := s1.free nD
      refine fun d nd => ?_
      have nd0 : H d = none := s02.free nd
      have sd := same_upd (o := .dK []) nd
      have I0 : FInv K H code d D [] bs (upd H2 d (.dK [])) := ⟨s02.trans sd, upd_same, ⟨sd _ _ hW.1, fun b hb => ⟨WAt.same sd (hW.2 b hb).1, (hW.2 b hb).2⟩⟩, List.nodup_nil, (fun r h => by cases h), (by rw [hbl, List.length_map]; exact Nat.le_trans hlen36 (Nat.le_add_right _ _)), nd0, nD0⟩
      refine ⟨fun m σ H3 => ∃ y3 wl rs bs, σ = [some (.ref c), some (.ref wl), some (.ref d), y3, none, none, none] ∧ FInv K H code d wl rs bs H3 ∧ m = bs.length + 7 * (36 - rs.length), ⟨_, none, D, [], bs, rfl, I0, rfl⟩, ?_⟩
      rintro m σ H3 ⟨y3, wl, rs, bs, rfl, I3, rfl⟩
      have hrs := sm.nd I3.nd I3.ru
      refine ⟨_, rfl, !(bs.map fun b => V.ref b.1).isEmpty, .inl ⟨_, SqL.of I3.ways.1, rfl⟩, ?_⟩
      by_cases hbs : bs = []
      · subst hbs
        exact iteF (qN H3 I3.same)
      · have hne : (!(bs.map fun b => V.ref b.1).isEmpty) = true := by
          cases bs with
          | nil => exact absurd rfl hbs
          | cons _ _ => rfl
        rw [hne]
        refine iteT ⟨fun σ' H' => ∃ y3 wl rs' bs', σ' = [some (.ref c), some (.ref wl), some (.ref d), y3, none, none, none] ∧ FInv K H code d wl rs' bs' H' ∧ bs'.length + 7 * (36 - rs'.length) < bs.length + 7 * (36 - rs.length),
          fun σ' H' ⟨z3, wl', rs', bs', e1, e2, e3⟩ => ⟨_, e3, z3, wl', rs', bs', e1, e2, rfl⟩, ?_⟩
        -- sorted
        refine ⟨.ref wl, rfl, wl, Addr × WD, bs, fun b => V.ref b.1, wenc, rfl, SqL.of I3.ways.1, (fun b hb => wenc_dp (I3.ways.2 b hb).1), (fun b _ => ⟨_, _, rfl⟩), (fun b _ c _ => wenc_alike b c), (fun b _ => wenc_depth b), fun cs p pm np => ?_⟩
        have hcl : cs.length = bs.length := pm.length_eq
        obtain ⟨b, cs', rfl⟩ : ∃ b cs', cs = b :: cs' := by
          cases cs with
          | nil => exact absurd (List.length_eq_zero_iff.mp hcl.symm) hbs
          | cons b cs' => exact ⟨b, cs', rfl⟩
        have sp := same_upd (o := .lst ((b :: cs').map fun b => V.ref b.1)) np
        have hbm : ∀ x ∈ b :: cs', x ∈ bs := fun x hx => pm.mem_iff.mp hx
        obtain ⟨hWb, hOb⟩ := I3.ways.2 b (hbm b List.mem_cons_self)
        have np0 : H p = none := I3.same.free np
        have ndp : d ≠ p := ne_of_none I3.dic np
        -- pop(0)
        refine ⟨_, rfl, .inl ⟨rfl, _, SqL.of upd_same⟩, p, _, 0, 0, V.ref b.1, rfl, rfl, upd_same, by decide, by decide, by simp [PySem.seqIndex?], rfl, ?_⟩
        have hmp : Mut ((upd H3 p (.lst ((b :: cs').map fun b => V.ref b.1))) p) := by rw [upd_same]; exact True.intro
        have W4 : WaysAt K (upd (upd H3 p (.lst ((b :: cs').map fun b => V.ref b.1))) p (.lst (cs'.map fun b => V.ref b.1))) code (rs.length + 1) p cs' :=
          ⟨upd_same, fun x hx => ⟨WAt.chg hmp (WAt.same sp (I3.ways.2 x (hbm x (List.mem_cons_of_mem _ hx))).1), (I3.ways.2 x (hbm x (List.mem_cons_of_mem _ hx))).2⟩⟩
        have Wb4 : WAt K (upd (upd H3 p (.lst ((b :: cs').map fun b => V.ref b.1))) p (.lst (cs'.map fun b => V.ref b.1))) b.1 b.2 := WAt.chg hmp (WAt.same sp hWb)
        have I4 : FInv K H code d p rs cs' (upd (upd H3 p (.lst ((b :: cs').map fun b => V.ref b.1))) p (.lst (cs'.map fun b => V.ref b.1))) :=
          ⟨same_put (I3.same.trans sp) np0, by rw [upd_ne ndp, upd_ne ndp]; exact I3.dic, W4, I3.nd, I3.ru, (by have := I3.le; rw [List.length_cons] at hcl; omega), nd0, np0⟩
        show _
        have ee : ((b :: cs').map fun b => V.ref b.1).eraseIdx 0 = cs'.map fun b => V.ref b.1 := rfl
        rw [ee]
        generalize (upd (upd H3 p (.lst ((b :: cs').map fun b => V.ref b.1))) p (.lst (cs'.map fun b => V.ref b.1))) = H4 at I4 W4 Wb4 ⊢
        obtain ⟨fa, ba, w1, w2, w3⟩ := id Wb4
        rw [List.length_cons] at hcl
        -- way[2] == ""
        refine ⟨_, rfl, b.1, _, 2, _, rfl, rfl, w1, rfl, rfl, _, rfl, ?_⟩
        have e0 : decide (Sv b.2.rest = V.str "") = decide (b.2.rest = []) := dec_sv b.2.rest []
        rw [e0]
        by_cases hb0 : b.2.rest = []
        · refine iteDT hb0 ⟨_, rfl, qW H4 b.1 b.2 I4.same Wb4 (hOb.mono (by omega))⟩
        · refine iteDF hb0 ⟨_, rfl, b.1, _, 2, _, rfl, rfl, w1, rfl, _, rfl, d, _, rfl, DGet.k (k := Sum.inr (mk b.2.rest)) I4.dic, _, rfl, ?_⟩
          rw [valV_dicS]
          by_cases hin : b.2.rest ∈ rs
          · rw [if_pos hin]
            exact iteF ⟨_, p, rs, cs', rfl, I4, by omega⟩
          · rw [if_neg hin]
            have e1 : addNew rs b.2.rest = rs ++ [b.2.rest] := by
              unfold addNew
              rw [if_neg hin]
            have hn7 : (rs ++ [b.2.rest]).Nodup := e1 ▸ addNew_nd I4.nd
            have hu7 : ∀ r ∈ rs ++ [b.2.rest], r ∈ U code := fun r hr2 => by
              rcases List.mem_append.mp hr2 with z | z
              · exact I4.ru r z
              · rw [List.mem_singleton.mp z]; exact hOb.rest
            have h36 := sm.nd hn7 hu7
            rw [List.length_append, List.length_singleton] at h36
            have hmd : Mut (H4 d) := by rw [I4.dic]; exact True.intro
            refine iteT ⟨_, rfl, _, rfl, b.1, _, 2, _, rfl, rfl, w1, rfl, d, _, rfl, DPut.k (k := Sum.inr (mk b.2.rest)) I4.dic (small_lt (by rw [dicS_len]; omega)), ?_⟩
            rw [putK_dicS, e1]
            have npd : p ≠ d := ndp.symm
            have W5 : WaysAt K (upd H4 d (.dK (dicS (rs ++ [b.2.rest])))) code (rs.length + 1) p cs' := ⟨by rw [upd_ne npd]; exact W4.1, fun x hx => ⟨WAt.chg hmd (W4.2 x hx).1, (W4.2 x hx).2⟩⟩
            have S5 : Same H (upd H4 d (.dK (dicS (rs ++ [b.2.rest])))) := same_put I4.same nd0
            have D5 : (upd H4 d (.dK (dicS (rs ++ [b.2.rest])))) d = some (.dK (dicS (rs ++ [b.2.rest]))) := upd_same
            have Wb5 := WAt.chg (o := .dK (dicS (rs ++ [b.2.rest]))) hmd Wb4
            generalize (upd H4 d (.dK (dicS (rs ++ [b.2.rest])))) = H5 at W5 S5 D5 Wb5 ⊢
            refine ⟨_, rfl, .inl ⟨rfl, _, SqL.of W5.1⟩, _, rfl, _, rfl, c, b.1, code, b.2, rs.length + 1, rfl, Same.tup S5 hC, sm, Wb5, hOb, by omega, fun H6 p6 ns s6 np6 W6 hl6 => ?_⟩
            have hp6 := s6 _ _ W5.1
            have npp : p ≠ p6 := ne_of_none W5.1 np6
            have hle := I4.le
            have hm6 : Mut (H6 p) := by rw [hp6]; exact True.intro
            refine ⟨p, p6, _, _, rfl, rfl, hp6, W6.1, small_line (by rw [List.length_map, List.length_map]; omega), ?_⟩
            refine ⟨_, p, rs ++ [b.2.rest], cs' ++ ns, rfl, ⟨same_put (S5.trans s6) np0, by rw [upd_ne ndp]; exact s6 _ _ D5, ⟨by rw [upd_same, List.map_append], fun x hx => ?_⟩, hn7, hu7, ?_, nd0, np0⟩, ?_⟩
            · rw [List.length_append]
              rcases List.mem_append.mp hx with z | z
              · exact ⟨WAt.chg hm6 (WAt.same s6 (W5.2 x z).1), (W5.2 x z).2.mono (Nat.le_succ _)⟩
              · exact ⟨WAt.chg hm6 (W6.2 x z).1, (W6.2 x z).2⟩
            · rw [List.length_append, List.length_append, List.length_singleton]
              omega
            · rw [List.length_append, List.length_append, List.length_singleton]
              omega
end
end K11
set_option Elab.async false
set_option linter.all false
set_option maxRecDepth 100000
set_option maxHeartbeats 4000000
namespace K11
open PySem PySem.Spec PyProof.Rows L2
/-- a def that stands under its name -/
def Has (K : PySem.W.Frag) (mg : Str → Option Value) (name : Str) (st : Stmt) (ps : List Str) : Prop := ∃ f fd, Fun K name name st f fd ∧ Binds K fd ps [] ∧ mg name = some (.ref f)
/-- a def that is proved -/
def Kn (P : Program) (w : World) (K : PySem.W.Frag) (mg : Str → Option Value) (base : Heap) (k : Nat) (name : Str) (ps : List Str) (sp : Sp) : Prop := ∃ f fd, FnOk P w K mg base CX0 k f fd ps sp ∧ Binds K fd ps [] ∧ mg name = some (.ref f) ∧ PySem.W.keepIn K (.ref f) = true
section
variable {P : Program} {w : World} {K : PySem.W.Frag} {mg : Str → Option Value} {base : Heap}

/-! ### unique_evidence -/
abbrev nEvidence : List Str := ["code", "way"]
structure SpEv (K : PySem.W.Frag) (H : Hp) (Q : VK) : Prop where
  one : ∀ H' a r, Same H H' → SqT K H' a [.str "unique", .ref r] → Q (.ref a) H'
  two : ∀ H' a b f g (ns ms : List Nat), Same H H' → SqT K H' a [.str "two", .ref b] → SqT K H' b [.ref f, .ref g] → SqT K H' f (ns.map Iv) → SqT K H' g (ms.map Iv) → ns.length ≤ 40 → ms.length ≤ 40 → Q (.ref a) H'
def spEvidence (K : PySem.W.Frag) : Sp := fun vs H Q _ => ∃ (c : Addr) (code : List S), vs = [.ref c] ∧ SqT K H c (code.map Sv) ∧ CodeOk code ∧ SpEv K H Q
theorem scEvidence : FnScope nEvidence ["code"] (defScope sEvidence) := ⟨rfl, rfl, rfl, by decide +kernel, rfl, by decide +kernel, by decide +kernel⟩
theorem ok_evidence {f : Addr} {fd : FuncData} (F : Fun K "unique_evidence" "unique_evidence" sEvidence f fd) (T : Glo mg) (C : Kn P w K mg base 3 "check_code" ["value"] (spCheck K)) (W : Kn P w K mg base 3 "first_way" ["code"] (spFirstWay K)) (R : Kn P w K mg base 2 "rests_of" ["code"] (spRests K)) :
    FnOk P w K mg base CX0 4 f fd ["code"] (spEvidence K) := by
  obtain ⟨fC, fdC, GC, bC, gC, kC⟩ := C
  obtain ⟨fW, fdW, GW, bW, gW, kW⟩ := W
  obtain ⟨fR, fdR, GR, bR, gR, kR⟩ := R
  refine F.ok scEvidence (fun vs H Q E h => ?_) (fun cdv A outer s H vs Q E hr h => ?_)
  · obtain ⟨c, code, rfl, _⟩ := h
    rfl
  · obtain ⟨c, code, rfl, hC, ok, q⟩ := h
    refine ⟨_, pss_cons (ps_expr (pe_call GC hr (by rfl) gC kC bC .nil pass0 (pa_cons (pv 0) pa_nil)))
      (pss_cons (ps_set (i := 1) scEvidence.nd rfl (.inl rfl) (pe_call GW hr (by rfl) gW kW bW .nil pass0 (pa_cons (pv 0) pa_nil)))
      (pss_cons (ps_if (pt_cmp (pc_isN (pv 1)))
        (pss_one (ps_ret (pe_tup (pa_cons pe_str (pa_cons (pe_callTy call_tuple_of (by rfl) T.tuple boot_tuple (pa_cons (pe_call GR (hr.mono (by decide)) (by rfl) gR kR bR .nil pass0 (pa_cons (pv 0) pa_nil)) pa_nil)) pa_nil))))) pss_nil)
      (pss_one (ps_ret (pe_tup (pa_cons pe_str (pa_cons (pe_tup (pa_cons (pe_ix (r := rIxT K) ix_tup (pv 1) pe_int (fun _ _ => rfl)) (pa_cons (pe_ix (r := rIxT K) ix_tup (pv 1) pe_int (fun _ _ => rfl)) pa_nil))) pa_nil))))))), ?_⟩
    have two : (2 : Nat) ≤ sizeLine := small_line (by decide)
    refine ⟨_, rfl, c, code, rfl, hC, ok, fun H1 s1 => ?_⟩
    have hC1 := Same.tup s1 hC
    refine ⟨_, rfl, c, code, rfl, hC1, ok.small, fun H2 s2 => ?_, fun H2 a wd s2 hW hO => ?_⟩
    · refine ⟨_, rfl, _, rfl, iteDT rfl ?_⟩
      refine ⟨_, rfl, c, code, rfl, Same.tup s2 hC1, ok.small, fun H3 p ys s3 hp _ => ⟨p, _, rfl, .inl ⟨hp, fun l hl => ⟨two, fun t ht => ?_⟩⟩⟩⟩
      exact q.one _ t l (((s1.trans s2).trans s3).trans ((same_upd hl).trans (same_upd ht))) (SqT.of upd_same)
    · refine ⟨_, rfl, _, rfl, iteDF (by intro z; cases z) ?_⟩
      obtain ⟨f, g, w1, w2, w3⟩ := hW
      refine ⟨_, rfl, a, _, 3, _, rfl, rfl, w1, rfl, _, rfl, a, _, 4, _, rfl, rfl, w1, rfl, two, fun t1 nt1 => ⟨two, fun t2 nt2 => ?_⟩⟩
      have s3 := same_upd (o := .tup [.ref f, .ref g]) nt1
      have s4 := same_upd (o := .tup [.str "two", .ref t1]) nt2
      exact q.two _ t2 t1 f g wd.ns wd.ms ((s1.trans s2).trans (s3.trans s4)) (SqT.of upd_same) (Same.tup s4 (SqT.of upd_same)) (Same.tup (s3.trans s4) w2) (Same.tup (s3.trans s4) w3) hO.ns hO.ms

end
end K11
set_option Elab.async false
set_option linter.all false
set_option maxRecDepth 100000
set_option maxHeartbeats 4000000
namespace K11
open PySem PySem.Spec PyProof.Rows L2

/-! ### values of any kind -/
def tyN : PyData → String
  | .none => "NoneType" | .bool _ => "bool" | .int _ => "int" | .str _ => "str" | .list _ => "list" | .tuple _ => "tuple" | .dict _ => "dict"
def isT : PyData → Bool | .tuple _ => true | _ => false
def isS : PyData → Bool | .str _ => true | _ => false
def isB : PyData → Bool | .bool _ => true | _ => false
def isI : PyData → Bool | .int _ => true | .bool _ => true | _ => false
def isL : PyData → Bool | .list _ => true | _ => false
theorem Dp.tyx {K : PySem.W.Frag} {H : Hp} {v : V} {d : PyData} (h : Dp K H v d) : TyX K H v (.type (tyN d)) := by
  cases h with
  | non => exact .base .non
  | bl b => exact .base (.bl b)
  | int i => exact .base (.int i)
  | str x => exact .base (.str x)
  | lst h _ => exact tyx_lst h
  | tup h _ => exact tyx_tup h
theorem kb_tup (d : PyData) : kitB (tyN d) "tuple" = some (isT d) := by
  have h1 : kitB "NoneType" "tuple" = some false := by decide +kernel
  have h2 : kitB "bool" "tuple" = some false := by decide +kernel
  have h3 : kitB "int" "tuple" = some false := by decide +kernel
  have h4 : kitB "str" "tuple" = some false := by decide +kernel
  have h5 : kitB "list" "tuple" = some false := by decide +kernel
  have h6 : kitB "tuple" "tuple" = some true := by decide +kernel
  have h7 : kitB "dict" "tuple" = some false := by decide +kernel
  cases d <;> assumption
theorem kb_str (d : PyData) : kitB (tyN d) "str" = some (isS d) := by
  have h1 : kitB "NoneType" "str" = some false := by decide +kernel
  have h2 : kitB "bool" "str" = some false := by decide +kernel
  have h3 : kitB "int" "str" = some false := by decide +kernel
  have h4 : kitB "str" "str" = some true := by decide +kernel
  have h5 : kitB "list" "str" = some false := by decide +kernel
  have h6 : kitB "tuple" "str" = some false := by decide +kernel
  have h7 : kitB "dict" "str" = some false := by decide +kernel
  cases d <;> assumption
theorem kb_int (d : PyData) : kitB (tyN d) "int" = some (isI d) := by
  have h1 : kitB "NoneType" "int" = some false := by decide +kernel
  have h2 : kitB "bool" "int" = some true := by decide +kernel
  have h3 : kitB "int" "int" = some true := by decide +kernel
  have h4 : kitB "str" "int" = some false := by decide +kernel
  have h5 : kitB "list" "int" = some false := by decide +kernel
  have h6 : kitB "tuple" "int" = some false := by decide +kernel
  have h7 : kitB "dict" "int" = some false := by decide +kernel
  cases d <;> assumption
theorem kb_bool (d : PyData) : kitB (tyN d) "bool" = some (isB d) := by
  have h1 : kitB "NoneType" "bool" = some false := by decide +kernel
  have h2 : kitB "bool" "bool" = some true := by decide +kernel
  have h3 : kitB "int" "bool" = some false := by decide +kernel
  have h4 : kitB "str" "bool" = some false := by decide +kernel
  have h5 : kitB "list" "bool" = some false := by decide +kernel
  have h6 : kitB "tuple" "bool" = some false := by decide +kernel
  have h7 : kitB "dict" "bool" = some false := by decide +kernel
  cases d <;> assumption
theorem isiD {K : PySem.W.Frag} {H : Hp} {v : V} {d : PyData} {c : String} {b : Bool} {Q : VK} (h : Dp K H v d) (e : kitB (tyN d) c = some b) (q : Q (.bl b) H) : rIsi K [v, .ty c] H Q := ⟨v, .ty c, .type (tyN d), .type c, b, rfl, .ty _, Dp.tyx h, kit_ty e, q⟩
theorem Dp.tupI {K : PySem.W.Frag} {H : Hp} {v : V} {ds : List PyData} (h : Dp K H v (.tuple ds)) : ∃ a vs, v = .ref a ∧ SqT K H a vs ∧ DpAll K H vs ds := by
  cases h with
  | tup a b => exact ⟨_, _, rfl, a, b⟩
/-! ### the mirrors on values of any kind -/
def strOf : PyData → S | .str x => x.cps.toList | _ => []
def memD : PyData → Bool | .str x => memS x.cps.toList | _ => false
def closedM (code : List S) : PyData → Bool | .tuple ds => decide (ds.length ≤ 64) && ds.all memD && closedL code (ds.map strOf) | _ => false
theorem dp_mem {K : PySem.W.Frag} {H : Hp} : ∀ {ds : List PyData} {vs : List V}, DpAll K H vs ds → ds.all memD = true → vs = (ds.map strOf).map Sv ∧ (ds.map strOf).all memS = true
  | [], _, h, _ => by cases h; exact ⟨rfl, rfl⟩
  | d :: ds, _, h, e => by
    cases h with
    | cons a b =>
      rw [List.all_cons, Bool.and_eq_true] at e
      obtain ⟨i1, i2⟩ := dp_mem b e.2
      cases d with
      | str x =>
        cases a
        refine ⟨?_, ?_⟩
        · rw [List.map_cons, List.map_cons, ← i1]
          show V.str x :: _ = V.str (mk x.cps.toList) :: _
          rw [← mk_of x]
        · rw [List.map_cons, List.all_cons, i2]
          show (memS x.cps.toList && true) = true
          rw [show memS x.cps.toList = true from e.1]
          rfl
      | _ => exact absurd e.1 (by simp [memD])
theorem walk_zipT {K : PySem.W.Frag} {a b : Addr} {xs ys : List V} {n : Nat} (hn : n = min xs.length ys.length) : Walk (RZ.ItzT K a b) n (fun H => SqT K H a xs ∧ SqT K H b ys) (YPair (fun i => xs[i]?) (fun i => ys[i]?)) := by
  subst hn
  refine ⟨fun i _ hi q => ⟨xs, ys, xs[i]'(by omega), ys[i]'(by omega), q.1, q.2, List.getElem?_eq_getElem _, List.getElem?_eq_getElem _⟩, fun H q => ⟨xs, ys, q.1, q.2, ?_⟩, fun i H v H' _ q y => ?_⟩
  · omega
  · obtain ⟨t, x, y, h1, h2, h3, h4, h5⟩ := y
    exact ⟨t, x, y, h1, h2, h3, h4 xs q.1, h5 ys q.2⟩
section
variable {P : Program} {w : World} {K : PySem.W.Frag} {mg : Str → Option Value} {base : Heap}

/-! ### is_member -/
abbrev nMember : List Str := ["value", "letter"]
def spMember (K : PySem.W.Frag) : Sp := fun vs H Q _ => ∃ (v : V) (d : PyData), vs = [v] ∧ Dp K H v d ∧ (∀ x, d = .str x → x.length ≤ 1000) ∧ ∀ H', Same H H' → Q (.bl (memD d)) H'
theorem scMember : FnScope nMember ["value"] (defScope sMember) := ⟨rfl, rfl, rfl, by decide +kernel, rfl, by decide +kernel, by decide +kernel⟩
theorem ok_member {f : Addr} {fd : FuncData} (F : Fun K "is_member" "is_member" sMember f fd) (T : Glo mg) : FnOk P w K mg base CX0 1 f fd ["value"] (spMember K) := by
  refine F.ok scMember (fun vs H Q E h => ?_) (fun cdv A outer s H vs Q E hr h => ?_)
  · obtain ⟨v, d, rfl, _⟩ := h
    rfl
  · obtain ⟨v, d, rfl, hd, hx, q⟩ := h
    obtain ⟨t5, h5⟩ := T.mostLetters
    refine ⟨_, pss_cons (ps_if (PW.pt (pw_or (pt_not (pt_val (pe_callB call_isi (by rfl) T.isinstance boot_isinstance (pa_cons (pv 0) (pa_cons (pe_bltn (v := .ty "str") (by rfl) T.str boot_str rfl) pa_nil)))))
        (pw_or1 (pt_not (pt_chain op_le op_le pe_int (pe_callB call_len_str (by rfl) T.len PySem.boot_len (pa_cons (pv 0) pa_nil)) (pe_glob (v := .int 5) (by rfl) h5 ⟨_, rfl⟩))))))
        (pss_one (ps_ret pe_bl)) pss_nil)
      (pss_one (ps_ret (pe_callB (cr_all rfl) (by rfl) T.all boot_all (pa_cons
        (pe_lc (own := [("letter", 1)]) (g := gName 1) (tt := tYes) rfl scMember.nd (pi_str (pv 0)) (blkOk_by (N := nMember) (sc := defScope sMember) (by decide +kernel))
          (fun _ _ _ _ _ => pg_name (i := 1) scMember.nd rfl (Or.inl rfl)) (fun _ _ _ _ _ => pts_nil)
          (fun _ _ _ _ _ => pe_cmpR op_in_sign (pv 1) pe_str (by rfl))) pa_nil)))), ?_⟩
    refine ⟨v, rfl, v, .ty "str", _, .type "str", _, rfl, .ty _, Dp.tyx hd, kit_ty (kb_str d), _, rfl, ?_⟩
    by_cases hs : ∃ x, d = .str x
    · obtain ⟨x, rfl⟩ := hs
      obtain ⟨z, rfl⟩ : ∃ z, x = mk z := ⟨_, mk_of x⟩
      cases hd
      have hz := hx _ rfl
      rw [mk_len] at hz
      have em : memD (.str (mk z)) = memS z := by
        show memS (mk z).cps.toList = _
        rw [mk_list]
      rw [em] at q
      refine iteF ⟨_, rfl, mk z, rfl, small_line (by rw [mk_len]; omega), _, _, rfl, rfl, _, rfl, ?_⟩
      by_cases h1 : 1 ≤ z.length
      · refine iteDT (by rw [mk_len]; omega) ⟨_, _, rfl, rfl, _, rfl, ?_⟩
        by_cases h2 : z.length ≤ 5
        · rw [decide_eq_true (by rw [mk_len]; omega)]
          refine iteF ⟨_, rfl, mk z, rfl, fun D hD => lc_all walk_str hD (z.map fun c => decide (c ∈ [97, 98, 99])) (by simp [mk]) (small_lt (by simp [mk]; omega)) (fun _ _ => trivial) (fun i x H1 H2 k hi s1 y hk => ?_) fun H1 s1 e1 => ⟨D, _, rfl, SqL.of e1, ?_⟩⟩
          · obtain ⟨rfl, c, hc1, rfl⟩ := y
            have hcz : z[i]? = some c := by
              rw [← Array.getElem?_toList, mk_list] at hc1
              exact hc1
            refine ⟨rfl, _, rfl, c, _, rfl, rfl, hk _ _ ?_ (Same.refl _)⟩
            rw [List.getElem?_map, hcz, abc_mk, mk_list]
            rfl
          · have e : memS z = ((z.map fun c => decide (c ∈ [97, 98, 99])).all id) := by
              rw [all_map]
              unfold memS
              rw [decide_eq_true h1, decide_eq_true h2]
              rfl
            rw [e] at q
            exact q H1 s1
        · rw [decide_eq_false (by rw [mk_len]; omega)]
          have e : memS z = false := by
            unfold memS
            rw [decide_eq_false h2]
            simp
          rw [e] at q
          exact iteT (q H (Same.refl H))
      · refine iteDF (by rw [mk_len]; omega) ?_
        have e : memS z = false := by
          unfold memS
          rw [decide_eq_false h1]
          simp
        rw [e] at q
        exact ⟨false, rfl, iteT (q H (Same.refl H))⟩
    · have e1 : isS d = false := by cases d <;> first | rfl | exact absurd ⟨_, rfl⟩ hs
      have e2 : memD d = false := by cases d <;> first | rfl | exact absurd ⟨_, rfl⟩ hs
      rw [e1]
      rw [e2] at q
      exact iteT (q H (Same.refl H))
end
end K11
set_option Elab.async false
set_option linter.all false
set_option maxRecDepth 100000
set_option maxHeartbeats 4000000
namespace K11
open PySem PySem.Spec PyProof.Rows L2
/-- the scope of the comprehension that a call's first argument is -/
def lcSc : Expr → Scope
  | .Call _ (.ListComp _ _ sc _ :: _) _ _ => sc
  | _ => { kind := .function, names := [], isGenerator := false, isCoroutine := false }
def retE : Stmt → Expr
  | .Return (some e) _ => e
  | _ => .Constant .none 0 ⟨0, 0, 0, 0⟩
def lastS (st : Stmt) : Stmt := (defBody st).getLast?.getD (.Pass ⟨0, 0, 0, 0⟩)
section
variable {P : Program} {w : World} {K : PySem.W.Frag} {mg : Str → Option Value} {base : Heap}

/-! ### is_closed -/
abbrev nClosed : List Str := ["code", "value", "rest", "one", "other", "number", "beyond", "more"]
def spClosed (K : PySem.W.Frag) : Sp := fun vs H Q _ => ∃ (c : Addr) (v : V) (code : List S) (d : PyData), vs = [.ref c, v] ∧ SqT K H c (code.map Sv) ∧ Small code ∧ Dp K H v d ∧ (∀ ds x, d = .tuple ds → PyData.str x ∈ ds → x.length ≤ 1000) ∧ ∀ H', Same H H' → Q (.bl (closedM code d)) H'
theorem scClosed : FnScope nClosed ["code", "value"] (defScope sClosed) := ⟨rfl, rfl, rfl, by decide +kernel, rfl, by decide +kernel, by decide +kernel⟩
theorem ok_closed {f : Addr} {fd : FuncData} (F : Fun K "is_closed" "is_closed" sClosed f fd) (T : Glo mg) (M : Kn P w K mg base 1 "is_member" ["value"] (spMember K)) (S1 : Kn P w K mg base 1 "first_steps" ["code"] (spFirst K)) (S2 : Kn P w K mg base 1 "steps_from" ["code", "rest"] (spSteps K)) :
    FnOk P w K mg base CX0 2 f fd ["code", "value"] (spClosed K) := by
  obtain ⟨fM, fdM, GM, bM, gM, kM⟩ := M
  obtain ⟨f1, fd1, G1, b1, g1, k1⟩ := S1
  obtain ⟨f2, fd2, G2, b2, g2, k2⟩ := S2
  refine F.ok scClosed (fun vs H Q E h => ?_) (fun cdv A outer s H vs Q E hr h => ?_)
  · obtain ⟨c, v, code, d, rfl, _⟩ := h
    rfl
  · obtain ⟨c, v, code, d, rfl, hC, sm, hd, hx, q⟩ := h
    obtain ⟨t64, h64⟩ := T.members
    have nd := scClosed.nd
    refine ⟨_, pss_cons (ps_if (PW.pt (pw_or (pt_not (pt_val (pe_callB call_isi (by rfl) T.isinstance boot_isinstance (pa_cons (pv 1) (pa_cons (pe_bltn (v := .ty "tuple") (by rfl) T.tuple boot_tuple rfl) pa_nil)))))
        (pw_or (pt_cmpR op_gt (pe_callB call_len_seq (by rfl) T.len PySem.boot_len (pa_cons (pv 1) pa_nil)) (pe_glob (v := .int 64) (by rfl) h64 ⟨_, rfl⟩) (nomark _))
        (pw_or1 (pt_not (pt_val (pe_callB (cr_all rfl) (by rfl) T.all boot_all (pa_cons
          (pe_lc (own := [("rest", 2)]) (g := gName 2) (tt := tYes) rfl nd (pi_tup (pv 1)) (blkOk_by (N := nClosed) (sc := defScope sClosed) (by decide +kernel))
            (fun _ _ _ _ _ => pg_name (i := 2) nd rfl (Or.inl rfl)) (fun _ _ _ _ _ => pts_nil)
            (fun _ _ _ _ _ => pe_call GM hr (by rfl) gM kM bM .nil pass0 (pa_cons (pv 2) pa_nil))) pa_nil))))))))
        (pss_one (ps_ret pe_bl)) pss_nil)
      (pss_cons (ps_if (pt_not (pt_val (pe_callB (cr_all rfl) (by rfl) T.all boot_all (pa_cons
          (pe_lc (own := [("one", 3), ("other", 4)]) (g := gTup K 2 (gCons (gName 3) (gCons (gName 4) gNil))) (tt := tYes) rfl nd (RZ.pi_zipA (by rfl) T.zip (pa_cons (pv 1) (pa_cons (pe_slice (r := rSlA K) sl_tupA (pv 1) (po_some pe_int) po_none) pa_nil))) (blkOk_by (N := nClosed) (sc := defScope sClosed) (by decide +kernel))
            (fun _ _ _ _ _ => pg_tup rfl (pgs_cons (pg_name (i := 3) nd rfl (.inl rfl)) (pgs_cons (pg_name (i := 4) nd rfl (.inl rfl)) pgs_nil))) (fun _ _ _ _ _ => pts_nil)
            (fun _ _ _ _ _ => pe_cmpR op_lt_str (pv 3) (pv 4) (nomark _))) pa_nil))))
        (pss_one (ps_ret pe_bl)) pss_nil)
      (pss_cons (ps_if (pt_not (pt_val (pe_callB (cr_all rfl) (by rfl) T.all boot_all (pa_cons
          (pe_lc (own := [("one", 3), ("other", 4), ("rest", 2)]) (g := gTup K 3 (gCons (gName 3) (gCons (gName 4) (gCons (gName 2) gNil)))) (tt := tYes) rfl nd (pi_list (pe_call G1 hr (by rfl) g1 k1 b1 .nil pass0 (pa_cons (pv 0) pa_nil))) (blkOk_by (N := nClosed) (sc := defScope sClosed) (by decide +kernel))
            (fun _ _ _ _ _ => pg_tup rfl (pgs_cons (pg_name (i := 3) nd rfl (.inl rfl)) (pgs_cons (pg_name (i := 4) nd rfl (.inl rfl)) (pgs_cons (pg_name (i := 2) nd rfl (.inl rfl)) pgs_nil)))) (fun _ _ _ _ _ => pts_nil)
            (fun _ _ _ _ _ => pe_cmpR (r := rIn K false) op_in_seq (pv 2) (pv 1) (by rfl))) pa_nil))))
        (pss_one (ps_ret pe_bl)) pss_nil)
      (pss_one (ps_ret (pe_callB (cr_all rfl) (by rfl) T.all boot_all (pa_cons
          (pe_lc (own := [("rest", 2)]) (g := gName 2) (tt := tYes) rfl nd (pi_tup (pv 1)) (blkOk_by (N := nClosed) (sc := defScope sClosed) (by decide +kernel))
            (fun _ _ _ _ _ => pg_name (i := 2) nd rfl (Or.inl rfl)) (fun _ _ _ _ _ => pts_nil)
            (fun _ _ _ _ _ => pe_callB (r := rAll K) (cr_all rfl) (by rfl) T.all boot_all (pa_cons
              (pe_lc (own := [("number", 5), ("beyond", 6), ("more", 7)]) (wi := iList K _) (g := gTup K 3 (gCons (gName 5) (gCons (gName 6) (gCons (gName 7) gNil)))) (tt := tYes) rfl nd (pi_list (pe_call G2 hr (by rfl) g2 k2 b2 .nil pass0 (pa_cons (pv 0) (pa_cons (pv 2) pa_nil))))
                (blkOk_by (N := nClosed) (sc := relS (lcSc (retE (lastS sClosed))) (defScope sClosed)) (by decide +kernel))
                (fun _ _ _ _ _ => pg_tup rfl (pgs_cons (pg_name (i := 5) nd rfl (.inl rfl)) (pgs_cons (pg_name (i := 6) nd rfl (.inl rfl)) (pgs_cons (pg_name (i := 7) nd rfl (.inl rfl)) pgs_nil)))) (fun _ _ _ _ _ => pts_nil)
                (fun _ _ _ _ _ => pe_cmpR (r := rIn K false) op_in_seq (pv 7) (pv 1) (by rfl))) pa_nil))) pa_nil)))))), ?_⟩
    refine ⟨v, rfl, v, .ty "tuple", _, .type "tuple", _, rfl, .ty _, Dp.tyx hd, kit_ty (kb_tup d), _, rfl, ?_⟩
    by_cases hs : ∃ ds, d = .tuple ds
    · obtain ⟨ds, rfl⟩ := hs
      obtain ⟨p, vs, rfl, hp, hall⟩ := Dp.tupI hd
      have hvl := DpAll.len hall
      refine iteF ⟨.ref p, rfl, p, _, rfl, .inr hp, _, _, rfl, rfl, _, rfl, ?_⟩
      by_cases h1 : ds.length ≤ 64
      · refine iteDF (by omega) ⟨.ref p, rfl, p, rfl, ⟨_, hp⟩, fun D hD => lc_all walk_tup hD (ds.map memD) (by rw [List.length_map, hvl]) (small_lt (by omega)) (fun H1 s1 => Same.tup s1 hp) (fun i x H1 H2 k hi s1 y hk => ?_) fun H1 s1 e1 => ⟨D, _, rfl, SqL.of e1, ?_⟩⟩
        · obtain ⟨rfl, hx1⟩ := y
          obtain ⟨e, he, hde⟩ := DpAll.get hall hx1
          exact ⟨rfl, _, rfl, x, e, rfl, Dp.same s1 hde, (fun z hz => hx ds z rfl (hz ▸ List.mem_of_getElem? he)), fun H3 s3 => hk _ H3 (at_map he) s3⟩
        · rw [all_map]
          refine ⟨_, rfl, ?_⟩
          by_cases h2 : ds.all memD = true
          · rw [h2]
            obtain ⟨evs, hxm⟩ := dp_mem hall h2
            have hxl : (ds.map strOf).length = ds.length := List.length_map _
            have e : closedM code (.tuple ds) = closedL code (ds.map strOf) := by
              show (decide (ds.length ≤ 64) && ds.all memD && closedL code (ds.map strOf)) = _
              rw [decide_eq_true h1, h2, Bool.true_and, Bool.true_and]
            rw [e] at q
            generalize ds.map strOf = xs at evs hxm hxl q
            subst evs
            have ec : closedL code xs = (asc xs && (pairs code).all (fun r => decide (r ∈ xs)) && xs.all fun r => (on code r).all fun m => decide (m ∈ xs)) := by
              unfold closedL
              rw [decide_eq_true (show xs.length ≤ 64 by omega), hxm, Bool.true_and, Bool.true_and]
            rw [ec] at q
            have hp1 := Same.tup s1 hp
            have hC1 := Same.tup s1 hC
            -- ascending
            refine iteF ⟨.ref p, rfl, .ref p, rfl, 1, rfl, ?_⟩
            unfold tNoPart
            show rSlA K _ _ _ _ _
            refine slA hp1 fun z H2 s2 hz => ?_
            have ez : cutV (xs.map Sv) (some 1) none = (xs.drop 1).map Sv := by
              have := cut_drop (xs.map Sv) 1
              rw [List.map_drop]
              exact this
            rw [ez] at hz
            refine ⟨p, z, _, _, rfl, .inr ⟨Same.tup s2 hp1, hz, fun D hD => lc_all (walk_zipT rfl) hD ((xs.zip (xs.drop 1)).map fun q => decide (q.1 < q.2)) (by simp) (small_lt (by simp; omega)) (fun H3 s3 => ⟨Same.tup s3 (Same.tup s2 hp1), Same.tup s3 hz⟩) (fun i x H3 H4 k hi s3 y hk => ?_) fun H3 s3 e3 => ⟨D, _, rfl, SqL.of e3, ?_⟩⟩⟩
            · obtain ⟨A1, x1, x2, rfl, hA, rfl, hx1, hx2⟩ := y
              obtain ⟨y1, ey1, rfl⟩ := map_at hx1
              obtain ⟨y2, ey2, rfl⟩ := map_at hx2
              refine ⟨A1, _, rfl, SqT.of upd_same, rfl, _, _, rfl, _, _, rfl, rfl, rfl, ?_⟩
              refine ⟨_, rfl, _, rfl, _, _, rfl, rfl, ?_⟩
              rw [lt_mk]
              refine hk _ _ ?_ (same_upd hA)
              have ez2 : (xs.zip (xs.drop 1))[i]? = some (y1, y2) := List.getElem?_zip_eq_some.mpr ⟨ey1, ey2⟩
              rw [List.getElem?_map, ez2]
              rfl
            · rw [all_map]
              refine ⟨_, rfl, ?_⟩
              have s13 := s1.trans (s2.trans s3)
              have s03 := s2.trans s3
              by_cases h3 : asc xs = true
              · rw [show (xs.zip (xs.drop 1)).all (fun q => decide (q.1 < q.2)) = true from h3]
                rw [h3, Bool.true_and] at q
                -- the first steps
                refine iteF ⟨.ref c, rfl, c, code, rfl, Same.tup s13 hC, sm.few, sm.word, fun H4 g s4 ng R4 => ⟨g, rfl, (let ⟨as, h, _⟩ := R4; ⟨_, SqL.of h⟩), fun D4 nD4 => ?_⟩⟩
                obtain ⟨as, h4, hl4, _⟩ := id R4
                have hp4 := Same.tup s4 (Same.tup s03 hp1)
                rw [List.length_map] at hl4
                refine lc_all (walk_list (xs := as.map V.ref)) nD4 ((firstT code).map fun t => decide (t.2.2 ∈ xs)) (by rw [List.length_map, List.length_map, hl4]) (small_lt ?_) (fun H5 s5 => SqL.of (s5 _ _ h4)) (fun i x H5 H6 k hi s5 y hk => ?_) fun H5 s5 e5 => ⟨D4, _, rfl, SqL.of e5, ?_⟩
                · rw [List.length_map, hl4]
                  have := len_pairs code
                  have e : (firstT code).length = (pairs code).length := by rw [← firstT_rest, List.length_map]
                  rw [e]
                  have := Nat.mul_le_mul sm.few sm.few
                  omega
                · obtain ⟨rfl, hx5⟩ := y
                  obtain ⟨a, ha, rfl⟩ := map_at hx5
                  obtain ⟨r, hr', ht⟩ := (RowsAt.get (RowsAt.same s5 R4) (s5 _ _ h4)).2 i a ha
                  obtain ⟨t, ht3, rfl⟩ := map_at hr'
                  refine ⟨a, _, rfl, ht, rfl, _, _, rfl, _, _, rfl, _, _, rfl, rfl, rfl, ?_⟩
                  refine ⟨_, rfl, _, rfl, p, _, rfl, .inr (Same.tup s5 hp4), rfl, flat_sv _, ?_⟩
                  show k (.bl (inV (Sv t.2.2) (xs.map Sv))) _
                  rw [in_sv]
                  exact hk _ _ (at_map ht3) (Same.refl _)
                · rw [all_map]
                  refine ⟨_, rfl, ?_⟩
                  have ef : (firstT code).all (fun t => decide (t.2.2 ∈ xs)) = (pairs code).all (fun r => decide (r ∈ xs)) := by
                    rw [← firstT_rest, List.all_map]
                    rfl
                  rw [ef]
                  by_cases h5 : (pairs code).all (fun r => decide (r ∈ xs)) = true
                  · rw [h5]
                    rw [h5, Bool.true_and] at q
                    have s15 := s13.trans (s4.trans s5)
                    have hp5 := Same.tup s15 hp
                    have hC5 := Same.tup s15 hC
                    refine iteF ⟨.ref p, rfl, p, rfl, ⟨_, hp5⟩, fun D5 nD5 => lc_all walk_tup nD5 (xs.map fun r => (on code r).all fun m => decide (m ∈ xs)) (by rw [List.length_map, List.length_map]) (small_lt (by rw [List.length_map]; omega)) (fun H6 s6 => Same.tup s6 hp5) (fun i x H6 H7 k hi s6 y hk => ?_) fun H6 s6 e6 => ⟨D5, _, rfl, SqL.of e6, ?_⟩⟩
                    · obtain ⟨rfl, hx6⟩ := y
                      obtain ⟨r, er, rfl⟩ := map_at hx6
                      have hrm : memS r = true := List.all_eq_true.mp hxm r (List.mem_of_getElem? er)
                      have hr5 := (memS_iff.mp hrm).2.1
                      refine ⟨rfl, .ref c, rfl, Sv r, rfl, c, code, r, rfl, Same.tup s6 hC5, sm.few, sm.word, by omega, fun H8 g8 s8 ng8 R8 => ⟨g8, rfl, (let ⟨as, h, _⟩ := R8; ⟨_, SqL.of h⟩), fun D8 nD8 => ?_⟩⟩
                      obtain ⟨as8, h8, hl8, _⟩ := id R8
                      rw [List.length_map] at hl8
                      have hp8 := Same.tup s8 (Same.tup s6 hp5)
                      refine lc_all (walk_list (xs := as8.map V.ref)) nD8 ((stepT code r).map fun t => decide (t.2.2 ∈ xs)) (by rw [List.length_map, List.length_map, hl8]) (small_lt ?_) (fun H9 s9 => SqL.of (s9 _ _ h8)) (fun i9 x9 H9 H10 k9 hi9 s9 y9 hk9 => ?_) fun H9 s9 e9 => ⟨D8, _, rfl, SqL.of e9, ?_⟩
                      · rw [List.length_map, hl8]
                        have := stepT_len code r
                        have := sm.few
                        omega
                      · obtain ⟨rfl, hx9⟩ := y9
                        obtain ⟨a, ha, rfl⟩ := map_at hx9
                        obtain ⟨r9, hr', ht⟩ := (RowsAt.get (RowsAt.same s9 R8) (s9 _ _ h8)).2 i9 a ha
                        obtain ⟨t, ht3, rfl⟩ := map_at hr'
                        refine ⟨a, _, rfl, ht, rfl, _, _, rfl, _, _, rfl, _, _, rfl, rfl, rfl, ?_⟩
                        refine ⟨_, rfl, _, rfl, p, _, rfl, .inr (Same.tup s9 hp8), rfl, flat_sv _, ?_⟩
                        show k9 (.bl (inV (Sv t.2.2) (xs.map Sv))) _
                        rw [in_sv]
                        exact hk9 _ _ (at_map ht3) (Same.refl _)
                      · rw [all_map]
                        have es : (stepT code r).all (fun t => decide (t.2.2 ∈ xs)) = (on code r).all (fun m => decide (m ∈ xs)) := by
                          rw [← stepT_rest, List.all_map]
                          rfl
                        rw [es]
                        exact hk _ _ (at_map er) (s8.trans s9)
                    · rw [all_map]
                      exact q H6 (s15.trans s6)
                  · have h5 : (pairs code).all (fun r => decide (r ∈ xs)) = false := by simpa using h5
                    rw [h5]
                    rw [h5, Bool.false_and] at q
                    exact iteT (q H5 (s13.trans (s4.trans s5)))
              · have h3 : asc xs = false := by simpa using h3
                rw [show (xs.zip (xs.drop 1)).all (fun q => decide (q.1 < q.2)) = false from h3]
                rw [h3, Bool.false_and, Bool.false_and] at q
                exact iteT (q H3 s13)
          · have h2 : ds.all memD = false := by simpa using h2
            have e : closedM code (.tuple ds) = false := by
              show (decide (ds.length ≤ 64) && ds.all memD && _) = false
              rw [h2, Bool.and_false, Bool.false_and]
            rw [h2]
            rw [e] at q
            exact iteT (q H1 s1)
      · have e : closedM code (.tuple ds) = false := by
          show (decide (ds.length ≤ 64) && ds.all memD && _) = false
          rw [decide_eq_false h1, Bool.false_and, Bool.false_and]
        rw [e] at q
        exact iteDT (by omega) (q H (Same.refl H))
    · have e1 : isT d = false := by cases d <;> first | rfl | exact absurd ⟨_, rfl⟩ hs
      have e2 : closedM code d = false := by cases d <;> first | rfl | exact absurd ⟨_, rfl⟩ hs
      rw [e1]
      rw [e2] at q
      exact iteT (q H (Same.refl H))
end
end K11
set_option Elab.async false
set_option linter.all false
set_option maxRecDepth 100000
set_option maxHeartbeats 4000000
namespace K11
open PySem PySem.Spec PyProof.Rows L2
theorem joinL_nil : ∀ parts : List (List Nat), TL.joinL [] parts = parts.flatten
  | [] => rfl
  | [p] => by simp [TL.joinL]
  | p :: q :: r => by
    show p ++ ([] ++ TL.joinL [] (q :: r)) = _
    rw [joinL_nil (q :: r)]
    simp
theorem join_mk (ss : List S) : Txt.join "" (ss.map mk) = mk ss.flatten := by
  rw [TL.join_eq]
  have h := TL.tl_join "" (ss.map mk)
  have e : (ss.map mk).map TL.tl = ss := by
    rw [List.map_map]
    have : (TL.tl ∘ mk) = id := funext fun s => mk_list s
    rw [this, List.map_id]
  rw [e, show TL.tl "" = [] from rfl, joinL_nil] at h
  rw [mk_of (Str.join "" (ss.map mk))]
  exact congrArg mk h
theorem join_len (ss : List S) (n : Nat) (h : ∀ s ∈ ss, s.length ≤ n) : ((ss.map mk).map (·.length)).sum + (ss.map mk).length * (0 : Nat) ≤ ss.length * n := by
  rw [Nat.mul_zero, Nat.add_zero]
  induction ss with
  | nil => simp
  | cons s ss ih =>
    have := ih fun s hs => h s (List.mem_cons_of_mem _ hs)
    have h1 := h s List.mem_cons_self
    rw [List.map_cons, List.map_cons, List.sum_cons, mk_len, List.length_cons, Nat.succ_mul]
    omega
/-! ### parses -/
def numD (n : Nat) : PyData → Bool | .int i => decide (0 ≤ i) && decide (i < (n : Int)) | _ => false
def natOf : PyData → Nat | .int i => i.toNat | _ => 0
def parseM (n : Nat) : PyData → Bool | .tuple ds => decide (ds.length ≤ 100) && ds.all (numD n) | _ => false
def numsOf : PyData → List Nat | .tuple ds => ds.map natOf | _ => []
def twoM (code : List S) : PyData → Bool
  | .tuple [p, q] => parseM code.length p && parseM code.length q && !PyData.eqv p q && decide (cat code (numsOf p) = cat code (numsOf q))
  | _ => false
def acceptsM (code : List S) : PyData → Bool
  | .tuple [.str x, e] => if x = "unique" then closedM code e else decide (x = "two") && twoM code e
  | _ => false
abbrev intD (ns : List Nat) : List PyData := ns.map fun n : Nat => PyData.int (n : Int)
theorem dp_nums {K : PySem.W.Frag} {H : Hp} {n : Nat} : ∀ {ds : List PyData} {vs : List V}, DpAll K H vs ds → ds.all (numD n) = true → vs = (ds.map natOf).map Iv ∧ (∀ k ∈ ds.map natOf, k < n) ∧ ds = intD (ds.map natOf)
  | [], _, h, _ => by cases h; exact ⟨rfl, (fun k hk => by cases hk), rfl⟩
  | d :: ds, _, h, e => by
    cases h with
    | cons a b =>
      rw [List.all_cons, Bool.and_eq_true] at e
      obtain ⟨i1, i2, i3⟩ := dp_nums b e.2
      cases d with
      | int i =>
        cases a
        have hi : 0 ≤ i ∧ i < (n : Int) := by simpa [numD] using e.1
        have ei : ((i.toNat : Nat) : Int) = i := Int.toNat_of_nonneg hi.1
        refine ⟨?_, ?_, ?_⟩
        · rw [List.map_cons, List.map_cons, ← i1]
          show V.int i :: _ = V.int ((i.toNat : Nat) : Int) :: _
          rw [ei]
        · intro k hk
          rw [List.map_cons, List.mem_cons] at hk
          rcases hk with rfl | hk
          · show i.toNat < n
            omega
          · exact i2 k hk
        · show _ = PyData.int ((i.toNat : Nat) : Int) :: intD (ds.map natOf)
          rw [ei, ← i3]
      | _ => exact absurd e.1 (by simp [numD])
theorem canLay_nats : ∀ ns : List Nat, PyData.canLayAll0 (intD ns) = true
  | [] => rfl
  | n :: ns => by
    have := canLay_nats ns
    simp only [intD, List.map_cons, PyData.canLayAll0, PyData.canLay0, Bool.true_and] at this ⊢
    exact this
theorem shaped_nats (ns : List Nat) : SeqAt.shaped (.tuple (intD ns)) = true := by
  unfold SeqAt.shaped
  have h1 : PyData.canLay0 (.tuple (intD ns)) = true := by simp only [PyData.canLay0, canLay_nats]
  have h2 : PyData.depth (.tuple (intD ns)) ≤ 64 := by
    simp only [PyData.depth, intD, depth_ints]
    decide
  rw [h1, decide_eq_true h2]
  rfl
theorem eqv_nats : ∀ ns ms : List Nat, PyData.eqvAll (intD ns) (intD ms) = decide (ns = ms)
  | [], [] => rfl
  | [], _ :: _ => rfl
  | _ :: _, [] => rfl
  | n :: ns, m :: ms => by
    have ih := eqv_nats ns ms
    simp only [intD, List.map_cons, PyData.eqvAll, PyData.eqv] at ih ⊢
    rw [ih]
    by_cases h : n = m
    · subst h
      by_cases h2 : ns = ms
      · subst h2; simp
      · simp [h2]
    · have : ¬ ((n : Int) = m) := by omega
      simp [h, this]
theorem dpa_two {K : PySem.W.Frag} {H : Hp} {vs : List V} {ds : List PyData} (h : DpAll K H vs ds) (e : ds.length = 2) : ∃ x y p q, vs = [x, y] ∧ ds = [p, q] ∧ Dp K H x p ∧ Dp K H y q := by
  cases h with
  | nil => simp at e
  | cons a b =>
    cases b with
    | nil => simp at e
    | cons a2 b2 =>
      cases b2 with
      | nil => exact ⟨_, _, _, _, rfl, rfl, a, a2⟩
      | cons _ _ => simp at e
theorem twoM_len {code : List S} {ds : List PyData} (h : ds.length ≠ 2) : twoM code (.tuple ds) = false := by
  match ds, h with
  | [], _ => rfl
  | [_], _ => rfl
  | [_, _], h => exact absurd rfl h
  | _ :: _ :: _ :: _, _ => rfl
theorem cat_get {code : List S} : ∀ {ns : List Nat}, (∀ n ∈ ns, n < code.length) → ∀ (i n : Nat), ns[i]? = some n → ∃ w, code[n]? = some w ∧ code.getD n [] = w := by
  intro ns h i n e
  have hn := h n (List.mem_of_getElem? e)
  refine ⟨code[n], List.getElem?_eq_getElem hn, ?_⟩
  rw [List.getD_eq_getElem?_getD, List.getElem?_eq_getElem hn]
  rfl
section
variable {P : Program} {w : World} {K : PySem.W.Frag} {mg : Str → Option Value} {base : Heap}

def rLenS (K : PySem.W.Frag) : List V → Hp → VK → Prop := fun xs H Q => ∃ p ys, xs = [V.ref p] ∧ (SqL K H p ys ∨ SqT K H p ys) ∧ Q (.int ys.length) H
/-! ### is_parse -/
abbrev nIsParse : List Str := ["code", "value", "one"]
def spIsParse (K : PySem.W.Frag) : Sp := fun vs H Q _ => ∃ (c : Addr) (v : V) (code : List S) (d : PyData), vs = [.ref c, v] ∧ SqT K H c (code.map Sv) ∧ Dp K H v d ∧ ∀ H', Same H H' → Q (.bl (parseM code.length d)) H'
theorem scIsParse : FnScope nIsParse ["code", "value"] (defScope sIsParse) := ⟨rfl, rfl, rfl, by decide +kernel, rfl, by decide +kernel, by decide +kernel⟩
theorem ok_isParse {f : Addr} {fd : FuncData} (F : Fun K "is_parse" "is_parse" sIsParse f fd) (T : Glo mg) : FnOk P w K mg base CX0 1 f fd ["code", "value"] (spIsParse K) := by
  refine F.ok scIsParse (fun vs H Q E h => ?_) (fun cdv A outer s H vs Q E hr h => ?_)
  · obtain ⟨c, v, code, d, rfl, _⟩ := h
    rfl
  · obtain ⟨c, v, code, d, rfl, hC, hd, q⟩ := h
    obtain ⟨t100, h100⟩ := T.mostWordsU
    have nd := scIsParse.nd
    refine ⟨_, pss_cons (ps_if (PW.pt (pw_or (pt_not (pt_val (pe_callB call_isi (by rfl) T.isinstance boot_isinstance (pa_cons (pv 1) (pa_cons (pe_bltn (v := .ty "tuple") (by rfl) T.tuple boot_tuple rfl) pa_nil)))))
        (pw_or1 (pt_cmpR op_gt (pe_callB call_len_seq (by rfl) T.len PySem.boot_len (pa_cons (pv 1) pa_nil)) (pe_glob (v := .int 100) (by rfl) h100 ⟨_, rfl⟩) (nomark _)))))
        (pss_one (ps_ret pe_bl)) pss_nil)
      (pss_one (ps_ret (pe_callB (cr_all rfl) (by rfl) T.all boot_all (pa_cons
          (pe_lc (own := [("one", 2)]) (g := gName 2) (tt := tYes) rfl nd (pi_tup (pv 1)) (blkOk_by (N := nIsParse) (sc := defScope sIsParse) (by decide +kernel))
            (fun _ _ _ _ _ => pg_name (i := 2) nd rfl (Or.inl rfl)) (fun _ _ _ _ _ => pts_nil)
            (fun _ _ _ _ _ => pe_and (pe_callB (r := rIsi K) call_isi (by rfl) T.isinstance boot_isinstance (pa_cons (pv 2) (pa_cons (pe_bltn (v := .ty "int") (by rfl) T.int boot_int rfl) pa_nil)))
              (pe_and (pe_not (pe_callB (r := rIsi K) call_isi (by rfl) T.isinstance boot_isinstance (pa_cons (pv 2) (pa_cons (pe_bltn (v := .ty "bool") (by rfl) T.bool boot_bool rfl) pa_nil))))
              (pe_one (pe_chain op_le op_lt pe_int (pv 2) (pe_callB (r := rLenS K) call_len_seq (by rfl) T.len PySem.boot_len (pa_cons (pv 0) pa_nil))))))) pa_nil)))), ?_⟩
    refine ⟨v, rfl, v, .ty "tuple", _, .type "tuple", _, rfl, .ty _, Dp.tyx hd, kit_ty (kb_tup d), _, rfl, ?_⟩
    by_cases hs : ∃ ds, d = .tuple ds
    · obtain ⟨ds, rfl⟩ := hs
      obtain ⟨p, vs, rfl, hp, hall⟩ := Dp.tupI hd
      have hvl := DpAll.len hall
      refine iteF ⟨.ref p, rfl, p, _, rfl, .inr hp, _, _, rfl, rfl, _, rfl, ?_⟩
      by_cases h1 : ds.length ≤ 100
      · have e : parseM code.length (.tuple ds) = ds.all (numD code.length) := by
          show (decide (ds.length ≤ 100) && _) = _
          rw [decide_eq_true h1, Bool.true_and]
        rw [e] at q
        refine iteDF (by omega) ⟨.ref p, rfl, p, rfl, ⟨_, hp⟩, fun D hD => lc_all walk_tup hD (ds.map (numD code.length)) (by rw [List.length_map, hvl]) (small_lt (by omega)) (fun H1 s1 => Same.tup s1 hp) (fun i x H1 H2 k hi s1 y hk => ?_) fun H1 s1 e1 => ⟨D, _, rfl, SqL.of e1, ?_⟩⟩
        · obtain ⟨rfl, hx1⟩ := y
          obtain ⟨e, he, hde⟩ := DpAll.get hall hx1
          have hde := Dp.same s1 hde
          have hk' := hk (numD code.length e) H2 (at_map he) (Same.refl _)
          have hC2 := Same.tup s1 hC
          refine ⟨rfl, x, rfl, x, .ty "int", _, .type "int", _, rfl, .ty _, Dp.tyx hde, kit_ty (kb_int e), _, rfl, ?_⟩
          cases hde with
          | int j =>
            refine iteT ⟨_, rfl, .int j, .ty "bool", _, .type "bool", _, rfl, .ty _, Dp.tyx (K := K) (H := H2) (Dp.int j), kit_ty (kb_bool (.int j)), false, rfl, true, rfl, iteT ?_⟩
            refine ⟨_, rfl, _, _, rfl, rfl, _, rfl, ?_⟩
            by_cases h0 : 0 ≤ j
            · refine iteDT h0 ⟨.ref c, rfl, c, _, rfl, .inr hC2, _, _, rfl, rfl, ?_⟩
              have e : numD code.length (.int j) = decide (j < ((code.map Sv).length : Int)) := by
                show (decide (0 ≤ j) && _) = _
                rw [decide_eq_true h0, Bool.true_and, List.length_map]
              rw [e] at hk'
              exact hk'
            · refine iteDF h0 ?_
              have e : numD code.length (.int j) = false := by
                show (decide (0 ≤ j) && _) = _
                rw [decide_eq_false h0, Bool.false_and]
              rw [e] at hk'
              exact hk'
          | bl b => exact iteT ⟨_, rfl, .bl b, .ty "bool", _, .type "bool", _, rfl, .ty _, Dp.tyx (K := K) (H := H2) (Dp.bl b), kit_ty (kb_bool (.bool b)), true, rfl, false, rfl, iteF hk'⟩
          | non => exact iteF hk'
          | str z => exact iteF hk'
          | lst _ _ => exact iteF hk'
          | tup _ _ => exact iteF hk'
        · rw [all_map]
          exact q H1 s1
      · have e : parseM code.length (.tuple ds) = false := by
          show (decide (ds.length ≤ 100) && _) = false
          rw [decide_eq_false h1, Bool.false_and]
        rw [e] at q
        exact iteDT (by omega) (q H (Same.refl H))
    · have e1 : isT d = false := by cases d <;> first | rfl | exact absurd ⟨_, rfl⟩ hs
      have e2 : parseM code.length d = false := by cases d <;> first | rfl | exact absurd ⟨_, rfl⟩ hs
      rw [e1]
      rw [e2] at q
      exact iteT (q H (Same.refl H))
end
end K11
set_option Elab.async false
set_option linter.all false
set_option maxRecDepth 100000
set_option maxHeartbeats 4000000
namespace K11
open PySem PySem.Spec PyProof.Rows L2
def asgSc : Stmt → Scope
  | .Assign _ (.ListComp _ _ sc _) _ => sc
  | _ => { kind := .function, names := [], isGenerator := false, isCoroutine := false }
def backS (st : Stmt) (i : Nat) : Stmt := (defBody st).reverse.getD i (.Pass ⟨0, 0, 0, 0⟩)
section
variable {P : Program} {w : World} {K : PySem.W.Frag} {mg : Str → Option Value} {base : Heap}

/-! ### are_two_parses -/
abbrev nTwo : List Str := ["code", "value", "texts", "parse", "number"]
def spTwo (K : PySem.W.Frag) : Sp := fun vs H Q _ => ∃ (c : Addr) (v : V) (code : List S) (d : PyData), vs = [.ref c, v] ∧ SqT K H c (code.map Sv) ∧ Small code ∧ Dp K H v d ∧ ∀ H', Same H H' → Q (.bl (twoM code d)) H'
theorem scTwo : FnScope nTwo ["code", "value"] (defScope sTwo) := ⟨rfl, rfl, rfl, by decide +kernel, rfl, by decide +kernel, by decide +kernel⟩
theorem ok_two {f : Addr} {fd : FuncData} (F : Fun K "are_two_parses" "are_two_parses" sTwo f fd) (T : Glo mg) (I : Kn P w K mg base 1 "is_parse" ["code", "value"] (spIsParse K)) : FnOk P w K mg base CX0 2 f fd ["code", "value"] (spTwo K) := by
  obtain ⟨fI, fdI, GI, bI, gI, kI⟩ := I
  refine F.ok scTwo (fun vs H Q E h => ?_) (fun cdv A outer s H vs Q E hr h => ?_)
  · obtain ⟨c, v, code, d, rfl, _⟩ := h
    rfl
  · obtain ⟨c, v, code, d, rfl, hC, sm, hd, q⟩ := h
    have nd := scTwo.nd
    refine ⟨_, pss_cons (ps_if (PW.pt (pw_or (pt_not (pt_val (pe_callB call_isi (by rfl) T.isinstance boot_isinstance (pa_cons (pv 1) (pa_cons (pe_bltn (v := .ty "tuple") (by rfl) T.tuple boot_tuple rfl) pa_nil)))))
        (pw_or (pt_cmpR op_ne (pe_callB call_len_seq (by rfl) T.len PySem.boot_len (pa_cons (pv 1) pa_nil)) pe_int (nomark _))
        (pw_or1 (pt_not (pt_val (pe_callB (cr_all rfl) (by rfl) T.all boot_all (pa_cons
          (pe_lc (own := [("parse", 3)]) (g := gName 3) (tt := tYes) rfl nd (pi_tup (pv 1)) (blkOk_by (N := nTwo) (sc := defScope sTwo) (by decide +kernel))
            (fun _ _ _ _ _ => pg_name (i := 3) nd rfl (Or.inl rfl)) (fun _ _ _ _ _ => pts_nil)
            (fun _ _ _ _ _ => pe_call GI hr (by rfl) gI kI bI .nil pass0 (pa_cons (pv 0) (pa_cons (pv 3) pa_nil)))) pa_nil))))))))
        (pss_one (ps_ret pe_bl)) pss_nil)
      (pss_cons (ps_setLc (i := 2) (own := [("parse", 3)]) (g := gName 3) (tt := tYes) rfl nd rfl rfl (sw_true rfl rfl rfl (by decide +kernel)) (pi_tup (pv 1)) (blkOk_by (N := nTwo) (sc := defScope sTwo) (by decide +kernel))
          (fun _ _ _ _ _ => pg_name (i := 3) nd rfl (Or.inl rfl)) (fun _ _ _ _ _ => pts_nil)
          (te := tM1 (fun x xs H Q => ∃ a p, ∃ ys : List Str, x = .str a ∧ xs = [.ref p] ∧ (SqL K H p (ys.map V.str) ∨ SqT K H p (ys.map V.str)) ∧ (ys.map (·.length)).sum + ys.length * a.length ≤ 16777216 ∧ Q (.str (Txt.join a ys)) H) _ _)
          (fun _ _ _ _ _ => pe_join pe_str
            (pe_lc (own := [("number", 4)]) (wi := iTup K _) (g := gName 4) (tt := tYes) rfl nd (pi_tup (pv 3)) (blkOk_by (N := nTwo) (sc := relS (asgSc (backS sTwo 1)) (defScope sTwo)) (by decide +kernel))
              (fun _ _ _ _ _ => pg_name (i := 4) nd rfl (Or.inl rfl)) (fun _ _ _ _ _ => pts_nil)
              (fun _ _ _ _ _ => pe_ix (r := rIxT K) ix_tup (pv 0) (pv 4) (fun _ _ => rfl)))))
      (pss_one (ps_ret (pe_and (pe_cmpR (op_neD hr.units) (pe_ix (r := rIxT K) ix_tup (pv 1) pe_int (fun _ _ => rfl)) (pe_ix (r := rIxT K) ix_tup (pv 1) pe_int (fun _ _ => rfl)) (nomark _))
        (pe_one (pe_cmpR op_eq (pe_ix (r := rIxL K) ix_list (pv 2) pe_int (fun _ _ => rfl)) (pe_ix (r := rIxL K) ix_list (pv 2) pe_int (fun _ _ => rfl)) (nomark _))))))), ?_⟩
    refine ⟨v, rfl, v, .ty "tuple", _, .type "tuple", _, rfl, .ty _, Dp.tyx hd, kit_ty (kb_tup d), _, rfl, ?_⟩
    by_cases hs : ∃ ds, d = .tuple ds
    · obtain ⟨ds, rfl⟩ := hs
      obtain ⟨p, vs, rfl, hp, hall⟩ := Dp.tupI hd
      have hvl := DpAll.len hall
      refine iteF ⟨.ref p, rfl, p, _, rfl, .inr hp, rfl, _, rfl, ?_⟩
      by_cases h1 : ds.length = 2
      · have hne : (!decide (V.int (vs.length : Int) = .int 2)) = false := by
          rw [hvl, h1]
          rfl
        rw [hne]
        obtain ⟨x, y, dp, dq, rfl, rfl, hx, hy⟩ := dpa_two hall h1
        refine iteF ⟨.ref p, rfl, p, rfl, ⟨_, hp⟩, fun D hD => lc_all walk_tup hD ([dp, dq].map (parseM code.length)) rfl (small_lt (by show 2 ≤ 100000; decide)) (fun H1 s1 => Same.tup s1 hp) (fun i z H1 H2 k hi s1 yy hk => ?_) fun H1 s1 e1 => ⟨D, _, rfl, SqL.of e1, ?_⟩⟩
        · obtain ⟨rfl, hx1⟩ := yy
          obtain ⟨e, he, hde⟩ := DpAll.get hall hx1
          exact ⟨rfl, _, rfl, _, rfl, c, z, code, e, rfl, Same.tup s1 hC, Dp.same s1 hde, fun H3 s3 => hk _ H3 (at_map he) s3⟩
        · rw [all_map]
          refine ⟨_, rfl, ?_⟩
          have ea : [dp, dq].all (parseM code.length) = (parseM code.length dp && parseM code.length dq) := by simp
          rw [ea]
          have et : twoM code (.tuple [dp, dq]) = (parseM code.length dp && parseM code.length dq && !PyData.eqv dp dq && decide (cat code (numsOf dp) = cat code (numsOf dq))) := rfl
          rw [et] at q
          by_cases h2 : (parseM code.length dp && parseM code.length dq) = true
          · rw [h2]
            rw [h2, Bool.true_and] at q
            rw [Bool.and_eq_true] at h2
            -- both are tuples of numbers
            have key : ∀ {z : V} {e : PyData}, Dp K H z e → parseM code.length e = true → ∃ a ns, z = .ref a ∧ SqT K H a (List.map Iv ns) ∧ ns.length ≤ 100 ∧ (∀ n ∈ ns, n < code.length) ∧ e = .tuple (intD ns) ∧ numsOf e = ns := by
              intro z e hz he
              cases e with
              | tuple es =>
                obtain ⟨a, us, rfl, ha, hes⟩ := Dp.tupI hz
                have he : (decide (es.length ≤ 100) && es.all (numD code.length)) = true := he
                rw [Bool.and_eq_true] at he
                obtain ⟨k1, k2, k3⟩ := dp_nums hes he.2
                refine ⟨a, es.map natOf, rfl, k1 ▸ ha, by rw [List.length_map]; exact of_decide_eq_true he.1, k2, by rw [← k3], rfl⟩
              | _ => exact absurd he (by simp [parseM])
            obtain ⟨a, ns, rfl, ha, la, na, rfl, ea'⟩ := key hx h2.1
            obtain ⟨b, ms, rfl, hb, lb, nb, rfl, eb'⟩ := key hy h2.2
            rw [ea', eb'] at q
            have eqv : PyData.eqv (.tuple (intD ns)) (.tuple (intD ms)) = decide (ns = ms) := by
              rw [PyData.eqv]
              exact eqv_nats ns ms
            rw [eqv] at q
            have hp1 := Same.tup s1 hp
            refine iteF ⟨.ref p, rfl, p, rfl, ⟨_, hp1⟩, fun D2 hD2 => lc_new (walk_tup (xs := [V.ref a, V.ref b])) hD2 [Sv (cat code ns), Sv (cat code ms)] rfl (small_lt (by show 2 ≤ 100000; decide)) (fun H2 s2 => Same.tup s2 hp1) (fun i z H2 H3 k hi s2 yy hk => ?_) fun H2 s2 e2 => ?_⟩
            · obtain ⟨rfl, hx1⟩ := yy
              have s02 := s1.trans s2
              have fin : ∃ (u : Addr) (ks : List Nat), z = .ref u ∧ SqT K H u (ks.map Iv) ∧ ks.length ≤ 100 ∧ (∀ n ∈ ks, n < code.length) ∧ [Sv (cat code ns), Sv (cat code ms)][i]? = some (Sv (cat code ks)) := by
                have hi2 : i < 2 := hi
                match i, hi2, hx1 with
                | 0, _, hx1 => cases hx1; exact ⟨a, ns, rfl, ha, la, na, rfl⟩
                | 1, _, hx1 => cases hx1; exact ⟨b, ms, rfl, hb, lb, nb, rfl⟩
              obtain ⟨u, ks, rfl, hu, lk, nk, ek⟩ := fin
              refine ⟨rfl, ⟨_, rfl⟩, .ref u, rfl, u, rfl, ⟨_, Same.tup s02 hu⟩, fun D4 hD4 => lc_new walk_tup hD4 ((ks.map fun n => code.getD n []).map Sv) (by simp) (small_lt (by rw [List.length_map]; omega)) (fun H4 s4 => Same.tup s4 (Same.tup s02 hu)) (fun j y H4 H5 k2 hj s4 yy2 hk2 => ?_) fun H4 s4 e4 => ?_⟩
              · obtain ⟨rfl, hy1⟩ := yy2
                obtain ⟨n, en, rfl⟩ := map_at hy1
                obtain ⟨wd, w1, w2⟩ := cat_get nk j n en
                refine ⟨rfl, _, rfl, _, rfl, c, _, _, Sv wd, rfl, rfl, Same.tup s4 (Same.tup s02 hC), atI_nat (at_map w1), hk2 _ _ ?_ (Same.refl _)⟩
                rw [← w2]
                exact at_map (at_map en)
              · refine ⟨"", D4, (ks.map fun n => code.getD n []).map mk, rfl, rfl, .inl (SqL.of (by rw [e4, map_sv])), ?_, ?_⟩
                · have := join_len (ks.map fun n => code.getD n []) 5 (fun s hs => by
                    obtain ⟨n, hn, rfl⟩ := List.mem_map.mp hs
                    exact sm.word _ (getD_mem (nk n hn)))
                  have ek2 : (ks.map fun n => code.getD n []).length = ks.length := List.length_map _
                  rw [ek2] at this
                  have e0 : ("" : Str).length = 0 := rfl
                  rw [e0]
                  omega
                · rw [join_mk, ← cat_flatten]
                  exact hk _ H4 ek s4
            · have s12 := s1.trans s2
              have hp2 := Same.tup s12 hp
              refine ⟨.ref p, rfl, p, _, 0, _, rfl, rfl, hp2, rfl, .ref p, rfl, p, _, 1, _, rfl, rfl, hp2, rfl, .tuple (intD ns), .tuple (intD ms), Dp.same s12 hx, Dp.same s12 hy, shaped_nats _, shaped_nats _, ?_⟩
              rw [eqv]
              refine ⟨_, rfl, ?_⟩
              by_cases h3 : ns = ms
              · rw [decide_eq_true h3]
                rw [decide_eq_true h3] at q
                exact iteF (q H2 s12)
              · rw [decide_eq_false h3]
                rw [decide_eq_false h3] at q
                refine iteT ⟨.ref D2, rfl, D2, _, 0, _, rfl, rfl, SqL.of e2, rfl, .ref D2, rfl, D2, _, 1, _, rfl, rfl, SqL.of e2, rfl, rfl, ?_⟩
                rw [dec_sv]
                exact q H2 s12
          · have h2 : (parseM code.length dp && parseM code.length dq) = false := by simpa using h2
            rw [h2]
            rw [h2, Bool.false_and, Bool.false_and] at q
            exact iteT (q H1 s1)
      · have hne : (!decide (V.int (vs.length : Int) = .int 2)) = true := by
          rw [hvl, decide_eq_false (fun z => h1 (by have := V.int.inj z; omega))]
          rfl
        rw [hne]
        have e := twoM_len (code := code) h1
        rw [e] at q
        exact iteT (q H (Same.refl H))
    · have e1 : isT d = false := by cases d <;> first | rfl | exact absurd ⟨_, rfl⟩ hs
      have e2 : twoM code d = false := by cases d <;> first | rfl | exact absurd ⟨_, rfl⟩ hs
      rw [e1]
      rw [e2] at q
      exact iteT (q H (Same.refl H))
end
end K11
set_option Elab.async false
set_option linter.all false
set_option maxRecDepth 100000
set_option maxHeartbeats 4000000
namespace K11
open PySem PySem.Spec PyProof.Rows L2
theorem acceptsM_len {code : List S} {ds : List PyData} (h : ds.length ≠ 2) : acceptsM code (.tuple ds) = false := by
  match ds, h with
  | [], _ => rfl
  | [.none], _ => rfl
  | [.bool _], _ => rfl
  | [.int _], _ => rfl
  | [.str _], _ => rfl
  | [.list _], _ => rfl
  | [.tuple _], _ => rfl
  | [.dict _], _ => rfl
  | [_, _], h => exact absurd rfl h
  | .none :: _ :: _ :: _, _ => rfl
  | .bool _ :: _ :: _ :: _, _ => rfl
  | .int _ :: _ :: _ :: _, _ => rfl
  | .str _ :: _ :: _ :: _, _ => rfl
  | .list _ :: _ :: _ :: _, _ => rfl
  | .tuple _ :: _ :: _ :: _, _ => rfl
  | .dict _ :: _ :: _ :: _, _ => rfl
section
variable {P : Program} {w : World} {K : PySem.W.Frag} {mg : Str → Option Value} {base : Heap}
/-! ### accepts_unique -/
abbrev nAccepts : List Str := ["code", "value"]
def spAccepts (K : PySem.W.Frag) : Sp := fun vs H Q _ => ∃ (c : Addr) (v : V) (code : List S) (d : PyData), vs = [.ref c, v] ∧ SqT K H c (code.map Sv) ∧ CodeOk code ∧ Dp K H v d ∧ (∀ e ds x, d = .tuple [e, .tuple ds] → PyData.str x ∈ ds → x.length ≤ 1000) ∧ ∀ H', Same H H' → Q (.bl (acceptsM code d)) H'
theorem scAccepts : FnScope nAccepts ["code", "value"] (defScope sAccepts) := ⟨rfl, rfl, rfl, by decide +kernel, rfl, by decide +kernel, by decide +kernel⟩
theorem ok_accepts {f : Addr} {fd : FuncData} (F : Fun K "accepts_unique" "accepts_unique" sAccepts f fd) (T : Glo mg) (C : Kn P w K mg base 3 "check_code" ["value"] (spCheck K)) (L : Kn P w K mg base 2 "is_closed" ["code", "value"] (spClosed K)) (W : Kn P w K mg base 2 "are_two_parses" ["code", "value"] (spTwo K)) :
    FnOk P w K mg base CX0 4 f fd ["code", "value"] (spAccepts K) := by
  obtain ⟨fC, fdC, GC, bC, gC, kC⟩ := C
  obtain ⟨fL, fdL, GL, bL, gL, kL⟩ := L
  obtain ⟨fW, fdW, GW, bW, gW, kW⟩ := W
  refine F.ok scAccepts (fun vs H Q E h => ?_) (fun cdv A outer s H vs Q E hr h => ?_)
  · obtain ⟨c, v, code, d, rfl, _⟩ := h
    rfl
  · obtain ⟨c, v, code, d, rfl, hC, ok, hd, hx, q⟩ := h
    refine ⟨_, pss_cons (ps_expr (pe_call GC hr (by rfl) gC kC bC .nil pass0 (pa_cons (pv 0) pa_nil)))
      (pss_cons (ps_if (PW.pt (pw_or (pt_not (pt_val (pe_callB call_isi (by rfl) T.isinstance boot_isinstance (pa_cons (pv 1) (pa_cons (pe_bltn (v := .ty "tuple") (by rfl) T.tuple boot_tuple rfl) pa_nil)))))
        (pw_or (pt_cmpR op_ne (pe_callB call_len_seq (by rfl) T.len PySem.boot_len (pa_cons (pv 1) pa_nil)) pe_int (nomark _))
        (pw_or1 (pt_not (pt_val (pe_callB call_isi (by rfl) T.isinstance boot_isinstance (pa_cons (pe_ix (r := rIxT K) ix_tup (pv 1) pe_int (fun _ _ => rfl)) (pa_cons (pe_bltn (v := .ty "str") (by rfl) T.str boot_str rfl) pa_nil)))))))))
        (pss_one (ps_ret pe_bl)) pss_nil)
      (pss_cons (ps_if (pt_cmpR op_eq (pe_ix (r := rIxT K) ix_tup (pv 1) pe_int (fun _ _ => rfl)) pe_str (nomark _))
        (pss_one (ps_ret (pe_call GL (hr.mono (by decide)) (by rfl) gL kL bL .nil pass0 (pa_cons (pv 0) (pa_cons (pe_ix (r := rIxT K) ix_tup (pv 1) pe_int (fun _ _ => rfl)) pa_nil))))) pss_nil)
      (pss_one (ps_ret (pe_and (pe_cmpR op_eq (pe_ix (r := rIxT K) ix_tup (pv 1) pe_int (fun _ _ => rfl)) pe_str (nomark _))
        (pe_one (pe_call GW (hr.mono (by decide)) (by rfl) gW kW bW .nil pass0 (pa_cons (pv 0) (pa_cons (pe_ix (r := rIxT K) ix_tup (pv 1) pe_int (fun _ _ => rfl)) pa_nil))))))))), ?_⟩
    refine ⟨_, rfl, c, code, rfl, hC, ok, fun H1 s1 => ?_⟩
    have hC1 := Same.tup s1 hC
    have hd1 := Dp.same s1 hd
    refine ⟨v, rfl, v, .ty "tuple", _, .type "tuple", _, rfl, .ty _, Dp.tyx hd1, kit_ty (kb_tup d), _, rfl, ?_⟩
    by_cases hs : ∃ ds, d = .tuple ds
    · obtain ⟨ds, rfl⟩ := hs
      obtain ⟨p, vs, rfl, hp, hall⟩ := Dp.tupI hd1
      have hvl := DpAll.len hall
      refine iteF ⟨.ref p, rfl, p, _, rfl, .inr hp, rfl, _, rfl, ?_⟩
      by_cases h1 : ds.length = 2
      · have hne : (!decide (V.int (vs.length : Int) = .int 2)) = false := by
          rw [hvl, h1]
          rfl
        rw [hne]
        obtain ⟨x, y, dp, dq, rfl, rfl, hx1, hy1⟩ := dpa_two hall h1
        refine iteF ⟨.ref p, rfl, p, _, 0, _, rfl, rfl, hp, rfl, x, .ty "str", _, .type "str", _, rfl, .ty _, Dp.tyx hx1, kit_ty (kb_str dp), _, rfl, ?_⟩
        by_cases h2 : ∃ z, dp = .str z
        · obtain ⟨z, rfl⟩ := h2
          cases hx1
          have ea : acceptsM code (.tuple [.str z, dq]) = (if z = "unique" then closedM code dq else decide (z = "two") && twoM code dq) := rfl
          rw [ea] at q
          refine iteF ⟨.ref p, rfl, p, _, 0, _, rfl, rfl, hp, rfl, rfl, _, rfl, ?_⟩
          by_cases h3 : z = "unique"
          · rw [if_pos h3] at q
            refine iteDT (by rw [h3]) ⟨.ref c, rfl, .ref p, rfl, p, _, 1, _, rfl, rfl, hp, rfl, c, y, code, dq, rfl, hC1, ok.small, hy1, (fun ds x e hxm => hx _ ds x (by rw [e]) hxm), fun H2 s2 => q H2 (s1.trans s2)⟩
          · rw [if_neg h3] at q
            refine iteDF (fun e => h3 (V.str.inj e)) ⟨.ref p, rfl, p, _, 0, _, rfl, rfl, hp, rfl, rfl, _, rfl, ?_⟩
            by_cases h4 : z = "two"
            · rw [decide_eq_true h4, Bool.true_and] at q
              exact iteDT (by rw [h4]) ⟨.ref c, rfl, .ref p, rfl, p, _, 1, _, rfl, rfl, hp, rfl, c, y, code, dq, rfl, hC1, ok.small, hy1, fun H2 s2 => q H2 (s1.trans s2)⟩
            · rw [decide_eq_false h4, Bool.false_and] at q
              exact iteDF (fun e => h4 (V.str.inj e)) (q H1 s1)
        · have e1 : isS dp = false := by cases dp <;> first | rfl | exact absurd ⟨_, rfl⟩ h2
          have e2 : acceptsM code (.tuple [dp, dq]) = false := by cases dp <;> first | rfl | exact absurd ⟨_, rfl⟩ h2
          rw [e1]
          rw [e2] at q
          exact iteT (q H1 s1)
      · have hne : (!decide (V.int (vs.length : Int) = .int 2)) = true := by
          rw [hvl, decide_eq_false (fun z => h1 (by have := V.int.inj z; omega))]
          rfl
        rw [hne]
        have e := acceptsM_len (code := code) h1
        rw [e] at q
        exact iteT (q H1 s1)
    · have e1 : isT d = false := by cases d <;> first | rfl | exact absurd ⟨_, rfl⟩ hs
      have e2 : acceptsM code d = false := by cases d <;> first | rfl | exact absurd ⟨_, rfl⟩ hs
      rw [e1]
      rw [e2] at q
      exact iteT (q H1 s1)
end
end K11
set_option Elab.async false
set_option linter.all false
set_option maxRecDepth 100000
set_option maxHeartbeats 4000000
namespace K11
open PySem PySem.Spec PyProof.Rows L2
/-- the stream at st, its script at l -/
def Str1 (H : Hp) (st l : Addr) : Prop := ∃ (ns : List Int) (cell : Int) (k : Nat), H st = some (.lst [.ref l, .int cell, .int (k : Nat)]) ∧ H l = some (.lst (ns.map V.int)) ∧ 0 ≤ cell ∧ ns.length ≤ 63
theorem Str1.same {H H' : Hp} {st l : Addr} (s : Same H H') (h : Str1 H st l) : Str1 H' st l := by
  obtain ⟨ns, cell, k, h1, h2, h3⟩ := h
  exact ⟨ns, cell, k, s _ _ h1, s _ _ h2, h3⟩
theorem Str1.lst {H : Hp} {st l : Addr} (h : Str1 H st l) : ∃ ys, H st = some (.lst ys) := by
  obtain ⟨ns, cell, k, h1, _⟩ := h
  exact ⟨_, h1⟩
theorem Str1.put {H H1 : Hp} {st l p : Addr} {o : HO} (h0 : Str1 H st l) (h : Str1 H1 st l) (hp : H p = none) : Str1 (upd H1 p o) st l := by
  obtain ⟨_, _, _, a1, a2, _⟩ := h0
  obtain ⟨ns, cell, k, h1, h2, h3⟩ := h
  exact ⟨ns, cell, k, by rw [upd_ne (ne_of_none a1 hp)]; exact h1, by rw [upd_ne (ne_of_none a2 hp)]; exact h2, h3⟩
theorem Str1.ne {H : Hp} {st l p : Addr} (h : Str1 H st l) (hp : H p = none) : p ≠ st := by
  obtain ⟨ys, e⟩ := h.lst
  exact (ne_of_none e hp).symm
section
variable {P : Program} {w : World} {K : PySem.W.Frag} {mg : Str → Option Value} {base : Heap}
/-- two parts of a block with what holds between them -/
theorem pss_mid {X : Cx} {st : Stmt} {rest : List Stmt} {t u : TS} {R : L2.St → Hp → Prop} (h1 : PS X st t) (h2 : PSs X rest u) : PSs X (st :: rest) (fun D σ H => t { D with nx := R } σ H ∧ ∀ σ' H', R σ' H' → u D σ' H') := by
  refine ⟨fun pins s σ H D I h => ?_⟩
  refine wpAny_execs_cons (thn (h1.run pins s σ H { D with nx := R } I h.1) fun f s1 q => ?_)
  cases f with
  | next =>
    obtain ⟨σ', H', I', q⟩ := q
    exact h2.run pins s1 σ' H' D I' (h.2 σ' H' q)
  | ret v => exact q
  | brk => exact q
  | cont => exact q
/-! ### _law_stream -/
abbrev nStream : List Str := ["_law_script"]
def spStream (K : PySem.W.Frag) : Sp := fun vs H Q _ => ∃ (a : Addr) (ns : List Int), vs = [.ref a] ∧ SqL K H a (ns.map V.int) ∧ ns.length ≤ 63 ∧ ∀ H' st l, Same H H' → Str1 H' st l → Q (.ref st) H'
theorem scStream : FnScope nStream ["_law_script"] (defScope sStream) := ⟨rfl, rfl, rfl, by decide +kernel, rfl, by decide +kernel, by decide +kernel⟩
theorem ok_stream {f : Addr} {fd : FuncData} (F : Fun K "_law_stream" "_law_stream" sStream f fd) (T : Glo mg) : FnOk P w K mg base CX0 1 f fd ["_law_script"] (spStream K) := by
  refine F.ok scStream (fun vs H Q E h => ?_) (fun cdv A outer s H vs Q E hr h => ?_)
  · obtain ⟨a, ns, rfl, _⟩ := h
    rfl
  · obtain ⟨a, ns, rfl, ha, hn, q⟩ := h
    refine ⟨_, pss_one (ps_ret (pe_lst (pa_cons (pe_callTy call_list_of (by rfl) T.list boot_list (pa_cons (pv 0) pa_nil)) (pa_cons pe_int (pa_cons pe_int pa_nil))))), ?_⟩
    refine ⟨.ref a, rfl, a, _, rfl, .inl ha, fun l hl => ⟨small_line (by show 3 ≤ 100000; decide), fun st hst => ?_⟩⟩
    have s1 := same_upd (o := .lst (ns.map V.int)) hl
    have s2 := same_upd (o := .lst [.ref l, .int 0, .int 0]) hst
    exact q _ st l (s1.trans s2) ⟨ns, 0, 0, upd_same, s2 _ _ upd_same, Int.le_refl 0, hn⟩

/-! ### _law_next -/
abbrev nNext : List Str := ["_law_stream_here", "_law_many", "_law_k", "_law_cell", "_law_digit"]
def spNext (K : PySem.W.Frag) : Sp := fun vs H Q _ => ∃ (st l : Addr) (many : Int), vs = [.ref st, .int many] ∧ Str1 H st l ∧ 0 < many ∧ many < 1073741824 ∧ ∀ (d : Nat) H', (d : Int) < many → SameBut1 st H H' → Str1 H' st l → Q (.int (d : Nat)) H'
theorem scNext : FnScope nNext ["_law_stream_here", "_law_many"] (defScope sNext) := ⟨rfl, rfl, rfl, by decide +kernel, rfl, by decide +kernel, by decide +kernel⟩
theorem but_upd {H H1 : Hp} {st : Addr} {o : HO} (s : SameBut1 st H H1) : SameBut1 st H (upd H1 st o) := fun b x e n => by
  rw [upd_ne n]
  exact s b x e n
theorem but_refl {H : Hp} {st : Addr} : SameBut1 st H H := fun _ _ e _ => e
theorem ok_next {f : Addr} {fd : FuncData} (F : Fun K "_law_next" "_law_next" sNext f fd) (T : Glo mg) : FnOk P w K mg base CX0 1 f fd ["_law_stream_here", "_law_many"] (spNext K) := by
  refine F.ok scNext (fun vs H Q E h => ?_) (fun cdv A outer s H vs Q E hr h => ?_)
  · obtain ⟨a, l0, m0, rfl, _⟩ := h
    rfl
  · obtain ⟨st, l, many, rfl, ⟨ns, cell, k, hst, hl, hc, hn⟩, hm0, hm1, q⟩ := h
    have nd := scNext.nd
    have hne : l ≠ st := fun e => by
      rw [e, hst] at hl
      have := HO.lst.inj (Option.some.inj hl)
      cases ns with
      | nil => cases this
      | cons n ns => cases this
    let R1 : L2.St → Hp → Prop := fun σ H1 => ∃ (y2 y3 : Option V) (cell : Int) (k : Nat), σ = [some (.ref st), some (.int many), y2, y3, none] ∧ SameBut1 st H H1 ∧ H1 st = some (.lst [.ref l, .int cell, .int (k : Nat)]) ∧ 0 ≤ cell
    let R2 : L2.St → Hp → Prop := fun σ H1 => ∃ (c1 : Int) (k : Nat), σ = [some (.ref st), some (.int many), some (.int (k : Nat)), some (.int c1), none] ∧ H1 = H ∧ H1 st = some (.lst [.ref l, .int cell, .int (k : Nat)]) ∧ 0 ≤ c1
    refine ⟨_, pss_mid (R := R1) (ps_if (pt_cmpR op_eq (pe_ix (r := rIxL K) ix_list (pv 0) pe_int (fun _ _ => rfl)) pe_int (nomark _))
        (pss_cons (ps_set (i := 2) nd rfl (.inl rfl) (pe_ix (r := rIxL K) ix_list (pv 0) pe_int (fun _ _ => rfl)))
        (pss_cons (ps_set (i := 3) nd rfl (.inl rfl) (pe_op op_add pe_int (pv 2)))
        (pss_mid (R := R2) (ps_if (pt_cmpR op_lt (pv 2) (pe_callB call_len_seq (by rfl) T.len PySem.boot_len (pa_cons (pe_ix (r := rIxL K) ix_list (pv 0) pe_int (fun _ _ => rfl)) pa_nil)) (nomark _))
          (pss_one (ps_set (i := 3) nd rfl (.inl rfl) (pe_callB call_abs (by rfl) T.abs boot_abs (pa_cons (pe_ix (r := rIxL K) ix_list (pe_ix (r := rIxL K) ix_list (pv 0) pe_int (fun _ _ => rfl)) (pv 2) (fun _ _ => rfl)) pa_nil)))) pss_nil)
        (pss_mid (R := R2) (ps_if (pt_cmpR op_lt (pv 3) (pe_op op_pow pe_int pe_int) (nomark _))
          (pss_cons (ps_set (i := 3) nd rfl (.inl rfl) (pe_op op_mod (pe_callTy call_int1 (by rfl) T.int boot_int (pa_cons (pe_op op_add (pe_op op_add (pe_op op_mul (pv 3) pe_int) (pe_op op_mul (pv 2) pe_int)) pe_int) pa_nil)) pe_int))
          (pss_one (ps_set (i := 3) nd rfl (.inl rfl) (pe_op op_add (pe_op op_mul (pe_op op_mod (pe_callTy call_int1 (by rfl) T.int boot_int (pa_cons (pe_op op_add (pe_op op_mul (pv 3) pe_int) pe_int) pa_nil)) pe_int) pe_int) (pv 3))))) pss_nil)
        (pss_cons (ps_asg (pv 3) (pg_sub (pv 0) pe_int set_list))
        (pss_one (ps_asg (pe_op op_add (pv 2) pe_int) (pg_sub (pv 0) pe_int set_list)))))))) pss_nil)
      (pss_cons (ps_set (i := 4) nd rfl (.inl rfl) (pe_op op_mod (pe_callTy call_int1 (by rfl) T.int boot_int (pa_cons (pe_ix (r := rIxL K) ix_list (pv 0) pe_int (fun _ _ => rfl)) pa_nil)) (pv 1)))
      (pss_cons (ps_asg (pe_op op_fdiv (pe_ix (r := rIxL K) ix_list (pv 0) pe_int (fun _ _ => rfl)) (pv 1)) (pg_sub (pv 0) pe_int set_list))
      (pss_one (ps_ret (pv 4))))), ?_⟩
    refine ⟨?_, ?_⟩
    · refine ⟨_, rfl, st, _, 1, _, rfl, rfl, SqL.of hst, rfl, rfl, _, rfl, ?_⟩
      by_cases h0 : cell = 0
      · refine iteDT (by rw [h0]) ⟨_, rfl, st, _, 2, _, rfl, rfl, SqL.of hst, rfl, _, rfl, _, _, rfl, rfl, ?_⟩
        refine ⟨?_, ?_⟩
        · refine ⟨_, rfl, _, rfl, st, _, 0, _, rfl, rfl, SqL.of hst, rfl, l, _, rfl, .inl (SqL.of hl), _, _, rfl, rfl, _, rfl, ?_⟩
          by_cases hk : k < ns.length
          · refine iteDT (by rw [List.length_map]; omega) ⟨_, rfl, st, _, 0, _, rfl, rfl, SqL.of hst, rfl, _, rfl, l, _, _, .int ns[k], rfl, rfl, SqL.of hl, atI_nat (at_map (List.getElem?_eq_getElem hk)), ns[k], rfl, _, k, rfl, rfl, hst, ?_⟩
            split <;> omega
          · exact iteDF (by rw [List.length_map]; omega) ⟨_, k, rfl, rfl, hst, by omega⟩
        · rintro σ H1 ⟨c1, k1, rfl, rfl, h1, hc1⟩
          refine ⟨?_, ?_⟩
          · refine ⟨_, rfl, _, _, rfl, rfl, ⟨by decide, by decide, by decide⟩, _, _, rfl, rfl, _, rfl, ?_⟩
            have e18 : (10 : Int) ^ (18 : Int).toNat = 1000000000000000000 := by decide
            by_cases hb : c1 < (10 : Int) ^ (18 : Int).toNat
            · rw [e18] at hb
              refine iteDT (by rw [e18]; exact hb) ⟨_, rfl, _, _, rfl, rfl, .inr ⟨by decide, by decide⟩, _, rfl, _, _, rfl, rfl, .inr ⟨by decide, by decide⟩, _, _, rfl, rfl, _, _, rfl, rfl, .inl ⟨_, rfl, _, _, rfl, rfl, (by show (0 : Int) < 2147483647; decide), ?_⟩⟩
              generalize hz : (c1 * 48271 + (k1 : Int) * 69621 + 11) % 2147483647 = z
              have hz0 : 0 ≤ z := by rw [← hz]; exact Int.emod_nonneg _ (by decide)
              have hz1 : z < 2147483647 := by rw [← hz]; exact Int.emod_lt_of_pos _ (by decide)
              refine ⟨_, rfl, _, _, rfl, rfl, .inr ⟨by decide, by decide⟩, _, _, rfl, rfl, .inl ⟨_, rfl, _, _, rfl, rfl, (by show (0 : Int) < 2147483647; decide), _, _, rfl, rfl, .inr ⟨by decide, by decide⟩, _, rfl, _, _, rfl, rfl, _, k1, rfl, rfl, h1, ?_⟩⟩
              have : 0 ≤ (z * 16807 + 13) % 2147483647 := Int.emod_nonneg _ (by decide)
              omega
            · exact iteDF hb ⟨c1, k1, rfl, rfl, h1, hc1⟩
          · rintro σ H1 ⟨c2, k2, rfl, rfl, h2, hc2⟩
            refine ⟨_, rfl, _, rfl, st, _, 1, 1, rfl, rfl, h2, rfl, _, rfl, _, _, rfl, rfl, _, rfl, st, _, 2, 2, rfl, rfl, upd_same, rfl, ?_⟩
            exact ⟨_, _, c2, k2 + 1, rfl, but_upd (but_upd but_refl), by rw [upd_same]; rfl, hc2⟩
      · exact iteDF (fun e => h0 (V.int.inj e)) ⟨none, none, cell, k, rfl, but_refl, hst, hc⟩
    · rintro σ H1 ⟨y2, y3, c2, k2, rfl, s1, h1, hc2⟩
      refine ⟨_, rfl, st, _, 1, _, rfl, rfl, SqL.of h1, rfl, .inl ⟨_, rfl, _, rfl, _, _, rfl, rfl, hm0, ?_⟩⟩
      refine ⟨_, rfl, st, _, 1, _, rfl, rfl, SqL.of h1, rfl, _, rfl, _, _, rfl, rfl, ⟨hm0, hm1⟩, _, rfl, st, _, 1, 1, rfl, rfl, h1, rfl, _, rfl, ?_⟩
      have hd0 : 0 ≤ c2 % many := Int.emod_nonneg _ (by omega)
      have hd1 : c2 % many < many := Int.emod_lt_of_pos _ hm0
      have ed : ((c2 % many).toNat : Int) = c2 % many := Int.toNat_of_nonneg hd0
      have := q (c2 % many).toNat (upd H1 st (.lst [.ref l, .int (c2 / many), .int (k2 : Nat)])) (by omega) (but_upd s1) ⟨ns, c2 / many, k2, upd_same, by rw [upd_ne hne]; exact s1 _ _ hl hne, Int.ediv_nonneg hc2 (by omega), hn⟩
      rw [ed] at this
      exact this
end
end K11
set_option Elab.async false
set_option linter.all false
set_option maxRecDepth 100000
set_option maxHeartbeats 4000000
namespace K11
open PySem PySem.Spec PyProof.Rows L2
theorem but_put {st : Addr} {H H1 : Hp} {p : Addr} {o : HO} (s : SameBut1 st H H1) (h : H p = none) : SameBut1 st H (upd H1 p o) := fun b x e n => by
  rw [upd_ne (ne_of_none e h)]
  exact s b x e n
theorem but_same {st : Addr} {H H1 H2 : Hp} (s : SameBut1 st H H1) (s2 : Same H1 H2) : SameBut1 st H H2 := s.trans (Same.but s2 st)
theorem same_but {st : Addr} {H H1 H2 : Hp} (s : Same H H1) (s2 : SameBut1 st H1 H2) : SameBut1 st H H2 := SameBut1.trans (Same.but s st) s2
/-- letters to draw from -/
structure AbcOk (z : S) : Prop where
  pos : 1 ≤ z.length
  few : z.length ≤ 3
  abc : ∀ c ∈ z, c ∈ [97, 98, 99]
section
variable {P : Program} {w : World} {K : PySem.W.Frag} {mg : Str → Option Value} {base : Heap}
/-! ### _law_letters -/
abbrev nLLetters : List Str := ["_law_stream_here"]
def spLLetters : Sp := fun vs H Q _ => ∃ st l, vs = [.ref st] ∧ Str1 H st l ∧ ∀ (z : S) H', AbcOk z → SameBut1 st H H' → Str1 H' st l → Q (Sv z) H'
theorem scLLetters : FnScope nLLetters ["_law_stream_here"] (defScope sLLetters) := ⟨rfl, rfl, rfl, by decide +kernel, rfl, by decide +kernel, by decide +kernel⟩
theorem ok_letters {f : Addr} {fd : FuncData} (F : Fun K "_law_letters" "_law_letters" sLLetters f fd) (N : Kn P w K mg base 1 "_law_next" ["_law_stream_here", "_law_many"] (spNext K)) : FnOk P w K mg base CX0 2 f fd ["_law_stream_here"] spLLetters := by
  obtain ⟨fN, fdN, GN, bN, gN, kN⟩ := N
  refine F.ok scLLetters (fun vs H Q E h => ?_) (fun cdv A outer s H vs Q E hr h => ?_)
  · obtain ⟨st, sl, rfl, _⟩ := h
    rfl
  · obtain ⟨st, sl, rfl, hst, q⟩ := h
    refine ⟨_, pss_one (ps_ret (pe_ix (r := rIxL K) ix_list (pe_lst (pa_cons pe_str (pa_cons pe_str (pa_cons pe_str (pa_cons pe_str pa_nil))))) (pe_call GN hr (by rfl) gN kN bN .nil pass0 (pa_cons (pv 0) (pa_cons pe_int pa_nil))) (fun _ _ => rfl))), ?_⟩
    refine ⟨small_line (by show 4 ≤ 100000; decide), fun l hl => ?_⟩
    have s1 := same_upd (o := .lst [.str "ab", .str "ba", .str "abc", .str "ca"]) hl
    have hne : l ≠ st := hst.ne hl
    refine ⟨.ref st, rfl, st, sl, 4, rfl, hst.same s1, by decide, by decide, fun d H' hd sb h' => ?_⟩
    have e1 := sb _ _ (upd_same (H := H) (a := l) (o := .lst [.str "ab", .str "ba", .str "abc", .str "ca"])) hne
    have s2 := same_but s1 sb
    have hd4 : d < 4 := by omega
    match d, hd4 with
    | 0, _ => exact ⟨l, _, _, _, rfl, rfl, SqL.of e1, rfl, q [97, 98] H' ⟨by decide, by decide, by decide⟩ s2 h'⟩
    | 1, _ => exact ⟨l, _, _, _, rfl, rfl, SqL.of e1, rfl, q [98, 97] H' ⟨by decide, by decide, by decide⟩ s2 h'⟩
    | 2, _ => exact ⟨l, _, _, _, rfl, rfl, SqL.of e1, rfl, q [97, 98, 99] H' ⟨by decide, by decide, by decide⟩ s2 h'⟩
    | 3, _ => exact ⟨l, _, _, _, rfl, rfl, SqL.of e1, rfl, q [99, 97] H' ⟨by decide, by decide, by decide⟩ s2 h'⟩

/-! ### _law_code -/
abbrev nLCode : List Str := ["_law_stream_here", "_law_letters_here", "_law_words", "_law_most", "_law_found", "_law_turn", "_law_word", "_law_k"]
def spLCode (K : PySem.W.Frag) : Sp := fun vs H Q _ => ∃ (st sl : Addr) (z : S), vs = [.ref st, Sv z, .int 6, .int 4] ∧ Str1 H st sl ∧ AbcOk z ∧ ∀ H' c code, SameBut1 st H H' → Str1 H' st sl → SqT K H' c (code.map Sv) → CodeOk code → Q (.ref c) H'
theorem scLCode : FnScope nLCode ["_law_stream_here", "_law_letters_here", "_law_words", "_law_most"] (defScope sLCode) := ⟨rfl, rfl, rfl, by decide +kernel, rfl, by decide +kernel, by decide +kernel⟩
theorem ok_lcode {f : Addr} {fd : FuncData} (F : Fun K "_law_code" "_law_code" sLCode f fd) (T : Glo mg) (N : Kn P w K mg base 1 "_law_next" ["_law_stream_here", "_law_many"] (spNext K)) :
    FnOk P w K mg base CX0 2 f fd ["_law_stream_here", "_law_letters_here", "_law_words", "_law_most"] (spLCode K) := by
  obtain ⟨fN, fdN, GN, bN, gN, kN⟩ := N
  refine F.ok scLCode (fun vs H Q E h => ?_) (fun cdv A outer s H vs Q E hr h => ?_)
  · obtain ⟨st, sl, z, rfl, _⟩ := h
    rfl
  · obtain ⟨st, sl, z, rfl, hst, hz, q⟩ := h
    have nd := scLCode.nd
    have Tr := T.range
    refine ⟨_, pss_cons (ps_set (i := 4) nd rfl (.inl rfl) (pe_lst pa_nil))
      (pss_cons (ps_for PassesOwn.never rfl (pi_range1 (by rfl) T.range (pa_cons (pe_call GN hr (by rfl) gN kN bN .nil pass0 (pa_cons (pv 0) (pa_cons (pe_op op_add (pv 2) pe_int) pa_nil))) pa_nil)) (pg_name (i := 5) nd rfl (Or.inl rfl))
        (pss_cons (ps_set (i := 6) nd rfl (.inl rfl) pe_str)
        (pss_cons (ps_for PassesOwn.never rfl (pi_range1 (by rfl) T.range (pa_cons (pe_op op_add pe_int (pe_call GN hr (by rfl) gN kN bN .nil pass0 (pa_cons (pv 0) (pa_cons (pv 3) pa_nil)))) pa_nil)) (pg_name (i := 7) nd rfl (Or.inl rfl))
          (pss_one (ps_set (i := 6) nd rfl (.inl rfl) (pe_op op_add_str (pv 6) (pe_ix (r := rIxS) ix_str (pv 1) (pe_call GN hr (by rfl) gN kN bN .nil pass0 (pa_cons (pv 0) (pa_cons (pe_callB call_len_str (by rfl) T.len PySem.boot_len (pa_cons (pv 1) pa_nil)) pa_nil))) (fun _ _ => rfl))))))
        (pss_one (ps_if (pt_cmpR (r := rIn K true) op_notIn_seq (pv 6) (pv 4) (by rfl))
          (pss_one (ps_expr (pe_bm PySem.F.plainAttrs_list PySem.F.slot_list_append PySem.F.type_list_append mt_append (pv 4) (pa_cons (pv 6) pa_nil)))) pss_nil)))))
      (pss_one (ps_ret (pe_callTy call_tuple_of (by rfl) T.tuple boot_tuple (pa_cons (pv 4) pa_nil))))), ?_⟩
    refine ⟨Nat.zero_le _, fun p np => ?_⟩
    have s0 := same_upd (o := .lst []) np
    have hps : p ≠ st := hst.ne np
    refine ⟨.ref st, rfl, .int 6, rfl, _, _, rfl, rfl, st, sl, 7, rfl, hst.same s0, by decide, by decide, fun d H1 hd sb1 h1 => ⟨_, rfl, by omega, by omega, ?_⟩⟩
    refine for_it (walk_range (lo := 0) (n := (d : Int).toNat)) (fun i σ H2 => ∃ y5 y6 y7 code, σ = [some (.ref st), some (Sv z), some (.int 6), some (.int 4), some (.ref p), y5, y6, y7] ∧ SameBut1 st H H2 ∧ Str1 H2 st sl ∧ H2 p = some (.lst (code.map Sv)) ∧ code.length ≤ i ∧ (∀ w ∈ code, memS w = true) ∧ code.Nodup)
      ⟨none, none, none, [], rfl, same_but s0 sb1, h1, sb1 _ _ upd_same hps, Nat.le_refl _, (fun w hw => by cases hw), List.nodup_nil⟩ (fun _ _ _ _ _ => trivial) ?_ ?_
    · rintro i x σ H2 H3 hi ⟨y5, y6, y7, code, rfl, s2, h2, hp2, hcl, hcm, hcn⟩ ⟨rfl, rfl⟩
      refine ⟨.ref st, rfl, .int 4, rfl, st, sl, 4, rfl, h2, by decide, by decide, fun d2 H4 hd2 sb4 h4 => ⟨_, _, rfl, rfl, _, rfl, by omega, by omega, ?_⟩⟩
      refine for_it (walk_range (lo := 0) (n := (1 + (d2 : Int)).toNat)) (fun j σ H5 => ∃ y7 wd, σ = [some (.ref st), some (Sv z), some (.int 6), some (.int 4), some (.ref p), some (.int (0 + (i : Nat))), some (Sv wd), y7] ∧ SameBut1 st H H5 ∧ Str1 H5 st sl ∧ H5 p = some (.lst (code.map Sv)) ∧ wd.length = j ∧ ∀ c ∈ wd, c ∈ [97, 98, 99])
        ⟨y7, [], rfl, s2.trans sb4, h4, sb4 _ _ hp2 hps, rfl, fun c hc => by cases hc⟩ (fun _ _ _ _ _ => trivial) ?_ ?_
      · rintro j x σ H5 H6 hj ⟨y7, wd, rfl, s5, h5, hp5, hwl, hwc⟩ ⟨rfl, rfl⟩
        refine ⟨_, rfl, Sv z, rfl, .ref st, rfl, Sv z, rfl, mk z, rfl, small_line (by rw [mk_len]; have := hz.few; omega), st, sl, _, rfl, h5, (by rw [mk_len]; have := hz.pos; omega), (by rw [mk_len]; have := hz.few; omega), fun d3 H7 hd3 sb7 h7 => ?_⟩
        rw [mk_len] at hd3
        have hlt : d3 < z.length := by omega
        have ez : z[d3]? = some z[d3] := List.getElem?_eq_getElem hlt
        refine ⟨mk z, _, z[d3], rfl, rfl, small_line (by rw [mk_len]; have := hz.few; omega), atI_nat (by rw [mk_list]; exact ez), _, _, rfl, rfl, small_line ?_, ?_⟩
        · rw [mk_len, show (⟨#[z[d3]]⟩ : Str).length = 1 from rfl]
          omega
        · refine ⟨some (.int (0 + (j : Nat))), wd ++ [z[d3]], ?_, s5.trans sb7, h7, sb7 _ _ hp5 hps, by rw [List.length_append, hwl]; rfl, fun c hc => ?_⟩
          · show _ = [some (.ref st), some (Sv z), some (.int 6), some (.int 4), some (.ref p), some (.int (0 + (i : Nat))), some (.str (mk (wd ++ [z[d3]]))), some (.int (0 + (j : Nat)))]
            rw [← mk_app]
            rfl
          · rcases List.mem_append.mp hc with hc | hc
            · exact hwc c hc
            · rw [List.mem_singleton.mp hc]
              exact hz.abc _ (List.getElem_mem hlt)
      · rintro σ H5 ⟨y7, wd, rfl, s5, h5, hp5, hwl, hwc⟩
        refine ⟨Sv wd, rfl, .ref p, rfl, p, _, rfl, .inl (SqL.of hp5), rfl, flat_sv _, ?_⟩
        refine ⟨_, rfl, ?_⟩
        rw [if_pos rfl, in_sv]
        by_cases hin : wd ∈ code
        · rw [decide_eq_true hin]
          exact iteF ⟨_, _, _, code, rfl, s5, h5, hp5, Nat.le_succ_of_le hcl, hcm, hcn⟩
        · rw [decide_eq_false hin]
          refine iteT ⟨_, rfl, .inl ⟨rfl, _, SqL.of hp5⟩, _, rfl, p, _, _, rfl, rfl, hp5, small_lt (by rw [List.length_map]; omega), ?_⟩
          refine ⟨_, _, _, code ++ [wd], rfl, but_put s5 np, ?_, by rw [upd_same, List.map_append]; rfl, by rw [List.length_append]; exact Nat.succ_le_succ hcl, ?_, ?_⟩
          · exact hst.put h5 np
          · intro w hw
            rcases List.mem_append.mp hw with hw | hw
            · exact hcm w hw
            · rw [List.mem_singleton.mp hw]
              exact memS_iff.mpr ⟨by omega, by omega, hwc⟩
          · refine List.nodup_append.mpr ⟨hcn, List.nodup_cons.mpr ⟨by simp, List.nodup_nil⟩, ?_⟩
            intro a ha b hb e
            rw [List.mem_singleton] at hb
            subst hb
            subst e
            exact hin ha
    · rintro σ H2 ⟨y5, y6, y7, code, rfl, s2, h2, hp2, hcl, hcm, hcn⟩
      refine ⟨.ref p, rfl, p, _, rfl, .inl ⟨SqL.of hp2, fun l hl => ?_⟩⟩
      have s3 := same_upd (o := .tup (code.map Sv)) hl
      exact q _ l code (but_same s2 s3) (h2.same s3) (SqT.of upd_same) ⟨by omega, hcm, hcn⟩
end
end K11
set_option Elab.async false
set_option linter.all false
set_option maxRecDepth 100000
set_option maxHeartbeats 4000000
namespace K11
open PySem PySem.Spec PyProof.Rows L2
abbrev sIsInt : Stmt := top 28
theorem take_pre (w p : S) : decide (w.take p.length = p) = p.isPrefixOf w := by
  by_cases h : w.take p.length = p
  · rw [decide_eq_true h]
    have : p <+: w := h ▸ List.take_prefix p.length w
    exact (List.isPrefixOf_iff_prefix.mpr this).symm
  · rw [decide_eq_false h]
    cases e : p.isPrefixOf w with
    | false => rfl
    | true => exact absurd (List.prefix_iff_eq_take.mp (List.isPrefixOf_iff_prefix.mp e)).symm h
section
variable {P : Program} {w : World} {K : PySem.W.Frag} {mg : Str → Option Value} {base : Heap}
/-! ### _law_is_integer -/
abbrev nIsInt : List Str := ["_law_actual"]
def spIsInt : Sp := fun vs H Q _ => ∃ i : Int, vs = [.int i] ∧ Q (.bl true) H
theorem scIsInt : FnScope nIsInt ["_law_actual"] (defScope sIsInt) := ⟨rfl, rfl, rfl, by decide +kernel, rfl, by decide +kernel, by decide +kernel⟩
theorem ok_isInt {f : Addr} {fd : FuncData} (F : Fun K "_law_is_integer" "_law_is_integer" sIsInt f fd) (T : Glo mg) : FnOk P w K mg base CX0 1 f fd ["_law_actual"] spIsInt := by
  refine F.ok scIsInt (fun vs H Q E h => ?_) (fun cdv A outer s H vs Q E hr h => ?_)
  · obtain ⟨i, rfl, _⟩ := h
    rfl
  · obtain ⟨i, rfl, q⟩ := h
    refine ⟨_, pss_one (ps_ret (pe_and (pe_callB call_isi (by rfl) T.isinstance boot_isinstance (pa_cons (pv 0) (pa_cons (pe_bltn (v := .ty "int") (by rfl) T.int boot_int rfl) pa_nil)))
      (pe_one (pe_not (pe_callB call_isi (by rfl) T.isinstance boot_isinstance (pa_cons (pv 0) (pa_cons (pe_bltn (v := .ty "bool") (by rfl) T.bool boot_bool rfl) pa_nil))))))), ?_⟩
    exact ⟨_, rfl, .int i, .ty "int", _, .type "int", true, rfl, .ty _, Dp.tyx (K := K) (H := H) (Dp.int i), kit_ty (kb_int (.int i)), true, rfl, iteT ⟨_, rfl, .int i, .ty "bool", _, .type "bool", false, rfl, .ty _, Dp.tyx (K := K) (H := H) (Dp.int i), kit_ty (kb_bool (.int i)), false, rfl, q⟩⟩
/-! ### _law_equal, of two truth values -/
abbrev nEqual : List Str := ["_law_actual", "_law_due", "_law_at"]
def spEqual : Sp := fun vs H Q _ => ∃ a b : Bool, vs = [.bl a, .bl b] ∧ Q (.bl (a == b)) H
theorem scEqual : FnScope nEqual ["_law_actual", "_law_due"] (defScope sEqual) := ⟨rfl, rfl, rfl, by decide +kernel, rfl, by decide +kernel, by decide +kernel⟩
theorem ok_equal {f : Addr} {fd : FuncData} (F : Fun K "_law_equal" "_law_equal" sEqual f fd) (T : Glo mg) : FnOk P w K mg base CX0 1 f fd ["_law_actual", "_law_due"] spEqual := by
  refine F.ok scEqual (fun vs H Q E h => ?_) (fun cdv A outer s H vs Q E hr h => ?_)
  · obtain ⟨a, b, rfl, _⟩ := h
    rfl
  · obtain ⟨a, b, rfl, q⟩ := h
    refine ⟨_, pss_cons (ps_if (pt_cmp (pc_isN (pv 1))) pss_never pss_nil)
      (pss_cons (ps_if (pt_val (pe_callB call_isi (by rfl) T.isinstance boot_isinstance (pa_cons (pv 1) (pa_cons (pe_bltn (v := .ty "bool") (by rfl) T.bool boot_bool rfl) pa_nil))))
        (pss_one (ps_ret (pe_and (pe_callB call_isi (by rfl) T.isinstance boot_isinstance (pa_cons (pv 0) (pa_cons (pe_bltn (v := .ty "bool") (by rfl) T.bool boot_bool rfl) pa_nil)))
          (pe_one (pe_cmpR op_eq (pv 0) (pv 1) (nomark _)))))) pss_nil)
      pss_never), ?_⟩
    refine ⟨_, rfl, _, rfl, iteDF (by intro z; cases z) ?_⟩
    refine ⟨_, rfl, .bl b, .ty "bool", _, .type "bool", true, rfl, .ty _, Dp.tyx (K := K) (H := H) (Dp.bl b), kit_ty (kb_bool (.bool b)), true, rfl, iteT ?_⟩
    refine ⟨_, rfl, .bl a, .ty "bool", _, .type "bool", true, rfl, .ty _, Dp.tyx (K := K) (H := H) (Dp.bl a), kit_ty (kb_bool (.bool a)), true, rfl, iteT ⟨_, rfl, _, rfl, rfl, ?_⟩⟩
    rw [dec_bl]
    exact q
/-! ### _law_parse -/
abbrev nLParse : List Str := ["_law_stream_here", "_law_code_here", "_law_k"]
def spLParse (K : PySem.W.Frag) : Sp := fun vs H Q _ => ∃ (st sl c : Addr) (code : List S), vs = [.ref st, .ref c] ∧ Str1 H st sl ∧ SqT K H c (code.map Sv) ∧ 0 < code.length ∧ code.length ≤ 6 ∧ ∀ H' a (ns : List Nat), SameBut1 st H H' → Str1 H' st sl → SqT K H' a (ns.map Iv) → ns.length ≤ 40 → Q (.ref a) H'
theorem scLParse : FnScope nLParse ["_law_stream_here", "_law_code_here"] (defScope sLParse) := ⟨rfl, rfl, rfl, by decide +kernel, rfl, by decide +kernel, by decide +kernel⟩
theorem ok_lparse {f : Addr} {fd : FuncData} (F : Fun K "_law_parse" "_law_parse" sLParse f fd) (T : Glo mg) (N : Kn P w K mg base 1 "_law_next" ["_law_stream_here", "_law_many"] (spNext K)) : FnOk P w K mg base CX0 2 f fd ["_law_stream_here", "_law_code_here"] (spLParse K) := by
  obtain ⟨fN, fdN, GN, bN, gN, kN⟩ := N
  refine F.ok scLParse (fun vs H Q E h => ?_) (fun cdv A outer s H vs Q E hr h => ?_)
  · obtain ⟨st, sl, c, code, rfl, _⟩ := h
    rfl
  · obtain ⟨st, sl, c, code, rfl, hst, hC, hc0, hc6, q⟩ := h
    refine ⟨_, pss_one (ps_ret (pe_callTy call_tuple_of (by rfl) T.tuple boot_tuple (pa_cons
        (pe_lc (own := [("_law_k", 2)]) (g := gName 2) (tt := tYes) rfl scLParse.nd (pi_range1 (by rfl) T.range (pa_cons (pe_call GN hr (by rfl) gN kN bN .nil pass0 (pa_cons (pv 0) (pa_cons pe_int pa_nil))) pa_nil)) (blkOk_by (N := nLParse) (sc := defScope sLParse) (by decide +kernel))
          (fun _ _ _ _ _ => pg_name (i := 2) scLParse.nd rfl (Or.inl rfl)) (fun _ _ _ _ _ => pts_nil)
          (fun _ _ _ _ _ => pe_call GN hr (by rfl) gN kN bN .nil pass0 (pa_cons (pv 0) (pa_cons (pe_callB (r := rLenS K) call_len_seq (by rfl) T.len PySem.boot_len (pa_cons (pv 1) pa_nil)) pa_nil)))) pa_nil))), ?_⟩
    refine ⟨_, rfl, st, sl, 5, rfl, hst, by decide, by decide, fun d H1 hd sb1 h1 => ⟨_, rfl, by omega, by omega, fun D hD => ?_⟩⟩
    refine lc_it (tt := tYes) (walk_range (lo := 0) (n := (d : Int).toNat)) (fun i H2 => SameBut1 st H1 H2 ∧ Str1 H2 st sl ∧ ∃ ns : List Nat, H2 D = some (.lst (ns.map Iv)) ∧ ns.length = i)
      ⟨Same.but (same_upd hD) st, h1.same (same_upd hD), [], upd_same, rfl⟩ (fun _ _ _ _ => trivial) ?_ ?_
    · rintro i x H2 H3 hi ⟨s2, h2, ns, hns, hnl⟩ ⟨rfl, rfl⟩
      refine ⟨rfl, tYes_k ⟨_, rfl, .ref c, rfl, c, _, rfl, .inr (SameBut1.tup (sb1.trans s2) hst.lst hC), st, sl, _, rfl, h2, (by rw [List.length_map]; omega), (by rw [List.length_map]; omega), fun d2 H4 hd2 sb4 h4 => ?_⟩⟩
      exact ⟨_, sb4 _ _ hns (h1.ne hD), small_lt (by rw [List.length_map]; omega), but_put (s2.trans sb4) hD, h1.put h4 hD, ns ++ [d2], by rw [upd_same, List.map_append]; rfl, by rw [List.length_append, hnl]; rfl⟩
    · rintro H2 ⟨s2, h2, ns, hns, hnl⟩
      refine ⟨D, _, rfl, .inl ⟨SqL.of hns, fun l hl => ?_⟩⟩
      have s3 := same_upd (o := .tup (ns.map Iv)) hl
      exact q _ l ns (but_same (sb1.trans s2) s3) (h2.same s3) (SqT.of upd_same) (by omega)
/-! ### _law_on -/
abbrev nLOn : List Str := ["_law_code_here", "_law_rest", "_law_found", "_law_word"]
def spLOn (K : PySem.W.Frag) : Sp := fun vs H Q _ => ∃ (c : Addr) (code : List S) (r : S), vs = [.ref c, Sv r] ∧ SqT K H c (code.map Sv) ∧ Small code ∧ r.length ≤ 1000 ∧ ∀ H' p, Same H H' → H p = none → H' p = some (.lst ((on code r).map Sv)) → Q (.ref p) H'
theorem scLOn : FnScope nLOn ["_law_code_here", "_law_rest"] (defScope sLOn) := ⟨rfl, rfl, rfl, by decide +kernel, rfl, by decide +kernel, by decide +kernel⟩
theorem onW_len (r x : S) : (onW r x).length ≤ 1 := by
  unfold onW
  split
  · exact Nat.le_refl _
  · split
    · exact Nat.le_refl _
    · exact Nat.zero_le _
theorem ok_lon {f : Addr} {fd : FuncData} (F : Fun K "_law_on" "_law_on" sLOn f fd) (T : Glo mg) : FnOk P w K mg base CX0 1 f fd ["_law_code_here", "_law_rest"] (spLOn K) := by
  refine F.ok scLOn (fun vs H Q E h => ?_) (fun cdv A outer s H vs Q E hr h => ?_)
  · obtain ⟨c, code, r, rfl, _⟩ := h
    rfl
  · obtain ⟨c, code, r, rfl, hC, sm, hr1, q⟩ := h
    have nd := scLOn.nd
    refine ⟨_, pss_cons (ps_set (i := 2) nd rfl (.inl rfl) (pe_lst pa_nil))
      (pss_cons (ps_for PassesOwn.never rfl (pi_tup (pv 0)) (pg_name (i := 3) nd rfl (Or.inl rfl))
        (pss_one (ps_if (pt_cmpR op_eq (pe_slice sl_str (pv 1) po_none (po_some (pe_callB call_len_str (by rfl) T.len PySem.boot_len (pa_cons (pv 3) pa_nil)))) (pv 3) (nomark _))
          (pss_one (ps_expr (pe_bm PySem.F.plainAttrs_list PySem.F.slot_list_append PySem.F.type_list_append mt_append (pv 2) (pa_cons
              (pe_slice sl_str (pv 1) (po_some (pe_callB call_len_str (by rfl) T.len PySem.boot_len (pa_cons (pv 3) pa_nil))) po_none) pa_nil))))
          (pss_one (ps_if (pt_cmpR op_eq (pe_slice sl_str (pv 3) po_none (po_some (pe_callB call_len_str (by rfl) T.len PySem.boot_len (pa_cons (pv 1) pa_nil)))) (pv 1) (nomark _))
            (pss_one (ps_expr (pe_bm PySem.F.plainAttrs_list PySem.F.slot_list_append PySem.F.type_list_append mt_append (pv 2) (pa_cons
                (pe_slice sl_str (pv 3) (po_some (pe_callB call_len_str (by rfl) T.len PySem.boot_len (pa_cons (pv 1) pa_nil))) po_none) pa_nil)))) pss_nil)))))
      (pss_one (ps_ret (pv 2)))), ?_⟩
    refine ⟨Nat.zero_le _, fun o no => ?_⟩
    have s0 : Same H (upd H o (.lst [])) := same_upd no
    refine ⟨.ref c, rfl, c, rfl, ⟨_, Same.tup s0 hC⟩, for_it (walk_tup (xs := code.map Sv)) (fun i σ H1 => ∃ y3, σ = [some (.ref c), some (Sv r), some (.ref o), y3] ∧ Same H H1 ∧ H1 o = some (.lst (((code.take i).flatMap (onW r)).map Sv)))
      ⟨none, rfl, s0, upd_same⟩ (fun i σ H1 _ ⟨_, _, s1, _⟩ => Same.tup s1 hC) ?_ ?_⟩
    · rintro i x σ H1 H2 hi ⟨y3, rfl, s1, h1⟩ ⟨rfl, hx⟩
      obtain ⟨z, ez, rfl⟩ := map_at hx
      have hz5 := sm.word z (List.mem_of_getElem? ez)
      have hzl : (mk z).length ≤ sizeLine := small_line (by rw [mk_len]; omega)
      have hrl : (mk r).length ≤ sizeLine := small_line (by rw [mk_len]; omega)
      have hlen : (((code.take i).flatMap (onW r)).map Sv).length ≤ 6 := by
        rw [List.length_map]
        have := flat_le (onW r) (onW_len r) code i
        have := sm.few
        omega
      have step := take_flat (onW r) ez
      have eT : ∀ a b : S, cutS (mk a) none (some ((mk b).length : Int)) = mk (a.take b.length) := fun a b => by
        rw [mk_len]
        exact cut_to a _
      have eD : ∀ a b : S, cutS (mk a) (some ((mk b).length : Int)) none = mk (a.drop b.length) := fun a b => by
        rw [mk_len]
        exact cut_from a _
      refine ⟨_, rfl, _, rfl, mk z, rfl, hzl, _, rfl, _, rfl, hrl, _, rfl, rfl, _, rfl, ?_⟩
      rw [eT, dec_sv, take_pre]
      cases h1p : z.isPrefixOf r with
      | true =>
        refine iteT ⟨_, rfl, .inl ⟨rfl, _, SqL.of h1⟩, _, rfl, _, rfl, mk z, rfl, hzl, _, rfl, _, rfl, hrl, o, _, _, rfl, rfl, h1, small_lt (by omega), ?_⟩
        refine ⟨_, rfl, same_put s1 no, ?_⟩
        have e : onW r z = [r.drop z.length] := by
          unfold onW
          rw [if_pos h1p]
        rw [upd_same, step, e, List.map_append, eD]
        rfl
      | false =>
        refine iteF ⟨_, rfl, _, rfl, mk r, rfl, hrl, _, rfl, _, rfl, hzl, _, rfl, rfl, _, rfl, ?_⟩
        rw [eT, dec_sv, take_pre]
        cases h2p : r.isPrefixOf z with
        | true =>
          refine iteT ⟨_, rfl, .inl ⟨rfl, _, SqL.of h1⟩, _, rfl, _, rfl, mk r, rfl, hrl, _, rfl, _, rfl, hzl, o, _, _, rfl, rfl, h1, small_lt (by omega), ?_⟩
          refine ⟨_, rfl, same_put s1 no, ?_⟩
          have e : onW r z = [z.drop r.length] := by
            unfold onW
            rw [if_neg (by rw [h1p]; exact Bool.false_ne_true), if_pos h2p]
          rw [upd_same, step, e, List.map_append, eD]
          rfl
        | false =>
          refine iteF ⟨_, rfl, s1, ?_⟩
          have e : onW r z = [] := by
            unfold onW
            rw [if_neg (by rw [h1p]; exact Bool.false_ne_true), if_neg (by rw [h2p]; exact Bool.false_ne_true)]
          rw [step, e, List.append_nil]
          exact h1
    · rintro σ H1 ⟨y3, rfl, s1, h1⟩
      rw [List.length_map, List.take_of_length_le (Nat.le_refl _)] at h1
      exact ⟨_, rfl, q H1 o s1 no h1⟩
end
end K11
set_option Elab.async false
set_option linter.all false
set_option maxRecDepth 100000
set_option maxHeartbeats 4000000
namespace K11
open PySem PySem.Spec PyProof.Rows L2
theorem prW_len (i : Nat) (x : S) (p : S × Nat) : (prW i x p).length ≤ 1 := by
  unfold prW
  split
  · exact Nat.le_refl _
  · exact Nat.zero_le _
section
variable {P : Program} {w : World} {K : PySem.W.Frag} {mg : Str → Option Value} {base : Heap}
/-! ### _law_pairs -/
abbrev nLPairs : List Str := ["_law_code_here", "_law_found", "_law_one", "_law_other"]
def spLPairs (K : PySem.W.Frag) : Sp := fun vs H Q _ => ∃ (c : Addr) (code : List S), vs = [.ref c] ∧ SqT K H c (code.map Sv) ∧ Small code ∧ ∀ H' p, Same H H' → H p = none → H' p = some (.lst ((pairs code).map Sv)) → Q (.ref p) H'
theorem scLPairs : FnScope nLPairs ["_law_code_here"] (defScope sLPairs) := ⟨rfl, rfl, rfl, by decide +kernel, rfl, by decide +kernel, by decide +kernel⟩
theorem ok_lpairs {f : Addr} {fd : FuncData} (F : Fun K "_law_pairs" "_law_pairs" sLPairs f fd) (T : Glo mg) : FnOk P w K mg base CX0 1 f fd ["_law_code_here"] (spLPairs K) := by
  refine F.ok scLPairs (fun vs H Q E h => ?_) (fun cdv A outer s H vs Q E hr h => ?_)
  · obtain ⟨c, code, rfl, _⟩ := h
    rfl
  · obtain ⟨c, code, rfl, hC, sm, q⟩ := h
    have nd := scLPairs.nd
    have hlen : (code.map Sv).length = code.length := List.length_map _
    have hfew := sm.few
    refine ⟨_, pss_cons (ps_set (i := 1) nd rfl (.inl rfl) (pe_lst pa_nil))
      (pss_cons (ps_for PassesOwn.never rfl (pi_range1 (by rfl) T.range (pa_cons (pe_callB call_len_seq (by rfl) T.len PySem.boot_len (pa_cons (pv 0) pa_nil)) pa_nil)) (pg_name (i := 2) nd rfl (Or.inl rfl))
        (pss_one (ps_for PassesOwn.never rfl (pi_range1 (by rfl) T.range (pa_cons (pe_callB call_len_seq (by rfl) T.len PySem.boot_len (pa_cons (pv 0) pa_nil)) pa_nil)) (pg_name (i := 3) nd rfl (Or.inl rfl))
          (pss_one (ps_if (PW.pt (pw_and (pt_cmpR op_ne (pv 2) (pv 3) (nomark _)) (pw_and1 (pt_cmpR op_eq
              (pe_slice sl_str (pe_ix (r := rIxT K) ix_tup (pv 0) (pv 2) (fun _ _ => rfl)) po_none (po_some (pe_callB call_len_str (by rfl) T.len PySem.boot_len (pa_cons (pe_ix (r := rIxT K) ix_tup (pv 0) (pv 3) (fun _ _ => rfl)) pa_nil))))
              (pe_ix (r := rIxT K) ix_tup (pv 0) (pv 3) (fun _ _ => rfl)) (nomark _)))))
            (pss_one (ps_expr (pe_bm PySem.F.plainAttrs_list PySem.F.slot_list_append PySem.F.type_list_append mt_append (pv 1) (pa_cons
              (pe_slice sl_str (pe_ix (r := rIxT K) ix_tup (pv 0) (pv 2) (fun _ _ => rfl)) (po_some (pe_callB call_len_str (by rfl) T.len PySem.boot_len (pa_cons (pe_ix (r := rIxT K) ix_tup (pv 0) (pv 3) (fun _ _ => rfl)) pa_nil))) po_none) pa_nil)))) pss_nil)))))
      (pss_one (ps_ret (pv 1)))), ?_⟩
    refine ⟨Nat.zero_le _, fun o no => ?_⟩
    have s0 : Same H (upd H o (.lst [])) := same_upd no
    refine ⟨.ref c, rfl, c, _, rfl, .inr (Same.tup s0 hC), _, rfl, by omega, by omega, ?_⟩
    refine for_it (walk_range (lo := 0) (n := ((code.map Sv).length : Int).toNat)) (fun i σ H1 => ∃ y2 y3, σ = [some (.ref c), some (.ref o), y2, y3] ∧ Same H H1 ∧ H1 o = some (.lst (((code.zipIdx.take i).flatMap fun q => code.zipIdx.flatMap fun p => prW q.2 q.1 p).map Sv)))
      ⟨none, none, rfl, s0, upd_same⟩ (fun _ _ _ _ _ => trivial) ?_ ?_
    · rintro i x σ H1 H2 hi ⟨y2, y3, rfl, s1, h1⟩ ⟨rfl, rfl⟩
      have hi' : i < code.length := by omega
      obtain ⟨z, ez⟩ : ∃ z, code[i]? = some z := ⟨_, List.getElem?_eq_getElem hi'⟩
      refine ⟨.ref c, rfl, c, _, rfl, .inr (Same.tup s1 hC), _, rfl, by omega, by omega, ?_⟩
      refine for_it (walk_range (lo := 0) (n := ((code.map Sv).length : Int).toNat)) (fun j σ H3 => ∃ y3, σ = [some (.ref c), some (.ref o), some (.int (0 + (i : Nat))), y3] ∧ Same H H3 ∧
          H3 o = some (.lst ((((code.zipIdx.take i).flatMap fun q => code.zipIdx.flatMap fun p => prW q.2 q.1 p) ++ (code.zipIdx.take j).flatMap fun p => prW i z p).map Sv)))
        ⟨y3, rfl, s1, by simpa using h1⟩ (fun _ _ _ _ _ => trivial) ?_ ?_
      · rintro j x σ H3 H4 hj ⟨y3, rfl, s3, h3⟩ ⟨rfl, rfl⟩
        have hj' : j < code.length := by omega
        obtain ⟨p, ep⟩ : ∃ p, code[j]? = some p := ⟨_, List.getElem?_eq_getElem hj'⟩
        have hC3 := Same.tup s3 hC
        have hrow : ((((code.zipIdx.take i).flatMap fun q => code.zipIdx.flatMap fun p => prW q.2 q.1 p) ++ (code.zipIdx.take j).flatMap fun p => prW i z p).map Sv).length ≤ 72 := by
          have h1 : ((code.zipIdx.take i).flatMap fun q => code.zipIdx.flatMap fun p => prW q.2 q.1 p).length ≤ 6 * 6 := by
            have a := len_flatMap_le (fun q : S × Nat => code.zipIdx.flatMap fun p => prW q.2 q.1 p) 6 (code.zipIdx.take i) fun q _ => by
              have b := flat_le (fun p => prW q.2 q.1 p) (prW_len q.2 q.1) code.zipIdx code.zipIdx.length
              rw [List.take_of_length_le (Nat.le_refl _), List.length_zipIdx] at b
              omega
            rw [List.length_take, List.length_zipIdx] at a
            have c := Nat.mul_le_mul (show min i code.length ≤ 6 by omega) (Nat.le_refl 6)
            omega
          have h2 := flat_le (fun p => prW i z p) (prW_len i z) code.zipIdx j
          rw [List.length_zipIdx] at h2
          rw [List.length_map, List.length_append]
          omega
        have step : (code.zipIdx.take (j + 1)).flatMap (fun p => prW i z p) = (code.zipIdx.take j).flatMap (fun p => prW i z p) ++ prW i z (p, j) := take_flat (fun p => prW i z p) (idx_at ep)
        have ei : atI (code.map Sv) (0 + (i : Int)) = some (Sv z) := by
          rw [Int.zero_add]
          exact atI_nat (at_map ez)
        have ej : atI (code.map Sv) (0 + (j : Int)) = some (Sv p) := by
          rw [Int.zero_add]
          exact atI_nat (at_map ep)
        have hz5 := sm.word z (List.mem_of_getElem? ez)
        have hp5 := sm.word p (List.mem_of_getElem? ep)
        have hzl : (mk z).length ≤ sizeLine := small_line (by rw [mk_len]; omega)
        have hpl : (mk p).length ≤ sizeLine := small_line (by rw [mk_len]; omega)
        have eT : cutS (mk z) none (some ((mk p).length : Int)) = mk (z.take p.length) := by
          rw [mk_len]
          exact cut_to z _
        have eD : cutS (mk z) (some ((mk p).length : Int)) none = mk (z.drop p.length) := by
          rw [mk_len]
          exact cut_from z _
        refine ⟨_, rfl, _, rfl, rfl, _, rfl, ?_⟩
        by_cases hji : j = i
        · subst hji
          refine iteNS rfl (iteF ⟨_, rfl, s3, ?_⟩)
          have e : prW j z (p, j) = [] := by
            unfold prW
            rw [if_neg (by simp)]
          rw [step, e, List.append_nil]
          exact h3
        · refine iteNT (fun e => hji (by have := V.int.inj e; omega)) ⟨_, rfl, _, rfl, c, _, _, _, rfl, rfl, hC3, ei, _, rfl, _, rfl, c, _, _, _, rfl, rfl, hC3, ej, mk p, rfl, hpl, _, rfl, _, rfl, hzl, _, rfl, _, rfl, c, _, _, _, rfl, rfl, hC3, ej, rfl, _, rfl, ?_⟩
          rw [eT, dec_sv, take_pre]
          cases hpz : p.isPrefixOf z with
          | false =>
            refine iteF ⟨_, rfl, s3, ?_⟩
            have e : prW i z (p, j) = [] := by
              unfold prW
              rw [if_neg (by simp [hpz])]
            rw [step, e, List.append_nil]
            exact h3
          | true =>
            refine iteT ⟨_, rfl, .inl ⟨rfl, _, SqL.of h3⟩, _, rfl, _, rfl, c, _, _, _, rfl, rfl, hC3, ei, _, rfl, _, rfl, c, _, _, _, rfl, rfl, hC3, ej, mk p, rfl, hpl, _, rfl, _, rfl, hzl, o, _, _, rfl, rfl, h3, small_lt (by omega), ?_⟩
            refine ⟨_, rfl, same_put s3 no, ?_⟩
            have e : prW i z (p, j) = [z.drop p.length] := by
              unfold prW
              rw [if_pos ⟨hji, hpz⟩]
            rw [upd_same, step, e, eD]
            simp only [List.map_append, List.append_assoc, List.map_cons, List.map_nil]
      · rintro σ H3 ⟨y3, rfl, s3, h3⟩
        refine ⟨_, _, rfl, s3, ?_⟩
        have e : ((code.map Sv).length : Int).toNat = code.zipIdx.length := by
          rw [List.length_zipIdx, hlen]
          rfl
        rw [e, List.take_of_length_le (Nat.le_refl _)] at h3
        rw [take_flat (fun q : S × Nat => code.zipIdx.flatMap fun p => prW q.2 q.1 p) (idx_at ez)]
        exact h3
    · rintro σ H1 ⟨y2, y3, rfl, s1, h1⟩
      have e : ((code.map Sv).length : Int).toNat = code.zipIdx.length := by
        rw [List.length_zipIdx, hlen]
        rfl
      rw [e, List.take_of_length_le (Nat.le_refl _)] at h1
      exact ⟨_, rfl, q H1 o s1 no h1⟩
end
end K11
set_option Elab.async false
set_option linter.all false
set_option maxRecDepth 100000
set_option maxHeartbeats 4000000
namespace K11
open PySem PySem.Spec PyProof.Rows L2
theorem asc_set {row : List S} {ys : List Str} (hp : ys.Pairwise (fun x y => x.cps.toList < y.cps.toList)) (hk : ∀ k, k ∈ ys ↔ decide (k ∈ row.map mk) = true) : ∃ zs : List S, ys = zs.map mk ∧ zs.Pairwise (· < ·) ∧ ∀ r, r ∈ zs ↔ r ∈ row := by
  obtain ⟨zs, rfl, h⟩ := asc_mk hp
  refine ⟨zs, rfl, h, fun r => ?_⟩
  rw [← mem_mk, hk, decide_eq_true_eq, mem_mk]
theorem fold_take {row : List S} {f : List S → S → List S} {ms : List S} {j : Nat} {m : S} (h : ms[j]? = some m) : (ms.take (j + 1)).foldl f row = f ((ms.take j).foldl f row) m := by
  rw [List.take_add_one, h, List.foldl_append]
  rfl
theorem fold_len {f : List S → S → List S} (hf : ∀ r m, (f r m).length ≤ r.length + 1) : ∀ (ms row : List S), (ms.foldl f row).length ≤ row.length + ms.length
  | [], _ => Nat.le_refl _
  | m :: ms, row => by
    have := fold_len hf ms (f row m)
    have := hf row m
    rw [List.foldl_cons, List.length_cons]
    omega
theorem addNew_len (r : List S) (m : S) : (addNew r m).length ≤ r.length + 1 := by
  unfold addNew
  split
  · omega
  · rw [List.length_append]; exact Nat.le_refl _
section
variable {P : Program} {w : World} {K : PySem.W.Frag} {mg : Str → Option Value} {base : Heap}
/-! ### _law_rests -/
abbrev nLRests : List Str := ["_law_code_here", "_law_row", "_law_turn", "_law_more"]
def spLRests (K : PySem.W.Frag) : Sp := fun vs H Q _ => ∃ (c : Addr) (code : List S), vs = [.ref c] ∧ SqT K H c (code.map Sv) ∧ Small code ∧ ∀ H' a (zs : List S), Same H H' → SqT K H' a (zs.map Sv) → zs.Pairwise (· < ·) → (∀ r, r ∈ zs ↔ r ∈ rowAt code 400) → Q (.ref a) H'
theorem scLRests : FnScope nLRests ["_law_code_here"] (defScope sLRests) := ⟨rfl, rfl, rfl, by decide +kernel, rfl, by decide +kernel, by decide +kernel⟩
theorem rowlen {code : List S} (sm : Small code) (t : Nat) : (rowAt code t).length ≤ 72 := by
  have := row_len code t
  have := sm.lenU
  have := Nat.mul_le_mul sm.few sm.few
  omega
theorem ok_lrests {f : Addr} {fd : FuncData} (F : Fun K "_law_rests" "_law_rests" sLRests f fd) (T : Glo mg) (A1 : Kn P w K mg base 1 "_law_pairs" ["_law_code_here"] (spLPairs K)) (A2 : Kn P w K mg base 1 "_law_on" ["_law_code_here", "_law_rest"] (spLOn K)) :
    FnOk P w K mg base CX0 2 f fd ["_law_code_here"] (spLRests K) := by
  obtain ⟨f1, fd1, G1, b1, g1, k1⟩ := A1
  obtain ⟨f2, fd2, G2, b2, g2, k2⟩ := A2
  refine F.ok scLRests (fun vs H Q E h => ?_) (fun cdv A outer s H vs Q E hr h => ?_)
  · obtain ⟨c, code, rfl, _⟩ := h
    rfl
  · obtain ⟨c, code, rfl, hC, sm, q⟩ := h
    have nd := scLRests.nd
    refine ⟨_, pss_cons (ps_set (i := 1) nd rfl (.inl rfl) (pe_call G1 hr (by rfl) g1 k1 b1 .nil pass0 (pa_cons (pv 0) pa_nil)))
      (pss_cons (ps_for PassesOwn.never rfl (pi_range1 (by rfl) T.range (pa_cons pe_int pa_nil)) (pg_name (i := 2) nd rfl (Or.inl rfl))
        (pss_one (ps_if (PW.pt (pw_and (pt_cmpR op_lt (pv 2) (pe_callB call_len_seq (by rfl) T.len PySem.boot_len (pa_cons (pv 1) pa_nil)) (nomark _)) (pw_and1 (pt_cmpR op_ne (pe_ix (r := rIxL K) ix_list (pv 1) (pv 2) (fun _ _ => rfl)) pe_str (nomark _)))))
          (pss_one (ps_for PassesOwn.never rfl (pi_list (pe_call G2 hr (by rfl) g2 k2 b2 .nil pass0 (pa_cons (pv 0) (pa_cons (pe_ix (r := rIxL K) ix_list (pv 1) (pv 2) (fun _ _ => rfl)) pa_nil)))) (pg_name (i := 3) nd rfl (Or.inl rfl))
            (pss_one (ps_if (pt_cmpR (r := rIn K true) op_notIn_seq (pv 3) (pv 1) (by rfl))
              (pss_one (ps_expr (pe_bm PySem.F.plainAttrs_list PySem.F.slot_list_append PySem.F.type_list_append mt_append (pv 1) (pa_cons (pv 3) pa_nil)))) pss_nil)))) pss_nil)))
      (pss_one (ps_ret (pe_callTy call_tuple_of (by rfl) T.tuple boot_tuple (pa_cons (pe_callB (cr_sortedT rfl hr.units) (by rfl) T.sorted boot_sorted (pa_cons (pe_callTy (cr_setT rfl) (by rfl) T.set boot_set (pa_cons (pv 1) pa_nil)) pa_nil)) pa_nil))))), ?_⟩
    refine ⟨_, rfl, c, code, rfl, hC, sm, fun H1 p s1 np h1 => ?_⟩
    refine ⟨400, rfl, by decide, by decide, for_it (walk_range (lo := 0) (n := 400)) (fun t σ H2 => ∃ y2 y3, σ = [some (.ref c), some (.ref p), y2, y3] ∧ Same H H2 ∧ H2 p = some (.lst ((rowAt code t).map Sv)))
      ⟨none, none, rfl, s1, h1⟩ (fun _ _ _ _ _ => trivial) ?_ ?_⟩
    · rintro t x σ H2 H3 ht ⟨y2, y3, rfl, s2, h2⟩ ⟨rfl, rfl⟩
      have rl := rowlen sm t
      refine ⟨_, rfl, _, rfl, p, _, rfl, .inl (SqL.of h2), _, _, rfl, rfl, _, rfl, ?_⟩
      by_cases hlt : t < (rowAt code t).length
      · obtain ⟨r, er⟩ : ∃ r, (rowAt code t)[t]? = some r := ⟨_, List.getElem?_eq_getElem hlt⟩
        have ea : atI ((rowAt code t).map Sv) (0 + (t : Int)) = some (Sv r) := by
          rw [Int.zero_add]
          exact atI_nat (at_map er)
        refine iteDT (by rw [List.length_map]; omega) ⟨_, rfl, _, rfl, p, _, _, _, rfl, rfl, SqL.of h2, ea, rfl, _, rfl, ?_⟩
        rw [show (V.str "") = Sv [] from rfl, dec_sv]
        by_cases hr0 : r = []
        · rw [decide_eq_true hr0]
          refine iteF ⟨_, _, rfl, s2, ?_⟩
          have e : rowAt code (t + 1) = rowAt code t := by
            show turn code (rowAt code t) t = _
            unfold turn
            rw [er]
            show (if r ≠ [] then _ else _) = _
            rw [if_neg (fun z => z hr0)]
          rw [e]
          exact h2
        · rw [decide_eq_false hr0]
          have hrU := row_U r (List.mem_of_getElem? er)
          have hr5 := sm.rest hrU
          refine iteT ⟨_, rfl, _, rfl, _, rfl, p, _, _, _, rfl, rfl, SqL.of h2, ea, c, code, r, rfl, Same.tup s2 hC, sm, by omega, fun H4 p4 s4 np4 h4 => ⟨p4, rfl, ⟨_, SqL.of h4⟩, ?_⟩⟩
          have npp : p4 ≠ p := (ne_of_none h2 np4).symm
          have e : rowAt code (t + 1) = (on code r).foldl addNew (rowAt code t) := by
            show turn code (rowAt code t) t = _
            unfold turn
            rw [er]
            show (if r ≠ [] then _ else _) = _
            rw [if_pos hr0]
          refine for_it (walk_list (xs := (on code r).map Sv)) (fun j σ H5 => ∃ y3, σ = [some (.ref c), some (.ref p), some (.int (0 + (t : Nat))), y3] ∧ Same H H5 ∧ H5 p = some (.lst ((((on code r).take j).foldl addNew (rowAt code t)).map Sv)) ∧ H5 p4 = some (.lst ((on code r).map Sv)))
            ⟨y3, rfl, s2.trans s4, s4 _ _ h2, h4⟩ (fun j σ H5 _ ⟨_, _, _, _, e⟩ => SqL.of e) ?_ ?_
          · rintro j x σ H5 H6 hj ⟨y3, rfl, s5, h5, h5b⟩ ⟨rfl, hx⟩
            obtain ⟨m, em, rfl⟩ := map_at hx
            have hl5 : (((on code r).take j).foldl addNew (rowAt code t)).length ≤ 78 := by
              have h1 := fold_len addNew_len ((on code r).take j) (rowAt code t)
              have h2 := len_on code r
              have h3 := sm.few
              rw [List.length_take] at h1
              omega
            refine ⟨_, rfl, .ref p, rfl, p, _, rfl, .inl (SqL.of h5), rfl, flat_sv _, _, rfl, ?_⟩
            rw [if_pos rfl, in_sv]
            have ef := fold_take (f := addNew) (row := rowAt code t) em
            by_cases hin : m ∈ ((on code r).take j).foldl addNew (rowAt code t)
            · rw [decide_eq_true hin]
              refine iteF ⟨_, rfl, s5, ?_, h5b⟩
              rw [ef]
              unfold addNew at hin ⊢
              rw [if_pos hin]
              exact h5
            · rw [decide_eq_false hin]
              refine iteT ⟨_, rfl, .inl ⟨rfl, _, SqL.of h5⟩, _, rfl, p, _, _, rfl, rfl, h5, small_lt (by rw [List.length_map]; omega), ?_⟩
              refine ⟨_, rfl, same_put s5 np, ?_, by rw [upd_ne npp]; exact h5b⟩
              rw [upd_same, ef]
              have e2 : ∀ row : List S, m ∉ row → addNew row m = row ++ [m] := fun row h => by
                unfold addNew
                rw [if_neg h]
              rw [e2 _ hin, List.map_append]
              rfl
          · rintro σ H5 ⟨y3, rfl, s5, h5, h5b⟩
            rw [List.length_map, List.take_of_length_le (Nat.le_refl _), ← e] at h5
            exact ⟨_, _, rfl, s5, h5⟩
      · refine iteDF (by rw [List.length_map]; omega) ⟨_, _, rfl, s2, ?_⟩
        have e : rowAt code (t + 1) = rowAt code t := by
          show turn code (rowAt code t) t = _
          unfold turn
          rw [List.getElem?_eq_none (by omega)]
        rw [e]
        exact h2
    · rintro σ H2 ⟨y2, y3, rfl, s2, h2⟩
      have rl := rowlen sm 400
      refine ⟨_, rfl, p, (rowAt code 400).map mk, rfl, .inl (SqL.of (by rw [← map_sv]; exact h2)), by rw [List.length_map]; omega, fun a n ha => ⟨a, _, _, rfl, upd_same, fun ys p2 hp hk hn => ⟨p2, _, rfl, .inl ⟨SqL.of upd_same, fun l hl => ?_⟩⟩⟩⟩
      obtain ⟨zs, rfl, h3, h4⟩ := asc_set hp hk
      refine q _ l zs (s2.trans ((same_upd ha).trans ((same_upd hn).trans (same_upd hl)))) ?_ h3 h4
      rw [map_sv]
      exact SqT.of upd_same
/-! ### _law_grown -/
theorem addNE_len (r : List S) (m : S) : (addNE r m).length ≤ r.length + 1 := len_addNE r m
abbrev nLGrown : List Str := ["_law_code_here", "_law_start", "_law_row", "_law_turn", "_law_more", "_law_rest"]
def spLGrown (K : PySem.W.Frag) : Sp := fun vs H Q _ => ∃ (c b : Addr) (code start : List S) (d : S), vs = [.ref c, .ref b] ∧ SqT K H c (code.map Sv) ∧ Small code ∧ SqL K H b (start.map Sv) ∧ start.length ≤ 100 ∧ d.length ≤ 5 ∧ (∀ r ∈ start, r ∈ U (d :: code)) ∧
  ∀ H' a (zs : List S), Same H H' → SqT K H' a (zs.map Sv) → zs.length ≤ 1000 → (∀ r ∈ zs, r.length ≤ 1000) → Q (.ref a) H'
theorem scLGrown : FnScope nLGrown ["_law_code_here", "_law_start"] (defScope sLGrown) := ⟨rfl, rfl, rfl, by decide +kernel, rfl, by decide +kernel, by decide +kernel⟩
theorem ok_lgrown {f : Addr} {fd : FuncData} (F : Fun K "_law_grown" "_law_grown" sLGrown f fd) (T : Glo mg) (A2 : Kn P w K mg base 1 "_law_on" ["_law_code_here", "_law_rest"] (spLOn K)) :
    FnOk P w K mg base CX0 2 f fd ["_law_code_here", "_law_start"] (spLGrown K) := by
  obtain ⟨f2, fd2, G2, b2, g2, k2⟩ := A2
  refine F.ok scLGrown (fun vs H Q E h => ?_) (fun cdv A outer s H vs Q E hr h => ?_)
  · obtain ⟨c, b, code, start, d, rfl, _⟩ := h
    rfl
  · obtain ⟨c, b, code, start, d, rfl, hC, sm, hB, hbl, hd5, hU, q⟩ := h
    have nd := scLGrown.nd
    refine ⟨_, pss_cons (ps_setLc (i := 2) (own := [("_law_rest", 5)]) (g := gName 5) rfl nd rfl rfl (sw_true rfl rfl rfl (by decide +kernel)) (pi_list (pv 1)) (blkOk_by (N := nLGrown) (sc := defScope sLGrown) (by decide +kernel))
        (fun _ _ _ _ _ => pg_name (i := 5) nd rfl (Or.inl rfl)) (fun _ _ _ _ _ => pts_one (pt_cmpR op_ne (pv 5) pe_str (nomark _))) (fun _ _ _ _ _ => pv 5))
      (pss_cons (ps_for PassesOwn.never rfl (pi_range1 (by rfl) T.range (pa_cons pe_int pa_nil)) (pg_name (i := 3) nd rfl (Or.inl rfl))
        (pss_one (ps_if (pt_cmpR op_lt (pv 3) (pe_callB call_len_seq (by rfl) T.len PySem.boot_len (pa_cons (pv 2) pa_nil)) (nomark _))
          (pss_one (ps_for PassesOwn.never rfl (pi_list (pe_call G2 hr (by rfl) g2 k2 b2 .nil pass0 (pa_cons (pv 0) (pa_cons (pe_ix (r := rIxL K) ix_list (pv 2) (pv 3) (fun _ _ => rfl)) pa_nil)))) (pg_name (i := 4) nd rfl (Or.inl rfl))
            (pss_one (ps_if (PW.pt (pw_and (pt_cmpR (r := rIn K true) op_notIn_seq (pv 4) (pv 2) (by rfl)) (pw_and1 (pt_cmpR op_ne (pv 4) pe_str (nomark _)))))
              (pss_one (ps_expr (pe_bm PySem.F.plainAttrs_list PySem.F.slot_list_append PySem.F.type_list_append mt_append (pv 2) (pa_cons (pv 4) pa_nil)))) pss_nil)))) pss_nil)))
      (pss_one (ps_ret (pe_callTy call_tuple_of (by rfl) T.tuple boot_tuple (pa_cons (pe_callB (cr_sortedT rfl hr.units) (by rfl) T.sorted boot_sorted (pa_cons (pe_callTy (cr_setT rfl) (by rfl) T.set boot_set (pa_cons (pv 2) pa_nil)) pa_nil)) pa_nil))))), ?_⟩
    have hfew := sm.few
    have gU : ∀ t, ∀ r ∈ grow code start t, r ∈ U (d :: code) := fun t => grow_U hU t
    have u5 : ∀ r, r ∈ U (d :: code) → r.length ≤ 5 := fun r hr => by
      obtain ⟨x, hx, s⟩ := mem_U.mp hr
      have := s.length_le
      rcases List.mem_cons.mp hx with e | hx
      · rw [e] at this
        omega
      · have := sm.word x hx
        omega
    have gl : ∀ t, t ≤ 30 → (grow code start t).length ≤ 280 := fun t ht => by
      have := len_grow code start t
      have := Nat.mul_le_mul ht hfew
      omega
    refine ⟨.ref b, rfl, b, rfl, ⟨_, hB⟩, fun D hD => ?_⟩
    refine lc_it (walk_list (xs := start.map Sv)) (fun i H2 => Same H H2 ∧ H2 D = some (.lst (((start.take i).filter fun r => decide (r ≠ [])).map Sv))) ⟨same_upd hD, upd_same⟩ (fun i H2 _ h => h.1.seq hB) ?_ ?_
    · rintro i x H2 H3 hi ⟨s2, h2⟩ ⟨rfl, hx⟩
      obtain ⟨r, er, rfl⟩ := map_at hx
      refine ⟨rfl, _, rfl, rfl, _, rfl, ?_⟩
      rw [show (V.str "") = Sv [] from rfl, dec_sv]
      have hl : ((start.take i).filter fun r => decide (r ≠ [])).length ≤ 100 := by
        refine Nat.le_trans (List.length_filter_le _ _) ?_
        rw [List.length_take]
        omega
      have e : (start.take (i + 1)).filter (fun r => decide (r ≠ [])) = (start.take i).filter (fun r => decide (r ≠ [])) ++ [r].filter (fun r => decide (r ≠ [])) := by
        rw [List.take_add_one, er, List.filter_append]
        rfl
      by_cases h0 : r = []
      · rw [decide_eq_true h0]
        refine iteF ⟨s2, ?_⟩
        rw [e, h0]
        simpa using h2
      · rw [decide_eq_false h0]
        refine iteT ⟨_, rfl, _, h2, small_lt (by rw [List.length_map]; omega), same_put s2 hD, ?_⟩
        rw [upd_same, e]
        have : [r].filter (fun r => decide (r ≠ [])) = [r] := by simp [h0]
        rw [this, List.map_append]
        rfl
    · rintro H1 ⟨s1, h1⟩
      rw [List.length_map, List.take_of_length_le (Nat.le_refl _)] at h1
      refine ⟨30, rfl, by decide, by decide, for_it (walk_range (lo := 0) (n := 30)) (fun t σ H2 => ∃ y3 y4, σ = [some (.ref c), some (.ref b), some (.ref D), y3, y4, none] ∧ Same H H2 ∧ H2 D = some (.lst ((grow code start t).map Sv)))
        ⟨none, none, rfl, s1, h1⟩ (fun _ _ _ _ _ => trivial) ?_ ?_⟩
      · rintro t x σ H2 H3 ht ⟨y3, y4, rfl, s2, h2⟩ ⟨rfl, rfl⟩
        have rl := gl t (by omega)
        refine ⟨_, rfl, _, rfl, D, _, rfl, .inl (SqL.of h2), _, _, rfl, rfl, _, rfl, ?_⟩
        by_cases hlt : t < (grow code start t).length
        · obtain ⟨r, er⟩ : ∃ r, (grow code start t)[t]? = some r := ⟨_, List.getElem?_eq_getElem hlt⟩
          have ea : atI ((grow code start t).map Sv) (0 + (t : Int)) = some (Sv r) := by
            rw [Int.zero_add]
            exact atI_nat (at_map er)
          have hr5 := u5 r (gU t r (List.mem_of_getElem? er))
          refine iteDT (by rw [List.length_map]; omega) ⟨_, rfl, _, rfl, _, rfl, D, _, _, _, rfl, rfl, SqL.of h2, ea, c, code, r, rfl, Same.tup s2 hC, sm, by omega, fun H4 p4 s4 np4 h4 => ⟨p4, rfl, ⟨_, SqL.of h4⟩, ?_⟩⟩
          have npp : p4 ≠ D := (ne_of_none h2 np4).symm
          have e : grow code start (t + 1) = (on code r).foldl addNE (grow code start t) := by
            show gturn code (grow code start t) t = _
            unfold gturn
            rw [er]
          refine for_it (walk_list (xs := (on code r).map Sv)) (fun j σ H5 => ∃ y4, σ = [some (.ref c), some (.ref b), some (.ref D), some (.int (0 + (t : Nat))), y4, none] ∧ Same H H5 ∧ H5 D = some (.lst ((((on code r).take j).foldl addNE (grow code start t)).map Sv)) ∧ H5 p4 = some (.lst ((on code r).map Sv)))
            ⟨y4, rfl, s2.trans s4, s4 _ _ h2, h4⟩ (fun j σ H5 _ ⟨_, _, _, _, e⟩ => SqL.of e) ?_ ?_
          · rintro j x σ H5 H6 hj ⟨y4, rfl, s5, h5, h5b⟩ ⟨rfl, hx⟩
            obtain ⟨m, em, rfl⟩ := map_at hx
            have hl5 : (((on code r).take j).foldl addNE (grow code start t)).length ≤ 290 := by
              have h1 := fold_len addNE_len ((on code r).take j) (grow code start t)
              have h2 := len_on code r
              rw [List.length_take] at h1
              omega
            refine ⟨_, rfl, .ref D, rfl, D, _, rfl, .inl (SqL.of h5), rfl, flat_sv _, _, rfl, ?_⟩
            rw [if_pos rfl, in_sv]
            have ef := fold_take (f := addNE) (row := grow code start t) em
            by_cases hin : m ∈ ((on code r).take j).foldl addNE (grow code start t)
            · rw [decide_eq_true hin]
              refine iteF (iteF ⟨_, rfl, s5, ?_, h5b⟩)
              rw [ef]
              unfold addNE at hin ⊢
              rw [if_neg (fun z => z.1 hin)]
              exact h5
            · rw [decide_eq_false hin]
              refine iteT ⟨_, rfl, rfl, _, rfl, ?_⟩
              rw [show (V.str "") = Sv [] from rfl, dec_sv]
              by_cases hm0 : m = []
              · rw [decide_eq_true hm0]
                refine iteF ⟨_, rfl, s5, ?_, h5b⟩
                rw [ef]
                have e2 : ∀ row : List S, addNE row m = row := fun row => by
                  unfold addNE
                  rw [if_neg (fun z => z.2 hm0)]
                rw [e2]
                exact h5
              · rw [decide_eq_false hm0]
                refine iteT ⟨_, rfl, .inl ⟨rfl, _, SqL.of h5⟩, _, rfl, D, _, _, rfl, rfl, h5, small_lt (by rw [List.length_map]; omega), ?_⟩
                refine ⟨_, rfl, same_put s5 hD, ?_, by rw [upd_ne npp]; exact h5b⟩
                rw [upd_same, ef]
                have e2 : ∀ row : List S, m ∉ row → addNE row m = row ++ [m] := fun row h => by
                  unfold addNE
                  rw [if_pos ⟨h, hm0⟩]
                rw [e2 _ hin, List.map_append]
                rfl
          · rintro σ H5 ⟨y4, rfl, s5, h5, h5b⟩
            rw [List.length_map, List.take_of_length_le (Nat.le_refl _), ← e] at h5
            exact ⟨_, _, rfl, s5, h5⟩
        · refine iteDF (by rw [List.length_map]; omega) ⟨_, _, rfl, s2, ?_⟩
          have e : grow code start (t + 1) = grow code start t := by
            show gturn code (grow code start t) t = _
            unfold gturn
            rw [List.getElem?_eq_none (by omega)]
          rw [e]
          exact h2
      · rintro σ H2 ⟨y3, y4, rfl, s2, h2⟩
        have rl := gl 30 (Nat.le_refl _)
        refine ⟨_, rfl, D, (grow code start 30).map mk, rfl, .inl (SqL.of (by rw [← map_sv]; exact h2)), by rw [List.length_map]; omega, fun a n ha => ⟨a, _, _, rfl, upd_same, fun ys p2 hp hk hn => ⟨p2, _, rfl, .inl ⟨SqL.of upd_same, fun l hl => ?_⟩⟩⟩⟩
        obtain ⟨zs, rfl, h3, h4⟩ := asc_set hp hk
        refine q _ l zs (s2.trans ((same_upd ha).trans ((same_upd hn).trans (same_upd hl)))) ?_ ?_ ?_
        · rw [map_sv]
          exact SqT.of upd_same
        · have := nodup_le zs (grow code start 30) (asc_nodup h3) (fun x hx => (h4 x).mp hx)
          omega
        · intro r hr
          have := u5 r (gU 30 r ((h4 r).mp hr))
          omega
end
end K11
set_option Elab.async false
set_option linter.all false
set_option maxRecDepth 100000
set_option maxHeartbeats 4000000
namespace K11
open PySem PySem.Spec PyProof.Rows L2
abbrev strD (xs : List S) : List PyData := xs.map fun s => PyData.str (mk s)
theorem strD_mem (xs : List S) : (strD xs).all memD = xs.all memS := by
  have e : (memD ∘ fun s => PyData.str (mk s)) = memS := funext fun s => by
    show memS (mk s).cps.toList = memS s
    rw [mk_list]
  rw [List.all_map, e]
theorem strD_of (xs : List S) : (strD xs).map strOf = xs := by
  rw [List.map_map]
  have : (strOf ∘ fun s => PyData.str (mk s)) = id := funext fun s => mk_list s
  rw [this, List.map_id]
theorem closedM_t (code xs : List S) : closedM code (.tuple (strD xs)) = (decide (xs.length ≤ 64) && xs.all memS && closedL code xs) := by
  show (decide ((strD xs).length ≤ 64) && (strD xs).all memD && closedL code ((strD xs).map strOf)) = _
  rw [strD_mem, strD_of, List.length_map]
theorem canLay_strs : ∀ xs : List S, xs.all memS = true → PyData.canLayAll0 (strD xs) = true
  | [], _ => rfl
  | x :: xs, h => by
    rw [List.all_cons, Bool.and_eq_true] at h
    have ih := canLay_strs xs h.2
    have hx : PyData.strOk (mk x) = true := by
      show (mk x).cps.all (· < 0x110000) = true
      rw [← Array.all_toList, mk_list, List.all_eq_true]
      intro c hc
      have := (memS_iff.mp h.1).2.2 c hc
      simp at this
      rw [decide_eq_true_eq]
      omega
    show (PyData.canLay0 (.str (mk x)) && PyData.canLayAll0 (strD xs)) = true
    rw [ih, Bool.and_true]
    show PyData.canLay0 (.str (mk x)) = true
    simp only [PyData.canLay0, hx]
theorem depth_strs : ∀ xs : List S, PyData.depthAll (strD xs) = 0
  | [] => by simp [PyData.depthAll]
  | x :: xs => by
    have := depth_strs xs
    simp only [strD, List.map_cons, PyData.depthAll, PyData.depth, Nat.max_eq_right (Nat.zero_le _)] at this ⊢
    exact this
theorem shaped_strs {xs : List S} (h : xs.all memS = true) : SeqAt.shaped (.list (strD xs)) = true := by
  unfold SeqAt.shaped
  have h1 : PyData.canLay0 (.list (strD xs)) = true := by simp only [PyData.canLay0, canLay_strs xs h]
  have h2 : PyData.depth (.list (strD xs)) ≤ 64 := by
    simp only [PyData.depth, depth_strs]
    decide
  rw [h1, decide_eq_true h2]
  rfl
theorem eqv_strs : ∀ xs ys : List S, PyData.eqvAll (strD xs) (strD ys) = decide (xs = ys)
  | [], [] => rfl
  | [], _ :: _ => rfl
  | _ :: _, [] => rfl
  | x :: xs, y :: ys => by
    have ih := eqv_strs xs ys
    simp only [strD, List.map_cons, PyData.eqvAll, PyData.eqv] at ih ⊢
    rw [ih, dec_mk]
    by_cases h : x = y
    · subst h
      by_cases h2 : xs = ys
      · subst h2; simp
      · simp [h2]
    · simp [h]
section
variable {P : Program} {w : World} {K : PySem.W.Frag} {mg : Str → Option Value} {base : Heap}
/-! ### _law_is_closed -/
abbrev nLClosed : List Str := ["_law_code_here", "_law_value", "_law_rest", "_law_letter", "_law_more"]
def spLClosed (K : PySem.W.Frag) : Sp := fun vs H Q _ => ∃ (c v : Addr) (code xs : List S), vs = [.ref c, .ref v] ∧ SqT K H c (code.map Sv) ∧ Small code ∧ SqT K H v (xs.map Sv) ∧ xs.length ≤ 1000 ∧ (∀ x ∈ xs, x.length ≤ 1000) ∧ ∀ H', Same H H' → Q (.bl (closedM code (.tuple (strD xs)))) H'
theorem scLClosed : FnScope nLClosed ["_law_code_here", "_law_value"] (defScope sLClosed) := ⟨rfl, rfl, rfl, by decide +kernel, rfl, by decide +kernel, by decide +kernel⟩
theorem ok_lclosed {f : Addr} {fd : FuncData} (F : Fun K "_law_is_closed" "_law_is_closed" sLClosed f fd) (T : Glo mg) (A1 : Kn P w K mg base 1 "_law_pairs" ["_law_code_here"] (spLPairs K)) (A2 : Kn P w K mg base 1 "_law_on" ["_law_code_here", "_law_rest"] (spLOn K)) :
    FnOk P w K mg base CX0 2 f fd ["_law_code_here", "_law_value"] (spLClosed K) := by
  obtain ⟨f1, fd1, G1, b1, g1, k1⟩ := A1
  obtain ⟨f2, fd2, G2, b2, g2, k2⟩ := A2
  refine F.ok scLClosed (fun vs H Q E h => ?_) (fun cdv A outer s H vs Q E hr h => ?_)
  · obtain ⟨c, v, code, xs, rfl, _⟩ := h
    rfl
  · obtain ⟨c, v, code, xs, rfl, hC, sm, hV, hxl, hx1, q⟩ := h
    have nd := scLClosed.nd
    rw [closedM_t] at q
    refine ⟨_, pss_cons (ps_if (PW.pt (pw_or (pt_not (pt_val (pe_callB call_isi (by rfl) T.isinstance boot_isinstance (pa_cons (pv 1) (pa_cons (pe_bltn (v := .ty "tuple") (by rfl) T.tuple boot_tuple rfl) pa_nil)))))
        (pw_or1 (pt_cmpR op_gt (pe_callB call_len_seq (by rfl) T.len PySem.boot_len (pa_cons (pv 1) pa_nil)) pe_int (nomark _)))))
        (pss_one (ps_ret pe_bl)) pss_nil)
      (pss_cons (ps_for PassesOwn.never rfl (pi_tup (pv 1)) (pg_name (i := 2) nd rfl (Or.inl rfl))
        (pss_one (ps_if (PW.pt (pw_or (pt_not (pt_val (pe_callB call_isi (by rfl) T.isinstance boot_isinstance (pa_cons (pv 2) (pa_cons (pe_bltn (v := .ty "str") (by rfl) T.str boot_str rfl) pa_nil)))))
            (pw_or (pt_not (pt_chain op_le op_le pe_int (pe_callB call_len_str (by rfl) T.len PySem.boot_len (pa_cons (pv 2) pa_nil)) pe_int))
            (pw_or1 (pt_not (pt_val (pe_callB (cr_all rfl) (by rfl) T.all boot_all (pa_cons
              (pe_lc (own := [("_law_letter", 3)]) (g := gName 3) (tt := tYes) rfl nd (pi_str (pv 2)) (blkOk_by (N := nLClosed) (sc := defScope sLClosed) (by decide +kernel))
                (fun _ _ _ _ _ => pg_name (i := 3) nd rfl (Or.inl rfl)) (fun _ _ _ _ _ => pts_nil)
                (fun _ _ _ _ _ => pe_cmpR op_in_sign (pv 3) pe_str (by rfl))) pa_nil))))))))
          (pss_one (ps_ret pe_bl)) pss_nil)))
      (pss_cons (ps_if (PW.pt (pw_or (pt_cmpR (op_neD hr.units) (pe_callTy call_list_of (by rfl) T.list boot_list (pa_cons (pv 1) pa_nil)) (pe_callB (cr_sortedT rfl hr.units) (by rfl) T.sorted boot_sorted (pa_cons (pe_callTy (cr_setT rfl) (by rfl) T.set boot_set (pa_cons (pv 1) pa_nil)) pa_nil)) (nomark _))
          (pw_or1 (pt_not (pt_val (pe_callB (cr_all rfl) (by rfl) T.all boot_all (pa_cons
            (pe_lc (own := [("_law_rest", 2)]) (g := gName 2) (tt := tYes) rfl nd (pi_list (pe_call G1 hr (by rfl) g1 k1 b1 .nil pass0 (pa_cons (pv 0) pa_nil))) (blkOk_by (N := nLClosed) (sc := defScope sLClosed) (by decide +kernel))
              (fun _ _ _ _ _ => pg_name (i := 2) nd rfl (Or.inl rfl)) (fun _ _ _ _ _ => pts_nil)
              (fun _ _ _ _ _ => pe_cmpR (r := rIn K false) op_in_seq (pv 2) (pv 1) (by rfl))) pa_nil)))))))
        (pss_one (ps_ret pe_bl)) pss_nil)
      (pss_one (ps_ret (pe_callB (cr_all rfl) (by rfl) T.all boot_all (pa_cons
          (pe_lc (own := [("_law_rest", 2)]) (g := gName 2) (tt := tYes) rfl nd (pi_tup (pv 1)) (blkOk_by (N := nLClosed) (sc := defScope sLClosed) (by decide +kernel))
            (fun _ _ _ _ _ => pg_name (i := 2) nd rfl (Or.inl rfl)) (fun _ _ _ _ _ => pts_nil)
            (fun _ _ _ _ _ => pe_callB (r := rAll K) (cr_all rfl) (by rfl) T.all boot_all (pa_cons
              (pe_lc (own := [("_law_more", 4)]) (wi := iList K _) (g := gName 4) (tt := tYes) rfl nd (pi_list (pe_call G2 hr (by rfl) g2 k2 b2 .nil pass0 (pa_cons (pv 0) (pa_cons (pv 2) pa_nil))))
                (blkOk_by (N := nLClosed) (sc := relS (lcSc (retE (lastS sLClosed))) (defScope sLClosed)) (by decide +kernel))
                (fun _ _ _ _ _ => pg_name (i := 4) nd rfl (Or.inl rfl)) (fun _ _ _ _ _ => pts_nil)
                (fun _ _ _ _ _ => pe_cmpR (r := rIn K false) op_in_seq (pv 4) (pv 1) (by rfl))) pa_nil))) pa_nil)))))), ?_⟩
    have hvl : (xs.map Sv).length = xs.length := List.length_map _
    refine ⟨.ref v, rfl, .ref v, .ty "tuple", _, .type "tuple", true, rfl, .ty _, tyx_tup hV, kit_ty (by decide +kernel), _, rfl, iteF ?_⟩
    refine ⟨.ref v, rfl, v, _, rfl, .inr hV, _, _, rfl, rfl, _, rfl, ?_⟩
    by_cases h64 : xs.length ≤ 64
    · rw [decide_eq_true h64, Bool.true_and] at q
      refine iteDF (by omega) ⟨.ref v, rfl, v, rfl, ⟨_, hV⟩, for_it (walk_tup (xs := xs.map Sv)) (fun i σ H1 => ∃ y2, σ = [some (.ref c), some (.ref v), y2, none, none] ∧ Same H H1 ∧ (xs.take i).all memS = true)
        ⟨none, rfl, Same.refl H, by simp⟩ (fun i σ H1 _ ⟨_, _, s1, _⟩ => Same.tup s1 hV) ?_ ?_⟩
      · rintro i x σ H1 H2 hi ⟨y2, rfl, s1, hm⟩ ⟨rfl, hx⟩
        obtain ⟨z, ez, rfl⟩ := map_at hx
        have hzx := List.mem_of_getElem? ez
        have hz := hx1 z hzx
        have bad : memS z = false → Q (.bl false) H2 := fun e => by
          have e2 : xs.all memS = false := by
            cases e3 : xs.all memS with
            | false => rfl
            | true =>
              rw [List.all_eq_true] at e3
              rw [e3 z hzx] at e
              cases e
          rw [e2, Bool.false_and] at q
          exact q H2 s1
        have good : memS z = true → (xs.take (i + 1)).all memS = true := fun e => by
          rw [List.take_add_one, ez, List.all_append, hm]
          simp [e]
        refine ⟨_, rfl, Sv z, .ty "str", _, .type "str", true, rfl, .ty _, .base (.str _), kit_ty (by decide +kernel), true, rfl, iteF ?_⟩
        refine ⟨_, rfl, mk z, rfl, small_line (by rw [mk_len]; omega), _, _, rfl, rfl, _, rfl, ?_⟩
        by_cases h1 : 1 ≤ z.length
        · refine iteDT (by rw [mk_len]; omega) ⟨_, _, rfl, rfl, _, rfl, ?_⟩
          by_cases h2 : z.length ≤ 5
          · rw [decide_eq_true (by rw [mk_len]; omega)]
            refine iteF ⟨_, rfl, mk z, rfl, fun D hD => lc_all walk_str hD (z.map fun c => decide (c ∈ [97, 98, 99])) (by simp [mk]) (small_lt (by simp [mk]; omega)) (fun _ _ => trivial) (fun j x H3 H4 k hj s3 y hk => ?_) fun H3 s3 e3 => ⟨D, _, rfl, SqL.of e3, ?_⟩⟩
            · obtain ⟨rfl, c, hc1, rfl⟩ := y
              have hcz : z[j]? = some c := by
                rw [← Array.getElem?_toList, mk_list] at hc1
                exact hc1
              refine ⟨rfl, _, rfl, c, _, rfl, rfl, hk _ _ ?_ (Same.refl _)⟩
              rw [List.getElem?_map, hcz, abc_mk, mk_list]
              rfl
            · have e : memS z = ((z.map fun c => decide (c ∈ [97, 98, 99])).all id) := by
                rw [all_map]
                unfold memS
                rw [decide_eq_true h1, decide_eq_true h2]
                rfl
              rw [← e]
              refine ⟨_, rfl, ?_⟩
              cases e4 : memS z with
              | true => exact iteF ⟨_, rfl, s1.trans s3, good e4⟩
              | false =>
                have e2 : xs.all memS = false := by
                  cases e3 : xs.all memS with
                  | false => rfl
                  | true =>
                    rw [List.all_eq_true] at e3
                    rw [e3 z hzx] at e4
                    cases e4
                rw [e2, Bool.false_and] at q
                exact iteT (q H3 (s1.trans s3))
          · rw [decide_eq_false (by rw [mk_len]; omega)]
            refine iteT (bad ?_)
            unfold memS
            rw [decide_eq_false h2]
            simp
        · refine iteDF (by rw [mk_len]; omega) ⟨false, rfl, iteT (bad ?_)⟩
          unfold memS
          rw [decide_eq_false h1]
          simp
      · rintro σ H1 ⟨y2, rfl, s1, hm⟩
        rw [List.length_map, List.take_of_length_le (Nat.le_refl _)] at hm
        rw [hm, Bool.true_and] at q
        have ec : closedL code xs = (asc xs && (pairs code).all (fun r => decide (r ∈ xs)) && xs.all fun r => (on code r).all fun m => decide (m ∈ xs)) := by
          unfold closedL
          rw [decide_eq_true h64, hm, Bool.true_and, Bool.true_and]
        rw [ec] at q
        have hV1 := Same.tup s1 hV
        have hV1' : SqT K H1 v ((xs.map mk).map V.str) := by rw [← map_sv]; exact hV1
        refine ⟨.ref v, rfl, v, _, rfl, .inr hV1, fun l hl => ?_⟩
        have s2 := same_upd (o := .lst (xs.map Sv)) hl
        refine ⟨.ref v, rfl, v, xs.map mk, rfl, .inr (Same.tup s2 hV1'), by rw [List.length_map]; omega, fun a n ha => ⟨a, _, _, rfl, upd_same, fun ys p hp hk hn => ?_⟩⟩
        obtain ⟨zs, rfl, h3, h4⟩ := asc_set hp hk
        have s3 := same_upd (o := SetTX w a (fun j => decide (j ∈ xs.map mk)) n) ha
        have s4 := same_upd (o := .lst ((zs.map mk).map V.str)) hn
        have s14 := s1.trans (s2.trans (s3.trans s4))
        have zm : zs.all memS = true := by
          rw [List.all_eq_true] at hm ⊢
          exact fun z hz => hm z ((h4 z).mp hz)
        refine ⟨.list (strD xs), .list (strD zs), .lst (SqL.of ((s3.trans s4) _ _ upd_same)) (dp_strs xs), .lst (SqL.of (by rw [upd_same, ← map_sv])) (dp_strs zs), shaped_strs hm, shaped_strs zm, _, rfl, ?_⟩
        have ee : PyData.eqv (.list (strD xs)) (.list (strD zs)) = asc xs := by
          rw [PyData.eqv, eqv_strs]
          exact asc_eq h3 h4
        rw [ee]
        cases ha1 : asc xs with
        | false =>
          rw [ha1, Bool.false_and, Bool.false_and] at q
          exact iteT (q _ s14)
        | true =>
          rw [ha1, Bool.true_and] at q
          refine iteF ⟨.ref c, rfl, c, code, rfl, Same.tup s14 hC, sm, fun H5 p5 s5 np5 h5 => ⟨p5, rfl, ⟨_, SqL.of h5⟩, fun D hD => ?_⟩⟩
          have hV5 := Same.tup (s14.trans s5) hV
          refine lc_all (walk_list (xs := (pairs code).map Sv)) hD ((pairs code).map fun r => decide (r ∈ xs)) (by simp) (small_lt ?_) (fun H6 s6 => SqL.of (s6 _ _ h5)) (fun i x H6 H7 k hi s6 y hk => ?_) fun H6 s6 e6 => ⟨D, _, rfl, SqL.of e6, ?_⟩
          · rw [List.length_map]
            have := len_pairs code
            have := Nat.mul_le_mul sm.few sm.few
            omega
          · obtain ⟨rfl, hx⟩ := y
            obtain ⟨r, er, rfl⟩ := map_at hx
            refine ⟨rfl, _, rfl, _, rfl, v, _, rfl, .inr (Same.tup s6 hV5), rfl, flat_sv _, ?_⟩
            show k (.bl (inV (Sv r) (xs.map Sv))) _
            rw [in_sv]
            exact hk _ _ (at_map er) (Same.refl _)
          · rw [all_map]
            refine ⟨_, rfl, ?_⟩
            have s16 := (s14.trans s5).trans s6
            cases hp1 : (pairs code).all (fun r => decide (r ∈ xs)) with
            | false =>
              rw [hp1, Bool.false_and] at q
              exact iteT (q H6 s16)
            | true =>
              rw [hp1, Bool.true_and] at q
              have hV6 := Same.tup s16 hV
              have hC6 := Same.tup s16 hC
              refine iteF ⟨.ref v, rfl, v, rfl, ⟨_, hV6⟩, fun D5 nD5 => lc_all walk_tup nD5 (xs.map fun r => (on code r).all fun m => decide (m ∈ xs)) (by rw [List.length_map, List.length_map]) (small_lt (by rw [List.length_map]; omega)) (fun H7 s7 => Same.tup s7 hV6) (fun i x H7 H8 k hi s7 y hk => ?_) fun H7 s7 e7 => ⟨D5, _, rfl, SqL.of e7, ?_⟩⟩
              · obtain ⟨rfl, hx⟩ := y
                obtain ⟨r, er, rfl⟩ := map_at hx
                have hr5 := hx1 r (List.mem_of_getElem? er)
                refine ⟨rfl, .ref c, rfl, Sv r, rfl, c, code, r, rfl, Same.tup s7 hC6, sm, hr5, fun H9 p9 s9 np9 h9 => ⟨p9, rfl, ⟨_, SqL.of h9⟩, fun D9 nD9 => ?_⟩⟩
                have hV9 := Same.tup s9 (Same.tup s7 hV6)
                refine lc_all (walk_list (xs := (on code r).map Sv)) nD9 ((on code r).map fun m => decide (m ∈ xs)) (by simp) (small_lt ?_) (fun H10 s10 => SqL.of (s10 _ _ h9)) (fun i9 x9 H10 H11 k9 hi9 s10 y9 hk9 => ?_) fun H10 s10 e10 => ⟨D9, _, rfl, SqL.of e10, ?_⟩
                · rw [List.length_map]
                  have := len_on code r
                  have := sm.few
                  omega
                · obtain ⟨rfl, hx9⟩ := y9
                  obtain ⟨m, em, rfl⟩ := map_at hx9
                  refine ⟨rfl, _, rfl, _, rfl, v, _, rfl, .inr (Same.tup s10 hV9), rfl, flat_sv _, ?_⟩
                  show k9 (.bl (inV (Sv m) (xs.map Sv))) _
                  rw [in_sv]
                  exact hk9 _ _ (at_map em) (Same.refl _)
                · rw [all_map]
                  exact hk _ _ (at_map er) (s9.trans s10)
              · rw [all_map]
                exact q H7 (s16.trans s7)
    · rw [decide_eq_false h64, Bool.false_and, Bool.false_and] at q
      exact iteDT (by omega) (q H (Same.refl H))
end
end K11
set_option Elab.async false
set_option linter.all false
set_option maxRecDepth 100000
set_option maxHeartbeats 4000000
namespace K11
open PySem PySem.Spec PyProof.Rows L2
/-- a parse of at most 100 numbers -/
def okN (n : Nat) (ks : List Nat) : Bool := decide (ks.length ≤ 100) && ks.all fun k => decide (k < n)
theorem parseM_t (n : Nat) (ks : List Nat) : parseM n (.tuple (intD ks)) = okN n ks := by
  show (decide ((intD ks).length ≤ 100) && (intD ks).all (numD n)) = _
  have e : (numD n ∘ fun k : Nat => PyData.int (k : Int)) = fun k => decide (k < n) := funext fun k => by
    show (decide (0 ≤ (k : Int)) && decide ((k : Int) < (n : Int))) = _
    rw [decide_eq_true (Int.natCast_nonneg k), Bool.true_and]
    by_cases h : k < n
    · rw [decide_eq_true h, decide_eq_true (by omega)]
    · rw [decide_eq_false h, decide_eq_false (by omega)]
  rw [List.length_map, List.all_map, e]
  rfl
theorem natOf_map (ks : List Nat) : (intD ks).map natOf = ks := by
  rw [List.map_map]
  have : (natOf ∘ fun k : Nat => PyData.int (k : Int)) = id := funext fun k => by
    show ((k : Int)).toNat = k
    omega
  rw [this, List.map_id]
abbrev pairD (ns ms : List Nat) : PyData := .tuple [.tuple (intD ns), .tuple (intD ms)]
theorem twoM_t (code : List S) (ns ms : List Nat) : twoM code (pairD ns ms) = (okN code.length ns && okN code.length ms && !decide (ns = ms) && decide (cat code ns = cat code ms)) := by
  show (parseM code.length (.tuple (intD ns)) && parseM code.length (.tuple (intD ms)) && !PyData.eqv (.tuple (intD ns)) (.tuple (intD ms)) && decide (cat code ((intD ns).map natOf) = cat code ((intD ms).map natOf))) = _
  rw [parseM_t, parseM_t, natOf_map, natOf_map, PyData.eqv, eqv_nats]
section
variable {P : Program} {w : World} {K : PySem.W.Frag} {mg : Str → Option Value} {base : Heap}
/-! ### _law_are_two -/
abbrev nLTwo : List Str := ["_law_code_here", "_law_value", "_law_texts", "_law_parse_here", "_law_number"]
def spLTwo (K : PySem.W.Frag) : Sp := fun vs H Q _ => ∃ (c v a b : Addr) (code : List S) (ns ms : List Nat), vs = [.ref c, .ref v] ∧ SqT K H c (code.map Sv) ∧ Small code ∧ SqT K H v [.ref a, .ref b] ∧ SqT K H a (ns.map Iv) ∧ SqT K H b (ms.map Iv) ∧ ∀ H', Same H H' → Q (.bl (twoM code (pairD ns ms))) H'
theorem scLTwo : FnScope nLTwo ["_law_code_here", "_law_value"] (defScope sLTwo) := ⟨rfl, rfl, rfl, by decide +kernel, rfl, by decide +kernel, by decide +kernel⟩
theorem ok_ltwo {f : Addr} {fd : FuncData} (F : Fun K "_law_are_two" "_law_are_two" sLTwo f fd) (T : Glo mg) (I : Kn P w K mg base 1 "_law_is_integer" ["_law_actual"] spIsInt) :
    FnOk P w K mg base CX0 2 f fd ["_law_code_here", "_law_value"] (spLTwo K) := by
  obtain ⟨fI, fdI, GI, bI, gI, kI⟩ := I
  refine F.ok scLTwo (fun vs H Q E h => ?_) (fun cdv A outer s H vs Q E hr h => ?_)
  · obtain ⟨c, v, a, b, code, ns, ms, rfl, _⟩ := h
    rfl
  · obtain ⟨c, v, a, b, code, ns, ms, rfl, hC, sm, hV, hA, hB, q⟩ := h
    have nd := scLTwo.nd
    rw [twoM_t] at q
    refine ⟨_, pss_cons (ps_if (PW.pt (pw_or (pt_not (pt_val (pe_callB call_isi (by rfl) T.isinstance boot_isinstance (pa_cons (pv 1) (pa_cons (pe_bltn (v := .ty "tuple") (by rfl) T.tuple boot_tuple rfl) pa_nil)))))
        (pw_or (pt_cmpR op_ne (pe_callB call_len_seq (by rfl) T.len PySem.boot_len (pa_cons (pv 1) pa_nil)) pe_int (nomark _))
        (pw_or1 (pt_cmpR (op_eqD hr.units) (pe_ix (r := rIxT K) ix_tup (pv 1) pe_int (fun _ _ => rfl)) (pe_ix (r := rIxT K) ix_tup (pv 1) pe_int (fun _ _ => rfl)) (nomark _))))))
        (pss_one (ps_ret pe_bl)) pss_nil)
      (pss_cons (ps_set (i := 2) nd rfl (.inl rfl) (pe_lst pa_nil))
      (pss_cons (ps_for PassesOwn.never rfl (pi_tup (pv 1)) (pg_name (i := 3) nd rfl (Or.inl rfl))
        (pss_cons (ps_if (PW.pt (pw_or (pt_not (pt_val (pe_callB call_isi (by rfl) T.isinstance boot_isinstance (pa_cons (pv 3) (pa_cons (pe_bltn (v := .ty "tuple") (by rfl) T.tuple boot_tuple rfl) pa_nil)))))
            (pw_or1 (pt_cmpR op_gt (pe_callB call_len_seq (by rfl) T.len PySem.boot_len (pa_cons (pv 3) pa_nil)) pe_int (nomark _)))))
          (pss_one (ps_ret pe_bl)) pss_nil)
        (pss_cons (ps_if (pt_not (pt_val (pe_callB (cr_all rfl) (by rfl) T.all boot_all (pa_cons
            (pe_lc (own := [("_law_number", 4)]) (g := gName 4) (tt := tYes) rfl nd (pi_tup (pv 3)) (blkOk_by (N := nLTwo) (sc := defScope sLTwo) (by decide +kernel))
              (fun _ _ _ _ _ => pg_name (i := 4) nd rfl (Or.inl rfl)) (fun _ _ _ _ _ => pts_nil)
              (fun _ _ _ _ _ => pe_and (pe_call GI hr (by rfl) gI kI bI .nil pass0 (pa_cons (pv 4) pa_nil)) (pe_one (pe_chain op_le op_lt pe_int (pv 4) (pe_callB (r := rLenS K) call_len_seq (by rfl) T.len PySem.boot_len (pa_cons (pv 0) pa_nil)))))) pa_nil))))
          (pss_one (ps_ret pe_bl)) pss_nil)
        (pss_one (ps_expr (pe_bm PySem.F.plainAttrs_list PySem.F.slot_list_append PySem.F.type_list_append mt_append (pv 2) (pa_cons
            (pe_join pe_str (pe_lc (own := [("_law_number", 4)]) (g := gName 4) (tt := tYes) rfl nd (pi_tup (pv 3)) (blkOk_by (N := nLTwo) (sc := defScope sLTwo) (by decide +kernel))
              (fun _ _ _ _ _ => pg_name (i := 4) nd rfl (Or.inl rfl)) (fun _ _ _ _ _ => pts_nil)
              (fun _ _ _ _ _ => pe_ix (r := rIxT K) ix_tup (pv 0) (pv 4) (fun _ _ => rfl)))) pa_nil)))))))
      (pss_one (ps_ret (pe_cmpR op_eq (pe_ix (r := rIxL K) ix_list (pv 2) pe_int (fun _ _ => rfl)) (pe_ix (r := rIxL K) ix_list (pv 2) pe_int (fun _ _ => rfl)) (nomark _)))))), ?_⟩
    refine ⟨.ref v, rfl, .ref v, .ty "tuple", _, .type "tuple", true, rfl, .ty _, tyx_tup hV, kit_ty (by decide +kernel), _, rfl, iteF ?_⟩
    refine ⟨.ref v, rfl, v, _, rfl, .inr hV, rfl, _, rfl, iteNS rfl ?_⟩
    refine ⟨.ref v, rfl, v, _, 0, _, rfl, rfl, hV, rfl, .ref v, rfl, v, _, 1, _, rfl, rfl, hV, rfl, .tuple (intD ns), .tuple (intD ms), .tup hA (dp_ints ns), .tup hB (dp_ints ms), shaped_nats _, shaped_nats _, _, rfl, ?_⟩
    have eqv : PyData.eqv (.tuple (intD ns)) (.tuple (intD ms)) = decide (ns = ms) := by
      rw [PyData.eqv]
      exact eqv_nats ns ms
    rw [eqv]
    by_cases hnm : ns = ms
    · rw [decide_eq_true hnm] at q ⊢
      rw [Bool.not_true, Bool.and_false, Bool.false_and] at q
      exact iteT (q H (Same.refl H))
    · rw [decide_eq_false hnm] at q ⊢
      rw [Bool.not_false, Bool.and_true] at q
      refine iteF ⟨Nat.zero_le _, fun o no => ?_⟩
      have s0 := same_upd (o := .lst []) no
      refine ⟨.ref v, rfl, v, rfl, ⟨_, Same.tup s0 hV⟩, for_it (walk_tup (xs := [V.ref a, V.ref b])) (fun i σ H1 => ∃ y3, σ = [some (.ref c), some (.ref v), some (.ref o), y3, none] ∧ Same H H1 ∧ ([ns, ms].take i).all (okN code.length) = true ∧ H1 o = some (.lst ((([ns, ms].take i).map (cat code)).map Sv)))
        ⟨none, rfl, s0, rfl, upd_same⟩ (fun i σ H1 _ ⟨_, _, s1, _⟩ => Same.tup s1 hV) ?_ ?_⟩
      · rintro i x σ H1 H2 hi ⟨y3, rfl, s1, hm, h1⟩ ⟨rfl, hx⟩
        have fin : ∃ (u : Addr) (ks : List Nat), x = .ref u ∧ SqT K H u (ks.map Iv) ∧ [ns, ms][i]? = some ks ∧ i < 2 := by
          have hi2 : i < 2 := hi
          match i, hi2, hx with
          | 0, _, hx => cases hx; exact ⟨a, ns, rfl, hA, rfl, by decide⟩
          | 1, _, hx => cases hx; exact ⟨b, ms, rfl, hB, rfl, by decide⟩
        obtain ⟨u, ks, rfl, hu, ek, hi2⟩ := fin
        have hu1 := Same.tup s1 hu
        have e0 : okN code.length ks = false → (okN code.length ns && okN code.length ms) = false := fun e => by
          have hmem := List.mem_of_getElem? ek
          rcases List.mem_cons.mp hmem with z | z
          · rw [← z, e, Bool.false_and]
          · rw [← List.mem_singleton.mp z, e, Bool.and_false]
        have bad : okN code.length ks = false → ∀ H3, Same H H3 → Q (.bl false) H3 := fun e H3 s3 => by
          rw [e0 e, Bool.false_and] at q
          exact q H3 s3
        have tk : [ns, ms].take (i + 1) = [ns, ms].take i ++ [ks] := by
          rw [List.take_add_one, ek]
          rfl
        refine ⟨_, rfl, .ref u, .ty "tuple", _, .type "tuple", true, rfl, .ty _, tyx_tup hu1, kit_ty (by decide +kernel), true, rfl, iteF ?_⟩
        refine ⟨_, rfl, u, _, rfl, .inr hu1, _, _, rfl, rfl, _, rfl, ?_⟩
        by_cases h100 : ks.length ≤ 100
        · refine iteDF (by rw [List.length_map]; omega) ?_
          refine ⟨_, rfl, u, rfl, ⟨_, hu1⟩, fun D hD => lc_all walk_tup hD (ks.map fun k => decide (k < code.length)) (by simp) (small_lt (by rw [List.length_map]; omega)) (fun H3 s3 => Same.tup s3 hu1) (fun j x H3 H4 k hj s3 y hk => ?_) fun H3 s3 e3 => ⟨D, _, rfl, SqL.of e3, ?_⟩⟩
          · obtain ⟨rfl, hx⟩ := y
            obtain ⟨n, en, rfl⟩ := map_at hx
            refine ⟨rfl, _, rfl, (n : Int), rfl, true, rfl, iteT ⟨_, rfl, _, _, rfl, rfl, _, rfl, iteDT (Int.natCast_nonneg n) ⟨.ref c, rfl, c, _, rfl, .inr (Same.tup (s1.trans s3) hC), _, _, rfl, rfl, ?_⟩⟩⟩
            have e : decide ((n : Int) < ((code.map Sv).length : Int)) = decide (n < code.length) := by
              rw [List.length_map]
              by_cases h : n < code.length
              · rw [decide_eq_true h, decide_eq_true (by omega)]
              · rw [decide_eq_false h, decide_eq_false (by omega)]
            show k (.bl (decide ((n : Int) < ((code.map Sv).length : Int)))) _
            rw [e]
            exact hk _ _ (at_map en) (Same.refl _)
          · rw [all_map]
            refine ⟨_, rfl, ?_⟩
            have eo : okN code.length ks = ks.all fun k => decide (k < code.length) := by
              unfold okN
              rw [decide_eq_true h100, Bool.true_and]
            rw [← eo]
            have s13 := s1.trans s3
            cases hok : okN code.length ks with
            | false => exact iteT (bad hok H3 s13)
            | true =>
              have nk : ∀ n ∈ ks, n < code.length := fun n hn => by
                rw [hok] at eo
                have := List.all_eq_true.mp eo.symm n hn
                exact of_decide_eq_true this
              have h3o := s3 _ _ h1
              refine iteF ⟨_, rfl, .inl ⟨rfl, _, SqL.of h3o⟩, ⟨_, rfl⟩, _, rfl, u, rfl, ⟨_, Same.tup s13 hu⟩, fun D4 hD4 => lc_new walk_tup hD4 ((ks.map fun n => code.getD n []).map Sv) (by simp) (small_lt (by rw [List.length_map]; omega)) (fun H4 s4 => Same.tup s4 (Same.tup s13 hu)) (fun j y H4 H5 k2 hj s4 yy2 hk2 => ?_) fun H4 s4 e4 => ?_⟩
              · obtain ⟨rfl, hy1⟩ := yy2
                obtain ⟨n, en, rfl⟩ := map_at hy1
                obtain ⟨wd, w1, w2⟩ := cat_get nk j n en
                refine ⟨rfl, _, rfl, _, rfl, c, _, _, Sv wd, rfl, rfl, Same.tup s4 (Same.tup s13 hC), atI_nat (at_map w1), hk2 _ _ ?_ (Same.refl _)⟩
                rw [← w2]
                exact at_map (at_map en)
              · refine ⟨"", D4, (ks.map fun n => code.getD n []).map mk, rfl, rfl, .inl (SqL.of (by rw [e4, map_sv])), ?_, ?_⟩
                · have := join_len (ks.map fun n => code.getD n []) 5 (fun s hs => by
                    obtain ⟨n, hn, rfl⟩ := List.mem_map.mp hs
                    exact sm.word _ (getD_mem (nk n hn)))
                  have ek2 : (ks.map fun n => code.getD n []).length = ks.length := List.length_map _
                  rw [ek2] at this
                  have e0 : ("" : Str).length = 0 := rfl
                  rw [e0]
                  omega
                · rw [join_mk, ← cat_flatten]
                  refine ⟨o, _, _, rfl, rfl, s4 _ _ h3o, small_lt ?_, ?_⟩
                  · rw [List.length_map, List.length_map, List.length_take]
                    omega
                  · refine ⟨_, rfl, same_put (s13.trans s4) no, ?_, ?_⟩
                    · rw [tk, List.all_append, hm]
                      simp [hok]
                    · rw [upd_same, tk, List.map_append, List.map_append]
                      rfl
        · refine iteDT (by rw [List.length_map]; omega) (bad ?_ H2 s1)
          unfold okN
          rw [decide_eq_false h100, Bool.false_and]
      · rintro σ H1 ⟨y3, rfl, s1, hm, h1⟩
        have h1 : H1 o = some (.lst [Sv (cat code ns), Sv (cat code ms)]) := h1
        have hm : (okN code.length ns && (okN code.length ms && true)) = true := hm
        rw [Bool.and_true] at hm
        rw [hm, Bool.true_and] at q
        refine ⟨.ref o, rfl, o, _, 0, _, rfl, rfl, SqL.of h1, rfl, .ref o, rfl, o, _, 1, _, rfl, rfl, SqL.of h1, rfl, rfl, ?_⟩
        rw [dec_sv]
        exact q H1 s1
end
end K11
set_option Elab.async false
set_option linter.all false
set_option maxRecDepth 100000
set_option maxHeartbeats 4000000
namespace K11
open PySem PySem.Spec PyProof.Rows L2
/-- tuples stay -/
def Tr (K : PySem.W.Frag) (H H' : Hp) : Prop := ∀ a xs, SqT K H a xs → SqT K H' a xs
theorem tr_same {K : PySem.W.Frag} {H H' : Hp} (s : Same H H') : Tr K H H' := fun _ _ h => Same.tup s h
theorem tr_chg {K : PySem.W.Frag} {H : Hp} {p : Addr} {o : HO} (h : Mut (H p)) : Tr K H (upd H p o) := fun _ _ h' => sqT_upd h h'
theorem tr_but {K : PySem.W.Frag} {H H' : Hp} {st : Addr} (s : SameBut1 st H H') (h : ∃ ys, H st = some (.lst ys)) : Tr K H H' := fun _ _ h' => SameBut1.tup s h h'
theorem Tr.trans {K : PySem.W.Frag} {H H1 H2 : Hp} (a : Tr K H H1) (b : Tr K H1 H2) : Tr K H H2 := fun x xs h => b x xs (a x xs h)
/-- a tuple of texts; a pair of tuples of numbers -/
def SetV (K : PySem.W.Frag) (H : Hp) (v : V) : Prop := ∃ (a : Addr) (xs : List S), v = .ref a ∧ SqT K H a (xs.map Sv) ∧ xs.length ≤ 1000 ∧ ∀ x ∈ xs, x.length ≤ 1000
def PairV (K : PySem.W.Frag) (H : Hp) (v : V) : Prop := ∃ (b f g : Addr) (ns ms : List Nat), v = .ref b ∧ SqT K H b [.ref f, .ref g] ∧ SqT K H f (ns.map Iv) ∧ SqT K H g (ms.map Iv)
theorem SetV.tr {K : PySem.W.Frag} {H H' : Hp} {v : V} (t : Tr K H H') (h : SetV K H v) : SetV K H' v := by
  obtain ⟨a, xs, h0, h1, h2⟩ := h
  exact ⟨a, xs, h0, t _ _ h1, h2⟩
theorem PairV.tr {K : PySem.W.Frag} {H H' : Hp} {v : V} (t : Tr K H H') (h : PairV K H v) : PairV K H' v := by
  obtain ⟨b, f, g, ns, ms, h0, h1, h2, h3⟩ := h
  exact ⟨b, f, g, ns, ms, h0, t _ _ h1, t _ _ h2, t _ _ h3⟩
theorem pairV_new {K : PySem.W.Frag} {H : Hp} {t f g : Addr} {ns ms : List Nat} (ht : H t = none) (hf : SqT K H f (ns.map Iv)) (hg : SqT K H g (ms.map Iv)) : PairV K (upd H t (.tup [.ref f, .ref g])) (.ref t) :=
  ⟨t, f, g, ns, ms, rfl, SqT.of upd_same, Same.tup (same_upd ht) hf, Same.tup (same_upd ht) hg⟩
/-- what the law's values are -/
def Item (K : PySem.W.Frag) (H : Hp) (v : V) : Prop := ∃ t y, v = .ref t ∧ ((SqT K H t [.str "unique", y] ∧ SetV K H y) ∨ (SqT K H t [.str "two", y] ∧ PairV K H y))
theorem Item.tr {K : PySem.W.Frag} {H H' : Hp} {v : V} (t : Tr K H H') (h : Item K H v) : Item K H' v := by
  obtain ⟨a, y, h0, h⟩ := h
  refine ⟨a, y, h0, ?_⟩
  rcases h with ⟨h1, h2⟩ | ⟨h1, h2⟩
  · exact .inl ⟨t _ _ h1, h2.tr t⟩
  · exact .inr ⟨t _ _ h1, h2.tr t⟩
/-- a list of such -/
def ListV (K : PySem.W.Frag) (G : PySem.W.Frag → Hp → V → Prop) (H : Hp) (p : Addr) (n : Nat) : Prop := ∃ vs, H p = some (.lst vs) ∧ vs.length ≤ n ∧ ∀ v ∈ vs, G K H v
theorem ListV.lift {K : PySem.W.Frag} {G : PySem.W.Frag → Hp → V → Prop} {H H' : Hp} {p : Addr} {n : Nat} (h : ListV K G H p n) (hp : ∀ o, H p = some o → H' p = some o) (hG : ∀ v, G K H v → G K H' v) : ListV K G H' p n := by
  obtain ⟨vs, h1, h2, h3⟩ := h
  exact ⟨vs, hp _ h1, h2, fun v hv => hG v (h3 v hv)⟩
theorem ListV.le {K : PySem.W.Frag} {G : PySem.W.Frag → Hp → V → Prop} {H : Hp} {p : Addr} {n m : Nat} (h : ListV K G H p n) (hnm : n ≤ m) : ListV K G H p m := by
  obtain ⟨vs, h1, h2, h3⟩ := h
  exact ⟨vs, h1, Nat.le_trans h2 hnm, h3⟩
theorem flat_single : ∀ cs : S, (cs.map fun c => [c]).flatten = cs
  | [] => rfl
  | c :: cs => by
    rw [List.map_cons, List.flatten_cons, flat_single cs]
    rfl
section
variable {P : Program} {w : World} {K : PySem.W.Frag} {mg : Str → Option Value} {base : Heap}
/-! ### _law_values -/
abbrev nLValues : List Str := ["_law_stream_here", "_law_code_here", "_law_letters_here", "_law_due", "_law_drawn", "_law_good", "_law_at", "_law_sets", "_law_pairs_here", "_law_first", "_law_told", "_law_one", "_law_other", "_law_k", "_law_rest", "_law_value", "_law_pair"]
def spLValues (K : PySem.W.Frag) : Sp := fun vs H Q _ => ∃ (st sl c : Addr) (code : List S) (z : S), vs = [.ref st, .ref c, Sv z] ∧ Str1 H st sl ∧ SqT K H c (code.map Sv) ∧ CodeOk code ∧ AbcOk z ∧
  ∀ H' p, SameBut1 st H H' → Str1 H' st sl → p ≠ st → ListV K Item H' p 30 → Q (.ref p) H'
theorem scLValues : FnScope nLValues ["_law_stream_here", "_law_code_here", "_law_letters_here"] (defScope sLValues) := ⟨rfl, rfl, rfl, by decide +kernel, rfl, by decide +kernel, by decide +kernel⟩
theorem ok_lvalues {f : Addr} {fd : FuncData} (F : Fun K "_law_values" "_law_values" sLValues f fd) (T : Glo mg) (N : Kn P w K mg base 1 "_law_next" ["_law_stream_here", "_law_many"] (spNext K)) (R : Kn P w K mg base 2 "_law_rests" ["_law_code_here"] (spLRests K))
    (G : Kn P w K mg base 2 "_law_grown" ["_law_code_here", "_law_start"] (spLGrown K)) (L : Kn P w K mg base 2 "_law_parse" ["_law_stream_here", "_law_code_here"] (spLParse K)) (E : Kn P w K mg base 4 "unique_evidence" ["code"] (spEvidence K)) :
    FnOk P w K mg base CX0 5 f fd ["_law_stream_here", "_law_code_here", "_law_letters_here"] (spLValues K) := by
  obtain ⟨fN, fdN, GN, bN, gN, kN⟩ := N
  obtain ⟨fR, fdR, GR, bR, gR, kR⟩ := R
  obtain ⟨fG, fdG, GG, bG, gG, kG⟩ := G
  obtain ⟨fL, fdL, GL, bL, gL, kL⟩ := L
  obtain ⟨fE, fdE, GE, bE, gE, kE⟩ := E
  refine F.ok scLValues (fun vs H Q E h => ?_) (fun cdv A outer s H vs Q E hr h => ?_)
  · obtain ⟨st, sl, c, code, z, rfl, _⟩ := h
    rfl
  · obtain ⟨st, sl, c, code, z, rfl, hst, hC, ok, hz, q⟩ := h
    have nd := scLValues.nd
    let R1 : L2.St → Hp → Prop := fun σ H1 => ∃ (v3 v4 v5 v6 : V) (y9 : Option V) (sp pp : Addr), σ = [some (.ref st), some (.ref c), some (Sv z), some v3, some v4, some v5, some v6, some (.ref sp), some (.ref pp), y9, none, none, none, none, none, none, none] ∧
      SameBut1 st H H1 ∧ Str1 H1 st sl ∧ sp ≠ st ∧ pp ≠ st ∧ ListV K SetV H1 sp 8 ∧ ListV K PairV H1 pp 5
    let Rt : L2.St → Hp → Prop := fun σ H1 => ∃ (v3 v4 v5 v6 : V) (y9 : Option V) (ta sp pp : Addr), σ = [some (.ref st), some (.ref c), some (Sv z), some v3, some v4, some v5, some v6, some (.ref sp), some (.ref pp), y9, some (.ref ta), none, none, none, none, none, none] ∧
      SameBut1 st H H1 ∧ Str1 H1 st sl ∧ sp ≠ st ∧ pp ≠ st ∧ ListV K SetV H1 sp 8 ∧ ListV K PairV H1 pp 5 ∧ ((∃ r, SqT K H1 ta [.str "unique", .ref r]) ∨ ∃ (b f g : Addr) (ns ms : List Nat), SqT K H1 ta [.str "two", .ref b] ∧ SqT K H1 b [.ref f, .ref g] ∧ SqT K H1 f (ns.map Iv) ∧ SqT K H1 g (ms.map Iv) ∧ ns.length ≤ 40 ∧ ms.length ≤ 40)
    let R2 : L2.St → Hp → Prop := fun σ H1 => ∃ (v3 v4 v5 v6 : V) (y9 y10 y11 y12 : Option V) (sp pp : Addr), σ = [some (.ref st), some (.ref c), some (Sv z), some v3, some v4, some v5, some v6, some (.ref sp), some (.ref pp), y9, y10, y11, y12, none, none, none, none] ∧
      SameBut1 st H H1 ∧ Str1 H1 st sl ∧ sp ≠ st ∧ pp ≠ st ∧ ListV K SetV H1 sp 8 ∧ ListV K PairV H1 pp 11
    have hr1 := hr.mono (show 1 ≤ 4 by decide)
    have hr2 := hr.mono (show 2 ≤ 4 by decide)
    refine ⟨_, pss_cons (ps_set (i := 3) nd rfl (.inl rfl) (pe_call GR (hr.mono (by decide)) (by rfl) gR kR bR .nil pass0 (pa_cons (pv 1) pa_nil)))
      (pss_cons (ps_set (i := 4) nd rfl (.inl rfl) (pe_join pe_str
        (pe_lc (own := [("_law_k", 13)]) (g := gName 13) (tt := tYes) rfl nd (pi_range1 (by rfl) T.range (pa_cons (pe_op op_add pe_int (pe_call GN (hr.mono (by decide)) (by rfl) gN kN bN .nil pass0 (pa_cons (pv 0) (pa_cons pe_int pa_nil)))) pa_nil)) (blkOk_by (N := nLValues) (sc := defScope sLValues) (by decide +kernel))
          (fun _ _ _ _ _ => pg_name (i := 13) nd rfl (Or.inl rfl)) (fun _ _ _ _ _ => pts_nil)
          (fun _ _ _ _ _ => pe_ix (r := rIxS) ix_str (pv 2) (pe_call GN (hr.mono (by decide)) (by rfl) gN kN bN .nil pass0 (pa_cons (pv 0) (pa_cons (pe_callB call_len_str (by rfl) T.len PySem.boot_len (pa_cons (pv 2) pa_nil)) pa_nil))) (fun _ _ => rfl)))))
      (pss_cons (ps_set (i := 5) nd rfl (.inl rfl) (pe_callTy call_tuple_of (by rfl) T.tuple boot_tuple (pa_cons
        (pe_lc (own := [("_law_rest", 14)]) (g := gName 14) rfl nd (pi_tup (pv 3)) (blkOk_by (N := nLValues) (sc := defScope sLValues) (by decide +kernel))
          (fun _ _ _ _ _ => pg_name (i := 14) nd rfl (Or.inl rfl)) (fun _ _ _ _ _ => pts_one (pt_cmpR op_ne (pv 14) pe_str (nomark _))) (fun _ _ _ _ _ => pv 14)) pa_nil)))
      (pss_cons (ps_set (i := 6) nd rfl (.inl rfl) (pe_call GN (hr.mono (by decide)) (by rfl) gN kN bN .nil pass0 (pa_cons (pv 0) (pa_cons (pe_op op_add (pe_callB call_len_seq (by rfl) T.len PySem.boot_len (pa_cons (pv 5) pa_nil)) pe_int) pa_nil))))
      (pss_cons (ps_set (i := 7) nd rfl (.inl rfl) (pe_lst (pa_cons (pv 3) (pa_cons (pv 5)
        (pa_cons (pe_op op_catA (pe_slice (r := rSlA K) sl_tupA (pv 5) po_none (po_some (pv 6))) (pe_slice (r := rSlA K) sl_tupA (pv 5) (po_some (pe_op op_add (pv 6) pe_int)) po_none))
        (pa_cons (pe_callTy call_tuple_of (by rfl) T.tuple boot_tuple (pa_cons (pe_callB (cr_sortedT rfl hr.units) (by rfl) T.sorted boot_sorted (pa_cons (pe_callTy (cr_setT rfl) (by rfl) T.set boot_set (pa_cons (pe_op op_catA (pv 5) (pe_tup (pa_cons (pv 4) pa_nil))) pa_nil)) pa_nil)) pa_nil))
        (pa_cons (pe_call GG (hr.mono (by decide)) (by rfl) gG kG bG .nil pass0 (pa_cons (pv 1) (pa_cons (pe_op op_cat (pe_callTy call_list_of (by rfl) T.list boot_list (pa_cons (pv 3) pa_nil)) (pe_lst (pa_cons (pv 4) pa_nil))) pa_nil)))
        (pa_cons (pe_revT (pv 5))
        (pa_cons (pe_op op_catA (pv 5) (pe_slice (r := rSlA K) sl_tupA (pv 5) (po_some (pe_un un_neg pe_int)) po_none))
        (pa_cons (pe_tup pa_nil) pa_nil))))))))))
      (pss_cons (ps_set (i := 8) nd rfl (.inl rfl) (pe_lst (pa_cons (pe_tup (pa_cons (pe_tup pa_nil) (pa_cons (pe_tup pa_nil) pa_nil))) (pa_cons (pe_tup (pa_cons (pe_tup (pa_cons pe_int pa_nil)) (pa_cons (pe_tup (pa_cons pe_int pa_nil)) pa_nil))) pa_nil))))
      (pss_mid (R := R1) (ps_if (pt_truth (pv 1) (by intro _; rfl))
        (pss_cons (ps_set (i := 9) nd rfl (.inl rfl) (pe_call GL (hr.mono (by decide)) (by rfl) gL kL bL .nil pass0 (pa_cons (pv 0) (pa_cons (pv 1) pa_nil))))
        (pss_one (ps_set (i := 8) nd rfl (.inl rfl) (pe_op op_cat (pv 8) (pe_lst (pa_cons (pe_tup (pa_cons (pv 9) (pa_cons (pe_call GL (hr.mono (by decide)) (by rfl) gL kL bL .nil pass0 (pa_cons (pv 0) (pa_cons (pv 1) pa_nil))) pa_nil)))
          (pa_cons (pe_tup (pa_cons (pv 9) (pa_cons (pv 9) pa_nil))) (pa_cons (pe_tup (pa_cons (pe_op op_catA (pv 9) (pe_tup (pa_cons pe_int pa_nil))) (pa_cons (pv 9) pa_nil))) pa_nil)))))))) pss_nil)
      (pss_mid (R := Rt) (ps_set (i := 10) nd rfl (.inl rfl) (pe_call GE hr (by rfl) gE kE bE .nil pass0 (pa_cons (pv 1) pa_nil)))
      (pss_mid (R := R2) (ps_if (pt_cmpR op_eq (pe_ix (r := rIxT K) ix_tup (pv 10) pe_int (fun _ _ => rfl)) pe_str (nomark _))
        (pss_cons (ps_asg (pe_ix (r := rIxT K) ix_tup (pv 10) pe_int (fun _ _ => rfl)) (pg_tup rfl (pgs_cons (pg_name (i := 11) nd rfl (.inl rfl)) (pgs_cons (pg_name (i := 12) nd rfl (.inl rfl)) pgs_nil))))
        (pss_one (ps_set (i := 8) nd rfl (.inl rfl) (pe_op op_cat (pv 8) (pe_lst (pa_cons (pe_ix (r := rIxT K) ix_tup (pv 10) pe_int (fun _ _ => rfl))
          (pa_cons (pe_tup (pa_cons (pv 12) (pa_cons (pv 11) pa_nil)))
          (pa_cons (pe_tup (pa_cons (pe_op op_catA (pv 11) (pv 12)) (pa_cons (pe_op op_catA (pv 12) (pv 11)) pa_nil)))
          (pa_cons (pe_tup (pa_cons (pe_op op_catA (pv 11) (pv 11)) (pa_cons (pv 12) pa_nil)))
          (pa_cons (pe_tup (pa_cons (pv 11) (pa_cons (pe_revT (pv 12)) pa_nil)))
          (pa_cons (pe_tup (pa_cons (pe_slice (r := rSlA K) sl_tupA (pv 11) (po_some pe_int) po_none) (pa_cons (pv 12) pa_nil))) pa_nil))))))))))) pss_nil)
      (pss_one (ps_ret (pe_op op_cat
        (pe_lc (own := [("_law_value", 15)]) (g := gName 15) (tt := tYes) rfl nd (pi_list (pv 7)) (blkOk_by (N := nLValues) (sc := defScope sLValues) (by decide +kernel))
          (fun _ _ _ _ _ => pg_name (i := 15) nd rfl (Or.inl rfl)) (fun _ _ _ _ _ => pts_nil) (fun _ _ _ _ _ => pe_tup (pa_cons pe_str (pa_cons (pv 15) pa_nil))))
        (pe_lc (own := [("_law_pair", 16)]) (g := gName 16) (tt := tYes) rfl nd (pi_list (pv 8)) (blkOk_by (N := nLValues) (sc := defScope sLValues) (by decide +kernel))
          (fun _ _ _ _ _ => pg_name (i := 16) nd rfl (Or.inl rfl)) (fun _ _ _ _ _ => pts_nil) (fun _ _ _ _ _ => pe_tup (pa_cons pe_str (pa_cons (pv 16) pa_nil))))))))))))))), ?_⟩
    have sm := ok.small
    have one1 : (1 : Nat) ≤ sizeLine := small_line (by decide)
    have hz1 := hz.pos
    have hz3 := hz.few
    have hzl : (mk z).length ≤ sizeLine := small_line (by rw [mk_len]; omega)
    refine ⟨_, rfl, c, code, rfl, hC, sm, fun H1 due zs s1 hdue hasc hmem => ?_⟩
    refine ⟨⟨_, rfl⟩, .ref st, rfl, st, sl, 5, rfl, hst.same s1, by decide, by decide, fun d H2 hd sb2 h2 => ⟨_, _, rfl, rfl, _, rfl, by omega, by omega, fun D hD => ?_⟩⟩
    have b02 := same_but s1 sb2
    refine lc_it (tt := tYes) (walk_range (lo := 0) (n := (1 + (d : Int)).toNat)) (fun i H3 => SameBut1 st H2 H3 ∧ Str1 H3 st sl ∧ ∃ cs : S, H3 D = some (.lst ((cs.map fun c => [c]).map Sv)) ∧ cs.length = i ∧ ∀ c ∈ cs, c ∈ [97, 98, 99])
      ⟨Same.but (same_upd hD) st, h2.same (same_upd hD), [], upd_same, rfl, fun c hc => by cases hc⟩ (fun _ _ _ _ => trivial) ?_ ?_
    · rintro i x H3 H4 hi ⟨s3, h3, cs, hcs, hcl, hca⟩ ⟨rfl, rfl⟩
      refine ⟨rfl, tYes_k ⟨_, rfl, .ref st, rfl, Sv z, rfl, mk z, rfl, hzl, st, sl, _, rfl, h3, (by rw [mk_len]; omega), (by rw [mk_len]; omega), fun d2 H5 hd2 sb5 h5 => ?_⟩⟩
      rw [mk_len] at hd2
      have hlt : d2 < z.length := by omega
      refine ⟨mk z, _, z[d2], rfl, rfl, hzl, atI_nat (by rw [mk_list]; exact List.getElem?_eq_getElem hlt), _, sb5 _ _ hcs (h2.ne hD), small_lt (by rw [List.length_map, List.length_map]; omega), but_put (s3.trans sb5) hD, h2.put h5 hD, cs ++ [z[d2]], ?_, by rw [List.length_append, hcl]; rfl, fun c hc => ?_⟩
      · rw [upd_same, List.map_append, List.map_append]
        rfl
      · rcases List.mem_append.mp hc with hc | hc
        · exact hca c hc
        · rw [List.mem_singleton.mp hc]
          exact hz.abc _ (List.getElem_mem hlt)
    · rintro H3 ⟨s3, h3, cs, hcs, hcl, hca⟩
      have hcs5 : cs.length ≤ 5 := by omega
      refine ⟨"", D, (cs.map fun c => [c]).map mk, rfl, rfl, .inl (SqL.of (by rw [hcs, map_sv])), ?_, ?_⟩
      · have := join_len (cs.map fun c => [c]) 1 (fun s hs => by
          obtain ⟨n, hn, rfl⟩ := List.mem_map.mp hs
          exact Nat.le_refl _)
        have ek2 : (cs.map fun c => [c]).length = cs.length := List.length_map _
        rw [ek2] at this
        have e0 : ("" : Str).length = 0 := rfl
        rw [e0]
        omega
      rw [join_mk, flat_single]
      have b03 := b02.trans s3
      have hdue3 : SqT K H3 due (zs.map Sv) := SameBut1.tup (sb2.trans s3) (hst.same s1).lst hdue
      have hzU : ∀ r ∈ zs, r ∈ U code := fun r hr => row_U r ((hmem r).mp hr)
      have hz5 : ∀ r ∈ zs, r.length ≤ 5 := fun r hr => sm.rest (hzU r hr)
      have hzs : zs.length ≤ 72 := Nat.le_trans (nodup_le zs (rowAt code 400) (asc_nodup hasc) (fun x hx => (hmem x).mp hx)) (rowlen sm 400)
      refine ⟨.ref due, rfl, due, rfl, ⟨_, hdue3⟩, fun D2 hD2 => ?_⟩
      refine lc_it (walk_tup (xs := zs.map Sv)) (fun i H4 => Same H3 H4 ∧ H4 D2 = some (.lst (((zs.take i).filter fun r => decide (r ≠ [])).map Sv))) ⟨same_upd hD2, upd_same⟩ (fun i H4 _ h => Same.tup h.1 hdue3) ?_ ?_
      · rintro i x H4 H5 hi ⟨s4, h4⟩ ⟨rfl, hx⟩
        obtain ⟨r, er, rfl⟩ := map_at hx
        refine ⟨rfl, _, rfl, rfl, _, rfl, ?_⟩
        rw [show (V.str "") = Sv [] from rfl, dec_sv]
        have hl : ((zs.take i).filter fun r => decide (r ≠ [])).length ≤ 100 := by
          refine Nat.le_trans (List.length_filter_le _ _) ?_
          rw [List.length_take]
          omega
        have e : (zs.take (i + 1)).filter (fun r => decide (r ≠ [])) = (zs.take i).filter (fun r => decide (r ≠ [])) ++ [r].filter (fun r => decide (r ≠ [])) := by
          rw [List.take_add_one, er, List.filter_append]
          rfl
        by_cases h0 : r = []
        · rw [decide_eq_true h0]
          refine iteF ⟨s4, ?_⟩
          rw [e, h0]
          simpa using h4
        · rw [decide_eq_false h0]
          refine iteT ⟨_, rfl, _, h4, small_lt (by rw [List.length_map]; omega), same_put s4 hD2, ?_⟩
          rw [upd_same, e]
          have : [r].filter (fun r => decide (r ≠ [])) = [r] := by simp [h0]
          rw [this, List.map_append]
          rfl
      · rintro H4 ⟨s4, h4⟩
        rw [List.length_map, List.take_of_length_le (Nat.le_refl _)] at h4
        have hgl : (zs.filter fun r => decide (r ≠ [])).length ≤ 72 := Nat.le_trans (List.length_filter_le _ _) hzs
        have hg5 : ∀ r ∈ zs.filter fun r => decide (r ≠ []), r.length ≤ 5 := fun r hr => hz5 r (List.mem_filter.mp hr).1
        generalize (zs.filter fun r => decide (r ≠ [])) = gs at h4 hgl hg5
        refine ⟨D2, _, rfl, .inl ⟨SqL.of h4, fun g hg => ?_⟩⟩
        have s5 := same_upd (o := .tup (gs.map Sv)) hg
        have hg5' : SqT K (upd H4 g (.tup (gs.map Sv))) g (gs.map Sv) := SqT.of upd_same
        have s35 := s4.trans s5
        generalize upd H4 g (.tup (gs.map Sv)) = H5 at s5 hg5' s35
        have h5 := h3.same s35
        have b05 := but_same b03 s35
        refine ⟨_, rfl, _, rfl, g, _, rfl, .inr hg5', _, _, rfl, rfl, st, sl, _, rfl, h5, by omega, by rw [List.length_map]; omega, fun at1 H6 hat sb6 h6 => ?_⟩
        have b06 := b05.trans sb6
        have hg6 : SqT K H6 g (gs.map Sv) := SameBut1.tup sb6 h5.lst hg5'
        have hdue6 : SqT K H6 due (zs.map Sv) := SameBut1.tup sb6 h5.lst (Same.tup s35 hdue3)
        have hC6 : SqT K H6 c (code.map Sv) := SameBut1.tup b06 hst.lst hC
        -- the sets
        have gl1 : (gs.map Sv).length = gs.length := List.length_map _
        have k1 : SetV K H6 (.ref due) := ⟨due, zs, rfl, hdue6, by omega, fun x hx => by have := hz5 x hx; omega⟩
        have k2 : SetV K H6 (.ref g) := ⟨g, gs, rfl, hg6, by omega, fun x hx => by have := hg5 x hx; omega⟩
        refine ⟨_, rfl, _, rfl, ?_⟩
        refine ⟨.ref g, rfl, _, rfl, _, rfl, slA hg6 fun p1 H7 s7 hp1 => ?_⟩
        rw [cut_take, ← List.map_take] at hp1
        refine ⟨.ref g, rfl, _, rfl, _, _, rfl, rfl, _, rfl, ?_⟩
        unfold tNoPart
        show rSlA K _ _ _ _ _
        refine slA (Same.tup s7 hg6) fun p2 H8 s8 hp2 => ?_
        rw [show ((at1 : Nat) : Int) + 1 = ((at1 + 1 : Nat) : Int) from rfl, cut_drop, ← List.map_drop] at hp2
        refine catA (Same.tup s8 hp1) hp2 (small_line (by rw [List.length_map, List.length_map, List.length_take, List.length_drop]; omega)) fun p3 H9 s9 hp3 => ?_
        rw [← List.map_append] at hp3
        have k3 : SetV K H9 (.ref p3) := ⟨p3, _, rfl, hp3, by rw [List.length_append, List.length_take, List.length_drop]; omega, fun x hx => by
          rcases List.mem_append.mp hx with h | h
          · have := hg5 x (List.mem_of_mem_take h); omega
          · have := hg5 x (List.mem_of_mem_drop h); omega⟩
        have s69 := (s7.trans s8).trans s9
        -- the fourth
        refine ⟨.ref g, rfl, _, rfl, one1, fun t nt => ?_⟩
        have st1 := same_upd (o := .tup [Sv cs]) nt
        refine catA (Same.tup (s69.trans st1) hg6) (SqT.of upd_same) (small_line (by rw [List.length_map]; show gs.length + 1 ≤ 100000; omega)) fun p4 H10 s10 hp4 => ?_
        have e4 : gs.map Sv ++ [Sv cs] = ((gs ++ [cs]).map mk).map V.str := by
          rw [← map_sv, List.map_append]
          rfl
        rw [e4] at hp4
        refine ⟨p4, (gs ++ [cs]).map mk, rfl, .inr hp4, by rw [List.length_map, List.length_append]; show gs.length + 1 ≤ 1000; omega, fun a n ha => ⟨a, _, _, rfl, upd_same, fun ys p5 hp5 hk hn => ⟨p5, _, rfl, .inl ⟨SqL.of upd_same, fun l hl => ?_⟩⟩⟩⟩
        obtain ⟨z4, rfl, za, zm⟩ := asc_set hp5 hk
        have s11 := s10.trans ((same_upd ha).trans ((same_upd hn).trans (same_upd (o := .tup ((z4.map mk).map V.str)) hl)))
        have s6b := (s69.trans st1).trans s11
        have k4 : SetV K (upd (upd (upd H10 a (SetTX w a (fun j => decide (j ∈ (gs ++ [cs]).map mk)) n)) p5 (.lst ((z4.map mk).map V.str))) l (.tup ((z4.map mk).map V.str))) (.ref l) := ⟨l, z4, rfl, SqT.of (by rw [upd_same, map_sv]), by
          have := nodup_le z4 (gs ++ [cs]) (asc_nodup za) (fun x hx => (zm x).mp hx)
          rw [List.length_append] at this
          have e1 : [cs].length = 1 := rfl
          omega, fun x hx => by
          rcases List.mem_append.mp ((zm x).mp hx) with h | h
          · have := hg5 x h; omega
          · rw [List.mem_singleton.mp h]; omega⟩
        have k3 := k3.tr (tr_same (st1.trans s11))
        -- the fifth
        refine ⟨.ref c, rfl, .ref due, rfl, due, _, rfl, .inr (Same.tup s6b hdue6), fun l1 hl1 => ⟨_, rfl, one1, fun l2 hl2 => ?_⟩⟩
        have sl1 := same_upd (o := .lst (zs.map Sv)) hl1
        have sl2 := same_upd (o := .lst [Sv cs]) hl2
        refine ⟨l1, l2, _, _, rfl, rfl, sl2 _ _ upd_same, upd_same, small_line (by rw [List.length_map]; show zs.length + 1 ≤ 100000; omega), fun l3 hl3 => ?_⟩
        have sl3 := same_upd (o := .lst (zs.map Sv ++ [Sv cs])) hl3
        have s11b := (sl1.trans sl2).trans sl3
        refine ⟨c, l3, code, zs ++ [cs], cs, rfl, Same.tup (s6b.trans s11b) hC6, sm, SqL.of (by rw [upd_same, List.map_append]; rfl), by rw [List.length_append]; show zs.length + 1 ≤ 100; omega, hcs5, ?_, fun H12 p6 ws s12 hp6 hwl hwx => ?_⟩
        · intro r hr
          refine mem_U.mpr ?_
          rcases List.mem_append.mp hr with h | h
          · obtain ⟨x, hx, sx⟩ := mem_U.mp (hzU r h)
            exact ⟨x, List.mem_cons_of_mem _ hx, sx⟩
          · rw [List.mem_singleton.mp h]
            exact ⟨cs, List.mem_cons_self, List.suffix_refl _⟩
        have k5 : SetV K H12 (.ref p6) := ⟨p6, ws, rfl, hp6, hwl, hwx⟩
        have s1112 := s11b.trans s12
        have s612 := s6b.trans s1112
        -- backwards, the last once more, none
        refine ⟨.ref g, rfl, g, _, rfl, Same.tup s612 hg6, fun p7 hp7 => ?_⟩
        have s13 := same_upd (o := .tup (gs.map Sv).reverse) hp7
        have k6 : SetV K (upd H12 p7 (.tup (gs.map Sv).reverse)) (.ref p7) := ⟨p7, gs.reverse, rfl, by rw [List.map_reverse]; exact SqT.of upd_same, by rw [List.length_reverse]; omega, fun x hx => by have := hg5 x (List.mem_reverse.mp hx); omega⟩
        have s613 := s612.trans s13
        generalize upd H12 p7 (.tup (gs.map Sv).reverse) = H13 at s13 k6 s613 ⊢
        refine ⟨.ref g, rfl, .ref g, rfl, _, rfl, _, rfl, ?_⟩
        show rSlA K _ _ _ _ _
        refine slA (Same.tup s613 hg6) fun p8 H14 s14 hp8 => ?_
        rw [cut_last, ← List.map_drop, gl1] at hp8
        refine catA (Same.tup (s613.trans s14) hg6) hp8 (small_line (by rw [List.length_map, List.length_map, List.length_drop]; omega)) fun p9 H15 s15 hp9 => ?_
        rw [← List.map_append] at hp9
        have k7 : SetV K H15 (.ref p9) := ⟨p9, _, rfl, hp9, by rw [List.length_append, List.length_drop]; omega, fun x hx => by
          rcases List.mem_append.mp hx with h | h
          · have := hg5 x h; omega
          · have := hg5 x (List.mem_of_mem_drop h); omega⟩
        refine ⟨Nat.zero_le _, fun p10 np10 => ?_⟩
        have s16 := same_upd (o := .tup []) np10
        have k8 : SetV K (upd H15 p10 (.tup [])) (.ref p10) := ⟨p10, [], rfl, SqT.of upd_same, Nat.zero_le _, fun x hx => by cases hx⟩
        refine ⟨small_line (by show 8 ≤ 100000; decide), fun sp nsp => ?_⟩
        have s17 := same_upd (o := .lst [.ref due, .ref g, .ref p3, .ref l, .ref p6, .ref p7, .ref p9, .ref p10]) nsp
        have e617 := s613.trans ((s14.trans s15).trans (s16.trans s17))
        have e1317 := (s14.trans s15).trans (s16.trans s17)
        have e1217 := s13.trans e1317
        have e1117 := s1112.trans e1217
        have LS : ListV K SetV (upd (upd H15 p10 (.tup [])) sp (.lst [.ref due, .ref g, .ref p3, .ref l, .ref p6, .ref p7, .ref p9, .ref p10])) sp 8 := by
          refine ⟨_, upd_same, Nat.le_refl _, fun v hv => ?_⟩
          simp only [List.mem_cons, List.mem_nil_iff, or_false] at hv
          rcases hv with rfl | rfl | rfl | rfl | rfl | rfl | rfl | rfl
          · exact k1.tr (tr_same e617)
          · exact k2.tr (tr_same e617)
          · exact k3.tr (tr_same e1117)
          · exact k4.tr (tr_same e1117)
          · exact k5.tr (tr_same e1217)
          · exact k6.tr (tr_same e1317)
          · exact k7.tr (tr_same (s16.trans s17))
          · exact k8.tr (tr_same s17)
        have nsp0 : H6 sp = none := by
          cases h : H6 sp with
          | none => rfl
          | some o => exact absurd ((s613.trans ((s14.trans s15).trans s16)) _ _ h) (by rw [nsp]; intro z; cases z)
        generalize upd (upd H15 p10 (.tup [])) sp (.lst [.ref due, .ref g, .ref p3, .ref l, .ref p6, .ref p7, .ref p9, .ref p10]) = H17 at e617 LS ⊢
        have hspst : sp ≠ st := h6.ne nsp0
        have h17 := h6.same e617
        have b17 := but_same b06 e617
        have hC17 := Same.tup e617 hC6
        have two1 : (2 : Nat) ≤ sizeLine := small_line (by decide)
        refine ⟨Nat.zero_le _, fun a1 n1 => ⟨Nat.zero_le _, fun a2 n2 => ⟨two1, fun a3 n3 => ⟨one1, fun a4 n4 => ⟨one1, fun a5 n5 => ⟨two1, fun a6 n6 => ⟨two1, fun pp npp => ?_⟩⟩⟩⟩⟩⟩⟩
        have t1 := same_upd (o := .tup []) n1
        have t2 := same_upd (o := .tup []) n2
        have t3 := same_upd (o := .tup [.ref a1, .ref a2]) n3
        have t4 := same_upd (o := .tup [Iv 0]) n4
        have t5 := same_upd (o := .tup [Iv 0]) n5
        have t6 := same_upd (o := .tup [.ref a4, .ref a5]) n6
        have t7 := same_upd (o := .lst [.ref a3, .ref a6]) npp
        have q3 := pairV_new (K := K) (ns := []) (ms := []) n3 (Same.tup t2 (SqT.of upd_same)) (SqT.of upd_same)
        have q6 := pairV_new (K := K) (ns := [0]) (ms := [0]) n6 (Same.tup t5 (SqT.of upd_same)) (SqT.of upd_same)
        have u7 := ((t1.trans t2).trans (t3.trans t4)).trans ((t5.trans t6).trans t7)
        have LP : ListV K PairV _ pp 2 := ⟨_, upd_same (o := .lst [.ref a3, .ref a6]), Nat.le_refl 2, fun v hv => by
          simp only [List.mem_cons, List.mem_nil_iff, or_false] at hv
          rcases hv with rfl | rfl
          · exact q3.tr (tr_same ((t4.trans t5).trans (t6.trans t7)))
          · exact q6.tr (tr_same t7)⟩
        have npp0 : H17 pp = none := by
          cases h : H17 pp with
          | none => rfl
          | some o => exact absurd ((((t1.trans t2).trans (t3.trans t4)).trans (t5.trans t6)) _ _ h) (by rw [npp]; intro z; cases z)
        have hpps : pp ≠ st := h17.ne npp0
        have h18 := h17.same u7
        have b18 := but_same b17 u7
        have hC18 := Same.tup u7 hC17
        have LS := LS.lift (u7 sp) (fun v h => h.tr (tr_same u7))
        refine ⟨?_, ?_⟩
        · refine ⟨_, rfl, !(code.map Sv).isEmpty, .inr (.inl ⟨_, hC18, rfl⟩), ?_⟩
          by_cases hc0 : code = []
          · subst hc0
            exact iteF ⟨_, _, _, _, none, sp, pp, rfl, b18, h18, hspst, hpps, LS, LP.le (by decide)⟩
          · have hne : (!(code.map Sv).isEmpty) = true := by
              cases code with
              | nil => exact absurd rfl hc0
              | cons _ _ => rfl
            have hpos : 0 < code.length := List.length_pos_iff.mpr hc0
            rw [hne]
            obtain ⟨vs, hvs, hvl, hvp⟩ := id LP
            generalize upd _ pp (.lst [.ref a3, .ref a6]) = H18 at LP h18 b18 hC18 LS hvs hvp ⊢
            refine iteT ⟨_, rfl, _, rfl, st, sl, c, code, rfl, h18, hC18, hpos, ok.few, fun H19 f1 ns1 sb19 h19 hf1 hl1 => ?_⟩
            have hC19 := SameBut1.tup sb19 h18.lst hC18
            refine ⟨_, rfl, _, rfl, _, rfl, _, rfl, st, sl, c, code, rfl, h19, hC19, hpos, ok.few, fun H20 f2 ns2 sb20 h20 hf2 hl2 => ⟨two1, fun t1 m1 => ⟨_, rfl, _, rfl, two1, fun t2 m2 => ⟨_, rfl, one1, fun t3 m3 => ?_⟩⟩⟩⟩
            have hf1b := SameBut1.tup sb20 h19.lst hf1
            have x1 := same_upd (o := .tup [.ref f1, .ref f2]) m1
            have x2 := same_upd (o := .tup [.ref f1, .ref f1]) m2
            have x3 := same_upd (o := .tup [Iv 0]) m3
            have w1 := pairV_new (K := K) m1 hf1b hf2
            have w2 := pairV_new (K := K) m2 (Same.tup x1 hf1b) (Same.tup x1 hf1b)
            refine catA (Same.tup ((x1.trans x2).trans x3) hf1b) (SqT.of upd_same) (small_line (by rw [List.length_map]; show ns1.length + 1 ≤ 100000; omega)) fun p3 H21 x4 hp3 => ?_
            have e3 : ns1.map Iv ++ [V.int 0] = (ns1 ++ [0]).map Iv := by rw [List.map_append]; rfl
            rw [e3] at hp3
            have x14 := ((x1.trans x2).trans x3).trans x4
            refine ⟨_, rfl, two1, fun t4 m4 => ⟨small_line (by show 3 ≤ 100000; decide), fun l4 hl4 => ?_⟩⟩
            have x5 := same_upd (o := .tup [.ref p3, .ref f1]) m4
            have x6 := same_upd (o := .lst [.ref t1, .ref t2, .ref t4]) hl4
            have w3 := pairV_new (K := K) m4 hp3 (Same.tup x14 hf1b)
            have x16 := x14.trans (x5.trans x6)
            have hvs1 := x16 _ _ (sb20 _ _ (sb19 _ _ hvs hpps) hpps)
            refine ⟨pp, l4, _, _, rfl, rfl, hvs1, upd_same, small_line (by show vs.length + 3 ≤ 100000; omega), fun pq hpq => ?_⟩
            have x7 := same_upd (o := .lst (vs ++ [.ref t1, .ref t2, .ref t4])) hpq
            have x17 := x16.trans x7
            have T18 : Tr K H18 _ := ((tr_but sb19 h18.lst).trans (tr_but sb20 h19.lst)).trans (tr_same x17)
            have npq0 : H20 pq = none := by
              cases h : H20 pq with
              | none => rfl
              | some o => exact absurd (x16 _ _ h) (by rw [hpq]; intro z; cases z)
            refine ⟨_, _, _, _, _, sp, pq, rfl, but_same ((b18.trans sb19).trans sb20) x17, h20.same x17, hspst, h20.ne npq0, LS.lift (fun o e => x17 _ _ (sb20 _ _ (sb19 _ _ e hspst) hspst)) (fun v h => h.tr T18), ⟨_, upd_same, ?_, fun v hv => ?_⟩⟩
            · rw [List.length_append]
              show vs.length + 3 ≤ 5
              omega
            · rcases List.mem_append.mp hv with h | h
              · exact (hvp v h).tr T18
              · simp only [List.mem_cons, List.mem_nil_iff, or_false] at h
                rcases h with rfl | rfl | rfl
                · exact w1.tr (tr_same ((x2.trans x3).trans (x4.trans ((x5.trans x6).trans x7))))
                · exact w2.tr (tr_same (x3.trans (x4.trans ((x5.trans x6).trans x7))))
                · exact w3.tr (tr_same (x6.trans x7))
        · rintro σ H1 ⟨v3, v4, v5, v6, y9, sp, pp, rfl, b1, h1, hsp, hpp, LS, LP⟩
          have hC1 := SameBut1.tup b1 hst.lst hC
          refine ⟨?_, ?_⟩
          · refine ⟨_, rfl, c, code, rfl, hC1, ok, ⟨fun H2 a r s2 ha => ?_, fun H2 a b f g ns ms s2 ha hb hf hg l1 l2 => ?_⟩⟩
            · exact ⟨_, _, _, _, _, a, sp, pp, rfl, but_same b1 s2, h1.same s2, hsp, hpp, LS.lift (s2 sp) (fun v h => h.tr (tr_same s2)), LP.lift (s2 pp) (fun v h => h.tr (tr_same s2)), .inl ⟨r, ha⟩⟩
            · exact ⟨_, _, _, _, _, a, sp, pp, rfl, but_same b1 s2, h1.same s2, hsp, hpp, LS.lift (s2 sp) (fun v h => h.tr (tr_same s2)), LP.lift (s2 pp) (fun v h => h.tr (tr_same s2)), .inr ⟨b, f, g, ns, ms, ha, hb, hf, hg, l1, l2⟩⟩
          · rintro σ H2 ⟨v3, v4, v5, v6, y9, ta, sp, pp, rfl, b2, h2, hsp, hpp, LS, LP, told⟩
            refine ⟨?_, ?_⟩
            · rcases told with ⟨r, hta⟩ | ⟨b, f, g, ns, ms, hta, htb, hf, hg, l1, l2⟩
              · refine ⟨_, rfl, ta, _, 0, _, rfl, rfl, hta, rfl, rfl, _, rfl, iteDF (fun e => absurd (V.str.inj e) (by decide +kernel)) ?_⟩
                exact ⟨_, _, _, _, _, _, none, none, sp, pp, rfl, b2, h2, hsp, hpp, LS, LP.le (by decide)⟩
              · refine ⟨_, rfl, ta, _, 0, _, rfl, rfl, hta, rfl, rfl, _, rfl, iteDT rfl ?_⟩
                refine ⟨_, rfl, ta, _, 1, _, rfl, rfl, hta, rfl, b, _, rfl, htb, rfl, _, _, rfl, _, _, rfl, rfl, ?_⟩
                refine ⟨_, rfl, _, rfl, ta, _, 1, _, rfl, rfl, hta, rfl, _, rfl, _, rfl, two1, fun t1 m1 => ?_⟩
                have x1 := same_upd (o := .tup [.ref g, .ref f]) m1
                have w1 := pairV_new (K := K) m1 hg hf
                refine ⟨_, rfl, _, rfl, ?_⟩
                refine catA (Same.tup x1 hf) (Same.tup x1 hg) (small_line (by rw [List.length_map, List.length_map]; omega)) fun q1 H3 y1 hq1 => ⟨_, rfl, _, rfl, ?_⟩
                rw [← List.map_append] at hq1
                refine catA (Same.tup (x1.trans y1) hg) (Same.tup (x1.trans y1) hf) (small_line (by rw [List.length_map, List.length_map]; omega)) fun q2 H4 y2 hq2 => ⟨two1, fun t2 m2 => ⟨_, rfl, _, rfl, ?_⟩⟩
                rw [← List.map_append] at hq2
                have x2 := same_upd (o := .tup [.ref q1, .ref q2]) m2
                have w2 := pairV_new (K := K) m2 (Same.tup y2 hq1) hq2
                have z2 := ((x1.trans y1).trans y2).trans x2
                refine catA (Same.tup z2 hf) (Same.tup z2 hf) (small_line (by rw [List.length_map]; omega)) fun q3 H5 y3 hq3 => ⟨_, rfl, two1, fun t3 m3 => ?_⟩
                rw [← List.map_append] at hq3
                have x3 := same_upd (o := .tup [.ref q3, .ref g]) m3
                have w3 := pairV_new (K := K) m3 hq3 (Same.tup (z2.trans y3) hg)
                have z3 := (z2.trans y3).trans x3
                refine ⟨_, rfl, _, rfl, g, _, rfl, Same.tup z3 hg, fun q4 m4 => ⟨two1, fun t4 m5 => ?_⟩⟩
                have x4 := same_upd (o := .tup (ms.map Iv).reverse) m4
                have x5 := same_upd (o := .tup [.ref f, .ref q4]) m5
                have w4 := pairV_new (K := K) (ms := ms.reverse) m5 (Same.tup (z3.trans x4) hf) (by rw [List.map_reverse]; exact SqT.of upd_same)
                have z5 := (z3.trans x4).trans x5
                refine ⟨_, rfl, 1, rfl, ?_⟩
                show rSlA K _ _ _ _ _
                refine slA (Same.tup z5 hf) fun q5 H6 y5 hq5 => ⟨_, rfl, two1, fun t5 m6 => ⟨small_line (by show 6 ≤ 100000; decide), fun l6 hl6 => ?_⟩⟩
                have ed : cutV (ns.map Iv) (some 1) none = (ns.drop 1).map Iv := by
                  have := cut_drop (ns.map Iv) 1
                  rw [List.map_drop]
                  exact this
                rw [ed] at hq5
                have x6 := same_upd (o := .tup [.ref q5, .ref g]) m6
                have w5 := pairV_new (K := K) m6 hq5 (Same.tup (z5.trans y5) hg)
                have x7 := same_upd (o := .lst [.ref b, .ref t1, .ref t2, .ref t3, .ref t4, .ref t5]) hl6
                have z7 := ((z5.trans y5).trans x6).trans x7
                obtain ⟨vs, hvs, hvl, hvp⟩ := LP
                refine ⟨pp, l6, _, _, rfl, rfl, z7 _ _ hvs, upd_same, small_line (by show vs.length + 6 ≤ 100000; omega), fun pq hpq => ?_⟩
                have x8 := same_upd (o := .lst (vs ++ [.ref b, .ref t1, .ref t2, .ref t3, .ref t4, .ref t5])) hpq
                have z8 := z7.trans x8
                have npq0 : H2 pq = none := by
                  cases h : H2 pq with
                  | none => rfl
                  | some o => exact absurd (z7 _ _ h) (by rw [hpq]; intro z; cases z)
                refine ⟨_, _, _, _, _, _, _, _, sp, pq, rfl, but_same b2 z8, h2.same z8, hsp, h2.ne npq0, LS.lift (z8 sp) (fun v h => h.tr (tr_same z8)), ⟨_, upd_same, ?_, fun v hv => ?_⟩⟩
                · rw [List.length_append]
                  show vs.length + 6 ≤ 11
                  omega
                · rcases List.mem_append.mp hv with h | h
                  · exact (hvp v h).tr (tr_same z8)
                  · simp only [List.mem_cons, List.mem_nil_iff, or_false] at h
                    have r5 := x7.trans x8
                    have r4 := (y5.trans x6).trans r5
                    have r3 := (x4.trans x5).trans r4
                    have r2 := (y3.trans x3).trans r3
                    have r1 := ((y1.trans y2).trans x2).trans r2
                    rcases h with rfl | rfl | rfl | rfl | rfl | rfl
                    · exact ⟨_, f, g, ns, ms, rfl, Same.tup z8 htb, Same.tup z8 hf, Same.tup z8 hg⟩
                    · exact w1.tr (tr_same r1)
                    · exact w2.tr (tr_same r2)
                    · exact w3.tr (tr_same r3)
                    · exact w4.tr (tr_same r4)
                    · exact w5.tr (tr_same r5)
            · rintro σ H3 ⟨v3, v4, v5, v6, y9, y10, y11, y12, sp, pp, rfl, b3, h3, hsp, hpp, ⟨us, hus, hul, hup⟩, ⟨vs, hvs, hvl, hvp⟩⟩
              refine ⟨.ref sp, rfl, sp, rfl, ⟨_, SqL.of hus⟩, fun D hD => ?_⟩
              refine lc_it (tt := tYes) (walk_list (xs := us)) (fun i H4 => Same H3 H4 ∧ ∃ ws, H4 D = some (.lst ws) ∧ ws.length = i ∧ ∀ v ∈ ws, Item K H4 v)
                ⟨same_upd hD, [], upd_same, rfl, fun v hv => by cases hv⟩ (fun i H4 _ h => SqL.of (h.1 _ _ hus)) ?_ ?_
              · rintro i x H4 H5 hi ⟨s4, ws, hws, hwl, hwi⟩ ⟨rfl, hx⟩
                refine ⟨rfl, tYes_k ⟨_, rfl, two1, fun t m => ?_⟩⟩
                have x1 := same_upd (o := .tup [.str "unique", x]) m
                have hws1 := x1 _ _ hws
                have hm : Mut ((upd H5 t (.tup [.str "unique", x])) D) := by rw [hws1]; exact True.intro
                have nw : Item K (upd H5 t (.tup [.str "unique", x])) (.ref t) := ⟨t, x, rfl, .inl ⟨SqT.of upd_same, (hup x (List.mem_of_getElem? hx)).tr (tr_same (s4.trans x1))⟩⟩
                refine ⟨_, hws1, small_lt (by omega), same_put (s4.trans x1) hD, ws ++ [.ref t], upd_same, by rw [List.length_append, hwl]; rfl, fun v hv => ?_⟩
                rcases List.mem_append.mp hv with h | h
                · exact (hwi v h).tr ((tr_same x1).trans (tr_chg hm))
                · rw [List.mem_singleton.mp h]
                  exact nw.tr (tr_chg hm)
              · rintro H4 ⟨s4, ws, hws, hwl, hwi⟩
                refine ⟨.ref pp, rfl, pp, rfl, ⟨_, SqL.of (s4 _ _ hvs)⟩, fun D2 hD2 => ?_⟩
                refine lc_it (tt := tYes) (walk_list (xs := vs)) (fun i H5 => Same H4 H5 ∧ ∃ ws, H5 D2 = some (.lst ws) ∧ ws.length = i ∧ ∀ v ∈ ws, Item K H5 v)
                  ⟨same_upd hD2, [], upd_same, rfl, fun v hv => by cases hv⟩ (fun i H5 _ h => SqL.of (h.1 _ _ (s4 _ _ hvs))) ?_ ?_
                · rintro i x H5 H6 hi ⟨s5, ws2, hws2, hwl2, hwi2⟩ ⟨rfl, hx⟩
                  refine ⟨rfl, tYes_k ⟨_, rfl, two1, fun t m => ?_⟩⟩
                  have x1 := same_upd (o := .tup [.str "two", x]) m
                  have hws1 := x1 _ _ hws2
                  have hm : Mut ((upd H6 t (.tup [.str "two", x])) D2) := by rw [hws1]; exact True.intro
                  have nw : Item K (upd H6 t (.tup [.str "two", x])) (.ref t) := ⟨t, x, rfl, .inr ⟨SqT.of upd_same, (hvp x (List.mem_of_getElem? hx)).tr (tr_same ((s4.trans s5).trans x1))⟩⟩
                  refine ⟨_, hws1, small_lt (by omega), same_put (s5.trans x1) hD2, ws2 ++ [.ref t], upd_same, by rw [List.length_append, hwl2]; rfl, fun v hv => ?_⟩
                  rcases List.mem_append.mp hv with h | h
                  · exact (hwi2 v h).tr ((tr_same x1).trans (tr_chg hm))
                  · rw [List.mem_singleton.mp h]
                    exact nw.tr (tr_chg hm)
                · rintro H5 ⟨s5, ws2, hws2, hwl2, hwi2⟩
                  have s35 := s4.trans s5
                  refine ⟨D, D2, _, _, rfl, rfl, s5 _ _ hws, hws2, small_line (by omega), fun p np => ?_⟩
                  have x1 := same_upd (o := .lst (ws ++ ws2)) np
                  have s36 := s35.trans x1
                  refine q _ p (but_same b3 s36) (h3.same s36) ((h3.same s35).ne np) ⟨_, upd_same, by rw [List.length_append]; omega, fun v hv => ?_⟩
                  rcases List.mem_append.mp hv with h | h
                  · exact (hwi v h).tr (tr_same (s5.trans x1))
                  · exact (hwi2 v h).tr (tr_same x1)
end
end K11
set_option Elab.async false
set_option linter.all false
set_option maxRecDepth 100000
set_option maxHeartbeats 4000000
namespace K11
open PySem PySem.Spec PyProof.Rows L2
/-! ### written data -/
/-- what is new in H' is still there -/
def NewKept (H H' H'' : Hp) : Prop := ∀ b o, H b = none → H' b = some o → H'' b = some o
theorem nk_self {H H' : Hp} : NewKept H H' H' := fun _ _ _ e => e
theorem nk_fst {H H1 H2 H'' : Hp} (s : Same H1 H2) (k : NewKept H H2 H'') : NewKept H H1 H'' := fun b o n e => k b o n (s _ _ e)
theorem nk_snd {H H1 H2 H'' : Hp} (s : Same H H1) (k : NewKept H H2 H'') : NewKept H1 H2 H'' := fun b o n e => k b o (s.free n) e
theorem nk_but {H H' H1 H'' : Hp} {st : Addr} (hst : ∃ ys, H st = some (.lst ys)) (s : Same H' H1) (sb : SameBut1 st H1 H'') : NewKept H H' H'' := fun b o n e => sb b o (s _ _ e) (fun z => by
  obtain ⟨ys, h⟩ := hst
  rw [z, h] at n
  cases n)
def tD (K : PySem.W.Frag) (d : PyData) : TE := fun _ H Q => ∀ v H', Same H H' → (∀ H'', NewKept H H' H'' → Dp K H'' v d) → Q v H'
def taD (K : PySem.W.Frag) (ds : List PyData) : TA := fun _ H Q => ∀ vs H', Same H H' → vs.length = ds.length → (∀ H'', NewKept H H' H'' → DpAll K H'' vs ds) → Q vs H'
theorem dpa_app {K : PySem.W.Frag} {H : Hp} : ∀ {xs ys : List V} {ds es : List PyData}, DpAll K H xs ds → DpAll K H ys es → DpAll K H (xs ++ ys) (ds ++ es)
  | [], _, [], _, _, h => h
  | [], _, _ :: _, _, h, _ => by cases h
  | _ :: _, _, [], _, h, _ => by cases h
  | _ :: _, _, _ :: _, _, h, h2 => by
    cases h with
    | cons a b => exact .cons a (dpa_app b h2)
theorem dpa_rep {K : PySem.W.Frag} {H : Hp} {xs : List V} {ds : List PyData} (h : DpAll K H xs ds) : ∀ n : Nat, DpAll K H (List.replicate n xs).flatten (List.replicate n ds).flatten
  | 0 => .nil
  | n + 1 => by
    rw [List.replicate_succ, List.flatten_cons, List.replicate_succ, List.flatten_cons]
    exact dpa_app h (dpa_rep h n)
section
variable {X : Cx} {K : PySem.W.Frag} {e : Expr} {es : List Expr} {t t' : TE} {pos : Pos} {d : PyData} {ds : List PyData}
theorem pe_weak (h : PE X e t) (i : ∀ σ H Q, t' σ H Q → t σ H Q) : PE X e t' := ⟨fun pins s σ H Q I hw => h.run pins s σ H Q I (i σ H Q hw)⟩
theorem pa_weak {t t' : TA} (h : PA X es t) (i : ∀ σ H Q, t' σ H Q → t σ H Q) : PA X es t' := ⟨fun pos pins s σ H Q I hw => h.run pos pins s σ H Q I (i σ H Q hw)⟩
theorem pd_int {i : Int} {j pos} : PE X (.Constant (.int i) j pos) (tD X.K (.int i)) := pe_weak pe_int fun _ H _ h => h _ H (Same.refl H) fun _ _ => .int i
theorem pd_bl {b j pos} : PE X (.Constant (.bool b) j pos) (tD X.K (.bool b)) := pe_weak pe_bl fun _ H _ h => h _ H (Same.refl H) fun _ _ => .bl b
theorem pd_non {j pos} : PE X (.Constant .none j pos) (tD X.K .none) := pe_weak pe_non fun _ H _ h => h _ H (Same.refl H) fun _ _ => .non
theorem pd_str {x j pos} : PE X (.Constant (.str x) j pos) (tD X.K (.str x)) := pe_weak pe_str fun _ H _ h => h _ H (Same.refl H) fun _ _ => .str x
theorem pd_neg {i : Int} {j pos pos'} : PE X (.UnaryOp .USub (.Constant (.int i) j pos) pos') (tD X.K (.int (-i))) := pe_weak (pe_un un_neg pe_int) fun _ H _ h => ⟨i, rfl, h _ H (Same.refl H) fun _ _ => .int (-i)⟩
theorem pd_nil : PA X [] (taD X.K []) := pa_weak pa_nil fun _ H _ h => h [] H (Same.refl H) rfl fun _ _ => .nil
theorem pd_cons (h : PE X e (tD X.K d)) (hr : PA X es (taD X.K ds)) (hs : starEach (e :: es) X.env = (false, eval e X.env) :: starEach es X.env := by rfl) : PA X (e :: es) (taD X.K (d :: ds)) :=
  pa_weak (pa_cons h hr hs) fun σ H Q q => fun v H1 s1 hv => fun vs H2 s2 hl hvs => q (v :: vs) H2 (s1.trans s2) (by rw [List.length_cons, List.length_cons, hl]) fun H'' k => .cons (hv H'' (nk_fst s2 k)) (hvs H'' (nk_snd s1 k))
theorem pd_tup {x1} (h : PA X es (taD X.K ds)) (hl : ds.length ≤ 1000 := by decide) : PE X (.Tuple es x1 pos) (tD X.K (.tuple ds)) :=
  pe_weak (pe_tup h) fun σ H Q q => fun vs H1 s1 e hvs => ⟨small_line (by omega), fun p hp => q _ _ (s1.trans (same_upd hp)) fun H'' k => .tup (SqT.of (k p _ (s1.free hp) upd_same)) (hvs H'' (nk_fst (same_upd hp) k))⟩
theorem pd_lst (h : PA X es (taD X.K ds)) (hl : ds.length ≤ 1000 := by decide) : PE X (.List es pos) (tD X.K (.list ds)) :=
  pe_weak (pe_lst h) fun σ H Q q => fun vs H1 s1 e hvs => ⟨small_line (by omega), fun p hp => q _ _ (s1.trans (same_upd hp)) fun H'' k => .lst (SqL.of (k p _ (s1.free hp) upd_same)) (hvs H'' (nk_fst (same_upd hp) k))⟩
theorem pd_rep {x1} {n : Int} {j pos pos' pos''} (h : PA X es (taD X.K ds)) (hl : ds.length ≤ 1000 := by decide) (h0 : 0 < ds.length := by decide) (h1 : 2 ≤ n := by decide) (h2 : n ≤ 1000 := by decide) :
    PE X (.BinOp (.Tuple es x1 pos) .Mult (.Constant (.int n) j pos') pos'') (tD X.K (.tuple (List.replicate n.toNat ds).flatten)) :=
  pe_weak (pe_op op_repT (pe_tup h) pe_int) fun σ H Q q => fun vs H1 s1 e hvs => ⟨small_line (by omega), fun p hp => ⟨p, n, vs, rfl, rfl, SqT.of upd_same, (fun z => by rw [z] at e; simp at e; omega), h1, h2, by omega, fun p2 hp2 =>
    q _ _ ((s1.trans (same_upd hp)).trans (same_upd hp2)) fun H'' k => .tup (SqT.of (k p2 _ ((s1.trans (same_upd hp)).free hp2) upd_same)) (dpa_rep (hvs H'' (nk_fst ((same_upd hp).trans (same_upd hp2)) k)) _)⟩⟩
end
/-! ### the odd values -/
def shortD : PyData → Bool
  | .tuple [_, .tuple ds] => ds.all fun e => match e with | .str x => decide (x.length ≤ 1000) | _ => true
  | _ => true
theorem shortD_of {d : PyData} (h : shortD d = true) : ∀ e ds x, d = .tuple [e, .tuple ds] → PyData.str x ∈ ds → x.length ≤ 1000 := by
  intro e ds x rfl hx
  have := List.all_eq_true.mp h (.str x) hx
  exact of_decide_eq_true this
abbrev wordsC : List S := [[97], [97, 98], [98, 97]]
abbrev plainC : List S := [[97, 98], [99, 97]]
abbrev ti (a b : Int) : PyData := .tuple [.int a, .int b]
abbrev two' (d : PyData) : PyData := .tuple [.str "two", d]
abbrev odd1 : List PyData := [.none, .str "two", .tuple [.str "two"], .list [.str "two", .tuple [ti 0 2, ti 1 0]], two' (.list [ti 0 2, ti 1 0]), two' (.tuple [.list [.int 0, .int 2], ti 1 0]), two' (.tuple [ti 0 2, .tuple [.bool true, .int 0]]), two' (.tuple [ti 0 3, ti 1 0])]
abbrev odd2 : List PyData := [two' (.tuple [ti 0 2]), two' (.tuple [ti 0 2, ti 1 0, ti 1 0]), two' (.tuple [.tuple [.int 0, .int (-1)], ti 1 0]), .tuple [.str "both", .tuple [ti 0 2, ti 1 0]], .tuple [.none, .tuple []], two' .none]
abbrev odd3 : List PyData := [two' (.tuple [.tuple (List.replicate (51 : Int).toNat [.int 0, .int 2]).flatten, .tuple (List.replicate (51 : Int).toNat [.int 1, .int 0]).flatten]), .tuple [.str "unique", .tuple [.str "b"]], .tuple [.str "unique", .none], .tuple [.str "unique", .list [.str "a", .str "b"]], .tuple [.str "unique", .tuple [.str "a", .str "b"]], two' (.tuple [.tuple [.int 0, .none], ti 1 0])]
abbrev strange : List PyData := [.tuple [.str ""], .tuple [.int 1], .tuple [.str "a", .str "a"], .tuple [.str "b", .str "a"], .tuple [.str "aaaaaa"], .tuple [.str "x"], .tuple [.none], .list [.str "b"], .str "b"]
theorem odd_no : ((odd1 ++ odd2) ++ odd3).all (fun d => shortD d && !acceptsM wordsC d) = true := by decide +kernel
theorem strange_no : strange.all (fun d => shortD (.tuple [.str "unique", d]) && !acceptsM plainC (.tuple [.str "unique", d])) = true := by decide +kernel
abbrev goodT : PyData := two' (.tuple [.tuple (List.replicate (50 : Int).toNat [.int 0, .int 2]).flatten, .tuple (List.replicate (50 : Int).toNat [.int 1, .int 0]).flatten])
abbrev goodU : PyData := .tuple [.str "unique", .tuple [.str "b", .str "bbbbb"]]
theorem good_yes : (shortD goodT && acceptsM wordsC goodT && shortD goodU && acceptsM plainC goodU) = true := by decide +kernel
theorem words_eq : [V.str "a", V.str "ab", V.str "ba"] = wordsC.map Sv := by
  have h1 : ("a" : Str) = mk [97] := by decide +kernel
  have h2 : ("ab" : Str) = mk [97, 98] := by decide +kernel
  have h3 : ("ba" : Str) = mk [98, 97] := by decide +kernel
  rw [h1, h2, h3]
  rfl
theorem plain_eq : [V.str "ab", V.str "ca"] = plainC.map Sv := by
  have h2 : ("ab" : Str) = mk [97, 98] := by decide +kernel
  have h3 : ("ca" : Str) = mk [99, 97] := by decide +kernel
  rw [h2, h3]
  rfl
theorem words_ok : CodeOk wordsC := ⟨by decide, by decide, by decide⟩
theorem plain_ok : CodeOk plainC := ⟨by decide, by decide, by decide⟩
end K11
set_option Elab.async false
set_option linter.all false
set_option maxRecDepth 100000
set_option maxHeartbeats 4000000
namespace K11
open PySem PySem.Spec PyProof.Rows L2
theorem closed_no {code xs : List S} (h : closedM code (.tuple (strD xs)) = true) : ([] : S) ∉ rowAt code 400 := by
  rw [closedM_t, Bool.and_eq_true] at h
  exact closed_sound h.2 400
theorem okN_iff {n : Nat} {ks : List Nat} (h : okN n ks = true) : ∀ k ∈ ks, k < n := by
  unfold okN at h
  rw [Bool.and_eq_true] at h
  exact fun k hk => of_decide_eq_true (List.all_eq_true.mp h.2 k hk)
theorem two_yes {code : List S} (ok : CodeOk code) {ns ms : List Nat} (h : twoM code (pairD ns ms) = true) : ([] : S) ∈ rowAt code 400 := by
  rw [twoM_t] at h
  simp only [Bool.and_eq_true, decide_eq_true_eq, Bool.not_eq_true', decide_eq_false_iff_not] at h
  obtain ⟨⟨⟨h1, h2⟩, h3⟩, h4⟩ := h
  exact two_sound (fun w hw => memS_ne (ok.word w hw)) (Nat.le_trans (rowlen ok.small 400) (by decide)) (okN_iff h1) (okN_iff h2) h3 h4
section
variable {P : Program} {w : World} {K : PySem.W.Frag} {mg : Str → Option Value} {base : Heap}
abbrev nLaw : List Str := ["_law_script", "_law_stream_here", "_law_letters_here", "_law_code_here", "_law_word", "_law_value", "_law_due", "_law_words", "_law_odd", "_law_plain", "_law_strange", "_law_good"]
def spLaw (K : PySem.W.Frag) : Sp := fun vs H Q _ => ∃ (a : Addr) (ns : List Int), vs = [.ref a] ∧ SqL K H a (ns.map V.int) ∧ ns.length ≤ 63 ∧ ∀ H', Q (.bl true) H'
theorem scLaw : FnScope nLaw ["_law_script"] (defScope sLaw) := ⟨rfl, rfl, rfl, by decide +kernel, rfl, by decide +kernel, by decide +kernel⟩
theorem ok_law {f : Addr} {fd : FuncData} (F : Fun K "law" "law" sLaw f fd) (T : Glo mg) (A0 : Kn P w K mg base 1 "_law_stream" ["_law_script"] (spStream K)) (A1 : Kn P w K mg base 2 "_law_letters" ["_law_stream_here"] spLLetters)
    (A2 : Kn P w K mg base 2 "_law_code" ["_law_stream_here", "_law_letters_here", "_law_words", "_law_most"] (spLCode K)) (A3 : Kn P w K mg base 5 "_law_values" ["_law_stream_here", "_law_code_here", "_law_letters_here"] (spLValues K))
    (A4 : Kn P w K mg base 2 "_law_is_closed" ["_law_code_here", "_law_value"] (spLClosed K)) (A5 : Kn P w K mg base 2 "_law_are_two" ["_law_code_here", "_law_value"] (spLTwo K))
    (A6 : Kn P w K mg base 1 "_law_equal" ["_law_actual", "_law_due"] spEqual) (A7 : Kn P w K mg base 4 "accepts_unique" ["code", "value"] (spAccepts K))
    (A8 : Kn P w K mg base 2 "_law_rests" ["_law_code_here"] (spLRests K)) (A9 : Kn P w K mg base 1 "_law_next" ["_law_stream_here", "_law_many"] (spNext K)) : FnOk P w K mg base CX0 6 f fd ["_law_script"] (spLaw K) := by
  obtain ⟨f0, fd0, G0, b0, g0, k0⟩ := A0
  obtain ⟨f1, fd1, G1, b1, g1, k1⟩ := A1
  obtain ⟨f2, fd2, G2, b2, g2, k2⟩ := A2
  obtain ⟨f3, fd3, G3, b3, g3, k3⟩ := A3
  obtain ⟨f4, fd4, G4, b4, g4, k4⟩ := A4
  obtain ⟨f5, fd5, G5, b5, g5, k5⟩ := A5
  obtain ⟨f6, fd6, G6, b6, g6, k6⟩ := A6
  obtain ⟨f7, fd7, G7, b7, g7, k7⟩ := A7
  obtain ⟨f8, fd8, G8, b8, g8, k8⟩ := A8
  obtain ⟨f9, fd9, G9, b9, g9, k9⟩ := A9
  refine F.ok scLaw (fun vs H Q E h => ?_) (fun cdv A outer s H vs Q E hr h => ?_)
  · obtain ⟨a, ns, rfl, _⟩ := h
    rfl
  · obtain ⟨a, ns, rfl, ha, hn, q⟩ := h
    have nd := scLaw.nd
    refine ⟨_, (pss_cons (ps_set (i := 1) nd rfl (.inl rfl) (pe_call G0 (hr.mono (by decide)) (by rfl) g0 k0 b0 .nil pass0 (pa_cons (pv 0) pa_nil)))
      (pss_cons (ps_set (i := 2) nd rfl (.inl rfl) (pe_call G1 (hr.mono (by decide)) (by rfl) g1 k1 b1 .nil pass0 (pa_cons (pv 1) pa_nil)))
      (pss_cons (ps_set (i := 3) nd rfl (.inl rfl) (pe_call G2 (hr.mono (by decide)) (by rfl) g2 k2 b2 .nil pass0 (pa_cons (pv 1) (pa_cons (pv 2) (pa_cons pe_int (pa_cons pe_int pa_nil))))))
      (pss_cons (ps_for PassesOwn.never rfl (pi_list (pe_call G3 hr (by rfl) g3 k3 b3 .nil pass0 (pa_cons (pv 1) (pa_cons (pv 3) (pa_cons (pv 2) pa_nil))))) (pg_tup rfl (pgs_cons (pg_name (i := 4) nd rfl (.inl rfl)) (pgs_cons (pg_name (i := 5) nd rfl (.inl rfl)) pgs_nil))) (pss_cons (ps_if (pt_cmpR op_eq (pv 4) pe_str (nomark _)) (pss_one (ps_set (i := 6) nd rfl (.inl rfl) (pe_call G4 (hr.mono (by decide)) (by rfl) g4 k4 b4 .nil pass0 (pa_cons (pv 3) (pa_cons (pv 5) pa_nil))))) (pss_one (ps_set (i := 6) nd rfl (.inl rfl) (pe_call G5 (hr.mono (by decide)) (by rfl) g5 k5 b5 .nil pass0 (pa_cons (pv 3) (pa_cons (pv 5) pa_nil))))))
      (pss_cons (ps_if (pt_not (pt_val (pe_call G6 (hr.mono (by decide)) (by rfl) g6 k6 b6 .nil pass0 (pa_cons (pe_call G7 (hr.mono (by decide)) (by rfl) g7 k7 b7 .nil pass0 (pa_cons (pv 3) (pa_cons (pe_tup (pa_cons (pv 4) (pa_cons (pv 5) pa_nil))) pa_nil))) (pa_cons (pv 6) pa_nil))))) (pss_one (ps_ret pe_bl)) pss_nil)
      (pss_one (ps_if (PW.pt (pw_and (pt_val (pv 6)) (pw_and1 (pt_cmpR op_ne (pe_cmpR (r := rIn K true) op_notIn_seq pe_str (pe_call G8 (hr.mono (by decide)) (by rfl) g8 k8 b8 .nil pass0 (pa_cons (pv 3) pa_nil)) (by rfl)) (pe_cmpR op_eq (pv 4) pe_str (nomark _)) (nomark _))))) (pss_one (ps_ret pe_bl)) pss_nil)))))
      (pss_cons (ps_set (i := 7) nd rfl (.inl rfl) (pe_tup (pa_cons pe_str (pa_cons pe_str (pa_cons pe_str pa_nil)))))
      (pss_cons (ps_set (i := 8) nd rfl (.inl rfl) (pe_lst (pd_cons pd_non (pd_cons pd_str (pd_cons (pd_tup (pd_cons pd_str pd_nil)) (pd_cons (pd_lst (pd_cons pd_str (pd_cons (pd_tup (pd_cons (pd_tup (pd_cons pd_int (pd_cons pd_int pd_nil))) (pd_cons (pd_tup (pd_cons pd_int (pd_cons pd_int pd_nil))) pd_nil))) pd_nil))) (pd_cons (pd_tup (pd_cons pd_str (pd_cons (pd_lst (pd_cons (pd_tup (pd_cons pd_int (pd_cons pd_int pd_nil))) (pd_cons (pd_tup (pd_cons pd_int (pd_cons pd_int pd_nil))) pd_nil))) pd_nil))) (pd_cons (pd_tup (pd_cons pd_str (pd_cons (pd_tup (pd_cons (pd_lst (pd_cons pd_int (pd_cons pd_int pd_nil))) (pd_cons (pd_tup (pd_cons pd_int (pd_cons pd_int pd_nil))) pd_nil))) pd_nil))) (pd_cons (pd_tup (pd_cons pd_str (pd_cons (pd_tup (pd_cons (pd_tup (pd_cons pd_int (pd_cons pd_int pd_nil))) (pd_cons (pd_tup (pd_cons pd_bl (pd_cons pd_int pd_nil))) pd_nil))) pd_nil))) (pd_cons (pd_tup (pd_cons pd_str (pd_cons (pd_tup (pd_cons (pd_tup (pd_cons pd_int (pd_cons pd_int pd_nil))) (pd_cons (pd_tup (pd_cons pd_int (pd_cons pd_int pd_nil))) pd_nil))) pd_nil))) pd_nil))))))))))
      (pss_cons (ps_set (i := 8) nd rfl (.inl rfl) (pe_op op_cat (pv 8) (pe_lst (pd_cons (pd_tup (pd_cons pd_str (pd_cons (pd_tup (pd_cons (pd_tup (pd_cons pd_int (pd_cons pd_int pd_nil))) pd_nil)) pd_nil))) (pd_cons (pd_tup (pd_cons pd_str (pd_cons (pd_tup (pd_cons (pd_tup (pd_cons pd_int (pd_cons pd_int pd_nil))) (pd_cons (pd_tup (pd_cons pd_int (pd_cons pd_int pd_nil))) (pd_cons (pd_tup (pd_cons pd_int (pd_cons pd_int pd_nil))) pd_nil)))) pd_nil))) (pd_cons (pd_tup (pd_cons pd_str (pd_cons (pd_tup (pd_cons (pd_tup (pd_cons pd_int (pd_cons pd_neg pd_nil))) (pd_cons (pd_tup (pd_cons pd_int (pd_cons pd_int pd_nil))) pd_nil))) pd_nil))) (pd_cons (pd_tup (pd_cons pd_str (pd_cons (pd_tup (pd_cons (pd_tup (pd_cons pd_int (pd_cons pd_int pd_nil))) (pd_cons (pd_tup (pd_cons pd_int (pd_cons pd_int pd_nil))) pd_nil))) pd_nil))) (pd_cons (pd_tup (pd_cons pd_non (pd_cons (pd_tup pd_nil) pd_nil))) (pd_cons (pd_tup (pd_cons pd_str (pd_cons pd_non pd_nil))) pd_nil)))))))))
      (pss_cons (ps_set (i := 8) nd rfl (.inl rfl) (pe_op op_cat (pv 8) (pe_lst (pd_cons (pd_tup (pd_cons pd_str (pd_cons (pd_tup (pd_cons (pd_rep (pd_cons pd_int (pd_cons pd_int pd_nil))) (pd_cons (pd_rep (pd_cons pd_int (pd_cons pd_int pd_nil))) pd_nil))) pd_nil))) (pd_cons (pd_tup (pd_cons pd_str (pd_cons (pd_tup (pd_cons pd_str pd_nil)) pd_nil))) (pd_cons (pd_tup (pd_cons pd_str (pd_cons pd_non pd_nil))) (pd_cons (pd_tup (pd_cons pd_str (pd_cons (pd_lst (pd_cons pd_str (pd_cons pd_str pd_nil))) pd_nil))) (pd_cons (pd_tup (pd_cons pd_str (pd_cons (pd_tup (pd_cons pd_str (pd_cons pd_str pd_nil))) pd_nil))) (pd_cons (pd_tup (pd_cons pd_str (pd_cons (pd_tup (pd_cons (pd_tup (pd_cons pd_int (pd_cons pd_non pd_nil))) (pd_cons (pd_tup (pd_cons pd_int (pd_cons pd_int pd_nil))) pd_nil))) pd_nil))) pd_nil)))))))))
      (pss_cons (ps_if (pt_not (pt_val (pe_call G6 (hr.mono (by decide)) (by rfl) g6 k6 b6 .nil pass0 (pa_cons (pe_call G7 (hr.mono (by decide)) (by rfl) g7 k7 b7 .nil pass0 (pa_cons (pv 7) (pa_cons (pe_ix (r := rIxL K) ix_list (pv 8) (pe_call G9 (hr.mono (by decide)) (by rfl) g9 k9 b9 .nil pass0 (pa_cons (pv 1) (pa_cons pe_int pa_nil))) (fun _ _ => rfl)) pa_nil))) (pa_cons pe_bl pa_nil))))) (pss_one (ps_ret pe_bl)) pss_nil)
      (pss_cons (ps_set (i := 9) nd rfl (.inl rfl) (pe_tup (pa_cons pe_str (pa_cons pe_str pa_nil))))
      (pss_cons (ps_set (i := 10) nd rfl (.inl rfl) (pe_lst (pd_cons (pd_tup (pd_cons pd_str pd_nil)) (pd_cons (pd_tup (pd_cons pd_int pd_nil)) (pd_cons (pd_tup (pd_cons pd_str (pd_cons pd_str pd_nil))) (pd_cons (pd_tup (pd_cons pd_str (pd_cons pd_str pd_nil))) (pd_cons (pd_tup (pd_cons pd_str pd_nil)) (pd_cons (pd_tup (pd_cons pd_str pd_nil)) (pd_cons (pd_tup (pd_cons pd_non pd_nil)) (pd_cons (pd_lst (pd_cons pd_str pd_nil)) (pd_cons pd_str pd_nil)))))))))))
      (pss_cons (ps_if (pt_not (pt_val (pe_call G6 (hr.mono (by decide)) (by rfl) g6 k6 b6 .nil pass0 (pa_cons (pe_call G7 (hr.mono (by decide)) (by rfl) g7 k7 b7 .nil pass0 (pa_cons (pv 9) (pa_cons (pe_tup (pa_cons pe_str (pa_cons (pe_ix (r := rIxL K) ix_list (pv 10) (pe_call G9 (hr.mono (by decide)) (by rfl) g9 k9 b9 .nil pass0 (pa_cons (pv 1) (pa_cons pe_int pa_nil))) (fun _ _ => rfl)) pa_nil))) pa_nil))) (pa_cons pe_bl pa_nil))))) (pss_one (ps_ret pe_bl)) pss_nil)
      (pss_cons (ps_set (i := 11) nd rfl (.inl rfl) (pe_call G6 (hr.mono (by decide)) (by rfl) g6 k6 b6 .nil pass0 (pa_cons (pe_call G7 (hr.mono (by decide)) (by rfl) g7 k7 b7 .nil pass0 (pa_cons (pv 7) (pa_cons (pd_tup (pd_cons pd_str (pd_cons (pd_tup (pd_cons (pd_rep (pd_cons pd_int (pd_cons pd_int pd_nil))) (pd_cons (pd_rep (pd_cons pd_int (pd_cons pd_int pd_nil))) pd_nil))) pd_nil))) pa_nil))) (pa_cons pe_bl pa_nil))))
      (pss_one (ps_ret (pe_and (pv 11) (pe_one (pe_call G6 (hr.mono (by decide)) (by rfl) g6 k6 b6 .nil pass0 (pa_cons (pe_call G7 (hr.mono (by decide)) (by rfl) g7 k7 b7 .nil pass0 (pa_cons (pv 9) (pa_cons (pd_tup (pd_cons pd_str (pd_cons (pd_tup (pd_cons pd_str (pd_cons pd_str pd_nil))) pd_nil))) pa_nil))) (pa_cons pe_bl pa_nil)))))))))))))))))))), ?_⟩
    have two1 : (2 : Nat) ≤ sizeLine := small_line (by decide)
    refine ⟨_, rfl, a, ns, rfl, ha, hn, fun H1 st sl s1 h1 => ?_⟩
    refine ⟨_, rfl, st, sl, rfl, h1, fun z H2 hz sb2 h2 => ?_⟩
    refine ⟨_, rfl, _, rfl, st, sl, z, rfl, h2, hz, fun H3 c code sb3 h3 hC ok => ?_⟩
    have sm := ok.small
    refine ⟨_, rfl, _, rfl, _, rfl, st, sl, c, code, z, rfl, h3, hC, ok, hz, fun H4 p sb4 h4 hps hL => ?_⟩
    obtain ⟨vs, hvs, hvl, hvi⟩ := hL
    have hC4 := SameBut1.tup sb4 h3.lst hC
    refine ⟨p, rfl, ⟨_, SqL.of hvs⟩, for_it (walk_list (xs := vs)) (fun i σ H5 => ∃ y4 y5 y6, σ = [some (.ref a), some (.ref st), some (Sv z), some (.ref c), y4, y5, y6, none, none, none, none, none] ∧ Same H4 H5)
       ⟨none, none, none, rfl, Same.refl H4⟩ (fun i σ H5 _ ⟨_, _, _, _, s5⟩ => SqL.of (s5 _ _ hvs)) ?_ ?_⟩
    · rintro i x σ H5 H6 hi ⟨y4, y5, y6, rfl, s5⟩ ⟨rfl, hx⟩
      have hit := (hvi x (List.mem_of_getElem? hx)).tr (tr_same s5)
      have hC6 := Same.tup s5 hC4
      obtain ⟨t, y, rfl, ⟨ht, a2, xs, rfl, hxs, hxl, hx1⟩ | ⟨ht, b, f', g', ns', ms', rfl, hb, hf, hg⟩⟩ := hit
      · refine ⟨t, _, rfl, ht, rfl, _, _, rfl, _, _, rfl, rfl, ?_⟩
        refine ⟨_, rfl, rfl, _, rfl, iteDT rfl ?_⟩
        refine ⟨_, rfl, _, rfl, c, a2, code, xs, rfl, hC6, sm, hxs, hxl, hx1, fun H7 s7 => ?_⟩
        have hC7 := Same.tup s7 hC6
        refine ⟨_, rfl, _, rfl, _, rfl, two1, fun q1 n1 => ?_⟩
        have sq := same_upd (o := .tup [.str "unique", .ref a2]) n1
        refine ⟨c, .ref q1, code, .tuple [.str "unique", .tuple (strD xs)], rfl, Same.tup sq hC7, ok, .tup (SqT.of upd_same) (.cons (.str _) (.cons (.tup (Same.tup (s7.trans sq) hxs) (dp_strs xs)) .nil)), ?_, fun H8 s8 => ?_⟩
        · rintro e ds x h hm
          injection h with h
          injection h with h1 h2
          injection h2 with h2
          injection h2 with h2
          rw [← h2] at hm
          obtain ⟨r, hr, er⟩ := List.mem_map.mp hm
          injection er with er
          rw [← er, mk_len]
          exact hx1 r hr
        have ea : acceptsM code (.tuple [.str "unique", .tuple (strD xs)]) = closedM code (.tuple (strD xs)) := by
          show (if ("unique" : Str) = "unique" then closedM code (.tuple (strD xs)) else decide (("unique" : Str) = "two") && twoM code (.tuple (strD xs))) = _
          rw [if_pos rfl]
        rw [ea]
        have s58 := (s5.trans s7).trans (sq.trans s8)
        refine ⟨_, rfl, _, _, rfl, _, rfl, ?_⟩
        rw [show (closedM code (.tuple (strD xs)) == closedM code (.tuple (strD xs))) = true by simp]
        refine iteF ⟨_, rfl, _, rfl, ?_⟩
        cases hcl : closedM code (.tuple (strD xs)) with
        | false => exact iteF ⟨_, _, _, rfl, s58⟩
        | true =>
          refine iteT ⟨_, rfl, c, code, rfl, Same.tup (sq.trans s8) hC7, sm, fun H9 a9 zs s9 h9 hasc hmem => ⟨a9, _, rfl, .inr h9, rfl, flat_sv _, _, rfl, rfl, rfl, _, rfl, ?_⟩⟩
          have e9 : inV (V.str "") (zs.map Sv) = false := by
            rw [show (V.str "") = Sv [] from rfl, in_sv]
            exact decide_eq_false fun h => closed_no hcl ((hmem []).mp h)
          refine iteNS ?_ ⟨_, _, _, rfl, s58.trans s9⟩
          rw [if_pos rfl, e9, decide_eq_true (rfl : V.str "unique" = V.str "unique")]
          rfl
      · refine ⟨t, _, rfl, ht, rfl, _, _, rfl, _, _, rfl, rfl, ?_⟩
        have hne : ¬ (V.str "two" = V.str "unique") := fun e => absurd (V.str.inj e) (by decide +kernel)
        refine ⟨_, rfl, rfl, _, rfl, iteDF hne ?_⟩
        refine ⟨_, rfl, _, rfl, c, b, f', g', code, ns', ms', rfl, hC6, sm, hb, hf, hg, fun H7 s7 => ?_⟩
        have hC7 := Same.tup s7 hC6
        refine ⟨_, rfl, _, rfl, _, rfl, two1, fun q1 n1 => ?_⟩
        have sq := same_upd (o := .tup [.str "two", .ref b]) n1
        have s7q := s7.trans sq
        refine ⟨c, .ref q1, code, .tuple [.str "two", pairD ns' ms'], rfl, Same.tup sq hC7, ok, .tup (SqT.of upd_same) (.cons (.str _) (.cons (.tup (Same.tup s7q hb) (.cons (.tup (Same.tup s7q hf) (dp_ints _)) (.cons (.tup (Same.tup s7q hg) (dp_ints _)) .nil))) .nil)), ?_, fun H8 s8 => ?_⟩
        · rintro e ds x h hm
          injection h with h
          injection h with h1 h2
          injection h2 with h2
          injection h2 with h2
          rw [← h2] at hm
          simp at hm
        have ea : acceptsM code (.tuple [.str "two", pairD ns' ms']) = twoM code (pairD ns' ms') := by
          show (if ("two" : Str) = "unique" then closedM code (pairD ns' ms') else decide (("two" : Str) = "two") && twoM code (pairD ns' ms')) = _
          rw [if_neg (fun e => hne (by rw [e])), decide_eq_true rfl, Bool.true_and]
        rw [ea]
        have s58 := (s5.trans s7).trans (sq.trans s8)
        refine ⟨_, rfl, _, _, rfl, _, rfl, ?_⟩
        rw [show (twoM code (pairD ns' ms') == twoM code (pairD ns' ms')) = true by simp]
        refine iteF ⟨_, rfl, _, rfl, ?_⟩
        cases hcl : twoM code (pairD ns' ms') with
        | false => exact iteF ⟨_, _, _, rfl, s58⟩
        | true =>
          refine iteT ⟨_, rfl, c, code, rfl, Same.tup (sq.trans s8) hC7, sm, fun H9 a9 zs s9 h9 hasc hmem => ⟨a9, _, rfl, .inr h9, rfl, flat_sv _, _, rfl, rfl, rfl, _, rfl, ?_⟩⟩
          have e9 : inV (V.str "") (zs.map Sv) = true := by
            rw [show (V.str "") = Sv [] from rfl, in_sv]
            exact decide_eq_true ((hmem []).mpr (two_yes ok hcl))
          refine iteNS ?_ ⟨_, _, _, rfl, s58.trans s9⟩
          rw [if_pos rfl, e9, decide_eq_false hne]
          rfl
    · rintro σ H5 ⟨y4, y5, y6, rfl, s5⟩
      have h5 := h4.same s5
      refine ⟨small_line (by show 3 ≤ 100000; decide), fun wp nwp => ?_⟩
      have sw := same_upd (o := .tup [.str "a", .str "ab", .str "ba"]) nwp
      have hW : SqT K (upd H5 wp (.tup [.str "a", .str "ab", .str "ba"])) wp (wordsC.map Sv) := by
        rw [← words_eq]
        exact SqT.of upd_same
      have h6 := h5.same sw
      generalize upd H5 wp (.tup [.str "a", .str "ab", .str "ba"]) = H6 at hW h6 ⊢
      refine fun vs1 H7 s7 l1 d1 => ⟨small_line (by rw [l1]; decide), fun o1 no1 => ?_⟩
      have t1 := same_upd (o := .lst vs1) no1
      refine ⟨_, rfl, fun vs2 H8 s8 l2 d2 => ⟨small_line (by rw [l2]; decide), fun o2 no2 => ?_⟩⟩
      have t2 := same_upd (o := .lst vs2) no2
      refine ⟨o1, o2, vs1, vs2, rfl, rfl, t2 _ _ (s8 _ _ upd_same), upd_same, small_line (by rw [l1, l2]; decide), fun o3 no3 => ?_⟩
      have t3 := same_upd (o := .lst (vs1 ++ vs2)) no3
      refine ⟨_, rfl, fun vs3 H9 s9 l3 d3 => ⟨small_line (by rw [l3]; decide), fun o4 no4 => ?_⟩⟩
      have t4 := same_upd (o := .lst vs3) no4
      refine ⟨o3, o4, vs1 ++ vs2, vs3, rfl, rfl, t4 _ _ (s9 _ _ upd_same), upd_same, small_line (by rw [List.length_append, l1, l2, l3]; decide), fun o5 no5 => ?_⟩
      have t5 := same_upd (o := .lst ((vs1 ++ vs2) ++ vs3)) no5
      have r9 := s9.trans (t4.trans t5)
      have r8 := s8.trans (t2.trans (t3.trans r9))
      have r7 := s7.trans (t1.trans r8)
      have h10 := h6.same r7
      have o5st : o5 ≠ st := ((h6.same (s7.trans (t1.trans (s8.trans (t2.trans (t3.trans (s9.trans t4))))))).ne no5)
      have eo5 : (upd (upd H9 o4 (.lst vs3)) o5 (.lst ((vs1 ++ vs2) ++ vs3))) o5 = some (.lst ((vs1 ++ vs2) ++ vs3)) := upd_same
      refine ⟨_, rfl, _, rfl, _, rfl, st, sl, 20, rfl, h10, by decide, by decide, fun d H11 hd sb11 h11 => ?_⟩
      have dall : DpAll K H11 ((vs1 ++ vs2) ++ vs3) ((odd1 ++ odd2) ++ odd3) :=
        dpa_app (dpa_app (d1 H11 (nk_but h6.lst (t1.trans r8) sb11)) (d2 H11 (nk_but (h6.same (s7.trans t1)).lst (t2.trans (t3.trans r9)) sb11))) (d3 H11 (nk_but (h6.same (s7.trans (t1.trans (s8.trans (t2.trans t3))))).lst (t4.trans t5) sb11))
      have hlt : d < ((vs1 ++ vs2) ++ vs3).length := by
        rw [DpAll.len dall]
        show d < 20
        omega
      obtain ⟨v, ev⟩ : ∃ v, ((vs1 ++ vs2) ++ vs3)[d]? = some v := ⟨_, List.getElem?_eq_getElem hlt⟩
      obtain ⟨dd, edd, hdd⟩ := DpAll.get dall ev
      have hno := List.all_eq_true.mp odd_no dd (List.mem_of_getElem? edd)
      rw [Bool.and_eq_true] at hno
      have hW11 : SqT K H11 wp (wordsC.map Sv) := SameBut1.tup sb11 h10.lst (Same.tup r7 hW)
      refine ⟨o5, _, _, v, rfl, rfl, SqL.of (sb11 _ _ eo5 o5st), atI_nat ev, wp, v, wordsC, dd, rfl, hW11, words_ok, hdd, shortD_of hno.1, fun H12 s12 => ⟨_, _, rfl, _, rfl, ?_⟩⟩
      have e12 : acceptsM wordsC dd = false := by
        cases e : acceptsM wordsC dd with
        | false => rfl
        | true =>
          have := hno.2
          rw [e] at this
          cases this
      rw [e12]
      refine iteF ?_
      have gy := good_yes
      simp only [Bool.and_eq_true] at gy
      obtain ⟨⟨⟨gy1, gy2⟩, gy3⟩, gy4⟩ := gy
      have h12 := h11.same s12
      have hW12 := Same.tup s12 hW11
      refine ⟨two1, fun pl npl => ?_⟩
      have sp := same_upd (o := .tup [.str "ab", .str "ca"]) npl
      have hP : SqT K (upd H12 pl (.tup [.str "ab", .str "ca"])) pl (plainC.map Sv) := by
        rw [← plain_eq]
        exact SqT.of upd_same
      have h13 := h12.same sp
      have hW13 := Same.tup sp hW12
      generalize upd H12 pl (.tup [.str "ab", .str "ca"]) = H13 at hP h13 hW13 ⊢
      refine fun vs4 H14 s14 l4 d4 => ⟨small_line (by rw [l4]; decide), fun o6 no6 => ?_⟩
      have t6 := same_upd (o := .lst vs4) no6
      have s16 := s14.trans t6
      have o6st : o6 ≠ st := (h13.same s14).ne no6
      have eo6 : (upd H14 o6 (.lst vs4)) o6 = some (.lst vs4) := upd_same
      have h16 := h13.same s16
      refine ⟨_, rfl, _, rfl, _, rfl, st, sl, 9, rfl, h16, by decide, by decide, fun d2 H17 hd2 sb17 h17 => ?_⟩
      have dall2 : DpAll K H17 vs4 strange := d4 H17 (nk_but h13.lst t6 sb17)
      have hlt2 : d2 < vs4.length := by
        rw [DpAll.len dall2]
        show d2 < 9
        omega
      obtain ⟨v2, ev2⟩ : ∃ v, vs4[d2]? = some v := ⟨_, List.getElem?_eq_getElem hlt2⟩
      obtain ⟨dd2, edd2, hdd2⟩ := DpAll.get dall2 ev2
      have hno2 := List.all_eq_true.mp strange_no dd2 (List.mem_of_getElem? edd2)
      rw [Bool.and_eq_true] at hno2
      have tr17 := (tr_same (K := K) s16).trans (tr_but sb17 h16.lst)
      have hP17 := tr17 _ _ hP
      have hW17 := tr17 _ _ hW13
      refine ⟨o6, _, _, v2, rfl, rfl, SqL.of (sb17 _ _ eo6 o6st), atI_nat ev2, two1, fun t nt => ?_⟩
      have t7 := same_upd (o := .tup [.str "unique", v2]) nt
      refine ⟨pl, .ref t, plainC, .tuple [.str "unique", dd2], rfl, Same.tup t7 hP17, plain_ok, .tup (SqT.of upd_same) (.cons (.str _) (.cons (Dp.same t7 hdd2) .nil)), shortD_of hno2.1, fun H18 s18 => ⟨_, _, rfl, _, rfl, ?_⟩⟩
      have e18 : acceptsM plainC (.tuple [.str "unique", dd2]) = false := by
        cases e : acceptsM plainC (.tuple [.str "unique", dd2]) with
        | false => rfl
        | true =>
          have := hno2.2
          rw [e] at this
          cases this
      rw [e18]
      refine iteF ?_
      have s718 := t7.trans s18
      have hP18 := Same.tup s718 hP17
      have hW18 := Same.tup s718 hW17
      refine ⟨_, rfl, fun v3 H19 s19 dv3 => ⟨wp, v3, wordsC, goodT, rfl, Same.tup s19 hW18, words_ok, dv3 H19 nk_self, shortD_of gy1, fun H20 s20 => ⟨_, _, rfl, ?_⟩⟩⟩
      rw [gy2]
      refine ⟨_, rfl, true, rfl, iteT ⟨_, rfl, fun v4 H21 s21 dv4 => ⟨pl, v4, plainC, goodU, rfl, Same.tup (s19.trans (s20.trans s21)) hP18, plain_ok, dv4 H21 nk_self, shortD_of gy3, fun H22 s22 => ⟨_, _, rfl, ?_⟩⟩⟩⟩
      rw [gy4]
      exact q H22
end
end K11
set_option Elab.async false
set_option linter.all false
set_option maxRecDepth 100000
set_option maxHeartbeats 4000000
namespace K11
open PySem PySem.Spec PyProof.Rows L2
/-- a def as the top has written it -/
def DefAt (K : PySem.W.Frag) (name : Str) (st : Stmt) : Prop := ∃ (f : Addr) (oc : Value) (od : Option Addr) (sl : Array (Option Value)) (kV dc pm : Value) (an : Option Addr) (cd ct : Value), PySem.W.nsIn K mainGlobals name = some (some (.ref f)) ∧
  K.lookup f = some ⟨oc, od, .func (PySem.W.fnOf name name (defArgs st) (defBody st) (defScope st) .none kV dc pm an cd ct), sl⟩ ∧ PySem.W.codeIn K cd name = true ∧ PySem.W.keepIn K (.ref f) = true
theorem defAt_mk {K : PySem.W.Frag} {name : Str} {st : Stmt} {f : Addr} {oc : Value} {od : Option Addr} {sl : Array (Option Value)} {kV dc pm : Value} {an : Option Addr} {cd ct : Value} (h1 : PySem.W.nsIn K mainGlobals name = some (some (.ref f)))
    (h2 : K.lookup f = some ⟨oc, od, .func (PySem.W.fnOf name name (defArgs st) (defBody st) (defScope st) .none kV dc pm an cd ct), sl⟩) (h3 : PySem.W.codeIn K cd name = true) (h4 : PySem.W.keepIn K (.ref f) = true) : DefAt K name st := ⟨f, oc, od, sl, kV, dc, pm, an, cd, ct, h1, h2, h3, h4⟩
theorem int_mk {K : PySem.W.Frag} {name : Str} {i : Int} {t : Tok} (h : PySem.W.nsIn K mainGlobals name = some (some (.int i t))) : ∃ t, PySem.W.nsIn K mainGlobals name = some (some (.int i t)) := ⟨t, h⟩
theorem str_mk {K : PySem.W.Frag} {name : Str} {i : Str} {t : Tok} (h : PySem.W.nsIn K mainGlobals name = some (some (.str i t))) : ∃ t, PySem.W.nsIn K mainGlobals name = some (some (.str i t)) := ⟨t, h⟩
theorem DefAt.has {K : PySem.W.Frag} {h : Heap} {mg : Str → Option Value} {name : Str} {st : Stmt} (X : K.In h) (G : h.Ns mainGlobals mg) (d : DefAt K name st) {ps : List Str}
    (hb : ∀ (kV doc pm : Value) (an : Option Addr) (cdv ct : Value) (us : List Value), us.length = ps.length → bindArgs (PySem.W.fnOf name name (defArgs st) (defBody st) (defScope st) .none kV doc pm an cdv ct) ⟨us, []⟩ = pure (ps.zip us)) : Has K mg name st ps := by
  obtain ⟨f, oc, od, sl, kV, dc, pm, an, cd, ct, h1, h2, h3, h4⟩ := d
  have F := fun_mk (st := st) h2 h3 h4
  exact ⟨f, _, F, F.binds hb, PySem.W.mg_of X G h1⟩
theorem Has.kn {P : Program} {w : World} {K : PySem.W.Frag} {mg : Str → Option Value} {base : Heap} {k : Nat} {name : Str} {st : Stmt} {ps : List Str} {sp : Sp} (d : Has K mg name st ps) (ok : ∀ f fd, Fun K name name st f fd → FnOk P w K mg base CX0 k f fd ps sp) : Kn P w K mg base k name ps sp := by
  obtain ⟨f, fd, F, b, g⟩ := d
  exact ⟨f, fd, ok f fd F, b, g, F.kp⟩
/-- all that the top has written -/
structure Defs (K : PySem.W.Frag) : Prop where
  d0 : DefAt K "is_spelled" sSpelled
  d1 : DefAt K "is_code" sIsCode
  d2 : DefAt K "check_code" sCheck
  d3 : DefAt K "first_steps" sFirst
  d4 : DefAt K "steps_from" sSteps
  d5 : DefAt K "rests_of" sRests
  d6 : DefAt K "ways_on" sWaysOn
  d7 : DefAt K "first_way" sFirstWay
  d8 : DefAt K "unique_evidence" sEvidence
  d9 : DefAt K "is_member" sMember
  d10 : DefAt K "is_closed" sClosed
  d11 : DefAt K "is_parse" sIsParse
  d12 : DefAt K "are_two_parses" sTwo
  d13 : DefAt K "accepts_unique" sAccepts
  d14 : DefAt K "_law_stream" sStream
  d15 : DefAt K "_law_next" sNext
  d16 : DefAt K "_law_is_integer" sIsInt
  d17 : DefAt K "_law_equal" sEqual
  d18 : DefAt K "_law_code" sLCode
  d19 : DefAt K "_law_letters" sLLetters
  d20 : DefAt K "_law_pairs" sLPairs
  d21 : DefAt K "_law_on" sLOn
  d22 : DefAt K "_law_rests" sLRests
  d23 : DefAt K "_law_is_closed" sLClosed
  d24 : DefAt K "_law_are_two" sLTwo
  d25 : DefAt K "_law_grown" sLGrown
  d26 : DefAt K "_law_parse" sLParse
  d27 : DefAt K "_law_values" sLValues
  d28 : DefAt K "law" sLaw
  z0 : PySem.W.nsIn K mainGlobals "isinstance" = some none
  z1 : PySem.W.nsIn K mainGlobals "len" = some none
  z2 : PySem.W.nsIn K mainGlobals "all" = some none
  z3 : PySem.W.nsIn K mainGlobals "str" = some none
  z4 : PySem.W.nsIn K mainGlobals "tuple" = some none
  z5 : PySem.W.nsIn K mainGlobals "list" = some none
  z6 : PySem.W.nsIn K mainGlobals "int" = some none
  z7 : PySem.W.nsIn K mainGlobals "bool" = some none
  z8 : PySem.W.nsIn K mainGlobals "enumerate" = some none
  z9 : PySem.W.nsIn K mainGlobals "zip" = some none
  z10 : PySem.W.nsIn K mainGlobals "sorted" = some none
  z11 : PySem.W.nsIn K mainGlobals "set" = some none
  z12 : PySem.W.nsIn K mainGlobals "range" = some none
  z13 : PySem.W.nsIn K mainGlobals "abs" = some none
  c0 : ∃ t, PySem.W.nsIn K mainGlobals "LETTERS" = some (some (.str "abc" t))
  c1 : ∃ t, PySem.W.nsIn K mainGlobals "MOST_WORDS_codes" = some (some (.int 6 t))
  c2 : ∃ t, PySem.W.nsIn K mainGlobals "LONGEST_WORD" = some (some (.int 5 t))
  c3 : ∃ t, PySem.W.nsIn K mainGlobals "MOST_MEMBERS" = some (some (.int 64 t))
  c4 : ∃ t, PySem.W.nsIn K mainGlobals "MOST_WORDS_unique" = some (some (.int 100 t))
  c5 : ∃ t, PySem.W.nsIn K mainGlobals "MOST_LETTERS" = some (some (.int 5 t))
theorem Defs.glo {K : PySem.W.Frag} {h : Heap} {mg : Str → Option Value} (X : K.In h) (G : h.Ns mainGlobals mg) (D : Defs K) : Glo mg where
  isinstance := PySem.W.mg_none_of X G D.z0
  len := PySem.W.mg_none_of X G D.z1
  all := PySem.W.mg_none_of X G D.z2
  str := PySem.W.mg_none_of X G D.z3
  tuple := PySem.W.mg_none_of X G D.z4
  list := PySem.W.mg_none_of X G D.z5
  int := PySem.W.mg_none_of X G D.z6
  bool := PySem.W.mg_none_of X G D.z7
  enumerate := PySem.W.mg_none_of X G D.z8
  zip := PySem.W.mg_none_of X G D.z9
  sorted := PySem.W.mg_none_of X G D.z10
  set := PySem.W.mg_none_of X G D.z11
  range := PySem.W.mg_none_of X G D.z12
  abs := PySem.W.mg_none_of X G D.z13
  letters := by
    obtain ⟨t, h⟩ := D.c0
    exact ⟨t, PySem.W.mg_of X G h⟩
  mostWordsC := by
    obtain ⟨t, h⟩ := D.c1
    exact ⟨t, PySem.W.mg_of X G h⟩
  longest := by
    obtain ⟨t, h⟩ := D.c2
    exact ⟨t, PySem.W.mg_of X G h⟩
  members := by
    obtain ⟨t, h⟩ := D.c3
    exact ⟨t, PySem.W.mg_of X G h⟩
  mostWordsU := by
    obtain ⟨t, h⟩ := D.c4
    exact ⟨t, PySem.W.mg_of X G h⟩
  mostLetters := by
    obtain ⟨t, h⟩ := D.c5
    exact ⟨t, PySem.W.mg_of X G h⟩
theorem all_mk {l : PySem.W.OpenLaw} {w : World} {K : PySem.W.Frag} {h : Heap} {mg : Str → Option Value} {fa : Addr} (X : K.In h) (G : h.Ns mainGlobals mg) (hfa : mg "law" = some (.ref fa)) (D : Defs K) :
    ∃ fd : FuncData, (∀ (s : Shared) (v : Value), BindsTo s fd ⟨[v], []⟩ [("_law_script", v)]) ∧ ∀ base : Heap, K.In base → base.Ns mainGlobals mg → FnOk l.prog w K mg base CX0 6 fa fd ["_law_script"] (spLaw K) := by
  have T := Defs.glo X G D
  have H0 : Has K mg "is_spelled" sSpelled ["value", "low", "high"] := DefAt.has X G D.d0 fun _ _ _ _ _ _ us hl => match us, hl with | [_, _, _], _ => rfl
  have H1 : Has K mg "is_code" sIsCode ["value"] := DefAt.has X G D.d1 fun _ _ _ _ _ _ us hl => match us, hl with | [_], _ => rfl
  have H2 : Has K mg "check_code" sCheck ["value"] := DefAt.has X G D.d2 fun _ _ _ _ _ _ us hl => match us, hl with | [_], _ => rfl
  have H3 : Has K mg "first_steps" sFirst ["code"] := DefAt.has X G D.d3 fun _ _ _ _ _ _ us hl => match us, hl with | [_], _ => rfl
  have H4 : Has K mg "steps_from" sSteps ["code", "rest"] := DefAt.has X G D.d4 fun _ _ _ _ _ _ us hl => match us, hl with | [_, _], _ => rfl
  have H5 : Has K mg "rests_of" sRests ["code"] := DefAt.has X G D.d5 fun _ _ _ _ _ _ us hl => match us, hl with | [_], _ => rfl
  have H6 : Has K mg "ways_on" sWaysOn ["code", "way"] := DefAt.has X G D.d6 fun _ _ _ _ _ _ us hl => match us, hl with | [_, _], _ => rfl
  have H7 : Has K mg "first_way" sFirstWay ["code"] := DefAt.has X G D.d7 fun _ _ _ _ _ _ us hl => match us, hl with | [_], _ => rfl
  have H8 : Has K mg "unique_evidence" sEvidence ["code"] := DefAt.has X G D.d8 fun _ _ _ _ _ _ us hl => match us, hl with | [_], _ => rfl
  have H9 : Has K mg "is_member" sMember ["value"] := DefAt.has X G D.d9 fun _ _ _ _ _ _ us hl => match us, hl with | [_], _ => rfl
  have H10 : Has K mg "is_closed" sClosed ["code", "value"] := DefAt.has X G D.d10 fun _ _ _ _ _ _ us hl => match us, hl with | [_, _], _ => rfl
  have H11 : Has K mg "is_parse" sIsParse ["code", "value"] := DefAt.has X G D.d11 fun _ _ _ _ _ _ us hl => match us, hl with | [_, _], _ => rfl
  have H12 : Has K mg "are_two_parses" sTwo ["code", "value"] := DefAt.has X G D.d12 fun _ _ _ _ _ _ us hl => match us, hl with | [_, _], _ => rfl
  have H13 : Has K mg "accepts_unique" sAccepts ["code", "value"] := DefAt.has X G D.d13 fun _ _ _ _ _ _ us hl => match us, hl with | [_, _], _ => rfl
  have H14 : Has K mg "_law_stream" sStream ["_law_script"] := DefAt.has X G D.d14 fun _ _ _ _ _ _ us hl => match us, hl with | [_], _ => rfl
  have H15 : Has K mg "_law_next" sNext ["_law_stream_here", "_law_many"] := DefAt.has X G D.d15 fun _ _ _ _ _ _ us hl => match us, hl with | [_, _], _ => rfl
  have H16 : Has K mg "_law_is_integer" sIsInt ["_law_actual"] := DefAt.has X G D.d16 fun _ _ _ _ _ _ us hl => match us, hl with | [_], _ => rfl
  have H17 : Has K mg "_law_equal" sEqual ["_law_actual", "_law_due"] := DefAt.has X G D.d17 fun _ _ _ _ _ _ us hl => match us, hl with | [_, _], _ => rfl
  have H18 : Has K mg "_law_code" sLCode ["_law_stream_here", "_law_letters_here", "_law_words", "_law_most"] := DefAt.has X G D.d18 fun _ _ _ _ _ _ us hl => match us, hl with | [_, _, _, _], _ => rfl
  have H19 : Has K mg "_law_letters" sLLetters ["_law_stream_here"] := DefAt.has X G D.d19 fun _ _ _ _ _ _ us hl => match us, hl with | [_], _ => rfl
  have H20 : Has K mg "_law_pairs" sLPairs ["_law_code_here"] := DefAt.has X G D.d20 fun _ _ _ _ _ _ us hl => match us, hl with | [_], _ => rfl
  have H21 : Has K mg "_law_on" sLOn ["_law_code_here", "_law_rest"] := DefAt.has X G D.d21 fun _ _ _ _ _ _ us hl => match us, hl with | [_, _], _ => rfl
  have H22 : Has K mg "_law_rests" sLRests ["_law_code_here"] := DefAt.has X G D.d22 fun _ _ _ _ _ _ us hl => match us, hl with | [_], _ => rfl
  have H23 : Has K mg "_law_is_closed" sLClosed ["_law_code_here", "_law_value"] := DefAt.has X G D.d23 fun _ _ _ _ _ _ us hl => match us, hl with | [_, _], _ => rfl
  have H24 : Has K mg "_law_are_two" sLTwo ["_law_code_here", "_law_value"] := DefAt.has X G D.d24 fun _ _ _ _ _ _ us hl => match us, hl with | [_, _], _ => rfl
  have H25 : Has K mg "_law_grown" sLGrown ["_law_code_here", "_law_start"] := DefAt.has X G D.d25 fun _ _ _ _ _ _ us hl => match us, hl with | [_, _], _ => rfl
  have H26 : Has K mg "_law_parse" sLParse ["_law_stream_here", "_law_code_here"] := DefAt.has X G D.d26 fun _ _ _ _ _ _ us hl => match us, hl with | [_, _], _ => rfl
  have H27 : Has K mg "_law_values" sLValues ["_law_stream_here", "_law_code_here", "_law_letters_here"] := DefAt.has X G D.d27 fun _ _ _ _ _ _ us hl => match us, hl with | [_, _, _], _ => rfl
  obtain ⟨f, oc, od, sl, kV, dc, pm, an, cd, ct, h1, h2, h3, h4⟩ := D.d28
  have e := hfa.symm.trans (PySem.W.mg_of X G h1)
  cases e
  have FL := fun_mk (st := sLaw) h2 h3 h4
  refine ⟨PySem.W.fnOf "law" "law" (defArgs sLaw) (defBody sLaw) (defScope sLaw) .none kV dc pm an cd ct, fun s v => .of_eq rfl, fun base _ _ => ?_⟩
  have K0 : Kn l.prog w K mg base 1 "is_spelled" _ spSpelled := H0.kn fun f fd F => ok_spelled F T
  have K1 : Kn l.prog w K mg base 2 "is_code" _ (spIsCode K) := H1.kn fun f fd F => by
    obtain ⟨f0, fd0, F0, b0, g0⟩ := H0
    exact ok_isCode F T F0 b0 g0
  have K2 : Kn l.prog w K mg base 3 "check_code" _ (spCheck K) := H2.kn fun f fd F => by
    obtain ⟨f0, fd0, G0, b0, g0, k0⟩ := K1
    exact ok_check F G0 k0 b0 g0
  have K3 : Kn l.prog w K mg base 1 "first_steps" _ (spFirst K) := H3.kn fun f fd F => ok_first F T
  have K4 : Kn l.prog w K mg base 1 "steps_from" _ (spSteps K) := H4.kn fun f fd F => ok_steps F T
  have K5 : Kn l.prog w K mg base 2 "rests_of" _ (spRests K) := H5.kn fun f fd F => by
    obtain ⟨f3, fd3, F3, b3, g3⟩ := H3
    obtain ⟨f4, fd4, F4, b4, g4⟩ := H4
    exact ok_rests F T F3 b3 g3 F4 b4 g4
  have K7 : Kn l.prog w K mg base 3 "first_way" _ (spFirstWay K) := H7.kn fun f fd F => by
    obtain ⟨f3, fd3, F3, b3, g3⟩ := H3
    obtain ⟨f4, fd4, F4, b4, g4⟩ := H4
    obtain ⟨f6, fd6, F6, b6, g6⟩ := H6
    exact ok_firstWay F T F3 b3 g3 F4 b4 g4 F6 b6 g6
  have K8 : Kn l.prog w K mg base 4 "unique_evidence" _ (spEvidence K) := H8.kn fun f fd F => ok_evidence F T K2 K7 K5
  have K9 : Kn l.prog w K mg base 1 "is_member" _ (spMember K) := H9.kn fun f fd F => ok_member F T
  have K10 : Kn l.prog w K mg base 2 "is_closed" _ (spClosed K) := H10.kn fun f fd F => ok_closed F T K9 K3 K4
  have K11 : Kn l.prog w K mg base 1 "is_parse" _ (spIsParse K) := H11.kn fun f fd F => ok_isParse F T
  have K12 : Kn l.prog w K mg base 2 "are_two_parses" _ (spTwo K) := H12.kn fun f fd F => ok_two F T K11
  have K13 : Kn l.prog w K mg base 4 "accepts_unique" _ (spAccepts K) := H13.kn fun f fd F => ok_accepts F T K2 K10 K12
  have K14 : Kn l.prog w K mg base 1 "_law_stream" _ (spStream K) := H14.kn fun f fd F => ok_stream F T
  have K15 : Kn l.prog w K mg base 1 "_law_next" _ (spNext K) := H15.kn fun f fd F => ok_next F T
  have K16 : Kn l.prog w K mg base 1 "_law_is_integer" _ spIsInt := H16.kn fun f fd F => ok_isInt F T
  have K17 : Kn l.prog w K mg base 1 "_law_equal" _ spEqual := H17.kn fun f fd F => ok_equal F T
  have K18 : Kn l.prog w K mg base 2 "_law_code" _ (spLCode K) := H18.kn fun f fd F => ok_lcode F T K15
  have K19 : Kn l.prog w K mg base 2 "_law_letters" _ spLLetters := H19.kn fun f fd F => ok_letters F K15
  have K20 : Kn l.prog w K mg base 1 "_law_pairs" _ (spLPairs K) := H20.kn fun f fd F => ok_lpairs F T
  have K21 : Kn l.prog w K mg base 1 "_law_on" _ (spLOn K) := H21.kn fun f fd F => ok_lon F T
  have K22 : Kn l.prog w K mg base 2 "_law_rests" _ (spLRests K) := H22.kn fun f fd F => ok_lrests F T K20 K21
  have K23 : Kn l.prog w K mg base 2 "_law_is_closed" _ (spLClosed K) := H23.kn fun f fd F => ok_lclosed F T K20 K21
  have K24 : Kn l.prog w K mg base 2 "_law_are_two" _ (spLTwo K) := H24.kn fun f fd F => ok_ltwo F T K16
  have K25 : Kn l.prog w K mg base 2 "_law_grown" _ (spLGrown K) := H25.kn fun f fd F => ok_lgrown F T K21
  have K26 : Kn l.prog w K mg base 2 "_law_parse" _ (spLParse K) := H26.kn fun f fd F => ok_lparse F T K15
  have K27 : Kn l.prog w K mg base 5 "_law_values" _ (spLValues K) := H27.kn fun f fd F => ok_lvalues F T K15 K22 K25 K26 K8
  exact ok_law FL T K14 K19 K18 K27 K23 K24 K17 K13 K22 K15
end K11
set_option Elab.async false
set_option linter.all false
set_option maxRecDepth 100000
open PySem PySem.W PyProof.Rows
set_option maxRecDepth 100000 in
set_option maxHeartbeats 0 in
theorem PySem.Challenge.cw_syncedwords_k11_whole_any_evidence_holds : PySem.Challenge.rw_syncedwords_k11_whole_any_evidence.Holds := by
  w_on; o_law; k_head; (case hw => w_witness2)
  k_fill
  refine L2.walk_of (l := PySem.Challenge.rw_syncedwords_k11_whole_any_evidence) (n := 63) (k := 6) (x := "_law_script") (CX := fun _ => L2.CX0) (sp := fun w => K11.spLaw _) rfl (by decide) rfl ⟨rfl, by decide, by decide⟩ (fun w h Y => PySem.W.kIn_of Y) ?F (fun _ _ a ns hl _ hS => ⟨a, ns, rfl, hS, hl, fun _ => rfl⟩) (fun _ _ _ _ _ h => h)
  case F =>
    intro w mg fa h KX G hmg0
    have hmg : mg "law" = some (.ref fa) := hmg0
    clear hmg0
    refine' K11.all_mk KX G hmg ⟨?d0, ?d1, ?d2, ?d3, ?d4, ?d5, ?d6, ?d7, ?d8, ?d9, ?d10, ?d11, ?d12, ?d13, ?d14, ?d15, ?d16, ?d17, ?d18, ?d19, ?d20, ?d21, ?d22, ?d23, ?d24, ?d25, ?d26, ?d27, ?d28, ?z0, ?z1, ?z2, ?z3, ?z4, ?z5, ?z6, ?z7, ?z8, ?z9, ?z10, ?z11, ?z12, ?z13, ?c0, ?c1, ?c2, ?c3, ?c4, ?c5⟩
    (case d0 => refine' K11.defAt_mk ?n ?l ?c ?k; (case n => k_is); (case l => k_is); (case c => k_is); (case k => k_is))
    (case d1 => refine' K11.defAt_mk ?n ?l ?c ?k; (case n => k_is); (case l => k_is); (case c => k_is); (case k => k_is))
    (case d2 => refine' K11.defAt_mk ?n ?l ?c ?k; (case n => k_is); (case l => k_is); (case c => k_is); (case k => k_is))
    (case d3 => refine' K11.defAt_mk ?n ?l ?c ?k; (case n => k_is); (case l => k_is); (case c => k_is); (case k => k_is))
    (case d4 => refine' K11.defAt_mk ?n ?l ?c ?k; (case n => k_is); (case l => k_is); (case c => k_is); (case k => k_is))
    (case d5 => refine' K11.defAt_mk ?n ?l ?c ?k; (case n => k_is); (case l => k_is); (case c => k_is); (case k => k_is))
    (case d6 => refine' K11.defAt_mk ?n ?l ?c ?k; (case n => k_is); (case l => k_is); (case c => k_is); (case k => k_is))
    (case d7 => refine' K11.defAt_mk ?n ?l ?c ?k; (case n => k_is); (case l => k_is); (case c => k_is); (case k => k_is))
    (case d8 => refine' K11.defAt_mk ?n ?l ?c ?k; (case n => k_is); (case l => k_is); (case c => k_is); (case k => k_is))
    (case d9 => refine' K11.defAt_mk ?n ?l ?c ?k; (case n => k_is); (case l => k_is); (case c => k_is); (case k => k_is))
    (case d10 => refine' K11.defAt_mk ?n ?l ?c ?k; (case n => k_is); (case l => k_is); (case c => k_is); (case k => k_is))
    (case d11 => refine' K11.defAt_mk ?n ?l ?c ?k; (case n => k_is); (case l => k_is); (case c => k_is); (case k => k_is))
    (case d12 => refine' K11.defAt_mk ?n ?l ?c ?k; (case n => k_is); (case l => k_is); (case c => k_is); (case k => k_is))
    (case d13 => refine' K11.defAt_mk ?n ?l ?c ?k; (case n => k_is); (case l => k_is); (case c => k_is); (case k => k_is))
    (case d14 => refine' K11.defAt_mk ?n ?l ?c ?k; (case n => k_is); (case l => k_is); (case c => k_is); (case k => k_is))
    (case d15 => refine' K11.defAt_mk ?n ?l ?c ?k; (case n => k_is); (case l => k_is); (case c => k_is); (case k => k_is))
    (case d16 => refine' K11.defAt_mk ?n ?l ?c ?k; (case n => k_is); (case l => k_is); (case c => k_is); (case k => k_is))
    (case d17 => refine' K11.defAt_mk ?n ?l ?c ?k; (case n => k_is); (case l => k_is); (case c => k_is); (case k => k_is))
    (case d18 => refine' K11.defAt_mk ?n ?l ?c ?k; (case n => k_is); (case l => k_is); (case c => k_is); (case k => k_is))
    (case d19 => refine' K11.defAt_mk ?n ?l ?c ?k; (case n => k_is); (case l => k_is); (case c => k_is); (case k => k_is))
    (case d20 => refine' K11.defAt_mk ?n ?l ?c ?k; (case n => k_is); (case l => k_is); (case c => k_is); (case k => k_is))
    (case d21 => refine' K11.defAt_mk ?n ?l ?c ?k; (case n => k_is); (case l => k_is); (case c => k_is); (case k => k_is))
    (case d22 => refine' K11.defAt_mk ?n ?l ?c ?k; (case n => k_is); (case l => k_is); (case c => k_is); (case k => k_is))
    (case d23 => refine' K11.defAt_mk ?n ?l ?c ?k; (case n => k_is); (case l => k_is); (case c => k_is); (case k => k_is))
    (case d24 => refine' K11.defAt_mk ?n ?l ?c ?k; (case n => k_is); (case l => k_is); (case c => k_is); (case k => k_is))
    (case d25 => refine' K11.defAt_mk ?n ?l ?c ?k; (case n => k_is); (case l => k_is); (case c => k_is); (case k => k_is))
    (case d26 => refine' K11.defAt_mk ?n ?l ?c ?k; (case n => k_is); (case l => k_is); (case c => k_is); (case k => k_is))
    (case d27 => refine' K11.defAt_mk ?n ?l ?c ?k; (case n => k_is); (case l => k_is); (case c => k_is); (case k => k_is))
    (case d28 => refine' K11.defAt_mk ?n ?l ?c ?k; (case n => k_is); (case l => k_is); (case c => k_is); (case k => k_is))
    (case z0 => k_is)
    (case z1 => k_is)
    (case z2 => k_is)
    (case z3 => k_is)
    (case z4 => k_is)
    (case z5 => k_is)
    (case z6 => k_is)
    (case z7 => k_is)
    (case z8 => k_is)
    (case z9 => k_is)
    (case z10 => k_is)
    (case z11 => k_is)
    (case z12 => k_is)
    (case z13 => k_is)
    (case c0 => refine' K11.str_mk ?n; (case n => k_is))
    (case c1 => refine' K11.int_mk ?n; (case n => k_is))
    (case c2 => refine' K11.int_mk ?n; (case n => k_is))
    (case c3 => refine' K11.int_mk ?n; (case n => k_is))
    (case c4 => refine' K11.int_mk ?n; (case n => k_is))
    (case c5 => refine' K11.int_mk ?n; (case n => k_is))
