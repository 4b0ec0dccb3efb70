import PyProof.Rows.All
import Wide.All
import OpenK.AllK
import Wide.FinOn
import HandS.ForMost
import HandS.Exc
import HandS.ExcOwn
import HandS.TryOnly
import HandS.WordsExc
import HandS.ExcInit
import HandS.ExcIs
import HandS.ExcField
import HandS.IsInst
import HandS.DictComp
import HandS.Conv
import HandS.Walk
import HandS.RevRange
import HandS.Zip
import HandS.OwnEq
import HandS.ClsMeth
import HandS.Wide
import HandS.Defaults
import HandS.SetFor
import HandS.More
import HandS.HeadHook1
import HandS.HeadHook2
import KE.KDictKeyed
import PySem.Challenge.RW_galloon_k04_whole_least_tables
import HandS.TupLen
import KE.GoesZip
import KE.GoesMore
import OpenK.KOps
import KE.KExcSuper
import KE.KSuper
import HandS.ExcSuper
import KE.KStateDown
import HandS.Head0
import HandS.Head1
import HandS.Head2
import HandS.HeadEnd
section
/-! lists: idx, ded, numb -/
set_option linter.all false
namespace Gal
section
variable {α β : Type} [DecidableEq α] [DecidableEq β]
def idx (x : α) : List α → Nat
  | [] => 0
  | y :: l => if y = x then 0 else idx x l + 1
theorem idx_lt {x : α} : ∀ {l : List α}, x ∈ l → idx x l < l.length
  | [], h => by simp at h
  | y :: l, h => by
    unfold idx
    by_cases e : y = x
    · rw [if_pos e]; exact Nat.succ_pos _
    · rw [if_neg e]
      have h' : x ∈ l := by
        rcases List.mem_cons.mp h with r | r
        · exact absurd r.symm e
        · exact r
      have := idx_lt h'
      simpa using this
theorem idx_get {x : α} : ∀ {l : List α}, x ∈ l → l[idx x l]? = some x
  | [], h => by simp at h
  | y :: l, h => by
    unfold idx
    by_cases e : y = x
    · rw [if_pos e]; simp [e]
    · rw [if_neg e]
      have h' : x ∈ l := by
        rcases List.mem_cons.mp h with r | r
        · exact absurd r.symm e
        · exact r
      simpa using idx_get h'
theorem idx_app {x : α} : ∀ {l : List α} (m : List α), x ∈ l → idx x (l ++ m) = idx x l
  | [], _, h => by simp at h
  | y :: l, m, h => by
    show (if y = x then 0 else idx x (l ++ m) + 1) = (if y = x then 0 else idx x l + 1)
    by_cases e : y = x
    · rw [if_pos e, if_pos e]
    · rw [if_neg e, if_neg e]
      have h' : x ∈ l := by
        rcases List.mem_cons.mp h with r | r
        · exact absurd r.symm e
        · exact r
      rw [idx_app m h']
theorem idx_not {x : α} : ∀ {l : List α}, x ∉ l → idx x l = l.length
  | [], _ => rfl
  | y :: l, h => by
    have e : ¬ y = x := fun e => h (by rw [e]; exact List.mem_cons_self)
    have h' : x ∉ l := fun q => h (List.mem_cons_of_mem _ q)
    show (if y = x then 0 else idx x l + 1) = l.length + 1
    rw [if_neg e, idx_not h']
theorem idx_app_not {x : α} : ∀ {l : List α} (m : List α), x ∉ l → idx x (l ++ m) = l.length + idx x m
  | [], m, _ => by simp
  | y :: l, m, h => by
    have e : ¬ y = x := fun e => h (by rw [e]; exact List.mem_cons_self)
    have h' : x ∉ l := fun q => h (List.mem_cons_of_mem _ q)
    show (if y = x then 0 else idx x (l ++ m) + 1) = l.length + 1 + idx x m
    rw [if_neg e, idx_app_not m h']
    omega
theorem idx_last {x : α} {l : List α} (h : x ∉ l) : idx x (l ++ [x]) = l.length := by
  rw [idx_app_not [x] h]
  show l.length + (if x = x then 0 else _) = l.length
  rw [if_pos rfl]; rfl
theorem idx_inj {x y : α} {l : List α} (hx : x ∈ l) (hy : y ∈ l) (e : idx x l = idx y l) : x = y := by
  have a := idx_get hx
  have b := idx_get hy
  rw [e, b] at a
  exact (Option.some.inj a).symm
theorem idx_at : ∀ {l : List α} {i : Nat} {x : α}, l.Nodup → l[i]? = some x → idx x l = i
  | [], i, x, _, h => by simp at h
  | y :: l, 0, x, _, h => by
    have e : y = x := by simpa using h
    show (if y = x then 0 else idx x l + 1) = 0
    rw [if_pos e]
  | y :: l, i + 1, x, nd, h => by
    have h' : l[i]? = some x := by simpa using h
    have hm : x ∈ l := List.mem_of_getElem? h'
    have e : ¬ y = x := fun e => (List.nodup_cons.mp nd).1 (by rw [e]; exact hm)
    show (if y = x then 0 else idx x l + 1) = i + 1
    rw [if_neg e, idx_at (List.nodup_cons.mp nd).2 h']

/-- one more, if it is new -/
def addn (l : List α) (x : α) : List α := if x ∈ l then l else l ++ [x]
def dedF (l : List α) (m : List α) : List α := m.foldl addn l
def ded (l : List α) : List α := dedF [] l
theorem mem_addn {l : List α} {x y : α} : y ∈ addn l x ↔ y ∈ l ∨ y = x := by
  unfold addn
  by_cases h : x ∈ l
  · rw [if_pos h]
    constructor
    · exact .inl
    · rintro (h' | rfl)
      · exact h'
      · exact h
  · rw [if_neg h]
    simp
theorem nodup_addn {l : List α} {x : α} (h : l.Nodup) : (addn l x).Nodup := by
  unfold addn
  by_cases hx : x ∈ l
  · rw [if_pos hx]; exact h
  · rw [if_neg hx]
    exact List.nodup_append.mpr ⟨h, by simp, by
      intro a ha b hb
      have : b = x := by simpa using hb
      subst this
      intro e
      exact hx (e ▸ ha)⟩
theorem pre_addn {l : List α} {x : α} : l <+: addn l x := by
  unfold addn
  by_cases hx : x ∈ l
  · rw [if_pos hx]; exact List.prefix_refl _
  · rw [if_neg hx]; exact List.prefix_append _ _
theorem mem_dedF {y : α} : ∀ {m l : List α}, y ∈ dedF l m ↔ y ∈ l ∨ y ∈ m
  | [], l => by simp [dedF]
  | x :: m, l => by
    show y ∈ dedF (addn l x) m ↔ _
    rw [mem_dedF, mem_addn, List.mem_cons, or_assoc]
theorem nodup_dedF : ∀ {m l : List α}, l.Nodup → (dedF l m).Nodup
  | [], _, h => h
  | x :: m, l, h => by
    show (dedF (addn l x) m).Nodup
    exact nodup_dedF (nodup_addn h)
theorem pre_dedF : ∀ {m l : List α}, l <+: dedF l m
  | [], _ => List.prefix_refl _
  | x :: m, l => by
    show l <+: dedF (addn l x) m
    exact pre_addn.trans pre_dedF
theorem dedF_app (l m k : List α) : dedF l (m ++ k) = dedF (dedF l m) k := List.foldl_append
theorem mem_ded {y : α} {l : List α} : y ∈ ded l ↔ y ∈ l := by
  unfold ded
  rw [mem_dedF]
  simp
theorem nodup_ded {l : List α} : (ded l).Nodup := nodup_dedF List.nodup_nil
theorem ded_snoc (l : List α) (x : α) : ded (l ++ [x]) = addn (ded l) x := dedF_app _ _ _
theorem ded_app_pre (l m : List α) : ded l <+: ded (l ++ m) := by
  unfold ded
  rw [dedF_app]
  exact pre_dedF
theorem ded_snoc_old {l : List α} {x : α} (h : x ∈ l) : ded (l ++ [x]) = ded l := by
  rw [ded_snoc]
  exact if_pos (mem_ded.mpr h)
theorem ded_snoc_new {l : List α} {x : α} (h : x ∉ l) : ded (l ++ [x]) = ded l ++ [x] := by
  rw [ded_snoc]
  exact if_neg fun q => h (mem_ded.mp q)
theorem ded_len (l : List α) : (ded l).length ≤ l.length := by
  have : ∀ (m l : List α), (dedF l m).length ≤ l.length + m.length := by
    intro m
    induction m with
    | nil => intro l; exact Nat.le_refl _
    | cons x m ih =>
      intro l
      have h1 := ih (addn l x)
      have h2 : (addn l x).length ≤ l.length + 1 := by
        unfold addn
        by_cases hx : x ∈ l
        · rw [if_pos hx]; omega
        · rw [if_neg hx]; simp
      show (dedF (addn l x) m).length ≤ l.length + (m.length + 1)
      omega
  have := this l []
  unfold ded
  simpa using this
theorem idx_pre {x : α} {l m : List α} (h : l <+: m) (hx : x ∈ l) : idx x m = idx x l := by
  obtain ⟨k, rfl⟩ := h
  exact idx_app k hx

/-- the numbers of keys, by first occurrence -/
def numb (l : List α) : List Nat := l.map fun x => idx x (ded l)
theorem numb_len (l : List α) : (numb l).length = l.length := by unfold numb; rw [List.length_map]
theorem numb_get {l : List α} {i : Nat} {x : α} (h : l[i]? = some x) : (numb l)[i]? = some (idx x (ded l)) := by
  unfold numb
  rw [List.getElem?_map, h]; rfl
theorem numb_snoc (l : List α) (x : α) : numb (l ++ [x]) = numb l ++ [idx x (ded (l ++ [x]))] := by
  unfold numb
  rw [List.map_append]
  congr 1
  refine List.map_congr_left fun y hy => ?_
  exact idx_pre (ded_app_pre l [x]) (mem_ded.mpr hy)
theorem numb_lt {l : List α} {n : Nat} (h : n ∈ numb l) : n < (ded l).length := by
  obtain ⟨x, hx, rfl⟩ := List.mem_map.mp h
  exact idx_lt (mem_ded.mpr hx)
theorem numb_eq_iff {l : List α} {i j : Nat} {x y : α} (hi : l[i]? = some x) (hj : l[j]? = some y) : ((numb l)[i]? = (numb l)[j]?) ↔ x = y := by
  rw [numb_get hi, numb_get hj]
  constructor
  · intro e
    exact idx_inj (mem_ded.mpr (List.mem_of_getElem? hi)) (mem_ded.mpr (List.mem_of_getElem? hj)) (Option.some.inj e)
  · rintro rfl; rfl

/-- l refines m: where l has equal items, m has -/
def Rfn (l : List α) (m : List β) : Prop := l.length = m.length ∧ ∀ i j, i < l.length → j < l.length → l[i]? = l[j]? → m[i]? = m[j]?
theorem Rfn.snoc {l : List α} {m : List β} {x : α} {y : β} (h : Rfn (l ++ [x]) (m ++ [y])) : Rfn l m ∧ (x ∈ l → y ∈ m) ∧ ∀ i, i < l.length → l[i]? = some x → m[i]? = some y := by
  obtain ⟨hl, h⟩ := h
  have hl' : l.length = m.length := by simpa using hl
  have key : ∀ i, i < l.length → l[i]? = some x → m[i]? = some y := by
    intro i hi e
    have := h i l.length (by simp; omega) (by simp) (by rw [List.getElem?_append_left hi, e]; simp)
    rw [List.getElem?_append_left (by omega), hl'] at this
    simpa using this
  refine ⟨⟨hl', fun i j hi hj e => ?_⟩, fun hx => ?_, key⟩
  · have := h i j (by simp; omega) (by simp; omega) (by rw [List.getElem?_append_left hi, List.getElem?_append_left hj]; exact e)
    rwa [List.getElem?_append_left (by omega), List.getElem?_append_left (by omega)] at this
  · obtain ⟨i, hi, e⟩ := List.getElem_of_mem hx
    exact List.mem_of_getElem? (key i hi (by rw [List.getElem?_eq_getElem hi, e]))
theorem snoc_ind {P : List α → List β → Prop} (h0 : P [] []) (h1 : ∀ l m x y, l.length = m.length → P l m → P (l ++ [x]) (m ++ [y])) : ∀ l m, l.length = m.length → P l m := by
  have : ∀ n l m, l.length = n → m.length = n → P l m := by
    intro n
    induction n with
    | zero =>
      intro l m hl hm
      have e1 : l = [] := List.length_eq_zero_iff.mp hl
      have e2 : m = [] := List.length_eq_zero_iff.mp hm
      subst e1; subst e2
      exact h0
    | succ n ih =>
      intro l m hl hm
      have n1 : l ≠ [] := fun e => by subst e; simp at hl
      have n2 : m ≠ [] := fun e => by subst e; simp at hm
      rw [← List.dropLast_concat_getLast n1, ← List.dropLast_concat_getLast n2]
      have d1 : l.dropLast.length = n := by rw [List.length_dropLast, hl]; rfl
      have d2 : m.dropLast.length = n := by rw [List.length_dropLast, hm]; rfl
      exact h1 _ _ _ _ (d1.trans d2.symm) (ih _ _ d1 d2)
  intro l m h
  exact this l.length l m rfl h.symm
theorem rfn_le : ∀ (l : List α) (m : List β), l.length = m.length → Rfn l m → (ded m).length ≤ (ded l).length := by
  refine snoc_ind ?_ ?_
  · intro _; exact Nat.le_refl _
  · intro l m x y hl ih h
    obtain ⟨h1, h2, _⟩ := h.snoc
    have i := ih h1
    by_cases hx : x ∈ l
    · rw [ded_snoc_old hx, ded_snoc_old (h2 hx)]; exact i
    · rw [ded_snoc_new hx]
      by_cases hy : y ∈ m
      · rw [ded_snoc_old hy, List.length_append]; omega
      · rw [ded_snoc_new hy, List.length_append, List.length_append]; simp only [List.length_cons, List.length_nil]; omega
/-- as many classes: the same numbers -/
theorem rfn_eq : ∀ (l : List α) (m : List β), l.length = m.length → Rfn l m → (ded m).length = (ded l).length → numb l = numb m := by
  refine snoc_ind ?_ ?_
  · intro _ _; rfl
  · intro l m x y hl ih h e
    obtain ⟨h1, h2, h3⟩ := h.snoc
    have le := rfn_le l m hl h1
    rw [numb_snoc, numb_snoc]
    by_cases hx : x ∈ l
    · have hy := h2 hx
      rw [ded_snoc_old hx, ded_snoc_old hy] at e
      rw [ded_snoc_old hx, ded_snoc_old hy]
      have i := ih h1 e
      rw [i]
      congr 2
      obtain ⟨k, hk, ek⟩ := List.getElem_of_mem hx
      have e1 : l[k]? = some x := by rw [List.getElem?_eq_getElem hk, ek]
      have e2 := h3 k hk e1
      have a := numb_get e1
      have b := numb_get e2
      rw [i, b] at a
      exact (Option.some.inj a).symm
    · have hy : y ∉ m := by
        intro hy
        rw [ded_snoc_new hx, ded_snoc_old hy, List.length_append] at e
        simp only [List.length_cons, List.length_nil] at e
        omega
      rw [ded_snoc_new hx, ded_snoc_new hy, List.length_append, List.length_append] at e
      have e' : (ded m).length = (ded l).length := by simpa using e
      rw [ih h1 e', ded_snoc_new hx, ded_snoc_new hy, idx_last (fun q => hx (mem_ded.mp q)), idx_last (fun q => hy (mem_ded.mp q)), e']
theorem rfn_both {l : List α} {m : List β} (h : Rfn l m) (h' : Rfn m l) : numb l = numb m :=
  rfn_eq l m h.1 h (Nat.le_antisymm (rfn_le l m h.1 h) (rfn_le m l h'.1 h'))
theorem rfn_numb (l : List α) : Rfn l (numb l) := ⟨(numb_len l).symm, fun i j hi hj e => by
  rw [List.getElem?_eq_getElem hi, List.getElem?_eq_getElem hj] at e
  exact (numb_eq_iff (List.getElem?_eq_getElem hi) (List.getElem?_eq_getElem hj)).mpr (Option.some.inj e)⟩
theorem numb_rfn (l : List α) : Rfn (numb l) l := ⟨numb_len l, fun i j hi hj e => by
  rw [numb_len] at hi hj
  have := (numb_eq_iff (List.getElem?_eq_getElem hi) (List.getElem?_eq_getElem hj)).mp e
  rw [List.getElem?_eq_getElem hi, List.getElem?_eq_getElem hj, this]⟩
/-- all apart: n numbers -/
theorem ded_of_nodup : ∀ {l : List α}, l.Nodup → ded l = l := by
  have : ∀ (m l : List α), (l ++ m).Nodup → dedF l m = l ++ m := by
    intro m
    induction m with
    | nil => intro l _; simp [dedF]
    | cons x m ih =>
      intro l h
      have hx : x ∉ l := by
        intro q
        have := (List.nodup_append.mp h).2.2 x q x List.mem_cons_self
        exact this rfl
      show dedF (addn l x) m = _
      have e : addn l x = l ++ [x] := if_neg hx
      rw [e, ih _ (by rw [List.append_assoc]; exact h), List.append_assoc]; rfl
  intro l h
  exact this l [] h
end
end Gal
end
section
set_option linter.all false
/-! automata, their languages; the search in order; the least table -/
namespace Gal
open Classical
section
variable (δ : Nat → Nat → Option Nat) (g : Nat → Bool)
def acc : List Nat → Nat → Bool
  | [], s => g s
  | a :: w, s => match δ s a with | none => false | some t => acc w t
def Lead (s : Nat) : Prop := ∃ w, acc δ g w s = true
end
abbrev Lang := List Nat → Bool
def lang (δ : Nat → Nat → Option Nat) (g : Nat → Bool) (s : Nat) : Lang := fun w => acc δ g w s
def der (ℓ : Lang) (a : Nat) : Lang := fun w => ℓ (a :: w)
def Full (ℓ : Lang) : Prop := ∃ w, ℓ w = true
section
variable {δ : Nat → Nat → Option Nat} {g : Nat → Bool} {s t a : Nat}
theorem lead_iff : Lead δ g s ↔ Full (lang δ g s) := Iff.rfl
theorem der_some (h : δ s a = some t) : der (lang δ g s) a = lang δ g t := by
  funext w
  show acc δ g (a :: w) s = acc δ g w t
  rw [acc, h]
theorem der_none (h : δ s a = none) : ¬ Full (der (lang δ g s) a) := by
  rintro ⟨w, hw⟩
  have : acc δ g (a :: w) s = true := hw
  rw [acc, h] at this
  cases this
theorem lead_of_step (h : δ s a = some t) (l : Lead δ g t) : Lead δ g s := by
  obtain ⟨w, hw⟩ := l
  refine ⟨a :: w, ?_⟩
  rw [acc, h]; exact hw
theorem lead_cases : Lead δ g s ↔ g s = true ∨ ∃ a t, δ s a = some t ∧ Lead δ g t := by
  constructor
  · rintro ⟨w, hw⟩
    cases w with
    | nil => exact .inl hw
    | cons a w =>
      rw [acc] at hw
      cases h : δ s a with
      | none => rw [h] at hw; cases hw
      | some t => rw [h] at hw; exact .inr ⟨a, t, h, w, hw⟩
  · rintro (h | ⟨a, t, h, l⟩)
    · exact ⟨[], h⟩
    · exact lead_of_step h l
end

/-! ### tables of whole numbers -/
def pos (x : Int) : Option Nat := if 0 ≤ x then some x.toNat else none
def stI (R : List (List Int)) (s a : Nat) : Option Nat := pos ((R.getD s []).getD a (-1))
def gdI (G : List Bool) (s : Nat) : Bool := G.getD s false
structure WF (c : Nat) (R : List (List Int)) (G : List Bool) : Prop where
  pos : 0 < R.length
  len : G.length = R.length
  row : ∀ r ∈ R, r.length = c ∧ ∀ x ∈ r, -1 ≤ x ∧ x < R.length
theorem pos_neg {x : Int} (h : x < 0) : pos x = none := if_neg (by omega)
theorem pos_nn {x : Int} (h : 0 ≤ x) : pos x = some x.toNat := if_pos h
theorem pos_some {x : Int} {t : Nat} (h : pos x = some t) : x = t := by
  unfold pos at h
  by_cases e : 0 ≤ x
  · rw [if_pos e] at h
    have := Option.some.inj h
    omega
  · rw [if_neg e] at h; cases h
theorem pos_nat (t : Nat) : pos (t : Int) = some t := by
  unfold pos
  rw [if_pos (Int.natCast_nonneg t), Int.toNat_natCast]
def posl (r : List Int) : List Nat := r.filterMap pos
def row (R : List (List Int)) (s : Nat) : List Int := R.getD s []
theorem row_get {R : List (List Int)} {s : Nat} {r : List Int} (h : R[s]? = some r) : row R s = r := by
  unfold row
  rw [List.getD_eq_getElem?_getD, h]; rfl
section
variable {c : Nat} {R : List (List Int)} {G : List Bool}
theorem mem_posl {R : List (List Int)} {s t : Nat} : t ∈ posl (row R s) ↔ ∃ a, stI R s a = some t := by
  unfold posl stI
  rw [List.mem_filterMap]
  constructor
  · rintro ⟨x, hx, e⟩
    obtain ⟨a, ha, ex⟩ := List.getElem_of_mem hx
    refine ⟨a, ?_⟩
    show pos ((row R s).getD a (-1)) = some t
    rw [List.getD_eq_getElem?_getD, List.getElem?_eq_getElem ha, ex]
    exact e
  · rintro ⟨a, e⟩
    have e' : pos ((row R s).getD a (-1)) = some t := e
    rw [List.getD_eq_getElem?_getD] at e'
    cases h : (row R s)[a]? with
    | none =>
      rw [h] at e'
      cases e'
    | some x =>
      rw [h] at e'
      exact ⟨x, List.mem_of_getElem? h, e'⟩
theorem stI_lt (W : WF c R G) {s a t : Nat} (h : stI R s a = some t) : t < R.length ∧ a < c := by
  have h' : pos ((row R s).getD a (-1)) = some t := h
  rw [List.getD_eq_getElem?_getD] at h'
  cases e : (row R s)[a]? with
  | none => rw [e] at h'; cases h'
  | some x =>
    rw [e] at h'
    have ex := pos_some h'
    obtain ⟨ha, _⟩ := List.getElem?_eq_some_iff.mp e
    cases er : R[s]? with
    | none =>
      have : row R s = [] := by unfold row; rw [List.getD_eq_getElem?_getD, er]; rfl
      rw [this] at e; simp at e
    | some r =>
      rw [row_get er] at e ha
      obtain ⟨h1, h2⟩ := W.row r (List.mem_of_getElem? er)
      have := h2 x (List.mem_of_getElem? e)
      exact ⟨by simp at ex; omega, by omega⟩

/-! ### the search: the states in the order of their first words -/
def bfs (R : List (List Int)) : Nat → List Nat
  | 0 => [0]
  | k + 1 => match (bfs R k)[k]? with
    | none => bfs R k
    | some s => dedF (bfs R k) (posl (row R s))
theorem bfs_succ {k s : Nat} (h : (bfs R k)[k]? = some s) : bfs R (k + 1) = dedF (bfs R k) (posl (row R s)) := by
  show (match (bfs R k)[k]? with | none => _ | some s => _) = _
  rw [h]
theorem bfs_stop {k : Nat} (h : (bfs R k)[k]? = none) : bfs R (k + 1) = bfs R k := by
  show (match (bfs R k)[k]? with | none => _ | some s => _) = _
  rw [h]
theorem bfs_pre1 (k : Nat) : bfs R k <+: bfs R (k + 1) := by
  cases h : (bfs R k)[k]? with
  | none => rw [bfs_stop h]; exact List.prefix_refl _
  | some s => rw [bfs_succ h]; exact pre_dedF
theorem bfs_pre {j k : Nat} (h : j ≤ k) : bfs R j <+: bfs R k := by
  induction k with
  | zero => have : j = 0 := by omega
            subst this; exact List.prefix_refl _
  | succ k ih =>
    by_cases e : j = k + 1
    · subst e; exact List.prefix_refl _
    · exact (ih (by omega)).trans (bfs_pre1 k)
theorem bfs_nodup (k : Nat) : (bfs R k).Nodup := by
  induction k with
  | zero => show ([0] : List Nat).Nodup; simp
  | succ k ih =>
    cases h : (bfs R k)[k]? with
    | none => rw [bfs_stop h]; exact ih
    | some s => rw [bfs_succ h]; exact nodup_dedF ih
theorem bfs_zero (k : Nat) : 0 ∈ bfs R k := (bfs_pre (Nat.zero_le k)).subset (by show 0 ∈ [0]; simp)
theorem bfs_lt (W : WF c R G) (k : Nat) : ∀ s ∈ bfs R k, s < R.length := by
  induction k with
  | zero => intro s hs; have : s = 0 := by simpa [bfs] using hs
            subst this; exact W.pos
  | succ k ih =>
    cases h : (bfs R k)[k]? with
    | none => rw [bfs_stop h]; exact ih
    | some s =>
      rw [bfs_succ h]
      intro t ht
      rcases mem_dedF.mp ht with q | q
      · exact ih t q
      · obtain ⟨a, ha⟩ := mem_posl.mp q
        exact (stI_lt W ha).1
theorem bfs_const {at_ k : Nat} (h : (bfs R at_).length ≤ at_) (hk : at_ ≤ k) : bfs R k = bfs R at_ := by
  induction k with
  | zero => have : at_ = 0 := by omega
            subst this; rfl
  | succ k ih =>
    by_cases e : at_ = k + 1
    · subst e; rfl
    · have ih := ih (by omega)
      have hn : (bfs R k)[k]? = none := by
        rw [ih]
        exact List.getElem?_eq_none_iff.mpr (by omega)
      rw [bfs_stop hn, ih]
/-- the search is at its end -/
def Done (R : List (List Int)) (k : Nat) : Prop := (bfs R k).length = k
theorem Done.at_ {k i : Nat} (d : Done R k) (h : i < k) : ∃ s, (bfs R i)[i]? = some s ∧ (bfs R k)[i]? = some s := by
  have hl : i < (bfs R i).length := by
    apply Decidable.byContradiction
    intro q
    have := bfs_const (R := R) (at_ := i) (k := k) (by omega) (by omega)
    unfold Done at d
    rw [this] at d
    omega
  refine ⟨(bfs R i)[i], List.getElem?_eq_getElem hl, ?_⟩
  obtain ⟨m, e⟩ := bfs_pre (R := R) (Nat.le_of_lt h)
  rw [← e, List.getElem?_append_left hl, List.getElem?_eq_getElem hl]
theorem Done.closed {k s t a : Nat} (d : Done R k) (hs : s ∈ bfs R k) (h : stI R s a = some t) : t ∈ bfs R k := by
  obtain ⟨i, hi, e⟩ := List.getElem_of_mem hs
  have hi' : i < k := by unfold Done at d; omega
  obtain ⟨s', e1, e2⟩ := d.at_ hi'
  rw [List.getElem?_eq_getElem hi, e] at e2
  have es := Option.some.inj e2
  subst es
  have : t ∈ bfs R (i + 1) := by
    rw [bfs_succ e1]
    exact mem_dedF.mpr (.inr (mem_posl.mpr ⟨a, h⟩))
  exact (bfs_pre (by omega)).subset this

/-! ### the languages in that order -/
noncomputable def kap (R : List (List Int)) (G : List Bool) (s : Nat) : Option Lang := if Lead (stI R) (gdI G) s then some (lang (stI R) (gdI G) s) else none
noncomputable def Lgs (R : List (List Int)) (G : List Bool) (P : List Nat) : List Lang := ded (P.filterMap (kap R G))
theorem kap_some {s : Nat} (h : Lead (stI R) (gdI G) s) : kap R G s = some (lang (stI R) (gdI G) s) := if_pos h
theorem kap_none {s : Nat} (h : ¬ Lead (stI R) (gdI G) s) : kap R G s = none := if_neg h
theorem mem_Lgs {P : List Nat} {ℓ : Lang} : ℓ ∈ Lgs R G P ↔ ∃ s ∈ P, Lead (stI R) (gdI G) s ∧ lang (stI R) (gdI G) s = ℓ := by
  unfold Lgs
  rw [mem_ded, List.mem_filterMap]
  constructor
  · rintro ⟨s, hs, e⟩
    by_cases h : Lead (stI R) (gdI G) s
    · rw [kap_some h] at e
      exact ⟨s, hs, h, Option.some.inj e⟩
    · rw [kap_none h] at e; cases e
  · rintro ⟨s, hs, h, e⟩
    exact ⟨s, hs, by rw [kap_some h, e]⟩
theorem Lgs_pre {P Q : List Nat} (h : P <+: Q) : Lgs R G P <+: Lgs R G Q := by
  obtain ⟨m, rfl⟩ := h
  unfold Lgs
  rw [List.filterMap_append]
  exact ded_app_pre _ _
theorem Lgs_snoc_none {P : List Nat} {t : Nat} (h : ¬ Lead (stI R) (gdI G) t) : Lgs R G (P ++ [t]) = Lgs R G P := by
  unfold Lgs
  rw [List.filterMap_append]
  have : List.filterMap (kap R G) [t] = [] := by simp [kap_none h]
  rw [this, List.append_nil]
theorem Lgs_snoc_some {P : List Nat} {t : Nat} (h : Lead (stI R) (gdI G) t) : Lgs R G (P ++ [t]) = addn (Lgs R G P) (lang (stI R) (gdI G) t) := by
  unfold Lgs
  rw [List.filterMap_append]
  have : List.filterMap (kap R G) [t] = [lang (stI R) (gdI G) t] := by simp [kap_some h]
  rw [this, ded_snoc]
theorem Lgs_addn_none {P : List Nat} {t : Nat} (h : ¬ Lead (stI R) (gdI G) t) : Lgs R G (addn P t) = Lgs R G P := by
  unfold addn
  by_cases ht : t ∈ P
  · rw [if_pos ht]
  · rw [if_neg ht]; exact Lgs_snoc_none h
theorem Lgs_addn_old {P : List Nat} {t : Nat} (h : Lead (stI R) (gdI G) t) (hm : lang (stI R) (gdI G) t ∈ Lgs R G P) : Lgs R G (addn P t) = Lgs R G P := by
  unfold addn
  by_cases ht : t ∈ P
  · rw [if_pos ht]
  · rw [if_neg ht, Lgs_snoc_some h]; exact if_pos hm
theorem Lgs_addn_new {P : List Nat} {t : Nat} (h : Lead (stI R) (gdI G) t) (hm : lang (stI R) (gdI G) t ∉ Lgs R G P) : Lgs R G (addn P t) = Lgs R G P ++ [lang (stI R) (gdI G) t] := by
  have ht : t ∉ P := fun q => hm (mem_Lgs.mpr ⟨t, q, h, rfl⟩)
  unfold addn
  rw [if_neg ht, Lgs_snoc_some h]; exact if_neg hm
/-- where all that comes is known, nothing new comes -/
theorem Lgs_dedF_old : ∀ (m P : List Nat), (∀ t ∈ m, Lead (stI R) (gdI G) t → lang (stI R) (gdI G) t ∈ Lgs R G P) → Lgs R G (dedF P m) = Lgs R G P
  | [], P, _ => rfl
  | t :: m, P, h => by
    have e : Lgs R G (addn P t) = Lgs R G P := by
      by_cases ht : Lead (stI R) (gdI G) t
      · exact Lgs_addn_old ht (h t List.mem_cons_self ht)
      · exact Lgs_addn_none ht
    show Lgs R G (dedF (addn P t) m) = _
    rw [Lgs_dedF_old m (addn P t) (fun u hu lu => by rw [e]; exact h u (List.mem_cons_of_mem _ hu) lu), e]

/-! ### a table that is numbered by the first words -/
def numRow (k : Nat) : List Int → Option Nat
  | [] => some k
  | x :: r => if (k : Int) < x then none else if x = k then numRow (k + 1) r else numRow k r
def numRows (s k : Nat) : List (List Int) → Bool
  | [] => true
  | r :: rs => if k ≤ s then false else match numRow k r with | none => false | some k' => numRows (s + 1) k' rs
def NumOk (R : List (List Int)) : Prop := numRows 0 1 R = true

noncomputable def nu (R : List (List Int)) (G : List Bool) (L : List Lang) (x : Int) : Int :=
  match pos x with
  | none => -1
  | some t => if Lead (stI R) (gdI G) t then (idx (lang (stI R) (gdI G) t) L : Nat) else -1
theorem sim_row {L : List Lang} : ∀ (r : List Int) (P : List Nat), Lgs R G (dedF P (posl r)) <+: L →
    numRow (Lgs R G P).length (r.map (nu R G L)) = some (Lgs R G (dedF P (posl r))).length
  | [], P, _ => rfl
  | x :: r, P, hp => by
    have hneg : ∀ (k : Nat) (z : List Int), numRow k (-1 :: z) = numRow k z := fun k z => by
      show (if (k : Int) < -1 then none else if (-1 : Int) = k then numRow (k + 1) z else numRow k z) = _
      rw [if_neg (by omega), if_neg (by omega)]
    show numRow (Lgs R G P).length (nu R G L x :: r.map (nu R G L)) = _
    cases hx : pos x with
    | none =>
      have e1 : nu R G L x = -1 := by unfold nu; rw [hx]
      have e2 : posl (x :: r) = posl r := by unfold posl; rw [List.filterMap_cons, hx]
      rw [e2] at hp ⊢
      rw [e1, hneg]
      exact sim_row r P hp
    | some t =>
      have e2 : posl (x :: r) = t :: posl r := by unfold posl; rw [List.filterMap_cons, hx]
      have e3 : dedF P (posl (x :: r)) = dedF (addn P t) (posl r) := by rw [e2]; rfl
      rw [e3] at hp ⊢
      have ih := sim_row r (addn P t) hp
      by_cases ht : Lead (stI R) (gdI G) t
      · have e1 : nu R G L x = (idx (lang (stI R) (gdI G) t) L : Nat) := by unfold nu; rw [hx]; exact if_pos ht
        by_cases hm : lang (stI R) (gdI G) t ∈ Lgs R G P
        · have e4 := Lgs_addn_old ht hm
          rw [e4] at ih
          have e5 : Lgs R G P <+: L := (Lgs_pre (pre_addn.trans pre_dedF)).trans hp
          have e6 : idx (lang (stI R) (gdI G) t) L < (Lgs R G P).length := by
            rw [idx_pre e5 hm]; exact idx_lt hm
          rw [e1]
          show (if ((Lgs R G P).length : Int) < _ then none else if _ = ((Lgs R G P).length : Int) then _ else _) = _
          rw [if_neg (by omega), if_neg (by omega)]
          exact ih
        · have e4 := Lgs_addn_new ht hm
          have e5 : Lgs R G P ++ [lang (stI R) (gdI G) t] <+: L := by rw [← e4]; exact (Lgs_pre pre_dedF).trans hp
          have e6 : idx (lang (stI R) (gdI G) t) L = (Lgs R G P).length := by
            rw [idx_pre e5 (by simp), idx_last hm]
          rw [e4, List.length_append] at ih
          rw [e1]
          show (if ((Lgs R G P).length : Int) < _ then none else if _ = ((Lgs R G P).length : Int) then _ else _) = _
          rw [if_neg (by omega), if_pos (by omega)]
          exact ih
      · have e1 : nu R G L x = -1 := by unfold nu; rw [hx]; exact if_neg ht
        have e4 := Lgs_addn_none (P := P) ht
        rw [e4] at ih
        rw [e1, hneg]
        exact ih

/-! ### the table of the languages -/
noncomputable def ent (L : List Lang) (ℓ : Lang) : Int := if Full ℓ then (idx ℓ L : Nat) else -1
noncomputable def rowL (c : Nat) (L : List Lang) (ℓ : Lang) : List Int := (List.range c).map fun a => ent L (der ℓ a)
noncomputable def finR (c : Nat) (L : List Lang) : List (List Int) := L.map (rowL c L)
noncomputable def finG (L : List Lang) : List Bool := L.map fun ℓ => ℓ []
theorem rowL_row (W : WF c R G) {L : List Lang} {s : Nat} (hs : s < R.length) : rowL c L (lang (stI R) (gdI G) s) = (row R s).map (nu R G L) := by
  have er : R[s]? = some R[s] := List.getElem?_eq_getElem hs
  have hl := (W.row R[s] (List.getElem_mem hs)).1
  have e0 : row R s = R[s] := row_get er
  rw [e0]
  apply List.ext_getElem?
  intro a
  unfold rowL
  rw [List.getElem?_map, List.getElem?_map]
  by_cases ha : a < c
  · rw [List.getElem?_range ha, List.getElem?_eq_getElem (by omega)]
    show some _ = some _
    congr 1
    have hd : (R.getD s []).getD a (-1) = R[s][a] := by
      show (row R s).getD a (-1) = _
      rw [e0, List.getD_eq_getElem?_getD, List.getElem?_eq_getElem (by omega)]; rfl
    show ent L _ = nu R G L R[s][a]
    unfold ent nu
    cases hp : pos R[s][a] with
    | none =>
      have : stI R s a = none := by unfold stI; rw [hd, hp]
      rw [if_neg (der_none this)]
    | some t =>
      have : stI R s a = some t := by unfold stI; rw [hd, hp]
      rw [der_some this]
      rfl
  · rw [List.getElem?_eq_none_iff.mpr (by simp; omega), List.getElem?_eq_none_iff.mpr (by omega)]; rfl
end
end Gal
end
section
set_option linter.all false
/-! the least table: what it is, that the search gives it, that it is one -/
namespace Gal
open Classical
section
variable {c : Nat} {R : List (List Int)} {G : List Bool}
abbrev L_ (R : List (List Int)) (G : List Bool) (s : Nat) : Lang := lang (stI R) (gdI G) s
/-- the numbering of the table of the languages -/
theorem sim (W : WF c R G) {k : Nat} (d : Done R k) (h0 : Lead (stI R) (gdI G) 0) : NumOk (finR c (Lgs R G (bfs R k))) := by
  have hL : ∃ L, L = Lgs R G (bfs R k) := ⟨_, rfl⟩
  obtain ⟨L, hL⟩ := hL
  rw [← hL]
  have key : ∀ i, i ≤ k → numRows 0 1 (finR c L) = numRows (Lgs R G ((bfs R k).take i)).length (Lgs R G (bfs R i)).length ((finR c L).drop (Lgs R G ((bfs R k).take i)).length) := by
    intro i
    induction i with
    | zero =>
      intro _
      have e1 : Lgs R G ((bfs R k).take 0) = [] := rfl
      have e2 : Lgs R G (bfs R 0) = [L_ R G 0] := by
        show Lgs R G ([] ++ [0]) = _
        rw [Lgs_snoc_some h0]; rfl
      rw [e1, e2]; rfl
    | succ i ih =>
      intro hi
      rw [ih (by omega)]
      obtain ⟨s, e1, e2⟩ := d.at_ (show i < k by omega)
      have eb := bfs_succ e1
      have et : (bfs R k).take (i + 1) = (bfs R k).take i ++ [s] := by rw [List.take_add_one, e2]; rfl
      have hsP : s ∈ bfs R i := List.mem_of_getElem? e1
      by_cases hs : Lead (stI R) (gdI G) s
      · by_cases hm : L_ R G s ∈ Lgs R G ((bfs R k).take i)
        · have e3 : Lgs R G ((bfs R k).take (i + 1)) = Lgs R G ((bfs R k).take i) := by
            rw [et, Lgs_snoc_some hs]; exact if_pos hm
          have e4 : Lgs R G (bfs R (i + 1)) = Lgs R G (bfs R i) := by
            rw [eb]
            refine Lgs_dedF_old _ _ fun t ht lt => ?_
            obtain ⟨a, ha⟩ := mem_posl.mp ht
            obtain ⟨s', hs', ls', el⟩ := mem_Lgs.mp hm
            have ed : der (L_ R G s') a = L_ R G t := by
              show der (lang (stI R) (gdI G) s') a = _
              rw [el]; exact der_some ha
            cases hst : stI R s' a with
            | none => exact absurd (by rw [ed]; exact lt) (der_none (g := gdI G) hst)
            | some t' =>
              have ed' := der_some (g := gdI G) hst
              have el' : L_ R G t' = L_ R G t := ed'.symm.trans ed
              refine mem_Lgs.mpr ⟨t', ?_, ?_, el'⟩
              · obtain ⟨j, hj, ej⟩ := List.getElem_of_mem hs'
                rw [List.length_take] at hj
                have hj' : j < i := by omega
                obtain ⟨s2, f1, f2⟩ := d.at_ (show j < k by omega)
                have es : s2 = s' := by
                  rw [List.getElem_take] at ej
                  rw [List.getElem?_eq_getElem (by omega)] at f2
                  rw [← ej]; exact (Option.some.inj f2).symm
                subst es
                have : t' ∈ bfs R (j + 1) := by
                  rw [bfs_succ f1]
                  exact mem_dedF.mpr (.inr (mem_posl.mpr ⟨a, hst⟩))
                exact (bfs_pre (by omega)).subset this
              · show Full (lang (stI R) (gdI G) t')
                rw [show lang (stI R) (gdI G) t' = lang (stI R) (gdI G) t from el']; exact lt
          rw [e3, e4]
        · -- a new row
          have e3 : Lgs R G ((bfs R k).take (i + 1)) = Lgs R G ((bfs R k).take i) ++ [L_ R G s] := by
            rw [et, Lgs_snoc_some hs]; exact if_neg hm
          have p1 : Lgs R G ((bfs R k).take i) ++ [L_ R G s] <+: L := by rw [← e3, hL]; exact Lgs_pre (List.take_prefix _ _)
          have p2 : Lgs R G (bfs R i) <+: L := by rw [hL]; exact Lgs_pre (bfs_pre (by omega))
          have hmem : L_ R G s ∈ Lgs R G (bfs R i) := mem_Lgs.mpr ⟨s, hsP, hs, rfl⟩
          have hidx : idx (L_ R G s) L = (Lgs R G ((bfs R k).take i)).length := by
            rw [idx_pre p1 (by simp), idx_last hm]
          have hlt : (Lgs R G ((bfs R k).take i)).length < (Lgs R G (bfs R i)).length := by
            rw [← hidx, idx_pre p2 hmem]; exact idx_lt hmem
          have hLi : L[(Lgs R G ((bfs R k).take i)).length]? = some (L_ R G s) := by
            rw [← hidx]; exact idx_get (p2.subset hmem)
          obtain ⟨hl1, hl2⟩ := List.getElem?_eq_some_iff.mp hLi
          have hslt := bfs_lt W i s hsP
          have ed : (finR c L).drop (Lgs R G ((bfs R k).take i)).length = (row R s).map (nu R G L) :: (finR c L).drop ((Lgs R G ((bfs R k).take i)).length + 1) := by
            have hl : (Lgs R G ((bfs R k).take i)).length < (finR c L).length := by unfold finR; rw [List.length_map]; exact hl1
            rw [List.drop_eq_getElem_cons hl]
            congr 1
            have eg : (finR c L)[(Lgs R G ((bfs R k).take i)).length]? = some (rowL c L (L_ R G s)) := by
              unfold finR
              rw [List.getElem?_map, hLi]; rfl
            rw [List.getElem?_eq_getElem hl] at eg
            rw [Option.some.inj eg]
            exact rowL_row W hslt
          rw [ed, e3]
          have pr : Lgs R G (dedF (bfs R i) (posl (row R s))) <+: L := by rw [← eb, hL]; exact Lgs_pre (bfs_pre (by omega))
          have sr := sim_row (row R s) (bfs R i) pr
          show (if (Lgs R G (bfs R i)).length ≤ _ then false else match numRow _ _ with | none => false | some k' => numRows _ k' _) = _
          rw [if_neg (by omega), sr]
          show numRows _ _ _ = _
          rw [eb, List.length_append]; rfl
      · have e3 : Lgs R G ((bfs R k).take (i + 1)) = Lgs R G ((bfs R k).take i) := by rw [et]; exact Lgs_snoc_none hs
        have e4 : Lgs R G (bfs R (i + 1)) = Lgs R G (bfs R i) := by
          rw [eb]
          refine Lgs_dedF_old _ _ fun t ht lt => ?_
          obtain ⟨a, ha⟩ := mem_posl.mp ht
          exact absurd (lead_of_step ha lt) hs
        rw [e3, e4]
  have := key k (Nat.le_refl _)
  unfold NumOk
  rw [this]
  have e : (bfs R k).take k = bfs R k := by rw [List.take_of_length_le]; unfold Done at d; omega
  rw [e, ← hL]
  have e2 : (finR c L).drop L.length = [] := by rw [List.drop_eq_nil_iff]; unfold finR; rw [List.length_map]; exact Nat.le_refl _
  rw [e2]; rfl

/-- closed lists of languages -/
structure Clo (c : Nat) (L : List Lang) : Prop where
  nd : L.Nodup
  full : ∀ ℓ ∈ L, Full ℓ
  der : ∀ ℓ ∈ L, ∀ a, Full (der ℓ a) → a < c ∧ Gal.der ℓ a ∈ L
theorem clo_Lgs (W : WF c R G) {k : Nat} (d : Done R k) : Clo c (Lgs R G (bfs R k)) := by
  refine ⟨nodup_ded, fun ℓ h => ?_, fun ℓ h a f => ?_⟩
  · obtain ⟨s, _, l, rfl⟩ := mem_Lgs.mp h
    exact l
  · obtain ⟨s, hs, l, rfl⟩ := mem_Lgs.mp h
    cases e : stI R s a with
    | none => exact absurd f (der_none e)
    | some t =>
      rw [der_some e] at f ⊢
      exact ⟨(stI_lt W e).2, mem_Lgs.mpr ⟨t, d.closed hs e, f, rfl⟩⟩
theorem fin_row {L : List Lang} {ℓ : Lang} (h : ℓ ∈ L) : row (finR c L) (idx ℓ L) = rowL c L ℓ := by
  apply row_get
  unfold finR
  rw [List.getElem?_map, idx_get h]; rfl
theorem fin_st {L : List Lang} (C : Clo c L) {ℓ : Lang} (h : ℓ ∈ L) (a : Nat) : stI (finR c L) (idx ℓ L) a = if Full (der ℓ a) then some (idx (der ℓ a) L) else none := by
  show pos ((row (finR c L) (idx ℓ L)).getD a (-1)) = _
  rw [fin_row h, List.getD_eq_getElem?_getD]
  unfold rowL
  rw [List.getElem?_map]
  by_cases ha : a < c
  · rw [List.getElem?_range ha]
    show pos (ent L (der ℓ a)) = _
    unfold ent
    by_cases f : Full (der ℓ a)
    · rw [if_pos f, if_pos f, pos_nat]
    · rw [if_neg f, if_neg f]; rfl
  · rw [List.getElem?_eq_none_iff.mpr (by simp; omega)]
    have f : ¬ Full (der ℓ a) := fun f => ha (C.der ℓ h a f).1
    rw [if_neg f]; rfl
theorem fin_acc {L : List Lang} (C : Clo c L) : ∀ (w : List Nat) (ℓ : Lang), ℓ ∈ L → acc (stI (finR c L)) (gdI (finG L)) w (idx ℓ L) = ℓ w
  | [], ℓ, h => by
    show gdI (finG L) (idx ℓ L) = ℓ []
    unfold gdI finG
    rw [List.getD_eq_getElem?_getD, List.getElem?_map, idx_get h]; rfl
  | a :: w, ℓ, h => by
    rw [acc, fin_st C h a]
    by_cases f : Full (der ℓ a)
    · rw [if_pos f]
      exact fin_acc C w (der ℓ a) (C.der ℓ h a f).2
    · rw [if_neg f]
      cases e : ℓ (a :: w) with
      | false => rfl
      | true => exact absurd ⟨w, e⟩ f
theorem fin_lang {L : List Lang} (C : Clo c L) {ℓ : Lang} (h : ℓ ∈ L) : L_ (finR c L) (finG L) (idx ℓ L) = ℓ := funext fun w => fin_acc C w ℓ h
theorem fin_wf {L : List Lang} (C : Clo c L) (h : 0 < L.length) : WF c (finR c L) (finG L) := by
  refine ⟨by unfold finR; rw [List.length_map]; exact h, by unfold finR finG; rw [List.length_map, List.length_map], fun r hr => ?_⟩
  obtain ⟨ℓ, hℓ, rfl⟩ := List.mem_map.mp hr
  refine ⟨by unfold rowL; simp, fun x hx => ?_⟩
  obtain ⟨a, _, rfl⟩ := List.mem_map.mp hx
  have e : (finR c L).length = L.length := by unfold finR; rw [List.length_map]
  unfold ent
  by_cases f : Full (der ℓ a)
  · rw [if_pos f, e]
    have := idx_lt (C.der ℓ hℓ a f).2
    omega
  · rw [if_neg f, e]; omega

/-- the least table -/
structure Least (c : Nat) (R : List (List Int)) (G : List Bool) : Prop where
  wf : WF c R G
  num : NumOk R
  trim : (∀ s, s < R.length → Lead (stI R) (gdI G) s) ∨ (R = [List.replicate c (-1)] ∧ G = [false])
  dist : ∀ s t, s < R.length → t < R.length → L_ R G s = L_ R G t → s = t
/-- R1, G1 is the least table with the strips of R, G -/
def LeastOf (c : Nat) (R : List (List Int)) (G : List Bool) (R1 : List (List Int)) (G1 : List Bool) : Prop := Least c R1 G1 ∧ L_ R1 G1 0 = L_ R G 0
theorem least_fin (W : WF c R G) {k : Nat} (d : Done R k) (h0 : Lead (stI R) (gdI G) 0) : LeastOf c R G (finR c (Lgs R G (bfs R k))) (finG (Lgs R G (bfs R k))) := by
  have C := clo_Lgs W d
  have hp : [L_ R G 0] <+: Lgs R G (bfs R k) := by
    have : Lgs R G (bfs R 0) = [L_ R G 0] := by
      show Lgs R G ([] ++ [0]) = _
      rw [Lgs_snoc_some h0]; rfl
    rw [← this]
    exact Lgs_pre (bfs_pre (Nat.zero_le k))
  have hm : L_ R G 0 ∈ Lgs R G (bfs R k) := hp.subset (by simp)
  have h0' : idx (L_ R G 0) (Lgs R G (bfs R k)) = 0 := by
    rw [idx_pre hp (by simp)]
    show (if _ = _ then 0 else _) = 0
    rw [if_pos rfl]
  have hl : 0 < (Lgs R G (bfs R k)).length := List.length_pos_of_mem hm
  have eL : (finR c (Lgs R G (bfs R k))).length = (Lgs R G (bfs R k)).length := by unfold finR; rw [List.length_map]
  have at_ : ∀ s, s < (Lgs R G (bfs R k)).length → ∃ ℓ ∈ Lgs R G (bfs R k), idx ℓ (Lgs R G (bfs R k)) = s ∧ L_ (finR c (Lgs R G (bfs R k))) (finG (Lgs R G (bfs R k))) s = ℓ := by
    intro s hs
    have e := List.getElem?_eq_getElem hs
    have hm := List.mem_of_getElem? e
    have ei := idx_at C.nd e
    exact ⟨_, hm, ei, by have := fin_lang C hm; rw [ei] at this; exact this⟩
  refine ⟨⟨fin_wf C hl, sim W d h0, .inl fun s hs => ?_, fun s t hs ht e => ?_⟩, ?_⟩
  · rw [eL] at hs
    obtain ⟨ℓ, hm, _, e⟩ := at_ s hs
    rw [lead_iff, show lang _ _ s = ℓ from e]
    exact C.full ℓ hm
  · rw [eL] at hs ht
    obtain ⟨ℓ, hm, i1, e1⟩ := at_ s hs
    obtain ⟨ℓ', hm', i2, e2⟩ := at_ t ht
    rw [← i1, ← i2, ← e1, ← e2, e]
  · have := fin_lang C hm
    rw [h0'] at this
    exact this
theorem replicate_st {s a : Nat} : stI [List.replicate c (-1)] s a = none := by
  show pos ((row [List.replicate c (-1)] s).getD a (-1)) = none
  cases s with
  | zero =>
    rw [row_get (r := List.replicate c (-1)) rfl, List.getD_eq_getElem?_getD, List.getElem?_replicate]
    by_cases h : a < c
    · rw [if_pos h]; rfl
    · rw [if_neg h]; rfl
  | succ s =>
    have : row [List.replicate c (-1)] (s + 1) = [] := rfl
    rw [this]; rfl
theorem empty_acc : ∀ w s, acc (stI [List.replicate c (-1)]) (gdI [false]) w s = false
  | [], s => by
    cases s with
    | zero => rfl
    | succ s => rfl
  | a :: w, s => by rw [acc, replicate_st]
theorem least_empty (W : WF c R G) (h0 : ¬ Lead (stI R) (gdI G) 0) : LeastOf c R G [List.replicate c (-1)] [false] := by
  refine ⟨⟨⟨by simp, rfl, fun r hr => ?_⟩, ?_, .inr ⟨rfl, rfl⟩, fun s t hs ht _ => ?_⟩, ?_⟩
  · have : r = List.replicate c (-1) := by simpa using hr
    subst this
    refine ⟨by simp, fun x hx => ?_⟩
    have := (List.mem_replicate.mp hx).2
    subst this
    simp
  · show numRows 0 1 [List.replicate c (-1)] = true
    have : ∀ n k, 0 < k → numRow k (List.replicate n (-1)) = some k := by
      intro n
      induction n with
      | zero => intro k _; rfl
      | succ n ih =>
        intro k hk
        rw [List.replicate_succ]
        show (if (k : Int) < -1 then none else if (-1 : Int) = k then numRow (k + 1) _ else numRow k _) = _
        rw [if_neg (by omega), if_neg (by omega)]
        exact ih k hk
    show (if 1 ≤ 0 then false else match numRow 1 (List.replicate c (-1)) with | none => false | some k' => numRows 1 k' []) = true
    rw [if_neg (by omega), this c 1 (by omega)]; rfl
  · simp at hs ht; omega
  · funext w
    show acc _ _ w 0 = acc _ _ w 0
    rw [empty_acc]
    cases e : acc (stI R) (gdI G) w 0 with
    | false => rfl
    | true => exact absurd ⟨w, e⟩ h0

/-! ### one least table -/
theorem one_row {R1 R2 : List (List Int)} {G1 G2 : List Bool} (A : Least c R1 G1) (B : Least c R2 G2) (tA : ∀ s, s < R1.length → Lead (stI R1) (gdI G1) s) (tB : ∀ s, s < R2.length → Lead (stI R2) (gdI G2) s) :
    ∀ (r1 r2 : List Int) (k k1 k2 : Nat), r1.length = r2.length → (∀ x ∈ r1, -1 ≤ x ∧ x < R1.length) → (∀ x ∈ r2, -1 ≤ x ∧ x < R2.length) →
      (∀ j, j < k → j < R1.length ∧ j < R2.length ∧ L_ R1 G1 j = L_ R2 G2 j) →
      (∀ (i : Nat) (x y : Int), r1[i]? = some x → r2[i]? = some y → (∀ t, pos x = some t → Full (L_ R1 G1 t) → ∃ u, pos y = some u ∧ L_ R1 G1 t = L_ R2 G2 u) ∧ (∀ u, pos y = some u → Full (L_ R2 G2 u) → ∃ t, pos x = some t ∧ L_ R1 G1 t = L_ R2 G2 u)) →
      numRow k r1 = some k1 → numRow k r2 = some k2 → r1 = r2 ∧ k1 = k2 ∧ ∀ j, j < k1 → j < R1.length ∧ j < R2.length ∧ L_ R1 G1 j = L_ R2 G2 j
  | [], [], k, k1, k2, _, _, _, hk, _, h1, h2 => by
    have e1 : k = k1 := Option.some.inj h1
    have e2 : k = k2 := Option.some.inj h2
    exact ⟨rfl, by omega, by rw [← e1]; exact hk⟩
  | [], _ :: _, _, _, _, hl, _, _, _, _, _, _ => by simp at hl
  | _ :: _, [], _, _, _, hl, _, _, _, _, _, _ => by simp at hl
  | x :: r1, y :: r2, k, k1, k2, hl, b1, b2, hk, hst, h1, h2 => by
    obtain ⟨bx1, bx2⟩ := b1 x List.mem_cons_self
    obtain ⟨by1, by2⟩ := b2 y List.mem_cons_self
    have h1' : (if (k : Int) < x then none else if x = k then numRow (k + 1) r1 else numRow k r1) = some k1 := h1
    have h2' : (if (k : Int) < y then none else if y = k then numRow (k + 1) r2 else numRow k r2) = some k2 := h2
    have nx : ¬ (k : Int) < x := fun q => by rw [if_pos q] at h1'; cases h1'
    have ny : ¬ (k : Int) < y := fun q => by rw [if_pos q] at h2'; cases h2'
    rw [if_neg nx] at h1'
    rw [if_neg ny] at h2'
    obtain ⟨s1, s2⟩ := hst 0 x y rfl rfl
    have hst' : ∀ (i : Nat) (x y : Int), r1[i]? = some x → r2[i]? = some y → (∀ t, pos x = some t → Full (L_ R1 G1 t) → ∃ u, pos y = some u ∧ L_ R1 G1 t = L_ R2 G2 u) ∧ (∀ u, pos y = some u → Full (L_ R2 G2 u) → ∃ t, pos x = some t ∧ L_ R1 G1 t = L_ R2 G2 u) :=
      fun i x y e1 e2 => hst (i + 1) x y (by simpa using e1) (by simpa using e2)
    have hl' : r1.length = r2.length := by simpa using hl
    have c1 : ∀ z ∈ r1, -1 ≤ z ∧ z < R1.length := fun z hz => b1 z (List.mem_cons_of_mem _ hz)
    have c2 : ∀ z ∈ r2, -1 ≤ z ∧ z < R2.length := fun z hz => b2 z (List.mem_cons_of_mem _ hz)
    -- x = y
    have exy : x = y ∧ (x = k → k < R1.length ∧ k < R2.length ∧ L_ R1 G1 k = L_ R2 G2 k) := by
      by_cases hx : 0 ≤ x
      · obtain ⟨u, hu, el⟩ := s1 _ (pos_nn hx) (tA x.toNat (by omega))
        have eu := pos_some hu
        have hu2 : u < R2.length := by omega
        by_cases hxk : x < k
        · obtain ⟨q1, q2, q3⟩ := hk x.toNat (by omega)
          have := B.dist x.toNat u q2 hu2 (q3.symm.trans el)
          exact ⟨by omega, fun e => by omega⟩
        · have exk : x = k := by omega
          have hyk : y = k := by
            apply Decidable.byContradiction
            intro q
            have : y < k := by omega
            obtain ⟨q1, q2, q3⟩ := hk u (by omega)
            have := A.dist x.toNat u (by omega) q1 (el.trans q3.symm)
            omega
          have z1 : x.toNat = k := by omega
          have z2 : u = k := by omega
          rw [z1, z2] at el
          exact ⟨by omega, fun _ => ⟨by omega, by omega, el⟩⟩
      · by_cases hy : 0 ≤ y
        · obtain ⟨t, ht, _⟩ := s2 _ (pos_nn hy) (tB y.toNat (by omega))
          have := pos_some ht
          omega
        · exact ⟨by omega, fun e => by omega⟩
    obtain ⟨rfl, hk1⟩ := exy
    by_cases hxk : x = k
    · rw [if_pos hxk] at h1' h2'
      have hk' : ∀ j, j < k + 1 → j < R1.length ∧ j < R2.length ∧ L_ R1 G1 j = L_ R2 G2 j := fun j hj => by
        by_cases e : j = k
        · subst e; exact hk1 hxk
        · exact hk j (by omega)
      obtain ⟨p1, p2, p3⟩ := one_row A B tA tB r1 r2 (k + 1) k1 k2 hl' c1 c2 hk' hst' h1' h2'
      exact ⟨by rw [p1], p2, p3⟩
    · rw [if_neg hxk] at h1' h2'
      obtain ⟨p1, p2, p3⟩ := one_row A B tA tB r1 r2 k k1 k2 hl' c1 c2 hk hst' h1' h2'
      exact ⟨by rw [p1], p2, p3⟩
theorem one_rows {R1 R2 : List (List Int)} {G1 G2 : List Bool} (A : Least c R1 G1) (B : Least c R2 G2) (tA : ∀ s, s < R1.length → Lead (stI R1) (gdI G1) s) (tB : ∀ s, s < R2.length → Lead (stI R2) (gdI G2) s) :
    ∀ (r1 r2 : List (List Int)) (s k : Nat), R1.drop s = r1 → R2.drop s = r2 → (∀ j, j < k → j < R1.length ∧ j < R2.length ∧ L_ R1 G1 j = L_ R2 G2 j) →
      numRows s k r1 = true → numRows s k r2 = true → r1 = r2
  | [], [], _, _, _, _, _, _, _ => rfl
  | [], q :: r2, s, k, e1, e2, hk, h1, h2 => by
    have h2' : (if k ≤ s then false else match numRow k q with | none => false | some k' => numRows (s + 1) k' r2) = true := h2
    have hs : ¬ k ≤ s := fun z => by rw [if_pos z] at h2'; cases h2'
    have := (hk s (by omega)).1
    have := List.drop_eq_nil_iff.mp e1
    omega
  | q :: r1, [], s, k, e1, e2, hk, h1, h2 => by
    have h1' : (if k ≤ s then false else match numRow k q with | none => false | some k' => numRows (s + 1) k' r1) = true := h1
    have hs : ¬ k ≤ s := fun z => by rw [if_pos z] at h1'; cases h1'
    have := (hk s (by omega)).2.1
    have := List.drop_eq_nil_iff.mp e2
    omega
  | p :: r1, q :: r2, s, k, e1, e2, hk, h1, h2 => by
    have h1' : (if k ≤ s then false else match numRow k p with | none => false | some k' => numRows (s + 1) k' r1) = true := h1
    have h2' : (if k ≤ s then false else match numRow k q with | none => false | some k' => numRows (s + 1) k' r2) = true := h2
    have hs : ¬ k ≤ s := fun z => by rw [if_pos z] at h1'; cases h1'
    rw [if_neg hs] at h1' h2'
    obtain ⟨l1, l2, l3⟩ := hk s (by omega)
    have g1 : R1[s]? = some p := by
      have := List.getElem?_drop (xs := R1) (i := s) (j := 0)
      rw [e1] at this
      simpa using this.symm
    have g2 : R2[s]? = some q := by
      have := List.getElem?_drop (xs := R2) (i := s) (j := 0)
      rw [e2] at this
      simpa using this.symm
    obtain ⟨w1, w2⟩ := A.wf.row p (List.mem_of_getElem? g1)
    obtain ⟨v1, v2⟩ := B.wf.row q (List.mem_of_getElem? g2)
    have st1 : ∀ (i : Nat) x, p[i]? = some x → stI R1 s i = pos x := fun i x e => by
      show pos ((row R1 s).getD i (-1)) = _
      rw [row_get g1, List.getD_eq_getElem?_getD, e]; rfl
    have st2 : ∀ (i : Nat) x, q[i]? = some x → stI R2 s i = pos x := fun i x e => by
      show pos ((row R2 s).getD i (-1)) = _
      rw [row_get g2, List.getD_eq_getElem?_getD, e]; rfl
    cases n1 : numRow k p with
    | none => rw [n1] at h1'; cases h1'
    | some k1 =>
      cases n2 : numRow k q with
      | none => rw [n2] at h2'; cases h2'
      | some k2 =>
        rw [n1] at h1'
        rw [n2] at h2'
        obtain ⟨p1, p2, p3⟩ := one_row A B tA tB p q k k1 k2 (by omega) w2 v2 hk (fun i x y ex ey => by
          have a1 := st1 i x ex
          have a2 := st2 i y ey
          constructor
          · intro t ht ft
            rw [ht] at a1
            have d1 := der_some (g := gdI G1) a1
            have d1' : der (L_ R2 G2 s) i = L_ R1 G1 t := by rw [← l3]; exact d1
            cases e : pos y with
            | none =>
              rw [e] at a2
              exact absurd (by rw [d1']; exact ft) (der_none (g := gdI G2) a2)
            | some u =>
              rw [e] at a2
              have d2 := der_some (g := gdI G2) a2
              exact ⟨u, rfl, d1'.symm.trans d2⟩
          · intro u hu fu
            rw [hu] at a2
            have d2 := der_some (g := gdI G2) a2
            have d2' : der (L_ R1 G1 s) i = L_ R2 G2 u := by rw [l3]; exact d2
            cases e : pos x with
            | none =>
              rw [e] at a1
              exact absurd (by rw [d2']; exact fu) (der_none (g := gdI G1) a1)
            | some t =>
              rw [e] at a1
              have d1 := der_some (g := gdI G1) a1
              exact ⟨t, rfl, d1.symm.trans d2'⟩) n1 n2
        have f1 : R1.drop (s + 1) = r1 := by
          have := List.drop_eq_getElem_cons l1
          rw [e1] at this
          injection this with _ h
          exact h.symm
        have f2 : R2.drop (s + 1) = r2 := by
          have := List.drop_eq_getElem_cons l2
          rw [e2] at this
          injection this with _ h
          exact h.symm
        subst p2
        rw [p1, one_rows A B tA tB r1 r2 (s + 1) k1 f1 f2 p3 h1' h2']
theorem goods_at {s : Nat} : gdI G s = L_ R G s [] := rfl
theorem one_least {R1 R2 : List (List Int)} {G1 G2 : List Bool} (A : Least c R1 G1) (B : Least c R2 G2) (h : L_ R1 G1 0 = L_ R2 G2 0) : R1 = R2 ∧ G1 = G2 := by
  rcases A.trim with tA | ⟨a1, a2⟩
  · rcases B.trim with tB | ⟨b1, b2⟩
    · have hR : R1 = R2 := by
        refine one_rows A B tA tB R1 R2 0 1 rfl rfl (fun j hj => ?_) A.num B.num
        have : j = 0 := by omega
        subst this
        exact ⟨A.wf.pos, B.wf.pos, h⟩
      refine ⟨hR, ?_⟩
      subst hR
      -- the goods
      have all : ∀ s, s < R1.length → L_ R1 G1 s = L_ R1 G2 s := by
        -- by the numbering again: every state is known at the end
        have : ∀ (rs : List (List Int)) (s k : Nat), R1.drop s = rs → (∀ j, j < k → j < R1.length ∧ L_ R1 G1 j = L_ R1 G2 j) → numRows s k rs = true → ∀ j, j < R1.length → j < s ∨ L_ R1 G1 j = L_ R1 G2 j := by
          intro rs
          induction rs with
          | nil =>
            intro s k e _ _ j hj
            have := List.drop_eq_nil_iff.mp e
            exact .inl (by omega)
          | cons p rs ih =>
            intro s k e hk hn j hj
            have hn' : (if k ≤ s then false else match numRow k p with | none => false | some k' => numRows (s + 1) k' rs) = true := hn
            have hs : ¬ k ≤ s := fun z => by rw [if_pos z] at hn'; cases hn'
            rw [if_neg hs] at hn'
            obtain ⟨l1, l3⟩ := hk s (by omega)
            have g1 : R1[s]? = some p := by
              have := List.getElem?_drop (xs := R1) (i := s) (j := 0)
              rw [e] at this
              simpa using this.symm
            obtain ⟨w1, w2⟩ := A.wf.row p (List.mem_of_getElem? g1)
            have st1 : ∀ (i : Nat) x, p[i]? = some x → stI R1 s i = pos x := fun i x e => by
              show pos ((row R1 s).getD i (-1)) = _
              rw [row_get g1, List.getD_eq_getElem?_getD, e]; rfl
            cases n1 : numRow k p with
            | none => rw [n1] at hn'; cases hn'
            | some k1 =>
              rw [n1] at hn'
              obtain ⟨_, _, p3⟩ := one_row A B tA tB p p k k1 k1 rfl w2 w2 (fun j hj => ⟨(hk j hj).1, (hk j hj).1, (hk j hj).2⟩) (fun i x y ex ey => by
                rw [ex] at ey
                have exy := Option.some.inj ey
                subst exy
                have a1 := st1 i x ex
                constructor
                · intro t ht ft
                  rw [ht] at a1
                  refine ⟨t, ht, ?_⟩
                  exact (der_some (g := gdI G1) a1).symm.trans ((congrArg (fun z => der z i) l3).trans (der_some (g := gdI G2) a1))
                · intro t ht ft
                  rw [ht] at a1
                  refine ⟨t, ht, ?_⟩
                  exact (der_some (g := gdI G1) a1).symm.trans ((congrArg (fun z => der z i) l3).trans (der_some (g := gdI G2) a1))) n1 n1
              have f1 : R1.drop (s + 1) = rs := by
                have := List.drop_eq_getElem_cons l1
                rw [e] at this
                injection this with _ h
                exact h.symm
              rcases ih (s + 1) k1 f1 (fun j hj => ⟨(p3 j hj).1, (p3 j hj).2.2⟩) hn' j hj with q | q
              · by_cases e : j = s
                · subst e; exact .inr l3
                · exact .inl (by omega)
              · exact .inr q
        intro s hs
        rcases this R1 0 1 rfl (fun j hj => by
          have : j = 0 := by omega
          subst this
          exact ⟨A.wf.pos, h⟩) A.num s hs with q | q
        · omega
        · exact q
      apply List.ext_getElem?
      intro i
      by_cases hi : i < R1.length
      · have e := congrFun (all i hi) []
        have e' : gdI G1 i = gdI G2 i := e
        unfold gdI at e'
        rw [List.getD_eq_getElem?_getD, List.getD_eq_getElem?_getD, List.getElem?_eq_getElem (by rw [A.wf.len]; exact hi), List.getElem?_eq_getElem (by rw [B.wf.len]; exact hi)] at e'
        rw [List.getElem?_eq_getElem (by rw [A.wf.len]; exact hi), List.getElem?_eq_getElem (by rw [B.wf.len]; exact hi)]
        exact congrArg some e'
      · rw [List.getElem?_eq_none_iff.mpr (by rw [A.wf.len]; omega), List.getElem?_eq_none_iff.mpr (by rw [B.wf.len]; omega)]
    · exfalso
      subst b1; subst b2
      obtain ⟨w, hw⟩ := tA 0 A.wf.pos
      have := congrFun h w
      have e : acc (stI R1) (gdI G1) w 0 = acc (stI [List.replicate c (-1)]) (gdI [false]) w 0 := this
      rw [hw, empty_acc] at e
      cases e
  · rcases B.trim with tB | ⟨b1, b2⟩
    · exfalso
      subst a1; subst a2
      obtain ⟨w, hw⟩ := tB 0 B.wf.pos
      have := congrFun h w
      have e : acc (stI [List.replicate c (-1)]) (gdI [false]) w 0 = acc (stI R2) (gdI G2) w 0 := this
      rw [hw, empty_acc] at e
      cases e
    · exact ⟨a1.trans b1.symm, a2.trans b2.symm⟩
end
end Gal
end
section
set_option Elab.async false
set_option linter.all false
namespace Gal
/-! ### leads -/
theorem cnt_mono : ∀ (M N : List Bool), M.length = N.length → (∀ i, M.getD i false = true → N.getD i false = true) → M.count true ≤ N.count true ∧ (N.count true ≤ M.count true → M = N)
  | [], [], _, _ => ⟨Nat.le_refl _, fun _ => rfl⟩
  | [], _ :: _, h, _ => by simp at h
  | _ :: _, [], h, _ => by simp at h
  | a :: M, b :: N, h, f => by
    have ih := cnt_mono M N (by simpa using h) fun i hi => by
      have := f (i + 1) (by simpa using hi)
      simpa using this
    have f0 : a = true → b = true := fun e => by
      have := f 0 (by simpa using e)
      simpa using this
    cases a <;> cases b
    · simp; exact ⟨ih.1, ih.2⟩
    · simp
      have := ih.1
      omega
    · exact absurd (f0 rfl) (by decide)
    · simp; exact ⟨ih.1, ih.2⟩
theorem cnt_len (M : List Bool) : M.count true ≤ M.length := List.count_le_length
theorem cnt_all {M : List Bool} (h : M.length ≤ M.count true) {i : Nat} (hi : i < M.length) : M.getD i false = true := by
  have e : M.count true = M.length := Nat.le_antisymm (cnt_len M) h
  have := (List.count_eq_length.mp e) M[i] (List.getElem_mem hi)
  rw [List.getD_eq_getElem?_getD, List.getElem?_eq_getElem hi]
  exact this.symm
theorem all_cnt {M : List Bool} (h : ∀ i, i < M.length → M.getD i false = true) : M.count true = M.length := by
  refine List.count_eq_length.mpr fun b hb => ?_
  obtain ⟨i, hi, e⟩ := List.getElem_of_mem hb
  have := h i hi
  rw [List.getD_eq_getElem?_getD, List.getElem?_eq_getElem hi, e] at this
  exact this.symm
variable {c : Nat} {R : List (List Int)} {G M : List Bool}
theorem lead_all (h0 : ∀ s, gdI G s = true → gdI M s = true) (h1 : ∀ s a t, stI R s a = some t → gdI M t = true → gdI M s = true) : ∀ (w : List Nat) (s : Nat), acc (stI R) (gdI G) w s = true → gdI M s = true
  | [], s, h => h0 s h
  | a :: w, s, h => by
    unfold acc at h
    cases e : stI R s a with
    | none => rw [e] at h; cases h
    | some t =>
      rw [e] at h
      exact h1 s a t e (lead_all h0 h1 w t h)
theorem gd_set {M : List Bool} {i s : Nat} (hi : i < M.length) : gdI (M.set i true) s = if s = i then true else gdI M s := by
  unfold gdI
  rw [List.getD_eq_getElem?_getD, List.getD_eq_getElem?_getD, List.getElem?_set]
  by_cases e : i = s
  · subst e; rw [if_pos rfl, if_pos hi, if_pos rfl]; rfl
  · rw [if_neg e, if_neg (fun z => e z.symm)]

/-! ### kinds -/
def kAt (KS : List Int) (x : Int) : Int := if 0 ≤ x then KS.getD x.toNat (-1) else -1
def sigR (KS : List Int) (R : List (List Int)) (s : Nat) : Int × List Int := (KS.getD s 0, (row R s).map (kAt KS))
def sigs (KS : List Int) (R : List (List Int)) : List (Int × List Int) := (List.range R.length).map (sigR KS R)
theorem sigs_len {KS : List Int} : (sigs KS R).length = R.length := by unfold sigs; rw [List.length_map, List.length_range]
theorem sigs_get {KS : List Int} {s : Nat} (h : s < R.length) : (sigs KS R)[s]? = some (sigR KS R s) := by
  unfold sigs
  rw [List.getElem?_map, List.getElem?_range h]; rfl
theorem sigs_rfn {KS : List Int} (h : KS.length = R.length) : Rfn (sigs KS R) KS := by
  refine ⟨by rw [sigs_len, h], fun i j hi hj e => ?_⟩
  rw [sigs_len] at hi hj
  rw [sigs_get hi, sigs_get hj] at e
  have e1 := congrArg Prod.fst (Option.some.inj e)
  have e2 : KS.getD i 0 = KS.getD j 0 := e1
  rw [List.getD_eq_getElem?_getD, List.getD_eq_getElem?_getD, List.getElem?_eq_getElem (by omega), List.getElem?_eq_getElem (by omega)] at e2
  rw [List.getElem?_eq_getElem (by omega), List.getElem?_eq_getElem (by omega)]
  exact congrArg some e2
/-- equal classes: equal truth values -/
def Gds (KS : List Int) (G : List Bool) : Prop := ∀ i j, i < KS.length → j < KS.length → KS[i]? = KS[j]? → gdI G i = gdI G j
theorem Gds.mono {KS KS' : List Int} (h : Gds KS G) (r : Rfn KS' KS) : Gds KS' G := fun i j hi hj e => h i j (by rw [← r.1]; exact hi) (by rw [← r.1]; exact hj) (r.2 i j hi hj e)
theorem stI_row {s a : Nat} : stI R s a = pos ((row R s).getD a (-1)) := rfl
theorem kAt_eq {KS : List Int} (hn : ∀ k ∈ KS, 0 ≤ k) {x y : Int} (hx : x < KS.length) (hy : y < KS.length) (e : kAt KS x = kAt KS y) :
    (pos x = none ∧ pos y = none) ∨ ∃ s t, pos x = some s ∧ pos y = some t ∧ s < KS.length ∧ t < KS.length ∧ KS[s]? = KS[t]? := by
  have g : ∀ {z : Int}, 0 ≤ z → z < KS.length → ∃ s, pos z = some s ∧ s < KS.length ∧ ∃ k, KS[s]? = some k ∧ kAt KS z = k ∧ 0 ≤ k := fun {z} h1 h2 => by
    have hl : z.toNat < KS.length := by omega
    refine ⟨z.toNat, pos_nn h1, hl, KS[z.toNat], List.getElem?_eq_getElem hl, ?_, hn _ (List.getElem_mem hl)⟩
    unfold kAt
    rw [if_pos h1, List.getD_eq_getElem?_getD, List.getElem?_eq_getElem hl]; rfl
  have n : ∀ {z : Int}, z < 0 → pos z = none ∧ kAt KS z = -1 := fun {z} h => ⟨pos_neg h, by unfold kAt; rw [if_neg (by omega)]⟩
  by_cases h1 : 0 ≤ x <;> by_cases h2 : 0 ≤ y
  · obtain ⟨s, p1, l1, k, e1, e2, _⟩ := g h1 hx
    obtain ⟨t, p2, l2, k', e3, e4, _⟩ := g h2 hy
    exact .inr ⟨s, t, p1, p2, l1, l2, by rw [e1, e3, ← e2, ← e4, e]⟩
  · obtain ⟨s, p1, l1, k, e1, e2, k0⟩ := g h1 hx
    have := (n (z := y) (by omega)).2
    omega
  · obtain ⟨s, p1, l1, k, e1, e2, k0⟩ := g h2 hy
    have := (n (z := x) (by omega)).2
    omega
  · exact .inl ⟨(n (by omega)).1, (n (by omega)).1⟩
theorem stable_acc {KS : List Int} (W : WF c R G) (h : KS.length = R.length) (hn : ∀ k ∈ KS, 0 ≤ k) (hg : Gds KS G) (hs : Rfn KS (sigs KS R)) :
    ∀ (w : List Nat) (i j : Nat), i < R.length → j < R.length → KS[i]? = KS[j]? → acc (stI R) (gdI G) w i = acc (stI R) (gdI G) w j
  | [], i, j, hi, hj, e => hg i j (by omega) (by omega) e
  | a :: w, i, j, hi, hj, e => by
    have e1 := hs.2 i j (by omega) (by omega) e
    rw [sigs_get hi, sigs_get hj] at e1
    have e2 : (row R i).map (kAt KS) = (row R j).map (kAt KS) := congrArg Prod.snd (Option.some.inj e1)
    have e3 : kAt KS ((row R i).getD a (-1)) = kAt KS ((row R j).getD a (-1)) := by
      have q := congrArg (fun l : List Int => l.getD a (-1)) e2
      have g : ∀ r : List Int, (r.map (kAt KS)).getD a (-1) = kAt KS (r.getD a (-1)) := fun r => by
        rw [List.getD_eq_getElem?_getD, List.getD_eq_getElem?_getD, List.getElem?_map]
        cases r[a]? with
        | none => show (-1 : Int) = kAt KS (-1); unfold kAt; rw [if_neg (by omega)]
        | some x => rfl
      simp only [g] at q
      exact q
    have bd : ∀ s, s < R.length → (row R s).getD a (-1) < (KS.length : Int) := fun s hs' => by
      have hm : row R s ∈ R := by rw [row_get (List.getElem?_eq_getElem hs')]; exact List.getElem_mem hs'
      rw [List.getD_eq_getElem?_getD]
      cases e5 : (row R s)[a]? with
      | none => show (-1 : Int) < _; omega
      | some x => have := ((W.row _ hm).2 x (List.mem_of_getElem? e5)).2; show x < _; omega
    unfold acc
    rw [stI_row, stI_row]
    rcases kAt_eq hn (bd i hi) (bd j hj) e3 with ⟨h1, h2⟩ | ⟨s, t, h1, h2, h3, h4, h5⟩
    · rw [h1, h2]
    · rw [h1, h2]
      exact stable_acc W h hn hg hs w s t (by omega) (by omega) h5
/-- all kinds are told apart -/
theorem kinds_all {KS : List Int} (W : WF c R G) (h : KS.length = R.length) (hn : ∀ k ∈ KS, 0 ≤ k) (hg : Gds KS G) (hs : Rfn KS (sigs KS R))
    (hd : ∀ s t, s < R.length → t < R.length → L_ R G s = L_ R G t → s = t) : (ded KS).length = R.length := by
  have nd : KS.Nodup := by
    rw [List.nodup_iff_pairwise_ne, List.pairwise_iff_getElem]
    intro i j hi hj hij e
    have := hd i j (by omega) (by omega) (funext fun w => stable_acc W h hn hg hs w i j (by omega) (by omega) (by rw [List.getElem?_eq_getElem hi, List.getElem?_eq_getElem hj, e]))
    omega
  rw [ded_of_nodup nd, h]
theorem ded_numb_len {α : Type} [DecidableEq α] {l : List α} : (ded (numb l)).length = (ded l).length := by
  have h1 := rfn_le (numb l) l (numb_len l) (numb_rfn l)
  have h2 := rfn_le l (numb l) (numb_len l).symm (rfn_numb l)
  omega
theorem stable_of {KS : List Int} (h : KS.length = R.length) (e : (ded KS).length = (ded (sigs KS R)).length) : Rfn KS (sigs KS R) := by
  have e1 := rfn_eq (sigs KS R) KS (by rw [sigs_len, h]) (sigs_rfn h) e
  refine ⟨by rw [sigs_len, h], fun i j hi hj e2 => ?_⟩
  have hi' : i < (sigs KS R).length := by rw [sigs_len]; omega
  have hj' : j < (sigs KS R).length := by rw [sigs_len]; omega
  have q := (rfn_numb KS).2 i j hi hj e2
  rw [← e1] at q
  exact (numb_rfn (sigs KS R)).2 i j (by rw [numb_len]; exact hi') (by rw [numb_len]; exact hj') q

/-! ### alike -/
def langO (R : List (List Int)) (G : List Bool) (x : Int) (w : List Nat) : Bool := match pos x with
  | none => false
  | some s => acc (stI R) (gdI G) w s
def gdO (G : List Bool) (x : Int) : Bool := if 0 ≤ x then gdI G x.toNat else false
def stO (R : List (List Int)) (x : Int) (a : Nat) : Int := if 0 ≤ x then (row R x.toNat).getD a (-1) else -1
theorem langO_nil {x : Int} : langO R G x [] = gdO G x := by
  unfold langO gdO
  by_cases h : 0 ≤ x
  · rw [pos_nn h, if_pos h]; rfl
  · rw [pos_neg (by omega), if_neg h]
theorem langO_cons {x : Int} {a : Nat} {w : List Nat} : langO R G x (a :: w) = langO R G (stO R x a) w := by
  unfold langO stO
  by_cases h : 0 ≤ x
  · rw [pos_nn h, if_pos h]
    show acc (stI R) (gdI G) (a :: w) x.toNat = _
    conv => lhs; unfold acc
    rw [stI_row] <;> (cases pos ((row R x.toNat).getD a (-1)) <;> rfl)
  · rw [pos_neg (by omega), if_neg h]
    show false = match pos (-1) with | none => false | some s => acc (stI R) (gdI G) w s
    rw [pos_neg (by omega)]
theorem langO_zero : langO R G 0 = L_ R G 0 := rfl
section
variable {R' : List (List Int)} {G' : List Bool} {Qs : List (Int × Int)}
theorem bisim (hg : ∀ p ∈ Qs, gdO G p.1 = gdO G' p.2) (hs : ∀ p ∈ Qs, ∀ a, a < c → (stO R p.1 a, stO R' p.2 a) ∈ Qs) (hc : ∀ x a, c ≤ a → stO R x a = -1) (hc' : ∀ x a, c ≤ a → stO R' x a = -1) :
    ∀ (w : List Nat) (p : Int × Int), p ∈ Qs → langO R G p.1 w = langO R' G' p.2 w
  | [], p, hp => by rw [langO_nil, langO_nil, hg p hp]
  | a :: w, p, hp => by
    rw [langO_cons, langO_cons]
    by_cases h : a < c
    · exact bisim hg hs hc hc' w _ (hs p hp a h)
    · rw [hc _ a (by omega), hc' _ a (by omega)]; rfl
theorem stO_out (W : WF c R G) {x : Int} {a : Nat} (h : c ≤ a) : stO R x a = -1 := by
  unfold stO
  by_cases h0 : 0 ≤ x
  · rw [if_pos h0]
    by_cases h1 : x.toNat < R.length
    · have hm : row R x.toNat ∈ R := by rw [row_get (List.getElem?_eq_getElem h1)]; exact List.getElem_mem h1
      rw [List.getD_eq_getElem?_getD, List.getElem?_eq_none (by rw [(W.row _ hm).1]; exact h)]; rfl
    · have e : row R x.toNat = [] := by unfold row; rw [List.getD_eq_getElem?_getD, List.getElem?_eq_none (by omega)]; rfl
      rw [e]; rfl
  · rw [if_neg h0]
theorem stO_bd (W : WF c R G) {x : Int} {a : Nat} : -1 ≤ stO R x a ∧ stO R x a < R.length := by
  have hp := W.pos
  unfold stO
  by_cases h0 : 0 ≤ x
  · rw [if_pos h0]
    by_cases h1 : x.toNat < R.length
    · have hm : row R x.toNat ∈ R := by rw [row_get (List.getElem?_eq_getElem h1)]; exact List.getElem_mem h1
      rw [List.getD_eq_getElem?_getD]
      cases e : (row R x.toNat)[a]? with
      | none => exact ⟨Int.le_refl _, by show (-1 : Int) < _; omega⟩
      | some y => exact (W.row _ hm).2 y (List.mem_of_getElem? e)
    · have e : row R x.toNat = [] := by unfold row; rw [List.getD_eq_getElem?_getD, List.getElem?_eq_none (by omega)]; rfl
      rw [e]; exact ⟨Int.le_refl _, by show (-1 : Int) < _; omega⟩
  · rw [if_neg h0]; omega
theorem nodup_len {α : Type} [DecidableEq α] : ∀ {l m : List α}, l.Nodup → (∀ x ∈ l, x ∈ m) → l.length ≤ m.length
  | [], _, _, _ => Nat.zero_le _
  | a :: l, m, nd, h => by
    have h1 := List.nodup_cons.mp nd
    have ha : a ∈ m := h a List.mem_cons_self
    have ih := nodup_len (m := m.erase a) h1.2 fun x hx => (List.mem_erase_of_ne (show x ≠ a from fun z => h1.1 (by rw [← z]; exact hx))).mpr (h x (List.mem_cons_of_mem _ hx))
    rw [List.length_erase_of_mem ha] at ih
    have := List.length_pos_of_mem ha
    rw [List.length_cons]; omega
/-- no more pairs than fit -/
theorem pairs_few (n m : Nat) (nd : Qs.Nodup) (hb : ∀ p ∈ Qs, (-1 ≤ p.1 ∧ p.1 < n) ∧ (-1 ≤ p.2 ∧ p.2 < m)) : Qs.length ≤ n * m + n + m + 1 := by
  let all : List (Int × Int) := (List.range (n + 1)).flatMap fun (i : Nat) => (List.range (m + 1)).map fun (j : Nat) => ((i : Int) - 1, (j : Int) - 1)
  have hsub : Qs ⊆ all := fun p hp => by
    obtain ⟨⟨h1, h2⟩, h3, h4⟩ := hb p hp
    refine List.mem_flatMap.mpr ⟨(p.1 + 1).toNat, List.mem_range.mpr (by omega), List.mem_map.mpr ⟨(p.2 + 1).toNat, List.mem_range.mpr (by omega), ?_⟩⟩
    refine Prod.ext ?_ ?_
    · show ((p.1 + 1).toNat : Int) - 1 = p.1; omega
    · show ((p.2 + 1).toNat : Int) - 1 = p.2; omega
  have hl := nodup_len nd fun x hx => hsub hx
  have ha : all.length = (n + 1) * (m + 1) := by
    show ((List.range (n + 1)).flatMap fun (i : Nat) => (List.range (m + 1)).map fun (j : Nat) => ((i : Int) - 1, (j : Int) - 1)).length = _
    rw [List.length_flatMap]
    have : (List.map (fun (a : Nat) => ((List.range (m + 1)).map fun j : Nat => ((a : Int) - 1, (j : Int) - 1)).length) (List.range (n + 1))) = List.replicate (n + 1) (m + 1) := by
      refine List.eq_replicate_iff.mpr ⟨by simp, fun b hb => ?_⟩
      obtain ⟨a, _, rfl⟩ := List.mem_map.mp hb
      simp
    rw [this, List.sum_replicate_nat]
  have e : (n + 1) * (m + 1) = n * m + n + m + 1 := by rw [Nat.add_mul, Nat.mul_add]; omega
  omega
end
end Gal
end
section
set_option Elab.async false
set_option linter.all false
set_option maxRecDepth 100000
set_option maxHeartbeats 4000000
/-! the text by places, what the top has made of it -/
namespace Gal
open PySem PySem.Spec PyProof.Rows L2
def topS (i : Nat) : Stmt := PySem.Challenge.pw_galloon_k04_whole_least_tables.main.body.getD i (.Pass ⟨0, 0, 0, 0⟩)
abbrev s_power : Stmt := topS 14
abbrev s_s_init : Stmt := inClass (topS 15) 2
abbrev s_s_eq : Stmt := inClass (topS 15) 13
abbrev s_s_len : Stmt := inClass (topS 15) 14
abbrev s_found_states : Stmt := topS 18
abbrev s_leading_on : Stmt := topS 21
abbrev s_numbered : Stmt := topS 22
abbrev s_classes_of : Stmt := topS 23
abbrev s_trimmed : Stmt := topS 24
abbrev s_least : Stmt := topS 25
abbrev s_check_table : Stmt := topS 39
abbrev s_step_dicts : Stmt := topS 40
abbrev s_step_lists : Stmt := topS 41
abbrev s_b_init : Stmt := inClass (topS 42) 0
abbrev s_b_every : Stmt := inClass (topS 42) 1
abbrev s_b_none : Stmt := inClass (topS 42) 2
abbrev s_b_eq : Stmt := inClass (topS 42) 17
abbrev s_l_purse : Stmt := topS 48
abbrev s_l_draw : Stmt := topS 49
abbrev s_l_sizes : Stmt := topS 50
abbrev s_l_drawn : Stmt := topS 51
abbrev s_l_copied : Stmt := topS 52
abbrev s_l_table : Stmt := topS 53
abbrev s_l_numbers : Stmt := topS 54
abbrev s_l_leads : Stmt := topS 55
abbrev s_l_kinds : Stmt := topS 56
abbrev s_l_least : Stmt := topS 57
abbrev s_l_alike : Stmt := topS 58
abbrev s_l_order : Stmt := topS 59
abbrev s_l_twin : Stmt := topS 60
abbrev s_l_changed : Stmt := topS 61
abbrev s_l_bad : Stmt := topS 62
abbrev s_l_asked : Stmt := topS 63
abbrev s_l_refused : Stmt := topS 64
abbrev s_l_kept : Stmt := topS 65
abbrev s_law : Stmt := topS 66
abbrev Sc (K : PySem.W.Frag) : Addr := He.ga K "Scheme"
abbrev Bc (K : PySem.W.Frag) : Addr := He.ga K "Bale"
/-- the def within a classmethod of Bale -/
def cmA (K : PySem.W.Frag) (m : Str) : Addr := match PySem.W.recIn K (He.fAd K ("Bale", some m)) "classmethod" with
  | some (.ref g :: _) => g
  | _ => 0
/-- the text, as the top has made it -/
structure TX (K : PySem.W.Frag) (mg : Str → Option Value) : Type where
  d_power : FuncData
  F_power : FunD K "power" "power" (defArgs s_power) (defBody s_power) (defScope s_power) [] [] (He.fAd K ("power", none)) d_power
  g_power : mg "power" = some (.ref (He.fAd K ("power", none)))
  d_s_init : FuncData
  F_s_init : FunD K "__init__" "Scheme.__init__" (defArgs s_s_init) (defBody s_s_init) (defScope s_s_init) [] [] (He.fAd K ("Scheme", some "__init__")) d_s_init
  d_s_eq : FuncData
  F_s_eq : FunD K "__eq__" "Scheme.__eq__" (defArgs s_s_eq) (defBody s_s_eq) (defScope s_s_eq) [] [] (He.fAd K ("Scheme", some "__eq__")) d_s_eq
  d_s_len : FuncData
  F_s_len : FunD K "__len__" "Scheme.__len__" (defArgs s_s_len) (defBody s_s_len) (defScope s_s_len) [] [] (He.fAd K ("Scheme", some "__len__")) d_s_len
  d_found_states : FuncData
  F_found_states : FunD K "found_states" "found_states" (defArgs s_found_states) (defBody s_found_states) (defScope s_found_states) [] [] (He.fAd K ("found_states", none)) d_found_states
  g_found_states : mg "found_states" = some (.ref (He.fAd K ("found_states", none)))
  d_leading_on : FuncData
  F_leading_on : FunD K "leading_on" "leading_on" (defArgs s_leading_on) (defBody s_leading_on) (defScope s_leading_on) [] [] (He.fAd K ("leading_on", none)) d_leading_on
  g_leading_on : mg "leading_on" = some (.ref (He.fAd K ("leading_on", none)))
  d_numbered : FuncData
  F_numbered : FunD K "numbered" "numbered" (defArgs s_numbered) (defBody s_numbered) (defScope s_numbered) [] [] (He.fAd K ("numbered", none)) d_numbered
  g_numbered : mg "numbered" = some (.ref (He.fAd K ("numbered", none)))
  d_classes_of : FuncData
  F_classes_of : FunD K "classes_of" "classes_of" (defArgs s_classes_of) (defBody s_classes_of) (defScope s_classes_of) [] [] (He.fAd K ("classes_of", none)) d_classes_of
  g_classes_of : mg "classes_of" = some (.ref (He.fAd K ("classes_of", none)))
  d_trimmed : FuncData
  F_trimmed : FunD K "trimmed" "trimmed" (defArgs s_trimmed) (defBody s_trimmed) (defScope s_trimmed) [] [] (He.fAd K ("trimmed", none)) d_trimmed
  g_trimmed : mg "trimmed" = some (.ref (He.fAd K ("trimmed", none)))
  d_least : FuncData
  F_least : FunD K "least" "least" (defArgs s_least) (defBody s_least) (defScope s_least) [] [] (He.fAd K ("least", none)) d_least
  g_least : mg "least" = some (.ref (He.fAd K ("least", none)))
  d_check_table : FuncData
  F_check_table : FunD K "check_table" "check_table" (defArgs s_check_table) (defBody s_check_table) (defScope s_check_table) [] [] (He.fAd K ("check_table", none)) d_check_table
  g_check_table : mg "check_table" = some (.ref (He.fAd K ("check_table", none)))
  d_step_dicts : FuncData
  F_step_dicts : FunD K "step_dicts" "step_dicts" (defArgs s_step_dicts) (defBody s_step_dicts) (defScope s_step_dicts) [] [] (He.fAd K ("step_dicts", none)) d_step_dicts
  g_step_dicts : mg "step_dicts" = some (.ref (He.fAd K ("step_dicts", none)))
  d_step_lists : FuncData
  F_step_lists : FunD K "step_lists" "step_lists" (defArgs s_step_lists) (defBody s_step_lists) (defScope s_step_lists) [] [] (He.fAd K ("step_lists", none)) d_step_lists
  g_step_lists : mg "step_lists" = some (.ref (He.fAd K ("step_lists", none)))
  d_b_init : FuncData
  F_b_init : FunD K "__init__" "Bale.__init__" (defArgs s_b_init) (defBody s_b_init) (defScope s_b_init) [] [] (He.fAd K ("Bale", some "__init__")) d_b_init
  d_b_every : FuncData
  F_b_every : FunD K "every" "Bale.every" (defArgs s_b_every) (defBody s_b_every) (defScope s_b_every) [] [] (cmA K "every") d_b_every
  d_b_none : FuncData
  F_b_none : FunD K "none" "Bale.none" (defArgs s_b_none) (defBody s_b_none) (defScope s_b_none) [] [] (cmA K "none") d_b_none
  d_b_eq : FuncData
  F_b_eq : FunD K "__eq__" "Bale.__eq__" (defArgs s_b_eq) (defBody s_b_eq) (defScope s_b_eq) [] [] (He.fAd K ("Bale", some "__eq__")) d_b_eq
  d_l_purse : FuncData
  F_l_purse : FunD K "_law_purse" "_law_purse" (defArgs s_l_purse) (defBody s_l_purse) (defScope s_l_purse) [] [] (He.fAd K ("_law_purse", none)) d_l_purse
  g_l_purse : mg "_law_purse" = some (.ref (He.fAd K ("_law_purse", none)))
  d_l_draw : FuncData
  F_l_draw : FunD K "_law_draw" "_law_draw" (defArgs s_l_draw) (defBody s_l_draw) (defScope s_l_draw) [] [] (He.fAd K ("_law_draw", none)) d_l_draw
  g_l_draw : mg "_law_draw" = some (.ref (He.fAd K ("_law_draw", none)))
  d_l_sizes : FuncData
  F_l_sizes : FunD K "_law_sizes" "_law_sizes" (defArgs s_l_sizes) (defBody s_l_sizes) (defScope s_l_sizes) [] [] (He.fAd K ("_law_sizes", none)) d_l_sizes
  g_l_sizes : mg "_law_sizes" = some (.ref (He.fAd K ("_law_sizes", none)))
  d_l_drawn : FuncData
  F_l_drawn : FunD K "_law_drawn" "_law_drawn" (defArgs s_l_drawn) (defBody s_l_drawn) (defScope s_l_drawn) [] [] (He.fAd K ("_law_drawn", none)) d_l_drawn
  g_l_drawn : mg "_law_drawn" = some (.ref (He.fAd K ("_law_drawn", none)))
  d_l_copied : FuncData
  F_l_copied : FunD K "_law_copied" "_law_copied" (defArgs s_l_copied) (defBody s_l_copied) (defScope s_l_copied) [] [] (He.fAd K ("_law_copied", none)) d_l_copied
  g_l_copied : mg "_law_copied" = some (.ref (He.fAd K ("_law_copied", none)))
  d_l_table : FuncData
  F_l_table : FunD K "_law_table" "_law_table" (defArgs s_l_table) (defBody s_l_table) (defScope s_l_table) [] [] (He.fAd K ("_law_table", none)) d_l_table
  g_l_table : mg "_law_table" = some (.ref (He.fAd K ("_law_table", none)))
  d_l_numbers : FuncData
  F_l_numbers : FunD K "_law_numbers" "_law_numbers" (defArgs s_l_numbers) (defBody s_l_numbers) (defScope s_l_numbers) [] [] (He.fAd K ("_law_numbers", none)) d_l_numbers
  g_l_numbers : mg "_law_numbers" = some (.ref (He.fAd K ("_law_numbers", none)))
  d_l_leads : FuncData
  F_l_leads : FunD K "_law_leads" "_law_leads" (defArgs s_l_leads) (defBody s_l_leads) (defScope s_l_leads) [] [] (He.fAd K ("_law_leads", none)) d_l_leads
  g_l_leads : mg "_law_leads" = some (.ref (He.fAd K ("_law_leads", none)))
  d_l_kinds : FuncData
  F_l_kinds : FunD K "_law_kinds" "_law_kinds" (defArgs s_l_kinds) (defBody s_l_kinds) (defScope s_l_kinds) [] [] (He.fAd K ("_law_kinds", none)) d_l_kinds
  g_l_kinds : mg "_law_kinds" = some (.ref (He.fAd K ("_law_kinds", none)))
  d_l_least : FuncData
  F_l_least : FunD K "_law_least" "_law_least" (defArgs s_l_least) (defBody s_l_least) (defScope s_l_least) [] [] (He.fAd K ("_law_least", none)) d_l_least
  g_l_least : mg "_law_least" = some (.ref (He.fAd K ("_law_least", none)))
  d_l_alike : FuncData
  F_l_alike : FunD K "_law_alike" "_law_alike" (defArgs s_l_alike) (defBody s_l_alike) (defScope s_l_alike) [] [] (He.fAd K ("_law_alike", none)) d_l_alike
  g_l_alike : mg "_law_alike" = some (.ref (He.fAd K ("_law_alike", none)))
  d_l_order : FuncData
  F_l_order : FunD K "_law_order" "_law_order" (defArgs s_l_order) (defBody s_l_order) (defScope s_l_order) [] [] (He.fAd K ("_law_order", none)) d_l_order
  g_l_order : mg "_law_order" = some (.ref (He.fAd K ("_law_order", none)))
  d_l_twin : FuncData
  F_l_twin : FunD K "_law_twin" "_law_twin" (defArgs s_l_twin) (defBody s_l_twin) (defScope s_l_twin) [] [] (He.fAd K ("_law_twin", none)) d_l_twin
  g_l_twin : mg "_law_twin" = some (.ref (He.fAd K ("_law_twin", none)))
  d_l_changed : FuncData
  F_l_changed : FunD K "_law_changed" "_law_changed" (defArgs s_l_changed) (defBody s_l_changed) (defScope s_l_changed) [] [] (He.fAd K ("_law_changed", none)) d_l_changed
  g_l_changed : mg "_law_changed" = some (.ref (He.fAd K ("_law_changed", none)))
  d_l_bad : FuncData
  F_l_bad : FunD K "_law_bad" "_law_bad" (defArgs s_l_bad) (defBody s_l_bad) (defScope s_l_bad) [] [] (He.fAd K ("_law_bad", none)) d_l_bad
  g_l_bad : mg "_law_bad" = some (.ref (He.fAd K ("_law_bad", none)))
  d_l_asked : FuncData
  F_l_asked : FunD K "_law_asked" "_law_asked" (defArgs s_l_asked) (defBody s_l_asked) (defScope s_l_asked) [] [] (He.fAd K ("_law_asked", none)) d_l_asked
  g_l_asked : mg "_law_asked" = some (.ref (He.fAd K ("_law_asked", none)))
  d_l_refused : FuncData
  F_l_refused : FunD K "_law_refused" "_law_refused" (defArgs s_l_refused) (defBody s_l_refused) (defScope s_l_refused) [] [] (He.fAd K ("_law_refused", none)) d_l_refused
  g_l_refused : mg "_law_refused" = some (.ref (He.fAd K ("_law_refused", none)))
  d_l_kept : FuncData
  F_l_kept : FunD K "_law_kept" "_law_kept" (defArgs s_l_kept) (defBody s_l_kept) (defScope s_l_kept) [] [] (He.fAd K ("_law_kept", none)) d_l_kept
  g_l_kept : mg "_law_kept" = some (.ref (He.fAd K ("_law_kept", none)))
  d_law : FuncData
  F_law : FunD K "law" "law" (defArgs s_law) (defBody s_law) (defScope s_law) [] [] (He.fAd K ("law", none)) d_law
  g_law : mg "law" = some (.ref (He.fAd K ("law", none)))
  n_range : mg "range" = none
  n_len : mg "len" = none
  n_list : mg "list" = none
  n_sorted : mg "sorted" = none
  n_any : mg "any" = none
  n_tuple : mg "tuple" = none
  n_zip : mg "zip" = none
  n_enumerate : mg "enumerate" = none
  n_reversed : mg "reversed" = none
  n_int : mg "int" = none
  n_bool : mg "bool" = none
  n_sum : mg "sum" = none
  n_abs : mg "abs" = none
  n_min : mg "min" = none
  n_isinstance : mg "isinstance" = none
  n_ValueError : mg "ValueError" = none
  letters : ∃ t, mg "LETTERS" = some (.str "abcdefghi" t)
  m_Scheme : mg "Scheme" = some (.ref (Sc K))
  m_Bale : mg "Bale" = some (.ref (Bc K))
  c_Scheme : Cls K (Sc K)
  c_Bale : Cls K (Bc K)
  ns_rows : NoAttr K (Sc K) "rows"
  ns_colours : NoAttr K (Sc K) "colours"
  ns_columns : NoAttr K (Sc K) "columns"
  nb_scheme : NoAttr K (Bc K) "scheme"
  nb_rows : NoAttr K (Bc K) "rows"
  nb_goods : NoAttr K (Bc K) "goods"
  eq_S : PySem.W.findIn K (.ref (Sc K)) "__eq__" = some (some (.ref (He.fAd K ("Scheme", some "__eq__"))))
  fe_S : PySem.W.isFn K (.ref (He.fAd K ("Scheme", some "__eq__"))) = true
  ln_S : PySem.W.findIn K (.ref (Sc K)) "__len__" = some (some (.ref (He.fAd K ("Scheme", some "__len__"))))
  fl_S : PySem.W.isFn K (.ref (He.fAd K ("Scheme", some "__len__"))) = true
  eq_B : PySem.W.findIn K (.ref (Bc K)) "__eq__" = some (some (.ref (He.fAd K ("Bale", some "__eq__"))))
  fe_B : PySem.W.isFn K (.ref (He.fAd K ("Bale", some "__eq__"))) = true
  o_S : PySem.W.findIn K (.ref (Sc K)) "__class__" = some (some (.builtin "object.__class__"))
  o_B : PySem.W.findIn K (.ref (Bc K)) "__class__" = some (some (.builtin "object.__class__"))
  o_get : PySem.W.specialIn K (.builtin "object.__class__") "__get__" = some (some (.builtin "getset_descriptor.__get__"))
  o_tk : PySem.W.takesIn K (.builtin "object.__class__") = some true
  om_S : PySem.W.mroIn K (Sc K) (.type "object") = some true
  om_B : PySem.W.mroIn K (Bc K) (.type "object") = some true
  kl_B : PySem.W.kitOne K (.type "list") (.ref (Bc K)) = some false
  ki_B : PySem.W.kitOne K (.type "int") (.ref (Bc K)) = some false
  rd_B : ClX.CRead K (Bc K) (.type "type")
  cm_every : ClX.CMet K (Bc K) (.type "type") "every" (He.fAd K ("Bale", some "every")) (cmA K "every")
  cm_none : ClX.CMet K (Bc K) (.type "type") "none" (He.fAd K ("Bale", some "none")) (cmA K "none")
  mk_Scheme : Mk K (Sc K) (He.fAd K ("Scheme", some "__init__"))
  mk_Bale : Mk K (Bc K) (He.fAd K ("Bale", some "__init__"))
theorem bt_range : bootBuiltins "range" = some (.type "range") := by decide +kernel
theorem bt_len : bootBuiltins "len" = some (.builtin "len") := by decide +kernel
theorem bt_list : bootBuiltins "list" = some (.type "list") := by decide +kernel
theorem bt_sorted : bootBuiltins "sorted" = some (.builtin "sorted") := by decide +kernel
theorem bt_any : bootBuiltins "any" = some (.builtin "any") := by decide +kernel
theorem bt_tuple : bootBuiltins "tuple" = some (.type "tuple") := by decide +kernel
theorem bt_zip : bootBuiltins "zip" = some (.type "zip") := by decide +kernel
theorem bt_enumerate : bootBuiltins "enumerate" = some (.type "enumerate") := by decide +kernel
theorem bt_reversed : bootBuiltins "reversed" = some (.type "reversed") := by decide +kernel
theorem bt_int : bootBuiltins "int" = some (.type "int") := by decide +kernel
theorem bt_bool : bootBuiltins "bool" = some (.type "bool") := by decide +kernel
theorem bt_sum : bootBuiltins "sum" = some (.builtin "sum") := by decide +kernel
theorem bt_abs : bootBuiltins "abs" = some (.builtin "abs") := by decide +kernel
theorem bt_min : bootBuiltins "min" = some (.builtin "min") := by decide +kernel
theorem bt_isinstance : bootBuiltins "isinstance" = some (.builtin "isinstance") := by decide +kernel
theorem bt_ValueError : bootBuiltins "ValueError" = some (.type "ValueError") := by decide +kernel
end Gal
end
section
set_option Elab.async false
set_option linter.all false
set_option maxRecDepth 100000
set_option maxHeartbeats 4000000
/-! how tables lie in the abstract heap -/
namespace Gal
open PySem PySem.Spec PyProof.Rows L2
section
variable {K : PySem.W.Frag} {H H1 H2 H' : Hp} {a b p : Addr} {o : HO}
theorem same_new (h : H p = none) : Same H (upd H p o) := fun c u e => by
  rw [upd_ne (ne_of_none e h)]
  exact e
theorem same_mut (s : Same H H1) (h : H p = none) : Same H (upd H1 p o) := fun c u e => by
  rw [upd_ne (ne_of_none e h)]
  exact s c u e
theorem same_add (s : Same H H1) (h : H1 p = none) : Same H (upd H1 p o) := same_mut s (s.free h)
/-- all but p stands -/
def Sb (p : Addr) (H H' : Hp) : Prop := ∀ b o, H b = some o → b ≠ p → H' b = some o
theorem Sb.refl : Sb p H H := fun _ _ e _ => e
theorem Sb.trans (s : Sb p H H1) (t : Sb p H1 H2) : Sb p H H2 := fun b o e n => t b o (s b o e n) n
theorem Sb.of (s : Same H H1) : Sb p H H1 := fun b o e _ => s b o e
theorem Sb.set (s : Sb p H H1) : Sb p H (upd H1 p o) := fun b u e n => by
  rw [upd_ne n]
  exact s b u e n
theorem Sb.mut {q : Addr} (s : Sb p H H1) (h : H q = none) : Sb p H (upd H1 q o) := fun b u e n => by
  rw [upd_ne (ne_of_none e h)]
  exact s b u e n
theorem Sb.free {q : Addr} (s : Sb p H H1) (hp : ∃ o, H1 p = some o) (h : H1 q = none) : H q = none := by
  cases e : H q with
  | none => rfl
  | some u =>
    have n : q ≠ p := fun z => by
      obtain ⟨v, hv⟩ := hp
      rw [z, hv] at h
      cases h
    rw [s q u e n] at h
    cases h

/-! ### pairs of lists -/
theorem paired_get {α β : Type} {F : α → β → Prop} : ∀ {l : List α} {m : List β} {i : Nat} {x : α}, Paired F l m → l[i]? = some x → ∃ y, m[i]? = some y ∧ F x y
  | _, _, _, _, .nil, h => by simp at h
  | _, _, 0, x, .cons r t, h => by
    simp at h
    subst h
    exact ⟨_, rfl, r⟩
  | _, _, i + 1, x, .cons r t, h => by
    obtain ⟨y, h1, h2⟩ := paired_get (i := i) t (by simpa using h)
    exact ⟨y, by simpa using h1, h2⟩
theorem paired_get' {α β : Type} {F : α → β → Prop} : ∀ {l : List α} {m : List β} {i : Nat} {y : β}, Paired F l m → m[i]? = some y → ∃ x, l[i]? = some x ∧ F x y
  | _, _, _, _, .nil, h => by simp at h
  | _, _, 0, x, .cons r t, h => by
    simp at h
    subst h
    exact ⟨_, rfl, r⟩
  | _, _, i + 1, x, .cons r t, h => by
    obtain ⟨y, h1, h2⟩ := paired_get' (i := i) t (by simpa using h)
    exact ⟨y, by simpa using h1, h2⟩
theorem paired_mem {α β : Type} {F G : α → β → Prop} : ∀ {l : List α} {m : List β}, Paired F l m → (∀ x y, x ∈ l → F x y → G x y) → Paired G l m
  | _, _, .nil, _ => .nil
  | _, _, .cons r t, h => .cons (h _ _ List.mem_cons_self r) (paired_mem t fun x y hx => h x y (List.mem_cons_of_mem _ hx))
theorem paired_set {α β : Type} {F : α → β → Prop} {x : α} {y : β} (h : F x y) : ∀ {l : List α} {m : List β} (i : Nat), Paired F l m → Paired F (l.set i x) (m.set i y)
  | _, _, _, .nil => .nil
  | _, _, 0, .cons _ t => .cons h t
  | _, _, i + 1, .cons r t => .cons r (paired_set h i t)
theorem paired_app {α β : Type} {F : α → β → Prop} : ∀ {l l' : List α} {m m' : List β}, Paired F l m → Paired F l' m' → Paired F (l ++ l') (m ++ m')
  | _, _, _, _, .nil, h => h
  | _, _, _, _, .cons r t, h => .cons r (paired_app t h)

/-! ### lists of whole numbers, truth values, rows -/
abbrev iL (ns : List Int) : HO := .lst (ns.map V.int)
abbrev bL (bs : List Bool) : HO := .lst (bs.map V.bl)
abbrev rL (as : List Addr) : HO := .lst (as.map V.ref)
def RowAt (H : Hp) (b : Addr) (r : List Int) : Prop := H b = some (iL r)
/-- the lists at as hold the rows R -/
abbrev Rws (H : Hp) (as : List Addr) (R : List (List Int)) : Prop := Paired (RowAt H) as R
/-- at a: a list of rows -/
def Tb (H : Hp) (a : Addr) (R : List (List Int)) : Prop := ∃ as, H a = some (rL as) ∧ Rws H as R
theorem Rws.same (s : Same H H') {as : List Addr} {R : List (List Int)} (h : Rws H as R) : Rws H' as R := Paired.mapP h fun b r e => s b _ e
theorem Tb.same (s : Same H H') {R : List (List Int)} (h : Tb H a R) : Tb H' a R := by
  obtain ⟨as, h1, h2⟩ := h
  exact ⟨as, s _ _ h1, h2.same s⟩
theorem Rws.but (s : Sb p H H') {as : List Addr} {R : List (List Int)} (h : Rws H as R) (hp : ∀ b ∈ as, b ≠ p) : Rws H' as R := paired_mem h fun b r hb e => s b _ e (hp b hb)
theorem map_get {α : Type} {f : α → V} {l : List α} {i : Nat} {x : α} (h : l[i]? = some x) : (l.map f)[i]? = some (f x) := by
  rw [List.getElem?_map, h]; rfl
theorem map_get' {α : Type} {f : α → V} {l : List α} {i : Nat} {v : V} (h : (l.map f)[i]? = some v) : ∃ x, l[i]? = some x ∧ v = f x := by
  rw [List.getElem?_map] at h
  cases e : l[i]? with
  | none => rw [e] at h; cases h
  | some x => rw [e] at h; exact ⟨x, rfl, (Option.some.inj h).symm⟩
theorem atI_map {α : Type} {f : α → V} {l : List α} {i : Nat} {x : α} (h : l[i]? = some x) : atI (l.map f) (i : Int) = some (f x) := atI_nat (map_get h)
theorem atI_map' {α : Type} {f : α → V} {l : List α} {z : Int} {i : Nat} {x : α} (e : z = (i : Int)) (h : l[i]? = some x) : atI (l.map f) z = some (f x) := by
  rw [e]; exact atI_map h
theorem ixN_nat {n j : Nat} (h : j < n) : ixN n (j : Int) = some j := by
  unfold ixN
  rw [if_pos (by omega), if_pos (by omega)]; simp
theorem ixN_of {n j : Nat} {z : Int} (e : z = (j : Int)) (h : j < n) : ixN n z = some j := by rw [e]; exact ixN_nat h
theorem snocR {bs : List Addr} {l : Addr} : (HO.lst (bs.map V.ref ++ [V.ref l])) = rL (bs ++ [l]) := by
  show _ = HO.lst ((bs ++ [l]).map V.ref)
  rw [List.map_append]; rfl
theorem snocI {bs : List Int} {l : Int} : (HO.lst (bs.map V.int ++ [V.int l])) = iL (bs ++ [l]) := by
  show _ = HO.lst ((bs ++ [l]).map V.int)
  rw [List.map_append]; rfl
theorem snocB {bs : List Bool} {l : Bool} : (HO.lst (bs.map V.bl ++ [V.bl l])) = bL (bs ++ [l]) := by
  show _ = HO.lst ((bs ++ [l]).map V.bl)
  rw [List.map_append]; rfl
theorem szL {n : Nat} (h : n ≤ 1000000) : n ≤ sizeLine := by rw [sizeLine_eq]; omega
theorem szLt {n : Nat} (h : n < 1000000) : n < sizeLine := by rw [sizeLine_eq]; omega
/-- the purse -/
def pu (a b c : Int) : HO := iL [a, b, c]
def PuAt (H : Hp) (p : Addr) : Prop := ∃ a b c : Int, H p = some (pu a b c)
end
end Gal
end
section
set_option Elab.async false
set_option linter.all false
set_option maxRecDepth 100000
set_option maxHeartbeats 4000000
/-! the rules, the written part named: for what stands in a comprehension -/
namespace Gal
open PySem PySem.Spec PyProof.Rows L2
section
variable {X : Cx}
theorem ixL (K : PySem.W.Frag) (h : X.K = K := by rfl) : IxR X (rIxL K) := h ▸ ix_list
theorem ixT (K : PySem.W.Frag) (h : X.K = K := by rfl) : IxR X (rIxT K) := h ▸ ix_tup
def rLenK (K : PySem.W.Frag) : List V → Hp → VK → Prop := fun xs H Q => ∃ p ys, xs = [.ref p] ∧ (SqL K H p ys ∨ SqT K H p ys) ∧ Q (.int ys.length) H
theorem lenK (K : PySem.W.Frag) (h : X.K = K := by rfl) : CallR X (.builtin "len") (rLenK K) := by
  subst h
  exact call_len_seq
def rLstK (K : PySem.W.Frag) : List V → Hp → VK → Prop := fun xs H Q => ∃ p ys, xs = [.ref p] ∧ (SqL K H p ys ∨ SqT K H p ys) ∧ ∀ l, H l = none → Q (.ref l) (upd H l (.lst ys))
theorem lstK (K : PySem.W.Frag) (h : X.K = K := by rfl) : CallR X (.type "list") (rLstK K) := by
  subst h
  exact call_list_of
def rTupK (K : PySem.W.Frag) : List V → Hp → VK → Prop := fun xs H Q => ∃ p ys, xs = [.ref p] ∧ SqL K H p ys ∧ ∀ l, H l = none → Q (.ref l) (upd H l (.tup ys))
theorem tupK (K : PySem.W.Frag) (h : X.K = K := by rfl) : CallR X (.type "tuple") (rTupK K) := by
  subst h
  intro pins s σ H xs us Q I r q
  obtain ⟨p, ys, e, hs, q⟩ := q
  exact call_tuple_of pins s σ H xs us Q I r ⟨p, ys, e, .inl ⟨hs, q⟩⟩
theorem srtK (K : PySem.W.Frag) (h : X.K = K := by rfl) : CallR X (.builtin "sorted") (rSortedS K) := h ▸ cr_sortedS
theorem anyK (K : PySem.W.Frag) (hc : X.calm = true) (h : X.K = K := by rfl) : CallR X (.builtin "any") (rAny K) := h ▸ cr_any hc
theorem sumK (K : PySem.W.Frag) (hc : X.calm = true) (h : X.K = K := by rfl) : CallR X (.builtin "sum") (rSum K) := h ▸ cr_sum hc
theorem slL (K : PySem.W.Frag) (h : X.K = K := by rfl) : SlR X (rSlL K) := h ▸ sl_list
theorem isiK (K : PySem.W.Frag) (h : X.K = K := by rfl) : CallR X (.builtin "isinstance") (rIsi K) := h ▸ call_isi
theorem neDK (K : PySem.W.Frag) (hu : X.A.units + 64 < cLine) (h : X.K = K := by rfl) : OpR X (compareOp .NotEq) (rNeD K) := h ▸ op_neD hu
theorem eqDK (K : PySem.W.Frag) (hu : X.A.units + 64 < cLine) (h : X.K = K := by rfl) : OpR X (compareOp .Eq) (rEqD K) := h ▸ op_eqD hu
theorem fldK (K : PySem.W.Frag) {e : Expr} {f : Str} {pos : Pos} {ta : TE} (he : PE X e ta) (hb : attributeBase e f X.env (eval e X.env) = eval e X.env) (h : X.K = K := by rfl) : PE X (.Attribute e f pos) (tFld K ta f) := h ▸ pe_fld he hb
theorem tupG (K : PySem.W.Frag) {es : List Expr} {k : Nat} {t : TGs} {n : Nat} {pos : Pos} (hc : X.calm = true) (h : PGs X es t)
    (hn : (assignEach es X.env).length = n := by rfl) (hst : (assignEach es X.env).findIdx? (·.1) = none := by rfl) (hK : X.K = K := by rfl) : PG X (.Tuple es k pos) (gTup K n t) := hK ▸ pg_tup hc h hn hst
theorem pi_listK (K : PySem.W.Frag) {tg l : Expr} {tl : TE} (hl : PE X l tl) (hK : X.K = K := by rfl) : PI X tg l (iList K tl) := hK ▸ pi_list hl
theorem bmK (K : PySem.W.Frag) {o e : Expr} {es : List Expr} {to : TE} {t : TA} {name : Str} {apos cpos : Pos} {T id : String} {r : V → List V → Hp → VK → Prop}
    (pa : PlainAttrs T) (slot : Slot T name id) (hty : typeOf (.builtin id) = pure (.type "method_descriptor")) (hm : MtR X id r) (ho : PE X o to) (ha : PA X (e :: es) t)
    (hbase : attributeBase o name X.env (eval o X.env) = eval o X.env := by rfl)
    (hfew : ((backTo cpos (starEach (e :: es) X.env)).all (fun x => !x.1) && (backToKw cpos (keywordEach [] X.env)).all (fun x => x.1.isSome)
      && decide ((e :: es).length + ([] : List Keyword).length + (if ([] : List Keyword).isEmpty then 0 else 1) < 30)) = true := by rfl)
    (hline : (apos.endLine == cpos.line) = true := by rfl) (hs : starEach (e :: es) X.env = (false, eval e X.env) :: starEach es X.env := by rfl) (hplain : (backTo cpos (starEach es X.env)).any (·.1) = false := by rfl)
    (hK : X.K = K := by rfl) : PE X (.Call (.Attribute o name apos) (e :: es) [] cpos) (tBM K T r to t) := hK ▸ pe_bm pa slot hty hm ho ha hbase hfew hline hs hplain
theorem idxK (K : PySem.W.Frag) (h : X.K = K := by rfl) : MtR X "list.index" (rIndex K) := h ▸ mt_index
theorem cntK (K : PySem.W.Frag) (h : X.K = K := by rfl) : MtR X "list.count" (rCntI K) := h ▸ mt_lcount
end
end Gal
end
section
set_option Elab.async false
set_option linter.all false
set_option maxRecDepth 100000
set_option maxHeartbeats 4000000
/-! dicts whose keys are pairs of a number (or truth value) and a tuple of numbers or texts -/
namespace Gal
open PySem PySem.Spec PyProof.Rows L2
abbrev NKey := PySem.NestedKey
abbrev NEnt := List (NKey × Addr × V)
abbrev KN : NEnt → List (NKey × Addr × Value) → Prop := Paired fun p q => p.1 = q.1 ∧ p.2.1 = q.2.1 ∧ RelV p.2.2 q.2.2
def dnP (P : Program) (w : World) (a : Addr) (ks : NEnt) (h : Heap) : Prop := (a == sysModules) = false ∧ ∃ xs, KN ks xs ∧ ∃ o es ep, h.get? a = some o ∧ o.ExactDict ∧ o.data = .dict es ep ∧ es.toList = xs.map (entryOfKey (nestedKind P w)) ∧ (xs.map (·.1)).Nodup
def dn (P : Program) (w : World) (a : Addr) (ks : NEnt) : HO := .ext (dnP P w a ks)
/-- a leaf of a key -/
def NkV : V → NKey → Prop
  | .int i, .num j => j = i
  | .bl b, .num j => j = if b = true then 1 else 0
  | .str x, .text y => y = x
  | _, _ => False
/-- at b: a pair whose second part is a tuple, the key k -/
def NkAt (H : Hp) (b : Addr) (k : NKey) : Prop := ∃ (x : V) (c : Addr) (ys : List V) (kx : NKey) (kys : List NKey), k = .tup [kx, .tup kys] ∧ H b = some (.tup [x, .ref c]) ∧ H c = some (.tup ys) ∧ NkV x kx ∧ Paired NkV ys kys
theorem NkAt.same {H H' : Hp} {b : Addr} {k : NKey} (s : Same H H') (h : NkAt H b k) : NkAt H' b k := by
  obtain ⟨x, c, ys, kx, kys, e, h1, h2, h3, h4⟩ := h
  exact ⟨x, c, ys, kx, kys, e, s _ _ h1, s _ _ h2, h3, h4⟩
/-- at a: such a dict, its pairs in their order -/
def DnAt (P : Program) (w : World) (H : Hp) (a : Addr) (kvs : List (NKey × V)) : Prop := ∃ ks : NEnt, H a = some (dn P w a ks) ∧ ks.map (fun x => (x.1, x.2.2)) = kvs ∧ ∀ x ∈ ks, NkAt H x.2.1 x.1
theorem DnAt.same {P : Program} {w : World} {H H' : Hp} {a : Addr} {kvs : List (NKey × V)} (s : Same H H') (h : DnAt P w H a kvs) : DnAt P w H' a kvs := by
  obtain ⟨ks, h1, h2, h3⟩ := h
  exact ⟨ks, s _ _ h1, h2, fun x hx => (h3 x hx).same s⟩
section
variable {P : Program} {w : World} {H : Hp} {h : Heap} {a b c : Addr}
theorem leaf_is : ∀ {x : V} {k : NKey} {u : Value}, NkV x k → RelV x u → PySem.NestedIs h k u
  | .int i, .num j, u, e, r => by
    obtain ⟨t, rfl⟩ := r
    have e' : j = i := e
    subst e'
    exact .int _ t
  | .bl q, .num j, u, e, r => by
    cases r
    have e' : j = if q = true then 1 else 0 := e
    exact .bool e'
  | .str x, .text y, u, e, r => by
    obtain ⟨t, rfl⟩ := r
    have e' : y = x := e
    subst e'
    exact .text _ t
  | .int _, .none, _, e, _ => e.elim
  | .int _, .text _, _, e, _ => e.elim
  | .int _, .tup _, _, e, _ => e.elim
  | .bl _, .none, _, e, _ => e.elim
  | .bl _, .text _, _, e, _ => e.elim
  | .bl _, .tup _, _, e, _ => e.elim
  | .str _, .none, _, e, _ => e.elim
  | .str _, .num _, _, e, _ => e.elim
  | .str _, .tup _, _, e, _ => e.elim
  | .non, _, _, e, _ => by cases e
  | .byt _, _, _, e, _ => by cases e
  | .flt _, _, _, e, _ => by cases e
  | .ref _, _, _, e, _ => by cases e
  | .ty _, _, _, e, _ => by cases e
theorem leaves_are : ∀ {xs : List V} {ks : List NKey} {us : List Value}, Paired NkV xs ks → Vals xs us → PySem.NestedAll h ks us
  | _, _, _, .nil, .nil => .nil
  | _, _, _, .cons e t, .cons r q => .cons (leaf_is e r) (leaves_are t q)
theorem leaf_depth : ∀ {x : V} {k : NKey}, NkV x k → k.depth = 0
  | .int _, .num _, _ => by rw [NestedKey.depth]
  | .bl _, .num _, _ => by rw [NestedKey.depth]
  | .str _, .text _, _ => by rw [NestedKey.depth]
  | .int _, .none, e => e.elim
  | .int _, .text _, e => e.elim
  | .int _, .tup _, e => e.elim
  | .bl _, .none, e => e.elim
  | .bl _, .text _, e => e.elim
  | .bl _, .tup _, e => e.elim
  | .str _, .none, e => e.elim
  | .str _, .num _, e => e.elim
  | .str _, .tup _, e => e.elim
  | .non, _, e => by cases e
  | .byt _, _, e => by cases e
  | .flt _, _, e => by cases e
  | .ref _, _, e => by cases e
  | .ty _, _, e => by cases e
theorem leaves_depth : ∀ {xs : List V} {ks : List NKey}, Paired NkV xs ks → NestedKey.depthAll ks = 0
  | _, _, .nil => by rw [NestedKey.depthAll]
  | _, _, .cons e t => by rw [NestedKey.depthAll, leaf_depth e, leaves_depth t]; rfl
theorem tup_get (ok : HOk P w H h) {xs : List V} (e : H b = some (.tup xs)) : ∃ its : List Value, Vals xs its ∧ IsTup h b its.toArray := by
  obtain ⟨_, its, r, p⟩ := (show ObjOk P w H h b (.tup xs) from ok b _ e)
  exact ⟨its, r, p⟩
theorem nk_is (ok : HOk P w H h) {k : NKey} (e : NkAt H b k) : (nestedKind P w).is h k b := by
  obtain ⟨x, c, ys, kx, kys, rfl, h1, h2, h3, h4⟩ := e
  obtain ⟨its, r, o, g1, g2, n, g3⟩ := tup_get ok h1
  obtain ⟨its2, r2, o2, k1, k2, n2, k3⟩ := tup_get ok h2
  refine ⟨.tup g1 g2 g3 ?_, ?_⟩
  · cases r with
    | cons ra rb =>
      cases rb with
      | cons rc rd =>
        cases rd
        cases rc
        refine .cons (leaf_is h3 ra) (.cons (.tup k1 k2 k3 ?_) .nil)
        exact leaves_are h4 (by simpa using r2)
  · have d1 := leaf_depth h3
    have d2 := leaves_depth h4
    simp [NestedKey.depth, NestedKey.depthAll, d1, d2]
/-- the dict, its keys read -/
theorem dn_get (ok : HOk P w H h) {kvs : List (NKey × V)} (e : DnAt P w H a kvs) : (a == sysModules) = false ∧ ∃ (ks : NEnt) (xs : List (NKey × Addr × Value)), H a = some (dn P w a ks) ∧ ks.map (fun x => (x.1, x.2.2)) = kvs ∧ (∀ x ∈ ks, NkAt H x.2.1 x.1) ∧ KN ks xs ∧ h.DictOfH (nestedKind P w) a xs := by
  obtain ⟨ks, h1, h2, h3⟩ := e
  obtain ⟨⟨q1, xs, q2, o, es, ep, g1, g2, g3, g4, g5⟩, _⟩ := (show ObjOk P w H h a (.ext (dnP P w a ks)) from ok a _ h1)
  refine ⟨q1, ks, xs, h1, h2, h3, q2, o, es, ep, g1, g2, g3, g4, fun x hx => ?_, g5⟩
  obtain ⟨i, hi, ei⟩ := List.getElem_of_mem hx
  obtain ⟨y, hy, e1, e2, _⟩ := paired_get' q2 (List.getElem?_eq_getElem hi)
  rw [ei] at e1 e2
  rw [← e1, ← e2]
  exact nk_is ok (h3 y (List.mem_of_getElem? hy))
theorem dn_ok {ks : NEnt} (h1 : dnP P w a ks h) (h2 : ∃ o, h.get? a = some o) {H' : Hp} : ObjOk P w H' h a (dn P w a ks) :=
  ⟨h1, h2, fun g1 g2 ⟨q1, xs, q2, o, es, ep, k1, k2⟩ hk => ⟨q1, xs, q2, o, es, ep, hk o k1, k2⟩⟩
theorem KN.val {kvs : List (NKey × V)} {ks : NEnt} {xs : List (NKey × Addr × Value)} (hk : ks.map (fun x => (x.1, x.2.2)) = kvs) (r : KN ks xs) (k : NKey) : RelO (valV kvs k) ((atKey xs k).map (·.2)) := by
  subst hk
  induction r with
  | nil => exact True.intro
  | @cons p q ps qs hq t ih =>
    obtain ⟨h1, _, h2⟩ := hq
    rw [List.map_cons]
    by_cases e : p.1 = k
    · have e' : q.1 = k := h1.symm.trans e
      have b : atKey (q :: qs) k = some q.2 := by simp [atKey, List.find?_cons, e']
      rw [valV_pos (p := (p.1, p.2.2)) e, b]; exact h2
    · have e' : ¬ q.1 = k := fun z => e (h1.trans z)
      have b : atKey (q :: qs) k = atKey qs k := by simp [atKey, List.find?_cons, e']
      rw [valV_neg (p := (p.1, p.2.2)) e, b]; exact ih
end

/-! ### the rules -/
section
variable {X : Cx} {pos pos' : Pos} {o i value : Expr} {td ty tv : TE}
/-- {} -/
def tNewN (P : Program) (w : World) : TE := fun _ H Q => ∀ p, H p = none → Q (.ref p) (upd H p (dn P w p []))
theorem pe_newN (P : Program) (w : World) (hP : X.prog = P := by rfl) (hw : X.w = w := by rfl) : PE X (.Dict [] [] pos) (tNewN P w) := by
  subst hP hw
  refine ⟨fun pins s σ H Q I h => wpAny_Dict_empty ⟨.ref s.heap.objs.size, _, I.laid (a := s.heap.objs.size) (o := dn X.prog X.w s.heap.objs.size []) (t' := s.toks) (fun _ _ q => Heap.get?_push_of_some _ q) (Nat.le_refl _) ?_, rfl, h _ (I.hok.fresh (Nat.le_refl _))⟩⟩
  refine dn_ok ⟨beq_eq_false_iff_ne.mpr (Ne.symm (Nat.ne_of_lt I.big)), [], .nil, _, #[], 0, Heap.get?_push_size _ rfl, ⟨rfl, rfl, rfl⟩, rfl, rfl, List.nodup_nil⟩ ⟨_, Heap.get?_push_size _ rfl⟩
theorem dn_new {P : Program} {w : World} {H : Hp} {p : Addr} : DnAt P w (upd H p (dn P w p [])) p [] := ⟨[], upd_same, rfl, fun _ z => nomatch z⟩
theorem roomN {A : Around} (hu : A.units + 64 < cLine) {P : Program} {w : World} : (nestedKind P w).room A.in1 := by
  show A.in1.units + 8 < cLine
  show A.units + 1 + 8 < cLine
  omega
def NGet (P : Program) (w : World) (H : Hp) (a : Addr) (y : V) (r : Option V) : Prop := ∃ kvs k b, DnAt P w H a kvs ∧ y = .ref b ∧ NkAt H b k ∧ r = valV kvs k
def tGetN (P : Program) (w : World) (td ty : TE) : TE := fun σ H Q => td σ H fun x H1 => ty σ H1 fun y H2 => ∃ a v, x = .ref a ∧ NGet P w H2 a y (some v) ∧ Q v H2
def tNotInN (P : Program) (w : World) (ty td : TE) : TE := fun σ H Q => ty σ H fun y H1 => td σ H1 fun x H2 => ∃ a r, x = .ref a ∧ NGet P w H2 a y r ∧ Q (.bl (!r.isSome)) H2
/-- d[y] = v, y new -/
def sPutN (P : Program) (w : World) (td ty tv : TE) : TS := fun D σ H => tv σ H fun v H1 => td σ H1 fun x H2 => ty σ H2 fun y H3 => ∃ a kvs k b, x = .ref a ∧ DnAt P w H3 a kvs ∧ y = .ref b ∧ NkAt H3 b k ∧ valV kvs k = none ∧ kvs.length < 100000 ∧
  ∀ u, DnAt P w (upd H3 a u) a (kvs ++ [(k, v)]) → D.nx σ (upd H3 a u)
def rLenN (P : Program) (w : World) : List V → Hp → VK → Prop := fun xs H Q => ∃ (a : Addr) (kvs : List (NKey × V)), xs = [.ref a] ∧ DnAt P w H a kvs ∧ kvs.length < 100000 ∧ Q (.int ((kvs.length : Nat) : Int)) H
theorem pe_getN (P : Program) (w : World) (hu : X.A.units + 64 < cLine) (ho : PE X o td) (hi : PE X i ty) (hs : NoSl i) (hP : X.prog = P := by rfl) (hw : X.w = w := by rfl) : PE X (.Subscript o i pos) (tGetN P w td ty) := by
  subst hP hw
  refine ⟨fun pins s σ H Q I h => ?_⟩
  refine subD_of PySem.F.slot_dict_getitem.lookup hs (thn (ho.run pins s σ H _ I h) fun u s1 ⟨x, H1, I1, rx, q1⟩ => thn (hi.run pins s1 σ H1 _ I1 q1) fun iv s2 ⟨y, H2, I2, ry, a, v, ex, g, q2⟩ => ?_)
  subst ex
  obtain rfl : u = Value.ref a := rx
  obtain ⟨kvs, k, b, gd, ey, gk, l⟩ := g
  subst ey
  obtain rfl : iv = Value.ref b := ry
  obtain ⟨hd, ks, xs, _, e2, _, e4, dd⟩ := dn_get I2.hok gd
  obtain ⟨w', hw', rw'⟩ := RelO.some_of (v := v) (o := (atKey xs k).map (·.2)) (by rw [l]; exact KN.val e2 e4 k)
  obtain ⟨p, hp, hp2⟩ := Option.map_eq_some_iff.mp hw'
  refine ⟨dd.typeIs, wpAny_getItem_heap (roomN hu) (nk_is I2.hok gk) dd hp ?_⟩
  rw [hp2]
  exact ⟨v, H2, I2.tok _, rw', q2⟩
theorem pc_notinN (P : Program) (w : World) (hu : X.A.units + 64 < cLine) (hi : PE X i ty) (ho : PE X o td) (hP : X.prog = P := by rfl) (hw : X.w = w := by rfl) : PC X .NotIn i o (tNotInN P w ty td) := by
  subst hP hw
  refine ⟨fun pins s σ H Q I h => ?_⟩
  refine thn (hi.run pins s σ H _ I h) fun iv s1 ⟨y, H1, I1, ry, q1⟩ => thn (ho.run pins s1 σ H1 _ I1 q1) fun u s2 ⟨x, H2, I2, rx, a, r, ex, g, q2⟩ => ?_
  subst ex
  obtain rfl : u = Value.ref a := rx
  obtain ⟨kvs, k, b, gd, ey, gk, l⟩ := g
  subst ey
  obtain rfl : iv = Value.ref b := ry
  obtain ⟨hd, ks, xs, _, e2, _, e4, dd⟩ := dn_get I2.hok gd
  refine wpAny_notIn_heap (roomN hu) (nk_is I2.hok gk) hd dd ?_
  have q := (KN.val e2 e4 k).isSome_eq
  rw [Option.isSome_map] at q
  rw [← q, ← l]
  exact ⟨.bl (!r.isSome), H2, I2.tok _, rfl, q2⟩
theorem ps_putN (P : Program) (w : World) (hu : X.A.units + 64 < cLine) (ho : PE X o td) (hi : PE X i ty) (hv : PE X value tv) (hs : swapsWith value (some (.Subscript o i pos')) pos.line X.env = pure false) (hP : X.prog = P := by rfl) (hw : X.w = w := by rfl) :
    PS X (.Assign [.Subscript o i pos'] value pos) (sPutN P w td ty tv) := by
  subst hP hw
  refine ⟨fun pins s σ H D I h => ?_⟩
  refine wpAny_Assign_Subscript (thn (hv.run pins s σ H _ I h) fun r s1 ⟨v, H1, I1, rv, q1⟩ => thn (ho.run pins s1 σ H1 _ I1 q1) fun u s2 ⟨x, H2, I2, rx, q2⟩ => thn (hi.run pins s2 σ H2 _ I2 q2) fun iv s3 ⟨y, H3, I3, ry, a, kvs, k, b, ex, gd, ey, gk, hn, hl, q3⟩ => ?_) hs
  subst ex ey
  obtain rfl : u = Value.ref a := rx
  obtain rfl : iv = Value.ref b := ry
  obtain ⟨hd, ks, xs, e1, e2, e3, e4, dd⟩ := dn_get I3.hok gd
  have hno : atKey xs k = none := by
    have z := RelO.none_of (o := (atKey xs k).map (·.2)) (by rw [← hn]; exact KN.val e2 e4 k)
    exact Option.map_eq_none_iff.mp z
  have hlen : xs.length < 100000 := by
    have e := congrArg List.length e2
    rw [List.length_map] at e
    rw [← Paired.length e4]; omega
  have hsz : xs.length ≤ sizeLine := by rw [sizeLine_eq]; omega
  refine wpAny_setItem_heap (hsz := hsz) (roomN hu) (nk_is I3.hok gk) dd fun h' dd' hs' => ?_
  rw [storedH_new hno] at dd'
  obtain ⟨oo, es, ep, k1, k2, k3, k4, _, k5⟩ := dd'
  have hk : KN (ks ++ [(k, b, v)]) (xs ++ [(k, b, r)]) := Paired.snoc e4 ⟨rfl, rfl, rv⟩
  have J := I3.write (t' := s3.toks + (nestedKind X.prog X.w).draws k) (x := a) (e := a) (o := dn X.prog X.w a (ks ++ [(k, b, v)])) (by rw [e1]; exact True.intro) (.inl rfl) (fun c u' hc z => (hs'.2 c hc).trans z) ⟨oo, k1⟩
    (dn_ok ⟨hd, _, hk, oo, es, ep, k1, k2, k3, k4, k5⟩ ⟨oo, k1⟩)
  refine ⟨σ, _, J, q3 _ ⟨_, upd_same, ?_, fun z hz => ?_⟩⟩
  · rw [List.map_append, e2]; rfl
  · have keep : ∀ {c : Addr} {ys : List V}, H3 c = some (.tup ys) → upd H3 a (dn X.prog X.w a (ks ++ [(k, b, v)])) c = some (.tup ys) := fun {c ys} ec => by
      have hca : c ≠ a := fun z => by
        rw [z, e1] at ec
        have ec' : HO.ext _ = HO.tup ys := Option.some.inj ec
        cases ec'
      rw [upd_ne hca]; exact ec
    have mv : ∀ {c : Addr} {kk : NKey}, NkAt H3 c kk → NkAt (upd H3 a (dn X.prog X.w a (ks ++ [(k, b, v)]))) c kk := fun {c kk} hc => by
      obtain ⟨x', c', ys', kx', kys', f1, f2, f3, f4, f5⟩ := hc
      exact ⟨x', c', ys', kx', kys', f1, keep f2, keep f3, f4, f5⟩
    rcases List.mem_append.mp hz with hz | hz
    · exact mv (e3 z hz)
    · have : z = (k, b, v) := by simpa using hz
      subst this
      exact mv gk
theorem lenN (P : Program) (w : World) (hP : X.prog = P := by rfl) (hw : X.w = w := by rfl) : CallR X (.builtin "len") (rLenN P w) := by
  subst hP hw
  intro pins s σ H xs us Q I r h
  obtain ⟨p, kvs, rfl, hp, hl, q⟩ := h
  obtain ⟨u, rfl, rx⟩ := vals1 r
  obtain rfl : u = .ref p := rx
  obtain ⟨hd, ks, ys, e1, e2, e3, e4, dd⟩ := dn_get I.hok hp
  have hlen : ys.length = kvs.length := by rw [← Paired.length e4, ← e2, List.length_map]
  refine call_len_dictH hd dd (by rw [hlen]; omega) ?_
  rw [hlen]
  exact ⟨.int ((kvs.length : Nat) : Int), H, I.tok _, ⟨_, rfl⟩, q⟩
end
end Gal
end
section
set_option Elab.async false
set_option linter.all false
set_option maxRecDepth 100000
set_option maxHeartbeats 4000000
namespace Gal
open PySem PySem.Spec PyProof.Rows L2
theorem same_rfl {H : Hp} : Same H H := fun _ _ e => e
theorem upd_at {H : Hp} {a b : Addr} {o : HO} {u : Option HO} (n : b ≠ a) (h : H b = u) : upd H a o b = u := by rw [upd_ne n]; exact h
theorem ex_lt {d n : Int} (h : 0 ≤ d) (h2 : d < n) : ∃ k : Nat, d = (k : Int) ∧ (k : Int) < n := ⟨d.toNat, by omega, by omega⟩
theorem PuAt.same {H H' : Hp} {p : Addr} (s : Same H H') (h : PuAt H p) : PuAt H' p := by
  obtain ⟨a, b, c, e⟩ := h
  exact ⟨a, b, c, s _ _ e⟩
theorem PuAt.ne {H : Hp} {p q : Addr} (h : PuAt H p) (n : H q = none) : q ≠ p := fun z => by
  obtain ⟨a, b, c, e⟩ := h
  rw [z, e] at n; cases n
theorem PuAt.to {H : Hp} {p : Addr} {a b c : Int} : PuAt (upd H p (pu a b c)) p := ⟨a, b, c, upd_same⟩
end Gal
end
section
set_option Elab.async false
set_option linter.all false
set_option maxRecDepth 100000
set_option maxHeartbeats 4000000
namespace Gal
open PySem PySem.Spec PyProof.Rows L2
/-! list.count of a truth value -/
def rCntB (K : PySem.W.Frag) : V → List V → Hp → VK → Prop := fun x xs H Q => ∃ (p : Addr) (bs : List Bool) (k : Bool), x = .ref p ∧ xs = [.bl k] ∧ SqL K H p (bs.map V.bl) ∧ Q (.int (bs.count k : Nat)) H
theorem vals_bl {k : Bool} : ∀ {bs : List Bool} {its : List Value}, Vals (bs.map V.bl) its → (∀ y ∈ its, ∃ b, y = .bool b) ∧ its.countP (isBoolOf k) = bs.count k
  | [], _, .nil => ⟨by simp, rfl⟩
  | b :: bs, _, .cons r t => by
    cases (show _ = Value.bool b from r)
    obtain ⟨h1, h2⟩ := vals_bl (k := k) t
    refine ⟨fun y hy => ?_, ?_⟩
    · rcases List.mem_cons.mp hy with e | e
      · exact ⟨b, e⟩
      · exact h1 y e
    · rw [List.countP_cons, List.count_cons, h2]; rfl
theorem cntB {X : Cx} (K : PySem.W.Frag) (hK : X.K = K := by rfl) : MtR X "list.count" (rCntB K) := by
  subst hK
  intro pins s σ H x xs v us Q I rx rxs h
  obtain ⟨p, bs, k, rfl, rfl, hs, q⟩ := h
  cases rx
  obtain ⟨u, rfl, ru⟩ := rxs.one
  cases (show u = Value.bool k from ru)
  obtain ⟨its, rv, ⟨⟨cls, dd, data, sl⟩, n, ho, hc, hdn, hd⟩, hlen⟩ := I.list hs
  simp only at hc hd
  subst hc hd
  obtain ⟨h1, h2⟩ := vals_bl (k := k) rv
  refine call_meets PySem.F.slot_list_count ⟨_, ho, rfl⟩ PySem.F.entry_list_count (PySem.F.args_list_count_2 _ _)
    (SeqAt.list_countAt p its.toArray n dd sl (.bool k) (isBoolOf k)) ⟨ho, fun y hy => ?_, ?_⟩
  · obtain ⟨b, rfl⟩ := h1 y (by simpa using hy)
    exact SeqAt.EqAt.bool_bool b k
  · refine ⟨.int (bs.count k : Nat), H, I.tok _, ⟨s.toks, ?_⟩, q⟩
    show Value.int ((its.toArray.toList.countP (isBoolOf k) : Nat) : Int) s.toks = Value.int ((bs.count k : Nat) : Int) s.toks
    rw [show its.toArray.toList = its from rfl, h2]
theorem Tb.get {H : Hp} {a : Addr} {R : List (List Int)} (h : Tb H a R) {K : PySem.W.Frag} : ∃ as, SqL K H a (as.map V.ref) ∧ as.length = R.length ∧ H a = some (rL as) ∧ Rws H as R := by
  obtain ⟨as, h1, h2⟩ := h
  exact ⟨as, SqL.of h1, Paired.length h2, h1, h2⟩
theorem row_mem {R : List (List Int)} {i : Nat} (h : i < R.length) : R[i]? = some (row R i) := by
  unfold row
  rw [List.getD_eq_getElem?_getD, List.getElem?_eq_getElem h]; rfl
theorem gd_mem {G : List Bool} {i : Nat} (h : i < G.length) : G[i]? = some (gdI G i) := by
  unfold gdI
  rw [List.getD_eq_getElem?_getD, List.getElem?_eq_getElem h]; rfl
theorem wf_row {c : Nat} {R : List (List Int)} {G : List Bool} (W : WF c R G) {i : Nat} (h : i < R.length) : (row R i).length = c ∧ ∀ x ∈ row R i, -1 ≤ x ∧ x < R.length := W.row _ (List.mem_of_getElem? (row_mem h))
end Gal
end
section
set_option Elab.async false
set_option linter.all false
set_option maxRecDepth 100000
set_option maxHeartbeats 4000000
namespace Gal
open PySem PySem.Spec PyProof.Rows L2
/-! numbering by a dict -/
section
variable {α β γ : Type}
theorem Rfn.trans {l : List α} {m : List β} {k : List γ} (h : Rfn l m) (h' : Rfn m k) : Rfn l k :=
  ⟨h.1.trans h'.1, fun i j hi hj e => h'.2 i j (by rw [← h.1]; exact hi) (by rw [← h.1]; exact hj) (h.2 i j hi hj e)⟩
theorem rfn_map (f : α → β) (l : List α) : Rfn l (l.map f) := ⟨(List.length_map _).symm, fun i j _ _ e => by rw [List.getElem?_map, List.getElem?_map, e]⟩
theorem rfn_unmap {f : α → β} (hf : ∀ x y, f x = f y → x = y) (l : List α) : Rfn (l.map f) l := ⟨List.length_map _, fun i j hi hj e => by
  rw [List.length_map] at hi hj
  rw [List.getElem?_map, List.getElem?_map, List.getElem?_eq_getElem hi, List.getElem?_eq_getElem hj] at e
  rw [List.getElem?_eq_getElem hi, List.getElem?_eq_getElem hj]
  exact congrArg some (hf _ _ (Option.some.inj e))⟩
theorem rfn_len [DecidableEq α] [DecidableEq β] {l : List α} {m : List β} (h : Rfn l m) (h' : Rfn m l) : (ded l).length = (ded m).length :=
  Nat.le_antisymm (rfn_le m l h'.1 h') (rfn_le l m h.1 h)
theorem ded_pos [DecidableEq α] {l : List α} (h : 0 < l.length) : 0 < (ded l).length := by
  cases l with
  | nil => cases h
  | cons a l =>
    have : a ∈ ded (a :: l) := mem_ded.mpr List.mem_cons_self
    exact List.length_pos_of_mem this
end
/-- the dict of the numbers of ds -/
def numD (ds : List NKey) : List (NKey × V) := ds.zipIdx.map fun p => (p.1, .int (p.2 : Nat))
theorem numD_len {ds : List NKey} : (numD ds).length = ds.length := by unfold numD; rw [List.length_map, List.length_zipIdx]
theorem numD_snoc {ds : List NKey} {k : NKey} : numD (ds ++ [k]) = numD ds ++ [(k, .int (ds.length : Nat))] := by
  unfold numD
  rw [List.zipIdx_append, List.map_append]; simp
theorem valV_app {κ : Type} [DecidableEq κ] {k : κ} : ∀ {xs ys : List (κ × V)}, valV (xs ++ ys) k = match valV xs k with | some v => some v | none => valV ys k
  | [], ys => rfl
  | p :: xs, ys => by
    rw [List.cons_append]
    by_cases e : p.1 = k
    · rw [valV_pos e, valV_pos e]
    · rw [valV_neg e, valV_neg e]
      exact valV_app
theorem valV_one {κ : Type} [DecidableEq κ] {k k' : κ} {v : V} : valV [(k', v)] k = if k' = k then some v else none := by
  by_cases e : k' = k
  · rw [valV_pos (p := (k', v)) e, if_pos e]
  · rw [valV_neg (p := (k', v)) e, if_neg e]; rfl
theorem valV_numD {k : NKey} {ds : List NKey} : (k ∈ ds → valV (numD ds) k = some (.int (idx k ds : Nat))) ∧ (k ∉ ds → valV (numD ds) k = none) := by
  suffices h : ∀ n (ds : List NKey), ds.length = n → (k ∈ ds → valV (numD ds) k = some (.int (idx k ds : Nat))) ∧ (k ∉ ds → valV (numD ds) k = none) from h _ ds rfl
  intro n
  induction n with
  | zero =>
    intro ds h
    have : ds = [] := List.length_eq_zero_iff.mp h
    subst this
    exact ⟨(fun z => nomatch z), fun _ => rfl⟩
  | succ n ih =>
    intro ds h
    have hne : ds ≠ [] := fun z => by subst z; cases h
    have e := List.dropLast_concat_getLast hne
    generalize ds.dropLast = m at e
    generalize ds.getLast hne = y at e
    subst e
    have hm : m.length = n := by rw [List.length_append] at h; simpa using h
    obtain ⟨h1, h2⟩ := ih m hm
    rw [numD_snoc, valV_app]
    constructor
    · intro hk
      by_cases hkm : k ∈ m
      · rw [h1 hkm, idx_app [y] hkm]
      · have : k = y := by simpa [hkm] using hk
        subst this
        rw [h2 hkm]
        show valV [(k, V.int (m.length : Nat))] k = _
        rw [valV_one, if_pos rfl, idx_last hkm]
    · intro hk
      have hkm : k ∉ m := fun z => hk (List.mem_append_left _ z)
      have hky : ¬ y = k := fun z => hk (by rw [z]; simp)
      rw [h2 hkm]
      show valV [(y, V.int (m.length : Nat))] k = _
      rw [valV_one, if_neg hky]
/-- the numbers of a list of keys, as ints -/
def numI {α : Type} [DecidableEq α] (ks : List α) : List Int := (numb ks).map Int.ofNat
theorem numI_len {α : Type} [DecidableEq α] {ks : List α} : (numI ks).length = ks.length := by unfold numI; rw [List.length_map, numb_len]
theorem numI_snoc {α : Type} [DecidableEq α] {ks : List α} {k : α} : numI (ks ++ [k]) = numI ks ++ [((idx k (ded (ks ++ [k])) : Nat) : Int)] := by
  unfold numI
  rw [numb_snoc, List.map_append]; rfl
theorem numI_rfn {α : Type} [DecidableEq α] {ks : List α} : Rfn (numI ks) ks := (rfn_unmap (fun x y e => Int.ofNat.inj e) _).trans (numb_rfn ks)
theorem rfn_numI {α : Type} [DecidableEq α] {ks : List α} : Rfn ks (numI ks) := (rfn_numb ks).trans (rfn_map _ _)
theorem numI_nn {α : Type} [DecidableEq α] {ks : List α} : ∀ k ∈ numI ks, 0 ≤ k := fun k hk => by
  unfold numI at hk
  obtain ⟨n, _, rfl⟩ := List.mem_map.mp hk
  exact Int.natCast_nonneg n
theorem nk_keep {H : Hp} {d t : Addr} {u o : HO} {k : NKey} (hd : H d = some o) (ho : ∀ ys, o ≠ .tup ys) (h : NkAt H t k) : NkAt (upd H d u) t k := by
  obtain ⟨x, c, ys, kx, kys, e, h1, h2, h3, h4⟩ := h
  have n : ∀ {q : Addr} {zs : List V}, H q = some (.tup zs) → q ≠ d := fun e z => by
    rw [z, hd] at e
    exact ho _ (Option.some.inj e)
  exact ⟨x, c, ys, kx, kys, e, upd_at (n h1) h1, upd_at (n h2) h2, h3, h4⟩
theorem DnAt.keep {P : Program} {w : World} {H : Hp} {d f : Addr} {u o : HO} {kvs : List (NKey × V)} (ho : ∀ ys, o ≠ .tup ys) (n : d ≠ f) (hf : H f = some o) (h : DnAt P w H d kvs) : DnAt P w (upd H f u) d kvs := by
  obtain ⟨ks, h1, h2, h3⟩ := h
  exact ⟨ks, upd_at n h1, h2, fun x hx => nk_keep hf ho (h3 x hx)⟩
theorem DnAt.ne_lst {P : Program} {w : World} {H : Hp} {d f : Addr} {kvs : List (NKey × V)} {xs : List V} (h : DnAt P w H d kvs) (hf : H f = some (.lst xs)) : f ≠ d := fun z => by
  obtain ⟨ks, h1, _⟩ := h
  rw [z, h1] at hf
  have := Option.some.inj hf
  cases this
theorem DnAt.some {P : Program} {w : World} {H : Hp} {d : Addr} {kvs : List (NKey × V)} (h : DnAt P w H d kvs) : ∃ ks, H d = some (dn P w d ks) := by
  obtain ⟨ks, h1, _⟩ := h
  exact ⟨ks, h1⟩
end Gal
end
section
set_option Elab.async false
set_option linter.all false
set_option maxRecDepth 100000
set_option maxHeartbeats 4000000
/-! zip of a text and a list -/
namespace Gal
open PySem PySem.Spec PyProof.Rows L2
def Itzs (K : PySem.W.Frag) (x : Str) (b : Addr) : It :=
  ⟨fun i H => ∃ (ys : List V) (y : V), SqL K H b ys ∧ i < x.cps.size ∧ ys[i]? = some y,
    fun i H v H' => ∃ T c y, v = .ref T ∧ H T = none ∧ H' = upd H T (.tup [.str ⟨#[c]⟩, y]) ∧ x.cps[i]? = some c ∧ ∀ ys, SqL K H b ys → ys[i]? = some y,
    fun i H => ∃ ys : List V, SqL K H b ys ∧ i ≤ x.cps.size ∧ i ≤ ys.length ∧ (x.cps.size ≤ i ∨ ys.length ≤ i)⟩
theorem turn_zipSL {P : Program} {w : World} {K : PySem.W.Frag} {elts : List Expr} {kk : Nat} {tpos : Pos} {x : Str} {t : Tok} {b z TI TO i1 i2 : Addr} (S : ZipSep2 z TI TO i1 i2 [i1] [i2, b]) (hb : b ≠ i2) :
    Turn P w K (.Tuple elts kk tpos) (Itzs K x b) [z, TI, TO, i1, i2] z (fun i h => IsZip h z TI TO .none ∧ IsTupOf2 h TI (.ref i1) (.ref i2) ∧ (∃ x y, IsTupOf2 h TO x y) ∧ h.IsStrIter i1 (strIterType x) x t i ∧ h.IsListIter i2 b i) where
  mem := by simp
  obj := fun i h st c hc => by
    obtain ⟨hz, hTI, ⟨x, y, hTO⟩, ⟨o1, e1, _, d1⟩, ⟨o2, e2, _, d2⟩⟩ := st
    have e' : c = z ∨ c = TI ∨ c = TO ∨ c = i1 ∨ c = i2 := by simpa using hc
    rcases e' with q | q | q | q | q
    · rw [q]; exact ⟨_, hz, fun v q => nomatch q⟩
    · rw [q]; exact ⟨_, hTI, fun v q => nomatch q⟩
    · rw [q]; exact ⟨_, hTO, fun v q => nomatch q⟩
    · rw [q]; exact ⟨o1, e1, fun v q => by rw [d1] at q; cases q⟩
    · rw [q]; exact ⟨o2, e2, fun v q => by rw [d2] at q; cases q⟩
  keep := fun i h h' st k => by
    obtain ⟨hz, hTI, ⟨x, y, hTO⟩, ⟨o1, e1, r1⟩, h2⟩ := st
    exact ⟨k z (by simp) _ hz, k TI (by simp) _ hTI, ⟨x, y, k TO (by simp) _ hTO⟩, ⟨o1, k i1 (by simp) _ e1, r1⟩, h2.at fun o q => k i2 (by simp) o q⟩
  item := by
    intro X hP hw hK hc i pins s σ H E I hf st hg
    subst hP hw hK
    obtain ⟨hz, hTI, ⟨x0, y0, hTO⟩, h1, h2⟩ := st
    obtain ⟨ys, y, hqy, hx, hy⟩ := hg
    obtain ⟨its2, rv2, p2, _⟩ := I.list hqy
    obtain ⟨u2, hu2, ru2⟩ := rv2.get hy
    have hh : X.A.in1.handled = none := I.ok.hd hc
    have hzl : z < s.heap.objs.size := Heap.lt_size hz
    have D1 := Draws.text (prog := X.prog) (w := X.w) hh i1 x t
    have D2 := Draws.list (prog := X.prog) (w := X.w) hh i2 b hb its2.toArray
    have hi2 : i < its2.toArray.size := by
      have := (List.getElem?_eq_some_iff.mp hu2).1
      simpa using this
    refine wpAny_pyNext_zipD2_item S D1 D2 hz hTI hTO h1 ⟨h2, p2.isList⟩ hx hi2 fun v1 v2 h' tk y1 y2 z' TO' h1' h2' hT hsz hk => ?_
    obtain ⟨c, tc, hc1, rfl⟩ := y1
    have hv2 : v2 = u2 := by
      have : its2[i]? = some v2 := by simpa using y2
      rw [hu2] at this
      exact (Option.some.inj this).symm
    subst hv2
    refine ⟨_, rfl, wpAny_letOwnedTupleGo_zip (s := { s with heap := h', toks := tk }) z' fun h'' z'' sb => ?_⟩
    have hT2 : h''.get? s.heap.objs.size = some { cls := .type "tuple", data := .seq #[.str ⟨#[c]⟩ tc, v2] } := (sb.2 _ (Nat.ne_of_gt hzl)).trans hT
    have new : ObjOk X.prog X.w (upd H s.heap.objs.size (.tup [.str ⟨#[c]⟩, y])) h'' s.heap.objs.size (.tup [.str ⟨#[c]⟩, y]) :=
      ⟨by show 2 ≤ sizeLine; decide, [.str ⟨#[c]⟩ tc, v2], .cons ⟨_, rfl⟩ (.cons ru2 .nil), ⟨_, hT2, rfl, _, rfl⟩⟩
    have I1 : Inv X pins σ (upd H s.heap.objs.size (.tup [.str ⟨#[c]⟩, y])) { s with heap := h'', toks := tk } :=
      I.turnedNew (t' := tk) (ch := [z, TI, TO, i1, i2]) (fun c o hb q => (sb.2 c (fun q' => hb (by simp [q']))).trans (hk c o (fun q' => hb (by simp [q'])) (fun q' => hb (by simp [q'])) (fun q' => hb (by simp [q'])) (fun q' => hb (by simp [q'])) q)) hf (Nat.le_refl _) new
    have zi1 : i1 ≠ z := Ne.symm S.zi1
    have zi2 : i2 ≠ z := Ne.symm S.zi2
    refine ⟨.ref s.heap.objs.size, _, I1, rfl, ⟨_, c, y, rfl, I.hok.fresh (Nat.le_refl _), rfl, hc1, fun l hl => by rw [I.list_inj hl hqy]; exact hy⟩, ⟨z'', ?_, ⟨.str ⟨#[c]⟩ tc, v2, ?_⟩, ?_, ?_⟩, fun c hcm => ?_⟩
    · exact (sb.2 _ S.TIz).trans (hk _ _ S.TIz S.TITO S.TIi1 S.TIi2 hTI)
    · exact (sb.2 _ S.TOz).trans TO'
    · obtain ⟨o1, e1, r1⟩ := h1'
      exact ⟨o1, (sb.2 _ zi1).trans e1, r1⟩
    · exact h2'.1.at fun o q => (sb.2 _ zi2).trans q
    · have hlt : c < s.heap.objs.size := by
        have e' : c = z ∨ c = TI ∨ c = TO ∨ c = i1 ∨ c = i2 := by simpa using hcm
        rcases e' with q | q | q | q | q
        · rw [q]; exact hzl
        · rw [q]; exact Heap.lt_size hTI
        · rw [q]; exact Heap.lt_size hTO
        · rw [q]; obtain ⟨_, e1, _⟩ := h1; exact Heap.lt_size e1
        · rw [q]; obtain ⟨_, e2, _⟩ := h2; exact Heap.lt_size e2
      rw [upd_ne (Nat.ne_of_lt hlt)]
      exact (hf c hcm).1
  done := by
    intro X hP hw hK hc i pins s σ H E I hf st hg
    subst hP hw hK
    obtain ⟨hz, hTI, ⟨x0, y0, hTO⟩, h1, h2⟩ := st
    obtain ⟨ys, hqy, hl1, hl2, hend⟩ := hg
    obtain ⟨its2, rv2, p2, _⟩ := I.list hqy
    have l2 := rv2.length
    have hh : X.A.in1.handled = none := I.ok.hd hc
    have D1 := Draws.text (prog := X.prog) (w := X.w) hh i1 x t
    have D2 := Draws.list (prog := X.prog) (w := X.w) hh i2 b hb its2.toArray
    have hsz : its2.toArray.size = its2.length := by simp
    exact wpAny_pyNext_zipD2_end S D1 D2 hz hTI hTO h1 ⟨h2, p2.isList⟩ hl1 (by omega) (by omega) fun h' tk hk => ⟨rfl, I.turnedL (t' := tk) (ch := [z, TI, TO, i1, i2]) (fun c o hb q =>
      hk c o (fun q' => hb (by simp [q'])) (fun q' => hb (by simp [q'])) (fun q' => hb (by simp [q'])) (fun q' => hb (by simp [q'])) q) hf⟩
  self := fun A i s Q E st h => wpAny_pyIter_zip st.1 h
theorem sepN (N b : Nat) (h : b < N) : ZipSep2 (N + 4) (N + 2) (N + 3) N (N + 1) [N] [N + 1, b] where
  TIz := by show N + 2 ≠ N + 4; omega
  TOz := by show N + 3 ≠ N + 4; omega
  TITO := by show N + 2 ≠ N + 3; omega
  TIi1 := by show N + 2 ≠ N; omega
  mem1 := List.mem_cons_self
  zf1 := fun z => by have : N + 4 = N := by simpa using z
                     omega
  Tf1 := fun z => by have : N + 3 = N := by simpa using z
                     omega
  TIi2 := by show N + 2 ≠ N + 1; omega
  mem2 := List.mem_cons_self
  zf2 := fun z => by
    rcases List.mem_cons.mp z with z | z
    · have : N + 4 = N + 1 := z
      omega
    · have : N + 4 = b := List.mem_singleton.mp z
      omega
  Tf2 := fun z => by
    rcases List.mem_cons.mp z with z | z
    · have : N + 3 = N + 1 := z
      omega
    · have : N + 3 = b := List.mem_singleton.mp z
      omega
  sep1_2 := fun z => by
    rcases List.mem_cons.mp z with z | z
    · have : N = N + 1 := z
      omega
    · have : N = b := List.mem_singleton.mp z
      omega
  sep2_1 := fun z => by
    have : N + 1 = N := List.mem_singleton.mp z
    omega
theorem neN (N b : Nat) (h : b < N) : b ≠ N + 1 := by omega
def iZipSL (K : PySem.W.Frag) (ta : TA) : TI := fun σ H R => ta σ H fun vs H1 => ∃ (x : Str) (b : Addr) (ys : List V), vs = [.str x, .ref b] ∧ SqL K H1 b ys ∧ R (Itzs K x b) H1
theorem pi_zipSL {X : Cx} (K : PySem.W.Frag) {e e2 : Expr} {ta : TA} {p pos tpos : Pos} {elts : List Expr} {kk : Nat} (hg : Gl X "zip") (hm : X.mg "zip" = none) (ha : PA X [e, e2] ta)
    (hs : starEach [e, e2] X.env = (false, eval e X.env) :: starEach [e2] X.env := by rfl) (hpl : (backTo pos (starEach [e2] X.env)).any (·.1) = false := by rfl) (hK : X.K = K := by rfl) :
    PI X (.Tuple elts kk tpos) (.Call (.Name "zip" p) [e, e2] [] pos) (iZipSL K ta) := by
  subst hK
  refine ⟨fun pins s σ H R I h => ?_⟩
  refine Call_ (ld_blt I hg hm PyProof.Rows.boot_zip (PyProof.Rows.callWith_type1 (thn (ha.run pos pins s σ H _ I h) fun us s1 ⟨vs, H1, I1, r1, q1⟩ => ?_) hs hpl))
  obtain ⟨x, b, ys, ex, hqy, q⟩ := q1
  subst ex
  cases r1 with
  | cons r rr =>
    cases rr with
    | cons r' rr =>
      cases rr
      obtain ⟨t, rfl⟩ := r
      cases r'
      obtain ⟨its2, rv2, p2, _⟩ := I1.list hqy
      have lb : b < s1.heap.objs.size := p2.lt
      refine zip_begins2 (begins_text x t) (begins_list b its2.toArray) True.intro p2.isList fun h' hz hTI hTO h1 h2 hsz hk => wpAny_pyIter_zip hz ?_
      have I2 : Inv X pins σ H1 { s1 with heap := h' } := I1.kept (t' := s1.toks) hk
      refine ⟨s1.heap.objs.size + 4, [s1.heap.objs.size + 4, s1.heap.objs.size + 2, s1.heap.objs.size + 3, s1.heap.objs.size, s1.heap.objs.size + 1], _, _, H1, rfl, I2, turn_zipSL (x := x) (t := t) (sepN _ _ lb) (neN _ _ lb), ⟨hz, hTI, ⟨_, _, hTO⟩, ⟨_, h1, rfl, rfl⟩, ⟨_, h2, rfl, rfl⟩⟩, fun c hcm => ?_, q⟩
      have e' : c = s1.heap.objs.size + 4 ∨ c = s1.heap.objs.size + 2 ∨ c = s1.heap.objs.size + 3 ∨ c = s1.heap.objs.size ∨ c = s1.heap.objs.size + 1 := by simpa using hcm
      have hle : s1.heap.objs.size ≤ c := by
        rcases e' with z | z | z | z | z
        · rw [z]; exact Nat.le_add_right _ _
        · rw [z]; exact Nat.le_add_right _ _
        · rw [z]; exact Nat.le_add_right _ _
        · rw [z]; exact Nat.le_refl _
        · rw [z]; exact Nat.le_add_right _ _
      exact I1.fpOk hle (I1.hok.fresh hle)
theorem walk_zipSL {K : PySem.W.Frag} {x : Str} {b : Addr} {ys : List V} (hl : x.cps.size = ys.length) : Walk (Itzs K x b) ys.length (fun H => SqL K H b ys) (YPair (fun i => x.cps[i]?.map fun c => V.str ⟨#[c]⟩) (fun i => ys[i]?)) := by
  refine ⟨fun i H hi q => ⟨ys, ys[i], q, by omega, by simp [hi]⟩, fun H q => ⟨ys, q, by omega, Nat.le_refl _, .inr (Nat.le_refl _)⟩, fun i H v H' _ q y => ?_⟩
  obtain ⟨T, c, z, h1, h2, h3, h4, h5⟩ := y
  exact ⟨T, .str ⟨#[c]⟩, z, h1, h2, h3, by simp [h4], h5 ys q⟩
end Gal
end
section
set_option Elab.async false
set_option linter.all false
set_option maxRecDepth 100000
set_option maxHeartbeats 4000000
namespace Gal
open PySem PySem.Spec PyProof.Rows L2
section
variable {P : Program} {w : World} {K : PySem.W.Frag} {mg : Str → Option Value} {base : Heap}
abbrev N_power : List Str := ["base", "exponent", "product", "turn"]
theorem sc_power : FnScope N_power ["base", "exponent"] (defScope s_power) := ⟨rfl, rfl, rfl, by decide +kernel, rfl, by decide +kernel, by decide +kernel⟩
theorem b_power (T : TX K mg) : Binds K T.d_power ["base", "exponent"] [] := T.F_power.bindsN fun _ _ _ _ _ _ us hl => match us, hl with | [_, _], _ => rfl
def sp_power : Sp := fun vs H Q _ => ∃ (b e : Nat), vs = [.int (b : Int), .int (e : Int)] ∧ b ≤ 3 ∧ e ≤ 3 ∧ Q (.int ((b ^ e : Nat) : Int)) H
theorem ok_power (T : TX K mg) : FnOk P w K mg base CX0 1 (He.fAd K ("power", none)) T.d_power ["base", "exponent"] sp_power := by
  refine T.F_power.ok sc_power (fun vs H Q E h => ?_) (fun cdv A outer s H vs Q E hr h => ?_)
  · obtain ⟨b, e, rfl, _⟩ := h
    rfl
  · obtain ⟨b, e, rfl, hb, he, q⟩ := h
    refine ⟨_, PSs.nox (pss_cons (ps_set (i := 2) sc_power.nd rfl (Or.inl rfl) pe_int)
    (pss_cons (ps_for PassesOwn.never rfl (pi_range1 rfl T.n_range (pa_cons (pv 1) pa_nil)) (pg_name (i := 3) sc_power.nd rfl (Or.inl rfl)) (pss_one (ps_set (i := 2) sc_power.nd rfl (Or.inl rfl) (pe_op op_mul (pv 2) (pv 0)))))
    (pss_one (ps_ret (pv 2))))), ?_⟩
    refine ⟨_, rfl, (e : Int), rfl, by omega, by omega, ?_⟩
    refine for_range (n := e) (fun i σ H' => H' = H ∧ ∃ y3, σ = [some (.int (b : Int)), some (.int (e : Int)), some (.int ((b ^ i : Nat) : Int)), y3]) ?_ ?_ ?_
    · exact ⟨rfl, none, rfl⟩
    · rintro i σ H' hi ⟨rfl, y3, rfl⟩
      refine ⟨_, rfl, _, rfl, _, _, rfl, rfl, .inl ?_, rfl, some (.int (0 + (i : Int))), ?_⟩
      · have h1 : b ^ i ≤ 3 ^ 3 := Nat.le_trans (Nat.pow_le_pow_left hb i) (Nat.pow_le_pow_right (by decide) (by omega))
        have h2 : (3 : Nat) ^ 3 = 27 := by decide
        rw [h2] at h1
        constructor <;> omega
      · rw [Nat.pow_succ]; simp
    · rintro σ H' ⟨rfl, y3, rfl⟩
      exact ⟨_, rfl, q⟩
end
end Gal
end
section
set_option Elab.async false
set_option linter.all false
set_option maxRecDepth 100000
set_option maxHeartbeats 4000000
namespace Gal
open PySem PySem.Spec PyProof.Rows L2
section
variable {P : Program} {w : World} {K : PySem.W.Frag} {mg : Str → Option Value} {base : Heap}
/-! ### a draw -/
abbrev N_l_draw : List Str := ["_law_purse_here", "_law_size", "_law_drawn_here", "_law_mixed"]
theorem sc_l_draw : FnScope N_l_draw ["_law_purse_here", "_law_size"] (defScope s_l_draw) := ⟨rfl, rfl, rfl, by decide +kernel, rfl, by decide +kernel, by decide +kernel⟩
theorem b_l_draw (T : TX K mg) : Binds K T.d_l_draw ["_law_purse_here", "_law_size"] [] := T.F_l_draw.bindsN fun _ _ _ _ _ _ us hl => match us, hl with | [_, _], _ => rfl
def sp_draw : Sp := fun vs H Q _ => ∃ (p : Addr) (s : Int), vs = [.ref p, .int s] ∧ 0 < s ∧ s < 1073741824 ∧ PuAt H p ∧ ∀ d a b c : Int, 0 ≤ d → d < s → Q (.int d) (upd H p (pu a b c))
theorem at3_0 {a b c : Int} : atI ([.int a, .int b, .int c] : List V) 0 = some (.int a) := atI_nat (j := 0) rfl
theorem at3_1 {a b c : Int} : atI ([.int a, .int b, .int c] : List V) 1 = some (.int b) := atI_nat (j := 1) rfl
theorem at3_2 {a b c : Int} : atI ([.int a, .int b, .int c] : List V) 2 = some (.int c) := atI_nat (j := 2) rfl
theorem ok_l_draw (T : TX K mg) : FnOk P w K mg base CX0 1 (He.fAd K ("_law_draw", none)) T.d_l_draw ["_law_purse_here", "_law_size"] sp_draw := by
  refine T.F_l_draw.ok sc_l_draw (fun vs H Q E h => ?_) (fun cdv A outer s H vs Q E hr h => ?_)
  · obtain ⟨b, e, rfl, _⟩ := h
    rfl
  · obtain ⟨p, s, rfl, hs, hs2, ⟨a, b, c, hp⟩, q⟩ := h
    refine ⟨_, PSs.nox (pss_cons (ps_if (pt_cmpR op_gt (pe_ix (ixL K) (pv 0) pe_int (fun _ _ => rfl)) pe_int (nomark _)) (pss_cons (ps_set (i := 2) sc_l_draw.nd rfl (Or.inl rfl) (pe_op op_mod (pe_callTy call_int1 (by rfl) T.n_int bt_int (pa_cons (pe_ix (ixL K) (pv 0) pe_int (fun _ _ => rfl)) pa_nil)) (pv 1)))
      (pss_cons (ps_asg (pe_op op_fdiv (pe_ix (ixL K) (pv 0) pe_int (fun _ _ => rfl)) (pv 1)) (pg_sub (pv 0) pe_int set_list))
      (pss_one (ps_ret (pv 2))))) pss_nil)
    (pss_cons (ps_asg (pe_op op_add (pe_ix (ixL K) (pv 0) pe_int (fun _ _ => rfl)) pe_int) (pg_sub (pv 0) pe_int set_list))
    (pss_cons (ps_set (i := 3) sc_l_draw.nd rfl (Or.inl rfl) (pe_op op_mod (pe_callTy call_int1 (by rfl) T.n_int bt_int (pa_cons (pe_op op_add (pe_ix (ixL K) (pv 0) pe_int (fun _ _ => rfl)) (pe_op op_mul (pe_ix (ixL K) (pv 0) pe_int (fun _ _ => rfl)) pe_int)) pa_nil)) pe_int))
    (pss_cons (ps_set (i := 3) sc_l_draw.nd rfl (Or.inl rfl) (pe_op op_mod (pe_callTy call_int1 (by rfl) T.n_int bt_int (pa_cons (pe_op op_add (pe_op op_add (pe_op op_mul (pv 3) (pv 3)) (pe_op op_mul pe_int (pv 3))) (pe_ix (ixL K) (pv 0) pe_int (fun _ _ => rfl))) pa_nil)) pe_int))
    (pss_cons (ps_set (i := 3) sc_l_draw.nd rfl (Or.inl rfl) (pe_op op_mod (pe_callTy call_int1 (by rfl) T.n_int bt_int (pa_cons (pe_op op_add (pe_op op_add (pe_op op_mul (pv 3) (pv 3)) (pe_op op_mul pe_int (pv 3))) (pe_ix (ixL K) (pv 0) pe_int (fun _ _ => rfl))) pa_nil)) pe_int))
    (pss_one (ps_ret (pe_op op_mod (pe_callTy call_int1 (by rfl) T.n_int bt_int (pa_cons (pe_op op_fdiv (pv 3) pe_int) pa_nil)) (pv 1))))))))), ?_⟩
    refine ⟨_, rfl, p, _, _, _, rfl, rfl, SqL.of hp, at3_0, _, _, rfl, rfl, _, rfl, ite2 (fun _ => ?_) (fun _ => ?_)⟩
    · refine ⟨_, rfl, p, _, _, _, rfl, rfl, SqL.of hp, at3_0, .inl ⟨_, rfl, _, rfl, _, _, rfl, rfl, hs, ?_⟩⟩
      refine ⟨_, rfl, p, _, _, _, rfl, rfl, SqL.of hp, at3_0, _, rfl, _, _, rfl, rfl, ⟨hs, hs2⟩, _, rfl, p, _, _, _, rfl, rfl, hp, ixN_of (j := 0) rfl (by show 0 < 3; decide), ?_⟩
      refine ⟨_, rfl, ?_⟩
      exact q (a % s) (a / s) b c (Int.emod_nonneg _ (by omega)) (Int.emod_lt_of_pos _ hs)
    · have m1 : ∀ x : Int, -(2 ^ 64) < x % 2147483647 ∧ x % 2147483647 < 2 ^ 64 := fun x => by omega
      have m2 : ∀ x : Int, -(2 ^ 64) < x % 2147483629 ∧ x % 2147483629 < 2 ^ 64 := fun x => by omega
      refine ⟨_, rfl, p, _, _, _, rfl, rfl, SqL.of hp, at3_2, _, _, rfl, rfl, _, rfl, p, _, _, _, rfl, rfl, hp, ixN_of (j := 2) rfl (by show 2 < 3; decide), ?_⟩
      have hp2 : (upd H p (pu a b (c + 1))) p = some (pu a b (c + 1)) := upd_same
      refine ⟨_, rfl, p, _, _, _, rfl, rfl, SqL.of hp2, at3_1, _, rfl, p, _, _, _, rfl, rfl, SqL.of hp2, at3_2, _, _, rfl, rfl, .inr ⟨by decide, by decide⟩, _, _, rfl, rfl, .inl ⟨_, rfl, _, _, rfl, rfl, (by show (0 : Int) < _; decide), ?_⟩⟩
      refine ⟨_, rfl, _, rfl, _, _, rfl, rfl, .inl (m1 _), _, rfl, _, _, rfl, rfl, .inl ⟨by decide, by decide⟩, _, _, rfl, rfl, _, rfl, p, _, _, _, rfl, rfl, SqL.of hp2, at3_2, _, _, rfl, rfl, .inl ⟨_, rfl, _, _, rfl, rfl, (by show (0 : Int) < _; decide), ?_⟩⟩
      refine ⟨_, rfl, _, rfl, _, _, rfl, rfl, .inl (m2 _), _, rfl, _, _, rfl, rfl, .inl ⟨by decide, by decide⟩, _, _, rfl, rfl, _, rfl, p, _, _, _, rfl, rfl, SqL.of hp2, at3_1, _, _, rfl, rfl, .inl ⟨_, rfl, _, _, rfl, rfl, (by show (0 : Int) < _; decide), ?_⟩⟩
      refine ⟨_, rfl, _, _, rfl, rfl, ⟨by decide, by decide⟩, .inl ⟨_, rfl, _, rfl, _, _, rfl, rfl, hs, ?_⟩⟩
      exact q _ a b (c + 1) (Int.emod_nonneg _ (by omega)) (Int.emod_lt_of_pos _ hs)
/-! ### a copy -/
abbrev N_l_copied : List Str := ["_law_rows", "_law_row"]
theorem sc_l_copied : FnScope N_l_copied ["_law_rows"] (defScope s_l_copied) := ⟨rfl, rfl, rfl, by decide +kernel, rfl, by decide +kernel, by decide +kernel⟩
theorem b_l_copied (T : TX K mg) : Binds K T.d_l_copied ["_law_rows"] [] := T.F_l_copied.bindsN fun _ _ _ _ _ _ us hl => match us, hl with | [_], _ => rfl
/-- new lists all the way -/
def NewTb (H H' : Hp) (q : Addr) (R : List (List Int)) : Prop := H q = none ∧ ∃ as, H' q = some (rL as) ∧ Rws H' as R ∧ as.Nodup ∧ ∀ b ∈ as, H b = none ∧ b ≠ q
def sp_copied : Sp := fun vs H Q _ => ∃ (a : Addr) (R : List (List Int)), vs = [.ref a] ∧ Tb H a R ∧ R.length ≤ 1000 ∧ ∀ (q : Addr) (H' : Hp), Same H H' → NewTb H H' q R → Q (.ref q) H'
theorem ok_l_copied (T : TX K mg) : FnOk P w K mg base CX0 1 (He.fAd K ("_law_copied", none)) T.d_l_copied ["_law_rows"] sp_copied := by
  refine T.F_l_copied.ok sc_l_copied (fun vs H Q E h => ?_) (fun cdv A outer s H vs Q E hr h => ?_)
  · obtain ⟨b, e, rfl, _⟩ := h
    rfl
  · obtain ⟨a, R, rfl, ⟨as, ha, hR⟩, hl, q⟩ := h
    refine ⟨_, PSs.nox (pss_one (ps_ret (pe_lc (own := [("_law_row", 1)]) (g := gName 1) (tt := tYes) rfl sc_l_copied.nd (pi_listK K (pv 0)) (blkOk_by (own := [("_law_row", 1)]) (N := N_l_copied) (sc := defScope s_l_copied) (by decide +kernel)) (fun _ _ _ _ _ => (pg_name (i := 1) sc_l_copied.nd rfl (Or.inl rfl))) (fun _ _ _ _ _ => pts_nil) (fun _ _ _ _ _ => (pe_callTy (lstK K) (by rfl) T.n_list bt_list (pa_cons (pv 1) pa_nil)))))), ?_⟩
    refine ⟨_, rfl, a, rfl, ⟨_, SqL.of ha⟩, fun D nD => ?_⟩
    have hlen := Paired.length hR
    refine lc_list (K := K) (a := a) (xs := as.map V.ref) (fun i H' => Same H H' ∧ ∃ bs, H' D = some (rL bs) ∧ Rws H' bs (R.take i) ∧ bs.Nodup ∧ ∀ b ∈ bs, H b = none ∧ b ≠ D) ?_ ?_ ?_ ?_
    · exact ⟨same_new nD, [], upd_same, by rw [List.take_zero]; exact .nil, List.nodup_nil, by simp⟩
    · rintro i H' _ ⟨s1, _⟩
      exact SqL.of (s1 _ _ ha)
    · rintro i x H' hx ⟨s1, bs, e1, e2, e3, e4⟩
      obtain ⟨b, hb, rfl⟩ := map_get' hx
      obtain ⟨r, hr1, hr2⟩ := paired_get hR hb
      refine ⟨rfl, _, rfl, b, _, rfl, .inl (SqL.of (s1 _ _ hr2)), fun l nl => ?_⟩
      have nlD : l ≠ D := fun z => by rw [z, e1] at nl; cases nl
      have hbl : bs.length ≤ 1000 := by
        have h1 := Paired.length e2
        rw [List.length_take] at h1
        omega
      refine ⟨_, by rw [upd_ne (Ne.symm nlD)]; exact e1, szLt (by rw [List.length_map]; omega), same_mut (same_mut s1 (s1.free nl)) nD, bs ++ [l], ?_, ?_, ?_, ?_⟩
      · rw [upd_same, snocR]
      · rw [List.take_add_one, hr1]
        refine Paired.snoc ?_ ?_
        · refine paired_mem e2 fun c rc hc ec => ?_
          have n1 : c ≠ D := (e4 c hc).2
          have n2 : c ≠ l := fun z => by rw [← z] at nl; rw [show H' c = some (iL rc) from ec] at nl; cases nl
          show upd (upd H' l _) D _ c = _
          rw [upd_ne n1, upd_ne n2]; exact ec
        · show upd (upd H' l _) D _ l = _
          rw [upd_ne nlD, upd_same]
      · refine List.nodup_append.mpr ⟨e3, by simp, fun x hx y hy => ?_⟩
        have : y = l := by simpa using hy
        subst this
        intro z
        subst z
        obtain ⟨j, hj, ej⟩ := List.getElem_of_mem hx
        obtain ⟨r', _, hr'⟩ := paired_get e2 (List.getElem?_eq_getElem hj)
        rw [ej] at hr'
        rw [show H' x = some (iL r') from hr'] at nl
        cases nl
      · intro b' hb'
        rcases List.mem_append.mp hb' with h | h
        · exact e4 b' h
        · have : b' = l := by simpa using h
          subst this
          exact ⟨s1.free nl, nlD⟩
    · rintro H' ⟨s1, bs, e1, e2, e3, e4⟩
      rw [List.length_map, hlen, List.take_length] at e2
      exact q D H' s1 ⟨nD, bs, e1, e2, e3, e4⟩
end
end Gal
end
section
set_option Elab.async false
set_option linter.all false
set_option maxRecDepth 100000
set_option maxHeartbeats 4000000
namespace Gal
open PySem PySem.Spec PyProof.Rows L2
section
variable {P : Program} {w : World} {K : PySem.W.Frag} {mg : Str → Option Value} {base : Heap}
/-! ### a purse -/
abbrev N_l_purse : List Str := ["_law_script", "_law_k", "_law_spare", "_law_cell", "_law_seed"]
theorem sc_l_purse : FnScope N_l_purse ["_law_script", "_law_k", "_law_spare"] (defScope s_l_purse) := ⟨rfl, rfl, rfl, by decide +kernel, rfl, by decide +kernel, by decide +kernel⟩
theorem b_l_purse (T : TX K mg) : Binds K T.d_l_purse ["_law_script", "_law_k", "_law_spare"] [] := T.F_l_purse.bindsN fun _ _ _ _ _ _ us hl => match us, hl with | [_, _, _], _ => rfl
def sp_purse (K : PySem.W.Frag) : Sp := fun vs H Q _ => ∃ (a : Addr) (ns : List Int) (k : Nat) (sp : Int), vs = [.ref a, .int (k : Nat), .int sp] ∧ SqL K H a (ns.map V.int) ∧ k ≤ 3 ∧ ∀ (p : Addr) (x y : Int), H p = none → Q (.ref p) (upd H p (pu x y 0))
theorem ok_l_purse (T : TX K mg) : FnOk P w K mg base CX0 1 (He.fAd K ("_law_purse", none)) T.d_l_purse ["_law_script", "_law_k", "_law_spare"] (sp_purse K) := by
  refine T.F_l_purse.ok sc_l_purse (fun vs H Q E h => ?_) (fun cdv A outer s H vs Q E hr h => ?_)
  · obtain ⟨a, ns, k, sp, rfl, _⟩ := h
    rfl
  · obtain ⟨a, ns, k, sp, rfl, hS, hk, q⟩ := h
    refine ⟨_, PSs.nox (pss_cons (ps_set (i := 3) sc_l_purse.nd rfl (Or.inl rfl) (pv 2))
    (pss_cons (ps_if (pt_cmpR op_lt (pv 1) (pe_callB (lenK K) (by rfl) T.n_len PySem.boot_len (pa_cons (pv 0) pa_nil)) (nomark _)) (pss_one (ps_set (i := 3) sc_l_purse.nd rfl (Or.inl rfl) (pe_callTy call_int1 (by rfl) T.n_int bt_int (pa_cons (pe_ix (ixL K) (pv 0) (pv 1) (fun _ _ => rfl)) pa_nil)))) (pss_one (ps_if (pt_cmpR op_gt (pe_callB (lenK K) (by rfl) T.n_len PySem.boot_len (pa_cons (pv 0) pa_nil)) pe_int (nomark _)) (pss_one (ps_set (i := 3) sc_l_purse.nd rfl (Or.inl rfl) (pe_op op_mod (pe_callTy call_int1 (by rfl) T.n_int bt_int (pa_cons (pe_op op_add (pe_op op_mul (pe_callB (sumK K rfl) (by rfl) T.n_sum bt_sum (pa_cons (pv 0) pa_nil)) pe_int) (pe_op op_mul (pv 1) pe_int)) pa_nil)) pe_int))) pss_nil)))
    (pss_cons (ps_set (i := 4) sc_l_purse.nd rfl (Or.inl rfl) (pe_op op_mod (pe_callTy call_int1 (by rfl) T.n_int bt_int (pa_cons (pe_op op_add (pe_op op_add (pe_op op_mul (pv 3) pe_int) (pe_op op_mul (pv 1) pe_int)) pe_int) pa_nil)) pe_int))
    (pss_cons (ps_if (pt_cmpR op_lt (pe_callB call_abs (by rfl) T.n_abs bt_abs (pa_cons (pv 3) pa_nil)) (pe_op op_pow pe_int pe_int) (nomark _)) (pss_one (ps_ret (pe_lst (pa_cons pe_int (pa_cons (pv 4) (pa_cons pe_int pa_nil)))))) pss_nil)
    (pss_one (ps_ret (pe_lst (pa_cons (pe_callB call_abs (by rfl) T.n_abs bt_abs (pa_cons (pv 3) pa_nil)) (pa_cons (pv 4) (pa_cons pe_int pa_nil)))))))))), ?_⟩
    refine ⟨_, rfl, _, rfl, _, rfl, a, _, rfl, .inl hS, _, _, rfl, rfl, _, rfl, ite2 (fun h1 => ?_) (fun h1 => ?_)⟩
    · have hlt : k < ns.length := by
        have := of_decide_eq_true h1
        rw [List.length_map] at this
        omega
      refine ⟨_, rfl, _, rfl, a, _, _, _, rfl, rfl, hS, atI_map (List.getElem?_eq_getElem hlt), .inl ⟨_, rfl, ?_⟩⟩
      refine ⟨_, rfl, _, _, rfl, rfl, .inr ⟨by decide, by decide⟩, _, rfl, _, _, rfl, rfl, .inr ⟨by decide, by decide⟩, _, _, rfl, rfl, _, _, rfl, rfl, .inl ⟨_, rfl, _, _, rfl, rfl, (by show (0 : Int) < _; decide), ?_⟩⟩
      refine ⟨_, rfl, _, rfl, _, _, rfl, rfl, ⟨by decide, by decide, by decide⟩, _, _, rfl, rfl, _, rfl, ite2 (fun _ => ?_) (fun _ => ?_)⟩
      · exact ⟨_, rfl, (by show 3 ≤ sizeLine; decide), fun p hp => q p 0 _ hp⟩
      · exact ⟨_, rfl, _, rfl, _, rfl, (by show 3 ≤ sizeLine; decide), fun p hp => q p _ _ hp⟩
    · refine ⟨_, rfl, a, _, rfl, .inl hS, _, _, rfl, rfl, _, rfl, ite2 (fun h2 => ?_) (fun h2 => ?_)⟩
      · refine ⟨_, rfl, a, ns, rfl, hS, _, _, rfl, rfl, .inr ⟨by decide, by decide⟩, _, rfl, _, _, rfl, rfl, .inr ⟨by decide, by decide⟩, _, _, rfl, rfl, .inl ⟨_, rfl, _, _, rfl, rfl, (by show (0 : Int) < _; decide), ?_⟩⟩
        refine ⟨_, rfl, _, _, rfl, rfl, .inr ⟨by decide, by decide⟩, _, rfl, _, _, rfl, rfl, .inr ⟨by decide, by decide⟩, _, _, rfl, rfl, _, _, rfl, rfl, .inl ⟨_, rfl, _, _, rfl, rfl, (by show (0 : Int) < _; decide), ?_⟩⟩
        refine ⟨_, rfl, _, rfl, _, _, rfl, rfl, ⟨by decide, by decide, by decide⟩, _, _, rfl, rfl, _, rfl, ite2 (fun _ => ?_) (fun _ => ?_)⟩
        · exact ⟨_, rfl, (by show 3 ≤ sizeLine; decide), fun p hp => q p 0 _ hp⟩
        · exact ⟨_, rfl, _, rfl, _, rfl, (by show 3 ≤ sizeLine; decide), fun p hp => q p _ _ hp⟩
      · refine ⟨_, rfl, _, _, rfl, rfl, .inr ⟨by decide, by decide⟩, _, rfl, _, _, rfl, rfl, .inr ⟨by decide, by decide⟩, _, _, rfl, rfl, _, _, rfl, rfl, .inl ⟨_, rfl, _, _, rfl, rfl, (by show (0 : Int) < _; decide), ?_⟩⟩
        refine ⟨_, rfl, _, rfl, _, _, rfl, rfl, ⟨by decide, by decide, by decide⟩, _, _, rfl, rfl, _, rfl, ite2 (fun _ => ?_) (fun _ => ?_)⟩
        · exact ⟨_, rfl, (by show 3 ≤ sizeLine; decide), fun p hp => q p 0 _ hp⟩
        · exact ⟨_, rfl, _, rfl, _, rfl, (by show 3 ≤ sizeLine; decide), fun p hp => q p _ _ hp⟩
/-! ### the five sizes -/
abbrev N_l_sizes : List Str := []
theorem sc_l_sizes : FnScope N_l_sizes [] (defScope s_l_sizes) := ⟨rfl, rfl, rfl, by decide +kernel, rfl, by decide +kernel, by decide +kernel⟩
theorem b_l_sizes (T : TX K mg) : Binds K T.d_l_sizes [] [] := T.F_l_sizes.bindsN fun _ _ _ _ _ _ us hl => match us, hl with | [], _ => rfl
abbrev szs : List (Nat × Nat × Nat) := [(1, 2, 2), (1, 3, 3), (2, 2, 4), (2, 3, 9), (3, 2, 8)]
/-- at b: the tuple of a size -/
def SzAt (H : Hp) (b : Addr) (z : Nat × Nat × Nat) : Prop := H b = some (.tup [.int (z.1 : Nat), .int (z.2.1 : Nat), .int (z.2.2 : Nat)])
def sp_sizes : Sp := fun vs H Q _ => vs = [] ∧ ∀ (q : Addr) (as : List Addr) (H' : Hp), Same H H' → H q = none → H' q = some (rL as) → Paired (SzAt H') as szs → Q (.ref q) H'
theorem ok_l_sizes (T : TX K mg) : FnOk P w K mg base CX0 1 (He.fAd K ("_law_sizes", none)) T.d_l_sizes [] sp_sizes := by
  refine T.F_l_sizes.ok sc_l_sizes (fun vs H Q E h => ?_) (fun cdv A outer s H vs Q E hr h => ?_)
  · obtain ⟨rfl, _⟩ := h
    rfl
  · obtain ⟨rfl, q⟩ := h
    refine ⟨_, PSs.nox (pss_one (ps_ret (pe_lst (pa_cons (pe_tup (pa_cons pe_int (pa_cons pe_int (pa_cons pe_int pa_nil)))) (pa_cons (pe_tup (pa_cons pe_int (pa_cons pe_int (pa_cons pe_int pa_nil)))) (pa_cons (pe_tup (pa_cons pe_int (pa_cons pe_int (pa_cons pe_int pa_nil)))) (pa_cons (pe_tup (pa_cons pe_int (pa_cons pe_int (pa_cons pe_int pa_nil)))) (pa_cons (pe_tup (pa_cons pe_int (pa_cons pe_int (pa_cons pe_int pa_nil)))) pa_nil)))))))), ?_⟩
    have h3 : ∀ a b c : V, [a, b, c].length ≤ sizeLine := fun a b c => by show 3 ≤ sizeLine; decide
    refine ⟨h3 _ _ _, fun t1 n1 => ⟨h3 _ _ _, fun t2 n2 => ⟨h3 _ _ _, fun t3 n3 => ⟨h3 _ _ _, fun t4 n4 => ⟨h3 _ _ _, fun t5 n5 => ⟨(by show 5 ≤ sizeLine; decide), fun p np => ?_⟩⟩⟩⟩⟩⟩
    have a1 := upd_same (H := H) (a := t1) (o := .tup [.int 1, .int 2, .int 2])
    have s2 := same_new (o := .tup [.int 1, .int 3, .int 3]) n2
    have s3 := same_new (o := .tup [.int 2, .int 2, .int 4]) n3
    have s4 := same_new (o := .tup [.int 2, .int 3, .int 9]) n4
    have s5 := same_new (o := .tup [.int 3, .int 2, .int 8]) n5
    have s6 := same_new (o := rL [t1, t2, t3, t4, t5]) np
    have S5 : Same _ _ := s6
    have S4 := s5.trans S5
    have S3 := s4.trans S4
    have S2 := s3.trans S3
    have S1 := s2.trans S2
    have S0 := (same_new (o := .tup [.int 1, .int 2, .int 2]) n1).trans S1
    refine q p [t1, t2, t3, t4, t5] _ S0 (((same_new n1).trans (s2.trans (s3.trans (s4.trans s5)))).free np) upd_same ?_
    exact .cons (S1 _ _ upd_same) (.cons (S2 _ _ upd_same) (.cons (S3 _ _ upd_same) (.cons (S4 _ _ upd_same) (.cons (S5 _ _ upd_same) .nil))))
/-! ### an order -/
abbrev N_l_order : List Str := ["_law_purse_here", "_law_many", "_law_order_here", "_law_state", "_law_place"]
theorem sc_l_order : FnScope N_l_order ["_law_purse_here", "_law_many"] (defScope s_l_order) := ⟨rfl, rfl, rfl, by decide +kernel, rfl, by decide +kernel, by decide +kernel⟩
theorem b_l_order (T : TX K mg) : Binds K T.d_l_order ["_law_purse_here", "_law_many"] [] := T.F_l_order.bindsN fun _ _ _ _ _ _ us hl => match us, hl with | [_, _], _ => rfl
theorem cut_lo {xs : List V} {k : Nat} : cutV xs none (some (k : Int)) = xs.take k := by
  unfold cutV
  rw [HT.sIx_none, HT.sIx_nat, List.drop_zero, Nat.sub_zero]
  by_cases h : k ≤ xs.length
  · rw [Nat.min_eq_left h]
  · rw [Nat.min_eq_right (by omega), List.take_length, List.take_of_length_le (by omega)]
theorem cut_hi {xs : List V} {k : Nat} : cutV xs (some (k : Int)) none = xs.drop k := by
  unfold cutV
  rw [HT.sIx_none, HT.sIx_nat]
  by_cases h : k ≤ xs.length
  · rw [Nat.min_eq_left h, List.take_of_length_le (by rw [List.length_drop]; omega)]
  · rw [Nat.min_eq_right (by omega), List.drop_length, List.drop_of_length_le (by omega), List.take_nil]
/-- an order of the numbers below n, 0 ahead -/
def Ord (n : Nat) (os : List Nat) : Prop := os.length = n ∧ os.Nodup ∧ (∀ i, i ∈ os ↔ i < n) ∧ os[0]? = some 0
theorem Ord.snoc {n : Nat} {os : List Nat} (h : Ord n os) (k : Nat) (hk : 1 ≤ k) (hk2 : k ≤ n) : Ord (n + 1) (os.take k ++ [n] ++ os.drop k) := by
  obtain ⟨h1, h2, h3, h4⟩ := h
  have hp : (os.take k ++ [n] ++ os.drop k).Perm (n :: os) := by
    have e : os.take k ++ [n] ++ os.drop k = os.take k ++ n :: os.drop k := by simp
    rw [e]
    exact List.perm_middle.trans (by rw [List.take_append_drop])
  refine ⟨by rw [hp.length_eq, List.length_cons, h1], hp.nodup_iff.mpr (List.nodup_cons.mpr ⟨fun z => by have := (h3 n).mp z; omega, h2⟩), fun i => ?_, ?_⟩
  · rw [hp.mem_iff, List.mem_cons, h3]; omega
  · have e : (os.take k)[0]? = some 0 := by rw [List.getElem?_take_of_lt (by omega), h4]
    have hl : 0 < (os.take k).length := by rw [List.length_take]; omega
    rw [List.append_assoc, List.getElem?_append_left hl, e]
def sp_order : Sp := fun vs H Q _ => ∃ (p : Addr) (n : Nat), vs = [.ref p, .int (n : Nat)] ∧ PuAt H p ∧ 1 ≤ n ∧ n ≤ 100 ∧ ∀ (q : Addr) (H' : Hp) (os : List Nat), Sb p H H' → PuAt H' p → H q = none → H' q = some (iL (os.map Int.ofNat)) → Ord n os → Q (.ref q) H'
theorem ok_l_order (T : TX K mg) : FnOk P w K mg base CX0 2 (He.fAd K ("_law_order", none)) T.d_l_order ["_law_purse_here", "_law_many"] sp_order := by
  refine T.F_l_order.ok sc_l_order (fun vs H Q E h => ?_) (fun cdv A outer s H vs Q E hr h => ?_)
  · obtain ⟨p, n, rfl, _⟩ := h
    rfl
  · obtain ⟨p, n, rfl, hp, hn, hn2, q⟩ := h
    refine ⟨_, PSs.nox (pss_cons (ps_set (i := 2) sc_l_order.nd rfl (Or.inl rfl) (pe_lst (pa_cons pe_int pa_nil)))
    (pss_cons (ps_for PassesOwn.never rfl (pi_range2 rfl T.n_range (pa_cons pe_int (pa_cons (pv 1) pa_nil))) (pg_name (i := 3) sc_l_order.nd rfl (Or.inl rfl)) (pss_cons (ps_set (i := 4) sc_l_order.nd rfl (Or.inl rfl) (pe_op op_add pe_int (pe_call (ok_l_draw T) (hr.mono (by decide)) (by rfl) T.g_l_draw T.F_l_draw.kp (b_l_draw T) .nil pass0 (pa_cons (pv 0) (pa_cons (pv 3) pa_nil)))))
      (pss_one (ps_set (i := 2) sc_l_order.nd rfl (Or.inl rfl) (pe_op op_cat (pe_op op_cat (pe_slice (slL K) (pv 2) po_none (po_some (pv 4))) (pe_lst (pa_cons (pv 3) pa_nil))) (pe_slice (slL K) (pv 2) (po_some (pv 4)) po_none))))))
    (pss_one (ps_ret (pv 2))))), ?_⟩
    refine ⟨(by show 1 ≤ sizeLine; decide), fun l nl => ⟨_, rfl, 1, (n : Int), rfl, ⟨by decide, by decide, by omega, by omega⟩, ?_⟩⟩
    refine for_range (lo := 1) (n := ((n : Int) - 1).toNat) (fun i σ H' => ∃ (l : Addr) (os : List Nat) (y3 y4 : Option V), σ = [some (.ref p), some (.int (n : Nat)), some (.ref l), y3, y4] ∧ Sb p H H' ∧ PuAt H' p ∧ H l = none ∧ H' l = some (iL (os.map Int.ofNat)) ∧ Ord (i + 1) os) ?_ ?_ ?_
    · refine ⟨l, [0], none, none, rfl, Sb.of (same_new nl), ?_, nl, upd_same, rfl, by simp, fun i => by simp, rfl⟩
      obtain ⟨a, b, c, hp⟩ := hp
      exact ⟨a, b, c, same_new nl _ _ hp⟩
    · rintro i σ H1 hi ⟨l, os, y3, y4, rfl, s1, p1, nl, hl, ho⟩
      have hpl : l ≠ p := fun z => by obtain ⟨a, b, c, hp⟩ := hp; rw [z, hp] at nl; cases nl
      refine ⟨_, rfl, _, rfl, p, _, rfl, by omega, by omega, p1, fun d a b c d0 d1 => ⟨_, _, rfl, rfl, ?_⟩⟩
      have hk : ∃ k : Nat, 1 + d = (k : Int) ∧ 1 ≤ k ∧ k ≤ i + 1 := ⟨(1 + d).toNat, by omega, by omega, by omega⟩
      obtain ⟨k, ek, hk1, hk2⟩ := hk
      have hlen : os.length = i + 1 := ho.1
      have hm : (os.map Int.ofNat).map V.int = os.map fun j => V.int (Int.ofNat j) := by rw [List.map_map]; rfl
      have hl1 : (upd H1 p (pu a b c)) l = some (iL (os.map Int.ofNat)) := by rw [upd_ne hpl]; exact hl
      refine ⟨_, rfl, _, rfl, (k : Int), congrArg V.int ek, l, _, rfl, SqL.of hl1, fun p1' np1 => ⟨_, rfl, (by show 1 ≤ sizeLine; decide), fun p2 np2 => ⟨p1', p2, cutV ((os.map Int.ofNat).map V.int) none (some (k : Int)), [.int (1 + (i : Int))], rfl, rfl, ?_, upd_same, ?_, fun p3 np3 => ?_⟩⟩⟩
      · rw [upd_ne (ne_of_none upd_same np2)]
        exact upd_same
      · refine szL ?_
        have := cutV_length ((os.map Int.ofNat).map V.int) none (some (k : Int))
        rw [List.length_map, List.length_map, hlen] at this
        show _ + 1 ≤ _
        omega
      · have hl3 : upd (upd (upd (upd H1 p (pu a b c)) p1' (.lst (cutV ((os.map Int.ofNat).map V.int) none (some (k : Int))))) p2 (.lst [.int (1 + (i : Int))])) p3 (.lst (cutV ((os.map Int.ofNat).map V.int) none (some (k : Int)) ++ [.int (1 + (i : Int))])) l = some (iL (os.map Int.ofNat)) :=
          same_new np3 _ _ (same_new np2 _ _ (same_new np1 _ _ hl1))
        refine ⟨_, rfl, _, rfl, (k : Int), congrArg V.int ek, l, _, rfl, SqL.of hl3, fun p4 np4 => ⟨p3, p4, cutV ((os.map Int.ofNat).map V.int) none (some (k : Int)) ++ [.int (1 + (i : Int))], cutV ((os.map Int.ofNat).map V.int) (some (k : Int)) none, rfl, rfl, ?_, upd_same, ?_, fun p5 np5 => ?_⟩⟩
        · rw [upd_ne (ne_of_none upd_same np4)]
          exact upd_same
        · refine szL ?_
          have h1 := cutV_length ((os.map Int.ofNat).map V.int) none (some (k : Int))
          have h2 := cutV_length ((os.map Int.ofNat).map V.int) (some (k : Int)) none
          rw [List.length_map, List.length_map, hlen] at h1 h2
          rw [List.length_append]
          show _ + 1 + _ ≤ _
          omega
        · have hp5 : H p5 = none := Sb.free (p := p) (H1 := _) (by repeat (first | assumption | exact Sb.refl | refine Sb.set ?_ | refine Sb.trans ?_ (Sb.of (same_new (by assumption))))) (by exact ⟨pu a b c, (by repeat (first | exact upd_same | assumption | refine same_new (by assumption) _ _ ?_ | refine upd_at (by first | assumption | (apply Ne.symm; assumption)) ?_))⟩) np5
          refine ⟨p5, os.take k ++ [i + 1] ++ os.drop k, _, _, rfl, (by repeat (first | assumption | exact Sb.refl | refine Sb.set ?_ | refine Sb.trans ?_ (Sb.of (same_new (by assumption))))), ⟨a, b, c, (by repeat (first | exact upd_same | assumption | refine same_new (by assumption) _ _ ?_ | refine upd_at (by first | assumption | (apply Ne.symm; assumption)) ?_))⟩, hp5, ?_, ho.snoc k hk1 hk2⟩
          rw [upd_same, cut_lo, cut_hi]
          congr 1
          show HO.lst _ = HO.lst _
          congr 1
          simp only [List.map_append, List.map_take, List.map_drop, List.map_cons, List.map_nil]
          congr 3
          show V.int _ = V.int _
          congr 1
          show (1 : Int) + (i : Int) = ((i + 1 : Nat) : Int)
          omega
    · rintro σ H1 ⟨l, os, y3, y4, rfl, s1, p1, nl, hl, ho⟩
      refine ⟨_, rfl, q l H1 os s1 p1 nl hl ?_⟩
      rw [show ((n : Int) - 1).toNat + 1 = n by omega] at ho
      exact ho
end
end Gal
end
section
set_option Elab.async false
set_option linter.all false
set_option maxRecDepth 100000
set_option maxHeartbeats 4000000
namespace Gal
open PySem PySem.Spec PyProof.Rows L2
section
variable {P : Program} {w : World} {K : PySem.W.Frag} {mg : Str → Option Value} {base : Heap}
/-- a new table at t -/
def TbN (H H' : Hp) (t : Addr) (R : List (List Int)) : Prop := H t = none ∧ ∃ as, H' t = some (rL as) ∧ Rws H' as R ∧ ∀ b ∈ as, H b = none
/-- a pair of a table and its truth values, all new -/
def TabN (H H' : Hp) (q : Addr) (R : List (List Int)) (G : List Bool) : Prop := H q = none ∧ ∃ t r, H' q = some (.lst [.ref t, .ref r]) ∧ TbN H H' t R ∧ H r = none ∧ H' r = some (bL G)
/-! ### a drawn table -/
/-- while a table is drawn -/
structure DS (p : Addr) (H : Hp) (l : Addr) (as : List Addr) (R : List (List Int)) (H' : Hp) : Prop where
  sb : Sb p H H'
  pur : PuAt H' p
  at_ : H' l = some (rL as)
  rws : Rws H' as R
  new : ∀ b ∈ as, H b = none ∧ b ≠ l
theorem DS.draw {p l : Addr} {H H' : Hp} {as : List Addr} {R : List (List Int)} {a b c : Int} (hl : H l = none) (hp : PuAt H p) (d : DS p H l as R H') : DS p H l as R (upd H' p (pu a b c)) :=
  ⟨d.sb.set, PuAt.to, upd_at (hp.ne hl) d.at_, d.rws.but (Sb.set Sb.refl) fun b hb => hp.ne (d.new b hb).1, d.new⟩
theorem DS.new_ {p l q : Addr} {H H' : Hp} {as : List Addr} {R : List (List Int)} {o : HO} (d : DS p H l as R H') (h : H' q = none) : DS p H l as R (upd H' q o) :=
  ⟨d.sb.trans (Sb.of (same_new h)), d.pur.same (same_new h), same_new h _ _ d.at_, d.rws.same (same_new h), d.new⟩
theorem DS.row {p l q : Addr} {H H' : Hp} {as : List Addr} {R : List (List Int)} {o : HO} (hp : PuAt H p) (d : DS p H l as R H') (n : H q = none) (n1 : q ≠ l) (n2 : q ∉ as) : DS p H l as R (upd H' q o) :=
  ⟨d.sb.mut n, by obtain ⟨a, b, c, e⟩ := d.pur; exact ⟨a, b, c, upd_at (Ne.symm (hp.ne n)) e⟩, upd_at (Ne.symm n1) d.at_, d.rws.but (Sb.set Sb.refl) fun b hb z => n2 (z ▸ hb), d.new⟩
abbrev N_l_drawn : List Str := ["_law_purse_here", "_law_count", "_law_most", "_law_many", "_law_way", "_law_rows", "_law_state", "_law_row", "_law_column", "_law_few"]
theorem sc_l_drawn : FnScope N_l_drawn ["_law_purse_here", "_law_count", "_law_most"] (defScope s_l_drawn) := ⟨rfl, rfl, rfl, by decide +kernel, rfl, by decide +kernel, by decide +kernel⟩
theorem b_l_drawn (T : TX K mg) : Binds K T.d_l_drawn ["_law_purse_here", "_law_count", "_law_most"] [] := T.F_l_drawn.bindsN fun _ _ _ _ _ _ us hl => match us, hl with | [_, _, _], _ => rfl
def sp_drawn : Sp := fun vs H Q _ => ∃ (p : Addr) (c most : Nat), vs = [.ref p, .int (c : Nat), .int (most : Nat)] ∧ PuAt H p ∧ 1 ≤ c ∧ c ≤ 9 ∧ 1 ≤ most ∧ most ≤ 40 ∧ ∀ (q : Addr) (H' : Hp) (R : List (List Int)) (G : List Bool), Sb p H H' → PuAt H' p → TabN H H' q R G → WF c R G → R.length ≤ most → Q (.ref q) H'
def RowOk (m : Nat) (r : List Int) : Prop := ∀ x ∈ r, -1 ≤ x ∧ x < (m : Int)
theorem RowOk.snoc {m : Nat} {r : List Int} {x : Int} (h : RowOk m r) (h1 : -1 ≤ x) (h2 : x < (m : Int)) : RowOk m (r ++ [x]) := fun y hy => by
  rcases List.mem_append.mp hy with z | z
  · exact h y z
  · have : y = x := by simpa using z
    subst this; exact ⟨h1, h2⟩
theorem RowOk.set {m : Nat} {r : List Int} {x : Int} {k : Nat} (h : RowOk m r) (h1 : -1 ≤ x) (h2 : x < (m : Int)) : RowOk m (r.set k x) := fun y hy => by
  rcases List.mem_or_eq_of_mem_set hy with z | z
  · exact h y z
  · subst z; exact ⟨h1, h2⟩
theorem ok_l_drawn (T : TX K mg) : FnOk P w K mg base CX0 2 (He.fAd K ("_law_drawn", none)) T.d_l_drawn ["_law_purse_here", "_law_count", "_law_most"] sp_drawn := by
  refine T.F_l_drawn.ok sc_l_drawn (fun vs H Q E h => ?_) (fun cdv A outer s H vs Q E hr h => ?_)
  · obtain ⟨p, c, m, rfl, _⟩ := h
    rfl
  · obtain ⟨p, c, most, rfl, hp, hc, hc2, hm, hm2, q⟩ := h
    refine ⟨_, PSs.nox (pss_cons (ps_set (i := 3) sc_l_drawn.nd rfl (Or.inl rfl) (pe_op op_add pe_int (pe_call (ok_l_draw T) (hr.mono (by decide)) (by rfl) T.g_l_draw T.F_l_draw.kp (b_l_draw T) .nil pass0 (pa_cons (pv 0) (pa_cons (pv 2) pa_nil)))))
    (pss_cons (ps_set (i := 4) sc_l_drawn.nd rfl (Or.inl rfl) (pe_call (ok_l_draw T) (hr.mono (by decide)) (by rfl) T.g_l_draw T.F_l_draw.kp (b_l_draw T) .nil pass0 (pa_cons (pv 0) (pa_cons pe_int pa_nil))))
    (pss_cons (ps_set (i := 5) sc_l_drawn.nd rfl (Or.inl rfl) (pe_lst pa_nil))
    (pss_cons (ps_for PassesOwn.never rfl (pi_range1 rfl T.n_range (pa_cons (pv 3) pa_nil)) (pg_name (i := 6) sc_l_drawn.nd rfl (Or.inl rfl)) (pss_cons (ps_set (i := 7) sc_l_drawn.nd rfl (Or.inl rfl) (pe_lst pa_nil))
      (pss_cons (ps_for PassesOwn.never rfl (pi_range1 rfl T.n_range (pa_cons (pv 1) pa_nil)) (pg_name (i := 8) sc_l_drawn.nd rfl (Or.inl rfl)) (pss_one (ps_if (PW.pt (pw_and (pt_cmpR op_eq (pv 4) pe_int (nomark _)) (pw_and1 (pt_cmpR op_gt (pe_call (ok_l_draw T) (hr.mono (by decide)) (by rfl) T.g_l_draw T.F_l_draw.kp (b_l_draw T) .nil pass0 (pa_cons (pv 0) (pa_cons pe_int pa_nil))) pe_int (nomark _))))) (pss_one (ps_expr (bmK K PySem.F.plainAttrs_list PySem.F.slot_list_append PySem.F.type_list_append mt_append (pv 7) (pa_cons (pe_un un_neg pe_int) pa_nil)))) (pss_one (ps_expr (bmK K PySem.F.plainAttrs_list PySem.F.slot_list_append PySem.F.type_list_append mt_append (pv 7) (pa_cons (pe_op op_sub (pe_call (ok_l_draw T) (hr.mono (by decide)) (by rfl) T.g_l_draw T.F_l_draw.kp (b_l_draw T) .nil pass0 (pa_cons (pv 0) (pa_cons (pe_op op_add (pv 3) pe_int) pa_nil))) pe_int) pa_nil)))))))
      (pss_cons (ps_if (pt_cmpR op_eq (pv 4) pe_int (nomark _)) (pss_one (ps_asg (pe_op op_mod (pe_callTy call_int1 (by rfl) T.n_int bt_int (pa_cons (pe_op op_add (pv 6) pe_int) pa_nil)) (pv 3)) (pg_sub (pv 7) (pe_call (ok_l_draw T) (hr.mono (by decide)) (by rfl) T.g_l_draw T.F_l_draw.kp (b_l_draw T) .nil pass0 (pa_cons (pv 0) (pa_cons (pv 1) pa_nil))) set_list))) pss_nil)
      (pss_one (ps_expr (bmK K PySem.F.plainAttrs_list PySem.F.slot_list_append PySem.F.type_list_append mt_append (pv 5) (pa_cons (pv 7) pa_nil))))))))
    (pss_cons (ps_set (i := 9) sc_l_drawn.nd rfl (Or.inr rfl) (pe_op op_add pe_int (pe_op op_mul pe_int (pe_call (ok_l_draw T) (hr.mono (by decide)) (by rfl) T.g_l_draw T.F_l_draw.kp (b_l_draw T) .nil pass0 (pa_cons (pv 0) (pa_cons pe_int pa_nil))))))
    (pss_one (ps_ret (pe_lst (pa_cons (pv 5) (pa_cons (pe_lc (own := [("_law_state", 6)]) (g := gName 6) (tt := tYes) rfl sc_l_drawn.nd (pi_range1 rfl T.n_range (pa_cons (pv 3) pa_nil)) (blkOk_by (own := [("_law_state", 6)]) (N := N_l_drawn) (sc := defScope s_l_drawn) (by decide +kernel)) (fun _ _ _ _ _ => (pg_name (i := 6) sc_l_drawn.nd rfl (Or.inl rfl))) (fun _ _ _ _ _ => pts_nil) (fun _ _ _ _ _ => (pe_cmpR op_eq (pe_call (ok_l_draw T) (hr.mono (by decide)) (by rfl) T.g_l_draw T.F_l_draw.kp (b_l_draw T) .nil pass0 (pa_cons (pv 0) (pa_cons (pv 9) pa_nil))) pe_int (nomark _)))) pa_nil)))))))))), ?_⟩
    refine ⟨_, rfl, _, rfl, p, _, rfl, by omega, by omega, hp, fun d a b e d0 d1 => ⟨_, _, rfl, rfl, ?_⟩⟩
    obtain ⟨k, rfl, hk⟩ := ex_lt d0 d1
    refine ⟨_, rfl, p, 4, rfl, by decide, by decide, PuAt.to, fun way a b e w0 w1 => ?_⟩
    refine ⟨(by show 0 ≤ sizeLine; decide), fun l5 nl5' => ⟨_, rfl, ((k + 1 : Nat) : Int), ?_, by omega, by omega, ?_⟩⟩
    · show [V.int (1 + (k : Int))] = [V.int ((k + 1 : Nat) : Int)]
      rw [Int.natCast_add, Int.add_comm]; rfl
    have nl5 : H l5 = none := Sb.free (p := p) (H1 := _) (by repeat (first | assumption | exact Sb.refl | refine Sb.set ?_ | refine Sb.trans ?_ (Sb.of (same_new (by assumption))))) (by exact ⟨_, upd_same⟩) nl5'
    have ek : V.int (1 + (k : Int)) = V.int ((k + 1 : Nat) : Int) := by rw [Int.natCast_add, Int.add_comm]; rfl
    refine for_range (n := k + 1) (fun i σ H' => ∃ (as : List Addr) (R : List (List Int)) (y6 y7 y8 : Option V), σ = [some (.ref p), some (.int (c : Nat)), some (.int (most : Nat)), some (.int ((k + 1 : Nat) : Int)), some (.int way), some (.ref l5), y6, y7, y8, none] ∧ DS p H l5 as R H' ∧ as.length = i ∧ ∀ r ∈ R, r.length = c ∧ RowOk (k + 1) r) ?_ ?_ ?_
    · refine ⟨[], [], none, none, none, ?_, ⟨(by repeat (first | assumption | exact Sb.refl | refine Sb.set ?_ | refine Sb.trans ?_ (Sb.of (same_new (by assumption))))), ⟨_, _, _, (by repeat (first | exact upd_same | assumption | refine same_new (by assumption) _ _ ?_ | refine upd_at (by first | assumption | (apply Ne.symm; assumption)) ?_))⟩, upd_same, .nil, by simp⟩, rfl, by simp⟩
      rw [← ek]; rfl
    · rintro i σ H1 hi ⟨as, R, y6, y7, y8, rfl, D, ha, hR⟩
      refine ⟨(by show 0 ≤ sizeLine; decide), fun l7 nl7' => ⟨_, rfl, (c : Int), rfl, by omega, by omega, ?_⟩⟩
      have n75 : l7 ≠ l5 := fun z => by rw [z, D.at_] at nl7'; cases nl7'
      have nl7 : H l7 = none := Sb.free D.sb (by obtain ⟨a, b, c, e⟩ := D.pur; exact ⟨_, e⟩) nl7'
      have n7a : l7 ∉ as := fun z => by
        obtain ⟨j, hj, ej⟩ := List.getElem_of_mem z
        obtain ⟨r', _, hr'⟩ := paired_get D.rws (List.getElem?_eq_getElem hj)
        rw [ej] at hr'
        rw [show H1 l7 = some (iL r') from hr'] at nl7'
        cases nl7'
      have n7p := hp.ne nl7
      refine for_range (n := c) (fun j σ H' => ∃ (row : List Int) (y8 : Option V), σ = [some (.ref p), some (.int (c : Nat)), some (.int (most : Nat)), some (.int ((k + 1 : Nat) : Int)), some (.int way), some (.ref l5), some (.int (0 + (i : Int))), some (.ref l7), y8, none] ∧ DS p H l5 as R H' ∧ H' l7 = some (iL row) ∧ row.length = j ∧ RowOk (k + 1) row) ?_ ?_ ?_
      · exact ⟨[], y8, rfl, D.new_ nl7', upd_same, rfl, by intro x hx; cases hx⟩
      · rintro j σ H2 hj ⟨row, y8, rfl, D2, h7, hrl, hro⟩
        have hlen : ∀ r : List Int, r.length = j → (r.map V.int).length < sizeLine := fun r hr => szLt (by rw [List.length_map]; omega)
        refine ⟨_, rfl, rfl, _, rfl, ite2 (fun _ => ?_) (fun _ => ?_)⟩
        · refine ⟨_, rfl, p, 4, rfl, by decide, by decide, D2.pur, fun d a b e d0 d1 => ⟨_, _, rfl, rfl, _, rfl, ?_⟩⟩
          have D3 := D2.draw (a := a) (b := b) (c := e) nl5 hp
          have h73 : upd H2 p (pu a b e) l7 = some (iL row) := upd_at n7p h7
          refine ite2 (fun _ => ?_) (fun _ => ?_)
          · refine ⟨_, rfl, .inl ⟨rfl, _, SqL.of h73⟩, _, rfl, l7, _, _, rfl, rfl, h73, hlen _ hrl, ?_⟩
            exact ⟨row ++ [-1], _, rfl, D3.row hp nl7 n75 n7a, by rw [← snocI]; exact upd_same, by rw [List.length_append, hrl]; rfl, hro.snoc (by omega) (by omega)⟩
          · refine ⟨_, rfl, .inl ⟨rfl, _, SqL.of h73⟩, _, rfl, _, rfl, _, _, rfl, rfl, p, _, rfl, by omega, by omega, D3.pur, fun d a b e d0 d1 => ⟨_, _, rfl, rfl, l7, _, _, rfl, rfl, upd_at n7p h73, hlen _ hrl, ?_⟩⟩
            exact ⟨row ++ [d - 1], _, rfl, (D3.draw nl5 hp).row hp nl7 n75 n7a, by rw [← snocI]; exact upd_same, by rw [List.length_append, hrl]; rfl, hro.snoc (by omega) (by omega)⟩
        · refine iteF ?_
          refine ⟨_, rfl, .inl ⟨rfl, _, SqL.of h7⟩, _, rfl, _, rfl, _, _, rfl, rfl, p, _, rfl, by omega, by omega, D2.pur, fun d a b e d0 d1 => ⟨_, _, rfl, rfl, l7, _, _, rfl, rfl, upd_at n7p h7, hlen _ hrl, ?_⟩⟩
          exact ⟨row ++ [d - 1], _, rfl, (D2.draw nl5 hp).row hp nl7 n75 n7a, by rw [← snocI]; exact upd_same, by rw [List.length_append, hrl]; rfl, hro.snoc (by omega) (by omega)⟩
      · rintro σ H2 ⟨row, y8, rfl, D2, h7, hrl, hro⟩
        have fin : ∀ (H3 : Hp) (row' : List Int), DS p H l5 as R H3 → H3 l7 = some (iL row') → row'.length = c → RowOk (k + 1) row' → DS p H l5 (as ++ [l7]) (R ++ [row']) (upd H3 l5 (rL (as ++ [l7]))) := fun H3 row' D3 e1 e2 e3 =>
          ⟨D3.sb.mut nl5, by obtain ⟨a, b, c, e⟩ := D3.pur; exact ⟨a, b, c, upd_at (Ne.symm (hp.ne nl5)) e⟩, upd_same, Paired.snoc (D3.rws.but (Sb.set Sb.refl) fun b hb => (D3.new b hb).2) (upd_at n75 e1), fun b hb => by
            rcases List.mem_append.mp hb with z | z
            · exact D3.new b z
            · have : b = l7 := by simpa using z
              subst this; exact ⟨nl7, n75⟩⟩
        have fin2 : ∀ row', row'.length = c → RowOk (k + 1) row' → ∀ r ∈ R ++ [row'], r.length = c ∧ RowOk (k + 1) r := fun row' e1 e2 r hr' => by
          rcases List.mem_append.mp hr' with z | z
          · exact hR r z
          · have : r = row' := by simpa using z
            subst this; exact ⟨e1, e2⟩
        have hal : (as.map V.ref).length < sizeLine := szLt (by rw [List.length_map]; omega)
        refine ⟨_, rfl, rfl, _, rfl, ite2 (fun _ => ?_) (fun _ => ?_)⟩
        · refine ⟨_, rfl, _, _, rfl, rfl, .inl ⟨_, rfl, _, rfl, _, _, rfl, rfl, (by show (0 : Int) < _; omega), _, rfl, _, rfl, _, rfl, p, _, rfl, by omega, by omega, D2.pur, fun d a b e d0 d1 => ?_⟩⟩
          obtain ⟨x, rfl, hx⟩ := ex_lt d0 d1
          have h73 : upd H2 p (pu a b e) l7 = some (iL row) := upd_at n7p h7
          refine ⟨l7, _, _, x, rfl, rfl, h73, ixN_nat (by rw [List.length_map]; omega), ?_⟩
          have D3 := (D2.draw (a := a) (b := b) (c := e) nl5 hp).row (o := iL (row.set x ((0 + (i : Int) + 1) % ((k + 1 : Nat) : Int)))) hp nl7 n75 n7a
          rw [← List.map_set]
          refine ⟨_, rfl, .inl ⟨rfl, _, SqL.of D3.at_⟩, _, rfl, l5, _, _, rfl, rfl, D3.at_, hal, ?_⟩
          have b1 := Int.emod_nonneg (0 + (i : Int) + 1) (show ((k + 1 : Nat) : Int) ≠ 0 by omega)
          have b2 := Int.emod_lt_of_pos (0 + (i : Int) + 1) (show (0 : Int) < ((k + 1 : Nat) : Int) by omega)
          have l1 : (row.set x ((0 + (i : Int) + 1) % ((k + 1 : Nat) : Int))).length = c := by rw [List.length_set, hrl]
          have o1 : RowOk (k + 1) (row.set x ((0 + (i : Int) + 1) % ((k + 1 : Nat) : Int))) := hro.set (by omega) b2
          refine ⟨as ++ [l7], R ++ [_], _, _, _, rfl, ?_, by rw [List.length_append, ha]; rfl, fin2 _ l1 o1⟩
          rw [snocR]
          exact fin _ _ D3 upd_same l1 o1
        · refine ⟨_, rfl, .inl ⟨rfl, _, SqL.of D2.at_⟩, _, rfl, l5, _, _, rfl, rfl, D2.at_, hal, ?_⟩
          refine ⟨as ++ [l7], R ++ [_], _, _, _, rfl, ?_, by rw [List.length_append, ha]; rfl, fin2 _ hrl hro⟩
          rw [snocR]
          exact fin _ _ D2 h7 hrl hro
    · rintro σ H1 ⟨as, R, y6, y7, y8, rfl, D, ha, hR⟩
      refine ⟨_, rfl, p, 2, rfl, by decide, by decide, D.pur, fun f a b e f0 f1 => ⟨_, _, rfl, rfl, .inl ⟨by decide, by decide⟩, _, _, rfl, rfl, ?_⟩⟩
      have D2 := D.draw (a := a) (b := b) (c := e) nl5 hp
      refine ⟨_, rfl, _, rfl, ((k + 1 : Nat) : Int), rfl, by omega, by omega, fun r nr' => ?_⟩
      have nr : H r = none := Sb.free D2.sb (by exact ⟨_, upd_same⟩) nr'
      have nr5 : r ≠ l5 := fun z => by rw [z, D2.at_] at nr'; cases nr'
      have nra : r ∉ as := fun z => by
        obtain ⟨j, hj, ej⟩ := List.getElem_of_mem z
        obtain ⟨r', _, hr'⟩ := paired_get D2.rws (List.getElem?_eq_getElem hj)
        rw [ej] at hr'
        rw [show (upd H1 p (pu a b e)) r = some (iL r') from hr'] at nr'
        cases nr'
      refine lc_range (n := k + 1) (fun i H' => ∃ G : List Bool, DS p H l5 as R H' ∧ H' r = some (bL G) ∧ G.length = i) ⟨[], D2.new_ nr', upd_same, rfl⟩ ?_ ?_
      · rintro i H2 hi ⟨G, D3, hG, lG⟩
        refine ⟨rfl, _, rfl, _, rfl, p, _, rfl, by omega, by omega, D3.pur, fun d a b e d0 d1 => ⟨rfl, _, upd_at (hp.ne nr) hG, szLt (by rw [List.length_map]; omega), ?_⟩⟩
        refine ⟨G ++ [decide (V.int d = V.int 0)], ?_, ?_, by rw [List.length_append, lG]; rfl⟩
        · exact (D3.draw nl5 hp).row hp nr nr5 nra
        · rw [← snocB]; exact upd_same
      · rintro H2 ⟨G, D3, hG, lG⟩
        refine ⟨(by show 2 ≤ sizeLine; decide), fun q' nq' => ?_⟩
        have nq : H q' = none := Sb.free D3.sb (by obtain ⟨a, b, c, e⟩ := D3.pur; exact ⟨_, e⟩) nq'
        have D4 := D3.new_ (o := .lst [.ref l5, .ref r]) nq'
        have hl := Paired.length D4.rws
        refine q q' _ R G D4.sb D4.pur ⟨nq, l5, r, upd_same, ⟨nl5, as, D4.at_, D4.rws, fun b hb => (D4.new b hb).1⟩, nr, same_new nq' _ _ hG⟩ ?_ (by omega)
        refine ⟨by omega, by omega, fun x hx => ⟨(hR x hx).1, fun y hy => ?_⟩⟩
        have := (hR x hx).2 y hy
        omega
end
end Gal
end
section
set_option Elab.async false
set_option linter.all false
set_option maxRecDepth 100000
set_option maxHeartbeats 4000000
namespace Gal
open PySem PySem.Spec PyProof.Rows L2
/-! ### tables that walk alike -/
theorem bisimP {R R' : List (List Int)} {G G' : List Bool} {Rel : Int → Int → Prop} (hg : ∀ x y, Rel x y → gdO G x = gdO G' y) (hs : ∀ x y a, Rel x y → Rel (stO R x a) (stO R' y a)) : ∀ (w : List Nat) (x y : Int), Rel x y → langO R G x w = langO R' G' y w
  | [], x, y, h => by rw [langO_nil, langO_nil, hg x y h]
  | a :: w, x, y, h => by rw [langO_cons, langO_cons]; exact bisimP hg hs w _ _ (hs x y a h)
/-- the state x as y: a copy of cp at n, a dead state at n + 1 -/
def TwR (cp n : Nat) (x y : Int) : Prop := (x = y ∧ -1 ≤ x ∧ x < n) ∨ (x = cp ∧ y = n) ∨ (x = -1 ∧ y = n + 1)
structure TwRow (c n cp : Nat) (R : List (List Int)) (s : Nat) (r : List Int) : Prop where
  len : r.length = c
  ok : ∀ x ∈ r, -1 ≤ x ∧ x < (n : Int) + 3
  low : s < n → Paired (TwR cp n) (row R s) r
  cop : s = n → Paired (TwR cp n) (row R cp) r
  dead : s = n + 1 → Paired (TwR cp n) (List.replicate c (-1)) r
theorem paired_getD {F : Int → Int → Prop} (h0 : F (-1) (-1)) : ∀ {l m : List Int} (a : Nat), Paired F l m → F (l.getD a (-1)) (m.getD a (-1))
  | _, _, _, .nil => h0
  | _, _, 0, .cons r _ => r
  | _, _, a + 1, .cons _ t => by
    have := paired_getD h0 a t
    simpa using this
theorem paired_mod {cp n : Nat} (hcp : cp < n) {y' : Int} : ∀ {b r : List Int} (k : Nat), Paired (TwR cp n) b r → ((r[k]? = some (cp : Int) ∧ y' = n) ∨ (r[k]? = some (-1) ∧ y' = n + 1)) → Paired (TwR cp n) b (r.set k y')
  | _, _, _, .nil, _ => .nil
  | _, _, 0, .cons (a := x) h t, e => by
    refine .cons ?_ t
    rcases e with ⟨e, rfl⟩ | ⟨e, rfl⟩
    · have e := Option.some.inj e
      subst e
      rcases h with ⟨h, _, _⟩ | ⟨h, h2⟩ | ⟨h, h2⟩
      · exact .inr (.inl ⟨h, rfl⟩)
      · omega
      · omega
    · have e := Option.some.inj e
      subst e
      rcases h with ⟨h, _, _⟩ | ⟨h, h2⟩ | ⟨h, h2⟩
      · exact .inr (.inr ⟨h, rfl⟩)
      · omega
      · omega
  | _, _, k + 1, .cons h t, e => .cons h (paired_mod hcp k t (by simpa using e))
theorem TwRow.mod {c n cp : Nat} {R : List (List Int)} {s : Nat} {r : List Int} (h : TwRow c n cp R s r) (hcp : cp < n) {k : Nat} {y' : Int} (e : (r[k]? = some (cp : Int) ∧ y' = n) ∨ (r[k]? = some (-1) ∧ y' = n + 1)) : TwRow c n cp R s (r.set k y') := by
  refine ⟨by rw [List.length_set, h.len], fun x hx => ?_, fun z => paired_mod hcp k (h.low z) e, fun z => paired_mod hcp k (h.cop z) e, fun z => paired_mod hcp k (h.dead z) e⟩
  rcases List.mem_or_eq_of_mem_set hx with z | z
  · exact h.ok x z
  · subst z
    rcases e with ⟨_, rfl⟩ | ⟨_, rfl⟩ <;> omega
theorem gdO_nat {G : List Bool} {s : Nat} : gdO G (s : Int) = gdI G s := by
  unfold gdO
  rw [if_pos (by omega), Int.toNat_natCast]
theorem stO_nat {R : List (List Int)} {s a : Nat} : stO R (s : Int) a = (row R s).getD a (-1) := by
  unfold stO
  rw [if_pos (by omega), Int.toNat_natCast]
theorem stO_neg {R : List (List Int)} {a : Nat} : stO R (-1) a = -1 := by
  unfold stO
  rw [if_neg (by omega)]
theorem gdO_neg {G : List Bool} : gdO G (-1) = false := by
  unfold gdO
  rw [if_neg (by omega)]
theorem getD_rep {c a : Nat} : (List.replicate c (-1 : Int)).getD a (-1) = -1 := by
  rw [List.getD_eq_getElem?_getD, List.getElem?_replicate]
  by_cases h : a < c
  · rw [if_pos h]; rfl
  · rw [if_neg h]; rfl
theorem twin_lang {c cp : Nat} {R R2 : List (List Int)} {G : List Bool} (W : WF c R G) (hcp : cp < R.length) (h : ∀ s, s < R.length + 3 → TwRow c R.length cp R s (row R2 s)) :
    L_ R G 0 = L_ R2 (G ++ [gdI G cp, false, true]) 0 := by
  have hp := W.pos
  have hl := W.len
  have h0 : TwR cp R.length (-1) (-1) := .inl ⟨rfl, by omega, by omega⟩
  refine funext fun w => bisimP (Rel := TwR cp R.length) ?_ ?_ w 0 0 (.inl ⟨rfl, by omega, by omega⟩)
  · rintro x y (⟨rfl, h1, h2⟩ | ⟨rfl, rfl⟩ | ⟨rfl, rfl⟩)
    · by_cases hx : 0 ≤ x
      · obtain ⟨s, rfl⟩ : ∃ s : Nat, x = (s : Int) := ⟨x.toNat, by omega⟩
        rw [gdO_nat, gdO_nat]
        unfold gdI
        rw [List.getD_eq_getElem?_getD, List.getD_eq_getElem?_getD, List.getElem?_append_left (by omega)]
      · obtain rfl : x = -1 := by omega
        rw [gdO_neg, gdO_neg]
    · rw [gdO_nat, gdO_nat]
      have : (G ++ [gdI G cp, false, true])[R.length]? = some (gdI G cp) := by rw [List.getElem?_append_right (by omega), hl, Nat.sub_self]; rfl
      show _ = (G ++ [gdI G cp, false, true]).getD R.length false
      rw [List.getD_eq_getElem?_getD, this]; rfl
    · rw [gdO_neg]
      have e : ((R.length : Int) + 1) = ((R.length + 1 : Nat) : Int) := by omega
      rw [e, gdO_nat]
      have : (G ++ [gdI G cp, false, true])[R.length + 1]? = some false := by rw [List.getElem?_append_right (by omega), hl, show R.length + 1 - R.length = 1 by omega]; rfl
      show _ = (G ++ [gdI G cp, false, true]).getD (R.length + 1) false
      rw [List.getD_eq_getElem?_getD, this]; rfl
  · rintro x y a (⟨rfl, h1, h2⟩ | ⟨rfl, rfl⟩ | ⟨rfl, rfl⟩)
    · by_cases hx : 0 ≤ x
      · obtain ⟨s, rfl⟩ : ∃ s : Nat, x = (s : Int) := ⟨x.toNat, by omega⟩
        rw [stO_nat, stO_nat]
        exact paired_getD h0 a ((h s (by omega)).low (by omega))
      · obtain rfl : x = -1 := by omega
        rw [stO_neg, stO_neg]; exact h0
    · rw [stO_nat, stO_nat]
      exact paired_getD h0 a ((h R.length (by omega)).cop rfl)
    · have e : ((R.length : Int) + 1) = ((R.length + 1 : Nat) : Int) := by omega
      rw [stO_neg, e, stO_nat]
      have := paired_getD h0 a ((h (R.length + 1) (by omega)).dead rfl)
      rw [getD_rep] at this
      exact this
/-! ### states in another order -/
def ixO (os : List Nat) (x : Int) : Int := if 0 ≤ x then (idx x.toNat os : Nat) else -1
def ordR (os : List Nat) (R : List (List Int)) : List (List Int) := os.map fun s => (row R s).map (ixO os)
def ordG (os : List Nat) (G : List Bool) : List Bool := os.map (gdI G)
theorem ixO_bd {os : List Nat} {n : Nat} (h : Ord n os) {x : Int} (h2 : x < n) : -1 ≤ ixO os x ∧ ixO os x < n := by
  have hl := h.1
  unfold ixO
  by_cases hx : 0 ≤ x
  · rw [if_pos hx]
    have := idx_lt ((h.2.2.1 x.toNat).mpr (by omega))
    omega
  · rw [if_neg hx]; omega
theorem ord_wf {os : List Nat} {c : Nat} {R : List (List Int)} {G : List Bool} (W : WF c R G) (h : Ord R.length os) : WF c (ordR os R) (ordG os G) := by
  have hl : (ordR os R).length = R.length := by unfold ordR; rw [List.length_map, h.1]
  refine ⟨by rw [hl]; exact W.pos, by rw [hl]; unfold ordG; rw [List.length_map, h.1], fun r hr => ?_⟩
  obtain ⟨s, hs, rfl⟩ := List.mem_map.mp hr
  obtain ⟨w1, w2⟩ := wf_row W ((h.2.2.1 s).mp hs)
  rw [hl]
  refine ⟨by rw [List.length_map, w1], fun x hx => ?_⟩
  obtain ⟨y, hy, rfl⟩ := List.mem_map.mp hx
  exact ixO_bd h (w2 y hy).2
theorem ord_lang {os : List Nat} {c : Nat} {R : List (List Int)} {G : List Bool} (W : WF c R G) (h : Ord R.length os) : L_ R G 0 = L_ (ordR os R) (ordG os G) 0 := by
  have h0 : idx 0 os = 0 := idx_at h.2.1 h.2.2.2
  have hp := W.pos
  refine funext fun w => bisimP (Rel := fun x y => -1 ≤ x ∧ x < R.length ∧ y = ixO os x) ?_ ?_ w 0 0 ⟨by omega, by omega, by unfold ixO; rw [if_pos (by omega)]; show (0 : Int) = ((idx 0 os : Nat) : Int); rw [h0]; rfl⟩
  · rintro x y ⟨h1, h2, rfl⟩
    unfold ixO
    by_cases hx : 0 ≤ x
    · obtain ⟨s, rfl⟩ : ∃ s : Nat, x = (s : Int) := ⟨x.toNat, by omega⟩
      have hm := idx_get ((h.2.2.1 s).mpr (by omega))
      rw [if_pos hx, Int.toNat_natCast, gdO_nat, gdO_nat]
      show _ = (ordG os G).getD (idx s os) false
      unfold ordG
      rw [List.getD_eq_getElem?_getD, List.getElem?_map, hm]; rfl
    · obtain rfl : x = -1 := by omega
      rw [if_neg hx, gdO_neg, gdO_neg]
  · rintro x y a ⟨h1, h2, rfl⟩
    refine ⟨(stO_bd W).1, (stO_bd W).2, ?_⟩
    by_cases hx : 0 ≤ x
    · obtain ⟨s, rfl⟩ : ∃ s : Nat, x = (s : Int) := ⟨x.toNat, by omega⟩
      have hm := idx_get ((h.2.2.1 s).mpr (by omega))
      have e1 : ixO os (s : Int) = ((idx s os : Nat) : Int) := by unfold ixO; rw [if_pos hx, Int.toNat_natCast]
      rw [e1, stO_nat, stO_nat]
      have e2 : row (ordR os R) (idx s os) = (row R s).map (ixO os) := by
        refine row_get ?_
        unfold ordR
        rw [List.getElem?_map, hm]; rfl
      rw [e2, List.getD_eq_getElem?_getD, List.getD_eq_getElem?_getD, List.getElem?_map]
      cases (row R s)[a]? with
      | none => show (-1 : Int) = ixO os (-1); unfold ixO; rw [if_neg (by omega)]
      | some z => rfl
    · obtain rfl : x = -1 := by omega
      have e1 : ixO os (-1) = -1 := by unfold ixO; rw [if_neg (by omega)]
      rw [e1, stO_neg, stO_neg, e1]
end Gal
end
section
set_option Elab.async false
set_option linter.all false
set_option maxRecDepth 100000
set_option maxHeartbeats 4000000
namespace Gal
open PySem PySem.Spec PyProof.Rows L2
section
variable {P : Program} {w : World} {K : PySem.W.Frag} {mg : Str → Option Value} {base : Heap}
/-! ### the look at a table -/
abbrev N_l_table : List Str := ["_law_rows", "_law_goods", "_law_count", "_law_k", "_law_step"]
theorem sc_l_table : FnScope N_l_table ["_law_rows", "_law_goods", "_law_count"] (defScope s_l_table) := ⟨rfl, rfl, rfl, by decide +kernel, rfl, by decide +kernel, by decide +kernel⟩
theorem b_l_table (T : TX K mg) : Binds K T.d_l_table ["_law_rows", "_law_goods", "_law_count"] [] := T.F_l_table.bindsN fun _ _ _ _ _ _ us hl => match us, hl with | [_, _, _], _ => rfl
def sp_table : Sp := fun vs H Q _ => ∃ (a b : Addr) (c : Nat) (R : List (List Int)) (G : List Bool), vs = [.ref a, .ref b, .int (c : Nat)] ∧ Tb H a R ∧ H b = some (bL G) ∧ WF c R G ∧ R.length ≤ 1000 ∧ Q (.bl true) H
theorem ok_l_table (T : TX K mg) : FnOk P w K mg base CX0 1 (He.fAd K ("_law_table", none)) T.d_l_table ["_law_rows", "_law_goods", "_law_count"] sp_table := by
  refine T.F_l_table.ok sc_l_table (fun vs H Q E h => ?_) (fun cdv A outer s H vs Q E hr h => ?_)
  · obtain ⟨a, b, c, R, G, rfl, _⟩ := h
    rfl
  · obtain ⟨a, b, c, R, G, rfl, hT, hb, W, hl, q⟩ := h
    obtain ⟨as, hS, hlen, ha, hR⟩ := hT.get (K := K)
    have eas : ((as.map V.ref).length : Int) = (R.length : Int) := by rw [List.length_map, hlen]
    have ebs : ((G.map V.bl).length : Int) = (R.length : Int) := by rw [List.length_map, W.len]
    have hpos := W.pos
    refine ⟨_, PSs.nox (pss_cons (ps_if (PW.pt (pw_or (pt_not (pt_val (pe_callB (isiK K) (by rfl) T.n_isinstance bt_isinstance (pa_cons (pv 0) (pa_cons (pe_bltn (by rfl) T.n_list bt_list (show RelV (.ty "list") (.type "list") from rfl)) pa_nil))))) (pw_or1 (pt_not (pt_val (pe_callB (isiK K) (by rfl) T.n_isinstance bt_isinstance (pa_cons (pv 1) (pa_cons (pe_bltn (by rfl) T.n_list bt_list (show RelV (.ty "list") (.type "list") from rfl)) pa_nil)))))))) (pss_one (ps_ret pe_bl)) pss_nil)
    (pss_cons (ps_if (PW.pt (pw_or (pt_cmpR op_eq (pe_callB (lenK K) (by rfl) T.n_len PySem.boot_len (pa_cons (pv 0) pa_nil)) pe_int (nomark _)) (pw_or1 (pt_cmpR op_ne (pe_callB (lenK K) (by rfl) T.n_len PySem.boot_len (pa_cons (pv 1) pa_nil)) (pe_callB (lenK K) (by rfl) T.n_len PySem.boot_len (pa_cons (pv 0) pa_nil)) (nomark _))))) (pss_one (ps_ret pe_bl)) pss_nil)
    (pss_cons (ps_for PassesOwn.never rfl (pi_range1 rfl T.n_range (pa_cons (pe_callB (lenK K) (by rfl) T.n_len PySem.boot_len (pa_cons (pv 0) pa_nil)) pa_nil)) (pg_name (i := 3) sc_l_table.nd rfl (Or.inl rfl)) (pss_cons (ps_if (PW.pt (pw_or (pt_not (pt_val (pe_callB (isiK K) (by rfl) T.n_isinstance bt_isinstance (pa_cons (pe_ix (ixL K) (pv 1) (pv 3) (fun _ _ => rfl)) (pa_cons (pe_bltn (by rfl) T.n_bool bt_bool (show RelV (.ty "bool") (.type "bool") from rfl)) pa_nil))))) (pw_or (pt_not (pt_val (pe_callB (isiK K) (by rfl) T.n_isinstance bt_isinstance (pa_cons (pe_ix (ixL K) (pv 0) (pv 3) (fun _ _ => rfl)) (pa_cons (pe_bltn (by rfl) T.n_list bt_list (show RelV (.ty "list") (.type "list") from rfl)) pa_nil))))) (pw_or1 (pt_cmpR op_ne (pe_callB (lenK K) (by rfl) T.n_len PySem.boot_len (pa_cons (pe_ix (ixL K) (pv 0) (pv 3) (fun _ _ => rfl)) pa_nil)) (pv 2) (nomark _)))))) (pss_one (ps_ret pe_bl)) pss_nil)
      (pss_one (ps_for PassesOwn.never rfl (pi_listK K (pe_ix (ixL K) (pv 0) (pv 3) (fun _ _ => rfl))) (pg_name (i := 4) sc_l_table.nd rfl (Or.inl rfl)) (pss_one (ps_if (PW.pt (pw_or (pt_not (pt_val (pe_callB (isiK K) (by rfl) T.n_isinstance bt_isinstance (pa_cons (pv 4) (pa_cons (pe_bltn (by rfl) T.n_int bt_int (show RelV (.ty "int") (.type "int") from rfl)) pa_nil))))) (pw_or (pt_val (pe_callB (isiK K) (by rfl) T.n_isinstance bt_isinstance (pa_cons (pv 4) (pa_cons (pe_bltn (by rfl) T.n_bool bt_bool (show RelV (.ty "bool") (.type "bool") from rfl)) pa_nil)))) (pw_or1 (pt_not (pt_chain op_le op_lt (pe_un un_neg pe_int) (pv 4) (pe_callB (lenK K) (by rfl) T.n_len PySem.boot_len (pa_cons (pv 0) pa_nil)))))))) (pss_one (ps_ret pe_bl)) pss_nil))))))
    (pss_one (ps_ret pe_bl))))), ?_⟩
    refine ⟨_, rfl, _, _, _, _, true, rfl, .ty _, .base (.lst ha), kit_ty (by decide +kernel), _, rfl, ?_⟩
    refine ite2 (fun z => Bool.noConfusion z) (fun _ => ?_)
    refine ⟨_, rfl, _, _, _, _, true, rfl, .ty _, .base (.lst hb), kit_ty (by decide +kernel), _, rfl, ?_⟩
    refine iteF ?_
    refine ⟨_, rfl, a, _, rfl, .inl hS, rfl, _, rfl, ite2 (fun z => ?_) (fun _ => ?_)⟩
    · have := of_decide_eq_true z
      injection this with this
      omega
    refine ⟨_, rfl, b, _, rfl, .inl (SqL.of hb), _, rfl, a, _, rfl, .inl hS, rfl, _, rfl, iteNS (congrArg V.int (ebs.trans eas.symm)) ?_⟩
    refine ⟨_, rfl, a, _, rfl, .inl hS, (R.length : Int), (by rw [eas]), by omega, by omega, ?_⟩
    refine for_range (n := R.length) (fun i σ H' => H' = H ∧ ∃ y3 y4, σ = [some (.ref a), some (.ref b), some (.int (c : Nat)), y3, y4]) ?_ ?_ ?_
    · exact ⟨rfl, none, none, rfl⟩
    · rintro i σ H' hi ⟨rfl, y3, y4, rfl⟩
      have hg := gd_mem (G := G) (i := i) (by rw [W.len]; exact hi)
      have hr' := row_mem hi
      obtain ⟨bi, hbi, hri⟩ := paired_get' hR hr'
      have ei : (0 : Int) + (i : Int) = (i : Int) := by omega
      obtain ⟨wl, wb⟩ := wf_row W hi
      refine ⟨_, rfl, _, rfl, b, _, _, _, rfl, rfl, SqL.of hb, atI_map' ei hg, _, _, _, _, true, rfl, .ty _, .base (.bl _), kit_ty (by decide +kernel), _, rfl, iteF ?_⟩
      refine ⟨_, rfl, _, rfl, a, _, _, _, rfl, rfl, hS, atI_map' ei hbi, _, _, _, _, true, rfl, .ty _, .base (.lst hri), kit_ty (by decide +kernel), _, rfl, iteF ?_⟩
      refine ⟨_, rfl, _, rfl, a, _, _, _, rfl, rfl, hS, atI_map' ei hbi, bi, _, rfl, .inl (SqL.of hri), _, rfl, rfl, _, rfl, iteNS (congrArg V.int (by rw [List.length_map, wl])) ?_⟩
      refine ⟨_, rfl, _, rfl, a, _, _, _, rfl, rfl, hS, atI_map' ei hbi, bi, rfl, ⟨_, SqL.of hri⟩, ?_⟩
      refine for_list (xs := (row R i).map V.int) (fun j σ H'' => H'' = H' ∧ ∃ y3 y4, σ = [some (.ref a), some (.ref b), some (.int (c : Nat)), y3, y4]) ⟨rfl, _, _, rfl⟩ (fun j σ H'' _ ⟨e, _⟩ => e ▸ SqL.of hri) ?_ ?_
      · rintro j x σ H'' hx ⟨rfl, y3, y4, rfl⟩
        obtain ⟨z, hz, rfl⟩ := map_get' hx
        have hz2 := wb z (List.mem_of_getElem? hz)
        refine ⟨_, rfl, _, _, _, _, true, rfl, .ty _, .base (.int _), kit_ty (by decide +kernel), _, rfl, iteF ?_⟩
        refine ⟨_, rfl, _, _, _, _, false, rfl, .ty _, .base (.int _), kit_ty (by decide +kernel), _, rfl, iteF ?_⟩
        refine ⟨_, rfl, _, rfl, _, _, rfl, rfl, _, rfl, ite2 (fun _ => ?_) (fun z => absurd (decide_eq_true (show (-1 : Int) ≤ _ from hz2.1)) z)⟩
        refine ⟨_, rfl, a, _, rfl, .inl hS, _, _, rfl, rfl, _, rfl, iteNS (show _ < ((as.map V.ref).length : Int) by rw [eas]; exact hz2.2) ?_⟩
        exact ⟨rfl, _, _, rfl⟩
      · rintro σ H'' ⟨rfl, y3, y4, rfl⟩
        exact ⟨rfl, _, _, rfl⟩
    · rintro σ H' ⟨rfl, y3, y4, rfl⟩
      exact q
/-! ### numbered in the order of the first words -/
abbrev N_l_numbers : List Str := ["_law_rows", "_law_known", "_law_state", "_law_step"]
theorem sc_l_numbers : FnScope N_l_numbers ["_law_rows"] (defScope s_l_numbers) := ⟨rfl, rfl, rfl, by decide +kernel, rfl, by decide +kernel, by decide +kernel⟩
theorem b_l_numbers (T : TX K mg) : Binds K T.d_l_numbers ["_law_rows"] [] := T.F_l_numbers.bindsN fun _ _ _ _ _ _ us hl => match us, hl with | [_], _ => rfl
def sp_numbers : Sp := fun vs H Q _ => ∃ (a : Addr) (R : List (List Int)), vs = [.ref a] ∧ Tb H a R ∧ NumOk R ∧ R.length ≤ 1000 ∧ Q (.bl true) H
theorem numRows_at {R : List (List Int)} {i k : Nat} (hi : i < R.length) (h : numRows i k (R.drop i) = true) : i < k ∧ ∃ k', numRow k (row R i) = some k' ∧ numRows (i + 1) k' (R.drop (i + 1)) = true := by
  have e : R.drop i = row R i :: R.drop (i + 1) := by
    rw [List.drop_eq_getElem_cons hi]
    have := row_mem hi
    rw [List.getElem?_eq_getElem hi] at this
    rw [Option.some.inj this]
  rw [e] at h
  unfold numRows at h
  by_cases hk : k ≤ i
  · rw [if_pos hk] at h; cases h
  · rw [if_neg hk] at h
    cases e2 : numRow k (row R i) with
    | none => rw [e2] at h; cases h
    | some k' => rw [e2] at h; exact ⟨by omega, k', rfl, h⟩
theorem ok_l_numbers (T : TX K mg) : FnOk P w K mg base CX0 1 (He.fAd K ("_law_numbers", none)) T.d_l_numbers ["_law_rows"] sp_numbers := by
  refine T.F_l_numbers.ok sc_l_numbers (fun vs H Q E h => ?_) (fun cdv A outer s H vs Q E hr h => ?_)
  · obtain ⟨a, R, rfl, _⟩ := h
    rfl
  · obtain ⟨a, R, rfl, hT, hN, hl, q⟩ := h
    obtain ⟨as, hS, hlen, ha, hR⟩ := hT.get (K := K)
    have eas : ((as.map V.ref).length : Int) = (R.length : Int) := by rw [List.length_map, hlen]
    refine ⟨_, PSs.nox (pss_cons (ps_set (i := 1) sc_l_numbers.nd rfl (Or.inl rfl) pe_int)
    (pss_cons (ps_for PassesOwn.never rfl (pi_range1 rfl T.n_range (pa_cons (pe_callB (lenK K) (by rfl) T.n_len PySem.boot_len (pa_cons (pv 0) pa_nil)) pa_nil)) (pg_name (i := 2) sc_l_numbers.nd rfl (Or.inl rfl)) (pss_cons (ps_if (pt_cmpR op_ge (pv 2) (pv 1) (nomark _)) (pss_one (ps_ret pe_bl)) pss_nil)
      (pss_one (ps_for PassesOwn.never rfl (pi_listK K (pe_ix (ixL K) (pv 0) (pv 2) (fun _ _ => rfl))) (pg_name (i := 3) sc_l_numbers.nd rfl (Or.inl rfl)) (pss_cons (ps_if (pt_cmpR op_gt (pv 3) (pv 1) (nomark _)) (pss_one (ps_ret pe_bl)) pss_nil)
        (pss_one (ps_if (pt_cmpR op_eq (pv 3) (pv 1) (nomark _)) (pss_one (ps_set (i := 1) sc_l_numbers.nd rfl (Or.inl rfl) (pe_op op_add (pv 1) pe_int))) pss_nil)))))))
    (pss_one (ps_ret pe_bl)))), ?_⟩
    refine ⟨_, rfl, a, _, rfl, .inl hS, (R.length : Int), (by rw [eas]), by omega, by omega, ?_⟩
    refine for_range (n := R.length) (fun i σ H' => H' = H ∧ ∃ (k : Nat) (y2 y3 : Option V), σ = [some (.ref a), some (.int (k : Nat)), y2, y3] ∧ numRows i k (R.drop i) = true) ?_ ?_ ?_
    · exact ⟨rfl, 1, none, none, rfl, hN⟩
    · rintro i σ H' hi ⟨rfl, k, y2, y3, rfl, hn⟩
      obtain ⟨hk, k', e1, e2⟩ := numRows_at hi hn
      obtain ⟨bi, hbi, hri⟩ := paired_get' hR (row_mem hi)
      have ei : (0 : Int) + (i : Int) = (i : Int) := by omega
      refine ⟨_, rfl, _, rfl, _, _, rfl, rfl, _, rfl, ite2 (fun z => ?_) (fun _ => ?_)⟩
      · have := of_decide_eq_true z
        omega
      refine ⟨_, rfl, _, rfl, a, _, _, _, rfl, rfl, hS, atI_map' ei hbi, bi, rfl, ⟨_, SqL.of hri⟩, ?_⟩
      refine for_list (xs := (row R i).map V.int) (fun j σ H'' => H'' = H' ∧ ∃ (k : Nat) (y2 y3 : Option V), σ = [some (.ref a), some (.int (k : Nat)), y2, y3] ∧ numRow k ((row R i).drop j) = some k') ⟨rfl, k, _, _, rfl, e1⟩ (fun j σ H'' _ ⟨e, _⟩ => e ▸ SqL.of hri) ?_ ?_
      · rintro j x σ H'' hx ⟨rfl, k, y2, y3, rfl, hn⟩
        obtain ⟨z, hz, rfl⟩ := map_get' hx
        obtain ⟨hj, ez⟩ := List.getElem?_eq_some_iff.mp hz
        rw [List.drop_eq_getElem_cons hj, ez] at hn
        unfold numRow at hn
        refine ⟨_, rfl, _, rfl, _, _, rfl, rfl, _, rfl, ite2 (fun z => ?_) (fun h1 => ?_)⟩
        · have h2 := of_decide_eq_true z
          rw [if_pos (by omega)] at hn; cases hn
        have h1' : ¬ (k : Int) < z := fun q => h1 (decide_eq_true q)
        rw [if_neg h1'] at hn
        refine ⟨_, rfl, _, rfl, rfl, _, rfl, ite2 (fun h2 => ?_) (fun h2 => ?_)⟩
        · have h3 : z = (k : Int) := by have := of_decide_eq_true h2; injection this
          rw [if_pos h3] at hn
          exact ⟨_, rfl, _, _, rfl, rfl, rfl, k + 1, _, _, rfl, hn⟩
        · have h3 : ¬ z = (k : Int) := fun q => h2 (decide_eq_true (congrArg V.int q))
          rw [if_neg h3] at hn
          exact ⟨rfl, k, _, _, rfl, hn⟩
      · rintro σ H'' ⟨rfl, k2, y2, y3, rfl, hn⟩
        rw [List.length_map, List.drop_length] at hn
        have : k2 = k' := Option.some.inj hn
        subst this
        exact ⟨rfl, k2, _, _, rfl, e2⟩
    · rintro σ H' ⟨rfl, k, y2, y3, rfl, hn⟩
      exact q
end
end Gal
end
section
set_option Elab.async false
set_option linter.all false
set_option maxRecDepth 100000
set_option maxHeartbeats 4000000
namespace Gal
open PySem PySem.Spec PyProof.Rows L2
section
variable {P : Program} {w : World} {K : PySem.W.Frag} {mg : Str → Option Value} {base : Heap}
/-! ### the states that lead on -/
abbrev N_l_leads : List Str := ["_law_rows", "_law_goods", "_law_leads_here", "_law_k", "_law_many", "_law_state", "_law_step"]
theorem sc_l_leads : FnScope N_l_leads ["_law_rows", "_law_goods"] (defScope s_l_leads) := ⟨rfl, rfl, rfl, by decide +kernel, rfl, by decide +kernel, by decide +kernel⟩
theorem b_l_leads (T : TX K mg) : Binds K T.d_l_leads ["_law_rows", "_law_goods"] [] := T.F_l_leads.bindsN fun _ _ _ _ _ _ us hl => match us, hl with | [_, _], _ => rfl
def sp_leads : Sp := fun vs H Q _ => ∃ (a b : Addr) (c : Nat) (R : List (List Int)) (G : List Bool), vs = [.ref a, .ref b] ∧ Tb H a R ∧ H b = some (bL G) ∧ WF c R G ∧ R.length ≤ 1000 ∧ ∀ (q : Addr) (H' : Hp) (M : List Bool), Same H H' → H q = none → H' q = some (bL M) → M.length = R.length → (∀ s, s < R.length → (gdI M s = true ↔ Lead (stI R) (gdI G) s)) → Q (.ref q) H'
/-- truth values that are sound -/
structure Snd (R : List (List Int)) (G M : List Bool) : Prop where
  len : M.length = R.length
  good : ∀ s, gdI G s = true → gdI M s = true
  lead : ∀ s, gdI M s = true → Lead (stI R) (gdI G) s
theorem Snd.set {R : List (List Int)} {G M : List Bool} (h : Snd R G M) {s a t : Nat} (hs : s < R.length) (e : stI R s a = some t) (ht : gdI M t = true) : Snd R G (M.set s true) := by
  have g : ∀ z, gdI (M.set s true) z = if z = s then true else gdI M z := fun z => gd_set (by rw [h.len]; exact hs)
  refine ⟨by rw [List.length_set, h.len], fun z hz => ?_, fun z hz => ?_⟩
  · rw [g]
    by_cases e : z = s
    · rw [if_pos e]
    · rw [if_neg e]; exact h.good z hz
  · rw [g] at hz
    by_cases e2 : z = s
    · subst e2; exact lead_of_step e (h.lead t ht)
    · rw [if_neg e2] at hz; exact h.lead z hz
theorem Snd.mono {R : List (List Int)} {G M : List Bool} (h : Snd R G M) {s : Nat} (hs : s < R.length) {z : Nat} (hz : gdI M z = true) : gdI (M.set s true) z = true := by
  rw [gd_set (by rw [h.len]; exact hs)]
  by_cases e : z = s
  · rw [if_pos e]
  · rw [if_neg e]; exact hz
theorem Snd.all {c : Nat} {R : List (List Int)} {G M : List Bool} (W : WF c R G) (h : Snd R G M) (hc : ∀ s a t, s < R.length → stI R s a = some t → gdI M t = true → gdI M s = true) : ∀ s, s < R.length → (gdI M s = true ↔ Lead (stI R) (gdI G) s) := fun s hs =>
  ⟨h.lead s, fun ⟨w, hw⟩ => lead_all h.good (fun z a t e ht => by
    by_cases hz : z < R.length
    · exact hc z a t hz e ht
    · have : stI R z a = none := by
        have e2 : row R z = [] := by unfold row; rw [List.getD_eq_getElem?_getD, List.getElem?_eq_none (by omega)]; rfl
        rw [stI_row, e2]
        exact pos_neg (by show (-1 : Int) < 0; omega)
      rw [this] at e; cases e) w s hw⟩
theorem ok_l_leads (T : TX K mg) : FnOk P w K mg base CX0 1 (He.fAd K ("_law_leads", none)) T.d_l_leads ["_law_rows", "_law_goods"] sp_leads := by
  refine T.F_l_leads.ok sc_l_leads (fun vs H Q E h => ?_) (fun cdv A outer s H vs Q E hr h => ?_)
  · obtain ⟨a, b, c, R, G, rfl, _⟩ := h
    rfl
  · obtain ⟨a, b, c, R, G, rfl, hT, hb, W, hl, q⟩ := h
    obtain ⟨as, hS, hlen, ha, hR⟩ := hT.get (K := K)
    have eas : ((as.map V.ref).length : Int) = (R.length : Int) := by rw [List.length_map, hlen]
    refine ⟨_, PSs.nox (pss_cons (ps_set (i := 2) sc_l_leads.nd rfl (Or.inl rfl) (pe_callTy (lstK K) (by rfl) T.n_list bt_list (pa_cons (pv 1) pa_nil)))
    (pss_cons (ps_for PassesOwn.never rfl (pi_range1 rfl T.n_range (pa_cons (pe_callB (lenK K) (by rfl) T.n_len PySem.boot_len (pa_cons (pv 0) pa_nil)) pa_nil)) (pg_name (i := 3) sc_l_leads.nd rfl (Or.inl rfl)) (pss_cons (ps_set (i := 4) sc_l_leads.nd rfl (Or.inl rfl) (bmK K PySem.F.plainAttrs_list PySem.F.slot_list_count PySem.F.type_list_count (cntB K) (pv 2) (pa_cons pe_bl pa_nil)))
      (pss_cons (ps_for PassesOwn.never rfl (pi_revR (by rfl) T.n_reversed (prg_1 (by rfl) T.n_range (pe_callB (lenK K) (by rfl) T.n_len PySem.boot_len (pa_cons (pv 0) pa_nil)))) (pg_name (i := 5) sc_l_leads.nd rfl (Or.inl rfl)) (pss_one (ps_for PassesOwn.never rfl (pi_listK K (pe_ix (ixL K) (pv 0) (pv 5) (fun _ _ => rfl))) (pg_name (i := 6) sc_l_leads.nd rfl (Or.inl rfl)) (pss_one (ps_if (PW.pt (pw_and (pt_cmpR op_ge (pv 6) pe_int (nomark _)) (pw_and1 (pt_val (pe_ix (ixL K) (pv 2) (pv 6) (fun _ _ => rfl)))))) (pss_one (ps_asg pe_bl (pg_sub (pv 2) (pv 5) set_list))) pss_nil)))))
      (pss_one (ps_if (pt_cmpR op_eq (bmK K PySem.F.plainAttrs_list PySem.F.slot_list_count PySem.F.type_list_count (cntB K) (pv 2) (pa_cons pe_bl pa_nil)) (pv 4) (nomark _)) (pss_one ps_break) pss_nil)))))
    (pss_one (ps_ret (pv 2))))), ?_⟩
    refine ⟨_, rfl, b, _, rfl, .inl (SqL.of hb), fun l nl => ?_⟩
    have sl : ∀ o : HO, Same H (upd H l o) := fun o => same_new nl
    have hSl : ∀ o : HO, SqL K (upd H l o) a (as.map V.ref) := fun o => SqL.of (sl o _ _ ha)
    have fin : ∀ M : List Bool, Snd R G M → (∀ s a t, s < R.length → stI R s a = some t → gdI M t = true → gdI M s = true) → Q (.ref l) (upd H l (bL M)) := fun M h1 h2 =>
      q l _ M (sl _) nl upd_same h1.len (h1.all W h2)
    refine ⟨_, rfl, a, _, rfl, .inl (hSl _), (R.length : Int), (by rw [eas]), by omega, by omega, ?_⟩
    refine for_range (n := R.length) (fun i σ H' => ∃ (M : List Bool) (y3 y4 y5 y6 : Option V), σ = [some (.ref a), some (.ref b), some (.ref l), y3, y4, y5, y6] ∧ H' = upd H l (bL M) ∧ Snd R G M ∧ i ≤ M.count true) ?_ ?_ ?_
    · exact ⟨G, none, none, none, none, rfl, rfl, ⟨W.len, fun _ h => h, fun s h => ⟨[], h⟩⟩, Nat.zero_le _⟩
    · rintro i σ H' hi ⟨M0, y3, y4, y5, y6, rfl, rfl, S0, hc0⟩
      refine ⟨_, rfl, .inl ⟨rfl, _, SqL.of upd_same⟩, l, M0, true, rfl, rfl, SqL.of upd_same, ?_⟩
      refine ⟨_, rfl, a, _, rfl, .inl (hSl _), (R.length : Int), (by rw [eas]), by decide, by decide, by omega, by omega, ?_⟩
      have en : ((R.length : Int) - 0).toNat = R.length := by omega
      rw [en]
      refine for_it walk_rangeC (fun i' σ H' => ∃ (M : List Bool) (y5 y6 : Option V), σ = [some (.ref a), some (.ref b), some (.ref l), some (.int (0 + (i : Int))), some (.int (M0.count true : Nat)), y5, y6] ∧ H' = upd H l (bL M) ∧ Snd R G M ∧ (∀ s, gdI M0 s = true → gdI M s = true) ∧ ∀ s x t, R.length - i' ≤ s → s < R.length → stI R s x = some t → gdI M0 t = true → gdI M s = true) ?_ ?_ ?_ ?_
      · exact ⟨M0, _, _, rfl, rfl, S0, fun _ h => h, fun s x t h1 h2 => by omega⟩
      · exact fun _ _ _ _ _ => True.intro
      · rintro i' x σ H' _ hi' ⟨M, y5, y6, rfl, rfl, S, hm, hv⟩ ⟨rfl, ex⟩
        have es : (0 : Int) + (R.length : Int) - 1 + (i' : Int) * (-1) = ((R.length - 1 - i' : Nat) : Int) := by omega
        have hs : R.length - 1 - i' < R.length := by omega
        have ex' : x = V.int ((R.length - 1 - i' : Nat) : Int) := ex.trans (congrArg V.int es)
        subst ex'
        clear ex es
        generalize ek : R.length - 1 - i' = sn at *
        obtain ⟨bi, hbi, hri⟩ := paired_get' hR (row_mem hs)
        obtain ⟨wl, wb⟩ := wf_row W hs
        refine ⟨_, rfl, _, rfl, a, _, _, _, rfl, rfl, hSl _, atI_map hbi, bi, rfl, ⟨_, SqL.of (sl _ _ _ hri)⟩, ?_⟩
        refine for_list (xs := (row R sn).map V.int) (fun j σ H' => ∃ (M : List Bool) (y6 : Option V), σ = [some (.ref a), some (.ref b), some (.ref l), some (.int (0 + (i : Int))), some (.int (M0.count true : Nat)), some (.int (sn : Nat)), y6] ∧ H' = upd H l (bL M) ∧ Snd R G M ∧ (∀ s, gdI M0 s = true → gdI M s = true) ∧ (∀ s x t, R.length - i' ≤ s → s < R.length → stI R s x = some t → gdI M0 t = true → gdI M s = true) ∧
          ∀ x t, x < j → stI R sn x = some t → gdI M0 t = true → gdI M sn = true) ?_ ?_ ?_ ?_
        · exact ⟨M, _, rfl, rfl, S, hm, hv, fun x t h => by omega⟩
        · rintro j σ H' _ ⟨M, y6, rfl, rfl, _⟩
          exact SqL.of (sl _ _ _ hri)
        · rintro j x σ H' hx ⟨M, y6, rfl, rfl, S, hm, hv, hu⟩
          obtain ⟨z, hz, rfl⟩ := map_get' hx
          have hz2 := wb z (List.mem_of_getElem? hz)
          have est : stI R sn j = pos z := by
            show pos ((row R sn).getD j (-1)) = _
            rw [List.getD_eq_getElem?_getD, hz]; rfl
          refine ⟨_, rfl, _, _, rfl, rfl, _, rfl, ite2 (fun h0 => ?_) (fun h0 => ?_)⟩
          · have h0' : 0 ≤ z := of_decide_eq_true h0
            obtain ⟨t, rfl⟩ : ∃ t : Nat, z = (t : Int) := ⟨z.toNat, by omega⟩
            rw [pos_nat] at est
            refine ⟨_, rfl, _, rfl, l, _, _, _, rfl, rfl, SqL.of upd_same, atI_map (gd_mem (i := t) (by rw [S.len]; omega)), _, rfl, ite2 (fun h1 => ?_) (fun h1 => ?_)⟩
            · refine ⟨_, rfl, _, rfl, l, _, _, sn, rfl, rfl, upd_same, ixN_nat (by rw [List.length_map, S.len]; exact hs), ?_⟩
              rw [upd_upd, ← List.map_set (f := V.bl) (a := true)]
              refine ⟨M.set sn true, _, rfl, rfl, S.set hs est h1, fun s h => S.mono hs (hm s h), fun s x t h1 h2 h3 h4 => S.mono hs (hv s x t h1 h2 h3 h4), fun x t' _ _ _ => ?_⟩
              rw [gd_set (by rw [S.len]; exact hs), if_pos rfl]
            · refine ⟨M, _, rfl, rfl, S, hm, hv, fun x t' hx' e' h' => ?_⟩
              by_cases ex : x < j
              · exact hu x t' ex e' h'
              · have : x = j := by omega
                subst this
                rw [est] at e'
                cases e'
                exact absurd (hm _ h') h1
          · refine iteF ⟨M, _, rfl, rfl, S, hm, hv, fun x t' hx' e' h' => ?_⟩
            have h0' : ¬ 0 ≤ z := fun q => h0 (decide_eq_true q)
            by_cases ex : x < j
            · exact hu x t' ex e' h'
            · have : x = j := by omega
              subst this
              rw [est, pos_neg (by omega)] at e'
              cases e'
        · rintro σ H' ⟨M, y6, rfl, rfl, S, hm, hv, hu⟩
          rw [List.length_map] at hu
          refine ⟨M, _, _, rfl, rfl, S, hm, fun s x t h1 h2 h3 h4 => ?_⟩
          by_cases e : s = sn
          · subst e
            exact hu x t (by rw [wl]; exact (stI_lt W h3).2) h3 h4
          · exact hv s x t (by omega) h2 h3 h4
      · rintro σ H' ⟨M, y5, y6, rfl, rfl, S, hm, hv⟩
        have hcm := cnt_mono M0 M (by rw [S0.len, S.len]) hm
        refine ⟨_, rfl, .inl ⟨rfl, _, SqL.of upd_same⟩, l, M, true, rfl, rfl, SqL.of upd_same, _, rfl, rfl, _, rfl, ite2 (fun h1 => ?_) (fun h1 => ?_)⟩
        · have h2 := of_decide_eq_true h1
          injection h2 with h2
          have h3 := hcm.2 (by omega)
          subst h3
          exact ⟨_, rfl, fin M0 S0 fun s x t hs e ht => hv s x t (by omega) hs e ht⟩
        · have h2 : M.count true ≠ M0.count true := fun z => h1 (decide_eq_true (congrArg V.int (by omega)))
          exact ⟨M, _, _, _, _, rfl, rfl, S, by have := hcm.1; omega⟩
    · rintro σ H' ⟨M, y3, y4, y5, y6, rfl, rfl, S, hc⟩
      exact ⟨_, rfl, fin M S fun s x t hs _ _ => cnt_all (by rw [S.len]; exact hc) (by rw [S.len]; exact hs)⟩
end
end Gal
end
section
set_option Elab.async false
set_option linter.all false
set_option maxRecDepth 100000
set_option maxHeartbeats 4000000
namespace Gal
open PySem PySem.Spec PyProof.Rows L2
section
variable {P : Program} {w : World} {K : PySem.W.Frag} {mg : Str → Option Value} {base : Heap}
/-! ### the number of kinds -/
abbrev N_l_kinds : List Str := ["_law_rows", "_law_goods", "_law_kinds_here", "_law_many", "_law_k", "_law_marks", "_law_fresh", "_law_state", "_law_mark", "_law_good", "_law_step"]
theorem sc_l_kinds : FnScope N_l_kinds ["_law_rows", "_law_goods"] (defScope s_l_kinds) := ⟨rfl, rfl, rfl, by decide +kernel, rfl, by decide +kernel, by decide +kernel⟩
theorem b_l_kinds (T : TX K mg) : Binds K T.d_l_kinds ["_law_rows", "_law_goods"] [] := T.F_l_kinds.bindsN fun _ _ _ _ _ _ us hl => match us, hl with | [_, _], _ => rfl
def sp_kinds : Sp := fun vs H Q _ => ∃ (a b : Addr) (c : Nat) (R : List (List Int)) (G : List Bool), vs = [.ref a, .ref b] ∧ Tb H a R ∧ H b = some (bL G) ∧ WF c R G ∧ R.length ≤ 1000 ∧ c ≤ 1000 ∧ (∀ s t, s < R.length → t < R.length → L_ R G s = L_ R G t → s = t) ∧ ∀ H' : Hp, Same H H' → Q (.int (R.length : Nat)) H'
def nkOf (p : Int × List Int) : NKey := .tup [.num p.1, .tup (p.2.map .num)]
theorem nkOf_inj : ∀ x y : Int × List Int, nkOf x = nkOf y → x = y := fun x y e => by
  unfold nkOf at e
  injection e with e
  injection e with e1 e2
  injection e1 with e1
  injection e2 with e2 _
  injection e2 with e2
  have h : ∀ l m : List Int, l.map PySem.NestedKey.num = m.map PySem.NestedKey.num → l = m := fun l => by
    induction l with
    | nil => intro m h; cases m with
      | nil => rfl
      | cons _ _ => cases h
    | cons a l ih => intro m h; cases m with
      | nil => cases h
      | cons b m =>
        injection h with h1 h2
        injection h1 with h1
        rw [h1, ih m h2]
  exact Prod.ext e1 (h _ _ e2)
def keysN (KS : List Int) (R : List (List Int)) : List NKey := (sigs KS R).map nkOf
theorem keysN_get {KS : List Int} {R : List (List Int)} {s : Nat} (h : s < R.length) : (keysN KS R)[s]? = some (nkOf (sigR KS R s)) := by
  unfold keysN
  rw [List.getElem?_map, sigs_get h]; rfl
theorem keysN_len {KS : List Int} {R : List (List Int)} : (keysN KS R).length = R.length := by unfold keysN; rw [List.length_map, sigs_len]
def ind (G : List Bool) : List Int := G.map fun g => if g = true then 1 else 0
theorem nums_nk : ∀ ys : List Int, Paired NkV (ys.map V.int) (ys.map PySem.NestedKey.num)
  | [] => .nil
  | y :: ys => .cons (show y = y from rfl) (nums_nk ys)
/-- what a turn finds -/
structure KInv (R : List (List Int)) (G : List Bool) (i : Nat) (KS : List Int) (m : Nat) : Prop where
  len : KS.length = R.length
  nn : ∀ k ∈ KS, 0 ≤ k
  gds : Gds KS G
  most : i ≤ m
  many : (m = 0 ∧ i = 0) ∨ m = (ded KS).length
theorem KInv.next {c : Nat} {R : List (List Int)} {G : List Bool} {i m : Nat} {KS : List Int} (W : WF c R G) (hd : ∀ s t, s < R.length → t < R.length → L_ R G s = L_ R G t → s = t) (h : KInv R G i KS m) :
    ((ded (keysN KS R)).length = m → m = R.length) ∧ ((ded (keysN KS R)).length ≠ m → KInv R G (i + 1) (numI (keysN KS R)) (ded (keysN KS R)).length) := by
  have r1 : Rfn (keysN KS R) (sigs KS R) := rfn_unmap nkOf_inj _
  have r2 : Rfn (sigs KS R) (keysN KS R) := rfn_map _ _
  have e1 := rfn_len r1 r2
  have le := rfn_le (sigs KS R) KS (sigs_rfn h.len).1 (sigs_rfn h.len)
  have hp : 0 < (ded (sigs KS R)).length := ded_pos (by rw [sigs_len]; exact W.pos)
  constructor
  · intro e
    have hm : m = (ded KS).length := by
      rcases h.many with z | z
      · omega
      · exact z
    rw [hm, kinds_all W h.len h.nn h.gds (stable_of h.len (by omega)) hd]
  · intro e
    refine ⟨by rw [numI_len, keysN_len], numI_nn, h.gds.mono (numI_rfn.trans (r1.trans (sigs_rfn h.len))), ?_, .inr (rfn_len rfn_numI numI_rfn)⟩
    rcases h.many with z | z
    · omega
    · have := h.most
      omega
theorem ok_l_kinds (T : TX K mg) : FnOk P w K mg base CX0 1 (He.fAd K ("_law_kinds", none)) T.d_l_kinds ["_law_rows", "_law_goods"] sp_kinds := by
  refine T.F_l_kinds.ok sc_l_kinds (fun vs H Q E h => ?_) (fun cdv A outer s H vs Q E hr h => ?_)
  · obtain ⟨a, b, c, R, G, rfl, _⟩ := h
    rfl
  · obtain ⟨a, b, c, R, G, rfl, hT, hb, W, hl, hcl, hd, q⟩ := h
    obtain ⟨as, hS, hlen, ha, hR⟩ := hT.get (K := K)
    have eas : ((as.map V.ref).length : Int) = (R.length : Int) := by rw [List.length_map, hlen]
    refine ⟨_, PSs.nox (pss_cons (ps_set (i := 2) sc_l_kinds.nd rfl (Or.inr rfl) (pe_lc (own := [("_law_good", 9)]) (g := gName 9) (tt := tYes) rfl sc_l_kinds.nd (pi_listK K (pv 1)) (blkOk_by (own := [("_law_good", 9)]) (N := N_l_kinds) (sc := defScope s_l_kinds) (by decide +kernel)) (fun _ _ _ _ _ => (pg_name (i := 9) sc_l_kinds.nd rfl (Or.inl rfl))) (fun _ _ _ _ _ => pts_nil) (fun _ _ _ _ _ => (pe_callTy call_int1 (by rfl) T.n_int bt_int (pa_cons (pv 9) pa_nil)))))
    (pss_cons (ps_set (i := 3) sc_l_kinds.nd rfl (Or.inl rfl) pe_int)
    (pss_cons (ps_for PassesOwn.never rfl (pi_range1 rfl T.n_range (pa_cons (pe_callB (lenK K) (by rfl) T.n_len PySem.boot_len (pa_cons (pv 0) pa_nil)) pa_nil)) (pg_name (i := 4) sc_l_kinds.nd rfl (Or.inl rfl)) (pss_cons (ps_set (i := 5) sc_l_kinds.nd rfl (Or.inl rfl) (pe_newN P w))
      (pss_cons (ps_set (i := 6) sc_l_kinds.nd rfl (Or.inl rfl) (pe_lst pa_nil))
      (pss_cons (ps_for PassesOwn.never rfl (pi_range1 rfl T.n_range (pa_cons (pe_callB (lenK K) (by rfl) T.n_len PySem.boot_len (pa_cons (pv 0) pa_nil)) pa_nil)) (pg_name (i := 7) sc_l_kinds.nd rfl (Or.inl rfl)) (pss_cons (ps_set (i := 8) sc_l_kinds.nd rfl (Or.inl rfl) (pe_tup (pa_cons (pe_ix (ixL K) (pv 2) (pv 7) (fun _ _ => rfl)) (pa_cons (pe_callTy (tupK K) (by rfl) T.n_tuple bt_tuple (pa_cons (pe_lc (own := [("_law_step", 10)]) (g := gName 10) (tt := tYes) rfl sc_l_kinds.nd (pi_listK K (pe_ix (ixL K) (pv 0) (pv 7) (fun _ _ => rfl))) (blkOk_by (own := [("_law_step", 10)]) (N := N_l_kinds) (sc := defScope s_l_kinds) (by decide +kernel)) (fun _ _ _ _ _ => (pg_name (i := 10) sc_l_kinds.nd rfl (Or.inl rfl))) (fun _ _ _ _ _ => pts_nil) (fun _ _ _ _ _ => (pe_ifExp (pt_cmpR op_ge (pv 10) pe_int (nomark _)) (pe_ix (ixL K) (pv 2) (pv 10) (fun _ _ => rfl)) (pe_un un_neg pe_int)))) pa_nil)) pa_nil))))
        (pss_cons (ps_if (pt_cmp (pc_notinN P w hr.units (pv 8) (pv 5))) (pss_one (ps_putN P w hr.units (pv 5) (pv 8) (pe_callB (lenN P w) (by rfl) T.n_len PySem.boot_len (pa_cons (pv 5) pa_nil)) rfl)) pss_nil)
        (pss_one (ps_expr (bmK K PySem.F.plainAttrs_list PySem.F.slot_list_append PySem.F.type_list_append mt_append (pv 6) (pa_cons (pe_getN P w hr.units (pv 5) (pv 8) (fun _ _ => rfl)) pa_nil)))))))
      (pss_cons (ps_set (i := 2) sc_l_kinds.nd rfl (Or.inr rfl) (pv 6))
      (pss_cons (ps_if (pt_cmpR op_eq (pe_callB (lenN P w) (by rfl) T.n_len PySem.boot_len (pa_cons (pv 5) pa_nil)) (pv 3) (nomark _)) (pss_one ps_break) pss_nil)
      (pss_one (ps_set (i := 3) sc_l_kinds.nd rfl (Or.inl rfl) (pe_callB (lenN P w) (by rfl) T.n_len PySem.boot_len (pa_cons (pv 5) pa_nil))))))))))
    (pss_one (ps_ret (pv 3)))))), ?_⟩
    have il : (ind G).length = R.length := by unfold ind; rw [List.length_map, W.len]
    refine ⟨_, rfl, b, rfl, ⟨_, SqL.of hb⟩, fun l nl => ?_⟩
    refine lc_list (K := K) (a := b) (xs := G.map V.bl) (fun i H' => H' = upd H l (iL ((ind G).take i))) (by rw [List.take_zero]; rfl) (fun i H' _ e => by rw [e]; exact SqL.of (same_new nl _ _ hb)) ?_ ?_
    · rintro i x H' hx rfl
      obtain ⟨g, hg, rfl⟩ := map_get' hx
      have hi : i < G.length := (List.getElem?_eq_some_iff.mp hg).1
      refine ⟨rfl, _, rfl, .inr ⟨_, rfl, _, upd_same, szLt (by rw [List.length_map, List.length_take]; omega), ?_⟩⟩
      rw [upd_upd, snocI, List.take_add_one]
      have : (ind G)[i]? = some (if g = true then 1 else 0) := by unfold ind; rw [List.getElem?_map, hg]; rfl
      rw [this]; rfl
    rintro H1 rfl
    rw [List.length_map, ← (show (ind G).length = G.length by rw [il, W.len]), List.take_length]
    have s1 : Same H (upd H l (iL (ind G))) := same_new nl
    refine ⟨_, rfl, a, _, rfl, .inl (SqL.of (s1 _ _ ha)), (R.length : Int), (by rw [eas]), by omega, by omega, ?_⟩
    refine for_range (n := R.length) (fun i σ H' => ∃ (l : Addr) (KS : List Int) (m : Nat) (y4 y5 y6 y7 y8 : Option V), σ = [some (.ref a), some (.ref b), some (.ref l), some (.int (m : Nat)), y4, y5, y6, y7, y8, none, none] ∧ Same H H' ∧ H' l = some (iL KS) ∧ KInv R G i KS m) ?_ ?_ ?_
    · refine ⟨l, ind G, 0, none, none, none, none, none, rfl, s1, upd_same, il, fun k hk => ?_, fun i j hi hj e => ?_, Nat.le_refl _, .inl ⟨rfl, rfl⟩⟩
      · obtain ⟨g, _, rfl⟩ := List.mem_map.mp hk
        cases g <;> decide
      · rw [il, ← W.len] at hi hj
        unfold ind at e
        rw [List.getElem?_map, List.getElem?_map, gd_mem hi, gd_mem hj] at e
        have e := Option.some.inj e
        revert e
        cases gdI G i <;> cases gdI G j <;> intro e
        · rfl
        · exact absurd e (by decide)
        · exact absurd e (by decide)
        · rfl
    · rintro i σ H1 hi ⟨l, KS, m, y4, y5, y6, y7, y8, rfl, s1, hk, I⟩
      intro d nd
      refine ⟨(by show 0 ≤ sizeLine; decide), fun f nf => ?_⟩
      have sA : Same H1 (upd H1 d (dn P w d [])) := same_new nd
      have sB : Same H1 (upd (upd H1 d (dn P w d [])) f (.lst [])) := sA.trans (same_new nf)
      have nf1 : H1 f = none := sA.free nf
      have fd : f ≠ d := fun z => by rw [z, upd_same] at nf; cases nf
      refine ⟨_, rfl, a, _, rfl, .inl (SqL.of (sB _ _ (s1 _ _ ha))), (R.length : Int), (by rw [eas]), by omega, by omega, ?_⟩
      refine for_range (n := R.length) (fun j σ H' => ∃ (y7 y8 : Option V), σ = [some (.ref a), some (.ref b), some (.ref l), some (.int (m : Nat)), some (.int (0 + (i : Int))), some (.ref d), some (.ref f), y7, y8, none, none] ∧ Same H1 H' ∧ DnAt P w H' d (numD (ded ((keysN KS R).take j))) ∧ H' f = some (iL (numI ((keysN KS R).take j)))) ?_ ?_ ?_
      · refine ⟨_, _, rfl, sB, ?_, upd_same⟩
        rw [List.take_zero]
        exact dn_new.same (same_new nf)
      · rintro j σ H2 hj ⟨y7, y8, rfl, s2, hD, hF⟩
        obtain ⟨bi, hbi, hri⟩ := paired_get' hR (row_mem hj)
        have ej : (0 : Int) + (j : Int) = (j : Int) := by omega
        obtain ⟨wl, wb⟩ := wf_row W hj
        have S2 : Same H H2 := s1.trans s2
        have hkj : KS[j]? = some (KS.getD j 0) := by
          rw [List.getD_eq_getElem?_getD, List.getElem?_eq_getElem (by rw [I.len]; exact hj)]; rfl
        refine ⟨_, rfl, _, rfl, l, _, _, _, rfl, rfl, SqL.of (s2 _ _ hk), atI_map' ej hkj, _, rfl, _, rfl, a, _, _, _, rfl, rfl, SqL.of (S2 _ _ ha), atI_map' ej hbi, bi, rfl, ⟨_, SqL.of (S2 _ _ hri)⟩, fun e ne => ?_⟩
        refine lc_list (K := K) (a := bi) (xs := (row R j).map V.int) (fun x H' => H' = upd H2 e (iL (((row R j).map (kAt KS)).take x))) (by rw [List.take_zero]; rfl) (fun x H' _ z => by rw [z]; exact SqL.of (same_new ne _ _ (S2 _ _ hri))) ?_ ?_
        · rintro x y H' hx rfl
          obtain ⟨z, hz, rfl⟩ := map_get' hx
          have hxl : x < (row R j).length := (List.getElem?_eq_some_iff.mp hz).1
          have hz2 := wb z (List.mem_of_getElem? hz)
          have hsz : ((((row R j).map (kAt KS)).take x).map V.int).length < sizeLine := szLt (by rw [List.length_map, List.length_take]; omega)
          have stp : ∀ v : Int, v = kAt KS z → (upd (upd H2 e (iL (((row R j).map (kAt KS)).take x))) e (.lst (((((row R j).map (kAt KS)).take x).map V.int) ++ [.int v]))) = upd H2 e (iL (((row R j).map (kAt KS)).take (x + 1))) := fun v ev => by
            rw [upd_upd, snocI, List.take_add_one]
            have : ((row R j).map (kAt KS))[x]? = some v := by rw [List.getElem?_map, hz, ev]; rfl
            rw [this]; rfl
          refine ⟨rfl, _, rfl, _, _, rfl, rfl, _, rfl, ite2 (fun h0 => ?_) (fun h0 => ?_)⟩
          · have h0' : 0 ≤ z := of_decide_eq_true h0
            obtain ⟨t, rfl⟩ : ∃ t : Nat, z = (t : Int) := ⟨z.toNat, by omega⟩
            have hkt : KS[t]? = some (kAt KS (t : Int)) := by
              unfold kAt
              rw [if_pos h0', Int.toNat_natCast, List.getD_eq_getElem?_getD, List.getElem?_eq_getElem (by rw [I.len]; omega)]; rfl
            refine ⟨_, rfl, _, rfl, l, _, _, _, rfl, rfl, SqL.of (same_new ne _ _ (s2 _ _ hk)), atI_map hkt, _, upd_same, hsz, stp _ rfl⟩
          · have h0' : ¬ 0 ≤ z := fun q => h0 (decide_eq_true q)
            exact ⟨_, rfl, _, upd_same, hsz, stp _ (by unfold kAt; rw [if_neg h0'])⟩
        rintro H3 rfl
        rw [List.length_map, ← (List.length_map (f := kAt KS) : ((row R j).map (kAt KS)).length = (row R j).length), List.take_length]
        refine ⟨e, _, rfl, SqL.of upd_same, fun g ng => ⟨(by show 2 ≤ sizeLine; decide), fun t nt => ?_⟩⟩
        have s3 : Same H2 (upd H2 e (iL ((row R j).map (kAt KS)))) := same_new ne
        have s4 := s3.trans (same_new (o := .tup (((row R j).map (kAt KS)).map V.int)) ng)
        have s5 := s4.trans (same_new (o := .tup [.int (KS.getD j 0), .ref g]) nt)
        generalize hH5 : upd (upd (upd H2 e (iL ((row R j).map (kAt KS)))) g (.tup (((row R j).map (kAt KS)).map V.int))) t (.tup [.int (KS.getD j 0), .ref g]) = H5 at s5
        have hk5 : NkAt H5 t (nkOf (sigR KS R j)) := by
          refine ⟨.int (KS.getD j 0), g, ((row R j).map (kAt KS)).map V.int, .num (KS.getD j 0), _, rfl, ?_, ?_, rfl, nums_nk _⟩
          · rw [← hH5]; exact upd_same
          · rw [← hH5]; exact same_new nt _ _ upd_same
        have hD5 := hD.same s5
        have hF5 := s5 _ _ hF
        have hkey := keysN_get (KS := KS) hj
        have htk : (keysN KS R).take (j + 1) = (keysN KS R).take j ++ [nkOf (sigR KS R j)] := by rw [List.take_add_one, hkey]; rfl
        have hlj : ((keysN KS R).take j).length ≤ 1000 := by rw [List.length_take, keysN_len]; omega
        have hdl : (ded ((keysN KS R).take j)).length ≤ 1000 := Nat.le_trans (ded_len _) hlj
        have hfl : ((numI ((keysN KS R).take j)).map V.int).length < sizeLine := szLt (by rw [List.length_map, numI_len]; omega)
        by_cases hin : nkOf (sigR KS R j) ∈ ded ((keysN KS R).take j)
        · have hv := valV_numD.1 hin
          refine ⟨_, rfl, _, rfl, d, _, rfl, ⟨_, _, _, hD5, rfl, hk5, hv.symm⟩, _, rfl, iteF ?_⟩
          refine ⟨_, rfl, .inl ⟨rfl, _, SqL.of hF5⟩, _, rfl, _, rfl, d, _, rfl, ⟨_, _, _, hD5, rfl, hk5, hv.symm⟩, f, _, _, rfl, rfl, hF5, hfl, ?_⟩
          have e1 := ded_snoc_old (mem_ded.mp hin)
          refine ⟨_, _, rfl, same_mut (s2.trans s5) nf1, ?_, ?_⟩
          · rw [htk, e1]
            exact DnAt.keep (fun _ z => by cases z) (Ne.symm fd) hF5 hD5
          · rw [upd_same, snocI, htk, numI_snoc, e1]
        · have hv := valV_numD.2 hin
          refine ⟨_, rfl, _, rfl, d, _, rfl, ⟨_, _, _, hD5, rfl, hk5, hv.symm⟩, _, rfl, iteT ?_⟩
          have hu1 : (ded ((keysN KS R).take (j + 1))) = ded ((keysN KS R).take j) ++ [nkOf (sigR KS R j)] := by rw [htk, ded_snoc_new (fun z => hin (mem_ded.mpr z))]
          refine ⟨_, rfl, d, _, rfl, hD5, (by rw [numD_len]; omega), _, rfl, _, rfl, d, _, _, _, rfl, hD5, rfl, hk5, hv, (by rw [numD_len]; omega), fun u hu => ?_⟩
          have hF6 : upd H5 d u f = some (iL (numI ((keysN KS R).take j))) := upd_at fd hF5
          obtain ⟨ks5, hks5⟩ := hD5.some
          have hk6 : NkAt (upd H5 d u) t (nkOf (sigR KS R j)) := nk_keep hks5 (fun _ z => nomatch z) hk5
          have hu' : DnAt P w (upd H5 d u) d (numD (ded ((keysN KS R).take (j + 1)))) := by
            rw [hu1, numD_snoc, ← numD_len (ds := ded ((keysN KS R).take j))]
            exact hu
          have hv6 := (valV_numD (k := nkOf (sigR KS R j)) (ds := ded ((keysN KS R).take (j + 1)))).1 (by rw [hu1]; simp)
          refine ⟨_, rfl, .inl ⟨rfl, _, SqL.of hF6⟩, _, rfl, _, rfl, d, _, rfl, ⟨_, _, _, hu', rfl, hk6, hv6.symm⟩, f, _, _, rfl, rfl, hF6, hfl, ?_⟩
          refine ⟨_, _, rfl, same_mut (same_mut (s2.trans s5) nd) nf1, DnAt.keep (fun _ z => by cases z) (Ne.symm fd) hF6 hu', ?_⟩
          rw [upd_same, snocI, htk, numI_snoc, ← htk]
      · rintro σ H2 ⟨y7, y8, rfl, s2, hD, hF⟩
        rw [← keysN_len (KS := KS) (R := R), List.take_length] at hD hF
        obtain ⟨n1, n2⟩ := I.next W hd
        have hdl : (ded (keysN KS R)).length < 100000 := by
          have := ded_len (keysN KS R)
          rw [keysN_len] at this
          omega
        refine ⟨_, rfl, _, rfl, d, _, rfl, hD, (by rw [numD_len]; exact hdl), _, rfl, rfl, _, rfl, ?_⟩
        rw [numD_len]
        refine ite2 (fun e => ?_) (fun e => ?_)
        · have e := of_decide_eq_true e
          injection e with e
          have := n1 (by omega)
          subst this
          exact ⟨_, rfl, q H2 (s1.trans s2)⟩
        · refine ⟨_, rfl, d, _, rfl, hD, (by rw [numD_len]; exact hdl), ?_⟩
          rw [numD_len]
          exact ⟨f, _, _, _, _, _, _, _, rfl, s1.trans s2, hF, n2 fun z => e (decide_eq_true (congrArg V.int (by omega)))⟩
    · rintro σ H1 ⟨l, KS, m, y4, y5, y6, y7, y8, rfl, s1, hk, I⟩
      have h1 := I.most
      have h2 := W.pos
      have h3 : m = R.length := by
        rcases I.many with z | z
        · omega
        · have := ded_len KS
          rw [I.len] at this
          omega
      subst h3
      exact ⟨_, rfl, q H1 s1⟩
end
end Gal
end
section
set_option Elab.async false
set_option linter.all false
set_option maxRecDepth 100000
set_option maxHeartbeats 4000000
namespace Gal
open PySem PySem.Spec PyProof.Rows L2
section
variable {P : Program} {w : World} {K : PySem.W.Frag} {mg : Str → Option Value} {base : Heap}
/-! ### is a table least -/
abbrev N_l_least : List Str := ["_law_rows", "_law_goods", "_law_count"]
theorem sc_l_least : FnScope N_l_least ["_law_rows", "_law_goods", "_law_count"] (defScope s_l_least) := ⟨rfl, rfl, rfl, by decide +kernel, rfl, by decide +kernel, by decide +kernel⟩
theorem b_l_least (T : TX K mg) : Binds K T.d_l_least ["_law_rows", "_law_goods", "_law_count"] [] := T.F_l_least.bindsN fun _ _ _ _ _ _ us hl => match us, hl with | [_, _, _], _ => rfl
def sp_lleast : Sp := fun vs H Q _ => ∃ (a b : Addr) (c : Nat) (R : List (List Int)) (G : List Bool), vs = [.ref a, .ref b, .int (c : Nat)] ∧ Tb H a R ∧ H b = some (bL G) ∧ Least c R G ∧ R.length ≤ 1000 ∧ c ≤ 1000 ∧ ∀ H' : Hp, Same H H' → Q (.bl true) H'
theorem ok_l_least (T : TX K mg) : FnOk P w K mg base CX0 2 (He.fAd K ("_law_least", none)) T.d_l_least ["_law_rows", "_law_goods", "_law_count"] sp_lleast := by
  refine T.F_l_least.ok sc_l_least (fun vs H Q E h => ?_) (fun cdv A outer s H vs Q E hr h => ?_)
  · obtain ⟨a, b, c, R, G, rfl, _⟩ := h
    rfl
  · obtain ⟨a, b, c, R, G, rfl, hT, hb, L, hl, hcl, q⟩ := h
    obtain ⟨as, hS, hlen, ha, hR⟩ := hT.get (K := K)
    have eas : ((as.map V.ref).length : Int) = (R.length : Int) := by rw [List.length_map, hlen]
    refine ⟨_, PSs.nox (pss_cons (ps_if (PW.pt (pw_or (pt_not (pt_val (pe_call (ok_l_table T) (hr.mono (by decide)) (by rfl) T.g_l_table T.F_l_table.kp (b_l_table T) .nil pass0 (pa_cons (pv 0) (pa_cons (pv 1) (pa_cons (pv 2) pa_nil)))))) (pw_or1 (pt_not (pt_val (pe_call (ok_l_numbers T) (hr.mono (by decide)) (by rfl) T.g_l_numbers T.F_l_numbers.kp (b_l_numbers T) .nil pass0 (pa_cons (pv 0) pa_nil))))))) (pss_one (ps_ret pe_bl)) pss_nil)
    (pss_cons (ps_if (pt_cmpR op_lt (bmK K PySem.F.plainAttrs_list PySem.F.slot_list_count PySem.F.type_list_count (cntB K) (pe_call (ok_l_leads T) (hr.mono (by decide)) (by rfl) T.g_l_leads T.F_l_leads.kp (b_l_leads T) .nil pass0 (pa_cons (pv 0) (pa_cons (pv 1) pa_nil))) (pa_cons pe_bl pa_nil)) (pe_callB (lenK K) (by rfl) T.n_len PySem.boot_len (pa_cons (pv 0) pa_nil)) (nomark _)) (pss_one (ps_ret (pe_and (pe_cmpR op_eq (pe_callB (lenK K) (by rfl) T.n_len PySem.boot_len (pa_cons (pv 0) pa_nil)) pe_int (nomark _)) (pe_one (pe_cmpR op_eq (bmK K PySem.F.plainAttrs_list PySem.F.slot_list_count PySem.F.type_list_count (cntK K) (pe_ix (ixL K) (pv 0) pe_int (fun _ _ => rfl)) (pa_cons (pe_un un_neg pe_int) pa_nil)) (pv 2) (nomark _)))))) pss_nil)
    (pss_one (ps_ret (pe_cmpR op_eq (pe_call (ok_l_kinds T) (hr.mono (by decide)) (by rfl) T.g_l_kinds T.F_l_kinds.kp (b_l_kinds T) .nil pass0 (pa_cons (pv 0) (pa_cons (pv 1) pa_nil))) (pe_callB (lenK K) (by rfl) T.n_len PySem.boot_len (pa_cons (pv 0) pa_nil)) (nomark _)))))), ?_⟩
    refine ⟨_, rfl, _, rfl, _, rfl, a, b, c, R, G, rfl, hT, hb, L.wf, hl, _, rfl, iteF ?_⟩
    refine ⟨_, rfl, a, R, rfl, hT, L.num, hl, _, rfl, iteF ?_⟩
    refine ⟨_, rfl, _, rfl, a, b, c, R, G, rfl, hT, hb, L.wf, hl, fun l H' M s1 nl hM hML hMl => ⟨.inl ⟨rfl, _, SqL.of hM⟩, l, M, true, rfl, rfl, SqL.of hM, _, rfl, a, _, rfl, .inl (SqL.of (s1 _ _ ha)), _, _, rfl, rfl, _, rfl, ite2 (fun h1 => ?_) (fun _ => ?_)⟩⟩
    · have h1 := of_decide_eq_true h1
      rw [eas] at h1
      rcases L.trim with z | ⟨z1, z2⟩
      · have := all_cnt (M := M) fun i hi => (hMl i (by omega)).mpr (z i (by omega))
        omega
      · subst z1 z2
        obtain ⟨bi, hbi, hri⟩ := paired_get' hR (row_mem (i := 0) L.wf.pos)
        refine ⟨_, rfl, a, _, rfl, .inl (SqL.of (s1 _ _ ha)), rfl, _, rfl, ite2 (fun _ => ?_) (fun z => absurd (decide_eq_true (congrArg V.int eas)) z)⟩
        refine ⟨_, rfl, a, _, _, _, rfl, rfl, SqL.of (s1 _ _ ha), atI_map (i := 0) hbi, .inl ⟨rfl, _, SqL.of (s1 _ _ hri)⟩, _, rfl, bi, _, -1, rfl, rfl, SqL.of (s1 _ _ hri), _, rfl, rfl, ?_⟩
        have e : (row [List.replicate c (-1 : Int)] 0).count (-1) = c := by
          show (List.replicate c (-1 : Int)).count (-1) = c
          rw [List.count_replicate_self]
        rw [e, decide_eq_true rfl]
        exact q H' s1
    · refine ⟨_, rfl, _, rfl, a, b, c, R, G, rfl, hT.same s1, s1 _ _ hb, L.wf, hl, hcl, L.dist, fun H2 s2 => ⟨_, rfl, a, _, rfl, .inl (SqL.of (s2 _ _ (s1 _ _ ha))), rfl, ?_⟩⟩
      rw [decide_eq_true (congrArg V.int eas.symm)]
      exact q H2 (s1.trans s2)
/-! ### have two tables the same strips -/
/-- at p: a list of a table and its truth values -/
def TabAt (H : Hp) (p : Addr) (R : List (List Int)) (G : List Bool) : Prop := ∃ t r, H p = some (.lst [.ref t, .ref r]) ∧ Tb H t R ∧ H r = some (bL G)
theorem TabAt.same {H H' : Hp} {p : Addr} {R : List (List Int)} {G : List Bool} (s : Same H H') (h : TabAt H p R G) : TabAt H' p R G := by
  obtain ⟨t, r, h1, h2, h3⟩ := h
  exact ⟨t, r, s _ _ h1, h2.same s, s _ _ h3⟩
theorem at2_0 {x y : V} : atI [x, y] 0 = some x := atI_nat (j := 0) rfl
theorem at2_1 {x y : V} : atI [x, y] 1 = some y := atI_nat (j := 1) rfl
theorem rd_good {σ : L2.St} {H : Hp} {Q : VK} {i j : Nat} {x : Int} {p : Addr} {R : List (List Int)} {G : List Bool} (hi : σ[i]? = some (some (.int x))) (hj : σ[j]? = some (some (.ref p))) (h : TabAt H p R G) (hx : x < R.length) (hl : G.length = R.length) (q : Q (.bl (gdO G x)) H) :
    tAndV (tOp (rI0 fun i j => V.bl (decide (j ≤ i))) (tVar i) (tC (.int 0))) (tOp (rIxL K) (tOp (rIxL K) (tVar j) (tC (.int 1))) (tVar i)) σ H Q := by
  obtain ⟨t, r, h1, h2, h3⟩ := h
  refine ⟨_, hi, _, _, rfl, rfl, _, rfl, ite2 (fun h0 => ?_) (fun h0 => ?_)⟩
  · have h0 : 0 ≤ x := of_decide_eq_true h0
    have hm := gd_mem (G := G) (i := x.toNat) (by omega)
    refine ⟨_, hj, p, _, _, _, rfl, rfl, SqL.of h1, at2_1, _, hi, r, _, _, _, rfl, rfl, SqL.of h3, atI_map' (by omega) hm, ?_⟩
    unfold gdO at q
    rw [if_pos h0] at q
    exact q
  · have h0 : ¬ 0 ≤ x := fun z => h0 (decide_eq_true z)
    unfold gdO at q
    rw [if_neg h0] at q
    exact q
theorem rd_step {σ : L2.St} {H : Hp} {Q : VK} {i j k a c : Nat} {x : Int} {p : Addr} {R : List (List Int)} {G : List Bool} (hi : σ[i]? = some (some (.int x))) (hj : σ[j]? = some (some (.ref p))) (hk : σ[k]? = some (some (.int (0 + (a : Int))))) (h : TabAt H p R G) (W : WF c R G) (hx : x < R.length) (ha : a < c) (q : Q (.int (stO R x a)) H) :
    tIf (tTest (tOp (rI0 fun i j => V.bl (decide (j ≤ i))) (tVar i) (tC (.int 0)))) (tOp (rIxL K) (tOp (rIxL K) (tOp (rIxL K) (tVar j) (tC (.int 0))) (tVar i)) (tVar k)) (tUn (rU fun i => .int (-i)) (tC (.int 1))) σ H Q := by
  obtain ⟨t, r, h1, ⟨as, h2, h3⟩, h4⟩ := h
  refine ⟨_, hi, _, _, rfl, rfl, _, rfl, ite2 (fun h0 => ?_) (fun h0 => ?_)⟩
  · have h0 : 0 ≤ x := of_decide_eq_true h0
    obtain ⟨bi, hbi, hri⟩ := paired_get' h3 (row_mem (i := x.toNat) (by omega))
    have hw := (wf_row W (i := x.toNat) (by omega)).1
    have hm : (row R x.toNat)[a]? = some ((row R x.toNat).getD a (-1)) := by rw [List.getD_eq_getElem?_getD, List.getElem?_eq_getElem (by omega)]; rfl
    refine ⟨_, hj, p, _, _, _, rfl, rfl, SqL.of h1, at2_0, _, hi, t, _, _, _, rfl, rfl, SqL.of h2, atI_map' (by omega) hbi, _, hk, bi, _, _, _, rfl, rfl, SqL.of hri, atI_map' (by omega) hm, ?_⟩
    unfold stO at q
    rw [if_pos h0] at q
    exact q
  · have h0 : ¬ 0 ≤ x := fun z => h0 (decide_eq_true z)
    unfold stO at q
    rw [if_neg h0] at q
    exact ⟨_, rfl, q⟩
abbrev N_l_alike : List Str := ["_law_first", "_law_second", "_law_count", "_law_met", "_law_queue", "_law_k", "_law_one", "_law_two", "_law_column", "_law_step", "_law_other"]
theorem sc_l_alike : FnScope N_l_alike ["_law_first", "_law_second", "_law_count"] (defScope s_l_alike) := ⟨rfl, rfl, rfl, by decide +kernel, rfl, by decide +kernel, by decide +kernel⟩
theorem b_l_alike (T : TX K mg) : Binds K T.d_l_alike ["_law_first", "_law_second", "_law_count"] [] := T.F_l_alike.bindsN fun _ _ _ _ _ _ us hl => match us, hl with | [_, _, _], _ => rfl
/-- the queue of pairs -/
structure AInv (R : List (List Int)) (G : List Bool) (R' : List (List Int)) (G' : List Bool) (c k : Nat) (Qs : List (Int × Int)) : Prop where
  nd : Qs.Nodup
  bd : ∀ p ∈ Qs, (-1 ≤ p.1 ∧ p.1 < R.length) ∧ (-1 ≤ p.2 ∧ p.2 < R'.length)
  zero : (0, 0) ∈ Qs
  lang : L_ R G 0 = L_ R' G' 0 → ∀ p ∈ Qs, ∀ w, langO R G p.1 w = langO R' G' p.2 w
  done : ∀ i p, i < k → Qs[i]? = some p → gdO G p.1 = gdO G' p.2 ∧ ∀ a, a < c → (stO R p.1 a, stO R' p.2 a) ∈ Qs
  kle : k ≤ Qs.length
theorem AInv.all {R : List (List Int)} {G : List Bool} {R' : List (List Int)} {G' : List Bool} {c k : Nat} {Qs : List (Int × Int)} (W : WF c R G) (W' : WF c R' G') (h : AInv R G R' G' c k Qs) (hk : Qs.length ≤ k) : L_ R G 0 = L_ R' G' 0 := by
  have hd : ∀ p ∈ Qs, gdO G p.1 = gdO G' p.2 ∧ ∀ a, a < c → (stO R p.1 a, stO R' p.2 a) ∈ Qs := fun p hp => by
    obtain ⟨i, hi, e⟩ := List.getElem_of_mem hp
    exact h.done i p (by omega) (by rw [List.getElem?_eq_getElem hi, e])
  exact funext fun w => bisim (fun p hp => (hd p hp).1) (fun p hp => (hd p hp).2) (fun _ _ h => stO_out W h) (fun _ _ h => stO_out W' h) w (0, 0) h.zero
theorem AInv.few {R : List (List Int)} {G : List Bool} {R' : List (List Int)} {G' : List Bool} {c k : Nat} {Qs : List (Int × Int)} (h : AInv R G R' G' c k Qs) : Qs.length ≤ R.length * R'.length + R.length + R'.length + 1 := pairs_few _ _ h.nd h.bd
theorem AInv.push {R : List (List Int)} {G : List Bool} {R' : List (List Int)} {G' : List Bool} {c k a : Nat} {Qs : List (Int × Int)} {p : Int × Int} (W : WF c R G) (W' : WF c R' G') (h : AInv R G R' G' c k Qs) (hp : p ∈ Qs) (hn : (stO R p.1 a, stO R' p.2 a) ∉ Qs) : AInv R G R' G' c k (Qs ++ [(stO R p.1 a, stO R' p.2 a)]) := by
  refine ⟨?_, fun q hq => ?_, List.mem_append_left _ h.zero, fun hL q hq w => ?_, fun i q hi hq => ?_, by rw [List.length_append]; have := h.kle; omega⟩
  · refine List.nodup_append.mpr ⟨h.nd, by simp, fun x hx y hy => ?_⟩
    have : y = (stO R p.1 a, stO R' p.2 a) := by simpa using hy
    subst this
    exact fun z => hn (by rw [← z]; exact hx)
  · rcases List.mem_append.mp hq with z | z
    · exact h.bd q z
    · have : q = (stO R p.1 a, stO R' p.2 a) := by simpa using z
      subst this
      exact ⟨stO_bd W, stO_bd W'⟩
  · rcases List.mem_append.mp hq with z | z
    · exact h.lang hL q z w
    · have : q = (stO R p.1 a, stO R' p.2 a) := by simpa using z
      subst this
      have := h.lang hL p hp (a :: w)
      rw [langO_cons, langO_cons] at this
      exact this
  · have hi' : i < Qs.length := by have := h.kle; omega
    rw [List.getElem?_append_left hi'] at hq
    obtain ⟨h1, h2⟩ := h.done i q hi hq
    exact ⟨h1, fun a ha => List.mem_append_left _ (h2 a ha)⟩
def kp (p : Int × Int) : List Key := [.inl p.1, .inl p.2]
theorem kp_inj {p q : Int × Int} (e : kp p = kp q) : p = q := by
  unfold kp at e
  injection e with e1 e2
  injection e2 with e2 _
  injection e1 with e1
  injection e2 with e2
  exact Prod.ext e1 e2
def met (Qs : List (Int × Int)) : List (List Key × V) := Qs.map fun p => (kp p, .bl true)
theorem met_val {p : Int × Int} : ∀ {Qs : List (Int × Int)}, valV (met Qs) (kp p) = if p ∈ Qs then some (.bl true) else none
  | [] => rfl
  | q :: Qs => by
    by_cases e : kp q = kp p
    · have : q = p := kp_inj e
      subst this
      rw [if_pos List.mem_cons_self]
      exact valV_pos (p := (kp q, V.bl true)) rfl
    · have : ¬ p = q := fun z => e (by rw [z])
      have h := valV_neg (p := (kp q, V.bl true)) (r := met Qs) (k := kp p) e
      show valV ((kp q, V.bl true) :: met Qs) (kp p) = _
      rw [h, met_val]
      by_cases hm : p ∈ Qs
      · rw [if_pos hm, if_pos (List.mem_cons_of_mem _ hm)]
      · rw [if_neg hm, if_neg (fun z => by rcases List.mem_cons.mp z with z | z; exact this z; exact hm z)]
theorem met_put {p : Int × Int} {Qs : List (Int × Int)} (h : p ∉ Qs) : putK (met Qs) (kp p) (.bl true) = met (Qs ++ [p]) := by
  have hn : ((met Qs).any fun kv => decide (kv.1 = kp p)) = false := by
    rw [List.any_eq_false]
    intro kv hkv
    obtain ⟨q, hq, rfl⟩ := List.mem_map.mp hkv
    simp only [decide_eq_true_eq]
    exact fun z => h (by rw [← kp_inj z]; exact hq)
  unfold putK
  rw [hn]
  unfold met
  rw [List.map_append]; rfl
def PrAt (H : Hp) (t : Addr) (p : Int × Int) : Prop := H t = some (.tup [.int p.1, .int p.2])
def sp_alike : Sp := fun vs H Q _ => ∃ (p1 p2 : Addr) (c : Nat) (R : List (List Int)) (G : List Bool) (R' : List (List Int)) (G' : List Bool), vs = [.ref p1, .ref p2, .int (c : Nat)] ∧ TabAt H p1 R G ∧ TabAt H p2 R' G' ∧ WF c R G ∧ WF c R' G' ∧ R.length ≤ 100 ∧ R'.length ≤ 100 ∧ c ≤ 100 ∧
  ∀ (H' : Hp) (b : Bool), Same H H' → (b = true ↔ L_ R G 0 = L_ R' G' 0) → Q (.bl b) H'
theorem ok_l_alike (T : TX K mg) : FnOk P w K mg base CX0 1 (He.fAd K ("_law_alike", none)) T.d_l_alike ["_law_first", "_law_second", "_law_count"] sp_alike := by
  refine T.F_l_alike.ok sc_l_alike (fun vs H Q E h => ?_) (fun cdv A outer s H vs Q E hr h => ?_)
  · obtain ⟨a, b, c, R, G, R', G', rfl, _⟩ := h
    rfl
  · obtain ⟨p1, p2, c, R, G, R', G', rfl, h1, h2, W, W', hl, hl', hc, q⟩ := h
    refine ⟨_, PSs.nox (pss_cons (ps_set (i := 3) sc_l_alike.nd rfl (Or.inl rfl) pe_dnewT)
    (pss_cons (ps_dput (hu_of hr) (pv 3) (pe_tup (pa_cons pe_int (pa_cons pe_int pa_nil))) pe_bl rfl)
    (pss_cons (ps_set (i := 4) sc_l_alike.nd rfl (Or.inl rfl) (pe_lst (pa_cons (pe_tup (pa_cons pe_int (pa_cons pe_int pa_nil))) pa_nil)))
    (pss_cons (ps_for PassesOwn.never rfl (pi_range1 rfl T.n_range (pa_cons (pe_op op_add (pe_op op_add (pe_op op_add (pe_op op_mul (pe_callB (lenK K) (by rfl) T.n_len PySem.boot_len (pa_cons (pe_ix (ixL K) (pv 0) pe_int (fun _ _ => rfl)) pa_nil)) (pe_callB (lenK K) (by rfl) T.n_len PySem.boot_len (pa_cons (pe_ix (ixL K) (pv 1) pe_int (fun _ _ => rfl)) pa_nil))) (pe_callB (lenK K) (by rfl) T.n_len PySem.boot_len (pa_cons (pe_ix (ixL K) (pv 0) pe_int (fun _ _ => rfl)) pa_nil))) (pe_callB (lenK K) (by rfl) T.n_len PySem.boot_len (pa_cons (pe_ix (ixL K) (pv 1) pe_int (fun _ _ => rfl)) pa_nil))) pe_int) pa_nil)) (pg_name (i := 5) sc_l_alike.nd rfl (Or.inl rfl)) (pss_cons (ps_if (pt_cmpR op_ge (pv 5) (pe_callB (lenK K) (by rfl) T.n_len PySem.boot_len (pa_cons (pv 4) pa_nil)) (nomark _)) (pss_one ps_break) pss_nil)
      (pss_cons (ps_asg (pe_ix (ixL K) (pv 4) (pv 5) (fun _ _ => rfl)) (tupG K rfl (pgs_cons (pg_name (i := 6) sc_l_alike.nd rfl (Or.inl rfl)) (pgs_cons (pg_name (i := 7) sc_l_alike.nd rfl (Or.inl rfl)) pgs_nil))))
      (pss_cons (ps_if (pt_cmpR op_ne (pe_and (pe_cmpR op_ge (pv 6) pe_int (nomark _)) (pe_one (pe_ix (ixL K) (pe_ix (ixL K) (pv 0) pe_int (fun _ _ => rfl)) (pv 6) (fun _ _ => rfl)))) (pe_and (pe_cmpR op_ge (pv 7) pe_int (nomark _)) (pe_one (pe_ix (ixL K) (pe_ix (ixL K) (pv 1) pe_int (fun _ _ => rfl)) (pv 7) (fun _ _ => rfl)))) (nomark _)) (pss_one (ps_ret pe_bl)) pss_nil)
      (pss_one (ps_for PassesOwn.never rfl (pi_range1 rfl T.n_range (pa_cons (pv 2) pa_nil)) (pg_name (i := 8) sc_l_alike.nd rfl (Or.inl rfl)) (pss_cons (ps_set (i := 9) sc_l_alike.nd rfl (Or.inl rfl) (pe_ifExp (pt_cmpR op_ge (pv 6) pe_int (nomark _)) (pe_ix (ixL K) (pe_ix (ixL K) (pe_ix (ixL K) (pv 0) pe_int (fun _ _ => rfl)) (pv 6) (fun _ _ => rfl)) (pv 8) (fun _ _ => rfl)) (pe_un un_neg pe_int)))
        (pss_cons (ps_set (i := 10) sc_l_alike.nd rfl (Or.inl rfl) (pe_ifExp (pt_cmpR op_ge (pv 7) pe_int (nomark _)) (pe_ix (ixL K) (pe_ix (ixL K) (pe_ix (ixL K) (pv 1) pe_int (fun _ _ => rfl)) (pv 7) (fun _ _ => rfl)) (pv 8) (fun _ _ => rfl)) (pe_un un_neg pe_int)))
        (pss_one (ps_if (pt_cmp (pc_dnotin (hu_of hr) (pe_tup (pa_cons (pv 9) (pa_cons (pv 10) pa_nil))) (pv 3))) (pss_cons (ps_dput (hu_of hr) (pv 3) (pe_tup (pa_cons (pv 9) (pa_cons (pv 10) pa_nil))) pe_bl rfl)
          (pss_one (ps_expr (bmK K PySem.F.plainAttrs_list PySem.F.slot_list_append PySem.F.type_list_append mt_append (pv 4) (pa_cons (pe_tup (pa_cons (pv 9) (pa_cons (pv 10) pa_nil))) pa_nil))))) pss_nil))))))))))
    (pss_one (ps_ret pe_bl)))))), ?_⟩
    intro d nd
    have sA : Same H (upd H d (.dT [])) := same_new nd
    refine ⟨_, rfl, (by show 2 ≤ sizeLine; decide), fun t0 nt0 => ⟨d, _, rfl, DPut.t (k := kp (0, 0)) (same_new nt0 _ _ upd_same) upd_same (by show 0 < sizeLine; decide), ?_⟩⟩
    refine ⟨(by show 2 ≤ sizeLine; decide), fun t1 nt1 => ⟨(by show 1 ≤ sizeLine; decide), fun ql nq => ?_⟩⟩
    have sB : Same H (upd (upd (upd (upd (upd H d (.dT [])) t0 (.tup [.int 0, .int 0])) d (.dT (putK [] (kp (0, 0)) (.bl true)))) t1 (.tup [.int 0, .int 0])) ql (.lst [.ref t1])) :=
      ((same_mut (sA.trans (same_new nt0)) nd).trans (same_new nt1)).trans (same_new nq)
    have nql : H ql = none := ((same_mut (sA.trans (same_new nt0)) nd).trans (same_new nt1)).free nq
    have hd0 : (upd (upd (upd (upd (upd H d (.dT [])) t0 (.tup [.int 0, .int 0])) d (.dT (putK [] (kp (0, 0)) (.bl true)))) t1 (.tup [.int 0, .int 0])) ql (.lst [.ref t1])) d = some (.dT (met [(0, 0)])) := same_new nq _ _ (same_new nt1 _ _ upd_same)
    have ht1 : (upd (upd (upd (upd (upd H d (.dT [])) t0 (.tup [.int 0, .int 0])) d (.dT (putK [] (kp (0, 0)) (.bl true)))) t1 (.tup [.int 0, .int 0])) ql (.lst [.ref t1])) t1 = some (.tup [.int 0, .int 0]) := same_new nq _ _ upd_same
    have hq0 := upd_same (H := (upd (upd (upd (upd H d (.dT [])) t0 (.tup [.int 0, .int 0])) d (.dT (putK [] (kp (0, 0)) (.bl true)))) t1 (.tup [.int 0, .int 0]))) (a := ql) (o := .lst [.ref t1])
    generalize upd (upd (upd (upd (upd H d (.dT [])) t0 (.tup [.int 0, .int 0])) d (.dT (putK [] (kp (0, 0)) (.bl true)))) t1 (.tup [.int 0, .int 0])) ql (.lst [.ref t1]) = HB at sB hd0 ht1 hq0
    obtain ⟨t, r, hp1, ⟨as, ha, hR⟩, hr1⟩ := h1.same sB
    obtain ⟨t', r', hp2, ⟨as', ha', hR'⟩, hr2⟩ := h2.same sB
    have e1 : ((as.map V.ref).length : Int) = (R.length : Int) := by rw [List.length_map, Paired.length hR]
    have e2 : ((as'.map V.ref).length : Int) = (R'.length : Int) := by rw [List.length_map, Paired.length hR']
    have en : ((as.map V.ref).length : Int) * ((as'.map V.ref).length : Int) + ((as.map V.ref).length : Int) + ((as'.map V.ref).length : Int) + 2 = ((R.length * R'.length + R.length + R'.length + 2 : Nat) : Int) := by
      rw [e1, e2]; push_cast; rfl
    have hbig : R.length * R'.length ≤ 100 * 100 := Nat.mul_le_mul hl hl'
    have hsz : -(2 ^ 64) < ((as.map V.ref).length : Int) ∧ ((as.map V.ref).length : Int) < 2 ^ 64 := by rw [e1]; omega
    refine ⟨_, rfl, p1, _, _, _, rfl, rfl, SqL.of hp1, at2_0, t, _, rfl, .inl (SqL.of ha), _, rfl, p2, _, _, _, rfl, rfl, SqL.of hp2, at2_0, t', _, rfl, .inl (SqL.of ha'), _, _, rfl, rfl, .inl hsz, ?_⟩
    refine ⟨_, rfl, p1, _, _, _, rfl, rfl, SqL.of hp1, at2_0, t, _, rfl, .inl (SqL.of ha), _, _, rfl, rfl, _, rfl, p2, _, _, _, rfl, rfl, SqL.of hp2, at2_0, t', _, rfl, .inl (SqL.of ha'), _, _, rfl, rfl, _, _, rfl, rfl, ((R.length * R'.length + R.length + R'.length + 2 : Nat) : Int), congrArg (fun z => [V.int z]) en, by omega, by omega, ?_⟩
    refine for_range (n := R.length * R'.length + R.length + R'.length + 2) (fun k σ H' => ∃ (Qs : List (Int × Int)) (ts : List Addr) (y5 y6 y7 y8 y9 y10 : Option V), σ = [some (.ref p1), some (.ref p2), some (.int (c : Nat)), some (.ref d), some (.ref ql), y5, y6, y7, y8, y9, y10] ∧ Same H H' ∧ H' d = some (.dT (met Qs)) ∧ H' ql = some (rL ts) ∧ Paired (PrAt H') ts Qs ∧ AInv R G R' G' c k Qs) ?_ ?_ ?_
    · refine ⟨[(0, 0)], [t1], none, none, none, none, none, none, rfl, sB, hd0, hq0, .cons ht1 .nil, ⟨by simp, fun p hp => ?_, by simp, fun hL p hp w => ?_, fun i p hi => by omega, Nat.zero_le _⟩⟩
      · have : p = (0, 0) := by simpa using hp
        subst this
        have := W.pos
        have := W'.pos
        exact ⟨by show (-1 : Int) ≤ 0 ∧ (0 : Int) < _; omega, by show (-1 : Int) ≤ 0 ∧ (0 : Int) < _; omega⟩
      · have : p = (0, 0) := by simpa using hp
        subst this
        rw [langO_zero, langO_zero, hL]
    · rintro k σ H1 hk ⟨Qs, ts, y5, y6, y7, y8, y9, y10, rfl, s1, hd, hq, hts, I⟩
      have htl : ((ts.map V.ref).length : Int) = (Qs.length : Int) := by rw [List.length_map, Paired.length hts]
      refine ⟨_, rfl, _, rfl, ql, _, rfl, .inl (SqL.of hq), _, _, rfl, rfl, _, rfl, ite2 (fun h0 => ?_) (fun h0 => ?_)⟩
      · have h0 := of_decide_eq_true h0
        exact q H1 true s1 ⟨fun _ => I.all W W' (by omega), fun _ => rfl⟩
      have h0' : ¬ ((ts.map V.ref).length : Int) ≤ 0 + (k : Int) := fun z => h0 (decide_eq_true z)
      have hkl : k < Qs.length := by omega
      obtain ⟨tk, htk, hpk⟩ := paired_get' hts (List.getElem?_eq_getElem hkl)
      generalize hpe : Qs[k] = p at hpk
      have hpm : p ∈ Qs := by rw [← hpe]; exact List.getElem_mem hkl
      have hb := I.bd p hpm
      refine ⟨_, rfl, _, rfl, ql, _, _, _, rfl, rfl, SqL.of hq, atI_map' (by omega) htk, tk, _, rfl, SqT.of hpk, rfl, _, _, rfl, _, _, rfl, rfl, ?_⟩
      refine rd_good rfl rfl (h1.same s1) hb.1.2 W.len (rd_good rfl rfl (h2.same s1) hb.2.2 W'.len ⟨rfl, _, rfl, ite2 (fun h3 => ?_) (fun h3 => ?_)⟩)
      · refine q H1 false s1 ⟨fun z => Bool.noConfusion z, fun hL => ?_⟩
        have := I.lang hL p hpm []
        rw [langO_nil, langO_nil] at this
        rw [this] at h3
        rw [decide_eq_true rfl] at h3
        cases h3
      have hg : gdO G p.1 = gdO G' p.2 := by
        by_cases e : gdO G p.1 = gdO G' p.2
        · exact e
        · exact absurd (show (!decide (V.bl (gdO G p.1) = V.bl (gdO G' p.2))) = true by rw [decide_eq_false (fun z => e (V.bl.inj z))]; rfl) h3
      refine ⟨_, rfl, (c : Int), rfl, by omega, by omega, ?_⟩
      refine for_range (n := c) (fun a σ H' => ∃ (Qs : List (Int × Int)) (ts : List Addr) (y8 y9 y10 : Option V), σ = [some (.ref p1), some (.ref p2), some (.int (c : Nat)), some (.ref d), some (.ref ql), some (.int (0 + (k : Int))), some (.int p.1), some (.int p.2), y8, y9, y10] ∧ Same H H' ∧ H' d = some (.dT (met Qs)) ∧ H' ql = some (rL ts) ∧ Paired (PrAt H') ts Qs ∧ AInv R G R' G' c k Qs ∧ Qs[k]? = some p ∧ ∀ a', a' < a → (stO R p.1 a', stO R' p.2 a') ∈ Qs) ?_ ?_ ?_
      · exact ⟨Qs, ts, _, _, _, rfl, s1, hd, hq, hts, I, by rw [List.getElem?_eq_getElem hkl, hpe], fun a h => by omega⟩
      · rintro a σ H2 ha2 ⟨Qs, ts, y8, y9, y10, rfl, s2, hd, hq, hts, I, hpk, hmem⟩
        have hkl : k < Qs.length := (List.getElem?_eq_some_iff.mp hpk).1
        have hpm : p ∈ Qs := List.mem_of_getElem? hpk
        have hQl := I.few
        refine rd_step (a := a) rfl rfl rfl (h1.same s2) W hb.1.2 ha2 (rd_step (a := a) rfl rfl rfl (h2.same s2) W' hb.2.2 ha2 ?_)
        refine ⟨_, rfl, _, rfl, (by show 2 ≤ sizeLine; decide), fun t5 nt5 => ⟨_, rfl, d, _, rfl, DGet.t (k := kp (stO R p.1 a, stO R' p.2 a)) (same_new nt5 _ _ hd) upd_same, _, rfl, ?_⟩⟩
        have s5 : Same H2 (upd H2 t5 (.tup [.int (stO R p.1 a), .int (stO R' p.2 a)])) := same_new nt5
        rw [met_val]
        by_cases hin : (stO R p.1 a, stO R' p.2 a) ∈ Qs
        · rw [if_pos hin]
          refine iteF ⟨Qs, ts, _, _, _, rfl, s2.trans s5, s5 _ _ hd, s5 _ _ hq, Paired.mapP hts fun x y e => s5 _ _ e, I, hpk, fun a' ha' => ?_⟩
          by_cases e : a' < a
          · exact hmem a' e
          · have : a' = a := by omega
            subst this; exact hin
        · rw [if_neg hin]
          refine iteT ?_
          refine ⟨_, rfl, _, rfl, _, rfl, (by show 2 ≤ sizeLine; decide), fun t6 nt6 => ⟨d, _, rfl, DPut.t (k := kp (stO R p.1 a, stO R' p.2 a)) (same_new nt6 _ _ (s5 _ _ hd)) upd_same (szLt (by unfold met; rw [List.length_map]; omega)), ?_⟩⟩
          have s6 := s5.trans (same_new (o := .tup [.int (stO R p.1 a), .int (stO R' p.2 a)]) nt6)
          generalize upd (upd H2 t5 (.tup [.int (stO R p.1 a), .int (stO R' p.2 a)])) t6 (.tup [.int (stO R p.1 a), .int (stO R' p.2 a)]) = H6 at s6
          have qd : ql ≠ d := ne_of hq hd (fun z => by cases z)
          have hq7 : upd H6 d (.dT (putK (met Qs) (kp (stO R p.1 a, stO R' p.2 a)) (.bl true))) ql = some (rL ts) := upd_at qd (s6 _ _ hq)
          refine ⟨_, rfl, .inl ⟨rfl, _, SqL.of hq7⟩, _, rfl, _, rfl, (by show 2 ≤ sizeLine; decide), fun t7 nt7 => ⟨ql, _, _, rfl, rfl, same_new nt7 _ _ hq7, szLt (by rw [List.length_map, Paired.length hts]; omega), ?_⟩⟩
          rw [met_put hin] at *
          have keep : ∀ x y, PrAt H2 x y → PrAt (upd (upd (upd H6 d (.dT (met (Qs ++ [(stO R p.1 a, stO R' p.2 a)])))) t7 (.tup [.int (stO R p.1 a), .int (stO R' p.2 a)])) ql (.lst (ts.map V.ref ++ [.ref t7]))) x y := fun x y e => by
            have n1 : x ≠ d := ne_of (s6 _ _ e) (s6 _ _ hd) (fun z => by cases z)
            have n2 : x ≠ ql := ne_of (s6 _ _ e) (s6 _ _ hq) (fun z => by cases z)
            exact upd_at n2 (same_new nt7 _ _ (upd_at n1 (s6 _ _ e)))
          have n7 : t7 ≠ ql := (ne_of_none hq7 nt7).symm
          refine ⟨Qs ++ [(stO R p.1 a, stO R' p.2 a)], ts ++ [t7], _, _, _, rfl, same_mut ((same_mut (s2.trans s6) nd).trans (same_new nt7)) nql, upd_at (Ne.symm qd) (same_new nt7 _ _ upd_same), ?_, ?_, I.push W W' hpm hin, ?_, fun a' ha' => ?_⟩
          · rw [upd_same, snocR]
          · exact Paired.snoc (Paired.mapP hts keep) (upd_at n7 upd_same)
          · rw [List.getElem?_append_left hkl, hpk]
          · by_cases e : a' < a
            · exact List.mem_append_left _ (hmem a' e)
            · have : a' = a := by omega
              subst this; simp
      · rintro σ H2 ⟨Qs, ts, y8, y9, y10, rfl, s2, hd, hq, hts, I, hpk, hmem⟩
        refine ⟨Qs, ts, _, _, _, _, _, _, rfl, s2, hd, hq, hts, ⟨I.nd, I.bd, I.zero, I.lang, fun i p' hi hp' => ?_, by have := (List.getElem?_eq_some_iff.mp hpk).1; omega⟩⟩
        by_cases e : i < k
        · exact I.done i p' e hp'
        · have : i = k := by omega
          subst this
          rw [hpk] at hp'
          have := Option.some.inj hp'
          subst this
          exact ⟨hg, hmem⟩
    · rintro σ H1 ⟨Qs, ts, y5, y6, y7, y8, y9, y10, rfl, s1, hd, hq, hts, I⟩
      have h3 := I.few
      have h4 := I.kle
      omega
end
end Gal
end
section
set_option Elab.async false
set_option linter.all false
set_option maxRecDepth 100000
set_option maxHeartbeats 4000000
namespace Gal
open PySem PySem.Spec PyProof.Rows L2
section
variable {P : Program} {w : World} {K : PySem.W.Frag} {mg : Str → Option Value} {base : Heap}
/-! ### a twin -/
/-- a table apart from the purse -/
def TabA (p : Addr) (H : Hp) (q : Addr) (R : List (List Int)) (G : List Bool) : Prop := ∃ t r as, H q = some (.lst [.ref t, .ref r]) ∧ H t = some (rL as) ∧ Rws H as R ∧ H r = some (bL G) ∧ q ≠ p ∧ t ≠ p ∧ r ≠ p ∧ p ∉ as
theorem TabA.sb {p q : Addr} {H H' : Hp} {R : List (List Int)} {G : List Bool} (s : Sb p H H') (h : TabA p H q R G) : TabA p H' q R G := by
  obtain ⟨t, r, as, h1, h2, h3, h4, h5, h6, h7, h8⟩ := h
  exact ⟨t, r, as, s _ _ h1 h5, s _ _ h2 h6, h3.but s fun b hb z => h8 (z ▸ hb), s _ _ h4 h7, h5, h6, h7, h8⟩
theorem TabA.at_ {p q : Addr} {H : Hp} {R : List (List Int)} {G : List Bool} (h : TabA p H q R G) : TabAt H q R G := by
  obtain ⟨t, r, as, h1, h2, h3, h4, _⟩ := h
  exact ⟨t, r, h1, ⟨as, h2, h3⟩, h4⟩
theorem rws_none {H : Hp} {as : List Addr} {R : List (List Int)} {b : Addr} (h : Rws H as R) (n : H b = none) : b ∉ as := fun z => by
  obtain ⟨j, hj, ej⟩ := List.getElem_of_mem z
  obtain ⟨r', _, hr'⟩ := paired_get h (List.getElem?_eq_getElem hj)
  rw [ej] at hr'
  rw [show H b = some (iL r') from hr'] at n
  cases n
theorem TabAt.apart {p q : Addr} {H : Hp} {R : List (List Int)} {G : List Bool} {o : HO} (h : TabAt H q R G) (n : H p = none) : TabA p (upd H p o) q R G := by
  obtain ⟨t, r, h1, ⟨as, h2, h3⟩, h4⟩ := h
  have s := same_new (o := o) n
  exact ⟨t, r, as, s _ _ h1, s _ _ h2, h3.same s, s _ _ h4, ne_of_none h1 n, ne_of_none h2 n, ne_of_none h4 n, rws_none h3 n⟩
theorem paired_ext {α β : Type} {F : α → β → Prop} : ∀ {l : List α} {m : List β}, l.length = m.length → (∀ (i : Nat) (a : α) (x : β), l[i]? = some a → m[i]? = some x → F a x) → Paired F l m
  | [], [], _, _ => .nil
  | [], _ :: _, h, _ => by simp at h
  | _ :: _, [], h, _ => by simp at h
  | a :: l, x :: m, h, f => .cons (f 0 a x rfl rfl) (paired_ext (by simpa using h) fun i a x h1 h2 => f (i + 1) a x (by simpa using h1) (by simpa using h2))
theorem rws_set {H : Hp} {as : List Addr} {R : List (List Int)} {b : Addr} {j : Nat} {r : List Int} (h : Rws H as R) (nd : as.Nodup) (e : as[j]? = some b) : Rws (upd H b (iL r)) as (R.set j r) := by
  have hj := (List.getElem?_eq_some_iff.mp e).1
  have hl := Paired.length h
  refine paired_ext (by rw [List.length_set, hl]) fun i a x hi hx => ?_
  rw [List.getElem?_set] at hx
  by_cases ij : j = i
  · subst ij
    rw [if_pos rfl, if_pos (by omega)] at hx
    cases hx
    rw [e] at hi
    cases hi
    exact upd_same
  · rw [if_neg ij] at hx
    obtain ⟨y, hy, hr⟩ := paired_get h hi
    rw [hx] at hy
    cases hy
    have : a ≠ b := fun z => by
      subst z
      have h1 := (List.getElem?_eq_some_iff.mp e)
      have h2 := (List.getElem?_eq_some_iff.mp hi)
      exact ij ((List.getElem_inj nd).mp (h1.2.trans h2.2.symm))
    exact upd_at this hr
/-- the state while a twin is made -/
structure TwS (p : Addr) (H : Hp) (l : Addr) (as : List Addr) (g : Addr) (G2 : List Bool) (c n cp : Nat) (R : List (List Int)) (R' : List (List Int)) (H' : Hp) : Prop where
  ds : DS p H l as R' H'
  nd : as.Nodup
  gd : H' g = some (bL G2)
  gp : g ≠ p
  ga : g ∉ as
  len : R'.length = n + 3
  row : ∀ s, s < n + 3 → TwRow c n cp R s (row R' s)
theorem TwS.sb {p l g : Addr} {H H1 H2 : Hp} {as : List Addr} {G2 : List Bool} {c n cp : Nat} {R R' : List (List Int)} (hp : PuAt H p) (hl : H l = none) (s : Sb p H1 H2) (pu : PuAt H2 p) (h : TwS p H l as g G2 c n cp R R' H1) : TwS p H l as g G2 c n cp R R' H2 :=
  ⟨⟨h.ds.sb.trans s, pu, s _ _ h.ds.at_ (hp.ne hl), h.ds.rws.but s fun b hb => hp.ne (h.ds.new b hb).1, h.ds.new⟩, h.nd, s _ _ h.gd h.gp, h.gp, h.ga, h.len, h.row⟩
theorem TwS.set {p l g b : Addr} {H H1 : Hp} {as : List Addr} {G2 : List Bool} {c n cp : Nat} {R R' : List (List Int)} (hp : PuAt H p) (hcp : cp < n) {j k : Nat} {y : Int} {r : List Int} (hb : as[j]? = some b) (hr : R'[j]? = some r)
    (e : (r[k]? = some (cp : Int) ∧ y = n) ∨ (r[k]? = some (-1) ∧ y = n + 1)) (h : TwS p H l as g G2 c n cp R R' H1) : TwS p H l as g G2 c n cp R (R'.set j (r.set k y)) (upd H1 b (iL (r.set k y))) := by
  have hbm : b ∈ as := List.mem_of_getElem? hb
  have hbn := h.ds.new b hbm
  have hjl := (List.getElem?_eq_some_iff.mp hr).1
  have hl := h.len
  refine ⟨⟨h.ds.sb.mut hbn.1, ?_, upd_at (Ne.symm hbn.2) h.ds.at_, rws_set h.ds.rws h.nd hb, h.ds.new⟩, h.nd, upd_at (fun z => h.ga (z ▸ hbm)) h.gd, h.gp, h.ga, by rw [List.length_set]; exact h.len, fun s hs => ?_⟩
  · obtain ⟨a, b', c', e⟩ := h.ds.pur
    exact ⟨a, b', c', upd_at (Ne.symm (hp.ne hbn.1)) e⟩
  · by_cases ij : s = j
    · subst ij
      have e1 : Gal.row (R'.set s (r.set k y)) s = r.set k y := row_get (by rw [List.getElem?_set_self hjl])
      rw [e1]
      have := h.row s hs
      rw [row_get hr] at this
      exact this.mod hcp e
    · have e1 : Gal.row (R'.set j (r.set k y)) s = Gal.row R' s := by
        unfold Gal.row
        rw [List.getD_eq_getElem?_getD, List.getD_eq_getElem?_getD, List.getElem?_set_ne (fun z => ij z.symm)]
      rw [e1]
      exact h.row s hs
/-- if row[k] == v and draw() == 1: row[k] = y -/
theorem rd_mod {p l g b : Addr} {H H1 : Hp} {as : List Addr} {G2 : List Bool} {c n cp : Nat} {R R' : List (List Int)} (hp : PuAt H p) (hl : H l = none) (hcp : cp < n) {j k : Nat} {v y : Int} {σ : L2.St} {D : Ends} {tc tv ty : TE} (hb : as[j]? = some b)
    (h8 : σ[8]? = some (some (.ref b))) (h5 : σ[5]? = some (some (.int (0 + (k : Int))))) (hk : k < c) (e : (v = cp ∧ y = n) ∨ (v = -1 ∧ y = n + 1))
    (hc : ∀ H' Q, PuAt H' p → (∀ d a b c : Int, 0 ≤ d → d < 2 → Q (.int d) (upd H' p (pu a b c))) → tc σ H' Q) (hv : ∀ H' Q, Q (.int v) H' → tv σ H' Q) (hy : ∀ H' Q, Q (.int y) H' → ty σ H' Q)
    (h : TwS p H l as g G2 c n cp R R' H1) (nx : ∀ R' H', TwS p H l as g G2 c n cp R R' H' → D.nx σ H') :
    tIfS (tAnd (tTest (tOp rEq (tOp (rIxL K) (tVar 8) (tVar 5)) tv)) (tTest (tOp rEq tc (tC (.int 1))))) (tAsg ty (gSub (tVar 8) (tVar 5) rSetL)) tNext D σ H1 := by
  obtain ⟨r, hr, hrb⟩ := paired_get h.ds.rws hb
  have hjn : j < n + 3 := by rw [← h.len]; exact (List.getElem?_eq_some_iff.mp hr).1
  have hrl : r.length = c := by
    have := (h.row j hjn).len
    rw [row_get hr] at this
    exact this
  have hrk : r[k]? = some (r.getD k 0) := by rw [List.getD_eq_getElem?_getD, List.getElem?_eq_getElem (by omega)]; rfl
  have hbn := h.ds.new b (List.mem_of_getElem? hb)
  refine ⟨_, h8, _, h5, b, _, _, _, rfl, rfl, SqL.of hrb, atI_map' (by omega) hrk, hv _ _ ⟨rfl, _, rfl, ite2 (fun h1 => ?_) (fun h1 => ?_)⟩⟩
  · have hv1 : r.getD k 0 = v := V.int.inj (of_decide_eq_true h1)
    refine hc _ _ h.ds.pur fun d a' b' c' d0 d1 => ⟨rfl, _, rfl, ite2 (fun h2 => ?_) (fun h2 => ?_)⟩
    · have h' := h.sb hp hl (Sb.set (o := pu a' b' c') Sb.refl) PuAt.to
      have hrb' : upd H1 p (pu a' b' c') b = some (iL r) := upd_at (hp.ne hbn.1) hrb
      refine hy _ _ ⟨_, h8, _, h5, b, _, _, k, rfl, rfl, hrb', ixN_of (by omega) (by rw [List.length_map]; omega), ?_⟩
      rw [← List.map_set]
      refine nx _ _ (h'.set hp hcp hb hr ?_)
      rw [hrk, hv1]
      rcases e with ⟨e1, e2⟩ | ⟨e1, e2⟩
      · exact .inl ⟨congrArg some e1, e2⟩
      · exact .inr ⟨congrArg some e1, e2⟩
    · exact nx _ _ (h.sb hp hl (Sb.set Sb.refl) PuAt.to)
  · exact iteF (nx _ _ h)
abbrev N_l_twin : List Str := ["_law_purse_here", "_law_table_here", "_law_count", "_law_many", "_law_copied_here", "_law_k", "_law_rows", "_law_goods", "_law_row", "_law_order_here", "_law_steps", "_law_state", "_law_step"]
theorem sc_l_twin : FnScope N_l_twin ["_law_purse_here", "_law_table_here", "_law_count"] (defScope s_l_twin) := ⟨rfl, rfl, rfl, by decide +kernel, rfl, by decide +kernel, by decide +kernel⟩
theorem b_l_twin (T : TX K mg) : Binds K T.d_l_twin ["_law_purse_here", "_law_table_here", "_law_count"] [] := T.F_l_twin.bindsN fun _ _ _ _ _ _ us hl => match us, hl with | [_, _, _], _ => rfl
def sp_twin : Sp := fun vs H Q _ => ∃ (p q : Addr) (c : Nat) (R : List (List Int)) (G : List Bool), vs = [.ref p, .ref q, .int (c : Nat)] ∧ PuAt H p ∧ TabA p H q R G ∧ WF c R G ∧ 1 ≤ c ∧ c ≤ 9 ∧ R.length ≤ 40 ∧
  ∀ (z : Addr) (H' : Hp) (R' : List (List Int)) (G' : List Bool), Sb p H H' → PuAt H' p → TabAt H' z R' G' → WF c R' G' → R'.length = R.length + 3 → L_ R' G' 0 = L_ R G 0 → Q (.ref z) H'
theorem twr_diag {cp n : Nat} : ∀ {r : List Int}, (∀ x ∈ r, -1 ≤ x ∧ x < (n : Int)) → Paired (TwR cp n) r r
  | [], _ => .nil
  | x :: r, h => .cons (.inl ⟨rfl, h x List.mem_cons_self⟩) (twr_diag fun y hy => h y (List.mem_cons_of_mem _ hy))
theorem twr_dead {cp n : Nat} : ∀ c : Nat, Paired (TwR cp n) (List.replicate c (-1)) (List.replicate c ((n : Int) + 1))
  | 0 => .nil
  | c + 1 => .cons (.inr (.inr ⟨rfl, rfl⟩)) (twr_dead c)
theorem twrow_init {c cp : Nat} {R : List (List Int)} {G : List Bool} {r : List Int} (W : WF c R G) (hcp : cp < R.length) (hl : r.length = c) (hr : ∀ x ∈ r, 0 ≤ x ∧ x < (R.length : Int) + 1) :
    ∀ s, s < R.length + 3 → TwRow c R.length cp R s (row ((R ++ [row R cp, List.replicate c ((R.length : Int) + 1)]) ++ [r]) s) := fun s hs => by
  by_cases h1 : s < R.length
  · have e : row ((R ++ [row R cp, List.replicate c ((R.length : Int) + 1)]) ++ [r]) s = row R s := by
      refine row_get ?_
      rw [List.append_assoc, List.getElem?_append_left h1, row_mem h1]
    rw [e]
    obtain ⟨w1, w2⟩ := wf_row W h1
    exact ⟨w1, fun x hx => by have := w2 x hx; omega, fun _ => twr_diag w2, fun z => by omega, fun z => by omega⟩
  by_cases h2 : s = R.length
  · have e : row ((R ++ [row R cp, List.replicate c ((R.length : Int) + 1)]) ++ [r]) s = row R cp := by
      refine row_get ?_
      rw [List.append_assoc, List.getElem?_append_right (by omega), h2, Nat.sub_self]; rfl
    rw [e]
    obtain ⟨w1, w2⟩ := wf_row W hcp
    exact ⟨w1, fun x hx => by have := w2 x hx; omega, fun z => by omega, fun _ => twr_diag w2, fun z => by omega⟩
  by_cases h3 : s = R.length + 1
  · have e : row ((R ++ [row R cp, List.replicate c ((R.length : Int) + 1)]) ++ [r]) s = List.replicate c ((R.length : Int) + 1) := by
      refine row_get ?_
      rw [List.append_assoc, List.getElem?_append_right (by omega), h3, show R.length + 1 - R.length = 1 by omega]; rfl
    rw [e]
    refine ⟨List.length_replicate, fun x hx => ?_, fun z => by omega, fun z => by omega, fun _ => twr_dead c⟩
    have := List.eq_of_mem_replicate hx
    omega
  · have h4 : s = R.length + 2 := by omega
    have e : row ((R ++ [row R cp, List.replicate c ((R.length : Int) + 1)]) ++ [r]) s = r := by
      refine row_get ?_
      rw [List.append_assoc, List.getElem?_append_right (by omega), h4, show R.length + 2 - R.length = 2 by omega]; rfl
    rw [e]
    exact ⟨hl, fun x hx => by have := hr x hx; omega, fun z => by omega, fun z => by omega, fun z => by omega⟩
theorem rL_ne {bs : List Addr} {b : Addr} {r : List Int} (h : b ∈ bs) : rL bs ≠ iL r := fun e => by
  injection e with e
  cases bs with
  | nil => cases h
  | cons x bs =>
    cases r with
    | nil => cases e
    | cons y r =>
      injection e with e _
      cases e
theorem idx_none {os : List Nat} {x m y : Nat} (h : m < idx x os) (e : os[m]? = some y) : y ≠ x := by
  induction os generalizing m with
  | nil => cases e
  | cons a os ih =>
    unfold idx at h
    by_cases ha : a = x
    · rw [if_pos ha] at h; omega
    · rw [if_neg ha] at h
      cases m with
      | zero => simp at e; subst e; exact ha
      | succ m => exact ih (m := m) (by omega) (by simpa using e)
theorem ok_l_twin (T : TX K mg) : FnOk P w K mg base CX0 3 (He.fAd K ("_law_twin", none)) T.d_l_twin ["_law_purse_here", "_law_table_here", "_law_count"] sp_twin := by
  refine T.F_l_twin.ok sc_l_twin (fun vs H Q E h => ?_) (fun cdv A outer s H vs Q E hr h => ?_)
  · obtain ⟨p, q, c, R, G, rfl, _⟩ := h
    rfl
  · obtain ⟨p, q, c, R, G, rfl, hp, ⟨t, r, as, hq, ht, hR, hgr, np1, np2, np3, np4⟩, W, hc1, hc2, hl, qq⟩ := h
    refine ⟨_, PSs.nox (pss_cons (ps_set (i := 3) sc_l_twin.nd rfl (Or.inr rfl) (pe_callB (lenK K) (by rfl) T.n_len PySem.boot_len (pa_cons (pe_ix (ixL K) (pv 1) pe_int (fun _ _ => rfl)) pa_nil)))
    (pss_cons (ps_set (i := 4) sc_l_twin.nd rfl (Or.inl rfl) (pe_call (ok_l_draw T) (hr.mono (by decide)) (by rfl) T.g_l_draw T.F_l_draw.kp (b_l_draw T) .nil pass0 (pa_cons (pv 0) (pa_cons (pv 3) pa_nil))))
    (pss_cons (ps_set (i := 6) sc_l_twin.nd rfl (Or.inl rfl) (pe_op op_cat (pe_call (ok_l_copied T) (hr.mono (by decide)) (by rfl) T.g_l_copied T.F_l_copied.kp (b_l_copied T) .nil pass0 (pa_cons (pe_ix (ixL K) (pv 1) pe_int (fun _ _ => rfl)) pa_nil)) (pe_lst (pa_cons (pe_callTy (lstK K) (by rfl) T.n_list bt_list (pa_cons (pe_ix (ixL K) (pe_ix (ixL K) (pv 1) pe_int (fun _ _ => rfl)) (pv 4) (fun _ _ => rfl)) pa_nil)) (pa_cons (pe_lc (own := [("_law_k", 5)]) (g := gName 5) (tt := tYes) rfl sc_l_twin.nd (pi_range1 rfl T.n_range (pa_cons (pv 2) pa_nil)) (blkOk_by (own := [("_law_k", 5)]) (N := N_l_twin) (sc := defScope s_l_twin) (by decide +kernel)) (fun _ _ _ _ _ => (pg_name (i := 5) sc_l_twin.nd rfl (Or.inl rfl))) (fun _ _ _ _ _ => pts_nil) (fun _ _ _ _ _ => (pe_op op_add (pv 3) pe_int))) pa_nil)))))
    (pss_cons (ps_expr (bmK K PySem.F.plainAttrs_list PySem.F.slot_list_append PySem.F.type_list_append mt_append (pv 6) (pa_cons (pe_lc (own := [("_law_k", 5)]) (g := gName 5) (tt := tYes) rfl sc_l_twin.nd (pi_range1 rfl T.n_range (pa_cons (pv 2) pa_nil)) (blkOk_by (own := [("_law_k", 5)]) (N := N_l_twin) (sc := defScope s_l_twin) (by decide +kernel)) (fun _ _ _ _ _ => (pg_name (i := 5) sc_l_twin.nd rfl (Or.inl rfl))) (fun _ _ _ _ _ => pts_nil) (fun _ _ _ _ _ => (pe_call (ok_l_draw T) (hr.mono (by decide)) (by rfl) T.g_l_draw T.F_l_draw.kp (b_l_draw T) .nil pass0 (pa_cons (pv 0) (pa_cons (pe_op op_add (pv 3) pe_int) pa_nil))))) pa_nil)))
    (pss_cons (ps_set (i := 7) sc_l_twin.nd rfl (Or.inr rfl) (pe_op op_cat (pe_ix (ixL K) (pv 1) pe_int (fun _ _ => rfl)) (pe_lst (pa_cons (pe_ix (ixL K) (pe_ix (ixL K) (pv 1) pe_int (fun _ _ => rfl)) (pv 4) (fun _ _ => rfl)) (pa_cons pe_bl (pa_cons pe_bl pa_nil))))))
    (pss_cons (ps_for PassesOwn.never rfl (pi_listK K (pv 6)) (pg_name (i := 8) sc_l_twin.nd rfl (Or.inl rfl)) (pss_one (ps_for PassesOwn.never rfl (pi_range1 rfl T.n_range (pa_cons (pv 2) pa_nil)) (pg_name (i := 5) sc_l_twin.nd rfl (Or.inl rfl)) (pss_cons (ps_if (PW.pt (pw_and (pt_cmpR op_eq (pe_ix (ixL K) (pv 8) (pv 5) (fun _ _ => rfl)) (pv 4) (nomark _)) (pw_and1 (pt_cmpR op_eq (pe_call (ok_l_draw T) (hr.mono (by decide)) (by rfl) T.g_l_draw T.F_l_draw.kp (b_l_draw T) .nil pass0 (pa_cons (pv 0) (pa_cons pe_int pa_nil))) pe_int (nomark _))))) (pss_one (ps_asg (pv 3) (pg_sub (pv 8) (pv 5) set_list))) pss_nil)
        (pss_one (ps_if (PW.pt (pw_and (pt_cmpR op_eq (pe_ix (ixL K) (pv 8) (pv 5) (fun _ _ => rfl)) (pe_un un_neg pe_int) (nomark _)) (pw_and1 (pt_cmpR op_eq (pe_call (ok_l_draw T) (hr.mono (by decide)) (by rfl) T.g_l_draw T.F_l_draw.kp (b_l_draw T) .nil pass0 (pa_cons (pv 0) (pa_cons pe_int pa_nil))) pe_int (nomark _))))) (pss_one (ps_asg (pe_op op_add (pv 3) pe_int) (pg_sub (pv 8) (pv 5) set_list))) pss_nil))))))
    (pss_cons (ps_set (i := 9) sc_l_twin.nd rfl (Or.inr rfl) (pe_call (ok_l_order T) (hr.mono (by decide)) (by rfl) T.g_l_order T.F_l_order.kp (b_l_order T) .nil pass0 (pa_cons (pv 0) (pa_cons (pe_op op_add (pv 3) pe_int) pa_nil))))
    (pss_cons (ps_set (i := 10) sc_l_twin.nd rfl (Or.inl rfl) (pe_lst pa_nil))
    (pss_cons (ps_for PassesOwn.never rfl (pi_listK K (pv 9)) (pg_name (i := 11) sc_l_twin.nd rfl (Or.inl rfl)) (pss_one (ps_expr (bmK K PySem.F.plainAttrs_list PySem.F.slot_list_append PySem.F.type_list_append mt_append (pv 10) (pa_cons (pe_lc (own := [("_law_step", 12)]) (g := gName 12) (tt := tYes) rfl sc_l_twin.nd (pi_listK K (pe_ix (ixL K) (pv 6) (pv 11) (fun _ _ => rfl))) (blkOk_by (own := [("_law_step", 12)]) (N := N_l_twin) (sc := defScope s_l_twin) (by decide +kernel)) (fun _ _ _ _ _ => (pg_name (i := 12) sc_l_twin.nd rfl (Or.inl rfl))) (fun _ _ _ _ _ => pts_nil) (fun _ _ _ _ _ => (pe_ifExp (pt_cmpR op_ge (pv 12) pe_int (nomark _)) (bmK K PySem.F.plainAttrs_list PySem.F.slot_list_index PySem.F.type_list_index (idxK K) (pv 9) (pa_cons (pv 12) pa_nil)) (pe_un un_neg pe_int)))) pa_nil)))))
    (pss_one (ps_ret (pe_lst (pa_cons (pv 10) (pa_cons (pe_lc (own := [("_law_state", 11)]) (g := gName 11) (tt := tYes) rfl sc_l_twin.nd (pi_listK K (pv 9)) (blkOk_by (own := [("_law_state", 11)]) (N := N_l_twin) (sc := defScope s_l_twin) (by decide +kernel)) (fun _ _ _ _ _ => (pg_name (i := 11) sc_l_twin.nd rfl (Or.inl rfl))) (fun _ _ _ _ _ => pts_nil) (fun _ _ _ _ _ => (pe_ix (ixL K) (pv 7) (pv 11) (fun _ _ => rfl)))) pa_nil)))))))))))))), ?_⟩
    have hlen : as.length = R.length := Paired.length hR
    have eas : ((as.map V.ref).length : Int) = (R.length : Int) := by rw [List.length_map, hlen]
    have hpos := W.pos
    have hgl := W.len
    refine ⟨_, rfl, q, _, _, _, rfl, rfl, SqL.of hq, at2_0, t, _, rfl, .inl (SqL.of ht), ?_⟩
    rw [eas]
    refine ⟨_, rfl, _, rfl, p, _, rfl, by omega, by omega, hp, fun d a b e d0 d1 => ?_⟩
    obtain ⟨cp, rfl, hcp⟩ := ex_lt d0 d1
    have hcp : cp < R.length := by omega
    have sb1 : Sb p H (upd H p (pu a b e)) := Sb.set Sb.refl
    have pu1 : PuAt (upd H p (pu a b e)) p := PuAt.to
    have T1 : TabA p (upd H p (pu a b e)) q R G := TabA.sb sb1 ⟨t, r, as, hq, ht, hR, hgr, np1, np2, np3, np4⟩
    have hq1 := sb1 _ _ hq np1
    have ht1 := sb1 _ _ ht np2
    have hr1 := sb1 _ _ hgr np3
    have hR1 := hR.but sb1 fun b hb z => np4 (z ▸ hb)
    generalize upd H p (pu a b e) = H1 at sb1 pu1 T1 hq1 ht1 hr1 hR1
    have fr : ∀ {H2 : Hp} {x : Addr}, Same H1 H2 → H2 x = none → H x = none := fun {H2 x} s h => Sb.free sb1 (by obtain ⟨a, b, c, e⟩ := pu1; exact ⟨_, e⟩) (s.free h)
    obtain ⟨bi, hbi, hri⟩ := paired_get' hR1 (row_mem hcp)
    refine ⟨_, rfl, q, _, _, _, rfl, rfl, SqL.of hq1, at2_0, t, R, rfl, ⟨as, ht1, hR1⟩, by omega, fun l0 H2 s2 N0 => ?_⟩
    obtain ⟨nl0, as0, hl0, hRw0, nd0, new0⟩ := N0
    refine ⟨_, rfl, q, _, _, _, rfl, rfl, SqL.of (s2 _ _ hq1), at2_0, _, rfl, t, _, _, _, rfl, rfl, SqL.of (s2 _ _ ht1), atI_map hbi, bi, _, rfl, .inl (SqL.of (s2 _ _ hri)), fun l1 n1 => ?_⟩
    have s3 : Same H2 (upd H2 l1 (iL (row R cp))) := same_new n1
    refine ⟨_, rfl, (c : Int), rfl, by omega, by omega, fun l2 n2 => ?_⟩
    refine lc_range (n := c) (fun i H' => H' = upd (upd H2 l1 (iL (row R cp))) l2 (iL (List.replicate i ((R.length : Int) + 1)))) rfl ?_ ?_
    · rintro i H' hi rfl
      refine ⟨rfl, _, rfl, _, _, rfl, rfl, _, upd_same, szLt (by rw [List.length_map, List.length_replicate]; omega), ?_⟩
      rw [upd_upd, snocI, ← List.replicate_succ']
    rintro H3 rfl
    refine ⟨(by show 2 ≤ sizeLine; decide), fun l3 n3 => ?_⟩
    have s4 : Same H2 (upd (upd H2 l1 (iL (row R cp))) l2 (iL (List.replicate c ((R.length : Int) + 1)))) := s3.trans (same_new n2)
    have s5 := s4.trans (same_new (o := .lst [.ref l1, .ref l2]) n3)
    refine ⟨l0, l3, as0.map V.ref, [V.ref l1, V.ref l2], rfl, rfl, s5 _ _ hl0, upd_same, szL (by rw [List.length_map, Paired.length hRw0]; show _ + 2 ≤ _; omega), fun l4 n4 => ?_⟩
    have e4 : (HO.lst (as0.map V.ref ++ [V.ref l1, V.ref l2])) = rL (as0 ++ [l1, l2]) := by
      show _ = HO.lst ((as0 ++ [l1, l2]).map V.ref)
      rw [List.map_append]; rfl
    rw [e4]
    have s6 := s5.trans (same_new (o := rL (as0 ++ [l1, l2])) n4)
    have nl1 : H l1 = none := fr s2 n1
    have nl2 : H l2 = none := fr (s2.trans s3) n2
    have nl4 : H l4 = none := fr (s2.trans s5) n4
    have hl14 : upd (upd (upd (upd H2 l1 (iL (row R cp))) l2 (iL (List.replicate c ((R.length : Int) + 1)))) l3 (.lst [.ref l1, .ref l2])) l4 (rL (as0 ++ [l1, l2])) l1 = some (iL (row R cp)) := (by repeat (first | exact upd_same | assumption | refine same_new (by assumption) _ _ ?_ | refine upd_at (by first | assumption | (apply Ne.symm; assumption)) ?_))
    have hl24 : upd (upd (upd (upd H2 l1 (iL (row R cp))) l2 (iL (List.replicate c ((R.length : Int) + 1)))) l3 (.lst [.ref l1, .ref l2])) l4 (rL (as0 ++ [l1, l2])) l2 = some (iL (List.replicate c ((R.length : Int) + 1))) := (by repeat (first | exact upd_same | assumption | refine same_new (by assumption) _ _ ?_ | refine upd_at (by first | assumption | (apply Ne.symm; assumption)) ?_))
    have hl44 : upd (upd (upd (upd H2 l1 (iL (row R cp))) l2 (iL (List.replicate c ((R.length : Int) + 1)))) l3 (.lst [.ref l1, .ref l2])) l4 (rL (as0 ++ [l1, l2])) l4 = some (rL (as0 ++ [l1, l2])) := upd_same
    have n12 : l1 ≠ l2 := ne_of_none upd_same n2
    have hn1 : l1 ∉ as0 := rws_none hRw0 n1
    have hn2 : l2 ∉ as0 := rws_none (hRw0.same s3) n2
    have n41 : l1 ≠ l4 := fun z => by rw [← z] at n4; rw [show upd (upd (upd H2 l1 (iL (row R cp))) l2 (iL (List.replicate c ((R.length : Int) + 1)))) l3 (.lst [.ref l1, .ref l2]) l1 = some (iL (row R cp)) from (by repeat (first | exact upd_same | assumption | refine same_new (by assumption) _ _ ?_ | refine upd_at (by first | assumption | (apply Ne.symm; assumption)) ?_))] at n4; cases n4
    have n42 : l2 ≠ l4 := fun z => by rw [← z] at n4; rw [show upd (upd (upd H2 l1 (iL (row R cp))) l2 (iL (List.replicate c ((R.length : Int) + 1)))) l3 (.lst [.ref l1, .ref l2]) l2 = some (iL (List.replicate c ((R.length : Int) + 1))) from (by repeat (first | exact upd_same | assumption | refine same_new (by assumption) _ _ ?_ | refine upd_at (by first | assumption | (apply Ne.symm; assumption)) ?_))] at n4; cases n4
    have n40 : l4 ∉ as0 := rws_none (hRw0.same s5) n4
    generalize upd (upd (upd (upd H2 l1 (iL (row R cp))) l2 (iL (List.replicate c ((R.length : Int) + 1)))) l3 (.lst [.ref l1, .ref l2])) l4 (rL (as0 ++ [l1, l2])) = H4 at s6 hl14 hl24 hl44
    have S4 := s2.trans s6
    have D4 : DS p H l4 (as0 ++ [l1, l2]) (R ++ [row R cp, List.replicate c ((R.length : Int) + 1)]) H4 := ⟨sb1.trans (Sb.of S4), pu1.same S4, hl44, paired_app (hRw0.same s6) (.cons hl14 (.cons hl24 .nil)), fun b hb => by
      rcases List.mem_append.mp hb with z | z
      · exact ⟨fr same_rfl (new0 b z).1, fun e => n40 (e ▸ z)⟩
      · rcases List.mem_cons.mp z with z | z
        · subst z; exact ⟨nl1, n41⟩
        · have : b = l2 := by simpa using z
          subst this; exact ⟨nl2, n42⟩⟩
    have nd4 : (as0 ++ [l1, l2]).Nodup := List.nodup_append.mpr ⟨nd0, by simp [n12], fun x hx y hy => by
      rcases List.mem_cons.mp hy with z | z
      · subst z; exact fun e => hn1 (e ▸ hx)
      · have : y = l2 := by simpa using z
        subst this; exact fun e => hn2 (e ▸ hx)⟩
    refine ⟨_, rfl, .inl ⟨rfl, _, SqL.of D4.at_⟩, _, rfl, (c : Int), rfl, by omega, by omega, fun l5 n5 => ?_⟩
    have nl5 : H l5 = none := Sb.free D4.sb (by obtain ⟨a, b, c, e⟩ := D4.pur; exact ⟨_, e⟩) n5
    have n54 : l5 ≠ l4 := (ne_of_none D4.at_ n5).symm
    have n5a : l5 ∉ as0 ++ [l1, l2] := rws_none D4.rws n5
    have T4 := T1.sb (Sb.of S4)
    have n5A : H1 l5 = none := S4.free n5
    have n4A : H1 l4 = none := (s2.trans s5).free n4
    refine lc_range (n := c) (fun i H' => DS p H l4 (as0 ++ [l1, l2]) (R ++ [row R cp, List.replicate c ((R.length : Int) + 1)]) H' ∧ Sb p H1 H' ∧ ∃ row, H' l5 = some (iL row) ∧ row.length = i ∧ ∀ x ∈ row, 0 ≤ x ∧ x < (R.length : Int) + 1) ?_ ?_ ?_
    · exact ⟨D4.new_ n5, (Sb.of S4).mut n5A, [], upd_same, rfl, by simp⟩
    · rintro i H' hi ⟨D, sbA, row, hrow, rl, rok⟩
      refine ⟨rfl, _, rfl, _, rfl, _, _, rfl, rfl, p, _, rfl, by omega, by omega, D.pur, fun d a b e d0 d1 => ?_⟩
      refine ⟨_, upd_at (hp.ne nl5) hrow, szLt (by rw [List.length_map]; omega), (D.draw nl4 hp).row hp nl5 n54 n5a, sbA.set.mut n5A, row ++ [d], ?_, by rw [List.length_append, rl]; rfl, fun x hx => ?_⟩
      · rw [upd_same, snocI]
      · rcases List.mem_append.mp hx with z | z
        · exact rok x z
        · have : x = d := by simpa using z
          subst this; exact ⟨d0, d1⟩
    rintro H5 ⟨D5, sb5, row5, hrow5, rl5, rok5⟩
    have D6 : DS p H l4 ((as0 ++ [l1, l2]) ++ [l5]) ((R ++ [row R cp, List.replicate c ((R.length : Int) + 1)]) ++ [row5]) (upd H5 l4 (rL ((as0 ++ [l1, l2]) ++ [l5]))) :=
      ⟨D5.sb.mut nl4, by obtain ⟨a, b, c, e⟩ := D5.pur; exact ⟨a, b, c, upd_at (Ne.symm (hp.ne nl4)) e⟩, upd_same, Paired.snoc (D5.rws.but (Sb.set Sb.refl) fun b hb => (D5.new b hb).2) (upd_at n54 hrow5), fun b hb => by
        rcases List.mem_append.mp hb with z | z
        · exact D5.new b z
        · have : b = l5 := by simpa using z
          subst this; exact ⟨nl5, n54⟩⟩
    have nd6 : ((as0 ++ [l1, l2]) ++ [l5]).Nodup := List.nodup_append.mpr ⟨nd4, by simp, fun x hx y hy => by
      have : y = l5 := by simpa using hy
      subst this; exact fun e => n5a (e ▸ hx)⟩
    have sb6 : Sb p H1 (upd H5 l4 (rL ((as0 ++ [l1, l2]) ++ [l5]))) := sb5.mut n4A
    have hal := Paired.length D5.rws
    have hll : (R ++ [row R cp, List.replicate c ((R.length : Int) + 1)]).length = R.length + 2 := by rw [List.length_append]; rfl
    refine ⟨l4, _, _, rfl, rfl, D5.at_, szLt (by rw [List.length_map]; omega), ?_⟩
    rw [snocR]
    generalize upd H5 l4 (rL ((as0 ++ [l1, l2]) ++ [l5])) = H6 at D6 sb6
    have hl6 : ((R ++ [row R cp, List.replicate c ((R.length : Int) + 1)]) ++ [row5]).length = R.length + 3 := by rw [List.length_append, hll]; rfl
    generalize (as0 ++ [l1, l2]) ++ [l5] = as6 at D6 nd6
    have hq6 := sb6 _ _ hq1 np1
    have hr6 := sb6 _ _ hr1 np3
    refine ⟨_, rfl, q, _, _, _, rfl, rfl, SqL.of hq6, at2_1, _, rfl, q, _, _, _, rfl, rfl, SqL.of hq6, at2_1, _, rfl, r, _, _, _, rfl, rfl, SqL.of hr6, atI_map (gd_mem (i := cp) (by omega)), (by show 3 ≤ sizeLine; decide), fun l6 n6 => ?_⟩
    refine ⟨r, l6, G.map V.bl, [.bl (gdI G cp), .bl false, .bl true], rfl, rfl, same_new n6 _ _ hr6, upd_same, szL (by rw [List.length_map]; show _ + 3 ≤ _; omega), fun g ng => ?_⟩
    have eg : (HO.lst (G.map V.bl ++ [.bl (gdI G cp), .bl false, .bl true])) = bL (G ++ [gdI G cp, false, true]) := by
      show _ = HO.lst ((G ++ [gdI G cp, false, true]).map V.bl)
      rw [List.map_append]; rfl
    rw [eg]
    have D7 := (D6.new_ (o := .lst [.bl (gdI G cp), .bl false, .bl true]) n6).new_ (o := bL (G ++ [gdI G cp, false, true])) ng
    have ngH : H g = none := Sb.free (D6.new_ (o := .lst [.bl (gdI G cp), .bl false, .bl true]) n6).sb (by obtain ⟨a, b, c, e⟩ := (D6.new_ (o := .lst [.bl (gdI G cp), .bl false, .bl true]) n6).pur; exact ⟨_, e⟩) ng
    have hga : g ∉ as6 := rws_none (D6.new_ (o := .lst [.bl (gdI G cp), .bl false, .bl true]) n6).rws ng
    have T7 : TwS p H l4 as6 g (G ++ [gdI G cp, false, true]) c R.length cp R _ _ := ⟨D7, nd6, upd_same, hp.ne ngH, hga, hl6, twrow_init W hcp rl5 rok5⟩
    generalize upd (upd H6 l6 (.lst [.bl (gdI G cp), .bl false, .bl true])) g (bL (G ++ [gdI G cp, false, true])) = H7 at T7
    generalize (R ++ [row R cp, List.replicate c ((R.length : Int) + 1)]) ++ [row5] = R7 at T7
    refine ⟨_, rfl, l4, rfl, ⟨_, SqL.of T7.ds.at_⟩, ?_⟩
    refine for_list (xs := as6.map V.ref) (fun j σ H' => ∃ (R' : List (List Int)) (y5 y8 : Option V), σ = [some (.ref p), some (.ref q), some (.int (c : Nat)), some (.int (R.length : Nat)), some (.int (cp : Nat)), y5, some (.ref l4), some (.ref g), y8, none, none, none, none] ∧ TwS p H l4 as6 g (G ++ [gdI G cp, false, true]) c R.length cp R R' H') ⟨R7, _, _, rfl, T7⟩ (fun j σ H' _ h => by obtain ⟨R', y5, y8, _, t⟩ := h; exact SqL.of t.ds.at_) ?_ ?_
    · rintro j x σ H' hx ⟨R', y5, y8, rfl, T8⟩
      obtain ⟨b, hb, rfl⟩ := map_get' hx
      refine ⟨_, rfl, (c : Int), rfl, by omega, by omega, ?_⟩
      refine for_range (n := c) (fun k σ H' => ∃ (R' : List (List Int)) (y5 : Option V), σ = [some (.ref p), some (.ref q), some (.int (c : Nat)), some (.int (R.length : Nat)), some (.int (cp : Nat)), y5, some (.ref l4), some (.ref g), some (.ref b), none, none, none, none] ∧ TwS p H l4 as6 g (G ++ [gdI G cp, false, true]) c R.length cp R R' H') ⟨R', _, rfl, T8⟩ ?_ ?_
      · rintro k σ H' hk ⟨R', y5, rfl, T9⟩
        refine rd_mod hp nl4 hcp hb rfl rfl hk (.inl ⟨rfl, rfl⟩) (fun H' Q hpu h => ⟨_, rfl, p, 2, rfl, by decide, by decide, hpu, h⟩) (fun H' Q h => ⟨_, rfl, h⟩) (fun H' Q h => ⟨_, rfl, h⟩) T9 fun R2 H2 T10 => ?_
        refine rd_mod hp nl4 hcp hb rfl rfl hk (.inr ⟨rfl, rfl⟩) (fun H' Q hpu h => ⟨_, rfl, p, 2, rfl, by decide, by decide, hpu, h⟩) (fun H' Q h => ⟨_, rfl, h⟩) (fun H' Q h => ⟨_, rfl, _, _, rfl, rfl, h⟩) T10 fun R3 H3 T11 => ?_
        exact ⟨R3, _, rfl, T11⟩
      · rintro σ H' ⟨R', y5, rfl, T9⟩
        exact ⟨R', _, _, rfl, T9⟩
    rintro σ H8 ⟨R8, y5, y8, rfl, T8⟩
    have hN : R8.length = R.length + 3 := T8.len
    refine ⟨_, rfl, _, rfl, _, _, rfl, rfl, p, R.length + 3, congrArg (fun z => [V.ref p, V.int z]) (by push_cast; rfl), T8.ds.pur, by omega, by omega, fun o H9 os s9 p9 no ho hO => ?_⟩
    have T9 := T8.sb hp nl4 s9 p9
    have W8 : WF c R8 (G ++ [gdI G cp, false, true]) := ⟨by omega, by rw [List.length_append, hN]; show _ + 3 = _; omega, fun x hx => by
      obtain ⟨i, hi, e⟩ := List.getElem_of_mem hx
      have h1 := T8.row i (by omega)
      rw [row_get (by rw [List.getElem?_eq_getElem hi, e])] at h1
      refine ⟨h1.len, fun y hy => ?_⟩
      have := h1.ok y hy
      rw [hN]; push_cast; omega⟩
    rw [← hN] at hO
    refine ⟨(by show 0 ≤ sizeLine; decide), fun l10 n10 => ?_⟩
    have s10 : Same H9 (upd H9 l10 (.lst [])) := same_new n10
    refine ⟨_, rfl, o, rfl, ⟨_, SqL.of (s10 _ _ ho)⟩, ?_⟩
    have hol : os.length = R8.length := hO.1
    refine for_list (xs := (os.map Int.ofNat).map V.int) (fun j σ H' => ∃ (bs : List Addr) (y5 y8 y11 : Option V), σ = [some (.ref p), some (.ref q), some (.int (c : Nat)), some (.int (R.length : Nat)), some (.int (cp : Nat)), y5, some (.ref l4), some (.ref g), y8, some (.ref o), some (.ref l10), y11, none] ∧ Same H9 H' ∧ H' l10 = some (rL bs) ∧ Rws H' bs ((ordR os R8).take j)) ?_ ?_ ?_ ?_
    · exact ⟨[], _, _, _, rfl, s10, upd_same, by rw [List.take_zero]; exact .nil⟩
    · rintro j σ H' _ ⟨bs, y5, y8, y11, rfl, s11, _⟩
      exact SqL.of (s11 _ _ ho)
    · rintro j x σ H' hx ⟨bs, y5, y8, y11, rfl, s11, hb10, hR10⟩
      rw [List.map_map] at hx
      obtain ⟨st, hst, rfl⟩ := map_get' (f := V.int ∘ Int.ofNat) hx
      have hsl : st < R8.length := (hO.2.2.1 st).mp (List.mem_of_getElem? hst)
      have hjl : j < os.length := (List.getElem?_eq_some_iff.mp hst).1
      obtain ⟨bi, hbi, hri⟩ := paired_get' T9.ds.rws (row_mem hsl)
      obtain ⟨wl, wb⟩ := wf_row W8 hsl
      have hal6 : as6.length = R8.length := Paired.length T9.ds.rws
      refine ⟨_, rfl, .inl ⟨rfl, _, SqL.of hb10⟩, _, rfl, _, rfl, l4, _, _, _, rfl, rfl, SqL.of (s11 _ _ T9.ds.at_), atI_map hbi, bi, rfl, ⟨_, SqL.of (s11 _ _ hri)⟩, fun D nD => ?_⟩
      refine lc_list (K := K) (a := bi) (xs := (row R8 st).map V.int) (fun x H2 => H2 = upd H' D (iL (((row R8 st).map (ixO os)).take x))) (by rw [List.take_zero]; rfl) (fun x H2 _ z => by rw [z]; exact SqL.of (same_new nD _ _ (s11 _ _ hri))) ?_ ?_
      · rintro x y H2 hx rfl
        obtain ⟨z, hz, rfl⟩ := map_get' hx
        have hxl : x < (row R8 st).length := (List.getElem?_eq_some_iff.mp hz).1
        have hz2 := wb z (List.mem_of_getElem? hz)
        have hsz : ((((row R8 st).map (ixO os)).take x).map V.int).length < sizeLine := szLt (by rw [List.length_map, List.length_take]; omega)
        have stp : ∀ v : Int, v = ixO os z → (upd (upd H' D (iL (((row R8 st).map (ixO os)).take x))) D (.lst (((((row R8 st).map (ixO os)).take x).map V.int) ++ [.int v]))) = upd H' D (iL (((row R8 st).map (ixO os)).take (x + 1))) := fun v ev => by
          rw [upd_upd, snocI, List.take_add_one]
          have : ((row R8 st).map (ixO os))[x]? = some v := by rw [List.getElem?_map, hz, ev]; rfl
          rw [this]; rfl
        refine ⟨rfl, _, rfl, _, _, rfl, rfl, _, rfl, ite2 (fun h0 => ?_) (fun h0 => ?_)⟩
        · have h0' : 0 ≤ z := of_decide_eq_true h0
          obtain ⟨t', rfl⟩ : ∃ t : Nat, z = (t : Int) := ⟨z.toNat, by omega⟩
          have htm : t' ∈ os := (hO.2.2.1 t').mpr (by omega)
          have hix := idx_get htm
          have ho2 : SqL K (upd H' D (iL (((row R8 st).map (ixO os)).take x))) o ((os.map Int.ofNat).map V.int) := SqL.of (same_new nD _ _ (s11 _ _ ho))
          refine ⟨_, rfl, .inl ⟨rfl, _, ho2⟩, _, rfl, o, _, _, idx t' os, .int (t' : Nat), rfl, rfl, ho2, rfl, ?_, (by rw [List.map_map, List.getElem?_map, hix]; rfl), ?_, fun m z' hm hz' => ?_, _, upd_same, hsz, stp _ ?_⟩
          · rw [List.all_eq_true]
            intro v hv
            obtain ⟨u, _, rfl⟩ := List.mem_map.mp hv
            rfl
          · show ((t' : Int) == (t' : Int)) = true
            exact beq_self_eq_true _
          · rw [List.map_map] at hz'
            obtain ⟨u, hu, rfl⟩ := map_get' (f := V.int ∘ Int.ofNat) hz'
            have := idx_none hm hu
            show ((u : Int) == (t' : Int)) = false
            exact beq_eq_false_iff_ne.mpr (by omega)
          · unfold ixO
            rw [if_pos h0', Int.toNat_natCast]
        · have h0' : ¬ 0 ≤ z := fun q => h0 (decide_eq_true q)
          exact ⟨_, rfl, _, upd_same, hsz, stp _ (by unfold ixO; rw [if_neg h0'])⟩
      rintro H2 rfl
      rw [List.length_map, ← (List.length_map (f := ixO os) : ((row R8 st).map (ixO os)).length = (row R8 st).length), List.take_length]
      have nDl : D ≠ l10 := (ne_of_none hb10 nD).symm
      have hbl := Paired.length hR10
      rw [List.length_take] at hbl
      refine ⟨l10, _, _, rfl, rfl, same_new nD _ _ hb10, szLt (by rw [List.length_map]; omega), ?_⟩
      refine ⟨bs ++ [D], _, _, _, rfl, same_mut (s11.trans (same_new nD)) n10, by rw [upd_same, snocR], ?_⟩
      have hord : (ordR os R8)[j]? = some ((row R8 st).map (ixO os)) := by unfold ordR; rw [List.getElem?_map, hst]; rfl
      rw [List.take_add_one, hord]
      refine Paired.snoc ?_ (upd_at nDl upd_same)
      exact paired_mem hR10 fun b rb hb eb => upd_at (fun z => rL_ne hb (Option.some.inj ((by rw [← z]; exact eb : H' l10 = some (iL rb)).symm.trans hb10)).symm) (same_new nD _ _ eb)
    · rintro σ H10 ⟨bs, y5, y8, y11, rfl, s11, hb10, hR10⟩
      have hord : (ordR os R8).length = os.length := by unfold ordR; rw [List.length_map]
      rw [List.length_map, List.length_map, ← hord, List.take_length] at hR10
      have sb10 : Sb p H H10 := T9.ds.sb.trans (Sb.of s11)
      have pu10 : PuAt H10 p := T9.ds.pur.same s11
      have hl2 : (G ++ [gdI G cp, false, true]).length = R8.length := by rw [W8.len]
      refine ⟨_, rfl, _, rfl, o, rfl, ⟨_, SqL.of (s11 _ _ ho)⟩, fun D nD => ?_⟩
      refine lc_list (K := K) (a := o) (xs := (os.map Int.ofNat).map V.int) (fun i H' => H' = upd H10 D (bL ((ordG os (G ++ [gdI G cp, false, true])).take i))) (by rw [List.take_zero]; rfl) (fun i H' _ z => by rw [z]; exact SqL.of (same_new nD _ _ (s11 _ _ ho))) ?_ ?_
      · rintro i x H' hx rfl
        rw [List.map_map] at hx
        obtain ⟨st, hst, rfl⟩ := map_get' (f := V.int ∘ Int.ofNat) hx
        have hsl : st < R8.length := (hO.2.2.1 st).mp (List.mem_of_getElem? hst)
        have hil : i < os.length := (List.getElem?_eq_some_iff.mp hst).1
        refine ⟨rfl, _, rfl, _, rfl, g, _, _, _, rfl, rfl, SqL.of (same_new nD _ _ (s11 _ _ T9.gd)), atI_map (gd_mem (i := st) (by omega)), _, upd_same, szLt (by rw [List.length_map, List.length_take]; omega), ?_⟩
        rw [upd_upd, snocB, List.take_add_one]
        have : (ordG os (G ++ [gdI G cp, false, true]))[i]? = some (gdI (G ++ [gdI G cp, false, true]) st) := by unfold ordG; rw [List.getElem?_map, hst]; rfl
        rw [this]; rfl
      rintro H11 rfl
      have hog : (ordG os (G ++ [gdI G cp, false, true])).length = os.length := by unfold ordG; rw [List.length_map]
      rw [List.length_map, List.length_map, ← hog, List.take_length]
      refine ⟨(by show 2 ≤ sizeLine; decide), fun z nz => ?_⟩
      have s12 : Same H10 (upd (upd H10 D (bL (ordG os (G ++ [gdI G cp, false, true])))) z (.lst [.ref l10, .ref D])) := (same_new nD).trans (same_new nz)
      refine qq z _ (ordR os R8) (ordG os (G ++ [gdI G cp, false, true])) (sb10.trans (Sb.of s12)) (pu10.same s12) ⟨l10, D, upd_same, ⟨bs, s12 _ _ hb10, hR10.same s12⟩, same_new nz _ _ upd_same⟩ (ord_wf W8 hO) (by omega) ?_
      rw [← ord_lang W8 hO]
      exact (twin_lang W hcp fun s hs => T8.row s hs).symm
end
end Gal
end
section
set_option Elab.async false
set_option linter.all false
set_option maxRecDepth 100000
set_option maxHeartbeats 4000000
namespace Gal
open PySem PySem.Spec PyProof.Rows L2
section
variable {P : Program} {w : World} {K : PySem.W.Frag} {mg : Str → Option Value} {base : Heap}
/-! ### a changed table -/
abbrev N_l_changed : List Str := ["_law_purse_here", "_law_table_here", "_law_count", "_law_rows", "_law_goods", "_law_state", "_law_row"]
theorem sc_l_changed : FnScope N_l_changed ["_law_purse_here", "_law_table_here", "_law_count"] (defScope s_l_changed) := ⟨rfl, rfl, rfl, by decide +kernel, rfl, by decide +kernel, by decide +kernel⟩
theorem b_l_changed (T : TX K mg) : Binds K T.d_l_changed ["_law_purse_here", "_law_table_here", "_law_count"] [] := T.F_l_changed.bindsN fun _ _ _ _ _ _ us hl => match us, hl with | [_, _, _], _ => rfl
def sp_changed : Sp := fun vs H Q _ => ∃ (p q : Addr) (c : Nat) (R : List (List Int)) (G : List Bool), vs = [.ref p, .ref q, .int (c : Nat)] ∧ PuAt H p ∧ TabA p H q R G ∧ WF c R G ∧ 1 ≤ c ∧ c ≤ 9 ∧ R.length ≤ 40 ∧
  ∀ (z : Addr) (H' : Hp) (R' : List (List Int)) (G' : List Bool), Sb p H H' → PuAt H' p → TabAt H' z R' G' → WF c R' G' → R'.length = R.length → Q (.ref z) H'
theorem ok_l_changed (T : TX K mg) : FnOk P w K mg base CX0 2 (He.fAd K ("_law_changed", none)) T.d_l_changed ["_law_purse_here", "_law_table_here", "_law_count"] sp_changed := by
  refine T.F_l_changed.ok sc_l_changed (fun vs H Q E h => ?_) (fun cdv A outer s H vs Q E hr h => ?_)
  · obtain ⟨p, q, c, R, G, rfl, _⟩ := h
    rfl
  · obtain ⟨p, q, c, R, G, rfl, hp, ⟨t, r, as, hq, ht, hR, hgr, np1, np2, np3, np4⟩, W, hc1, hc2, hl, qq⟩ := h
    refine ⟨_, PSs.nox (pss_cons (ps_set (i := 3) sc_l_changed.nd rfl (Or.inl rfl) (pe_call (ok_l_copied T) (hr.mono (by decide)) (by rfl) T.g_l_copied T.F_l_copied.kp (b_l_copied T) .nil pass0 (pa_cons (pe_ix (ixL K) (pv 1) pe_int (fun _ _ => rfl)) pa_nil)))
    (pss_cons (ps_set (i := 4) sc_l_changed.nd rfl (Or.inl rfl) (pe_callTy (lstK K) (by rfl) T.n_list bt_list (pa_cons (pe_ix (ixL K) (pv 1) pe_int (fun _ _ => rfl)) pa_nil)))
    (pss_cons (ps_set (i := 5) sc_l_changed.nd rfl (Or.inl rfl) (pe_call (ok_l_draw T) (hr.mono (by decide)) (by rfl) T.g_l_draw T.F_l_draw.kp (b_l_draw T) .nil pass0 (pa_cons (pv 0) (pa_cons (pe_callB (lenK K) (by rfl) T.n_len PySem.boot_len (pa_cons (pv 3) pa_nil)) pa_nil))))
    (pss_cons (ps_if (pt_cmpR op_eq (pe_call (ok_l_draw T) (hr.mono (by decide)) (by rfl) T.g_l_draw T.F_l_draw.kp (b_l_draw T) .nil pass0 (pa_cons (pv 0) (pa_cons pe_int pa_nil))) pe_int (nomark _)) (pss_one (ps_asg (pe_not (pe_ix (ixL K) (pv 4) (pv 5) (fun _ _ => rfl))) (pg_sub (pv 4) (pv 5) set_list))) (pss_cons (ps_set (i := 6) sc_l_changed.nd rfl (Or.inl rfl) (pe_ix (ixL K) (pv 3) (pv 5) (fun _ _ => rfl)))
      (pss_one (ps_asg (pe_op op_sub (pe_call (ok_l_draw T) (hr.mono (by decide)) (by rfl) T.g_l_draw T.F_l_draw.kp (b_l_draw T) .nil pass0 (pa_cons (pv 0) (pa_cons (pe_op op_add (pe_callB (lenK K) (by rfl) T.n_len PySem.boot_len (pa_cons (pv 3) pa_nil)) pe_int) pa_nil))) pe_int) (pg_sub (pv 6) (pe_call (ok_l_draw T) (hr.mono (by decide)) (by rfl) T.g_l_draw T.F_l_draw.kp (b_l_draw T) .nil pass0 (pa_cons (pv 0) (pa_cons (pv 2) pa_nil))) set_list)))))
    (pss_one (ps_ret (pe_lst (pa_cons (pv 3) (pa_cons (pv 4) pa_nil))))))))), ?_⟩
    have hpos := W.pos
    have hgl := W.len
    refine ⟨_, rfl, q, _, _, _, rfl, rfl, SqL.of hq, at2_0, t, R, rfl, ⟨as, ht, hR⟩, by omega, fun l0 H2 s2 N0 => ?_⟩
    obtain ⟨nl0, as0, hl0, hRw0, nd0, new0⟩ := N0
    refine ⟨_, rfl, q, _, _, _, rfl, rfl, SqL.of (s2 _ _ hq), at2_1, r, _, rfl, .inl (SqL.of (s2 _ _ hgr)), fun g ng => ?_⟩
    have s3 : Same H2 (upd H2 g (bL G)) := same_new ng
    have hga : g ∉ as0 := rws_none hRw0 ng
    have hg0 : l0 ≠ g := ne_of_none hl0 ng
    have hng : H g = none := s2.free ng
    have D3 : DS p H l0 as0 R (upd H2 g (bL G)) := ⟨Sb.of (s2.trans s3), hp.same (s2.trans s3), s3 _ _ hl0, hRw0.same s3, new0⟩
    have hgg : upd H2 g (bL G) g = some (bL G) := upd_same
    generalize upd H2 g (bL G) = H3 at D3 hgg
    have hal : as0.length = R.length := Paired.length D3.rws
    have eal : ((as0.map V.ref).length : Int) = (R.length : Int) := by rw [List.length_map, hal]
    refine ⟨_, rfl, _, rfl, l0, _, rfl, .inl (SqL.of D3.at_), p, _, rfl, by rw [eal]; omega, by rw [eal]; omega, D3.pur, fun d a b e d0 d1 => ?_⟩
    rw [eal] at d1
    obtain ⟨x, rfl, hx⟩ := ex_lt d0 d1
    have hx : x < R.length := by omega
    have D4 := D3.draw (a := a) (b := b) (c := e) nl0 hp
    have hg4 : upd H3 p (pu a b e) g = some (bL G) := upd_at (hp.ne hng) hgg
    generalize upd H3 p (pu a b e) = H4 at D4 hg4
    refine ⟨_, rfl, p, 2, rfl, by decide, by decide, D4.pur, fun d a b e d0 d1 => ⟨rfl, _, rfl, ?_⟩⟩
    have D5 := D4.draw (a := a) (b := b) (c := e) nl0 hp
    have hg5 : upd H4 p (pu a b e) g = some (bL G) := upd_at (hp.ne hng) hg4
    generalize upd H4 p (pu a b e) = H5 at D5 hg5
    refine ite2 (fun _ => ?_) (fun _ => ?_)
    · refine ⟨_, rfl, _, rfl, g, _, _, _, rfl, rfl, SqL.of hg5, atI_map (gd_mem (i := x) (by omega)), _, rfl, _, rfl, _, rfl, g, _, _, x, rfl, rfl, hg5, ixN_nat (by rw [List.length_map]; omega), ?_⟩
      rw [← List.map_set]
      have D6 := D5.row (o := bL (G.set x (!gdI G x))) hp hng (Ne.symm hg0) hga
      refine ⟨_, rfl, _, rfl, (by show 2 ≤ sizeLine; decide), fun z nz => ?_⟩
      have s7 := same_new (o := .lst [.ref l0, .ref g]) nz
      refine qq z _ R (G.set x (!gdI G x)) (D6.sb.trans (Sb.of s7)) (D6.pur.same s7) ⟨l0, g, upd_same, ⟨as0, s7 _ _ D6.at_, D6.rws.same s7⟩, s7 _ _ upd_same⟩ ⟨W.pos, by rw [List.length_set]; exact W.len, W.row⟩ rfl
    · obtain ⟨bi, hbi, hri⟩ := paired_get' D5.rws (row_mem hx)
      refine ⟨_, rfl, _, rfl, l0, _, _, _, rfl, rfl, SqL.of D5.at_, atI_map hbi, ?_⟩
      refine ⟨_, rfl, _, rfl, l0, _, rfl, .inl (SqL.of D5.at_), _, _, rfl, rfl, p, _, rfl, by rw [eal]; omega, by rw [eal]; omega, D5.pur, fun d a b e d0 d1 => ?_⟩
      rw [eal] at d1
      have D6 := D5.draw (a := a) (b := b) (c := e) nl0 hp
      have hg6 : upd H5 p (pu a b e) g = some (bL G) := upd_at (hp.ne hng) hg5
      have hbn := D5.new bi (List.mem_of_getElem? hbi)
      have hr6 : upd H5 p (pu a b e) bi = some (iL (row R x)) := upd_at (hp.ne hbn.1) hri
      generalize upd H5 p (pu a b e) = H6 at D6 hg6 hr6
      refine ⟨_, _, rfl, rfl, _, rfl, _, rfl, _, rfl, p, _, rfl, by omega, by omega, D6.pur, fun y a b e y0 y1 => ?_⟩
      obtain ⟨k, rfl, hk⟩ := ex_lt y0 y1
      have D7 := D6.draw (a := a) (b := b) (c := e) nl0 hp
      have hg7 : upd H6 p (pu a b e) g = some (bL G) := upd_at (hp.ne hng) hg6
      have hr7 : upd H6 p (pu a b e) bi = some (iL (row R x)) := upd_at (hp.ne hbn.1) hr6
      generalize upd H6 p (pu a b e) = H7 at D7 hg7 hr7
      obtain ⟨wl, wb⟩ := wf_row W hx
      refine ⟨bi, _, _, k, rfl, rfl, hr7, ixN_nat (by rw [List.length_map]; omega), ?_⟩
      rw [← List.map_set]
      have hRs := rws_set (r := (row R x).set k (d - 1)) D7.rws nd0 hbi
      have n1 : l0 ≠ bi := Ne.symm hbn.2
      have n2 : g ≠ bi := fun z => hga (z ▸ List.mem_of_getElem? hbi)
      have hl8 : upd H7 bi (iL ((row R x).set k (d - 1))) l0 = some (rL as0) := upd_at n1 D7.at_
      have hg8 : upd H7 bi (iL ((row R x).set k (d - 1))) g = some (bL G) := upd_at n2 hg7
      have sb8 : Sb p H (upd H7 bi (iL ((row R x).set k (d - 1)))) := D7.sb.mut hbn.1
      have pu8 : PuAt (upd H7 bi (iL ((row R x).set k (d - 1)))) p := by
        obtain ⟨a, b, c, e⟩ := D7.pur
        exact ⟨a, b, c, upd_at (Ne.symm (hp.ne hbn.1)) e⟩
      generalize upd H7 bi (iL ((row R x).set k (d - 1))) = H8 at hRs hl8 hg8 sb8 pu8
      refine ⟨_, rfl, _, rfl, (by show 2 ≤ sizeLine; decide), fun z nz => ?_⟩
      have s9 := same_new (o := .lst [.ref l0, .ref g]) nz
      refine qq z _ (R.set x ((row R x).set k (d - 1))) G (sb8.trans (Sb.of s9)) (pu8.same s9) ⟨l0, g, upd_same, ⟨as0, s9 _ _ hl8, hRs.same s9⟩, s9 _ _ hg8⟩ ⟨by rw [List.length_set]; exact W.pos, by rw [List.length_set]; exact W.len, fun rr hrr => ?_⟩ (by rw [List.length_set])
      rw [List.length_set]
      rcases List.mem_or_eq_of_mem_set hrr with z | z
      · exact W.row rr z
      · subst z
        refine ⟨by rw [List.length_set, wl], fun y hy => ?_⟩
        rcases List.mem_or_eq_of_mem_set hy with z | z
        · exact wb y z
        · subst z; omega
/-! ### a bad row -/
abbrev N_l_bad : List Str := ["_law_purse_here", "_law_row", "_law_many", "_law_way", "_law_place"]
theorem sc_l_bad : FnScope N_l_bad ["_law_purse_here", "_law_row", "_law_many"] (defScope s_l_bad) := ⟨rfl, rfl, rfl, by decide +kernel, rfl, by decide +kernel, by decide +kernel⟩
theorem b_l_bad (T : TX K mg) : Binds K T.d_l_bad ["_law_purse_here", "_law_row", "_law_many"] [] := T.F_l_bad.bindsN fun _ _ _ _ _ _ us hl => match us, hl with | [_, _, _], _ => rfl
def BadRow (c n : Nat) (r : List Int) : Prop := r.length ≠ c ∨ ∃ x ∈ r, ¬(-1 ≤ x ∧ x < (n : Int))
def sp_bad : Sp := fun vs H Q _ => ∃ (p b : Addr) (r : List Int) (n : Nat), vs = [.ref p, .ref b, .int (n : Nat)] ∧ PuAt H p ∧ H b = some (iL r) ∧ b ≠ p ∧ 1 ≤ r.length ∧ r.length ≤ 9 ∧ n ≤ 1000 ∧
  ∀ (q : Addr) (H' : Hp) (r' : List Int), Sb p H H' → PuAt H' p → H q = none → H' q = some (iL r') → r'.length ≤ 1000 → BadRow r.length n r' → Q (.ref q) H'
theorem ok_l_bad (T : TX K mg) : FnOk P w K mg base CX0 2 (He.fAd K ("_law_bad", none)) T.d_l_bad ["_law_purse_here", "_law_row", "_law_many"] sp_bad := by
  refine T.F_l_bad.ok sc_l_bad (fun vs H Q E h => ?_) (fun cdv A outer s H vs Q E hr h => ?_)
  · obtain ⟨p, b, r, n, rfl, _⟩ := h
    rfl
  · obtain ⟨p, b, r, n, rfl, hp, hb, nb, hl1, hl2, hn, qq⟩ := h
    refine ⟨_, PSs.nox (pss_cons (ps_set (i := 3) sc_l_bad.nd rfl (Or.inl rfl) (pe_call (ok_l_draw T) (hr.mono (by decide)) (by rfl) T.g_l_draw T.F_l_draw.kp (b_l_draw T) .nil pass0 (pa_cons (pv 0) (pa_cons pe_int pa_nil))))
    (pss_cons (ps_set (i := 4) sc_l_bad.nd rfl (Or.inl rfl) (pe_call (ok_l_draw T) (hr.mono (by decide)) (by rfl) T.g_l_draw T.F_l_draw.kp (b_l_draw T) .nil pass0 (pa_cons (pv 0) (pa_cons (pe_callB (lenK K) (by rfl) T.n_len PySem.boot_len (pa_cons (pv 1) pa_nil)) pa_nil))))
    (pss_cons (ps_if (pt_cmpR op_eq (pv 3) pe_int (nomark _)) (pss_one (ps_ret (pe_op op_cat (pe_slice (slL K) (pv 1) po_none (po_some (pv 4))) (pe_slice (slL K) (pv 1) (po_some (pe_op op_add (pv 4) pe_int)) po_none)))) pss_nil)
    (pss_cons (ps_if (pt_cmpR op_eq (pv 3) pe_int (nomark _)) (pss_one (ps_ret (pe_op op_cat (pe_op op_cat (pe_slice (slL K) (pv 1) po_none (po_some (pv 4))) (pe_lst (pa_cons pe_int pa_nil))) (pe_slice (slL K) (pv 1) (po_some (pv 4)) po_none)))) pss_nil)
    (pss_one (ps_ret (pe_op op_cat (pe_op op_cat (pe_slice (slL K) (pv 1) po_none (po_some (pv 4))) (pe_lst (pa_cons (pe_ix (ixL K) (pe_lst (pa_cons (pe_un un_neg pe_int) (pa_cons (pv 2) (pa_cons (pe_op op_pow pe_int pe_int) pa_nil)))) (pe_op op_sub (pv 3) pe_int) (fun _ _ => rfl)) pa_nil))) (pe_slice (slL K) (pv 1) (po_some (pe_op op_add (pv 4) pe_int)) po_none)))))))), ?_⟩
    refine ⟨_, rfl, p, 5, rfl, by decide, by decide, hp, fun way a1 a2 a3 w0 w1 => ?_⟩
    have hb1 : upd H p (pu a1 a2 a3) b = some (iL r) := upd_at nb hb
    refine ⟨_, rfl, _, rfl, b, _, rfl, .inl (SqL.of hb1), p, _, rfl, by rw [List.length_map]; omega, by rw [List.length_map]; omega, PuAt.to, fun pl b1 b2 b3 p0 p1 => ?_⟩
    rw [List.length_map] at p1
    obtain ⟨k, rfl, hk⟩ := ex_lt p0 p1
    have hb2 : upd (upd H p (pu a1 a2 a3)) p (pu b1 b2 b3) b = some (iL r) := upd_at nb hb1
    have sb2 : Sb p H (upd (upd H p (pu a1 a2 a3)) p (pu b1 b2 b3)) := Sb.set (Sb.set Sb.refl)
    have pu2 : PuAt (upd (upd H p (pu a1 a2 a3)) p (pu b1 b2 b3)) p := PuAt.to
    generalize upd (upd H p (pu a1 a2 a3)) p (pu b1 b2 b3) = H2 at hb2 sb2 pu2
    have fin : ∀ (q : Addr) (H' : Hp) (ys : List V) (r' : List Int), Same H2 H' → H' q = none → ys = r'.map V.int → r'.length ≤ 1000 → BadRow r.length n r' → Q (.ref q) (upd H' q (.lst ys)) := fun q H' ys r' s nq ey hl hbad => by
      subst ey
      refine qq q _ r' ((sb2.trans (Sb.of s)).trans (Sb.of (same_new nq))) (pu2.same (s.trans (same_new nq))) ?_ upd_same hl hbad
      obtain ⟨a, b, c, e⟩ := pu2
      exact Sb.free (sb2.trans (Sb.of s)) ⟨_, s _ _ e⟩ nq
    have hlo : ∀ j : Nat, cutV (r.map V.int) none (some (j : Int)) = (r.take j).map V.int := fun j => by rw [cut_lo, List.map_take]
    have hhi : ∀ j : Nat, cutV (r.map V.int) (some (j : Int)) none = (r.drop j).map V.int := fun j => by rw [cut_hi, List.map_drop]
    have ek : V.int ((k : Int) + 1) = V.int ((k + 1 : Nat) : Int) := rfl
    have lt : ∀ j, (r.take j).length ≤ 9 := fun j => by rw [List.length_take]; omega
    have ld : ∀ j, (r.drop j).length ≤ 9 := fun j => by rw [List.length_drop]; omega
    refine ⟨_, rfl, rfl, _, rfl, ite2 (fun _ => ?_) (fun hw0 => ?_)⟩
    · refine ⟨_, rfl, _, rfl, (k : Int), rfl, b, _, rfl, SqL.of hb2, fun q1 m1 => ⟨_, rfl, _, rfl, _, _, rfl, rfl, ((k + 1 : Nat) : Int), ek, b, _, rfl, SqL.of (same_new m1 _ _ hb2), fun q2 m2 => ?_⟩⟩
      rw [hlo, hhi] at *
      refine ⟨q1, q2, _, _, rfl, rfl, same_new m2 _ _ upd_same, upd_same, szL (by rw [List.length_map, List.length_map]; have := lt k; have := ld (k + 1); omega), fun q3 m3 => ?_⟩
      refine fin q3 _ _ (r.take k ++ r.drop (k + 1)) ((same_new m1).trans (same_new m2)) m3 (by rw [List.map_append]) (by rw [List.length_append]; have := lt k; have := ld (k + 1); omega) (.inl ?_)
      rw [List.length_append, List.length_take, List.length_drop]
      omega
    refine ⟨_, rfl, rfl, _, rfl, ite2 (fun _ => ?_) (fun hw1 => ?_)⟩
    · refine ⟨_, rfl, _, rfl, (k : Int), rfl, b, _, rfl, SqL.of hb2, fun q1 m1 => ⟨(by show 1 ≤ sizeLine; decide), fun q2 m2 => ?_⟩⟩
      rw [hlo] at *
      refine ⟨q1, q2, (r.take k).map V.int, [.int 0], rfl, rfl, same_new m2 _ _ upd_same, upd_same, szL (by rw [List.length_map]; have := lt k; show _ + 1 ≤ _; omega), fun q3 m3 => ?_⟩
      have s3 : Same H2 _ := (same_new m1).trans ((same_new m2).trans (same_new (o := .lst ((r.take k).map V.int ++ [.int 0])) m3))
      refine ⟨_, rfl, _, rfl, (k : Int), rfl, b, _, rfl, SqL.of (s3 _ _ hb2), fun q4 m4 => ?_⟩
      rw [hhi]
      refine ⟨q3, q4, _, _, rfl, rfl, same_new m4 _ _ upd_same, upd_same, szL (by rw [List.length_append, List.length_map, List.length_map]; have := lt k; have := ld k; show _ + 1 + _ ≤ _; omega), fun q5 m5 => ?_⟩
      refine fin q5 _ _ (r.take k ++ [0] ++ r.drop k) (s3.trans (same_new m4)) m5 (by rw [List.map_append, List.map_append]; rfl) (by rw [List.length_append, List.length_append]; have := lt k; have := ld k; show _ + 1 + _ ≤ _; omega) (.inl ?_)
      rw [List.length_append, List.length_append, List.length_take, List.length_drop]
      show _ + 1 + _ ≠ _
      omega
    · have hw0' : way ≠ 0 := fun z => hw0 (decide_eq_true (congrArg V.int z))
      have hw1' : way ≠ 1 := fun z => hw1 (decide_eq_true (congrArg V.int z))
      have hx : ∃ x : Int, atI ([.int (-2), .int (n : Nat), .int ((10 : Int) ^ (30 : Int).toNat)] : List V) (way - 2) = some (.int x) ∧ ¬ (-1 ≤ x ∧ x < (n : Int)) := by
        have h3 : way = 2 ∨ way = 3 ∨ way = 4 := by omega
        rcases h3 with rfl | rfl | rfl
        · exact ⟨-2, atI_nat (j := 0) rfl, by omega⟩
        · exact ⟨(n : Nat), atI_nat (j := 1) rfl, by omega⟩
        · refine ⟨(10 : Int) ^ (30 : Int).toNat, atI_nat (j := 2) rfl, ?_⟩
          have : ((10 : Int) ^ (30 : Int).toNat) = 1000000000000000000000000000000 := by decide
          rw [this]; omega
      obtain ⟨x, hx1, hx2⟩ := hx
      refine ⟨_, rfl, _, rfl, (k : Int), rfl, b, _, rfl, SqL.of hb2, fun q1 m1 => ⟨_, rfl, _, rfl, _, _, rfl, rfl, ⟨by decide, by decide, by decide⟩, (by show 3 ≤ sizeLine; decide), fun q0 m0 => ⟨_, rfl, _, _, rfl, rfl, q0, _, _, _, rfl, rfl, SqL.of upd_same, hx1, (by show 1 ≤ sizeLine; decide), fun q2 m2 => ?_⟩⟩⟩
      rw [hlo] at *
      refine ⟨q1, q2, (r.take k).map V.int, [.int x], rfl, rfl, same_new m2 _ _ (same_new m0 _ _ upd_same), upd_same, szL (by rw [List.length_map]; have := lt k; show _ + 1 ≤ _; omega), fun q3 m3 => ?_⟩
      have s3 : Same H2 _ := (same_new m1).trans ((same_new m0).trans ((same_new m2).trans (same_new (o := .lst ((r.take k).map V.int ++ [.int x])) m3)))
      refine ⟨_, rfl, _, rfl, _, _, rfl, rfl, ((k + 1 : Nat) : Int), ek, b, _, rfl, SqL.of (s3 _ _ hb2), fun q4 m4 => ?_⟩
      rw [hhi]
      refine ⟨q3, q4, _, _, rfl, rfl, same_new m4 _ _ upd_same, upd_same, szL (by rw [List.length_append, List.length_map, List.length_map]; have := lt k; have := ld (k + 1); show _ + 1 + _ ≤ _; omega), fun q5 m5 => ?_⟩
      refine fin q5 _ _ (r.take k ++ [x] ++ r.drop (k + 1)) (s3.trans (same_new m4)) m5 (by rw [List.map_append, List.map_append]; rfl) (by rw [List.length_append, List.length_append]; have := lt k; have := ld (k + 1); show _ + 1 + _ ≤ _; omega) (.inr ⟨x, by simp, hx2⟩)
end
end Gal
end
section
set_option Elab.async false
set_option linter.all false
set_option maxRecDepth 100000
set_option maxHeartbeats 4000000
/-! rows as dicts of signs -/
namespace Gal
open PySem PySem.Spec PyProof.Rows L2
def sg (a : Nat) : Str := ⟨#[a]⟩
def colS (i : Nat) : Str := sg (97 + i)
theorem sg_inj {a b : Nat} (e : sg a = sg b) : a = b := by
  injection e with e
  have : [a] = [b] := congrArg Array.toList e
  injection this
theorem colS_inj {i j : Nat} (e : colS i = colS j) : i = j := by have := sg_inj e; omega
def colT (c : Nat) : Str := cutS "abcdefghi" none (some (c : Int))
theorem colT_all : ∀ c : Fin 10, (colT c.val).cps = ((List.range c.val).map fun i => 97 + i).toArray := by decide +kernel
theorem colT_cps {c : Nat} (h : c ≤ 9) : (colT c).cps = ((List.range c).map fun i => 97 + i).toArray := colT_all ⟨c, by omega⟩
theorem colT_size {c : Nat} (h : c ≤ 9) : (colT c).cps.size = c := by rw [colT_cps h]; simp
theorem colT_get {c i : Nat} (h : c ≤ 9) (hi : i < c) : (colT c).cps[i]? = some (97 + i) := by rw [colT_cps h]; simp [hi]
theorem colT_len {c : Nat} (h : c ≤ 9) : (colT c).length = c := colT_size h
/-! ### sorted signs -/
theorem rising_sg : ∀ (cs : List Nat) (a : Nat), risingS (sg a) (cs.map sg) = true → (a :: cs).Pairwise (· ≤ ·)
  | [], _, _ => by simp
  | b :: cs, a, h => by
    have h : (!ltCps (sg b).cps.toList (sg a).cps.toList && risingS (sg b) (cs.map sg)) = true := h
    rw [Bool.and_eq_true] at h
    have ih := rising_sg cs b h.2
    have hab : a ≤ b := by
      have h1 := h.1
      show a ≤ b
      have e : ltCps (sg b).cps.toList (sg a).cps.toList = (decide (b < a) || ((b == a) && ltCps [] [])) := rfl
      rw [e] at h1
      by_cases z : b < a
      · rw [decide_eq_true z] at h1; simp at h1
      · omega
    refine List.pairwise_cons.mpr ⟨fun x hx => ?_, ih⟩
    rcases List.mem_cons.mp hx with z | z
    · subst z; exact hab
    · exact Nat.le_trans hab ((List.pairwise_cons.mp ih).1 x z)
theorem sorted_sg : ∀ cs : List Nat, sortedS (cs.map sg) = true → cs.Pairwise (· ≤ ·)
  | [], _ => List.Pairwise.nil
  | a :: cs, h => rising_sg cs a h
theorem perm_sorted : ∀ {ys xs : List Nat}, ys.Perm xs → ys.Pairwise (· ≤ ·) → xs.Pairwise (· ≤ ·) → ys = xs
  | [], xs, p, _, _ => (List.nil_perm.mp p).symm ▸ rfl
  | y :: ys, [], p, _, _ => absurd p.length_eq (by simp)
  | y :: ys, x :: xs, p, h1, h2 => by
    have e : y = x := by
      have a1 : x ∈ y :: ys := p.mem_iff.mpr List.mem_cons_self
      have a2 : y ∈ x :: xs := p.mem_iff.mp List.mem_cons_self
      have b1 : y ≤ x := by
        rcases List.mem_cons.mp a1 with z | z
        · omega
        · exact (List.pairwise_cons.mp h1).1 x z
      have b2 : x ≤ y := by
        rcases List.mem_cons.mp a2 with z | z
        · omega
        · exact (List.pairwise_cons.mp h2).1 y z
      omega
    subst e
    rw [perm_sorted p.cons_inv (List.pairwise_cons.mp h1).2 (List.pairwise_cons.mp h2).2]
theorem sorted_one {ys : List Str} {is : List Nat} (p : ys.Perm (is.map colS)) (s : sortedS ys = true) (h : is.Pairwise (· < ·)) : ys = is.map colS := by
  have hm : ∀ y ∈ ys, ∃ a, y = sg a := fun y hy => by
    obtain ⟨i, _, rfl⟩ := List.mem_map.mp (p.mem_iff.mp hy)
    exact ⟨97 + i, rfl⟩
  have hc : ∃ cs : List Nat, ys = cs.map sg := by
    clear p s
    induction ys with
    | nil => exact ⟨[], rfl⟩
    | cons y ys ih =>
      obtain ⟨cs, rfl⟩ := ih fun z hz => hm z (List.mem_cons_of_mem _ hz)
      obtain ⟨a, rfl⟩ := hm y List.mem_cons_self
      exact ⟨a :: cs, rfl⟩
  obtain ⟨cs, rfl⟩ := hc
  have e1 : is.map colS = (is.map fun i => 97 + i).map sg := by rw [List.map_map]; rfl
  rw [e1] at p ⊢
  have un : ∀ l : List Nat, (l.map sg).map (fun s : Str => s.cps.getD 0 0) = l := fun l => by
    rw [List.map_map]
    have : (fun s : Str => s.cps.getD 0 0) ∘ sg = id := funext fun a => rfl
    rw [this, List.map_id]
  have p2 := p.map (fun s : Str => s.cps.getD 0 0)
  rw [un, un] at p2
  rw [perm_sorted p2 (sorted_sg cs s) ?_]
  rw [List.pairwise_map]
  exact h.imp fun {a b} z => by omega
/-! ### a row's dict -/
/-- the columns with a step -/
def cl (r : List Int) : List Nat := (List.range r.length).filter fun j => decide (0 ≤ r.getD j (-1))
def dR (r : List Int) : List (Key × V) := (cl r).map fun j => (.inr (colS j), .int (r.getD j (-1)))
theorem cl_lt {r : List Int} : (cl r).Pairwise (· < ·) := List.Pairwise.filter _ List.pairwise_lt_range
theorem mem_cl {r : List Int} {j : Nat} : j ∈ cl r ↔ 0 ≤ r.getD j (-1) := by
  unfold cl
  rw [List.mem_filter, List.mem_range, decide_eq_true_eq]
  refine ⟨fun h => h.2, fun h => ⟨?_, h⟩⟩
  by_cases hj : j < r.length
  · exact hj
  · rw [List.getD_eq_getElem?_getD, List.getElem?_eq_none (by omega)] at h
    exact absurd h (by decide)
theorem cl_len {r : List Int} : (cl r).length ≤ r.length := by
  unfold cl
  have := List.length_filter_le (fun j => decide (0 ≤ r.getD j (-1))) (List.range r.length)
  rw [List.length_range] at this
  exact this
theorem dR_len {r : List Int} : (dR r).length ≤ r.length := by unfold dR; rw [List.length_map]; exact cl_len
theorem val_cols {f : Nat → V} : ∀ {is : List Nat} {j : Nat}, valV (is.map fun i => ((Sum.inr (colS i) : Key), f i)) (.inr (colS j)) = if j ∈ is then some (f j) else none
  | [], _ => rfl
  | i :: is, j => by
    by_cases e : i = j
    · subst e
      rw [if_pos List.mem_cons_self]
      exact valV_pos (p := ((Sum.inr (colS i) : Key), f i)) rfl
    · have e' : ¬ (Sum.inr (colS i) : Key) = .inr (colS j) := fun z => e (colS_inj (Sum.inr.inj z))
      have h := valV_neg (p := ((Sum.inr (colS i) : Key), f i)) (r := is.map fun i => ((Sum.inr (colS i) : Key), f i)) (k := .inr (colS j)) e'
      show valV (((Sum.inr (colS i) : Key), f i) :: is.map fun i => ((Sum.inr (colS i) : Key), f i)) (.inr (colS j)) = _
      rw [h, val_cols]
      by_cases hm : j ∈ is
      · rw [if_pos hm, if_pos (List.mem_cons_of_mem _ hm)]
      · rw [if_neg hm, if_neg (fun z => by rcases List.mem_cons.mp z with z | z; exact e z.symm; exact hm z)]
theorem dR_val {r : List Int} {j : Nat} : valV (dR r) (.inr (colS j)) = if 0 ≤ r.getD j (-1) then some (.int (r.getD j (-1))) else none := by
  unfold dR
  rw [val_cols]
  by_cases h : 0 ≤ r.getD j (-1)
  · rw [if_pos (mem_cl.mpr h), if_pos h]
  · rw [if_neg (fun z => h (mem_cl.mp z)), if_neg h]
theorem getD_app {r : List Int} {x : Int} {j : Nat} (h : j < r.length) : (r ++ [x]).getD j (-1) = r.getD j (-1) := by
  rw [List.getD_eq_getElem?_getD, List.getD_eq_getElem?_getD, List.getElem?_append_left h]
theorem getD_last {r : List Int} {x : Int} : (r ++ [x]).getD r.length (-1) = x := by
  rw [List.getD_eq_getElem?_getD, List.getElem?_append_right (Nat.le_refl _), Nat.sub_self]; rfl
theorem cl_snoc {r : List Int} {x : Int} : cl (r ++ [x]) = cl r ++ if 0 ≤ x then [r.length] else [] := by
  unfold cl
  rw [List.length_append, List.length_singleton, List.range_succ, List.filter_append]
  have e1 : (List.range r.length).filter (fun j => decide (0 ≤ (r ++ [x]).getD j (-1))) = (List.range r.length).filter (fun j => decide (0 ≤ r.getD j (-1))) :=
    List.filter_congr fun j hj => by rw [getD_app (List.mem_range.mp hj)]
  rw [e1]
  congr 1
  by_cases h : 0 ≤ x
  · rw [if_pos h, List.filter_cons_of_pos (by rw [getD_last, decide_eq_true h])]; rfl
  · rw [if_neg h, List.filter_cons_of_neg (by rw [getD_last]; simpa using h)]; rfl
theorem dR_snoc {r : List Int} {x : Int} : dR (r ++ [x]) = dR r ++ if 0 ≤ x then [(.inr (colS r.length), .int x)] else [] := by
  unfold dR
  rw [cl_snoc, List.map_append]
  congr 1
  · refine List.map_congr_left fun j hj => ?_
    have : j < r.length := by
      unfold cl at hj
      exact List.mem_range.mp (List.mem_filter.mp hj).1
    rw [getD_app this]
  · by_cases h : 0 ≤ x
    · rw [if_pos h, if_pos h]
      show [((Sum.inr (colS r.length) : Key), V.int ((r ++ [x]).getD r.length (-1)))] = _
      rw [getD_last]
    · rw [if_neg h, if_neg h]; rfl
theorem put_new {kvs : List (Key × V)} {k : Key} {v : V} (h : ∀ kv ∈ kvs, kv.1 ≠ k) : putK kvs k v = kvs ++ [(k, v)] := by
  have hn : (kvs.any fun kv => decide (kv.1 = k)) = false := by
    rw [List.any_eq_false]
    intro kv hkv
    simp only [decide_eq_true_eq]
    exact h kv hkv
  unfold putK
  rw [hn]; rfl
theorem dR_put {r : List Int} {x : Int} (h : 0 ≤ x) : putK (dR r) (.inr (colS r.length)) (.int x) = dR (r ++ [x]) := by
  rw [dR_snoc, if_pos h]
  refine put_new fun kv hkv => ?_
  unfold dR at hkv
  obtain ⟨j, hj, rfl⟩ := List.mem_map.mp hkv
  intro z
  have e := colS_inj (Sum.inr.inj z)
  unfold cl at hj
  have := List.mem_range.mp (List.mem_filter.mp hj).1
  omega
theorem snoc_rec {α : Type} {P : List α → Prop} (h0 : P []) (h1 : ∀ l x, P l → P (l ++ [x])) (l : List α) : P l := by
  suffices h : ∀ n (l : List α), l.length = n → P l from h _ l rfl
  intro n
  induction n with
  | zero => intro l h; rw [List.length_eq_zero_iff.mp h]; exact h0
  | succ n ih =>
    intro l h
    have hne : l ≠ [] := fun z => by subst z; cases h
    rw [← List.dropLast_concat_getLast hne]
    exact h1 _ _ (ih _ (by rw [List.length_dropLast, h]; rfl))
theorem posl_cl (r : List Int) : posl r = (cl r).map fun j => (r.getD j (-1)).toNat := by
  refine snoc_rec (P := fun r => posl r = (cl r).map fun j => (r.getD j (-1)).toNat) rfl (fun r x ih => ?_) r
  show posl (r ++ [x]) = (cl (r ++ [x])).map fun j => ((r ++ [x]).getD j (-1)).toNat
  have e1 : posl (r ++ [x]) = posl r ++ (if 0 ≤ x then [x.toNat] else []) := by
    unfold posl
    rw [List.filterMap_append]
    congr 1
    by_cases h : 0 ≤ x
    · rw [if_pos h, List.filterMap_cons_some (pos_nn h)]; rfl
    · rw [if_neg h, List.filterMap_cons_none (pos_neg (by omega))]; rfl
  rw [e1, ih, cl_snoc, List.map_append]
  congr 1
  · refine List.map_congr_left fun j hj => ?_
    have : j < r.length := by
      unfold cl at hj
      exact List.mem_range.mp (List.mem_filter.mp hj).1
    rw [getD_app this]
  · by_cases h : 0 ≤ x
    · rw [if_pos h, if_pos h]
      show [x.toNat] = [((r ++ [x]).getD r.length (-1)).toNat]
      rw [getD_last]
    · rw [if_neg h, if_neg h]; rfl
/-- at b: the dict of the row r -/
def DAt (H : Hp) (b : Addr) (r : List Int) : Prop := H b = some (.dK (dR r))
abbrev DRws (H : Hp) (as : List Addr) (R : List (List Int)) : Prop := Paired (DAt H) as R
theorem DRws.same {H H' : Hp} (s : Same H H') {as : List Addr} {R : List (List Int)} (h : DRws H as R) : DRws H' as R := Paired.mapP h fun b r e => s b _ e
/-- at a: a list of such dicts -/
def DTb (H : Hp) (a : Addr) (R : List (List Int)) : Prop := ∃ as, H a = some (rL as) ∧ DRws H as R
theorem DTb.same {H H' : Hp} {a : Addr} (s : Same H H') {R : List (List Int)} (h : DTb H a R) : DTb H' a R := by
  obtain ⟨as, h1, h2⟩ := h
  exact ⟨as, s _ _ h1, h2.same s⟩
theorem keys_dR {r : List Int} : ((dR r).map fun kv => kV kv.1) = ((cl r).map colS).map V.str := by
  unfold dR
  rw [List.map_map, List.map_map]; rfl
end Gal
end
section
set_option Elab.async false
set_option linter.all false
set_option maxRecDepth 100000
set_option maxHeartbeats 4000000
namespace Gal
open PySem PySem.Spec PyProof.Rows L2
section
variable {P : Program} {w : World} {K : PySem.W.Frag} {mg : Str → Option Value} {base : Heap}
/-! ### the states that are found -/
abbrev N_found_states : List Str := ["rows", "order", "found", "came", "at", "row", "symbol", "after"]
theorem sc_found_states : FnScope N_found_states ["rows"] (defScope s_found_states) := ⟨rfl, rfl, rfl, by decide +kernel, rfl, by decide +kernel, by decide +kernel⟩
theorem b_found_states (T : TX K mg) : Binds K T.d_found_states ["rows"] [] := T.F_found_states.bindsN fun _ _ _ _ _ _ us hl => match us, hl with | [_], _ => rfl
def fd (O : List Nat) : List (Key × V) := O.map fun (s : Nat) => (.inl (s : Int), .bl true)
theorem fd_val {t : Nat} : ∀ {O : List Nat}, valV (fd O) (.inl (t : Int)) = if t ∈ O then some (.bl true) else none
  | [] => rfl
  | s :: O => by
    by_cases e : s = t
    · subst e
      rw [if_pos List.mem_cons_self]
      exact valV_pos (p := ((Sum.inl (s : Int) : Key), V.bl true)) rfl
    · have e' : ¬ (Sum.inl (s : Int) : Key) = .inl (t : Int) := fun z => e (by have := Sum.inl.inj z; omega)
      have h := valV_neg (p := ((Sum.inl (s : Int) : Key), V.bl true)) (r := fd O) (k := .inl (t : Int)) e'
      show valV (((Sum.inl (s : Int) : Key), V.bl true) :: fd O) (.inl (t : Int)) = _
      rw [h, fd_val]
      by_cases hm : t ∈ O
      · rw [if_pos hm, if_pos (List.mem_cons_of_mem _ hm)]
      · rw [if_neg hm, if_neg (fun z => by rcases List.mem_cons.mp z with z | z; exact e z.symm; exact hm z)]
theorem fd_put {t : Nat} {O : List Nat} (h : t ∉ O) : putK (fd O) (.inl (t : Int)) (.bl true) = fd (O ++ [t]) := by
  rw [put_new]
  · unfold fd; rw [List.map_append]; rfl
  · intro kv hkv
    obtain ⟨s, hs, rfl⟩ := List.mem_map.mp hkv
    intro z
    have := Sum.inl.inj z
    exact h (by rw [show t = s by omega]; exact hs)
theorem dedF_len {α : Type} [DecidableEq α] : ∀ {m l : List α}, (dedF l m).length ≤ l.length + m.length
  | [], l => by show l.length ≤ _; simp
  | x :: m, l => by
    have h := dedF_len (m := m) (l := addn l x)
    have h2 : (addn l x).length ≤ l.length + 1 := by
      unfold addn
      by_cases hx : x ∈ l
      · rw [if_pos hx]; omega
      · rw [if_neg hx, List.length_append]; exact Nat.le_refl _
    show (dedF (addn l x) m).length ≤ _
    rw [List.length_cons]; omega
theorem bfs_len {c k : Nat} {R : List (List Int)} {G : List Bool} (W : WF c R G) : (bfs R k).length ≤ R.length := by
  have := nodup_len (l := bfs R k) (m := List.range R.length) (bfs_nodup k) fun x hx => List.mem_range.mpr (bfs_lt W k x hx)
  rwa [List.length_range] at this
def sp_found : Sp := fun vs H Q _ => ∃ (a : Addr) (c : Nat) (R : List (List Int)) (G : List Bool), vs = [.ref a] ∧ DTb H a R ∧ WF c R G ∧ R.length ≤ 60 ∧ c ≤ 9 ∧ ∀ (z o cm : Addr) (k : Nat) (H' : Hp), Same H H' → H' z = some (.tup [.ref o, .ref cm]) → H' o = some (iL ((bfs R k).map Int.ofNat)) → Done R k → Q (.ref z) H'
theorem ok_found_states (T : TX K mg) : FnOk P w K mg base CX0 1 (He.fAd K ("found_states", none)) T.d_found_states ["rows"] sp_found := by
  refine T.F_found_states.ok sc_found_states (fun vs H Q E h => ?_) (fun cdv A outer s H vs Q E hr h => ?_)
  · obtain ⟨a, c, R, G, rfl, _⟩ := h
    rfl
  · obtain ⟨a, c, R, G, rfl, ⟨as, ha, hR⟩, W, hl, hc, q⟩ := h
    refine ⟨_, PSs.nox (pss_cons (ps_set (i := 1) sc_found_states.nd rfl (Or.inl rfl) (pe_lst (pa_cons pe_int pa_nil)))
    (pss_cons (ps_set (i := 2) sc_found_states.nd rfl (Or.inl rfl) (pe_disp (pps_cons pe_int pe_bl pps_nil) (by rfl) (by rfl) (fun z => by cases z) (by decide)))
    (pss_cons (ps_set (i := 3) sc_found_states.nd rfl (Or.inl rfl) (pe_lst (pa_cons pe_non pa_nil)))
    (pss_cons (ps_set (i := 4) sc_found_states.nd rfl (Or.inl rfl) pe_int)
    (pss_cons (ps_while PassesOwn.never (pt_cmpR op_lt (pv 4) (pe_callB (lenK K) (by rfl) T.n_len PySem.boot_len (pa_cons (pv 1) pa_nil)) (nomark _)) (pss_cons (ps_set (i := 5) sc_found_states.nd rfl (Or.inl rfl) (pe_ix (ixL K) (pv 0) (pe_ix (ixL K) (pv 1) (pv 4) (fun _ _ => rfl)) (fun _ _ => rfl)))
      (pss_cons (ps_for PassesOwn.never rfl (pi_listK K (pe_callB (srtK K) (by rfl) T.n_sorted bt_sorted (pa_cons (pe_callTy (call_list_dK rfl) (by rfl) T.n_list bt_list (pa_cons (pv 5) pa_nil)) pa_nil))) (pg_name (i := 6) sc_found_states.nd rfl (Or.inl rfl)) (pss_cons (ps_set (i := 7) sc_found_states.nd rfl (Or.inl rfl) (pe_dget (hu_of hr) (pv 5) (pv 6) (fun _ _ => rfl)))
        (pss_one (ps_if (pt_cmp (pc_dnotin (hu_of hr) (pv 7) (pv 2))) (pss_cons (ps_dput (hu_of hr) (pv 2) (pv 7) pe_bl rfl)
          (pss_cons (ps_expr (bmK K PySem.F.plainAttrs_list PySem.F.slot_list_append PySem.F.type_list_append mt_append (pv 1) (pa_cons (pv 7) pa_nil)))
          (pss_one (ps_expr (bmK K PySem.F.plainAttrs_list PySem.F.slot_list_append PySem.F.type_list_append mt_append (pv 3) (pa_cons (pe_tup (pa_cons (pv 4) (pa_cons (pv 6) pa_nil))) pa_nil)))))) pss_nil))))
      (pss_one (ps_set (i := 4) sc_found_states.nd rfl (Or.inl rfl) (pe_op op_add (pv 4) pe_int))))))
    (pss_one (ps_ret (pe_tup (pa_cons (pv 1) (pa_cons (pv 3) pa_nil)))))))))), ?_⟩
    have hpos := W.pos
    refine ⟨(by show 1 ≤ sizeLine; decide), fun l nl => ?_⟩
    intro d nd
    refine ⟨upd_same, [(.inl 0, .bl true)], rfl, by decide, (by show 1 ≤ sizeLine; decide), fun cm nc => ?_⟩
    rw [upd_upd] at nc ⊢
    have em : mergeK [] [((Sum.inl 0 : Key), V.bl true)] = fd [0] := rfl
    rw [em] at nc ⊢
    have ld : l ≠ d := ne_of_none upd_same nd
    have s1 : Same H (upd H l (.lst [.int 0])) := same_new nl
    have s2 := s1.trans (same_new (o := .dK (fd [0])) nd)
    have s3 := s2.trans (same_new (o := .lst [.non]) nc)
    have hl3 : upd (upd (upd H l (.lst [.int 0])) d (.dK (fd [0]))) cm (.lst [.non]) l = some (iL ([0].map Int.ofNat)) := same_new nc _ _ (same_new nd _ _ upd_same)
    have hd3 : upd (upd (upd H l (.lst [.int 0])) d (.dK (fd [0]))) cm (.lst [.non]) d = some (.dK (fd [0])) := same_new nc _ _ upd_same
    have hc3 : upd (upd (upd H l (.lst [.int 0])) d (.dK (fd [0]))) cm (.lst [.non]) cm = some (.lst [.non]) := upd_same
    have ndH : H d = none := s1.free nd
    have ncH : H cm = none := s2.free nc
    have lc : l ≠ cm := ne_of_none (same_new nd _ _ upd_same) nc
    generalize upd (upd (upd H l (.lst [.int 0])) d (.dK (fd [0]))) cm (.lst [.non]) = H3 at s3 hl3 hd3 hc3
    let Iv (k : Nat) (σ : L2.St) (H' : Hp) : Prop := ∃ (cs : List V) (y5 y6 y7 : Option V), σ = [some (.ref a), some (.ref l), some (.ref d), some (.ref cm), some (.int (k : Nat)), y5, y6, y7] ∧ Same H H' ∧ H' l = some (iL ((bfs R k).map Int.ofNat)) ∧ H' d = some (.dK (fd (bfs R k))) ∧ H' cm = some (.lst cs) ∧ cs.length = (bfs R k).length ∧ k ≤ (bfs R k).length
    refine ⟨fun m σ H' => ∃ k, m = R.length - k ∧ Iv k σ H', ⟨_, 0, rfl, [.non], none, none, none, rfl, s3, hl3, hd3, hc3, rfl, Nat.zero_le _⟩, ?_⟩
    rintro m σ H4 ⟨k, rfl, cs, y5, y6, y7, rfl, s4, hl4, hd4, hc4, hcs, hk⟩
    have hbl := bfs_len (k := k) W
    have el : ((((bfs R k).map Int.ofNat).map V.int).length : Int) = ((bfs R k).length : Int) := by rw [List.length_map, List.length_map]
    refine ⟨_, rfl, _, rfl, l, _, rfl, .inl (SqL.of hl4), _, _, rfl, rfl, _, rfl, ?_⟩
    rw [el]
    refine ite2 (fun h0 => ?_) (fun h0 => ?_)
    · have h0 := of_decide_eq_true h0
      have hkl : k < (bfs R k).length := by omega
      refine ⟨fun σ' H' => Iv (k + 1) σ' H', fun σ' H' h => ⟨R.length - (k + 1), by omega, k + 1, rfl, h⟩, ?_⟩
      have hst : (bfs R k)[k]? = some ((bfs R k)[k]) := List.getElem?_eq_getElem hkl
      generalize hse : (bfs R k)[k] = st at hst
      have hsl : st < R.length := bfs_lt W k st (List.mem_of_getElem? hst)
      obtain ⟨b, hb, hrb⟩ := paired_get' hR (row_mem hsl)
      obtain ⟨wl, wb⟩ := wf_row W hsl
      have hcl := cl_len (r := row R st)
      refine ⟨_, rfl, _, rfl, _, rfl, l, _, _, _, rfl, rfl, SqL.of hl4, atI_map (x := Int.ofNat st) (by rw [List.getElem?_map, hst]; rfl), a, _, _, _, rfl, rfl, SqL.of (s4 _ _ ha), atI_map' (i := st) rfl hb, ?_⟩
      refine ⟨_, rfl, b, _, rfl, s4 _ _ hrb, fun q1 nq1 => ⟨q1, (cl (row R st)).map colS, rfl, SqL.of (by rw [keys_dR]; exact upd_same), by rw [List.length_map]; omega, fun ys q2 hp hs nq2 => ?_⟩⟩
      have hys := sorted_one hp hs cl_lt
      subst hys
      rw [keys_dR] at nq2 ⊢
      have s5 : Same H4 _ := (same_new (o := .lst (((cl (row R st)).map colS).map V.str)) nq1).trans (same_new (o := .lst (((cl (row R st)).map colS).map V.str)) nq2)
      have hq2 : upd (upd H4 q1 (.lst (((cl (row R st)).map colS).map V.str))) q2 (.lst (((cl (row R st)).map colS).map V.str)) q2 = some (.lst (((cl (row R st)).map colS).map V.str)) := upd_same
      have q2l : q2 ≠ l := (ne_of_none (same_new nq1 _ _ hl4) nq2).symm
      have q2d : q2 ≠ d := (ne_of_none (same_new nq1 _ _ hd4) nq2).symm
      have q2c : q2 ≠ cm := (ne_of_none (same_new nq1 _ _ hc4) nq2).symm
      refine ⟨q2, rfl, ⟨_, SqL.of upd_same⟩, ?_⟩
      generalize upd (upd H4 q1 (.lst (((cl (row R st)).map colS).map V.str))) q2 (.lst (((cl (row R st)).map colS).map V.str)) = H5 at s5 hq2
      refine for_list (xs := ((cl (row R st)).map colS).map V.str) (fun j σ H' => ∃ (cs : List V) (y6 y7 : Option V), σ = [some (.ref a), some (.ref l), some (.ref d), some (.ref cm), some (.int (k : Nat)), some (.ref b), y6, y7] ∧ Same H H' ∧ H' q2 = some (.lst (((cl (row R st)).map colS).map V.str)) ∧ H' l = some (iL ((dedF (bfs R k) ((posl (row R st)).take j)).map Int.ofNat)) ∧ H' d = some (.dK (fd (dedF (bfs R k) ((posl (row R st)).take j)))) ∧ H' cm = some (.lst cs) ∧ cs.length = (dedF (bfs R k) ((posl (row R st)).take j)).length) ?_ ?_ ?_ ?_
      · exact ⟨cs, _, _, rfl, s4.trans s5, hq2, by rw [List.take_zero]; exact s5 _ _ hl4, by rw [List.take_zero]; exact s5 _ _ hd4, s5 _ _ hc4, by rw [List.take_zero]; exact hcs⟩
      · rintro j σ H' _ ⟨cs, y6, y7, rfl, s6, hq6, _⟩
        exact SqL.of hq6
      · rintro j x σ H6 hx ⟨cs, y6, y7, rfl, s6, hq6, hl6, hd6, hc6, hcs6⟩
        rw [List.map_map] at hx
        obtain ⟨i, hi, rfl⟩ := map_get' (f := V.str ∘ colS) hx
        have hi0 : 0 ≤ (row R st).getD i (-1) := mem_cl.mp (List.mem_of_getElem? hi)
        obtain ⟨t, ht⟩ : ∃ t : Nat, (row R st).getD i (-1) = (t : Int) := ⟨((row R st).getD i (-1)).toNat, by omega⟩
        have hpj : (posl (row R st))[j]? = some t := by
          rw [posl_cl, List.getElem?_map, hi]
          show some ((row R st).getD i (-1)).toNat = some t
          rw [ht]; rfl
        have htk : (posl (row R st)).take (j + 1) = (posl (row R st)).take j ++ [t] := by rw [List.take_add_one, hpj]; rfl
        have hO : dedF (bfs R k) ((posl (row R st)).take (j + 1)) = addn (dedF (bfs R k) ((posl (row R st)).take j)) t := by rw [htk, dedF_app]; rfl
        have hOl : (dedF (bfs R k) ((posl (row R st)).take j)).length ≤ 100 := by
          have h1 := dedF_len (l := bfs R k) (m := (posl (row R st)).take j)
          have h2 : ((posl (row R st)).take j).length ≤ (cl (row R st)).length := by rw [posl_cl, List.length_take, List.length_map]; omega
          omega
        rw [hO]
        generalize dedF (bfs R k) ((posl (row R st)).take j) = O at hl6 hd6 hcs6 hOl hO
        have hg : DGet H6 b (.str (colS i)) (some (.int (t : Nat))) := by
          have := DGet.k (k := .inr (colS i)) (s6 _ _ hrb)
          rw [dR_val, if_pos hi0, ht] at this
          exact this
        refine ⟨_, rfl, _, rfl, b, _, rfl, hg, ?_⟩
        refine ⟨_, rfl, _, rfl, d, _, rfl, DGet.k (k := .inl (t : Int)) hd6, _, rfl, ?_⟩
        rw [fd_val]
        by_cases hm : t ∈ O
        · rw [if_pos hm]
          refine iteF ⟨cs, _, _, rfl, s6, hq6, ?_, ?_, hc6, ?_⟩
          · rw [show addn O t = O from if_pos hm]; exact hl6
          · rw [show addn O t = O from if_pos hm]; exact hd6
          · rw [show addn O t = O from if_pos hm]; exact hcs6
        · rw [if_neg hm]
          have ea : addn O t = O ++ [t] := if_neg hm
          refine iteT ?_
          refine ⟨_, rfl, _, rfl, d, _, rfl, DPut.k (k := .inl (t : Int)) hd6 (szLt (by unfold fd; rw [List.length_map]; omega)), ?_⟩
          rw [fd_put hm]
          have hl7 : upd H6 d (.dK (fd (O ++ [t]))) l = some (iL (O.map Int.ofNat)) := upd_at ld hl6
          refine ⟨_, rfl, .inl ⟨rfl, _, SqL.of hl7⟩, _, rfl, l, _, _, rfl, rfl, hl7, szLt (by rw [List.length_map, List.length_map]; omega), ?_⟩
          have cd : cm ≠ d := (ne_of_none (by exact (upd_same : upd (upd H l (.lst [.int 0])) d (.dK (fd [0])) d = _)) nc).symm
          have hc7 : upd (upd H6 d (.dK (fd (O ++ [t])))) l (.lst ((O.map Int.ofNat).map V.int ++ [.int (t : Nat)])) cm = some (.lst cs) := upd_at (Ne.symm lc) (upd_at cd hc6)
          refine ⟨_, rfl, .inl ⟨rfl, _, SqL.of hc7⟩, _, rfl, _, rfl, (by show 2 ≤ sizeLine; decide), fun tt ntt => ⟨cm, _, _, rfl, rfl, same_new ntt _ _ hc7, szLt (by omega), ?_⟩⟩
          refine ⟨cs ++ [.ref tt], _, _, rfl, same_mut ((same_mut (same_mut s6 ndH) nl).trans (same_new ntt)) ncH, ?_, ?_, ?_, upd_same, by rw [List.length_append, ea, List.length_append, hcs6]; rfl⟩
          · exact upd_at q2c (same_new ntt _ _ (upd_at q2l (upd_at q2d hq6)))
          · refine upd_at lc (same_new ntt _ _ ?_)
            rw [upd_same, ea, List.map_append]
            show some (HO.lst _) = some (HO.lst ((List.map Int.ofNat O ++ [(t : Int)]).map V.int))
            rw [List.map_append]; rfl
          · rw [ea]
            exact upd_at (Ne.symm cd) (same_new ntt _ _ (upd_at (Ne.symm ld) upd_same))
      · rintro σ H6 ⟨cs, y6, y7, rfl, s6, hq6, hl6, hd6, hc6, hcs6⟩
        have hlen : (((cl (row R st)).map colS).map V.str).length = (posl (row R st)).length := by rw [posl_cl, List.length_map, List.length_map, List.length_map]
        rw [hlen, List.take_length] at hl6 hd6 hcs6
        rw [← bfs_succ hst] at hl6 hd6 hcs6
        have hpre := (bfs_pre1 (R := R) k).length_le
        refine ⟨_, rfl, _, _, rfl, rfl, cs, _, _, _, rfl, s6, hl6, hd6, hc6, hcs6, by omega⟩
    · have h0' : ¬ (k : Int) < ((bfs R k).length : Int) := fun z => h0 (decide_eq_true z)
      refine ⟨_, rfl, _, rfl, (by show 2 ≤ sizeLine; decide), fun z nz => ?_⟩
      exact q z l cm k _ (s4.trans (same_new nz)) upd_same (same_new nz _ _ hl4) (by show (bfs R k).length = k; omega)
end
end Gal
end
section
set_option Elab.async false
set_option linter.all false
set_option maxRecDepth 100000
set_option maxHeartbeats 4000000
/-! classes of states -/
namespace Gal
open PySem PySem.Spec PyProof.Rows L2
open Classical in
noncomputable def langN (R : List (List Int)) (G : List Bool) : List Int := numI ((List.range R.length).map (L_ R G))
def bas (R : List (List Int)) (G : List Bool) (s : Nat) : Bool × List Nat := (gdI G s, cl (row R s))
def kc (R : List (List Int)) (KS : List Int) (s : Nat) : Int × List Int := (KS.getD s 0, (posl (row R s)).map fun t => KS.getD t 0)
def nk0 (p : Bool × List Nat) : NKey := .tup [.num (if p.1 = true then 1 else 0), .tup (p.2.map fun j => .text (colS j))]
theorem nk0_inj : ∀ x y : Bool × List Nat, nk0 x = nk0 y → x = y := fun x y e => by
  unfold nk0 at e
  injection e with e
  injection e with e1 e2
  injection e1 with e1
  injection e2 with e2 _
  injection e2 with e2
  have h : ∀ l m : List Nat, (l.map fun j => PySem.NestedKey.text (colS j)) = (m.map fun j => PySem.NestedKey.text (colS j)) → l = m := fun l => by
    induction l with
    | nil => intro m h; cases m with
      | nil => rfl
      | cons _ _ => cases h
    | cons a l ih => intro m h; cases m with
      | nil => cases h
      | cons b m =>
        injection h with h1 h2
        injection h1 with h1
        rw [colS_inj h1, ih m h2]
  refine Prod.ext ?_ (h _ _ e2)
  revert e1
  cases x.1 <;> cases y.1 <;> intro e1
  · rfl
  · exact absurd e1 (by decide)
  · exact absurd e1 (by decide)
  · rfl
/-- lists by states -/
abbrev bySt {α : Type} (R : List (List Int)) (f : Nat → α) : List α := (List.range R.length).map f
theorem bySt_get {α : Type} {R : List (List Int)} {f : Nat → α} {s : Nat} (h : s < R.length) : (bySt R f)[s]? = some (f s) := by
  rw [List.getElem?_map, List.getElem?_range h]; rfl
theorem bySt_len {α : Type} {R : List (List Int)} {f : Nat → α} : (bySt R f).length = R.length := by rw [List.length_map, List.length_range]
theorem bySt_rfn {α β : Type} {R : List (List Int)} {f : Nat → α} {g : Nat → β} (h : ∀ s t, s < R.length → t < R.length → f s = f t → g s = g t) : Rfn (bySt R f) (bySt R g) := by
  refine ⟨by rw [bySt_len, bySt_len], fun i j hi hj e => ?_⟩
  rw [bySt_len] at hi hj
  rw [bySt_get hi, bySt_get hj] at e ⊢
  rw [h i j hi hj (Option.some.inj e)]
theorem rfn_bySt {α β : Type} {R : List (List Int)} {f : Nat → α} {g : Nat → β} (h : Rfn (bySt R f) (bySt R g)) {s t : Nat} (hs : s < R.length) (ht : t < R.length) (e : f s = f t) : g s = g t := by
  have := h.2 s t (by rw [bySt_len]; exact hs) (by rw [bySt_len]; exact ht) (by rw [bySt_get hs, bySt_get ht, e])
  rw [bySt_get hs, bySt_get ht] at this
  exact Option.some.inj this
theorem bySt_self {R : List (List Int)} {KS : List Int} (h : KS.length = R.length) : bySt R (fun s => KS.getD s 0) = KS := by
  refine List.ext_getElem? fun i => ?_
  by_cases hi : i < R.length
  · rw [bySt_get hi, List.getD_eq_getElem?_getD, List.getElem?_eq_getElem (by omega)]; rfl
  · rw [List.getElem?_eq_none (by rw [bySt_len]; omega), List.getElem?_eq_none (by omega)]
section
variable {c : Nat} {R : List (List Int)} {G : List Bool}
theorem stI_cl {s j : Nat} : j ∈ cl (row R s) ↔ ∃ t, stI R s j = some t := by
  rw [mem_cl, stI_row]
  constructor
  · intro h; exact ⟨_, pos_nn h⟩
  · rintro ⟨t, h⟩
    have := pos_some h
    omega
theorem st_full (hL : ∀ s, s < R.length → Lead (stI R) (gdI G) s) (W : WF c R G) {s j : Nat} : (∃ t, stI R s j = some t) ↔ Full (der (L_ R G s) j) := by
  constructor
  · rintro ⟨t, h⟩
    rw [der_some h]
    exact hL t (stI_lt W h).1
  · intro h
    cases e : stI R s j with
    | none => exact absurd h (der_none e)
    | some t => exact ⟨t, rfl⟩
theorem cl_range (W : WF c R G) {s : Nat} (hs : s < R.length) : cl (row R s) = (List.range c).filter fun j => decide (0 ≤ (row R s).getD j (-1)) := by
  unfold cl
  rw [(wf_row W hs).1]
theorem lang_base (W : WF c R G) (hL : ∀ s, s < R.length → Lead (stI R) (gdI G) s) {s s' : Nat} (hs : s < R.length) (hs' : s' < R.length) (e : L_ R G s = L_ R G s') : bas R G s = bas R G s' := by
  refine Prod.ext (congrFun e []) ?_
  show cl (row R s) = cl (row R s')
  rw [cl_range W hs, cl_range W hs']
  refine List.filter_congr fun j _ => ?_
  have h : (0 ≤ (row R s).getD j (-1)) ↔ (0 ≤ (row R s').getD j (-1)) := by
    rw [← mem_cl, ← mem_cl, stI_cl, stI_cl, st_full hL W, st_full hL W, e]
  by_cases z : 0 ≤ (row R s).getD j (-1)
  · rw [decide_eq_true z, decide_eq_true (h.mp z)]
  · rw [decide_eq_false z, decide_eq_false (fun q => z (h.mpr q))]
theorem st_getD {s j t : Nat} (h : stI R s j = some t) : ((row R s).getD j (-1)).toNat = t := by
  rw [stI_row] at h
  have := pos_some h
  omega
/-- classes that no strip tells apart, of which equal ones have equal truth values and columns -/
structure CInv (R : List (List Int)) (G : List Bool) (KS : List Int) : Prop where
  low : Rfn (bySt R (L_ R G)) KS
  hi : Rfn KS (bySt R (bas R G))
  num : ∃ ks : List NKey, KS = numI ks
theorem CInv.len {KS : List Int} (h : CInv R G KS) : KS.length = R.length := by rw [← h.low.1, bySt_len]
theorem CInv.get {KS : List Int} (h : CInv R G KS) {s : Nat} (hs : s < R.length) : KS[s]? = some (KS.getD s 0) := by
  rw [List.getD_eq_getElem?_getD, List.getElem?_eq_getElem (by rw [h.len]; exact hs)]; rfl
theorem CInv.first (W : WF c R G) (hL : ∀ s, s < R.length → Lead (stI R) (gdI G) s) : CInv R G (numI (bySt R fun s => nk0 (bas R G s))) := by
  have e : (bySt R fun s => nk0 (bas R G s)) = (bySt R (bas R G)).map nk0 := by rw [List.map_map]; rfl
  refine ⟨?_, ?_, _, rfl⟩
  · refine Rfn.trans ?_ rfn_numI
    exact bySt_rfn fun s t hs ht z => by rw [lang_base W hL hs ht z]
  · refine numI_rfn.trans ?_
    rw [e]
    exact rfn_unmap nk0_inj _
theorem kc_low (W : WF c R G) (hL : ∀ s, s < R.length → Lead (stI R) (gdI G) s) {KS : List Int} (h : CInv R G KS) : Rfn (bySt R (L_ R G)) (bySt R (kc R KS)) := by
  refine bySt_rfn fun s t hs ht e => ?_
  have hlow : ∀ {x y : Nat}, x < R.length → y < R.length → L_ R G x = L_ R G y → KS.getD x 0 = KS.getD y 0 := fun {x y} hx hy z => by
    have := h.low
    rw [← bySt_self h.len] at this
    exact rfn_bySt this hx hy z
  refine Prod.ext (hlow hs ht e) ?_
  have hb := lang_base W hL hs ht e
  have hcl : cl (row R s) = cl (row R t) := congrArg Prod.snd hb
  show (posl (row R s)).map _ = (posl (row R t)).map _
  rw [posl_cl, posl_cl, ← hcl, List.map_map, List.map_map]
  refine List.map_congr_left fun j hj => ?_
  obtain ⟨x, hx⟩ := stI_cl.mp hj
  obtain ⟨y, hy⟩ := stI_cl.mp (hcl ▸ hj)
  show KS.getD ((row R s).getD j (-1)).toNat 0 = KS.getD ((row R t).getD j (-1)).toNat 0
  rw [st_getD hx, st_getD hy]
  refine hlow (stI_lt W hx).1 (stI_lt W hy).1 ?_
  show lang _ _ x = lang _ _ y
  rw [← der_some (g := gdI G) hx, ← der_some (g := gdI G) hy]
  exact congrArg (fun l => der l j) e
theorem kc_hi {KS : List Int} (h : CInv R G KS) : Rfn (bySt R (kc R KS)) KS := by
  rw [← bySt_self h.len]
  exact bySt_rfn fun s t _ _ e => by
    have := congrArg Prod.fst e
    have e2 : (bySt R fun s => KS.getD s 0) = KS := bySt_self h.len
    rw [e2] at this
    exact this
theorem CInv.next (W : WF c R G) (hL : ∀ s, s < R.length → Lead (stI R) (gdI G) s) {KS : List Int} (h : CInv R G KS) : CInv R G (numI (bySt R fun s => nkOf (kc R KS s))) := by
  have e : (bySt R fun s => nkOf (kc R KS s)) = (bySt R (kc R KS)).map nkOf := by rw [List.map_map]; rfl
  refine ⟨?_, ?_, _, rfl⟩
  · rw [e]
    exact (kc_low W hL h).trans ((rfn_map _ _).trans rfn_numI)
  · rw [e]
    exact numI_rfn.trans ((rfn_unmap nkOf_inj _).trans ((kc_hi h).trans h.hi))
theorem CInv.acc (W : WF c R G) {KS : List Int} (h : CInv R G KS) (hs : Rfn KS (bySt R (kc R KS))) : ∀ (w : List Nat) (s t : Nat), s < R.length → t < R.length → KS.getD s 0 = KS.getD t 0 → acc (stI R) (gdI G) w s = acc (stI R) (gdI G) w t
  | [], s, t, hs', ht, e => by
    have h2 := h.hi
    rw [← bySt_self h.len] at h2
    exact congrArg Prod.fst (rfn_bySt h2 hs' ht e)
  | a :: w, s, t, hs', ht, e => by
    have h2 := h.hi
    rw [← bySt_self h.len] at h2
    have hb := rfn_bySt h2 hs' ht e
    have hcl : cl (row R s) = cl (row R t) := congrArg Prod.snd hb
    have hs2 : Rfn (bySt R fun s => KS.getD s 0) (bySt R (kc R KS)) := by rw [bySt_self h.len]; exact hs
    have hk : (posl (row R s)).map (fun t => KS.getD t 0) = (posl (row R t)).map (fun t => KS.getD t 0) := congrArg Prod.snd (rfn_bySt hs2 hs' ht e)
    rw [posl_cl, posl_cl, ← hcl, List.map_map, List.map_map] at hk
    have hk2 := List.map_inj_left.mp hk
    unfold Gal.acc
    by_cases hj : a ∈ cl (row R s)
    · obtain ⟨x, hx⟩ := stI_cl.mp hj
      obtain ⟨y, hy⟩ := stI_cl.mp (hcl ▸ hj)
      rw [hx, hy]
      have h3 : KS.getD ((row R s).getD a (-1)).toNat 0 = KS.getD ((row R t).getD a (-1)).toNat 0 := hk2 a hj
      rw [st_getD hx, st_getD hy] at h3
      exact CInv.acc W h hs w x y (stI_lt W hx).1 (stI_lt W hy).1 h3
    · have e1 : stI R s a = none := by
        cases z : stI R s a with
        | none => rfl
        | some x => exact absurd (stI_cl.mpr ⟨x, z⟩) hj
      have e2 : stI R t a = none := by
        cases z : stI R t a with
        | none => rfl
        | some x => exact absurd (hcl ▸ stI_cl.mpr ⟨x, z⟩) hj
      rw [e1, e2]
open Classical in
theorem CInv.done (W : WF c R G) {KS : List Int} (h : CInv R G KS) (e : numI (bySt R fun s => nkOf (kc R KS s)) = KS) : KS = langN R G := by
  obtain ⟨ks, rfl⟩ := h.num
  have hs : Rfn (numI ks) (bySt R (kc R (numI ks))) := by
    have e2 : (bySt R fun s => nkOf (kc R (numI ks) s)) = (bySt R (kc R (numI ks))).map nkOf := by rw [List.map_map]; rfl
    have : Rfn (numI (bySt R fun s => nkOf (kc R (numI ks) s))) (bySt R (kc R (numI ks))) := by
      rw [e2]
      exact numI_rfn.trans (rfn_unmap nkOf_inj _)
    rw [e] at this
    exact this
  have h1 : Rfn (numI ks) (bySt R (L_ R G)) := by
    have e3 := bySt_self h.len
    rw [← e3]
    refine bySt_rfn fun s t hs' ht z => ?_
    exact funext fun w => CInv.acc W h hs w s t hs' ht z
  have h2 : Rfn ks (bySt R (L_ R G)) := rfn_numI.trans h1
  have h3 : Rfn (bySt R (L_ R G)) ks := h.low.trans numI_rfn
  unfold langN numI
  rw [rfn_both h2 h3]
theorem CInv.grow (W : WF c R G) {KS : List Int} (h : CInv R G KS) (e : numI (bySt R fun s => nkOf (kc R KS s)) ≠ KS) : (ded KS).length < (ded (numI (bySt R fun s => nkOf (kc R KS s)))).length := by
  have e2 : (bySt R fun s => nkOf (kc R KS s)) = (bySt R (kc R KS)).map nkOf := by rw [List.map_map]; rfl
  have r1 : Rfn (bySt R fun s => nkOf (kc R KS s)) KS := by
    rw [e2]
    exact (rfn_unmap nkOf_inj _).trans (kc_hi h)
  have r2 : Rfn (numI (bySt R fun s => nkOf (kc R KS s))) KS := numI_rfn.trans r1
  have le := rfn_le _ _ r2.1 r2
  rcases Nat.lt_or_ge (ded KS).length (ded (numI (bySt R fun s => nkOf (kc R KS s)))).length with z | z
  · exact z
  · exfalso
    refine e ?_
    obtain ⟨ks, rfl⟩ := h.num
    have e3 := rfn_len (rfn_numI (ks := bySt R fun s => nkOf (kc R (numI ks) s))) numI_rfn
    have r3 := rfn_eq _ _ r1.1 r1 (by omega)
    have r4 := rfn_both (numI_rfn (ks := ks)) rfn_numI
    unfold numI at r3 r4 ⊢
    rw [r3, r4]
theorem CInv.most {KS : List Int} (h : CInv R G KS) : (ded KS).length ≤ R.length := by
  have := ded_len KS
  rw [h.len] at this
  exact this
end
end Gal
end
section
set_option Elab.async false
set_option linter.all false
set_option maxRecDepth 100000
set_option maxHeartbeats 4000000
/-! == of lists of numbers, truth values, rows -/
namespace Gal
open PySem PySem.Spec PyProof.Rows L2
abbrev dI (ns : List Int) : PyData := .list (ns.map .int)
abbrev dB (bs : List Bool) : PyData := .list (bs.map .bool)
abbrev dT (R : List (List Int)) : PyData := .list (R.map dI)
section
variable {K : PySem.W.Frag} {H : Hp}
theorem dp_ints : ∀ ns : List Int, DpAll K H (ns.map V.int) (ns.map PyData.int)
  | [] => .nil
  | n :: ns => .cons (.int n) (dp_ints ns)
theorem dp_bools : ∀ bs : List Bool, DpAll K H (bs.map V.bl) (bs.map PyData.bool)
  | [] => .nil
  | n :: ns => .cons (.bl n) (dp_bools ns)
theorem dp_I {a : Addr} {ns : List Int} (h : H a = some (iL ns)) : Dp K H (.ref a) (dI ns) := .lst (SqL.of h) (dp_ints ns)
theorem dp_B {a : Addr} {bs : List Bool} (h : H a = some (bL bs)) : Dp K H (.ref a) (dB bs) := .lst (SqL.of h) (dp_bools bs)
theorem dp_rows : ∀ {as : List Addr} {R : List (List Int)}, Rws H as R → DpAll K H (as.map V.ref) (R.map dI)
  | _, _, .nil => .nil
  | _, _, .cons h t => .cons (dp_I h) (dp_rows t)
theorem dp_T {a : Addr} {R : List (List Int)} (h : Tb H a R) : Dp K H (.ref a) (dT R) := by
  obtain ⟨as, h1, h2⟩ := h
  exact .lst (SqL.of h1) (dp_rows h2)
theorem lay_ints : ∀ ns : List Int, PyData.canLayAll0 (ns.map PyData.int) = true ∧ PyData.depthAll (ns.map PyData.int) = 0
  | [] => by constructor <;> simp [PyData.canLayAll0, PyData.depthAll]
  | n :: ns => by
    obtain ⟨h1, h2⟩ := lay_ints ns
    constructor
    · simp [PyData.canLayAll0, PyData.canLay0, h1]
    · simp [PyData.depthAll, PyData.depth, h2]
theorem lay_bools : ∀ ns : List Bool, PyData.canLayAll0 (ns.map PyData.bool) = true ∧ PyData.depthAll (ns.map PyData.bool) = 0
  | [] => by constructor <;> simp [PyData.canLayAll0, PyData.depthAll]
  | n :: ns => by
    obtain ⟨h1, h2⟩ := lay_bools ns
    constructor
    · simp [PyData.canLayAll0, PyData.canLay0, h1]
    · simp [PyData.depthAll, PyData.depth, h2]
theorem lay_rows : ∀ R : List (List Int), PyData.canLayAll0 (R.map dI) = true ∧ PyData.depthAll (R.map dI) ≤ 1
  | [] => by constructor <;> simp [PyData.canLayAll0, PyData.depthAll]
  | r :: R => by
    obtain ⟨h1, h2⟩ := lay_rows R
    obtain ⟨h3, h4⟩ := lay_ints r
    constructor
    · simp [PyData.canLayAll0, PyData.canLay0, h1, h3]
    · simp only [List.map_cons, PyData.depthAll, PyData.depth, h4]
      omega
theorem shp_I (ns : List Int) : SeqAt.shaped (dI ns) = true := by
  obtain ⟨h1, h2⟩ := lay_ints ns
  unfold SeqAt.shaped
  rw [Bool.and_eq_true]
  exact ⟨by simp [PyData.canLay0, h1], by simp [PyData.depth, h2]⟩
theorem shp_B (ns : List Bool) : SeqAt.shaped (dB ns) = true := by
  obtain ⟨h1, h2⟩ := lay_bools ns
  unfold SeqAt.shaped
  rw [Bool.and_eq_true]
  exact ⟨by simp [PyData.canLay0, h1], by simp [PyData.depth, h2]⟩
theorem shp_T (R : List (List Int)) : SeqAt.shaped (dT R) = true := by
  obtain ⟨h1, h2⟩ := lay_rows R
  unfold SeqAt.shaped
  rw [Bool.and_eq_true]
  refine ⟨by simp [PyData.canLay0, h1], ?_⟩
  refine decide_eq_true ?_
  simp only [PyData.depth]
  omega
theorem eqv_I : ∀ ns ms : List Int, PyData.eqvAll (ns.map PyData.int) (ms.map PyData.int) = decide (ns = ms)
  | [], [] => by simp [PyData.eqvAll]
  | [], _ :: _ => by simp [PyData.eqvAll]
  | _ :: _, [] => by simp [PyData.eqvAll]
  | n :: ns, m :: ms => by
    rw [List.map_cons, List.map_cons, PyData.eqvAll, eqv_I ns ms, PyData.eqv]
    by_cases h : n = m
    · subst h; simp
    · simp [h]
theorem eqv_B : ∀ ns ms : List Bool, PyData.eqvAll (ns.map PyData.bool) (ms.map PyData.bool) = decide (ns = ms)
  | [], [] => by simp [PyData.eqvAll]
  | [], _ :: _ => by simp [PyData.eqvAll]
  | _ :: _, [] => by simp [PyData.eqvAll]
  | n :: ns, m :: ms => by
    rw [List.map_cons, List.map_cons, PyData.eqvAll, eqv_B ns ms, PyData.eqv]
    by_cases h : n = m
    · subst h; simp
    · simp [h]
theorem eqv_dI (ns ms : List Int) : PyData.eqv (dI ns) (dI ms) = decide (ns = ms) := by
  rw [PyData.eqv, eqv_I]
theorem eqv_dB (ns ms : List Bool) : PyData.eqv (dB ns) (dB ms) = decide (ns = ms) := by
  rw [PyData.eqv, eqv_B]
theorem eqv_R : ∀ ns ms : List (List Int), PyData.eqvAll (ns.map dI) (ms.map dI) = decide (ns = ms)
  | [], [] => by simp [PyData.eqvAll]
  | [], _ :: _ => by simp [PyData.eqvAll]
  | _ :: _, [] => by simp [PyData.eqvAll]
  | n :: ns, m :: ms => by
    rw [List.map_cons, List.map_cons, PyData.eqvAll, eqv_R ns ms, eqv_dI]
    by_cases h : n = m
    · subst h; simp
    · simp [h]
theorem eqv_dT (ns ms : List (List Int)) : PyData.eqv (dT ns) (dT ms) = decide (ns = ms) := by
  rw [PyData.eqv, eqv_R]
/-- == of two lists of numbers -/
theorem rd_eqI {a b : Addr} {ns ms : List Int} {Q : VK} (h1 : H a = some (iL ns)) (h2 : H b = some (iL ms)) (q : Q (.bl (decide (ns = ms))) H) : rEqD K (.ref a) (.ref b) H Q :=
  ⟨_, _, dp_I h1, dp_I h2, shp_I ns, shp_I ms, by rw [eqv_dI]; exact q⟩
theorem rd_eqT {a b : Addr} {ns ms : List (List Int)} {Q : VK} (h1 : Tb H a ns) (h2 : Tb H b ms) (q : Q (.bl (decide (ns = ms))) H) : rEqD K (.ref a) (.ref b) H Q :=
  ⟨_, _, dp_T h1, dp_T h2, shp_T ns, shp_T ms, by rw [eqv_dT]; exact q⟩
theorem rd_eqB {a b : Addr} {ns ms : List Bool} {Q : VK} (h1 : H a = some (bL ns)) (h2 : H b = some (bL ms)) (q : Q (.bl (decide (ns = ms))) H) : rEqD K (.ref a) (.ref b) H Q :=
  ⟨_, _, dp_B h1, dp_B h2, shp_B ns, shp_B ms, by rw [eqv_dB]; exact q⟩
theorem rd_neT {a b : Addr} {ns ms : List (List Int)} {Q : VK} (h1 : Tb H a ns) (h2 : Tb H b ms) (q : Q (.bl (!decide (ns = ms))) H) : rNeD K (.ref a) (.ref b) H Q :=
  ⟨_, _, dp_T h1, dp_T h2, shp_T ns, shp_T ms, by rw [eqv_dT]; exact q⟩
theorem rd_neB {a b : Addr} {ns ms : List Bool} {Q : VK} (h1 : H a = some (bL ns)) (h2 : H b = some (bL ms)) (q : Q (.bl (!decide (ns = ms))) H) : rNeD K (.ref a) (.ref b) H Q :=
  ⟨_, _, dp_B h1, dp_B h2, shp_B ns, shp_B ms, by rw [eqv_dB]; exact q⟩
end
end Gal
end
section
set_option Elab.async false
set_option linter.all false
set_option maxRecDepth 100000
set_option maxHeartbeats 4000000
namespace Gal
open PySem PySem.Spec PyProof.Rows L2
section
variable {P : Program} {w : World} {K : PySem.W.Frag} {mg : Str → Option Value} {base : Heap}
theorem unlock {H : Hp} {b D : Addr} {u o L : HO} (hb : H b = some u) (n : D ≠ b) : upd (upd (upd H b o) D L) b u = upd H D L := by
  funext x
  unfold upd
  by_cases h1 : x = b
  · subst h1
    rw [if_pos rfl, if_neg (Ne.symm n)]; exact hb.symm
  · rw [if_neg h1]
    by_cases h2 : x = D
    · rw [if_pos h2, if_pos h2]
    · rw [if_neg h2, if_neg h2, if_neg h1]
theorem same_frz {H : Hp} {b : Addr} {o : HO} {c : Addr} {u : HO} (n : c ≠ b) (h : H c = some u) : upd H b o c = some u := upd_at n h
/-! ### the states from which a good one is reached -/
abbrev N_leading_on : List Str := ["rows", "goods", "leads", "grown", "state", "after"]
theorem sc_leading_on : FnScope N_leading_on ["rows", "goods"] (defScope s_leading_on) := ⟨rfl, rfl, rfl, by decide +kernel, rfl, by decide +kernel, by decide +kernel⟩
theorem b_leading_on (T : TX K mg) : Binds K T.d_leading_on ["rows", "goods"] [] := T.F_leading_on.bindsN fun _ _ _ _ _ _ us hl => match us, hl with | [_, _], _ => rfl
theorem dR_get {r : List Int} {i : Nat} {k : Key} {v : V} (h : (dR r)[i]? = some (k, v)) : ∃ j, (cl r)[i]? = some j ∧ k = .inr (colS j) ∧ v = .int (r.getD j (-1)) := by
  unfold dR at h
  rw [List.getElem?_map] at h
  cases e : (cl r)[i]? with
  | none => rw [e] at h; cases h
  | some j =>
    rw [e] at h
    have h := Option.some.inj h
    injection h with h1 h2
    exact ⟨j, rfl, h1.symm, h2.symm⟩
theorem any_posl {R : List (List Int)} {M : List Bool} {s : Nat} : ((posl (row R s)).map (gdI M)).any id = true ↔ ∃ a t, stI R s a = some t ∧ gdI M t = true := by
  rw [List.any_eq_true]
  constructor
  · rintro ⟨b, hb, e⟩
    obtain ⟨t, ht, rfl⟩ := List.mem_map.mp hb
    obtain ⟨a, ha⟩ := mem_posl.mp ht
    exact ⟨a, t, ha, e⟩
  · rintro ⟨a, t, h1, h2⟩
    exact ⟨_, List.mem_map.mpr ⟨t, mem_posl.mpr ⟨a, h1⟩, rfl⟩, h2⟩
def sp_leading : Sp := fun vs H Q _ => ∃ (a b : Addr) (c : Nat) (R : List (List Int)) (G : List Bool), vs = [.ref a, .ref b] ∧ DTb H a R ∧ H b = some (bL G) ∧ WF c R G ∧ R.length ≤ 60 ∧ c ≤ 9 ∧ ∀ (q : Addr) (H' : Hp) (M : List Bool), Same H H' → H q = none → H' q = some (bL M) → M.length = R.length → (∀ s, s < R.length → (gdI M s = true ↔ Lead (stI R) (gdI G) s)) → Q (.ref q) H'
theorem ok_leading_on (T : TX K mg) : FnOk P w K mg base CX0 1 (He.fAd K ("leading_on", none)) T.d_leading_on ["rows", "goods"] sp_leading := by
  refine T.F_leading_on.ok sc_leading_on (fun vs H Q E h => ?_) (fun cdv A outer s H vs Q E hr h => ?_)
  · obtain ⟨a, b, c, R, G, rfl, _⟩ := h
    rfl
  · obtain ⟨a, b, c, R, G, rfl, ⟨as, ha, hR⟩, hb, W, hl, hc, q⟩ := h
    refine ⟨_, PSs.nox (pss_cons (ps_set (i := 2) sc_leading_on.nd rfl (Or.inr rfl) (pe_callTy (lstK K) (by rfl) T.n_list bt_list (pa_cons (pv 1) pa_nil)))
    (pss_cons (ps_set (i := 3) sc_leading_on.nd rfl (Or.inl rfl) pe_bl)
    (pss_cons (ps_while PassesOwn.never (pt_val (pv 3)) (pss_cons (ps_set (i := 3) sc_leading_on.nd rfl (Or.inl rfl) pe_bl)
      (pss_one (ps_for PassesOwn.never rfl (pi_range3 rfl T.n_range (pa_cons (pe_op op_sub (pe_callB (lenK K) (by rfl) T.n_len PySem.boot_len (pa_cons (pv 0) pa_nil)) pe_int) (pa_cons (pe_un un_neg pe_int) (pa_cons (pe_un un_neg pe_int) pa_nil)))) (pg_name (i := 4) sc_leading_on.nd rfl (Or.inl rfl)) (pss_one (ps_if (PW.pt (pw_and (pt_not (pt_val (pe_ix (ixL K) (pv 2) (pv 4) (fun _ _ => rfl)))) (pw_and1 (pt_val (pe_callB (anyK K rfl) (by rfl) T.n_any bt_any (pa_cons (pe_lock (pe_lc (own := [("after", 5)]) (g := gName 5) (tt := tYes) rfl sc_leading_on.nd (pi_values (pe_ix (ixL K) (pv 0) (pv 4) (fun _ _ => rfl))) (blkOk_by (own := [("after", 5)]) (N := N_leading_on) (sc := defScope s_leading_on) (by decide +kernel)) (fun _ _ _ _ _ => (pg_name (i := 5) sc_leading_on.nd rfl (Or.inl rfl))) (fun _ _ _ _ _ => pts_nil) (fun _ _ _ _ _ => (pe_ix (ixL K) (pv 2) (pv 5) (fun _ _ => rfl))))) pa_nil)))))) (pss_cons (ps_asg pe_bl (pg_sub (pv 2) (pv 4) set_list))
          (pss_one (ps_set (i := 3) sc_leading_on.nd rfl (Or.inl rfl) pe_bl))) pss_nil))))))
    (pss_one (ps_ret (pv 2)))))), ?_⟩
    have hpos := W.pos
    have eas : ((as.map V.ref).length : Int) = (R.length : Int) := by rw [List.length_map, Paired.length hR]
    refine ⟨_, rfl, b, _, rfl, .inl (SqL.of hb), fun l nl => ?_⟩
    let Cl (M : List Bool) : Prop := ∀ s x t, s < R.length → stI R s x = some t → gdI M t = true → gdI M s = true
    refine ⟨fun m σ H' => ∃ (M : List Bool) (g : Bool) (y4 : Option V), m = R.length - M.count true + (if g = true then 1 else 0) ∧ σ = [some (.ref a), some (.ref b), some (.ref l), some (.bl g), y4, none] ∧ Same H H' ∧ H' l = some (bL M) ∧ Snd R G M ∧ (g = false → Cl M), ⟨_, G, true, none, rfl, rfl, same_new nl, upd_same, ⟨W.len, fun _ h => h, fun s h => ⟨[], h⟩⟩, fun z => Bool.noConfusion z⟩, ?_⟩
    rintro m σ H1 ⟨M0, g, y4, rfl, rfl, s1, hl1, S0, hcl⟩
    refine ⟨_, rfl, _, rfl, ite2 (fun hg => ?_) (fun hg => ?_)⟩
    · subst hg
      refine ⟨fun σ H' => ∃ (M : List Bool) (g : Bool) (y4 : Option V), (R.length - M.count true + (if g = true then 1 else 0) < R.length - M0.count true + 1) ∧ σ = [some (.ref a), some (.ref b), some (.ref l), some (.bl g), y4, none] ∧ Same H H' ∧ H' l = some (bL M) ∧ Snd R G M ∧ (g = false → Cl M), fun σ H' h => by
        obtain ⟨M, g, y4, h1, h2⟩ := h
        exact ⟨_, h1, M, g, y4, rfl, h2⟩, ?_⟩
      refine ⟨_, rfl, a, _, rfl, .inl (SqL.of (s1 _ _ ha)), _, _, rfl, rfl, _, rfl, _, rfl, (R.length : Int) - 1, -1, -1, R.length, ?_, ?_, ?_⟩
      · rw [eas]
      · have := RgC.neg (i := (R.length : Int) - 1) (j := -1) (by omega) (by omega) (by omega) (by omega)
        rw [show ((R.length : Int) - 1 - -1).toNat = R.length by omega] at this
        exact this
      refine for_it walk_rangeC (fun i σ H' => ∃ (M : List Bool) (g : Bool) (y4 : Option V), σ = [some (.ref a), some (.ref b), some (.ref l), some (.bl g), y4, none] ∧ Same H H' ∧ H' l = some (bL M) ∧ Snd R G M ∧ (∀ s, gdI M0 s = true → gdI M s = true) ∧ (g = true → M0.count true < M.count true) ∧ (g = false → M = M0 ∧ ∀ s x t, R.length - i ≤ s → s < R.length → stI R s x = some t → gdI M0 t = true → gdI M0 s = true)) ?_ ?_ ?_ ?_
      · exact ⟨M0, false, _, rfl, s1, hl1, S0, fun _ h => h, fun z => Bool.noConfusion z, fun _ => ⟨rfl, fun s x t h1 h2 => by omega⟩⟩
      · exact fun _ _ _ _ _ => True.intro
      · rintro i x σ _ H2 hi ⟨M, g, y4, rfl, s2, hl2, S, hm, hg1, hg2⟩ ⟨rfl, ex⟩
        have es : (R.length : Int) - 1 + (i : Int) * (-1) = ((R.length - 1 - i : Nat) : Int) := by omega
        have hs : R.length - 1 - i < R.length := by omega
        have ex' : x = V.int ((R.length - 1 - i : Nat) : Int) := ex.trans (congrArg V.int es)
        subst ex'
        clear ex es
        generalize ek : R.length - 1 - i = sn at *
        have hSl := S.len
        refine ⟨_, rfl, _, rfl, l, _, _, _, rfl, rfl, SqL.of hl2, atI_map (gd_mem (i := sn) (by omega)), _, rfl, ite2 (fun hn => ?_) (fun hn => ?_)⟩
        · have hn : gdI M sn = false := by cases e : gdI M sn with
            | false => rfl
            | true => rw [e] at hn; cases hn
          obtain ⟨bi, hbi, hri⟩ := paired_get' hR (row_mem hs)
          obtain ⟨wl, wb⟩ := wf_row W hs
          have hri2 := s2 _ _ hri
          have nb : a ≠ bi := ne_of (s2 _ _ ha) hri2 (fun z => by cases z)
          have nlb : l ≠ bi := ne_of hl2 hri2 (fun z => by cases z)
          refine ⟨bi, _, hri2, True.intro, fun od => ⟨_, rfl, _, rfl, a, _, _, _, rfl, rfl, SqL.of (upd_at nb (s2 _ _ ha)), atI_map hbi, bi, od, _, rfl, upd_same, fun D nD => ?_⟩⟩
          have nDb : D ≠ bi := (ne_of_none upd_same nD).symm
          have nDl : D ≠ l := (ne_of_none (upd_at nlb hl2) nD).symm
          have hlen : (dR (row R sn)).length = (posl (row R sn)).length := by unfold dR; rw [posl_cl, List.length_map, List.length_map]
          have hpl : (posl (row R sn)).length ≤ 9 := by rw [← hlen]; have := dR_len (r := row R sn); omega
          refine lc_it walk_values (fun i H' => H' = upd (upd H2 bi (.frz od (.dK (dR (row R sn))))) D (bL (((posl (row R sn)).map (gdI M)).take i))) (by rw [List.take_zero]; rfl) (fun i H' _ e => by rw [e]; exact upd_at (Ne.symm nDb) upd_same) ?_ ?_
          · rintro i x H' _ hi rfl ⟨rfl, k, hk⟩
            obtain ⟨j, hj, _, rfl⟩ := dR_get hk
            have hj0 : 0 ≤ (row R sn).getD j (-1) := mem_cl.mp (List.mem_of_getElem? hj)
            obtain ⟨t, ht⟩ : ∃ t : Nat, (row R sn).getD j (-1) = (t : Int) := ⟨((row R sn).getD j (-1)).toNat, by omega⟩
            have hpj : (posl (row R sn))[i]? = some t := by
              rw [posl_cl, List.getElem?_map, hj]
              show some ((row R sn).getD j (-1)).toNat = some t
              rw [ht]; rfl
            have htl : t < R.length := by
              obtain ⟨a', ha'⟩ := mem_posl.mp (List.mem_of_getElem? hpj)
              exact (stI_lt W ha').1
            rw [ht]
            refine ⟨rfl, _, rfl, _, rfl, l, _, _, _, rfl, rfl, SqL.of (upd_at (Ne.symm nDl) (upd_at nlb hl2)), atI_map (gd_mem (i := t) (by omega)), _, upd_same, szLt (by rw [List.length_map, List.length_take, List.length_map]; omega), ?_⟩
            rw [upd_upd, snocB, List.take_add_one, List.getElem?_map, hpj]; rfl
          rintro H' rfl
          refine ⟨upd_at (Ne.symm nDb) upd_same, ?_⟩
          rw [unlock hri2 nDb, hlen, ← (List.length_map (f := gdI M) : ((posl (row R sn)).map (gdI M)).length = (posl (row R sn)).length), List.take_length]
          have nD2 : H2 D = none := by
            have : upd H2 bi (.frz od (.dK (dR (row R sn)))) D = H2 D := upd_ne nDb
            rw [← this]; exact nD
          have s3 : Same H2 (upd H2 D (bL ((posl (row R sn)).map (gdI M)))) := same_new nD2
          refine ⟨D, _, rfl, SqL.of upd_same, _, rfl, ite2 (fun ha2 => ?_) (fun ha2 => ?_)⟩
          · obtain ⟨x, t, hx, ht⟩ := any_posl.mp ha2
            refine ⟨_, rfl, _, rfl, l, _, _, sn, rfl, rfl, s3 _ _ hl2, ixN_nat (by rw [List.length_map]; omega), ?_⟩
            rw [← List.map_set (f := V.bl) (a := true)]
            have hcm := cnt_mono M (M.set sn true) (by rw [List.length_set]) fun i hi => S.mono hs hi
            have hne : M ≠ M.set sn true := fun z => by
              have h1 := gd_set (M := M) (i := sn) (s := sn) (by omega)
              rw [← z, hn, if_pos rfl] at h1
              cases h1
            have hm0 := cnt_mono M0 M (by rw [S0.len, S.len]) hm
            refine ⟨M.set sn true, true, _, rfl, same_mut (s2.trans s3) nl, upd_same, S.set hs hx ht, fun s h => S.mono hs (hm s h), fun _ => ?_, fun z => Bool.noConfusion z⟩
            have h1 : ¬ (M.set sn true).count true ≤ M.count true := fun z => hne (hcm.2 z)
            omega
          · refine ⟨M, g, _, rfl, s2.trans s3, s3 _ _ hl2, S, hm, hg1, fun hg => ?_⟩
            obtain ⟨rfl, hv⟩ := hg2 hg
            refine ⟨rfl, fun s x t h1 h2 h3 h4 => ?_⟩
            by_cases e : s = sn
            · subst e
              exact absurd (any_posl.mpr ⟨x, t, h3, h4⟩) ha2
            · exact hv s x t (by omega) h2 h3 h4
        · have hn : gdI M sn = true := by cases e : gdI M sn with
            | true => rfl
            | false => rw [e] at hn; exact absurd rfl hn
          refine iteF ⟨M, g, _, rfl, s2, hl2, S, hm, hg1, fun hg => ?_⟩
          obtain ⟨rfl, hv⟩ := hg2 hg
          refine ⟨rfl, fun s x t h1 h2 h3 h4 => ?_⟩
          by_cases e : s = sn
          · subst e; exact hn
          · exact hv s x t (by omega) h2 h3 h4
      · rintro σ H2 ⟨M, g, y4, rfl, s2, hl2, S, hm, hg1, hg2⟩
        have hcl0 := cnt_len M
        rw [S.len] at hcl0
        refine ⟨M, g, _, ?_, rfl, s2, hl2, S, fun hg => ?_⟩
        · cases g with
          | true =>
            have := hg1 rfl
            rw [if_pos rfl]; omega
          | false =>
            obtain ⟨rfl, _⟩ := hg2 rfl
            rw [if_neg Bool.false_ne_true]; omega
        · obtain ⟨rfl, hv⟩ := hg2 hg
          exact fun s x t hs h3 h4 => hv s x t (by omega) hs h3 h4
    · have hg : g = false := by cases g with
        | false => rfl
        | true => exact absurd rfl hg
      exact ⟨_, rfl, q l H1 M0 s1 nl hl1 S0.len (S0.all W (hcl hg))⟩
/-! ### numbers for keys -/
abbrev N_numbered : List Str := ["keys", "numbers", "result", "key"]
theorem sc_numbered : FnScope N_numbered ["keys"] (defScope s_numbered) := ⟨rfl, rfl, rfl, by decide +kernel, rfl, by decide +kernel, by decide +kernel⟩
theorem b_numbered (T : TX K mg) : Binds K T.d_numbered ["keys"] [] := T.F_numbered.bindsN fun _ _ _ _ _ _ us hl => match us, hl with | [_], _ => rfl
def sp_numbered : Sp := fun vs H Q _ => ∃ (a : Addr) (ts : List Addr) (ks : List NKey), vs = [.ref a] ∧ H a = some (rL ts) ∧ Paired (NkAt H) ts ks ∧ ks.length ≤ 1000 ∧ ∀ (q : Addr) (H' : Hp), Same H H' → H q = none → H' q = some (iL (numI ks)) → Q (.ref q) H'
theorem ok_numbered (T : TX K mg) : FnOk P w K mg base CX0 1 (He.fAd K ("numbered", none)) T.d_numbered ["keys"] sp_numbered := by
  refine T.F_numbered.ok sc_numbered (fun vs H Q E h => ?_) (fun cdv A outer s H vs Q E hr h => ?_)
  · obtain ⟨a, ts, ks, rfl, _⟩ := h
    rfl
  · obtain ⟨a, ts, ks, rfl, ha, hks, hl, q⟩ := h
    refine ⟨_, PSs.nox (pss_cons (ps_set (i := 1) sc_numbered.nd rfl (Or.inl rfl) (pe_newN P w))
    (pss_cons (ps_set (i := 2) sc_numbered.nd rfl (Or.inl rfl) (pe_lst pa_nil))
    (pss_cons (ps_for PassesOwn.never rfl (pi_listK K (pv 0)) (pg_name (i := 3) sc_numbered.nd rfl (Or.inl rfl)) (pss_cons (ps_if (pt_cmp (pc_notinN P w hr.units (pv 3) (pv 1))) (pss_one (ps_putN P w hr.units (pv 1) (pv 3) (pe_callB (lenN P w) (by rfl) T.n_len PySem.boot_len (pa_cons (pv 1) pa_nil)) rfl)) pss_nil)
      (pss_one (ps_expr (bmK K PySem.F.plainAttrs_list PySem.F.slot_list_append PySem.F.type_list_append mt_append (pv 2) (pa_cons (pe_getN P w hr.units (pv 1) (pv 3) (fun _ _ => rfl)) pa_nil))))))
    (pss_one (ps_ret (pv 2)))))), ?_⟩
    intro d nd
    refine ⟨(by show 0 ≤ sizeLine; decide), fun f nf => ?_⟩
    have sA : Same H (upd H d (dn P w d [])) := same_new nd
    have sB : Same H (upd (upd H d (dn P w d [])) f (.lst [])) := sA.trans (same_new nf)
    have nf1 : H f = none := sA.free nf
    have fd : f ≠ d := fun z => by rw [z, upd_same] at nf; cases nf
    refine ⟨_, rfl, a, rfl, ⟨_, SqL.of (sB _ _ ha)⟩, ?_⟩
    refine for_list (xs := ts.map V.ref) (fun j σ H' => ∃ (y3 : Option V), σ = [some (.ref a), some (.ref d), some (.ref f), y3] ∧ Same H H' ∧ DnAt P w H' d (numD (ded (ks.take j))) ∧ H' f = some (iL (numI (ks.take j)))) ?_ ?_ ?_ ?_
    · refine ⟨_, rfl, sB, ?_, upd_same⟩
      rw [List.take_zero]
      exact dn_new.same (same_new nf)
    · rintro j σ H' _ ⟨y3, rfl, s1, _⟩
      exact SqL.of (s1 _ _ ha)
    · rintro j x σ H5 hx ⟨y3, rfl, s5, hD5, hF5⟩
      obtain ⟨t, ht, rfl⟩ := map_get' hx
      obtain ⟨k, hk, hkt⟩ := paired_get hks ht
      have hk5 := hkt.same s5
      have htk : ks.take (j + 1) = ks.take j ++ [k] := by rw [List.take_add_one, hk]; rfl
      have hlj : (ks.take j).length ≤ 1000 := by rw [List.length_take]; omega
      have hdl : (ded (ks.take j)).length ≤ 1000 := Nat.le_trans (ded_len _) hlj
      have hfl : ((numI (ks.take j)).map V.int).length < sizeLine := szLt (by rw [List.length_map, numI_len]; omega)
      by_cases hin : k ∈ ded (ks.take j)
      · have hv := valV_numD.1 hin
        refine ⟨_, rfl, _, rfl, d, _, rfl, ⟨_, _, _, hD5, rfl, hk5, hv.symm⟩, _, rfl, iteF ?_⟩
        refine ⟨_, rfl, .inl ⟨rfl, _, SqL.of hF5⟩, _, rfl, _, rfl, d, _, rfl, ⟨_, _, _, hD5, rfl, hk5, hv.symm⟩, f, _, _, rfl, rfl, hF5, hfl, ?_⟩
        have e1 := ded_snoc_old (mem_ded.mp hin)
        refine ⟨_, rfl, same_mut s5 nf1, ?_, ?_⟩
        · rw [htk, e1]
          exact DnAt.keep (fun _ z => by cases z) (Ne.symm fd) hF5 hD5
        · rw [upd_same, snocI, htk, numI_snoc, e1]
      · have hv := valV_numD.2 hin
        refine ⟨_, rfl, _, rfl, d, _, rfl, ⟨_, _, _, hD5, rfl, hk5, hv.symm⟩, _, rfl, iteT ?_⟩
        have hu1 : ded (ks.take (j + 1)) = ded (ks.take j) ++ [k] := by rw [htk, ded_snoc_new (fun z => hin (mem_ded.mpr z))]
        refine ⟨_, rfl, d, _, rfl, hD5, (by rw [numD_len]; omega), _, rfl, _, rfl, d, _, _, _, rfl, hD5, rfl, hk5, hv, (by rw [numD_len]; omega), fun u hu => ?_⟩
        have hF6 : upd H5 d u f = some (iL (numI (ks.take j))) := upd_at fd hF5
        obtain ⟨ks5, hks5⟩ := hD5.some
        have hk6 : NkAt (upd H5 d u) t k := nk_keep hks5 (fun _ z => nomatch z) hk5
        have hu' : DnAt P w (upd H5 d u) d (numD (ded (ks.take (j + 1)))) := by
          rw [hu1, numD_snoc, ← numD_len (ds := ded (ks.take j))]
          exact hu
        have hv6 := (valV_numD (k := k) (ds := ded (ks.take (j + 1)))).1 (by rw [hu1]; simp)
        refine ⟨_, rfl, .inl ⟨rfl, _, SqL.of hF6⟩, _, rfl, _, rfl, d, _, rfl, ⟨_, _, _, hu', rfl, hk6, hv6.symm⟩, f, _, _, rfl, rfl, hF6, hfl, ?_⟩
        refine ⟨_, rfl, same_mut (same_mut s5 nd) nf1, DnAt.keep (fun _ z => by cases z) (Ne.symm fd) hF6 hu', ?_⟩
        rw [upd_same, snocI, htk, numI_snoc, ← htk]
    · rintro σ H2 ⟨y3, rfl, s2, hD, hF⟩
      rw [List.length_map, Paired.length hks, List.take_length] at hF
      exact ⟨_, rfl, q f H2 s2 nf1 hF⟩
end
end Gal
end
section
set_option Elab.async false
set_option linter.all false
set_option maxRecDepth 100000
set_option maxHeartbeats 4000000
namespace Gal
open PySem PySem.Spec PyProof.Rows L2
section
variable {P : Program} {w : World} {K : PySem.W.Frag} {mg : Str → Option Value} {base : Heap}
/-! ### the classes of states -/
abbrev N_classes_of : List Str := ["rows", "goods", "classes", "finer", "state", "row", "after"]
theorem sc_classes_of : FnScope N_classes_of ["rows", "goods"] (defScope s_classes_of) := ⟨rfl, rfl, rfl, by decide +kernel, rfl, by decide +kernel, by decide +kernel⟩
theorem b_classes_of (T : TX K mg) : Binds K T.d_classes_of ["rows", "goods"] [] := T.F_classes_of.bindsN fun _ _ _ _ _ _ us hl => match us, hl with | [_, _], _ => rfl
theorem nums_by (KS : List Int) : ∀ ts : List Nat, Paired NkV ((ts.map fun t => KS.getD t 0).map V.int) ((ts.map fun t => KS.getD t 0).map PySem.NestedKey.num) := fun ts => nums_nk _
theorem texts_by : ∀ is : List Nat, Paired NkV ((is.map colS).map V.str) (is.map fun j => PySem.NestedKey.text (colS j))
  | [] => .nil
  | i :: is => .cons (show colS i = colS i from rfl) (texts_by is)
def sp_classes : Sp := fun vs H Q _ => ∃ (a b : Addr) (c : Nat) (R : List (List Int)) (G : List Bool), vs = [.ref a, .ref b] ∧ DTb H a R ∧ H b = some (bL G) ∧ WF c R G ∧ R.length ≤ 60 ∧ c ≤ 9 ∧ (∀ s, s < R.length → Lead (stI R) (gdI G) s) ∧
  ∀ (q : Addr) (H' : Hp), Same H H' → H q = none → H' q = some (iL (langN R G)) → Q (.ref q) H'
theorem ok_classes_of (T : TX K mg) : FnOk P w K mg base CX0 2 (He.fAd K ("classes_of", none)) T.d_classes_of ["rows", "goods"] sp_classes := by
  refine T.F_classes_of.ok sc_classes_of (fun vs H Q E h => ?_) (fun cdv A outer s H vs Q E hr h => ?_)
  · obtain ⟨a, b, c, R, G, rfl, _⟩ := h
    rfl
  · obtain ⟨a, b, c, R, G, rfl, ⟨as, ha, hR⟩, hb, W, hl, hc, hL, q⟩ := h
    refine ⟨_, PSs.nox (pss_cons (ps_set (i := 2) sc_classes_of.nd rfl (Or.inr rfl) (pe_call (ok_numbered T) (hr.mono (by decide)) (by rfl) T.g_numbered T.F_numbered.kp (b_numbered T) .nil pass0 (pa_cons (pe_lc (own := [("state", 4), ("row", 5)]) (g := gTup K 2 (gCons (gName 4) (gCons (gName 5) (gNil)))) (tt := tYes) rfl sc_classes_of.nd (pi_enum (by rfl) T.n_enumerate (pa_cons (pv 0) pa_nil)) (blkOk_by (own := [("state", 4), ("row", 5)]) (N := N_classes_of) (sc := defScope s_classes_of) (by decide +kernel)) (fun _ _ _ _ _ => (tupG K rfl (pgs_cons (pg_name (i := 4) sc_classes_of.nd rfl (Or.inl rfl)) (pgs_cons (pg_name (i := 5) sc_classes_of.nd rfl (Or.inl rfl)) pgs_nil)))) (fun _ _ _ _ _ => pts_nil) (fun _ _ _ _ _ => (pe_tup (pa_cons (pe_ix (ixL K) (pv 1) (pv 4) (fun _ _ => rfl)) (pa_cons (pe_callTy (tupK K) (by rfl) T.n_tuple bt_tuple (pa_cons (pe_callTy (call_list_dK rfl) (by rfl) T.n_list bt_list (pa_cons (pv 5) pa_nil)) pa_nil)) pa_nil))))) pa_nil)))
    (pss_one (ps_while PassesOwn.never (pt_val pe_bl) (pss_cons (ps_set (i := 3) sc_classes_of.nd rfl (Or.inl rfl) (pe_call (ok_numbered T) (hr.mono (by decide)) (by rfl) T.g_numbered T.F_numbered.kp (b_numbered T) .nil pass0 (pa_cons (pe_lc (own := [("state", 4), ("row", 5)]) (g := gTup K 2 (gCons (gName 4) (gCons (gName 5) (gNil)))) (tt := tYes) rfl sc_classes_of.nd (pi_enum (by rfl) T.n_enumerate (pa_cons (pv 0) pa_nil)) (blkOk_by (own := [("state", 4), ("row", 5)]) (N := N_classes_of) (sc := defScope s_classes_of) (by decide +kernel)) (fun _ _ _ _ _ => (tupG K rfl (pgs_cons (pg_name (i := 4) sc_classes_of.nd rfl (Or.inl rfl)) (pgs_cons (pg_name (i := 5) sc_classes_of.nd rfl (Or.inl rfl)) pgs_nil)))) (fun _ _ _ _ _ => pts_nil) (fun _ _ _ _ _ => (pe_tup (pa_cons (pe_ix (ixL K) (pv 2) (pv 4) (fun _ _ => rfl)) (pa_cons (pe_callTy (tupK K) (by rfl) T.n_tuple bt_tuple (pa_cons (pe_lock (pe_lc (own := [("after", 6)]) (g := gName 6) (tt := tYes) rfl sc_classes_of.nd (pi_values (pv 5)) (blkOk_by (own := [("after", 6)]) (N := N_classes_of) (sc := ({ kind := .function, names := [(".0", .local), ("state", .local), ("row", .local), ("tuple", .globalImplicit), ("classes", .cell)], isGenerator := false, isCoroutine := false, more := [] } : Scope)) (by decide +kernel)) (fun _ _ _ _ _ => (pg_name (i := 6) sc_classes_of.nd rfl (Or.inl rfl))) (fun _ _ _ _ _ => pts_nil) (fun _ _ _ _ _ => (pe_ix (ixL K) (pv 2) (pv 6) (fun _ _ => rfl))))) pa_nil)) pa_nil))))) pa_nil)))
      (pss_cons (ps_if (pt_cmpR (eqDK K hr.units) (pv 3) (pv 2) (nomark _)) (pss_one (ps_ret (pv 2))) pss_nil)
      (pss_one (ps_set (i := 2) sc_classes_of.nd rfl (Or.inr rfl) (pv 3)))))))), ?_⟩
    have hpos := W.pos
    have hgl := W.len
    have hal := Paired.length hR
    refine ⟨_, rfl, a, _, rfl, SqL.of ha, fun D nD => ?_⟩
    refine lc_it (walk_enum (xs := as.map V.ref)) (fun i H' => Same H H' ∧ ∃ ts, H' D = some (rL ts) ∧ ts.length = i ∧ Paired (NkAt H') ts ((bySt R fun s => nk0 (bas R G s)).take i)) ?_ ?_ ?_ ?_
    · exact ⟨same_new nD, [], upd_same, rfl, by rw [List.take_zero]; exact .nil⟩
    · rintro i H' _ ⟨s1, _⟩
      exact SqL.of (s1 _ _ ha)
    · rintro i x H1 _ hi ⟨s1, ts, hD, htl, hts⟩ ⟨T1, x1, y1, rfl, nT, rfl, hx1, hy1⟩
      have hx1 := Option.some.inj hx1
      subst hx1
      obtain ⟨bi, hbi, rfl⟩ := map_get' hy1
      obtain ⟨r, hr1, hri⟩ := paired_get hR hbi
      have hil : i < R.length := (List.getElem?_eq_some_iff.mp hr1).1
      have er : r = row R i := (row_get hr1).symm
      subst er
      obtain ⟨wl, wb⟩ := wf_row W hil
      have s2 : Same H1 (upd H1 T1 (.tup [.int (i : Nat), .ref bi])) := same_new nT
      have S2 := s1.trans s2
      refine ⟨T1, _, rfl, SqT.of upd_same, rfl, _, _, rfl, _, _, rfl, rfl, rfl, ?_⟩
      refine ⟨_, rfl, _, rfl, b, _, _, _, rfl, rfl, SqL.of (S2 _ _ hb), atI_map (gd_mem (i := i) (by omega)), ?_⟩
      refine ⟨_, rfl, bi, _, rfl, S2 _ _ hri, fun q1 nq1 => ⟨q1, _, rfl, SqL.of upd_same, fun q2 nq2 => ⟨(by show 2 ≤ sizeLine; decide), fun t nt => ?_⟩⟩⟩
      rw [keys_dR] at nq2 nt ⊢
      have s3 := (s2.trans (same_new (o := .lst (((cl (row R i)).map colS).map V.str)) nq1)).trans (same_new (o := .tup (((cl (row R i)).map colS).map V.str)) nq2)
      have s4 := s3.trans (same_new (o := .tup [.bl (gdI G i), .ref q2]) nt)
      have hk : NkAt (upd (upd (upd (upd H1 T1 (.tup [.int (i : Nat), .ref bi])) q1 (.lst (((cl (row R i)).map colS).map V.str))) q2 (.tup (((cl (row R i)).map colS).map V.str))) t (.tup [.bl (gdI G i), .ref q2])) t (nk0 (bas R G i)) :=
        ⟨_, q2, _, _, _, rfl, upd_same, same_new nt _ _ upd_same, rfl, texts_by _⟩
      generalize upd (upd (upd (upd H1 T1 (.tup [.int (i : Nat), .ref bi])) q1 (.lst (((cl (row R i)).map colS).map V.str))) q2 (.tup (((cl (row R i)).map colS).map V.str))) t (.tup [.bl (gdI G i), .ref q2]) = H5 at s4 hk
      refine ⟨_, s4 _ _ hD, szLt (by rw [List.length_map]; omega), same_mut (s1.trans s4) nD, ts ++ [t], by rw [upd_same, snocR], by rw [List.length_append, htl]; rfl, ?_⟩
      rw [List.take_add_one, bySt_get hil]
      refine Paired.snoc ?_ (nk_keep (s4 _ _ hD) (fun _ z => by cases z) hk)
      exact Paired.mapP hts fun x y e => nk_keep (s4 _ _ hD) (fun _ z => by cases z) (e.same s4)
    rintro H1 ⟨s1, ts, hD, htl, hts⟩
    rw [List.length_map, hal, ← bySt_len (R := R) (f := fun s => nk0 (bas R G s)), List.take_length] at hts
    refine ⟨D, ts, _, rfl, hD, hts, by rw [bySt_len]; omega, fun q0 H2 s2 nq0 hq0 => ?_⟩
    refine ⟨fun m σ H' => ∃ (q : Addr) (KS : List Int) (y3 : Option V), m = R.length - (ded KS).length ∧ σ = [some (.ref a), some (.ref b), some (.ref q), y3, none, none, none] ∧ Same H H' ∧ H q = none ∧ H' q = some (iL KS) ∧ CInv R G KS, ⟨_, q0, _, none, rfl, rfl, s1.trans s2, s1.free nq0, hq0, CInv.first W hL⟩, ?_⟩
    rintro m σ H3 ⟨k, KS, y3, rfl, rfl, s3, nk, hk, I⟩
    refine ⟨_, rfl, iteT ?_⟩
    refine ⟨fun σ H' => ∃ (q : Addr) (KS' : List Int) (y3 : Option V), (R.length - (ded KS').length < R.length - (ded KS).length) ∧ σ = [some (.ref a), some (.ref b), some (.ref q), y3, none, none, none] ∧ Same H H' ∧ H q = none ∧ H' q = some (iL KS') ∧ CInv R G KS', fun σ H' h => by
      obtain ⟨q, KS', y3, h1, h2⟩ := h
      exact ⟨_, h1, q, KS', y3, rfl, h2⟩, ?_⟩
    refine ⟨_, rfl, a, _, rfl, SqL.of (s3 _ _ ha), fun E nE => ?_⟩
    have hKl := I.len
    refine lc_it (walk_enum (xs := as.map V.ref)) (fun i H' => Same H3 H' ∧ ∃ ts, H' E = some (rL ts) ∧ ts.length = i ∧ Paired (NkAt H') ts ((bySt R fun s => nkOf (kc R KS s)).take i)) ?_ ?_ ?_ ?_
    · exact ⟨same_new nE, [], upd_same, rfl, by rw [List.take_zero]; exact .nil⟩
    · rintro i H' _ ⟨s4, _⟩
      exact SqL.of (s4 _ _ (s3 _ _ ha))
    · rintro i x H4 _ hi ⟨s4, ts, hE, htl, hts⟩ ⟨T1, x1, y1, rfl, nT, rfl, hx1, hy1⟩
      have hx1 := Option.some.inj hx1
      subst hx1
      obtain ⟨bi, hbi, rfl⟩ := map_get' hy1
      obtain ⟨r, hr1, hri⟩ := paired_get hR hbi
      have hil : i < R.length := (List.getElem?_eq_some_iff.mp hr1).1
      have er : r = row R i := (row_get hr1).symm
      subst er
      obtain ⟨wl, wb⟩ := wf_row W hil
      have s5 : Same H4 (upd H4 T1 (.tup [.int (i : Nat), .ref bi])) := same_new nT
      have S5 : Same H _ := (s3.trans s4).trans s5
      have hk5 := s5 _ _ (s4 _ _ hk)
      have hri5 := S5 _ _ hri
      refine ⟨T1, _, rfl, SqT.of upd_same, rfl, _, _, rfl, _, _, rfl, rfl, rfl, ?_⟩
      generalize upd H4 T1 (.tup [.int (i : Nat), .ref bi]) = H5 at s5 S5 hk5 hri5
      refine ⟨_, rfl, _, rfl, k, _, _, _, rfl, rfl, SqL.of hk5, atI_map (I.get hil), ?_⟩
      have nkb : k ≠ bi := ne_of hk5 hri5 (fun z => by cases z)
      refine ⟨bi, _, hri5, True.intro, fun od => ⟨_, rfl, bi, od, _, rfl, upd_same, fun D2 nD2 => ?_⟩⟩
      have nDb : D2 ≠ bi := (ne_of_none upd_same nD2).symm
      have nDk : D2 ≠ k := (ne_of_none (upd_at nkb hk5) nD2).symm
      have hlen : (dR (row R i)).length = (posl (row R i)).length := by unfold dR; rw [posl_cl, List.length_map, List.length_map]
      have hpl : (posl (row R i)).length ≤ 9 := by rw [← hlen]; have := dR_len (r := row R i); omega
      refine lc_it walk_values (fun j H' => H' = upd (upd H5 bi (.frz od (.dK (dR (row R i))))) D2 (iL (((posl (row R i)).map fun t => KS.getD t 0).take j))) (by rw [List.take_zero]; rfl) (fun j H' _ e => by rw [e]; exact upd_at (Ne.symm nDb) upd_same) ?_ ?_
      · rintro j x H' _ hj rfl ⟨rfl, key, hkey⟩
        obtain ⟨col, hcol, _, rfl⟩ := dR_get hkey
        have hj0 : 0 ≤ (row R i).getD col (-1) := mem_cl.mp (List.mem_of_getElem? hcol)
        obtain ⟨t, ht⟩ : ∃ t : Nat, (row R i).getD col (-1) = (t : Int) := ⟨((row R i).getD col (-1)).toNat, by omega⟩
        have hpj : (posl (row R i))[j]? = some t := by
          rw [posl_cl, List.getElem?_map, hcol]
          show some ((row R i).getD col (-1)).toNat = some t
          rw [ht]; rfl
        have htl : t < R.length := by
          obtain ⟨a', ha'⟩ := mem_posl.mp (List.mem_of_getElem? hpj)
          exact (stI_lt W ha').1
        rw [ht]
        refine ⟨rfl, _, rfl, _, rfl, k, _, _, _, rfl, rfl, SqL.of (upd_at (Ne.symm nDk) (upd_at nkb hk5)), atI_map (I.get htl), _, upd_same, szLt (by rw [List.length_map, List.length_take, List.length_map]; omega), ?_⟩
        rw [upd_upd, snocI, List.take_add_one, List.getElem?_map, hpj]; rfl
      rintro H' rfl
      refine ⟨upd_at (Ne.symm nDb) upd_same, ?_⟩
      rw [unlock hri5 nDb, hlen, ← (List.length_map (f := fun t => KS.getD t 0) : ((posl (row R i)).map fun t => KS.getD t 0).length = (posl (row R i)).length), List.take_length]
      have nD3 : H5 D2 = none := by
        have : upd H5 bi (.frz od (.dK (dR (row R i)))) D2 = H5 D2 := upd_ne nDb
        rw [← this]; exact nD2
      refine ⟨D2, _, rfl, SqL.of upd_same, fun q2 nq2 => ⟨(by show 2 ≤ sizeLine; decide), fun t nt => ?_⟩⟩
      have s6 := s5.trans ((same_new (o := iL ((posl (row R i)).map fun t => KS.getD t 0)) nD3).trans (same_new (o := .tup (((posl (row R i)).map fun t => KS.getD t 0).map V.int)) nq2))
      have s7 := s6.trans (same_new (o := .tup [.int (KS.getD i 0), .ref q2]) nt)
      have hkk : NkAt (upd (upd (upd H5 D2 (iL ((posl (row R i)).map fun t => KS.getD t 0))) q2 (.tup (((posl (row R i)).map fun t => KS.getD t 0).map V.int))) t (.tup [.int (KS.getD i 0), .ref q2])) t (nkOf (kc R KS i)) :=
        ⟨_, q2, _, _, _, rfl, upd_same, same_new nt _ _ upd_same, rfl, nums_nk _⟩
      generalize upd (upd (upd H5 D2 (iL ((posl (row R i)).map fun t => KS.getD t 0))) q2 (.tup (((posl (row R i)).map fun t => KS.getD t 0).map V.int))) t (.tup [.int (KS.getD i 0), .ref q2]) = H7 at s7 hkk
      refine ⟨_, s7 _ _ hE, szLt (by rw [List.length_map]; omega), same_mut (s4.trans s7) nE, ts ++ [t], by rw [upd_same, snocR], by rw [List.length_append, htl]; rfl, ?_⟩
      rw [List.take_add_one, bySt_get hil]
      refine Paired.snoc ?_ (nk_keep (s7 _ _ hE) (fun _ z => by cases z) hkk)
      exact Paired.mapP hts fun x y e => nk_keep (s7 _ _ hE) (fun _ z => by cases z) (e.same s7)
    rintro H4 ⟨s4, ts, hE, htl, hts⟩
    rw [List.length_map, hal, ← bySt_len (R := R) (f := fun s => nkOf (kc R KS s)), List.take_length] at hts
    refine ⟨E, ts, _, rfl, hE, hts, by rw [bySt_len]; omega, fun f H5 s5 nf hf => ?_⟩
    have hk5 := s5 _ _ (s4 _ _ hk)
    have S5 := s3.trans (s4.trans s5)
    have nfH : H f = none := s3.free (s4.free nf)
    refine ⟨_, rfl, _, rfl, rd_eqI hf hk5 ⟨_, rfl, ite2 (fun e => ?_) (fun e => ?_)⟩⟩
    · have e := of_decide_eq_true e
      rw [I.done W e] at hk5
      exact ⟨_, rfl, q k H5 S5 nk hk5⟩
    · have e : ¬ numI (bySt R fun s => nkOf (kc R KS s)) = KS := fun z => e (decide_eq_true z)
      have h1 := I.grow W e
      have h2 := (I.next W hL).most
      exact ⟨_, rfl, f, _, _, by omega, rfl, S5, nfH, hf, I.next W hL⟩
end
end Gal
end
section
set_option Elab.async false
set_option linter.all false
set_option maxRecDepth 100000
set_option maxHeartbeats 4000000
/-! the table without what leads nowhere; its classes -/
namespace Gal
open PySem PySem.Spec PyProof.Rows L2
open Classical
noncomputable def kept (R : List (List Int)) (G : List Bool) (k : Nat) : List Nat := (bfs R k).filter fun s => decide (Lead (stI R) (gdI G) s)
noncomputable def trX (R : List (List Int)) (G : List Bool) (kp : List Nat) (x : Int) : Int := if 0 ≤ x ∧ Lead (stI R) (gdI G) x.toNat then (idx x.toNat kp : Nat) else -1
noncomputable def trR (R : List (List Int)) (G : List Bool) (kp : List Nat) : List (List Int) := kp.map fun s => (row R s).map (trX R G kp)
def trG (G : List Bool) (kp : List Nat) : List Bool := kp.map (gdI G)
section
variable {c k : Nat} {R : List (List Int)} {G : List Bool}
theorem mem_kept {s : Nat} : s ∈ kept R G k ↔ s ∈ bfs R k ∧ Lead (stI R) (gdI G) s := by
  unfold kept
  rw [List.mem_filter, decide_eq_true_eq]
theorem kept_nodup : (kept R G k).Nodup := (bfs_nodup k).filter _
theorem kept_lt (W : WF c R G) {s : Nat} (h : s ∈ kept R G k) : s < R.length := bfs_lt W k s (mem_kept.mp h).1
theorem trX_neg {kp : List Nat} {x : Int} (h : x < 0) : trX R G kp x = -1 := if_neg (by omega)
theorem trX_lead {kp : List Nat} {t : Nat} (h : Lead (stI R) (gdI G) t) : trX R G kp (t : Int) = (idx t kp : Nat) := by
  unfold trX
  rw [if_pos ⟨by omega, by rw [Int.toNat_natCast]; exact h⟩, Int.toNat_natCast]
theorem trX_not {kp : List Nat} {t : Nat} (h : ¬ Lead (stI R) (gdI G) t) : trX R G kp (t : Int) = -1 := by
  unfold trX
  rw [if_neg (fun z => h (by have := z.2; rwa [Int.toNat_natCast] at this))]
theorem trR_len {kp : List Nat} : (trR R G kp).length = kp.length := by unfold trR; rw [List.length_map]
theorem trR_row {kp : List Nat} {i s : Nat} (h : kp[i]? = some s) : row (trR R G kp) i = (row R s).map (trX R G kp) := by
  refine row_get ?_
  unfold trR
  rw [List.getElem?_map, h]; rfl
/-- a step of a kept state leads to a kept one, or nowhere -/
theorem tr_bd (W : WF c R G) (d : Done R k) {s : Nat} (hs : s ∈ bfs R k) {x : Int} (hx : x ∈ row R s) : -1 ≤ trX R G (kept R G k) x ∧ trX R G (kept R G k) x < (kept R G k).length := by
  by_cases h0 : 0 ≤ x
  · obtain ⟨t, rfl⟩ : ∃ t : Nat, x = (t : Int) := ⟨x.toNat, by omega⟩
    by_cases hL : Lead (stI R) (gdI G) t
    · rw [trX_lead hL]
      obtain ⟨a, ha⟩ := mem_posl.mp (show t ∈ posl (row R s) from List.mem_filterMap.mpr ⟨_, hx, pos_nat t⟩)
      have := idx_lt (mem_kept.mpr ⟨d.closed hs ha, hL⟩)
      omega
    · rw [trX_not hL]; omega
  · rw [trX_neg (by omega)]; omega
theorem tr_wf (W : WF c R G) (d : Done R k) (h0 : Lead (stI R) (gdI G) 0) : WF c (trR R G (kept R G k)) (trG G (kept R G k)) := by
  have hp : 0 < (kept R G k).length := List.length_pos_of_mem (mem_kept.mpr ⟨bfs_zero k, h0⟩)
  refine ⟨by rw [trR_len]; exact hp, by rw [trR_len]; unfold trG; rw [List.length_map], fun r hr => ?_⟩
  unfold trR at hr
  obtain ⟨s, hs, rfl⟩ := List.mem_map.mp hr
  rw [trR_len, List.length_map, (wf_row W (kept_lt W hs)).1]
  refine ⟨rfl, fun x hx => ?_⟩
  obtain ⟨y, hy, rfl⟩ := List.mem_map.mp hx
  exact tr_bd W d (mem_kept.mp hs).1 hy
theorem tr_lang (W : WF c R G) (d : Done R k) {i s : Nat} (h : (kept R G k)[i]? = some s) : L_ (trR R G (kept R G k)) (trG G (kept R G k)) i = L_ R G s := by
  have hm := List.mem_of_getElem? h
  have hi : idx s (kept R G k) = i := idx_at kept_nodup h
  have hgood : ∀ t, ¬ Lead (stI R) (gdI G) t → gdI G t = false := fun t ht => by
    cases e : gdI G t with
    | false => rfl
    | true => exact absurd ⟨[], e⟩ ht
  refine (funext fun w => ?_).symm
  have := bisimP (R := R) (G := G) (R' := trR R G (kept R G k)) (G' := trG G (kept R G k)) (Rel := fun x y => (x = -1 ∨ ∃ t : Nat, x = t ∧ t ∈ bfs R k) ∧ y = trX R G (kept R G k) x) ?_ ?_ w (s : Int) (i : Int) ⟨.inr ⟨s, rfl, (mem_kept.mp hm).1⟩, by rw [trX_lead (mem_kept.mp hm).2, hi]⟩
  · have e1 : langO R G (s : Int) w = acc (stI R) (gdI G) w s := by unfold langO; rw [pos_nat]
    have e2 : langO (trR R G (kept R G k)) (trG G (kept R G k)) (i : Int) w = acc (stI (trR R G (kept R G k))) (gdI (trG G (kept R G k))) w i := by unfold langO; rw [pos_nat]
    rw [e1, e2] at this
    exact this
  · rintro x y ⟨hx, rfl⟩
    rcases hx with rfl | ⟨t, rfl, ht⟩
    · rw [trX_neg (by omega), gdO_neg, gdO_neg]
    · by_cases hL : Lead (stI R) (gdI G) t
      · rw [trX_lead hL, gdO_nat, gdO_nat]
        have hg := idx_get (mem_kept.mpr ⟨ht, hL⟩)
        show _ = (trG G (kept R G k)).getD (idx t (kept R G k)) false
        unfold trG
        rw [List.getD_eq_getElem?_getD, List.getElem?_map, hg]; rfl
      · rw [trX_not hL, gdO_nat, gdO_neg]
        exact hgood t hL
  · rintro x y a ⟨hx, rfl⟩
    rcases hx with rfl | ⟨t, rfl, ht⟩
    · rw [trX_neg (by omega), stO_neg, stO_neg, trX_neg (by omega)]
      exact ⟨.inl rfl, rfl⟩
    · have htl := bfs_lt W k t ht
      have hst : stO R (t : Int) a = -1 ∨ ∃ u, stO R (t : Int) a = (u : Nat) ∧ stI R t a = some u := by
        rw [stO_nat]
        by_cases h0 : 0 ≤ (row R t).getD a (-1)
        · right
          exact ⟨((row R t).getD a (-1)).toNat, by omega, by rw [stI_row, pos_nn h0]⟩
        · left
          by_cases ha : a < (row R t).length
          · have hm : (row R t).getD a (-1) ∈ row R t := by rw [List.getD_eq_getElem?_getD, List.getElem?_eq_getElem ha]; exact List.getElem_mem ha
            have := (wf_row W htl).2 _ hm
            omega
          · rw [List.getD_eq_getElem?_getD, List.getElem?_eq_none (by omega)]; rfl
      refine ⟨?_, ?_⟩
      · rcases hst with z | ⟨u, z, z2⟩
        · exact .inl z
        · exact .inr ⟨u, z, d.closed ht z2⟩
      · by_cases hL : Lead (stI R) (gdI G) t
        · have hg := idx_get (mem_kept.mpr ⟨ht, hL⟩)
          rw [trX_lead hL, stO_nat, stO_nat, trR_row hg, List.getD_eq_getElem?_getD, List.getD_eq_getElem?_getD, List.getElem?_map]
          cases (row R t)[a]? with
          | none => exact (trX_neg (by decide)).symm
          | some z => rfl
        · rw [trX_not hL, stO_neg]
          rcases hst with z | ⟨u, z, z2⟩
          · rw [z, trX_neg (by omega)]
          · rw [z, trX_not (fun q => hL (lead_of_step z2 q))]
theorem tr_lead (W : WF c R G) (d : Done R k) : ∀ i, i < (trR R G (kept R G k)).length → Lead (stI (trR R G (kept R G k))) (gdI (trG G (kept R G k))) i := fun i hi => by
  rw [trR_len] at hi
  have h := List.getElem?_eq_getElem hi
  have e := tr_lang W d h
  rw [lead_iff]
  show Full (L_ _ _ i)
  rw [e]
  exact (mem_kept.mp (List.getElem_mem hi)).2
/-- the languages of the kept states -/
noncomputable def LSt (R : List (List Int)) (G : List Bool) (k : Nat) : List Lang := (kept R G k).map (L_ R G)
theorem tr_langs (W : WF c R G) (d : Done R k) : bySt (trR R G (kept R G k)) (L_ (trR R G (kept R G k)) (trG G (kept R G k))) = LSt R G k := by
  refine List.ext_getElem? fun i => ?_
  unfold LSt
  by_cases hi : i < (kept R G k).length
  · have h1 := bySt_get (R := trR R G (kept R G k)) (f := L_ (trR R G (kept R G k)) (trG G (kept R G k))) (s := i) (by rw [trR_len]; exact hi)
    have h2 : ((kept R G k).map (L_ R G))[i]? = some (L_ R G (kept R G k)[i]) := by rw [List.getElem?_map, List.getElem?_eq_getElem hi]; rfl
    rw [h1, h2, tr_lang W d (List.getElem?_eq_getElem hi)]
  · have h1 : (bySt (trR R G (kept R G k)) (L_ (trR R G (kept R G k)) (trG G (kept R G k))))[i]? = none := List.getElem?_eq_none (by rw [bySt_len, trR_len]; omega)
    have h2 : ((kept R G k).map (L_ R G))[i]? = none := List.getElem?_eq_none (by rw [List.length_map]; omega)
    rw [h1, h2]
theorem tr_langN (W : WF c R G) (d : Done R k) : langN (trR R G (kept R G k)) (trG G (kept R G k)) = numI (LSt R G k) := by
  unfold langN
  rw [← tr_langs W d]
theorem Lgs_LSt : Lgs R G (bfs R k) = ded (LSt R G k) := by
  unfold Lgs LSt kept
  congr 1
  induction bfs R k with
  | nil => rfl
  | cons s P ih =>
    by_cases h : Lead (stI R) (gdI G) s
    · rw [List.filterMap_cons_some (kap_some h), List.filter_cons_of_pos (by rw [decide_eq_true h]), List.map_cons, ih]
    · rw [List.filterMap_cons_none (kap_none h), List.filter_cons_of_neg (by rw [decide_eq_false h]; decide), ih]
/-- a class of a state, as a step -/
noncomputable def clX (R : List (List Int)) (G : List Bool) (k : Nat) (y : Int) : Int := if 0 ≤ y then (numI (LSt R G k)).getD y.toNat (-1) else -1
theorem LSt_get {i s : Nat} (h : (kept R G k)[i]? = some s) : (LSt R G k)[i]? = some (L_ R G s) := by
  unfold LSt
  rw [List.getElem?_map, h]; rfl
theorem numI_get {α : Type} [DecidableEq α] {ks : List α} {i : Nat} {x : α} (h : ks[i]? = some x) : (numI ks)[i]? = some ((idx x (ded ks) : Nat) : Int) := by
  unfold numI
  rw [List.getElem?_map, numb_get h]; rfl
theorem LSt_len : (LSt R G k).length = (kept R G k).length := by unfold LSt; rw [List.length_map]
/-- the least row of a kept state -/
theorem least_row (W : WF c R G) (d : Done R k) {i s : Nat} (h : (kept R G k)[i]? = some s) : (row (trR R G (kept R G k)) i).map (clX R G k) = rowL c (ded (LSt R G k)) (L_ R G s) := by
  have hm := List.mem_of_getElem? h
  have hs := kept_lt W hm
  have e := rowL_row (L := ded (LSt R G k)) W hs
  show _ = rowL c (ded (LSt R G k)) (lang (stI R) (gdI G) s)
  rw [e, trR_row h, List.map_map]
  refine List.map_congr_left fun x hx => ?_
  show clX R G k (trX R G (kept R G k) x) = nu R G (ded (LSt R G k)) x
  unfold nu
  by_cases h0 : 0 ≤ x
  · obtain ⟨t, rfl⟩ : ∃ t : Nat, x = (t : Int) := ⟨x.toNat, by omega⟩
    rw [pos_nat]
    by_cases hL : Lead (stI R) (gdI G) t
    · obtain ⟨a, ha⟩ := mem_posl.mp (show t ∈ posl (row R s) from List.mem_filterMap.mpr ⟨_, hx, pos_nat t⟩)
      have hg := idx_get (mem_kept.mpr ⟨d.closed (mem_kept.mp hm).1 ha, hL⟩)
      rw [trX_lead hL]
      unfold clX
      have hn := numI_get (LSt_get hg)
      rw [if_pos (by omega), Int.toNat_natCast, List.getD_eq_getElem?_getD, hn]
      show _ = if Lead (stI R) (gdI G) t then _ else _
      rw [if_pos hL]; rfl
    · rw [trX_not hL]
      show clX R G k (-1) = if Lead (stI R) (gdI G) t then _ else _
      rw [if_neg hL]
      unfold clX
      rw [if_neg (by omega)]
  · rw [trX_neg (by omega), pos_neg (by omega)]
    unfold clX
    rw [if_neg (by omega)]
end
end Gal
end
section
set_option Elab.async false
set_option linter.all false
set_option maxRecDepth 100000
set_option maxHeartbeats 4000000
namespace Gal
open PySem PySem.Spec PyProof.Rows L2
section
variable {P : Program} {w : World} {K : PySem.W.Frag} {mg : Str → Option Value} {base : Heap}
/-- a dict comprehension over a walk -/
theorem dc_it {J : It} {n : Nat} {G : Hp → Prop} {Y : Nat → Hp → V → Hp → Prop} (w : Walk J n G Y) {g : TG} {tt : TT} {tk tv : TE} {vs : List Nat} {σ : L2.St} {H1 : Hp} {D : Addr} {Qd : Hp → Prop} (Pv : Nat → Hp → Prop) (h0 : Pv 0 (upd H1 D (.dK []))) (hG : ∀ i H, i ≤ n → Pv i H → G H)
    (hs : ∀ i x H H', i < n → Pv i H → Y i H x H' → g x (wipe σ vs) H' fun σ2 H2 => wipe σ2 vs = wipe σ vs ∧ tt σ2 H2 fun b H3 =>
      if b = true then tk σ2 H3 fun y H4 => tv σ2 H4 fun z H5 => ∃ kvs k, y = kV k ∧ H5 D = some (.dK kvs) ∧ kvs.length < sizeLine ∧ Pv (i + 1) (upd H5 D (.dK (putK kvs k z))) else Pv (i + 1) H3) (hd : ∀ H, Pv n H → Qd H) :
    ∃ W : Nat → Nat → Hp → Prop, (∃ m, W 0 m (upd H1 D (.dK []))) ∧ ∀ i m H, W i m H →
      (J.stop i H ∧ Qd H) ∨ (J.go i H ∧ ∃ Nx : Hp → Prop, (∀ H', Nx H' → ∃ m', m' < m ∧ W (i + 1) m' H') ∧ ∀ x H', J.yld i H x H' → g x (wipe σ vs) H' fun σ2 H2 => wipe σ2 vs = wipe σ vs ∧ tt σ2 H2 fun b H3 =>
        if b = true then tk σ2 H3 fun y H4 => tv σ2 H4 fun z H5 => ∃ kvs k, y = kV k ∧ H5 D = some (.dK kvs) ∧ kvs.length < sizeLine ∧ Nx (upd H5 D (.dK (putK kvs k z))) else Nx H3) := by
  refine ⟨fun i m H => m = n - i ∧ i ≤ n ∧ Pv i H, ⟨n, by simp, Nat.zero_le _, h0⟩, ?_⟩
  rintro i m H ⟨rfl, hi, p⟩
  have q := hG i H hi p
  by_cases hlt : i < n
  · refine .inr ⟨w.goes i H hlt q, Pv (i + 1), fun H' p' => ⟨n - (i + 1), by omega, rfl, hlt, p'⟩, fun x H' y => hs i x H H' hlt p (w.yields i H x H' hlt q y)⟩
  · have e : i = n := by omega
    subst e
    exact .inl ⟨w.stops H q, hd H p⟩
/-! ### the table without what leads nowhere -/
abbrev N_trimmed : List Str := ["rows", "goods", "leads", "kept", "numbers", "steps", "state", "place", "symbol"]
theorem sc_trimmed : FnScope N_trimmed ["rows", "goods"] (defScope s_trimmed) := ⟨rfl, rfl, rfl, by decide +kernel, rfl, by decide +kernel, by decide +kernel⟩
theorem b_trimmed (T : TX K mg) : Binds K T.d_trimmed ["rows", "goods"] [] := T.F_trimmed.bindsN fun _ _ _ _ _ _ us hl => match us, hl with | [_, _], _ => rfl
def nmD (kp : List Nat) : List (Key × V) := kp.zipIdx.map fun p => (.inl (p.1 : Int), .int (p.2 : Nat))
theorem nmD_snoc {kp : List Nat} {t : Nat} : nmD (kp ++ [t]) = nmD kp ++ [(.inl (t : Int), .int (kp.length : Nat))] := by
  unfold nmD
  rw [List.zipIdx_append, List.map_append]; simp
theorem nmD_len {kp : List Nat} : (nmD kp).length = kp.length := by unfold nmD; rw [List.length_map, List.length_zipIdx]
theorem nmD_val {t : Nat} (kp : List Nat) : (t ∈ kp → valV (nmD kp) (.inl (t : Int)) = some (.int (idx t kp : Nat))) ∧ (t ∉ kp → valV (nmD kp) (.inl (t : Int)) = none) := by
  refine snoc_rec (P := fun kp => (t ∈ kp → valV (nmD kp) (.inl (t : Int)) = some (.int (idx t kp : Nat))) ∧ (t ∉ kp → valV (nmD kp) (.inl (t : Int)) = none)) ⟨(fun z => nomatch z), fun _ => rfl⟩ (fun m y ih => ?_) kp
  obtain ⟨h1, h2⟩ := ih
  rw [nmD_snoc, valV_app]
  constructor
  · intro hk
    by_cases hkm : t ∈ m
    · rw [h1 hkm, idx_app [y] hkm]
    · have : t = y := by simpa [hkm] using hk
      subst this
      rw [h2 hkm]
      show valV [((Sum.inl (t : Int) : Key), V.int (m.length : Nat))] (.inl (t : Int)) = _
      rw [valV_one, if_pos rfl, idx_last hkm]
  · intro hk
    have hkm : t ∉ m := fun z => hk (List.mem_append_left _ z)
    have hky : ¬ (Sum.inl (y : Int) : Key) = .inl (t : Int) := fun z => hk (by have := Sum.inl.inj z; rw [show t = y by omega]; simp)
    rw [h2 hkm]
    show valV [((Sum.inl (y : Int) : Key), V.int (m.length : Nat))] (.inl (t : Int)) = _
    rw [valV_one, if_neg hky]
theorem nmD_put {kp : List Nat} {t : Nat} (h : t ∉ kp) : putK (nmD kp) (.inl (t : Int)) (.int (kp.length : Nat)) = nmD (kp ++ [t]) := by
  rw [nmD_snoc]
  refine put_new fun kv hkv z => h ?_
  obtain ⟨p, hp, rfl⟩ := List.mem_map.mp hkv
  have h1 := Sum.inl.inj z
  have h2 : p.1 ∈ kp := by
    obtain ⟨i, hi, e⟩ := List.getElem_of_mem hp
    rw [List.getElem_zipIdx] at e
    rw [← e]
    exact List.getElem_mem _
  rw [show t = p.1 by omega]; exact h2
noncomputable def ldS (R : List (List Int)) (G : List Bool) (s : Nat) : Bool := open Classical in decide (Lead (stI R) (gdI G) s)
open Classical in
theorem ldS_iff {R : List (List Int)} {G : List Bool} {s : Nat} : ldS R G s = true ↔ Lead (stI R) (gdI G) s := by
  unfold ldS
  rw [decide_eq_true_eq]
theorem ldS_of {R : List (List Int)} {G : List Bool} {s : Nat} {b : Bool} (h : b = true ↔ Lead (stI R) (gdI G) s) : b = ldS R G s := by
  cases b with
  | true => exact (ldS_iff.mpr (h.mp rfl)).symm
  | false =>
    cases e : ldS R G s with
    | false => rfl
    | true => exact absurd (h.mpr (ldS_iff.mp e)) Bool.false_ne_true
open Classical in
theorem kept_ldS {R : List (List Int)} {G : List Bool} {k : Nat} : kept R G k = (bfs R k).filter (ldS R G) := rfl
/-- the columns of a row whose step leads on -/
noncomputable def ldC (R : List (List Int)) (G : List Bool) (r : List Int) : Nat → Bool := fun j => ldS R G (r.getD j (-1)).toNat
theorem getD_map {f : Int → Int} (h : f (-1) = -1) {r : List Int} {j : Nat} : (r.map f).getD j (-1) = f (r.getD j (-1)) := by
  rw [List.getD_eq_getElem?_getD, List.getD_eq_getElem?_getD, List.getElem?_map]
  cases r[j]? with
  | none => exact h.symm
  | some x => rfl
open Classical in
theorem cl_tr {R : List (List Int)} {G : List Bool} {kp : List Nat} {r : List Int} : cl (r.map (trX R G kp)) = (cl r).filter (ldC R G r) := by
  unfold cl
  rw [List.length_map, List.filter_filter]
  refine List.filter_congr fun j hj => ?_
  rw [getD_map (trX_neg (by decide))]
  by_cases h0 : 0 ≤ r.getD j (-1)
  · obtain ⟨t, ht⟩ : ∃ t : Nat, r.getD j (-1) = (t : Int) := ⟨(r.getD j (-1)).toNat, by omega⟩
    unfold ldC
    rw [ht, Int.toNat_natCast]
    by_cases hL : Lead (stI R) (gdI G) t
    · rw [trX_lead hL, ldS_iff.mpr hL, decide_eq_true (by omega), decide_eq_true (by omega)]; rfl
    · rw [trX_not hL, ← ldS_of (b := false) ⟨fun z => Bool.noConfusion z, fun z => absurd z hL⟩, decide_eq_false (by omega)]; rfl
  · rw [trX_neg (by omega), decide_eq_false (by omega), decide_eq_false h0, Bool.and_false]
noncomputable def trD (R : List (List Int)) (G : List Bool) (kp : List Nat) (r : List Int) (js : List Nat) : List (Key × V) := (js.filter (ldC R G r)).map fun j => (.inr (colS j), .int (trX R G kp (r.getD j (-1))))
theorem trD_all {R : List (List Int)} {G : List Bool} {kp : List Nat} {r : List Int} : trD R G kp r (cl r) = dR (r.map (trX R G kp)) := by
  unfold trD dR
  rw [cl_tr]
  refine List.map_congr_left fun j hj => ?_
  rw [getD_map (trX_neg (by decide))]
theorem trD_len {R : List (List Int)} {G : List Bool} {kp : List Nat} {r : List Int} {js : List Nat} : (trD R G kp r js).length ≤ js.length := by
  unfold trD
  rw [List.length_map]
  exact List.length_filter_le _ _
theorem trD_put {R : List (List Int)} {G : List Bool} {kp : List Nat} {r : List Int} {js : List Nat} {j : Nat} (hj : j ∉ js) (h : ldC R G r j = true) : putK (trD R G kp r js) (.inr (colS j)) (.int (trX R G kp (r.getD j (-1)))) = trD R G kp r (js ++ [j]) := by
  rw [put_new]
  · unfold trD
    rw [List.filter_append, List.map_append, List.filter_cons_of_pos h]; rfl
  · intro kv hkv z
    obtain ⟨i, hi, rfl⟩ := List.mem_map.mp hkv
    have := colS_inj (Sum.inr.inj z)
    subst this
    exact hj (List.mem_filter.mp hi).1
theorem trD_skip {R : List (List Int)} {G : List Bool} {kp : List Nat} {r : List Int} {js : List Nat} {j : Nat} (h : ldC R G r j = false) : trD R G kp r (js ++ [j]) = trD R G kp r js := by
  unfold trD
  rw [List.filter_append, List.map_append, List.filter_cons_of_neg (by rw [h]; decide)]
  simp
theorem cl_take {r : List Int} {j col : Nat} (h : (cl r)[j]? = some col) : col ∉ (cl r).take j := fun z => by
  obtain ⟨i, hi, e⟩ := List.getElem_of_mem z
  rw [List.length_take] at hi
  rw [List.getElem_take] at e
  have hj := (List.getElem?_eq_some_iff.mp h)
  have := List.pairwise_iff_getElem.mp (cl_lt (r := r)) i j (by omega) hj.1 (by omega)
  rw [e, hj.2] at this
  omega
def sp_trimmed : Sp := fun vs H Q _ => ∃ (a b : Addr) (c : Nat) (R : List (List Int)) (G : List Bool), vs = [.ref a, .ref b] ∧ DTb H a R ∧ H b = some (bL G) ∧ WF c R G ∧ R.length ≤ 60 ∧ c ≤ 9 ∧
  (¬ Lead (stI R) (gdI G) 0 → ∀ H' : Hp, Same H H' → Q .non H') ∧
  (Lead (stI R) (gdI G) 0 → ∀ (z st mk : Addr) (k : Nat) (H' : Hp), Same H H' → Done R k → H' z = some (.tup [.ref st, .ref mk]) → DTb H' st (trR R G (kept R G k)) → H' mk = some (bL (trG G (kept R G k))) → Q (.ref z) H')
theorem ok_trimmed (T : TX K mg) : FnOk P w K mg base CX0 2 (He.fAd K ("trimmed", none)) T.d_trimmed ["rows", "goods"] sp_trimmed := by
  refine T.F_trimmed.ok sc_trimmed (fun vs H Q E h => ?_) (fun cdv A outer s H vs Q E hr h => ?_)
  · obtain ⟨a, b, c, R, G, rfl, _⟩ := h
    rfl
  · obtain ⟨a, b, c, R, G, rfl, ⟨as, ha, hR⟩, hb, W, hl, hc, qn, qs⟩ := h
    refine ⟨_, PSs.nox (pss_cons (ps_set (i := 2) sc_trimmed.nd rfl (Or.inr rfl) (pe_call (ok_leading_on T) (hr.mono (by decide)) (by rfl) T.g_leading_on T.F_leading_on.kp (b_leading_on T) .nil pass0 (pa_cons (pv 0) (pa_cons (pv 1) pa_nil))))
    (pss_cons (ps_if (pt_not (pt_val (pe_ix (ixL K) (pv 2) pe_int (fun _ _ => rfl)))) (pss_one (ps_ret pe_non)) pss_nil)
    (pss_cons (ps_setLc (i := 3) (own := [("state", 6)]) (g := gName 6) rfl sc_trimmed.nd rfl rfl (sw_true rfl rfl rfl (by decide +kernel)) (pi_listK K (pe_ix (ixT K) (pe_call (ok_found_states T) (hr.mono (by decide)) (by rfl) T.g_found_states T.F_found_states.kp (b_found_states T) .nil pass0 (pa_cons (pv 0) pa_nil)) pe_int (fun _ _ => rfl))) (blkOk_by (own := [("state", 6)]) (N := N_trimmed) (sc := defScope s_trimmed) (by decide +kernel)) (fun _ _ _ _ _ => (pg_name (i := 6) sc_trimmed.nd rfl (Or.inl rfl))) (fun _ _ _ _ _ => (pts_one (pt_val (pe_ix (ixL K) (pv 2) (pv 6) (fun _ _ => rfl))))) (fun _ _ _ _ _ => (pv 6)))
    (pss_cons (ps_set (i := 4) sc_trimmed.nd rfl (Or.inr rfl) (pe_dc (own := [("place", 7), ("state", 6)]) (g := gTup K 2 (gCons (gName 7) (gCons (gName 6) (gNil)))) (tt := tYes) rfl sc_trimmed.nd (pi_enum (by rfl) T.n_enumerate (pa_cons (pv 3) pa_nil)) (blkOk_by (own := [("place", 7), ("state", 6)]) (N := N_trimmed) (sc := defScope s_trimmed) (by decide +kernel)) (fun _ _ _ _ _ => (tupG K rfl (pgs_cons (pg_name (i := 7) sc_trimmed.nd rfl (Or.inl rfl)) (pgs_cons (pg_name (i := 6) sc_trimmed.nd rfl (Or.inl rfl)) pgs_nil)))) (fun _ _ _ _ _ => pts_nil) (fun _ _ _ _ _ => (pv 6)) (fun _ _ _ _ _ => (pv 7))))
    (pss_cons (ps_setLc (i := 5) (own := [("state", 6)]) (g := gName 6) (tt := tYes) rfl sc_trimmed.nd rfl rfl (sw_true rfl rfl rfl (by decide +kernel)) (pi_listK K (pv 3)) (blkOk_by (own := [("state", 6)]) (N := N_trimmed) (sc := defScope s_trimmed) (by decide +kernel)) (fun _ _ _ _ _ => (pg_name (i := 6) sc_trimmed.nd rfl (Or.inr rfl))) (fun _ _ _ _ _ => pts_nil) (fun _ _ _ _ _ => (pe_dc (own := [("symbol", 8)]) (g := gName 8) rfl sc_trimmed.nd (pi_listK K (pe_callB (srtK K) (by rfl) T.n_sorted bt_sorted (pa_cons (pe_callTy (call_list_dK rfl) (by rfl) T.n_list bt_list (pa_cons (pe_ix (ixL K) (pv 0) (pv 6) (fun _ _ => rfl)) pa_nil)) pa_nil))) (blkOk_by (own := [("symbol", 8)]) (N := N_trimmed) (sc := ({ kind := .function, names := [(".0", .local), ("state", .cell), ("sorted", .globalImplicit), ("list", .globalImplicit), ("leads", .cell), ("numbers", .cell), ("rows", .cell)], isGenerator := false, isCoroutine := false, more := [] } : Scope)) (by decide +kernel)) (fun _ _ _ _ _ => (pg_name (i := 8) sc_trimmed.nd rfl (Or.inl rfl))) (fun _ _ _ _ _ => (pts_one (pt_val (pe_ix (ixL K) (pv 2) (pe_dget (hu_of hr) (pe_ix (ixL K) (pv 0) (pv 6) (fun _ _ => rfl)) (pv 8) (fun _ _ => rfl)) (fun _ _ => rfl))))) (fun _ _ _ _ _ => (pv 8)) (fun _ _ _ _ _ => (pe_dget (hu_of hr) (pv 4) (pe_dget (hu_of hr) (pe_ix (ixL K) (pv 0) (pv 6) (fun _ _ => rfl)) (pv 8) (fun _ _ => rfl)) (fun _ _ => rfl))))))
    (pss_one (ps_ret (pe_tup (pa_cons (pv 5) (pa_cons (pe_lc (own := [("state", 6)]) (g := gName 6) (tt := tYes) rfl sc_trimmed.nd (pi_listK K (pv 3)) (blkOk_by (own := [("state", 6)]) (N := N_trimmed) (sc := defScope s_trimmed) (by decide +kernel)) (fun _ _ _ _ _ => (pg_name (i := 6) sc_trimmed.nd rfl (Or.inl rfl))) (fun _ _ _ _ _ => pts_nil) (fun _ _ _ _ _ => (pe_ix (ixL K) (pv 1) (pv 6) (fun _ _ => rfl)))) pa_nil)))))))))), ?_⟩
    have hpos := W.pos
    have hgl := W.len
    have hal := Paired.length hR
    refine ⟨_, rfl, _, rfl, a, b, c, R, G, rfl, ⟨as, ha, hR⟩, hb, W, hl, hc, fun l H1 M s1 nl hl1 hML hMl => ?_⟩
    refine ⟨_, rfl, l, _, _, _, rfl, rfl, SqL.of hl1, atI_map (i := 0) (gd_mem (by omega)), _, rfl, ite2 (fun h0 => ?_) (fun h0 => ?_)⟩
    · refine qn (fun z => ?_) H1 s1
      rw [(hMl 0 hpos).mpr z] at h0
      cases h0
    have hM0 : gdI M 0 = true := by cases e : gdI M 0 with
      | true => rfl
      | false => rw [e] at h0; exact absurd rfl h0
    have hL0 := (hMl 0 hpos).mp hM0
    refine ⟨_, rfl, a, c, R, G, rfl, ⟨as, s1 _ _ ha, DRws.same s1 hR⟩, W, hl, hc, fun z0 o cm k H2 s2 hz ho hdn => ⟨z0, _, _, _, rfl, rfl, SqT.of hz, at2_0, o, rfl, ⟨_, SqL.of ho⟩, fun D nD => ?_⟩⟩
    have hMd : ∀ t, t < R.length → gdI M t = ldS R G t := fun t ht => ldS_of (hMl t ht)
    have hbl := bfs_len (k := k) W
    have S2 := s1.trans s2
    have hl2 := s2 _ _ hl1
    refine lc_list (K := K) (a := o) (xs := ((bfs R k).map Int.ofNat).map V.int) (fun i H' => H' = upd H2 D (iL ((((bfs R k).take i).filter (ldS R G)).map Int.ofNat))) (by rw [List.take_zero]; rfl) (fun i H' _ e => by rw [e]; exact SqL.of (same_new nD _ _ ho)) ?_ ?_
    · rintro i x H' hx rfl
      rw [List.map_map] at hx
      obtain ⟨s', hs', rfl⟩ := map_get' (f := V.int ∘ Int.ofNat) hx
      have hsl : s' < R.length := bfs_lt W k s' (List.mem_of_getElem? hs')
      have htk : (bfs R k).take (i + 1) = (bfs R k).take i ++ [s'] := by rw [List.take_add_one, hs']; rfl
      have hfl : (((bfs R k).take i).filter (ldS R G)).length ≤ 100 := by
        have h1 := List.length_filter_le (ldS R G) ((bfs R k).take i)
        rw [List.length_take] at h1
        omega
      refine ⟨rfl, _, rfl, _, rfl, l, _, _, _, rfl, rfl, SqL.of (same_new nD _ _ hl2), atI_map' (i := s') rfl (gd_mem (by omega)), _, rfl, ?_⟩
      rw [hMd s' hsl]
      refine ite2 (fun hd => ?_) (fun hd => ?_)
      · refine ⟨_, rfl, _, upd_same, szLt (by rw [List.length_map, List.length_map]; omega), ?_⟩
        show upd _ _ _ = _
        rw [upd_upd, htk, List.filter_append, show [s'].filter (ldS R G) = [s'] by simp [hd], List.map_append]
        congr 1
        show HO.lst _ = HO.lst _
        rw [List.map_append]; rfl
      · show upd _ _ _ = _
        rw [htk, List.filter_append, show [s'].filter (ldS R G) = [] by simp [hd], List.append_nil]
    rintro H3' rfl
    rw [List.length_map, List.length_map, List.take_length]
    show _
    have s3 : Same H2 (upd H2 D (iL ((kept R G k).map Int.ofNat))) := same_new nD
    have hD3 : upd H2 D (iL ((kept R G k).map Int.ofNat)) D = some (iL ((kept R G k).map Int.ofNat)) := upd_same
    have S3 := S2.trans s3
    have hl3 := s3 _ _ hl2
    have hkl : (kept R G k).length ≤ 60 := by
      have := List.length_filter_le (ldS R G) (bfs R k)
      exact Nat.le_trans this (Nat.le_trans hbl hl)
    have hklt : ∀ s ∈ kept R G k, s < R.length := fun s hs => kept_lt W hs
    have eH : (upd H2 D (iL (((bfs R k).filter (ldS R G)).map Int.ofNat))) = upd H2 D (iL ((kept R G k).map Int.ofNat)) := rfl
    rw [eH]
    generalize upd H2 D (iL ((kept R G k).map Int.ofNat)) = H3 at s3 hD3 S3 hl3
    generalize hkp : kept R G k = kp at *
    refine ⟨_, rfl, D, _, rfl, SqL.of hD3, fun d nd => ?_⟩
    refine dc_it (walk_enum (xs := (kp.map Int.ofNat).map V.int)) (fun i H' => Same H3 H' ∧ H' d = some (.dK (nmD (kp.take i)))) ⟨same_new nd, by rw [List.take_zero]; exact upd_same⟩ (fun i H' _ h => SqL.of (h.1 _ _ hD3)) ?_ ?_
    · rintro i x H4 _ hi ⟨s4, hd4⟩ ⟨T1, x1, y1, rfl, nT, rfl, hx1, hy1⟩
      have hx1 := Option.some.inj hx1
      subst hx1
      rw [List.map_map] at hy1
      obtain ⟨s', hs', rfl⟩ := map_get' (f := V.int ∘ Int.ofNat) hy1
      have hil : i < kp.length := (List.getElem?_eq_some_iff.mp hs').1
      have s5 : Same H4 (upd H4 T1 (.tup [.int (i : Nat), .int (Int.ofNat s')])) := same_new nT
      refine ⟨T1, _, rfl, SqT.of upd_same, rfl, _, _, rfl, _, _, rfl, rfl, rfl, _, rfl, _, rfl, _, .inl (s' : Int), rfl, s5 _ _ hd4, szLt (by rw [nmD_len, List.length_take]; omega), same_mut (s4.trans s5) nd, ?_⟩
      have hni : s' ∉ kp.take i := fun z => by
        obtain ⟨j, hj, e⟩ := List.getElem_of_mem z
        rw [List.length_take] at hj
        rw [List.getElem_take] at e
        have h2 := (List.getElem?_eq_some_iff.mp hs').2
        have nd' : kp.Nodup := by rw [← hkp]; exact kept_nodup
        have := (List.getElem_inj nd').mp (e.trans h2.symm)
        omega
      have hp := nmD_put hni
      rw [List.length_take, Nat.min_eq_left (by omega)] at hp
      rw [upd_same, hp, List.take_add_one, hs']; rfl
    rintro H4 ⟨s4, hd4⟩
    rw [List.length_map, List.length_map, List.take_length] at hd4
    have S4 := S3.trans s4
    have hl4 := s4 _ _ hl3
    have hD4 := s4 _ _ hD3
    refine ⟨_, rfl, D, rfl, ⟨_, SqL.of hD4⟩, fun e ne => ?_⟩
    refine lc_list (K := K) (a := D) (xs := (kp.map Int.ofNat).map V.int) (fun i H' => Same H4 H' ∧ ∃ bs, H' e = some (rL bs) ∧ bs.length = i ∧ DRws H' bs ((trR R G kp).take i)) ⟨same_new ne, [], upd_same, rfl, by rw [List.take_zero]; exact .nil⟩ (fun i H' _ h => SqL.of (h.1 _ _ hD4)) ?_ ?_
    · rintro i x H5 hx ⟨s5, bs, he5, hbs, hbr⟩
      rw [List.map_map] at hx
      obtain ⟨s', hs', rfl⟩ := map_get' (f := V.int ∘ Int.ofNat) hx
      have hil : i < kp.length := (List.getElem?_eq_some_iff.mp hs').1
      have hsl : s' < R.length := hklt s' (List.mem_of_getElem? hs')
      have hsb : s' ∈ bfs R k := by
        have := List.mem_of_getElem? hs'
        rw [← hkp] at this
        exact (mem_kept.mp this).1
      obtain ⟨bi, hbi, hri⟩ := paired_get' hR (row_mem hsl)
      obtain ⟨wl, wb⟩ := wf_row W hsl
      have hcl := cl_len (r := row R s')
      have S5 := S4.trans s5
      have ha5 := S5 _ _ ha
      have hri5 : H5 bi = some (.dK (dR (row R s'))) := S5 _ _ hri
      have hl5 := s5 _ _ hl4
      have hd5 := s5 _ _ hd4
      refine ⟨rfl, _, rfl, _, rfl, a, _, _, _, rfl, rfl, SqL.of ha5, atI_map' (i := s') rfl hbi, bi, _, rfl, hri5, fun q1 nq1 => ⟨q1, (cl (row R s')).map colS, rfl, SqL.of (by rw [keys_dR]; exact upd_same), by rw [List.length_map]; omega, fun ys q2 hp hs nq2 => ?_⟩⟩
      have hys := sorted_one hp hs cl_lt
      subst hys
      rw [keys_dR] at nq2 ⊢
      have s6 : Same H5 _ := (same_new (o := .lst (((cl (row R s')).map colS).map V.str)) nq1).trans (same_new (o := .lst (((cl (row R s')).map colS).map V.str)) nq2)
      have hq2 : upd (upd H5 q1 (.lst (((cl (row R s')).map colS).map V.str))) q2 (.lst (((cl (row R s')).map colS).map V.str)) q2 = some (.lst (((cl (row R s')).map colS).map V.str)) := upd_same
      refine ⟨q2, rfl, ⟨_, SqL.of upd_same⟩, fun dd ndd => ?_⟩
      generalize upd (upd H5 q1 (.lst (((cl (row R s')).map colS).map V.str))) q2 (.lst (((cl (row R s')).map colS).map V.str)) = H6 at s6 hq2 ndd
      have sd : ∀ o : HO, Same H6 (upd H6 dd o) := fun o => same_new ndd
      refine dc_it (walk_list (K := K) (a := q2) (xs := ((cl (row R s')).map colS).map V.str)) (fun j H' => H' = upd H6 dd (.dK (trD R G kp (row R s') ((cl (row R s')).take j)))) (by rw [List.take_zero]; rfl) (fun j H' _ z => by rw [z]; exact SqL.of (sd _ _ _ hq2)) ?_ ?_
      · rintro j x H' _ hj rfl ⟨rfl, hx⟩
        rw [List.map_map] at hx
        obtain ⟨col, hcol, rfl⟩ := map_get' (f := V.str ∘ colS) hx
        have hc0 : 0 ≤ (row R s').getD col (-1) := mem_cl.mp (List.mem_of_getElem? hcol)
        obtain ⟨t, ht⟩ : ∃ t : Nat, (row R s').getD col (-1) = (t : Int) := ⟨((row R s').getD col (-1)).toNat, by omega⟩
        have hst : stI R s' col = some t := by rw [stI_row, ht, pos_nat]
        have htl := (stI_lt W hst).1
        have hg : ∀ o : HO, DGet (upd H6 dd o) bi (.str (colS col)) (some (.int (t : Nat))) := fun o => by
          have := DGet.k (k := .inr (colS col)) (sd o _ _ (s6 _ _ hri5))
          rw [dR_val, if_pos hc0, ht] at this
          exact this
        have htk : (cl (row R s')).take (j + 1) = (cl (row R s')).take j ++ [col] := by rw [List.take_add_one, hcol]; rfl
        refine ⟨rfl, _, rfl, _, rfl, _, rfl, a, _, _, _, rfl, rfl, SqL.of (sd _ _ _ (s6 _ _ ha5)), atI_map' (i := s') rfl hbi, _, rfl, bi, _, rfl, hg _, l, _, _, _, rfl, rfl, SqL.of (sd _ _ _ (s6 _ _ hl5)), atI_map (gd_mem (i := t) (by omega)), _, rfl, ?_⟩
        have hld : gdI M t = ldC R G (row R s') col := by
          rw [hMd t htl]
          show ldS R G t = ldS R G ((row R s').getD col (-1)).toNat
          rw [ht, Int.toNat_natCast]
        rw [hld]
        refine ite2 (fun h1 => ?_) (fun h1 => ?_)
        · have hLt : Lead (stI R) (gdI G) t := by
            rw [← hld] at h1
            exact (hMl t htl).mp h1
          have hmk : t ∈ kp := by rw [← hkp]; exact mem_kept.mpr ⟨hdn.closed hsb hst, hLt⟩
          have hg2 : ∀ o : HO, DGet (upd H6 dd o) d (.int (t : Nat)) (some (.int (idx t kp : Nat))) := fun o => by
            have := DGet.k (k := .inl (t : Int)) (sd o _ _ (s6 _ _ hd5))
            rw [(nmD_val kp).1 hmk] at this
            exact this
          refine ⟨_, rfl, _, rfl, _, rfl, _, rfl, a, _, _, _, rfl, rfl, SqL.of (sd _ _ _ (s6 _ _ ha5)), atI_map' (i := s') rfl hbi, _, rfl, bi, _, rfl, hg _, d, _, rfl, hg2 _, _, .inr (colS col), rfl, upd_same, szLt (by have h9 := trD_len (R := R) (G := G) (kp := kp) (r := row R s') (js := (cl (row R s')).take j); rw [List.length_take] at h9; omega), ?_⟩
          have e1 : V.int ((idx t kp : Nat) : Int) = V.int (trX R G kp ((row R s').getD col (-1))) := by rw [ht, trX_lead hLt]
          rw [e1, trD_put (cl_take hcol) h1, upd_upd, htk]
        · have h1' : ldC R G (row R s') col = false := by cases z : ldC R G (row R s') col with
            | false => rfl
            | true => exact absurd z h1
          rw [htk, trD_skip h1']
      rintro H' rfl
      rw [List.length_map, List.length_map, List.take_length, trD_all]
      have s7 := s6.trans (sd (.dK (dR ((row R s').map (trX R G kp)))))
      refine ⟨_, s7 _ _ he5, szLt (by rw [List.length_map]; omega), same_mut (s5.trans s7) ne, bs ++ [dd], by rw [upd_same, snocR], by rw [List.length_append, hbs]; rfl, ?_⟩
      have hrow : (trR R G kp)[i]? = some ((row R s').map (trX R G kp)) := by unfold trR; rw [List.getElem?_map, hs']; rfl
      rw [List.take_add_one, hrow]
      have nde : dd ≠ e := (ne_of_none (s6 _ _ he5) ndd).symm
      refine Paired.snoc ?_ (upd_at nde upd_same)
      exact Paired.mapP hbr fun x y ex => upd_at (ne_of ex he5 (fun z => by cases z)) (s7 _ _ ex)
    rintro H5 ⟨s5, bs, he5, hbs, hbr⟩
    rw [List.length_map, List.length_map, ← trR_len (R := R) (G := G) (kp := kp), List.take_length] at hbr
    have S5 := S4.trans s5
    have hD5 := s5 _ _ hD4
    refine ⟨_, rfl, _, rfl, D, rfl, ⟨_, SqL.of hD5⟩, fun f nf => ?_⟩
    refine lc_list (K := K) (a := D) (xs := (kp.map Int.ofNat).map V.int) (fun i H' => H' = upd H5 f (bL ((trG G kp).take i))) (by rw [List.take_zero]; rfl) (fun i H' _ z => by rw [z]; exact SqL.of (same_new nf _ _ hD5)) ?_ ?_
    · rintro i x H' hx rfl
      rw [List.map_map] at hx
      obtain ⟨s', hs', rfl⟩ := map_get' (f := V.int ∘ Int.ofNat) hx
      have hil : i < kp.length := (List.getElem?_eq_some_iff.mp hs').1
      have hsl : s' < R.length := hklt s' (List.mem_of_getElem? hs')
      refine ⟨rfl, _, rfl, _, rfl, b, _, _, _, rfl, rfl, SqL.of (same_new nf _ _ (S5 _ _ hb)), atI_map' (i := s') rfl (gd_mem (by omega)), _, upd_same, szLt (by rw [List.length_map, List.length_take]; omega), ?_⟩
      have : (trG G kp)[i]? = some (gdI G s') := by unfold trG; rw [List.getElem?_map, hs']; rfl
      rw [upd_upd, snocB, List.take_add_one, this]; rfl
    rintro H' rfl
    have hgl2 : (trG G kp).length = kp.length := by unfold trG; rw [List.length_map]
    rw [List.length_map, List.length_map, ← hgl2, List.take_length]
    refine ⟨(by show 2 ≤ sizeLine; decide), fun z nz => ?_⟩
    have s6 : Same H5 (upd (upd H5 f (bL (trG G kp))) z (.tup [.ref e, .ref f])) := (same_new nf).trans (same_new nz)
    have qq := qs hL0 z e f k _ (S5.trans s6) hdn upd_same
    rw [hkp] at qq
    exact qq ⟨bs, s6 _ _ he5, DRws.same s6 hbr⟩ (same_new nz _ _ upd_same)
end
end Gal
end
section
set_option Elab.async false
set_option linter.all false
set_option maxRecDepth 100000
set_option maxHeartbeats 4000000
namespace Gal
open PySem PySem.Spec PyProof.Rows L2
section
variable {P : Program} {w : World} {K : PySem.W.Frag} {mg : Str → Option Value} {base : Heap}
theorem same_unlock {H H' : Hp} {b : Addr} {u o : HO} (h : H b = some u) (s : Same (upd H b o) H') : Same H (upd H' b u) := fun x v e => by
  by_cases hx : x = b
  · subst hx
    rw [upd_same, ← h, e]
  · exact upd_at hx (s x v (upd_at hx e))
/-- the scheme at p -/
def SchAt (K : PySem.W.Frag) (H : Hp) (p : Addr) (r cc c : Nat) : Prop := ∃ dx, H p = some (.ins (Sc K) dx [("rows", .int (r : Nat)), ("colours", .int (cc : Nat)), ("columns", .str (colT c))])
theorem SchAt.same {H H' : Hp} {p : Addr} {r cc c : Nat} (s : Same H H') (h : SchAt K H p r cc c) : SchAt K H' p r cc c := by
  obtain ⟨dx, e⟩ := h
  exact ⟨dx, s _ _ e⟩
/-! ### rows as dicts -/
abbrev N_step_dicts : List Str := ["scheme", "rows", "row", "column", "step"]
theorem sc_step_dicts : FnScope N_step_dicts ["scheme", "rows"] (defScope s_step_dicts) := ⟨rfl, rfl, rfl, by decide +kernel, rfl, by decide +kernel, by decide +kernel⟩
theorem b_step_dicts (T : TX K mg) : Binds K T.d_step_dicts ["scheme", "rows"] [] := T.F_step_dicts.bindsN fun _ _ _ _ _ _ us hl => match us, hl with | [_, _], _ => rfl
theorem dR_take_put {r : List Int} {i : Nat} {x : Int} (hx : r[i]? = some x) (h : 0 ≤ x) : putK (dR (r.take i)) (.inr (colS i)) (.int x) = dR (r.take (i + 1)) := by
  have hi := (List.getElem?_eq_some_iff.mp hx).1
  have := dR_put (r := r.take i) h
  rw [List.length_take, Nat.min_eq_left (by omega)] at this
  rw [this, List.take_add_one, hx]; rfl
theorem dR_take_skip {r : List Int} {i : Nat} {x : Int} (hx : r[i]? = some x) (h : ¬ 0 ≤ x) : dR (r.take (i + 1)) = dR (r.take i) := by
  rw [List.take_add_one, hx]
  show dR (r.take i ++ [x]) = _
  rw [dR_snoc, if_neg h, List.append_nil]
def sp_step_dicts (K : PySem.W.Frag) : Sp := fun vs H Q _ => ∃ (p a : Addr) (r cc c : Nat) (R : List (List Int)), vs = [.ref p, .ref a] ∧ SchAt K H p r cc c ∧ Tb H a R ∧ (∀ row ∈ R, row.length = c) ∧ c ≤ 9 ∧ R.length ≤ 60 ∧ ∀ (q : Addr) (H' : Hp), Same H H' → H q = none → DTb H' q R → Q (.ref q) H'
theorem ok_step_dicts (T : TX K mg) : FnOk P w K mg base CX0 1 (He.fAd K ("step_dicts", none)) T.d_step_dicts ["scheme", "rows"] (sp_step_dicts K) := by
  refine T.F_step_dicts.ok sc_step_dicts (fun vs H Q E h => ?_) (fun cdv A outer s H vs Q E hr h => ?_)
  · obtain ⟨p, a, r, cc, c, R, rfl, _⟩ := h
    rfl
  · obtain ⟨p, a, r, cc, c, R, rfl, ⟨dx, hp⟩, ⟨as, ha, hR⟩, hrl, hc, hl, q⟩ := h
    refine ⟨_, PSs.nox (pss_one (ps_ret (pe_lc (own := [("row", 2)]) (g := gName 2) (tt := tYes) rfl sc_step_dicts.nd (pi_listK K (pv 1)) (blkOk_by (own := [("row", 2)]) (N := N_step_dicts) (sc := defScope s_step_dicts) (by decide +kernel)) (fun _ _ _ _ _ => (pg_name (i := 2) sc_step_dicts.nd rfl (Or.inl rfl))) (fun _ _ _ _ _ => pts_nil) (fun _ _ _ _ _ => (pe_dc (own := [("column", 3), ("step", 4)]) (g := gTup K 2 (gCons (gName 3) (gCons (gName 4) (gNil)))) rfl sc_step_dicts.nd (pi_zipSL K (by rfl) T.n_zip (pa_cons (fldK K (pv 0) rfl) (pa_cons (pv 2) pa_nil))) (blkOk_by (own := [("column", 3), ("step", 4)]) (N := N_step_dicts) (sc := ({ kind := .function, names := [(".0", .local), ("row", .local), ("zip", .globalImplicit), ("scheme", .cell)], isGenerator := false, isCoroutine := false, more := [] } : Scope)) (by decide +kernel)) (fun _ _ _ _ _ => (tupG K rfl (pgs_cons (pg_name (i := 3) sc_step_dicts.nd rfl (Or.inl rfl)) (pgs_cons (pg_name (i := 4) sc_step_dicts.nd rfl (Or.inl rfl)) pgs_nil)))) (fun _ _ _ _ _ => (pts_one (pt_cmpR op_ge (pv 4) pe_int (nomark _)))) (fun _ _ _ _ _ => (pv 3)) (fun _ _ _ _ _ => (pv 4))))))), ?_⟩
    have hal := Paired.length hR
    refine ⟨_, rfl, a, rfl, ⟨_, SqL.of ha⟩, fun D nD => ?_⟩
    refine lc_list (K := K) (a := a) (xs := as.map V.ref) (fun i H' => Same H H' ∧ ∃ bs, H' D = some (rL bs) ∧ bs.length = i ∧ DRws H' bs (R.take i)) ⟨same_new nD, [], upd_same, rfl, by rw [List.take_zero]; exact .nil⟩ (fun i H' _ h => SqL.of (h.1 _ _ ha)) ?_ ?_
    · rintro i x H1 hx ⟨s1, bs, hD1, hbs, hbr⟩
      obtain ⟨b, hb, rfl⟩ := map_get' hx
      obtain ⟨row, hrow, hrb⟩ := paired_get hR hb
      have hrl := hrl row (List.mem_of_getElem? hrow)
      have hrb1 := s1 _ _ hrb
      refine ⟨rfl, _, rfl, p, _, _, _, _, rfl, s1 _ _ hp, T.c_Scheme, T.ns_columns, rfl, _, rfl, colT c, b, _, rfl, SqL.of hrb1, fun d nd => ?_⟩
      refine dc_it (walk_zipSL (x := colT c) (b := b) (ys := row.map V.int) (by rw [colT_size hc, List.length_map, hrl])) (fun j H' => Same H1 H' ∧ H' d = some (.dK (dR (row.take j)))) ⟨same_new nd, by rw [List.take_zero]; exact upd_same⟩ (fun j H' _ h => SqL.of (h.1 _ _ hrb1)) ?_ ?_
      · rintro j x H2 _ hj ⟨s2, hd2⟩ ⟨T1, x1, y1, rfl, nT, rfl, hx1, hy1⟩
        obtain ⟨z, hz, rfl⟩ := map_get' hy1
        have hjl : j < row.length := (List.getElem?_eq_some_iff.mp hz).1
        have hx1 : ((colT c).cps[j]?).map (fun c => V.str ⟨#[c]⟩) = some x1 := hx1
        rw [colT_get hc (show j < c by omega)] at hx1
        have hx1 : V.str (colS j) = x1 := Option.some.inj hx1
        subst hx1
        have s3 : Same H2 (upd H2 T1 (.tup [.str (colS j), .int z])) := same_new nT
        refine ⟨T1, _, rfl, SqT.of upd_same, rfl, _, _, rfl, _, _, rfl, rfl, rfl, _, rfl, _, _, rfl, rfl, _, rfl, ite2 (fun h0 => ?_) (fun h0 => ?_)⟩
        · have h0 : 0 ≤ z := of_decide_eq_true h0
          refine ⟨_, rfl, _, rfl, _, .inr (colS j), rfl, s3 _ _ hd2, szLt (by have := dR_len (r := row.take j); rw [List.length_take] at this; omega), same_mut (s2.trans s3) nd, ?_⟩
          rw [upd_same, dR_take_put hz h0]
        · have h0 : ¬ 0 ≤ z := fun q => h0 (decide_eq_true q)
          exact ⟨s2.trans s3, by rw [dR_take_skip hz h0]; exact s3 _ _ hd2⟩
      · rintro H2 ⟨s2, hd2⟩
        rw [List.length_map, List.take_length] at hd2
        have hbl := Paired.length hbr
        rw [List.length_take] at hbl
        refine ⟨_, s2 _ _ hD1, szLt (by rw [List.length_map]; omega), same_mut (s1.trans s2) nD, bs ++ [d], by rw [upd_same, snocR], by rw [List.length_append, hbs]; rfl, ?_⟩
        rw [List.take_add_one, hrow]
        have hD2 := s2 _ _ hD1
        refine Paired.snoc ?_ (upd_at (ne_of hd2 hD2 (fun z => by cases z)) hd2)
        exact Paired.mapP hbr fun x y ex => upd_at (ne_of ex hD1 (fun z => by cases z)) (s2 _ _ ex)
    · rintro H1 ⟨s1, bs, hD1, hbs, hbr⟩
      rw [List.length_map, hal, List.take_length] at hbr
      exact q D H1 s1 nD ⟨bs, hD1, hbr⟩
/-! ### and back -/
abbrev N_step_lists : List Str := ["scheme", "rows", "row", "column"]
theorem sc_step_lists : FnScope N_step_lists ["scheme", "rows"] (defScope s_step_lists) := ⟨rfl, rfl, rfl, by decide +kernel, rfl, by decide +kernel, by decide +kernel⟩
theorem b_step_lists (T : TX K mg) : Binds K T.d_step_lists ["scheme", "rows"] [] := T.F_step_lists.bindsN fun _ _ _ _ _ _ us hl => match us, hl with | [_, _], _ => rfl
def sp_step_lists (K : PySem.W.Frag) : Sp := fun vs H Q _ => ∃ (p a : Addr) (r cc c : Nat) (R : List (List Int)), vs = [.ref p, .ref a] ∧ SchAt K H p r cc c ∧ DTb H a R ∧ (∀ row ∈ R, row.length = c ∧ ∀ x ∈ row, -1 ≤ x) ∧ c ≤ 9 ∧ R.length ≤ 60 ∧ ∀ (q : Addr) (H' : Hp), Same H H' → TbN H H' q R → Q (.ref q) H'
theorem ok_step_lists (T : TX K mg) : FnOk P w K mg base CX0 1 (He.fAd K ("step_lists", none)) T.d_step_lists ["scheme", "rows"] (sp_step_lists K) := by
  refine T.F_step_lists.ok sc_step_lists (fun vs H Q E h => ?_) (fun cdv A outer s H vs Q E hr h => ?_)
  · obtain ⟨p, a, r, cc, c, R, rfl, _⟩ := h
    rfl
  · obtain ⟨p, a, r, cc, c, R, rfl, ⟨dx, hp⟩, ⟨as, ha, hR⟩, hrl, hc, hl, q⟩ := h
    refine ⟨_, PSs.nox (pss_one (ps_ret (pe_lc (own := [("row", 2)]) (g := gName 2) (tt := tYes) rfl sc_step_lists.nd (pi_listK K (pv 1)) (blkOk_by (own := [("row", 2)]) (N := N_step_lists) (sc := defScope s_step_lists) (by decide +kernel)) (fun _ _ _ _ _ => (pg_name (i := 2) sc_step_lists.nd rfl (Or.inr rfl))) (fun _ _ _ _ _ => pts_nil) (fun _ _ _ _ _ => (pe_lc (own := [("column", 3)]) (g := gName 3) (tt := tYes) rfl sc_step_lists.nd (pi_str (fldK K (pv 0) rfl)) (blkOk_by (own := [("column", 3)]) (N := N_step_lists) (sc := ({ kind := .function, names := [(".0", .local), ("row", .cell), ("scheme", .cell)], isGenerator := false, isCoroutine := false, more := [] } : Scope)) (by decide +kernel)) (fun _ _ _ _ _ => (pg_name (i := 3) sc_step_lists.nd rfl (Or.inl rfl))) (fun _ _ _ _ _ => pts_nil) (fun _ _ _ _ _ => (pe_dget2 (hu_of hr) (pv 2) (pv 3) (pe_un un_neg pe_int) ⟨rfl, rfl, rfl, rfl⟩))))))), ?_⟩
    have hal := Paired.length hR
    refine ⟨_, rfl, a, rfl, ⟨_, SqL.of ha⟩, fun D nD => ?_⟩
    refine lc_list (K := K) (a := a) (xs := as.map V.ref) (fun i H' => Same H H' ∧ ∃ bs, H' D = some (rL bs) ∧ bs.length = i ∧ Rws H' bs (R.take i) ∧ ∀ b ∈ bs, H b = none) ⟨same_new nD, [], upd_same, rfl, by rw [List.take_zero]; exact .nil, by simp⟩ (fun i H' _ h => SqL.of (h.1 _ _ ha)) ?_ ?_
    · rintro i x H1 hx ⟨s1, bs, hD1, hbs, hbr, hbn⟩
      obtain ⟨b, hb, rfl⟩ := map_get' hx
      obtain ⟨row, hrow, hrb⟩ := paired_get hR hb
      obtain ⟨hrl, hrx⟩ := hrl row (List.mem_of_getElem? hrow)
      have hrb1 : H1 b = some (.dK (dR row)) := s1 _ _ hrb
      refine ⟨rfl, _, rfl, p, _, _, _, _, rfl, s1 _ _ hp, T.c_Scheme, T.ns_columns, rfl, colT c, rfl, fun d nd => ?_⟩
      refine lc_it (walk_str (z := colT c)) (fun j H' => H' = upd H1 d (iL (row.take j))) (by rw [List.take_zero]; rfl) (fun _ _ _ _ => True.intro) ?_ ?_
      · rintro j x H2 _ hj rfl ⟨rfl, ch, hch, rfl⟩
        rw [colT_size hc] at hj
        rw [colT_get hc hj] at hch
        have hch : 97 + j = ch := Option.some.inj hch
        subst hch
        have hb2 : ∀ o : HO, upd H1 d o b = some (.dK (dR row)) := fun o => same_new nd _ _ hrb1
        have hg := DGet.k (k := .inr (colS j)) (hb2 (iL (row.take j)))
        have hjr : row[j]? = some (row.getD j (-1)) := by rw [List.getD_eq_getElem?_getD, List.getElem?_eq_getElem (by omega)]; rfl
        have hx := hrx _ (List.mem_of_getElem? hjr)
        refine ⟨rfl, _, rfl, b, rfl, .inl ⟨_, .inl (hb2 _)⟩, _, rfl, _, rfl, _, hg, _, upd_same, szLt (by rw [List.length_map, List.length_take]; omega), ?_⟩
        rw [dR_val]
        have ev : ((if 0 ≤ row.getD j (-1) then some (V.int (row.getD j (-1))) else none).getD (V.int (-1))) = V.int (row.getD j (-1)) := by
          by_cases h0 : 0 ≤ row.getD j (-1)
          · rw [if_pos h0]; rfl
          · rw [if_neg h0]
            show V.int (-1) = _
            congr 1; omega
        show upd (upd H1 d _) d (.lst (_ ++ [(if 0 ≤ row.getD j (-1) then some (V.int (row.getD j (-1))) else none).getD (V.int (-1))])) = _
        rw [ev, upd_upd, snocI, List.take_add_one, hjr]; rfl
      · rintro H2 rfl
        rw [colT_size hc, ← hrl, List.take_length]
        have hbl := Paired.length hbr
        rw [List.length_take] at hbl
        have s2 : Same H1 (upd H1 d (iL row)) := same_new nd
        have ndD : d ≠ D := (ne_of_none hD1 nd).symm
        refine ⟨_, s2 _ _ hD1, szLt (by rw [List.length_map]; omega), same_mut (s1.trans s2) nD, bs ++ [d], by rw [upd_same, snocR], by rw [List.length_append, hbs]; rfl, ?_, ?_⟩
        · rw [List.take_add_one, hrow]
          refine Paired.snoc ?_ (upd_at ndD upd_same)
          exact paired_mem hbr fun x y hx ex => upd_at (fun z => rL_ne hx (Option.some.inj ((by rw [← z]; exact ex : H1 D = some (iL y)).symm.trans hD1)).symm) (s2 _ _ ex)
        · intro b' hb'
          rcases List.mem_append.mp hb' with z | z
          · exact hbn b' z
          · have : b' = d := by simpa using z
            subst this; exact s1.free nd
    · rintro H1 ⟨s1, bs, hD1, hbs, hbr, hbn⟩
      rw [List.length_map, hal, List.take_length] at hbr
      exact q D H1 s1 ⟨nD, bs, hD1, hbr, hbn⟩
end
end Gal
end
section
set_option Elab.async false
set_option linter.all false
set_option maxRecDepth 100000
set_option maxHeartbeats 4000000
namespace Gal
open PySem PySem.Spec PyProof.Rows L2
section
variable {P : Program} {w : World} {K : PySem.W.Frag} {mg : Str → Option Value} {base : Heap}
/-! ### the least table -/
abbrev N_least : List Str := ["rows", "goods", "table", "steps", "marks", "classes", "least_rows", "least_goods", "state", "number", "symbol", "after"]
theorem sc_least : FnScope N_least ["rows", "goods"] (defScope s_least) := ⟨rfl, rfl, rfl, by decide +kernel, rfl, by decide +kernel, by decide +kernel⟩
theorem b_least (T : TX K mg) : Binds K T.d_least ["rows", "goods"] [] := T.F_least.bindsN fun _ _ _ _ _ _ us hl => match us, hl with | [_, _], _ => rfl
theorem dR_map {f : Int → Int} {r : List Int} (h : f (-1) = -1) (hf : ∀ x ∈ r, 0 ≤ f x ↔ 0 ≤ x) : dR (r.map f) = (cl r).map fun j => (.inr (colS j), .int (f (r.getD j (-1)))) := by
  have e : cl (r.map f) = cl r := by
    unfold cl
    rw [List.length_map]
    refine List.filter_congr fun j hj => ?_
    have hjl := List.mem_range.mp hj
    have hm : r.getD j (-1) ∈ r := by rw [List.getD_eq_getElem?_getD, List.getElem?_eq_getElem hjl]; exact List.getElem_mem hjl
    rw [getD_map h]
    by_cases z : 0 ≤ r.getD j (-1)
    · rw [decide_eq_true z, decide_eq_true ((hf _ hm).mpr z)]
    · rw [decide_eq_false z, decide_eq_false (fun q => z ((hf _ hm).mp q))]
  unfold dR
  rw [e]
  refine List.map_congr_left fun j _ => ?_
  rw [getD_map h]
theorem cl_map_put {f : Nat → V} {r : List Int} {j col : Nat} (h : (cl r)[j]? = some col) : putK (((cl r).take j).map fun i => ((Sum.inr (colS i) : Key), f i)) (.inr (colS col)) (f col) = ((cl r).take (j + 1)).map fun i => ((Sum.inr (colS i) : Key), f i) := by
  rw [List.take_add_one, h, put_new]
  · rw [List.map_append]; rfl
  · intro kv hkv z
    obtain ⟨i, hi, rfl⟩ := List.mem_map.mp hkv
    have := colS_inj (Sum.inr.inj z)
    subst this
    exact cl_take h hi
open Classical in
theorem ded_take_new {ks : List Lang} {i : Nat} {x : Lang} (h : ks[i]? = some x) : (x ∈ ks.take i → ded (ks.take (i + 1)) = ded (ks.take i) ∧ idx x (ded ks) < (ded (ks.take i)).length) ∧ (x ∉ ks.take i → ded (ks.take (i + 1)) = ded (ks.take i) ++ [x] ∧ idx x (ded ks) = (ded (ks.take i)).length) := by
  have htk : ks.take (i + 1) = ks.take i ++ [x] := by rw [List.take_add_one, h]; rfl
  constructor
  · intro hm
    have e1 := ded_snoc_old hm
    refine ⟨by rw [htk, e1], ?_⟩
    have hp : ded (ks.take i) <+: ded ks := by
      have := ded_app_pre (ks.take i) (ks.drop i)
      rwa [List.take_append_drop] at this
    have hx := mem_ded.mpr hm
    rw [idx_pre hp hx]
    exact idx_lt hx
  · intro hm
    have e1 := ded_snoc_new hm
    refine ⟨by rw [htk, e1], ?_⟩
    have hp : ded (ks.take (i + 1)) <+: ded ks := by
      have := ded_app_pre (ks.take (i + 1)) (ks.drop (i + 1))
      rwa [List.take_append_drop] at this
    rw [htk, e1] at hp
    rw [idx_pre hp (by simp)]
    exact idx_last (fun z => hm (mem_ded.mp z))
def sp_least : Sp := fun vs H Q _ => ∃ (a b : Addr) (c : Nat) (R : List (List Int)) (G : List Bool), vs = [.ref a, .ref b] ∧ DTb H a R ∧ H b = some (bL G) ∧ WF c R G ∧ R.length ≤ 60 ∧ c ≤ 9 ∧
  ∀ (z st mk : Addr) (H' : Hp) (R1 : List (List Int)) (G1 : List Bool), Same H H' → H' z = some (.tup [.ref st, .ref mk]) → DTb H' st R1 → H mk = none → H' mk = some (bL G1) → R1.length ≤ 60 → LeastOf c R G R1 G1 → Q (.ref z) H'
open Classical in
theorem ok_least (T : TX K mg) : FnOk P w K mg base CX0 3 (He.fAd K ("least", none)) T.d_least ["rows", "goods"] sp_least := by
  refine T.F_least.ok sc_least (fun vs H Q E h => ?_) (fun cdv A outer s H vs Q E hr h => ?_)
  · obtain ⟨a, b, c, R, G, rfl, _⟩ := h
    rfl
  · obtain ⟨a, b, c, R, G, rfl, hT, hb, W, hl, hc, q⟩ := h
    refine ⟨_, PSs.nox (pss_cons (ps_set (i := 2) sc_least.nd rfl (Or.inl rfl) (pe_call (ok_trimmed T) (hr.mono (by decide)) (by rfl) T.g_trimmed T.F_trimmed.kp (b_trimmed T) .nil pass0 (pa_cons (pv 0) (pa_cons (pv 1) pa_nil))))
    (pss_cons (ps_if (pt_cmpR op_isN (pv 2) pe_non (nomark _)) (pss_one (ps_ret (pe_tup (pa_cons (pe_lst (pa_cons pe_dnewK pa_nil)) (pa_cons (pe_lst (pa_cons pe_bl pa_nil)) pa_nil))))) pss_nil)
    (pss_cons (ps_asg (pv 2) (tupG K rfl (pgs_cons (pg_name (i := 3) sc_least.nd rfl (Or.inl rfl)) (pgs_cons (pg_name (i := 4) sc_least.nd rfl (Or.inl rfl)) pgs_nil))))
    (pss_cons (ps_set (i := 5) sc_least.nd rfl (Or.inr rfl) (pe_call (ok_classes_of T) (hr.mono (by decide)) (by rfl) T.g_classes_of T.F_classes_of.kp (b_classes_of T) .nil pass0 (pa_cons (pv 3) (pa_cons (pv 4) pa_nil))))
    (pss_cons (ps_set (i := 6) sc_least.nd rfl (Or.inl rfl) (pe_lst pa_nil))
    (pss_cons (ps_set (i := 7) sc_least.nd rfl (Or.inl rfl) (pe_lst pa_nil))
    (pss_cons (ps_for PassesOwn.never rfl (pi_enum (by rfl) T.n_enumerate (pa_cons (pv 5) pa_nil)) (tupG K rfl (pgs_cons (pg_name (i := 8) sc_least.nd rfl (Or.inl rfl)) (pgs_cons (pg_name (i := 9) sc_least.nd rfl (Or.inl rfl)) pgs_nil))) (pss_one (ps_if (pt_cmpR op_eq (pv 9) (pe_callB (lenK K) (by rfl) T.n_len PySem.boot_len (pa_cons (pv 6) pa_nil)) (nomark _)) (pss_cons (ps_expr (bmK K PySem.F.plainAttrs_list PySem.F.slot_list_append PySem.F.type_list_append mt_append (pv 6) (pa_cons (pe_lock (pe_dc (own := [("symbol", 10), ("after", 11)]) (g := gTup K 2 (gCons (gName 10) (gCons (gName 11) (gNil)))) (tt := tYes) rfl sc_least.nd (pi_items (pe_ix (ixL K) (pv 3) (pv 8) (fun _ _ => rfl))) (blkOk_by (own := [("symbol", 10), ("after", 11)]) (N := N_least) (sc := defScope s_least) (by decide +kernel)) (fun _ _ _ _ _ => (tupG K rfl (pgs_cons (pg_name (i := 10) sc_least.nd rfl (Or.inl rfl)) (pgs_cons (pg_name (i := 11) sc_least.nd rfl (Or.inl rfl)) pgs_nil)))) (fun _ _ _ _ _ => pts_nil) (fun _ _ _ _ _ => (pv 10)) (fun _ _ _ _ _ => (pe_ix (ixL K) (pv 5) (pv 11) (fun _ _ => rfl))))) pa_nil)))
        (pss_one (ps_expr (bmK K PySem.F.plainAttrs_list PySem.F.slot_list_append PySem.F.type_list_append mt_append (pv 7) (pa_cons (pe_ix (ixL K) (pv 4) (pv 8) (fun _ _ => rfl)) pa_nil))))) pss_nil)))
    (pss_one (ps_ret (pe_tup (pa_cons (pv 6) (pa_cons (pv 7) pa_nil)))))))))))), ?_⟩
    refine ⟨_, rfl, _, rfl, a, b, c, R, G, rfl, hT, hb, W, hl, hc, fun hn H1 s1 => ?_, fun hL z0 st mk k H1 s1 hdn hz hst hmk => ?_⟩
    · refine ⟨_, rfl, rfl, _, rfl, iteT ?_⟩
      intro d nd
      refine ⟨(by show 1 ≤ sizeLine; decide), fun l nl => ⟨(by show 1 ≤ sizeLine; decide), fun m nm => ⟨(by show 2 ≤ sizeLine; decide), fun z nz => ?_⟩⟩⟩
      have s2 : Same H1 (upd (upd (upd (upd H1 d (.dK [])) l (.lst [.ref d])) m (.lst [.bl false])) z (.tup [.ref l, .ref m])) := (same_new nd).trans ((same_new nl).trans ((same_new nm).trans (same_new nz)))
      have nmH : H m = none := s1.free (((same_new (o := .dK []) nd).trans (same_new (o := .lst [.ref d]) nl)).free nm)
      refine q z l m _ [List.replicate c (-1)] [false] (s1.trans s2) upd_same ⟨[d], ?_, .cons ?_ .nil⟩ nmH (same_new nz _ _ upd_same) (by show 1 ≤ 60; decide) (least_empty W hn)
      · exact same_new nz _ _ (same_new nm _ _ upd_same)
      · have e : dR (List.replicate c (-1)) = [] := by
          unfold dR
          have : cl (List.replicate c (-1)) = [] := by
            refine List.eq_nil_iff_forall_not_mem.mpr fun j hj => ?_
            have := mem_cl.mp hj
            rw [getD_rep] at this
            exact absurd this (by decide)
          rw [this]; rfl
        show _ = some (HO.dK (dR (List.replicate c (-1))))
        rw [e]
        exact same_new nz _ _ (same_new nm _ _ (same_new nl _ _ upd_same))
    · refine ⟨_, rfl, rfl, _, rfl, iteF ?_⟩
      have W' := tr_wf W hdn hL
      have hkl : (kept R G k).length ≤ 60 := by
        have h1 := List.length_filter_le (ldS R G) (bfs R k)
        exact Nat.le_trans h1 (Nat.le_trans (bfs_len (k := k) W) hl)
      have hLS := LSt_len (R := R) (G := G) (k := k)
      refine ⟨_, rfl, z0, _, rfl, SqT.of hz, rfl, _, _, rfl, _, _, rfl, rfl, _, rfl, _, rfl, st, mk, c, _, _, rfl, hst, hmk, W', by rw [trR_len]; exact hkl, hc, tr_lead W hdn, fun q1 H2 s2 nq1 hq1 => ?_⟩
      rw [tr_langN W hdn] at hq1
      refine ⟨(by show 0 ≤ sizeLine; decide), fun lr nlr => ⟨(by show 0 ≤ sizeLine; decide), fun lg nlg => ?_⟩⟩
      have s3 : Same H2 (upd (upd H2 lr (.lst [])) lg (.lst [])) := (same_new nlr).trans (same_new nlg)
      have nrg : lr ≠ lg := ne_of_none upd_same nlg
      have nlgH : H2 lg = none := (same_new (o := .lst []) nlr).free nlg
      have hst2 := (hst.same s2)
      obtain ⟨as, hsa, hsR⟩ := hst2
      have hmk2 := s2 _ _ hmk
      have hal : as.length = (kept R G k).length := by rw [Paired.length hsR, trR_len]
      refine ⟨_, rfl, q1, _, rfl, SqL.of (s3 _ _ hq1), ?_⟩
      have hnl : (numI (LSt R G k)).length = (kept R G k).length := by rw [numI_len, hLS]
      refine for_it (walk_enum (xs := (numI (LSt R G k)).map V.int)) (fun i σ H' => ∃ (bs : List Addr) (y8 y9 : Option V), σ = [some (.ref a), some (.ref b), some (.ref z0), some (.ref st), some (.ref mk), some (.ref q1), some (.ref lr), some (.ref lg), y8, y9, none, none] ∧ Same H2 H' ∧ H' lr = some (rL bs) ∧ DRws H' bs ((ded ((LSt R G k).take i)).map (rowL c (ded (LSt R G k)))) ∧ H' lg = some (bL ((ded ((LSt R G k).take i)).map fun ℓ => ℓ []))) ?_ ?_ ?_ ?_
      · refine ⟨[], _, _, rfl, s3, same_new nlg _ _ upd_same, ?_, upd_same⟩
        rw [List.take_zero]
        exact .nil
      · rintro i σ H' _ ⟨bs, y8, y9, rfl, s4, _⟩
        exact SqL.of (s4 _ _ hq1)
      · rintro i x σ H4 _ hi ⟨bs, y8, y9, rfl, s4, hlr, hbr, hlg⟩ ⟨T1, x1, y1, rfl, nT, rfl, hx1, hy1⟩
        have hx1 := Option.some.inj hx1
        subst hx1
        rw [List.length_map, hnl] at hi
        have hkp := List.getElem?_eq_getElem hi
        generalize hse : (kept R G k)[i] = sn at hkp
        have hls := LSt_get hkp
        have hnum := numI_get hls
        have hy1 : ((numI (LSt R G k)).map V.int)[i]? = some y1 := hy1
        rw [List.getElem?_map, hnum] at hy1
        have hy1 : V.int ((idx (L_ R G sn) (ded (LSt R G k)) : Nat) : Int) = y1 := Option.some.inj hy1
        subst hy1
        have s5 : Same H4 (upd H4 T1 (.tup [.int (i : Nat), .int ((idx (L_ R G sn) (ded (LSt R G k)) : Nat) : Int)])) := same_new nT
        have hbl : bs.length = (ded ((LSt R G k).take i)).length := by rw [Paired.length hbr, List.length_map]
        have hdl : (ded ((LSt R G k).take i)).length ≤ 60 := by
          have := ded_len ((LSt R G k).take i)
          rw [List.length_take] at this
          omega
        obtain ⟨hold, hnew⟩ := ded_take_new hls
        refine ⟨T1, _, rfl, SqT.of upd_same, rfl, _, _, rfl, _, _, rfl, rfl, ?_⟩
        generalize upd H4 T1 (.tup [.int (i : Nat), .int ((idx (L_ R G sn) (ded (LSt R G k)) : Nat) : Int)]) = H5 at s5
        have hlr5 := s5 _ _ hlr
        have hlg5 := s5 _ _ hlg
        have ebl : ((bs.map V.ref).length : Int) = ((ded ((LSt R G k).take i)).length : Int) := by rw [List.length_map, hbl]
        refine ⟨_, rfl, _, rfl, lr, _, rfl, .inl (SqL.of hlr5), rfl, _, rfl, ?_⟩
        by_cases hm : L_ R G sn ∈ (LSt R G k).take i
        · obtain ⟨e1, e2⟩ := hold hm
          have hne : ¬ V.int ((idx (L_ R G sn) (ded (LSt R G k)) : Nat) : Int) = V.int ((bs.map V.ref).length : Int) := fun z => by
            have := V.int.inj z
            omega
          rw [decide_eq_false hne]
          refine iteF ⟨bs, _, _, rfl, s4.trans s5, hlr5, ?_, ?_⟩
          · rw [e1]; exact DRws.same s5 hbr
          · rw [e1]; exact hlg5
        · obtain ⟨e1, e2⟩ := hnew hm
          rw [decide_eq_true (congrArg V.int (show ((idx (L_ R G sn) (ded (LSt R G k)) : Nat) : Int) = ((bs.map V.ref).length : Int) by rw [ebl, e2]))]
          refine iteT ?_
          have S5 := s4.trans s5
          have hil : i < (trR R G (kept R G k)).length := by rw [trR_len]; exact hi
          obtain ⟨bi, hbi, hri⟩ := paired_get' hsR (row_mem hil)
          obtain ⟨wl, wb⟩ := wf_row W' hil
          have hri5 := S5 _ _ hri
          have nsb : st ≠ bi := ne_of (S5 _ _ hsa) hri5 (fun z => by cases z)
          have nqb : q1 ≠ bi := ne_of (S5 _ _ hq1) hri5 (fun z => by cases z)
          have nrb : lr ≠ bi := ne_of hlr5 hri5 (fun z => by cases z)
          have hrow := least_row W hdn hkp
          have hcx : ∀ t : Nat, t < (kept R G k).length → ∃ u : Nat, (numI (LSt R G k))[t]? = some (u : Int) ∧ clX R G k (t : Int) = (u : Int) := fun t ht => by
            have h1 := numI_get (LSt_get (List.getElem?_eq_getElem ht))
            refine ⟨_, h1, ?_⟩
            unfold clX
            rw [if_pos (by omega), Int.toNat_natCast, List.getD_eq_getElem?_getD, h1]; rfl
          have hcn : clX R G k (-1) = -1 := by unfold clX; rw [if_neg (by omega)]
          have hcf : ∀ x ∈ row (trR R G (kept R G k)) i, 0 ≤ clX R G k x ↔ 0 ≤ x := fun x hx => by
            have hxb := wb x hx
            rw [trR_len] at hxb
            by_cases h0 : 0 ≤ x
            · obtain ⟨t, rfl⟩ : ∃ t : Nat, x = (t : Int) := ⟨x.toNat, by omega⟩
              obtain ⟨u, _, e⟩ := hcx t (by omega)
              rw [e]
              exact ⟨fun _ => h0, fun _ => by omega⟩
            · obtain rfl : x = -1 := by omega
              rw [hcn]
          have hdr := dR_map hcn hcf
          rw [hrow] at hdr
          refine ⟨_, rfl, .inl ⟨rfl, _, SqL.of hlr5⟩, bi, _, hri5, True.intro, fun od => ⟨_, rfl, _, rfl, st, _, _, _, rfl, rfl, SqL.of (upd_at nsb (S5 _ _ hsa)), atI_map hbi, bi, od, _, rfl, upd_same, fun D nD => ?_⟩⟩
          have nDb : D ≠ bi := (ne_of_none upd_same nD).symm
          refine dc_it walk_items (fun j H' => Same (upd H5 bi (.frz od (.dK (dR (row (trR R G (kept R G k)) i))))) H' ∧ H' D = some (.dK (((cl (row (trR R G (kept R G k)) i)).take j).map fun m => ((Sum.inr (colS m) : Key), V.int (clX R G k ((row (trR R G (kept R G k)) i).getD m (-1))))))) ⟨same_new nD, by rw [List.take_zero]; exact upd_same⟩ (fun j H' _ h => h.1 _ _ upd_same) ?_ ?_
          · rintro j x H6 _ hj ⟨s6, hD6⟩ ⟨T2, x2, y2, rfl, nT2, rfl, hx2, hy2⟩
            cases ekv : (dR (row (trR R G (kept R G k)) i))[j]? with
            | none =>
              have hx2 : ((dR (row (trR R G (kept R G k)) i))[j]?).map (fun kv => kV kv.1) = some x2 := hx2
              rw [ekv] at hx2; cases hx2
            | some kv =>
              obtain ⟨key, val⟩ := kv
              have hx2 : ((dR (row (trR R G (kept R G k)) i))[j]?).map (fun kv => kV kv.1) = some x2 := hx2
              have hy2 : ((dR (row (trR R G (kept R G k)) i))[j]?).map Prod.snd = some y2 := hy2
              rw [ekv] at hx2 hy2
              have hx3 : kV key = x2 := Option.some.inj hx2
              have hy3 : val = y2 := Option.some.inj hy2
              clear hx2 hy2
              obtain ⟨col, hcol, rfl, rfl⟩ := dR_get ekv
              subst hx3 hy3
              have hc0 := mem_cl.mp (List.mem_of_getElem? hcol)
              obtain ⟨t, ht⟩ : ∃ t : Nat, (row (trR R G (kept R G k)) i).getD col (-1) = (t : Int) := ⟨((row (trR R G (kept R G k)) i).getD col (-1)).toNat, by omega⟩
              have htl : t < (kept R G k).length := by
                have h1 : stI (trR R G (kept R G k)) i col = some t := by rw [stI_row, ht, pos_nat]
                have := (stI_lt W' h1).1
                rwa [trR_len] at this
              obtain ⟨u, hu1, hu2⟩ := hcx t htl
              have s7 : Same H6 (upd H6 T2 (.tup [.str (colS col), .int ((row (trR R G (kept R G k)) i).getD col (-1))])) := same_new nT2
              have hq7 := s7 _ _ (s6 _ _ (upd_at nqb (S5 _ _ hq1)))
              refine ⟨T2, _, rfl, SqT.of upd_same, rfl, _, _, rfl, _, _, rfl, rfl, rfl, _, rfl, _, rfl, _, rfl, q1, _, _, _, rfl, rfl, SqL.of hq7, atI_map' ht hu1, _, .inr (colS col), rfl, s7 _ _ hD6, szLt (by rw [List.length_map, List.length_take]; have := cl_len (r := row (trR R G (kept R G k)) i); omega), same_mut (s6.trans s7) nD, ?_⟩
              have hp := cl_map_put (f := fun m => V.int (clX R G k ((row (trR R G (kept R G k)) i).getD m (-1)))) hcol
              rw [← hp, upd_same]
              show some (HO.dK (putK _ (Sum.inr (colS col)) (V.int (u : Int)))) = some (HO.dK (putK _ (Sum.inr (colS col)) (V.int (clX R G k ((row (trR R G (kept R G k)) i).getD col (-1))))))
              rw [ht, hu2]
          · rintro H6 ⟨s6, hD6⟩
            have hdl2 : (dR (row (trR R G (kept R G k)) i)).length = (cl (row (trR R G (kept R G k)) i)).length := by unfold dR; rw [List.length_map]
            rw [hdl2, List.take_length, ← hdr] at hD6
            refine ⟨s6 _ _ upd_same, ?_⟩
            have s7 : Same H5 (upd H6 bi (.dK (dR (row (trR R G (kept R G k)) i)))) := same_unlock hri5 s6
            have hD7 : upd H6 bi (.dK (dR (row (trR R G (kept R G k)) i))) D = some (.dK (dR (rowL c (ded (LSt R G k)) (L_ R G sn)))) := upd_at nDb hD6
            generalize upd H6 bi (.dK (dR (row (trR R G (kept R G k)) i))) = H7 at s7 hD7
            have hlr7 := s7 _ _ hlr5
            have hlg7 := s7 _ _ hlg5
            refine ⟨lr, _, _, rfl, rfl, hlr7, szLt (by rw [List.length_map]; omega), ?_⟩
            have hlg8 : upd H7 lr (.lst (bs.map V.ref ++ [.ref D])) lg = some (bL ((ded ((LSt R G k).take i)).map fun ℓ => ℓ [])) := upd_at (Ne.symm nrg) hlg7
            have hmk8 : upd H7 lr (.lst (bs.map V.ref ++ [.ref D])) mk = some (bL (trG G (kept R G k))) := by
              refine upd_at (fun z => ?_) (s7 _ _ (S5 _ _ hmk2))
              rw [← z, hmk2] at nlr
              cases nlr
            have hgm : (trG G (kept R G k))[i]? = some (gdI G sn) := by unfold trG; rw [List.getElem?_map, hkp]; rfl
            refine ⟨_, rfl, .inl ⟨rfl, _, SqL.of hlg8⟩, _, rfl, _, rfl, mk, _, _, _, rfl, rfl, SqL.of hmk8, atI_map hgm, lg, _, _, rfl, rfl, hlg8, szLt (by rw [List.length_map, List.length_map]; omega), ?_⟩
            refine ⟨bs ++ [D], _, _, rfl, same_mut (same_mut (S5.trans s7) nlr) nlgH, ?_, ?_, ?_⟩
            · exact upd_at nrg (by rw [upd_same, snocR])
            · rw [e1, List.map_append]
              refine paired_app ?_ (.cons ?_ .nil)
              · refine Paired.mapP hbr fun x y ex => ?_
                have e2 := s7 _ _ (s5 _ _ ex)
                exact upd_at (ne_of e2 hlg7 (fun z => by cases z)) (upd_at (ne_of e2 hlr7 (fun z => by cases z)) e2)
              · exact upd_at (ne_of hD7 hlg7 (fun z => by cases z)) (upd_at (ne_of hD7 hlr7 (fun z => by cases z)) hD7)
            · rw [upd_same, snocB, e1, List.map_append]; rfl
      · rintro σ H4 ⟨bs, y8, y9, rfl, s4, hlr, hbr, hlg⟩
        rw [List.length_map, hnl, ← hLS, List.take_length] at hbr hlg
        rw [← Lgs_LSt] at hbr hlg
        refine ⟨_, rfl, _, rfl, (by show 2 ≤ sizeLine; decide), fun z nz => ?_⟩
        have s5 : Same H4 (upd H4 z (.tup [.ref lr, .ref lg])) := same_new nz
        have nlg1 : H lg = none := s1.free (s2.free nlgH)
        have hf := least_fin W hdn hL
        refine q z lr lg _ (finR c (Lgs R G (bfs R k))) (finG (Lgs R G (bfs R k))) (s1.trans (s2.trans (s4.trans s5))) upd_same ⟨bs, s5 _ _ hlr, DRws.same s5 hbr⟩ nlg1 (s5 _ _ hlg) ?_ hf
        unfold finR
        rw [List.length_map, Lgs_LSt]
        have := ded_len (LSt R G k)
        omega
end
end Gal
end
section
set_option Elab.async false
set_option linter.all false
set_option maxRecDepth 100000
set_option maxHeartbeats 4000000
/-! own == with any answer, own len, branches that are not reached -/
namespace Gal
open PySem PySem.Spec PyProof.Rows L2
theorem ps_never {X : Cx} {st : Stmt} : PS X st (fun _ _ _ => False) := ⟨fun _ _ _ _ _ _ h => h.elim⟩
theorem pss_never {X : Cx} {st : List Stmt} : PSs X st (fun _ _ _ => False) := ⟨fun _ _ _ _ _ _ h => h.elim⟩
/-- x == y, x an instance of the class at C -/
def rEqO (K : PySem.W.Frag) (C : Addr) (sp : Sp) : R2 := fun x y H Q => ∃ (a dx : Addr) (fs : List (Str × V)) (t : Value), x = .ref a ∧ H a = some (.ins C dx fs) ∧ TyX K H y t ∧ PySem.W.notFirst K C t = true ∧ sp [x, y] H (fun v H' => (∃ b, v = .bl b) ∧ Q v H') (fun _ _ _ => False)
theorem op_eqO {X : Cx} {n : Nat} {C f : Addr} {fd : FuncData} {ps : List Str} {sp : Sp} (K : PySem.W.Frag) (F : FnOk X.prog X.w X.K X.mg X.base CX0 n f fd ps sp) (hr : Room n X.A)
    (hs : PySem.W.findIn X.K (.ref C) "__eq__" = some (some (.ref f))) (hf : PySem.W.isFn X.K (.ref f) = true) (hb : Binds X.K fd ps []) (hK : X.K = K := by rfl) : OpR X (compareOp .Eq) (rEqO K C sp) := by
  subst hK
  intro pins s σ H x y v u Q I rx ry h
  obtain ⟨a, dx, fs, t, rfl, ha, ty, hn, hsp⟩ := h
  cases rx
  obtain ⟨mA, J, _⟩ := ins_get I.hok ha
  obtain ⟨od, J, _⟩ := J.look
  obtain ⟨P, Z, p, _⟩ := kit_of I ry ty
  obtain ⟨m, hF⟩ := I.fr
  show wpAny (model X.prog X.w) X.A (richCompare .Eq (.ref a) u) (EP X pins σ Q) X.xe s
  refine PySem.W.cmp_K (op := .Eq) (tb := t) hr.units0 hF I.ok.mod.kin J (Z.ty _ _ I.kIn p) hn hs hf ?_
  have hl := F.len _ _ _ _ hsp
  have r2 : Vals [V.ref a, y] [Value.ref a, u] := .cons rfl (.cons ry .nil)
  refine wpAny_call (codeAny_mono (F.run X.A X.stack s H ⟨[.ref a, u], []⟩ [.ref a, u] [.ref a, y] _ _ hr I.env0 (by
    have := hb s [.ref a, u] I.kIn (by simpa using hl)
    simpa using this) r2 hsp) fun r s' hq => ?_)
  cases r with
  | error e => exact hq.elim
  | ok fl =>
    cases fl with
    | ret w' =>
      obtain ⟨z, H', I', rz, ⟨b, ez⟩, q⟩ := I.after hq
      subst ez
      cases rz
      exact ⟨.bl b, H', I', rfl, q⟩
    | next => exact False.elim hq
    | brk => exact False.elim hq
    | cont => exact False.elim hq
/-- len(x), x an instance of the class at C -/
def rLenO (C : Addr) (sp : Sp) : List V → Hp → VK → Prop := fun xs H Q => ∃ (a dx : Addr) (fs : List (Str × V)), xs = [.ref a] ∧ H a = some (.ins C dx fs) ∧ sp [.ref a] H (fun v H' => (∃ n : Nat, v = .int (n : Nat) ∧ n < 1000000) ∧ Q v H') (fun _ _ _ => False)
theorem call_lenO {X : Cx} {n : Nat} {C f : Addr} {fd : FuncData} {ps : List Str} {sp : Sp} (F : FnOk X.prog X.w X.K X.mg X.base CX0 n f fd ps sp) (hr : Room (n + 1) X.A)
    (hs : PySem.W.findIn X.K (.ref C) "__len__" = some (some (.ref f))) (hf : PySem.W.isFn X.K (.ref f) = true) (hb : Binds X.K fd ps []) : CallR X (.builtin "len") (rLenO C sp) := by
  intro pins s σ H xs us Q I r h
  obtain ⟨a, dx, fs, rfl, ha, hsp⟩ := h
  obtain ⟨u, rfl, rx⟩ := vals1 r
  obtain rfl : u = .ref a := rx
  obtain ⟨mA, J, _⟩ := ins_get I.hok ha
  obtain ⟨od, J, _⟩ := J.look
  obtain ⟨m, hF⟩ := I.fr
  refine PySem.W.len_K hF I.ok.mod.kin J hs hf ?_
  have hl := F.len _ _ _ _ hsp
  have r2 : Vals [V.ref a] [Value.ref a] := .cons rfl .nil
  refine wpAny_call (codeAny_mono (F.run X.A.in1 X.stack s H ⟨[.ref a], []⟩ [.ref a] [.ref a] _ _ hr.in1 I.env0.in1 (by
    have := hb s [.ref a] I.kIn (by simpa using hl)
    simpa using this) r2 hsp) fun r s' hq => ?_)
  cases r with
  | error e => exact hq.elim
  | ok fl =>
    cases fl with
    | ret w' =>
      obtain ⟨z, H', I', rz, ⟨k, ez, hk⟩, q⟩ := I.after hq
      subst ez
      obtain ⟨t, rfl⟩ := rz
      exact ⟨⟨by omega, by omega⟩, .int (k : Nat), H', I'.tok _, ⟨_, rfl⟩, q⟩
    | next => exact False.elim hq
    | brk => exact False.elim hq
    | cont => exact False.elim hq
end Gal
end
section
set_option Elab.async false
set_option linter.all false
set_option maxRecDepth 100000
set_option maxHeartbeats 4000000
namespace Gal
open PySem PySem.Spec PyProof.Rows L2
section
variable {P : Program} {w : World} {K : PySem.W.Frag} {mg : Str → Option Value} {base : Heap}
/-! ### a scheme -/
abbrev N_s_init : List Str := ["self", "rows", "colours"]
theorem sc_s_init : FnScope N_s_init ["self", "rows", "colours"] (defScope s_s_init) := ⟨rfl, rfl, rfl, by decide +kernel, rfl, by decide +kernel, by decide +kernel⟩
theorem b_s_init (T : TX K mg) : Binds K T.d_s_init ["self", "rows", "colours"] [] := T.F_s_init.bindsN fun _ _ _ _ _ _ us hl => match us, hl with | [_, _, _], _ => rfl
def sp_s_init (K : PySem.W.Frag) : Sp := fun vs H Q _ => ∃ (x dx : Addr) (r cc : Nat), vs = [.ref x, .int (r : Nat), .int (cc : Nat)] ∧ H x = some (.ins (Sc K) dx []) ∧ 1 ≤ r ∧ r ≤ 3 ∧ 2 ≤ cc ∧ cc ≤ 3 ∧ ¬ (r = 3 ∧ cc = 3) ∧
  Q .non (upd H x (.ins (Sc K) dx [("rows", .int (r : Nat)), ("colours", .int (cc : Nat)), ("columns", .str (colT (cc ^ r)))]))
theorem ok_s_init (T : TX K mg) : FnOk P w K mg base CX0 2 (He.fAd K ("Scheme", some "__init__")) T.d_s_init ["self", "rows", "colours"] (sp_s_init K) := by
  refine T.F_s_init.ok sc_s_init (fun vs H Q E h => ?_) (fun cdv A outer s H vs Q E hr h => ?_)
  · obtain ⟨x, dx, r, cc, rfl, _⟩ := h
    rfl
  · obtain ⟨x, dx, r, cc, rfl, hx, hr1, hr2, hc1, hc2, hn, q⟩ := h
    obtain ⟨tl, hlet⟩ := T.letters
    refine ⟨_, PSs.nox (pss_cons (ps_if (pt_not (pt_chain op_le op_le pe_int (pv 1) pe_int)) (pss_one ps_never) pss_nil)
    (pss_cons (ps_if (pt_not (pt_chain op_le op_le pe_int (pv 2) pe_int)) (pss_one ps_never) pss_nil)
    (pss_cons (ps_if (PW.pt (pw_and (pt_cmpR op_eq (pv 1) pe_int (nomark _)) (pw_and1 (pt_cmpR op_eq (pv 2) pe_int (nomark _))))) (pss_one ps_never) pss_nil)
    (pss_cons (ps_fld (pv 0) (pv 1) rfl)
    (pss_cons (ps_fld (pv 0) (pv 2) rfl)
    (pss_one (ps_fld (pv 0) (pe_slice sl_str (pe_glob rfl hlet (show RelV (.str "abcdefghi") (.str "abcdefghi" tl) from ⟨_, rfl⟩)) po_none (po_some (pe_call (ok_power T) (hr.mono (by decide)) (by rfl) T.g_power T.F_power.kp (b_power T) .nil pass0 (pa_cons (pv 2) (pa_cons (pv 1) pa_nil))))) rfl))))))), ?_⟩
    refine ⟨_, rfl, _, _, rfl, rfl, _, rfl, ite2 (fun _ => ?_) (fun z => absurd (decide_eq_true (show (1 : Int) ≤ (r : Int) by omega)) z)⟩
    refine ⟨_, _, rfl, rfl, _, rfl, iteNS (show (r : Int) ≤ 3 by omega) ?_⟩
    refine ⟨_, rfl, _, _, rfl, rfl, _, rfl, ite2 (fun _ => ?_) (fun z => absurd (decide_eq_true (show (2 : Int) ≤ (cc : Int) by omega)) z)⟩
    refine ⟨_, _, rfl, rfl, _, rfl, iteNS (show (cc : Int) ≤ 3 by omega) ?_⟩
    have s1 : ∀ o : HO, (upd H x o) x = some o := fun o => upd_same
    have fin : ∀ H1 : Hp, H1 = upd (upd (upd H x (.ins (Sc K) dx [("rows", .int (r : Nat))])) x (.ins (Sc K) dx [("rows", .int (r : Nat)), ("colours", .int (cc : Nat))])) x (.ins (Sc K) dx [("rows", .int (r : Nat)), ("colours", .int (cc : Nat)), ("columns", .str (colT (cc ^ r)))]) → Q .non H1 := fun H1 e => by
      rw [e, upd_upd, upd_upd]; exact q
    refine ⟨_, rfl, rfl, _, rfl, ite2 (fun h3 => ?_) (fun h3 => ?_)⟩
    · have h3 : r = 3 := by have := V.int.inj (of_decide_eq_true h3); omega
      refine ⟨_, rfl, rfl, _, rfl, ite2 (fun h4 => ?_) (fun h4 => ?_)⟩
      · have h4 : cc = 3 := by have := V.int.inj (of_decide_eq_true h4); omega
        exact hn ⟨h3, h4⟩
      · refine ⟨_, rfl, _, rfl, x, _, dx, _, rfl, hx, T.c_Scheme, T.ns_rows, (show 0 < 1000 by decide), _, rfl, _, rfl, x, _, dx, _, rfl, upd_same, T.c_Scheme, T.ns_colours, (show 1 < 1000 by decide), ?_⟩
        refine ⟨_, rfl, _, rfl, cc, r, rfl, hc2, hr2, _, rfl, _, rfl, (by rw [sizeLine_eq]; decide), _, rfl, x, _, dx, _, rfl, upd_same, T.c_Scheme, T.ns_columns, (show 2 < 1000 by decide), ?_⟩
        exact fin _ rfl
    · refine iteF ?_
      refine ⟨_, rfl, _, rfl, x, _, dx, _, rfl, hx, T.c_Scheme, T.ns_rows, (show 0 < 1000 by decide), _, rfl, _, rfl, x, _, dx, _, rfl, upd_same, T.c_Scheme, T.ns_colours, (show 1 < 1000 by decide), ?_⟩
      refine ⟨_, rfl, _, rfl, cc, r, rfl, hc2, hr2, _, rfl, _, rfl, (by rw [sizeLine_eq]; decide), _, rfl, x, _, dx, _, rfl, upd_same, T.c_Scheme, T.ns_columns, (show 2 < 1000 by decide), ?_⟩
      exact fin _ rfl
abbrev N_s_len : List Str := ["self"]
theorem sc_s_len : FnScope N_s_len ["self"] (defScope s_s_len) := ⟨rfl, rfl, rfl, by decide +kernel, rfl, by decide +kernel, by decide +kernel⟩
theorem b_s_len (T : TX K mg) : Binds K T.d_s_len ["self"] [] := T.F_s_len.bindsN fun _ _ _ _ _ _ us hl => match us, hl with | [_], _ => rfl
def sp_s_len (K : PySem.W.Frag) : Sp := fun vs H Q _ => ∃ (x : Addr) (r cc c : Nat), vs = [.ref x] ∧ SchAt K H x r cc c ∧ c ≤ 9 ∧ Q (.int (c : Nat)) H
theorem ok_s_len (T : TX K mg) : FnOk P w K mg base CX0 1 (He.fAd K ("Scheme", some "__len__")) T.d_s_len ["self"] (sp_s_len K) := by
  refine T.F_s_len.ok sc_s_len (fun vs H Q E h => ?_) (fun cdv A outer s H vs Q E hr h => ?_)
  · obtain ⟨x, r, cc, c, rfl, _⟩ := h
    rfl
  · obtain ⟨x, r, cc, c, rfl, ⟨dx, hx⟩, hc, q⟩ := h
    refine ⟨_, PSs.nox (pss_one (ps_ret (pe_callB call_len_str (by rfl) T.n_len PySem.boot_len (pa_cons (fldK K (pv 0) rfl) pa_nil)))), ?_⟩
    refine ⟨_, rfl, x, _, _, _, _, rfl, hx, T.c_Scheme, T.ns_columns, rfl, colT c, rfl, (by rw [colT_len hc, sizeLine_eq]; omega), ?_⟩
    rw [colT_len hc]
    exact q
abbrev N_s_eq : List Str := ["self", "other"]
theorem sc_s_eq : FnScope N_s_eq ["self", "other"] (defScope s_s_eq) := ⟨rfl, rfl, rfl, by decide +kernel, rfl, by decide +kernel, by decide +kernel⟩
theorem b_s_eq (T : TX K mg) : Binds K T.d_s_eq ["self", "other"] [] := T.F_s_eq.bindsN fun _ _ _ _ _ _ us hl => match us, hl with | [_, _], _ => rfl
def sp_s_eq (K : PySem.W.Frag) : Sp := fun vs H Q _ => ∃ (x y : Addr) (r cc c r' cc' c' : Nat), vs = [.ref x, .ref y] ∧ SchAt K H x r cc c ∧ SchAt K H y r' cc' c' ∧ Q (.bl (decide (r = r' ∧ cc = cc'))) H
theorem ok_s_eq (T : TX K mg) : FnOk P w K mg base CX0 1 (He.fAd K ("Scheme", some "__eq__")) T.d_s_eq ["self", "other"] (sp_s_eq K) := by
  refine T.F_s_eq.ok sc_s_eq (fun vs H Q E h => ?_) (fun cdv A outer s H vs Q E hr h => ?_)
  · obtain ⟨x, y, r, cc, c, r', cc', c', rfl, _⟩ := h
    rfl
  · obtain ⟨x, y, r, cc, c, r', cc', c', rfl, ⟨dx, hx⟩, ⟨dy, hy⟩, q⟩ := h
    refine ⟨_, PSs.nox (pss_one (ps_ret (pe_and (pe_callB (isiK K) (by rfl) T.n_isinstance bt_isinstance (pa_cons (pv 1) (pa_cons (pe_glob (v := .ref (He.ga K "Scheme")) rfl T.m_Scheme rfl) pa_nil))) (pe_and (pe_cmpR op_eq (fldK K (pv 0) rfl) (fldK K (pv 1) rfl) (nomark _)) (pe_one (pe_cmpR op_eq (fldK K (pv 0) rfl) (fldK K (pv 1) rfl) (nomark _))))))), ?_⟩
    refine ⟨_, rfl, _, _, _, _, true, rfl, .own _, .base (.ins hy T.c_Scheme T.o_S T.o_get T.o_tk T.om_S), (by unfold PySem.W.kitOne; simp), _, rfl, iteT ?_⟩
    refine ⟨_, rfl, x, _, _, _, _, rfl, hx, T.c_Scheme, T.ns_rows, rfl, _, rfl, y, _, _, _, _, rfl, hy, T.c_Scheme, T.ns_rows, rfl, rfl, _, rfl, ite2 (fun h1 => ?_) (fun h1 => ?_)⟩
    · have h1 : r = r' := by have := V.int.inj (of_decide_eq_true h1); omega
      refine ⟨_, rfl, x, _, _, _, _, rfl, hx, T.c_Scheme, T.ns_colours, rfl, _, rfl, y, _, _, _, _, rfl, hy, T.c_Scheme, T.ns_colours, rfl, rfl, ?_⟩
      have e : decide (V.int (cc : Int) = V.int (cc' : Int)) = decide (r = r' ∧ cc = cc') := by
        by_cases h2 : cc = cc'
        · rw [decide_eq_true (show V.int (cc : Int) = V.int (cc' : Int) by rw [h2]), decide_eq_true ⟨h1, h2⟩]
        · rw [decide_eq_false (fun z => h2 (by have := V.int.inj z; omega)), decide_eq_false (fun z => h2 z.2)]
      show Q (.bl (decide (V.int (cc : Int) = V.int (cc' : Int)))) H
      rw [e]; exact q
    · have h1 : ¬ r = r' := fun z => h1 (decide_eq_true (by rw [z]))
      rw [decide_eq_false (fun z => h1 z.1)] at q
      exact q
/-! ### the look at a good table -/
abbrev N_check_table : List Str := ["scheme", "rows", "goods", "place", "row", "step"]
theorem sc_check_table : FnScope N_check_table ["scheme", "rows", "goods"] (defScope s_check_table) := ⟨rfl, rfl, rfl, by decide +kernel, rfl, by decide +kernel, by decide +kernel⟩
theorem b_check_table (T : TX K mg) : Binds K T.d_check_table ["scheme", "rows", "goods"] [] := T.F_check_table.bindsN fun _ _ _ _ _ _ us hl => match us, hl with | [_, _, _], _ => rfl
def sp_check (K : PySem.W.Frag) : Sp := fun vs H Q _ => ∃ (p a b : Addr) (r cc c : Nat) (R : List (List Int)) (G : List Bool), vs = [.ref p, .ref a, .ref b] ∧ SchAt K H p r cc c ∧ c ≤ 9 ∧ Tb H a R ∧ H b = some (bL G) ∧ WF c R G ∧ R.length ≤ 60 ∧ ∀ H' : Hp, Same H H' → Q .non H'
theorem ok_check_table (T : TX K mg) : FnOk P w K mg base CX0 3 (He.fAd K ("check_table", none)) T.d_check_table ["scheme", "rows", "goods"] (sp_check K) := by
  refine T.F_check_table.ok sc_check_table (fun vs H Q E h => ?_) (fun cdv A outer s H vs Q E hr h => ?_)
  · obtain ⟨p, a, b, r, cc, c, R, G, rfl, _⟩ := h
    rfl
  · obtain ⟨p, a, b, r, cc, c, R, G, rfl, hp, hc, hT, hb, W, hl, q⟩ := h
    obtain ⟨as, hS, hlen, ha, hR⟩ := hT.get (K := K)
    have eas : ((as.map V.ref).length : Int) = (R.length : Int) := by rw [List.length_map, hlen]
    have ebs : ((G.map V.bl).length : Int) = (R.length : Int) := by rw [List.length_map, W.len]
    have hpos := W.pos
    refine ⟨_, PSs.nox (pss_cons (ps_if (PW.pt (pw_or (pt_cmpR op_eq (pe_callB (lenK K) (by rfl) T.n_len PySem.boot_len (pa_cons (pv 1) pa_nil)) pe_int (nomark _)) (pw_or1 (pt_cmpR op_ne (pe_callB (lenK K) (by rfl) T.n_len PySem.boot_len (pa_cons (pv 2) pa_nil)) (pe_callB (lenK K) (by rfl) T.n_len PySem.boot_len (pa_cons (pv 1) pa_nil)) (nomark _))))) (pss_one ps_never) pss_nil)
    (pss_one (ps_for PassesOwn.never rfl (pi_enum (by rfl) T.n_enumerate (pa_cons (pv 1) pa_nil)) (tupG K rfl (pgs_cons (pg_name (i := 3) sc_check_table.nd rfl (Or.inl rfl)) (pgs_cons (pg_name (i := 4) sc_check_table.nd rfl (Or.inl rfl)) pgs_nil))) (pss_one (ps_if (PW.pt (pw_or (pt_cmpR op_ne (pe_callB (lenK K) (by rfl) T.n_len PySem.boot_len (pa_cons (pv 4) pa_nil)) (pe_callB (call_lenO (ok_s_len T) (hr.mono (by decide)) T.ln_S T.fl_S (b_s_len T)) (by rfl) T.n_len PySem.boot_len (pa_cons (pv 0) pa_nil)) (nomark _)) (pw_or1 (pt_val (pe_callB (anyK K rfl) (by rfl) T.n_any bt_any (pa_cons (pe_lc (own := [("step", 5)]) (g := gName 5) (tt := tYes) rfl sc_check_table.nd (pi_listK K (pv 4)) (blkOk_by (own := [("step", 5)]) (N := N_check_table) (sc := defScope s_check_table) (by decide +kernel)) (fun _ _ _ _ _ => (pg_name (i := 5) sc_check_table.nd rfl (Or.inl rfl))) (fun _ _ _ _ _ => pts_nil) (fun _ _ _ _ _ => (pe_not (pe_chain op_le op_lt (pe_un un_neg pe_int) (pv 5) (pe_callB (lenK K) (by rfl) T.n_len PySem.boot_len (pa_cons (pv 1) pa_nil)))))) pa_nil)))))) (pss_one ps_never) pss_nil))))), ?_⟩
    refine ⟨_, rfl, a, _, rfl, .inl hS, rfl, _, rfl, ite2 (fun z => ?_) (fun _ => ?_)⟩
    · have := V.int.inj (of_decide_eq_true z)
      omega
    refine ⟨_, rfl, b, _, rfl, .inl (SqL.of hb), _, rfl, a, _, rfl, .inl hS, rfl, _, rfl, iteNS (congrArg V.int (ebs.trans eas.symm)) ?_⟩
    refine ⟨_, rfl, a, _, rfl, hS, ?_⟩
    refine for_it (walk_enum (xs := as.map V.ref)) (fun i σ H' => ∃ y3 y4 : Option V, σ = [some (.ref p), some (.ref a), some (.ref b), y3, y4, none] ∧ Same H H') ⟨none, none, rfl, same_rfl⟩ (fun i σ H' _ h => by obtain ⟨y3, y4, _, s1⟩ := h; exact SqL.of (s1 _ _ ha)) ?_ ?_
    · rintro i x σ _ H1 hi ⟨y3, y4, rfl, s1⟩ ⟨T1, x1, y1, rfl, nT, rfl, hx1, hy1⟩
      have hx1 := Option.some.inj hx1
      subst hx1
      obtain ⟨bi, hbi, rfl⟩ := map_get' hy1
      obtain ⟨row, hrow, hri⟩ := paired_get hR hbi
      obtain ⟨wl, wb⟩ := W.row row (List.mem_of_getElem? hrow)
      rename_i H0
      have s2 : Same H0 (upd H0 T1 (.tup [.int (i : Nat), .ref bi])) := same_new nT
      have S2 : Same H _ := s1.trans s2
      refine ⟨T1, _, rfl, SqT.of upd_same, rfl, _, _, rfl, _, _, rfl, rfl, ?_⟩
      generalize upd H0 T1 (.tup [.int (i : Nat), .ref bi]) = H2 at s2 S2
      have hri2 := S2 _ _ hri
      have hp2 := hp.same S2
      obtain ⟨dx, hpx⟩ := hp2
      refine ⟨_, rfl, bi, _, rfl, .inl (SqL.of hri2), _, rfl, p, dx, _, rfl, hpx, p, r, cc, c, rfl, ⟨dx, hpx⟩, hc, ⟨c, rfl, by omega⟩, rfl, _, rfl, iteNS (congrArg V.int (by rw [List.length_map, wl])) ?_⟩
      refine ⟨_, rfl, bi, rfl, ⟨_, SqL.of hri2⟩, fun D nD => ?_⟩
      refine lc_list (K := K) (a := bi) (xs := row.map V.int) (fun j H' => H' = upd H2 D (bL (List.replicate j false))) rfl (fun j H' _ z => by rw [z]; exact SqL.of (same_new nD _ _ hri2)) ?_ ?_
      · rintro j x H' hx rfl
        obtain ⟨z, hz, rfl⟩ := map_get' hx
        have hz2 := wb z (List.mem_of_getElem? hz)
        have hjl := (List.getElem?_eq_some_iff.mp hz).1
        refine ⟨rfl, _, rfl, _, rfl, _, _, rfl, rfl, _, rfl, ite2 (fun _ => ?_) (fun z => absurd (decide_eq_true (show (-1 : Int) ≤ _ from hz2.1)) z)⟩
        refine ⟨_, rfl, a, _, rfl, .inl (SqL.of (same_new nD _ _ (S2 _ _ ha))), _, _, rfl, rfl, _, rfl, _, upd_same, szLt (by rw [List.length_map, List.length_replicate]; omega), ?_⟩
        rw [decide_eq_true (show z < ((as.map V.ref).length : Int) by rw [eas]; exact hz2.2), upd_upd]
        show upd H2 D (.lst ((List.replicate j false).map V.bl ++ [V.bl false])) = _
        rw [snocB, ← List.replicate_succ']
      · rintro H' rfl
        refine ⟨D, _, rfl, SqL.of upd_same, _, rfl, ?_⟩
        have e : (List.replicate (row.map V.int).length false).any id = false := by
          rw [List.any_eq_false]
          intro x hx
          rw [List.eq_of_mem_replicate hx]; decide
        rw [e]
        exact iteF ⟨_, _, rfl, S2.trans (same_new nD)⟩
    · rintro σ H1 ⟨y3, y4, rfl, s1⟩
      exact q H1 s1
end
end Gal
end
section
set_option Elab.async false
set_option linter.all false
set_option maxRecDepth 100000
set_option maxHeartbeats 4000000
namespace Gal
open PySem PySem.Spec PyProof.Rows L2
section
variable {P : Program} {w : World} {K : PySem.W.Frag} {mg : Str → Option Value} {base : Heap}
/-! ### a bale of a good table -/
/-- the bale at x: scheme, rows, truth values -/
def BAt (K : PySem.W.Frag) (H : Hp) (x : Addr) (r cc c : Nat) (R : List (List Int)) (G : List Bool) : Prop := ∃ dx p a b, H x = some (.ins (Bc K) dx [("scheme", .ref p), ("rows", .ref a), ("goods", .ref b)]) ∧ SchAt K H p r cc c ∧ Tb H a R ∧ H b = some (bL G)
theorem BAt.same {H H' : Hp} {x : Addr} {r cc c : Nat} {R : List (List Int)} {G : List Bool} (s : Same H H') (h : BAt K H x r cc c R G) : BAt K H' x r cc c R G := by
  obtain ⟨dx, p, a, b, h1, h2, h3, h4⟩ := h
  exact ⟨dx, p, a, b, s _ _ h1, h2.same s, h3.same s, s _ _ h4⟩
abbrev N_b_init : List Str := ["self", "scheme", "rows", "goods", "steps", "marks"]
theorem sc_b_init : FnScope N_b_init ["self", "scheme", "rows", "goods"] (defScope s_b_init) := ⟨rfl, rfl, rfl, by decide +kernel, rfl, by decide +kernel, by decide +kernel⟩
theorem b_b_init (T : TX K mg) : Binds K T.d_b_init ["self", "scheme", "rows", "goods"] [] := T.F_b_init.bindsN fun _ _ _ _ _ _ us hl => match us, hl with | [_, _, _, _], _ => rfl
def sp_b_init (K : PySem.W.Frag) : Sp := fun vs H Q _ => ∃ (x dx p a b : Addr) (r cc c : Nat) (R : List (List Int)) (G : List Bool), vs = [.ref x, .ref p, .ref a, .ref b] ∧ H x = some (.ins (Bc K) dx []) ∧ SchAt K H p r cc c ∧ c ≤ 9 ∧ Tb H a R ∧ H b = some (bL G) ∧ WF c R G ∧ R.length ≤ 60 ∧
  ∀ (H' : Hp) (q g : Addr) (R1 : List (List Int)) (G1 : List Bool), Sb x H H' → H' x = some (.ins (Bc K) dx [("scheme", .ref p), ("rows", .ref q), ("goods", .ref g)]) → TbN H H' q R1 → H g = none → H' g = some (bL G1) → R1.length ≤ 60 → LeastOf c R G R1 G1 → Q .non H'
theorem ok_b_init (T : TX K mg) : FnOk P w K mg base CX0 4 (He.fAd K ("Bale", some "__init__")) T.d_b_init ["self", "scheme", "rows", "goods"] (sp_b_init K) := by
  refine T.F_b_init.ok sc_b_init (fun vs H Q E h => ?_) (fun cdv A outer s H vs Q E hr h => ?_)
  · obtain ⟨x, dx, p, a, b, r, cc, c, R, G, rfl, _⟩ := h
    rfl
  · obtain ⟨x, dx, p, a, b, r, cc, c, R, G, rfl, hx, hp, hc, hT, hb, W, hl, q⟩ := h
    refine ⟨_, PSs.nox (pss_cons (ps_expr (pe_call (ok_check_table T) (hr.mono (by decide)) (by rfl) T.g_check_table T.F_check_table.kp (b_check_table T) .nil pass0 (pa_cons (pv 1) (pa_cons (pv 2) (pa_cons (pv 3) pa_nil)))))
    (pss_cons (ps_asg (pe_call (ok_least T) (hr.mono (by decide)) (by rfl) T.g_least T.F_least.kp (b_least T) .nil pass0 (pa_cons (pe_call (ok_step_dicts T) (hr.mono (by decide)) (by rfl) T.g_step_dicts T.F_step_dicts.kp (b_step_dicts T) .nil pass0 (pa_cons (pv 1) (pa_cons (pv 2) pa_nil))) (pa_cons (pv 3) pa_nil))) (tupG K rfl (pgs_cons (pg_name (i := 4) sc_b_init.nd rfl (Or.inl rfl)) (pgs_cons (pg_name (i := 5) sc_b_init.nd rfl (Or.inl rfl)) pgs_nil))))
    (pss_cons (ps_fld (pv 0) (pv 1) rfl)
    (pss_cons (ps_fld (pv 0) (pe_call (ok_step_lists T) (hr.mono (by decide)) (by rfl) T.g_step_lists T.F_step_lists.kp (b_step_lists T) .nil pass0 (pa_cons (pv 1) (pa_cons (pv 4) pa_nil))) rfl)
    (pss_one (ps_fld (pv 0) (pv 5) rfl)))))), ?_⟩
    refine ⟨_, rfl, _, rfl, _, rfl, p, a, b, r, cc, c, R, G, rfl, hp, hc, hT, hb, W, hl, fun H1 s1 => ?_⟩
    refine ⟨_, rfl, _, rfl, p, a, r, cc, c, R, rfl, hp.same s1, hT.same s1, (fun row hr => (W.row row hr).1), hc, hl, fun q1 H2 s2 nq1 hq1 => ?_⟩
    refine ⟨_, rfl, q1, b, c, R, G, rfl, hq1, s2 _ _ (s1 _ _ hb), W, hl, hc, fun z st mk H3 R1 G1 s3 hz hst nmk hmk hl1 hLO => ?_⟩
    refine ⟨z, _, rfl, SqT.of hz, rfl, _, _, rfl, _, _, rfl, rfl, ?_⟩
    have S3 : Same H H3 := s1.trans (s2.trans s3)
    have hx3 := S3 _ _ hx
    obtain ⟨dp, hpx⟩ := hp
    have hp3 := S3 _ _ hpx
    have npx : p ≠ x := ne_of hp3 hx3 (fun z => by injection z with _ _ z; cases z)
    have nmkH : H mk = none := s1.free (s2.free nmk)
    refine ⟨_, rfl, _, rfl, x, _, dx, _, rfl, hx3, T.c_Bale, T.nb_scheme, (show 0 < 1000 by decide), ?_⟩
    have hp4 : SchAt K (upd H3 x (.ins (Bc K) dx (putF "scheme" (.ref p) []))) p r cc c := ⟨dp, upd_at npx hp3⟩
    have hst4 : DTb (upd H3 x (.ins (Bc K) dx (putF "scheme" (.ref p) []))) st R1 := by
      obtain ⟨bs, h1, h2⟩ := hst
      exact ⟨bs, upd_at (ne_of h1 hx3 (fun z => by cases z)) h1, Paired.mapP h2 fun u v e => upd_at (ne_of e hx3 (fun z => by cases z)) e⟩
    have hmk4 : (upd H3 x (.ins (Bc K) dx (putF "scheme" (.ref p) []))) mk = some (bL G1) := upd_at (ne_of hmk hx3 (fun z => by cases z)) hmk
    have sb4 : Sb x H (upd H3 x (.ins (Bc K) dx (putF "scheme" (.ref p) []))) := (Sb.of S3).set
    have hx4 : (upd H3 x (.ins (Bc K) dx (putF "scheme" (.ref p) []))) x = some (.ins (Bc K) dx (putF "scheme" (.ref p) [])) := upd_same
    generalize upd H3 x (.ins (Bc K) dx (putF "scheme" (.ref p) [])) = H4 at hp4 hst4 hmk4 sb4 hx4
    have W1 := hLO.1.wf
    refine ⟨_, rfl, _, rfl, p, st, r, cc, c, R1, rfl, hp4, hst4, (fun row hr => ⟨(W1.row row hr).1, fun y hy => ((W1.row row hr).2 y hy).1⟩), hc, hl1, fun q2 H5 s5 hT5 => ?_⟩
    have hx5 := s5 _ _ hx4
    obtain ⟨nq2, as, hq2, hR5, hnew⟩ := hT5
    have fr : ∀ {u : Addr}, H4 u = none → H u = none := fun {u} h => Sb.free sb4 ⟨_, hx4⟩ h
    have nq2x : q2 ≠ x := (ne_of_none hx4 nq2).symm
    refine ⟨_, rfl, x, _, dx, _, rfl, hx5, T.c_Bale, T.nb_rows, (show 1 < 1000 by decide), ?_⟩
    refine ⟨_, rfl, _, rfl, x, _, dx, _, rfl, upd_same, T.c_Bale, T.nb_goods, (show 2 < 1000 by decide), ?_⟩
    have nmkx : mk ≠ x := fun z => by rw [z, hx] at nmkH; cases nmkH
    refine q _ q2 mk R1 G1 ((sb4.trans (Sb.of s5)).set.set) upd_same ⟨fr nq2, as, upd_at nq2x (upd_at nq2x hq2), ?_, fun b hb => fr (hnew b hb)⟩ nmkH (upd_at nmkx (upd_at nmkx (s5 _ _ hmk4))) hl1 hLO
    exact paired_mem hR5 fun u v hu e => by
      have : u ≠ x := (ne_of_none hx4 (hnew u hu)).symm
      exact upd_at this (upd_at this e)
/-! ### every strip, no strip -/
def sp_b_some (K : PySem.W.Frag) : Sp := fun vs H Q _ => ∃ (cl p : Addr) (r cc c : Nat), vs = [.ref cl, .ref p] ∧ SchAt K H p r cc c ∧ c ≤ 9 ∧ ∀ (x : Addr) (H' : Hp) (R1 : List (List Int)) (G1 : List Bool), Same H H' → BAt K H' x r cc c R1 G1 → Q (.ref x) H'
theorem wf_one {c : Nat} {v : Int} (hv : v = 0 ∨ v = -1) {g : Bool} : WF c [List.replicate c v] [g] := ⟨by show 0 < 1; decide, rfl, fun r hr => by
  have : r = List.replicate c v := by simpa using hr
  subst this
  refine ⟨List.length_replicate, fun x hx => ?_⟩
  rw [List.eq_of_mem_replicate hx]
  show -1 ≤ v ∧ v < 1
  omega⟩
/-- what Bale(..) leaves -/
theorem made_bale {H H1 : Hp} {x dx p : Addr} {r cc c : Nat} {q g : Addr} {R1 : List (List Int)} {G1 : List Bool} (hp : SchAt K H p r cc c) (nx : H x = none) (ndx : H dx = none) (sb : Sb x (upd (upd H dx (.own x)) x (.ins (Bc K) dx [])) H1)
    (hx : H1 x = some (.ins (Bc K) dx [("scheme", .ref p), ("rows", .ref q), ("goods", .ref g)])) (hT : TbN (upd (upd H dx (.own x)) x (.ins (Bc K) dx [])) H1 q R1) (hg : H1 g = some (bL G1)) : Same H H1 ∧ BAt K H1 x r cc c R1 G1 := by
  have s : Same H H1 := fun b o e => sb b o (by rw [upd_ne (ne_of_none e nx), upd_ne (ne_of_none e ndx)]; exact e) (ne_of_none e nx)
  obtain ⟨_, as, h1, h2, _⟩ := hT
  exact ⟨s, dx, p, q, g, hx, hp.same s, ⟨as, h1, h2⟩, hg⟩
theorem pre_make {H : Hp} {x dx : Addr} {o : HO} (nx : H x = none) (ndx : H dx = none) : Same H (upd (upd H dx (.own x)) x o) := fun b u e => by rw [upd_ne (ne_of_none e nx), upd_ne (ne_of_none e ndx)]; exact e
abbrev N_b_every : List Str := ["cls", "scheme", "column"]
theorem sc_b_every : FnScope N_b_every ["cls", "scheme"] (defScope s_b_every) := ⟨rfl, rfl, rfl, by decide +kernel, rfl, by decide +kernel, by decide +kernel⟩
theorem b_b_every (T : TX K mg) : Binds K T.d_b_every ["cls", "scheme"] [] := T.F_b_every.bindsN fun _ _ _ _ _ _ us hl => match us, hl with | [_, _], _ => rfl
theorem ok_b_every (T : TX K mg) : FnOk P w K mg base CX0 6 (cmA K "every") T.d_b_every ["cls", "scheme"] (sp_b_some K) := by
  refine T.F_b_every.ok sc_b_every (fun vs H Q E h => ?_) (fun cdv A outer s H vs Q E hr h => ?_)
  · obtain ⟨cl, p, r, cc, c, rfl, _⟩ := h
    rfl
  · obtain ⟨cl, p, r, cc, c, rfl, hp, hc, q⟩ := h
    refine ⟨_, PSs.nox (pss_one (ps_ret (pe_make T.mk_Bale (ok_b_init T) (hr.mono (by decide)) (by rfl) T.m_Bale (b_b_init T) .nil pass0 (pa_cons (pv 1) (pa_cons (pe_lst (pa_cons (pe_lc (own := [("column", 2)]) (g := gName 2) (tt := tYes) rfl sc_b_every.nd (pi_str (fldK K (pv 1) rfl)) (blkOk_by (own := [("column", 2)]) (N := N_b_every) (sc := defScope s_b_every) (by decide +kernel)) (fun _ _ _ _ _ => (pg_name (i := 2) sc_b_every.nd rfl (Or.inl rfl))) (fun _ _ _ _ _ => pts_nil) (fun _ _ _ _ _ => pe_int)) pa_nil)) (pa_cons (pe_lst (pa_cons pe_bl pa_nil)) pa_nil)))))), ?_⟩
    obtain ⟨dp, hpx⟩ := hp
    refine ⟨_, rfl, _, rfl, p, _, dp, _, _, rfl, hpx, T.c_Scheme, T.ns_columns, rfl, colT c, rfl, fun d nd => ?_⟩
    refine lc_it (walk_str (z := colT c)) (fun j H' => H' = upd H d (iL (List.replicate j 0))) rfl (fun _ _ _ _ => True.intro) ?_ ?_
    · rintro j x H' _ hj rfl ⟨rfl, ch, hch, rfl⟩
      rw [colT_size hc] at hj
      refine ⟨rfl, _, upd_same, szLt (by rw [List.length_map, List.length_replicate]; omega), ?_⟩
      show upd (upd H d _) d (.lst ((List.replicate j (0 : Int)).map V.int ++ [V.int 0])) = _
      rw [upd_upd, snocI, ← List.replicate_succ']
    · rintro H1 rfl
      rw [colT_size hc]
      refine ⟨(by show 1 ≤ sizeLine; decide), fun l nl => ⟨(by show 1 ≤ sizeLine; decide), fun g ng => ?_⟩⟩
      have s1 : Same H (upd (upd (upd H d (iL (List.replicate c 0))) l (.lst [.ref d])) g (.lst [.bl true])) := (same_new nd).trans ((same_new nl).trans (same_new ng))
      have hT : Tb (upd (upd (upd H d (iL (List.replicate c 0))) l (.lst [.ref d])) g (.lst [.bl true])) l [List.replicate c 0] := ⟨[d], same_new ng _ _ upd_same, .cons (same_new ng _ _ (same_new nl _ _ upd_same)) .nil⟩
      have hg : (upd (upd (upd H d (iL (List.replicate c 0))) l (.lst [.ref d])) g (.lst [.bl true])) g = some (bL [true]) := upd_same
      generalize upd (upd (upd H d (iL (List.replicate c 0))) l (.lst [.ref d])) g (.lst [.bl true]) = H2 at s1 hT hg
      intro x dx nx ndx ndxx
      have s3 := pre_make (o := .ins (Bc K) dx []) nx ndx
      have hp2 : SchAt K H2 p r cc c := ⟨dp, s1 _ _ hpx⟩
      refine ⟨x, dx, p, l, g, r, cc, c, [List.replicate c 0], [true], rfl, upd_same, hp2.same s3, hc, hT.same s3, s3 _ _ hg, wf_one (.inl rfl), by show 1 ≤ 60; decide, fun H3 q2 g2 R1 G1 sb hx3 hT3 ng3 hg3 hl3 hLO => ⟨rfl, ?_⟩⟩
      obtain ⟨s4, hB⟩ := made_bale hp2 nx ndx sb hx3 hT3 hg3
      exact q x H3 R1 G1 (s1.trans s4) hB
abbrev N_b_none : List Str := ["cls", "scheme", "column"]
theorem sc_b_none : FnScope N_b_none ["cls", "scheme"] (defScope s_b_none) := ⟨rfl, rfl, rfl, by decide +kernel, rfl, by decide +kernel, by decide +kernel⟩
theorem b_b_none (T : TX K mg) : Binds K T.d_b_none ["cls", "scheme"] [] := T.F_b_none.bindsN fun _ _ _ _ _ _ us hl => match us, hl with | [_, _], _ => rfl
theorem ok_b_none (T : TX K mg) : FnOk P w K mg base CX0 6 (cmA K "none") T.d_b_none ["cls", "scheme"] (sp_b_some K) := by
  refine T.F_b_none.ok sc_b_none (fun vs H Q E h => ?_) (fun cdv A outer s H vs Q E hr h => ?_)
  · obtain ⟨cl, p, r, cc, c, rfl, _⟩ := h
    rfl
  · obtain ⟨cl, p, r, cc, c, rfl, hp, hc, q⟩ := h
    refine ⟨_, PSs.nox (pss_one (ps_ret (pe_make T.mk_Bale (ok_b_init T) (hr.mono (by decide)) (by rfl) T.m_Bale (b_b_init T) .nil pass0 (pa_cons (pv 1) (pa_cons (pe_lst (pa_cons (pe_lc (own := [("column", 2)]) (g := gName 2) (tt := tYes) rfl sc_b_none.nd (pi_str (fldK K (pv 1) rfl)) (blkOk_by (own := [("column", 2)]) (N := N_b_none) (sc := defScope s_b_none) (by decide +kernel)) (fun _ _ _ _ _ => (pg_name (i := 2) sc_b_none.nd rfl (Or.inl rfl))) (fun _ _ _ _ _ => pts_nil) (fun _ _ _ _ _ => (pe_un un_neg pe_int))) pa_nil)) (pa_cons (pe_lst (pa_cons pe_bl pa_nil)) pa_nil)))))), ?_⟩
    obtain ⟨dp, hpx⟩ := hp
    refine ⟨_, rfl, _, rfl, p, _, dp, _, _, rfl, hpx, T.c_Scheme, T.ns_columns, rfl, colT c, rfl, fun d nd => ?_⟩
    refine lc_it (walk_str (z := colT c)) (fun j H' => H' = upd H d (iL (List.replicate j (-1)))) rfl (fun _ _ _ _ => True.intro) ?_ ?_
    · rintro j x H' _ hj rfl ⟨rfl, ch, hch, rfl⟩
      rw [colT_size hc] at hj
      refine ⟨rfl, _, rfl, _, upd_same, szLt (by rw [List.length_map, List.length_replicate]; omega), ?_⟩
      show upd (upd H d _) d (.lst ((List.replicate j (-1 : Int)).map V.int ++ [V.int (-1)])) = _
      rw [upd_upd, snocI, ← List.replicate_succ']
    · rintro H1 rfl
      rw [colT_size hc]
      refine ⟨(by show 1 ≤ sizeLine; decide), fun l nl => ⟨(by show 1 ≤ sizeLine; decide), fun g ng => ?_⟩⟩
      have s1 : Same H (upd (upd (upd H d (iL (List.replicate c (-1)))) l (.lst [.ref d])) g (.lst [.bl false])) := (same_new nd).trans ((same_new nl).trans (same_new ng))
      have hT : Tb (upd (upd (upd H d (iL (List.replicate c (-1)))) l (.lst [.ref d])) g (.lst [.bl false])) l [List.replicate c (-1)] := ⟨[d], same_new ng _ _ upd_same, .cons (same_new ng _ _ (same_new nl _ _ upd_same)) .nil⟩
      have hg : (upd (upd (upd H d (iL (List.replicate c (-1)))) l (.lst [.ref d])) g (.lst [.bl false])) g = some (bL [false]) := upd_same
      generalize upd (upd (upd H d (iL (List.replicate c (-1)))) l (.lst [.ref d])) g (.lst [.bl false]) = H2 at s1 hT hg
      intro x dx nx ndx ndxx
      have s3 := pre_make (o := .ins (Bc K) dx []) nx ndx
      have hp2 : SchAt K H2 p r cc c := ⟨dp, s1 _ _ hpx⟩
      refine ⟨x, dx, p, l, g, r, cc, c, [List.replicate c (-1)], [false], rfl, upd_same, hp2.same s3, hc, hT.same s3, s3 _ _ hg, wf_one (.inr rfl), by show 1 ≤ 60; decide, fun H3 q2 g2 R1 G1 sb hx3 hT3 ng3 hg3 hl3 hLO => ⟨rfl, ?_⟩⟩
      obtain ⟨s4, hB⟩ := made_bale hp2 nx ndx sb hx3 hT3 hg3
      exact q x H3 R1 G1 (s1.trans s4) hB
/-! ### two bales -/
abbrev N_b_eq : List Str := ["self", "other"]
theorem sc_b_eq : FnScope N_b_eq ["self", "other"] (defScope s_b_eq) := ⟨rfl, rfl, rfl, by decide +kernel, rfl, by decide +kernel, by decide +kernel⟩
theorem b_b_eq (T : TX K mg) : Binds K T.d_b_eq ["self", "other"] [] := T.F_b_eq.bindsN fun _ _ _ _ _ _ us hl => match us, hl with | [_, _], _ => rfl
def sp_b_eq (K : PySem.W.Frag) : Sp := fun vs H Q _ => ∃ (x : Addr) (y : V) (r cc c : Nat) (R : List (List Int)) (G : List Bool), vs = [.ref x, y] ∧ BAt K H x r cc c R G ∧
  ((∃ (y' : Addr) (r' cc' c' : Nat) (R' : List (List Int)) (G' : List Bool), y = .ref y' ∧ BAt K H y' r' cc' c' R' G' ∧ Q (.bl (decide (r = r' ∧ cc = cc' ∧ R = R' ∧ G = G'))) H) ∨ (((∃ a xs, y = .ref a ∧ H a = some (.lst xs)) ∨ ∃ i, y = .int i) ∧ Q (.bl false) H))
theorem ok_b_eq (T : TX K mg) : FnOk P w K mg base CX0 2 (He.fAd K ("Bale", some "__eq__")) T.d_b_eq ["self", "other"] (sp_b_eq K) := by
  refine T.F_b_eq.ok sc_b_eq (fun vs H Q E h => ?_) (fun cdv A outer s H vs Q E hr h => ?_)
  · obtain ⟨x, y, r, cc, c, R, G, rfl, _⟩ := h
    rfl
  · obtain ⟨x, y, r, cc, c, R, G, rfl, ⟨dx, p, a, b, hx, ⟨dp, hp⟩, hT, hb⟩, hy⟩ := h
    refine ⟨_, PSs.nox (pss_cons (ps_if (pt_not (pt_val (pe_callB (isiK K) (by rfl) T.n_isinstance bt_isinstance (pa_cons (pv 1) (pa_cons (pe_glob (v := .ref (He.ga K "Bale")) rfl T.m_Bale rfl) pa_nil))))) (pss_one (ps_ret pe_bl)) pss_nil)
    (pss_one (ps_ret (pe_and (pe_cmpR (op_eqO K (ok_s_eq T) (hr.mono (by decide)) T.eq_S T.fe_S (b_s_eq T)) (fldK K (pv 0) rfl) (fldK K (pv 1) rfl) (nomark _)) (pe_and (pe_cmpR (eqDK K hr.units) (fldK K (pv 0) rfl) (fldK K (pv 1) rfl) (nomark _)) (pe_one (pe_cmpR (eqDK K hr.units) (fldK K (pv 0) rfl) (fldK K (pv 1) rfl) (nomark _)))))))), ?_⟩
    rcases hy with ⟨y', r', cc', c', R', G', rfl, ⟨dy, p', a', b', hy, ⟨dp', hp'⟩, hT', hb'⟩, q⟩ | ⟨hy, q⟩
    · refine ⟨_, rfl, _, _, _, _, true, rfl, .own _, .base (.ins hy T.c_Bale T.o_B T.o_get T.o_tk T.om_B), (by unfold PySem.W.kitOne; simp), _, rfl, iteF ?_⟩
      refine ⟨_, rfl, x, _, _, _, _, rfl, hx, T.c_Bale, T.nb_scheme, rfl, _, rfl, y', _, _, _, _, rfl, hy, T.c_Bale, T.nb_scheme, rfl, p, dp, _, _, rfl, hp, .base (.ins hp' T.c_Scheme T.o_S T.o_get T.o_tk T.om_S), (by unfold PySem.W.notFirst; simp), p, p', r, cc, c, r', cc', c', rfl, ⟨dp, hp⟩, ⟨dp', hp'⟩, ⟨_, rfl⟩, _, rfl, ite2 (fun h1 => ?_) (fun h1 => ?_)⟩
      · have h1 := of_decide_eq_true h1
        refine ⟨_, rfl, x, _, _, _, _, rfl, hx, T.c_Bale, T.nb_rows, rfl, _, rfl, y', _, _, _, _, rfl, hy, T.c_Bale, T.nb_rows, rfl, rd_eqT hT hT' ⟨_, rfl, ite2 (fun h2 => ?_) (fun h2 => ?_)⟩⟩
        · have h2 := of_decide_eq_true h2
          refine ⟨_, rfl, x, _, _, _, _, rfl, hx, T.c_Bale, T.nb_goods, rfl, _, rfl, y', _, _, _, _, rfl, hy, T.c_Bale, T.nb_goods, rfl, rd_eqB hb hb' ?_⟩
          have e : decide (G = G') = decide (r = r' ∧ cc = cc' ∧ R = R' ∧ G = G') := by
            by_cases h3 : G = G'
            · rw [decide_eq_true h3, decide_eq_true ⟨h1.1, h1.2, h2, h3⟩]
            · rw [decide_eq_false h3, decide_eq_false (fun z => h3 z.2.2.2)]
          rw [e]; exact q
        · have h2 : ¬ R = R' := fun z => h2 (decide_eq_true z)
          rw [decide_eq_false (fun z => h2 z.2.2.1)] at q
          exact q
      · have h1 : ¬ (r = r' ∧ cc = cc') := fun z => h1 (decide_eq_true z)
        rw [decide_eq_false (fun z => h1 ⟨z.1, z.2.1⟩)] at q
        exact q
    · rcases hy with ⟨a', xs, rfl, ha'⟩ | ⟨i, rfl⟩
      · exact ⟨_, rfl, _, _, _, _, false, rfl, .own _, .base (.lst ha'), T.kl_B, _, rfl, iteT q⟩
      · exact ⟨_, rfl, _, _, _, _, false, rfl, .own _, .base (.int i), T.ki_B, _, rfl, iteT q⟩
end
end Gal
end
section
set_option Elab.async false
set_option linter.all false
set_option maxRecDepth 100000
set_option maxHeartbeats 4000000
namespace Gal
open PySem PySem.Spec PyProof.Rows L2
section
variable {P : Program} {w : World} {K : PySem.W.Frag} {mg : Str → Option Value} {base : Heap}
theorem fnR_of {CX : CXT} {k : Nat} {f : Addr} {fd : FuncData} {ps : List Str} {sp : Sp} (F : FnOk P w K mg base CX k f fd ps sp) (hb : Binds K fd ps []) : L2.FnR P w K mg base CX k f sp :=
  (F.raw hb .nil).imp fun vs H Q E h => by rw [List.append_nil]; exact h
/-! ### what is passed stays apart -/
abbrev N_l_kept : List Str := ["_law_bale", "_law_scheme", "_law_table_here", "_law_passed", "_law_other", "_law_rows", "_law_goods", "_law_row"]
theorem sc_l_kept : FnScope N_l_kept ["_law_bale", "_law_scheme", "_law_table_here", "_law_passed", "_law_other"] (defScope s_l_kept) := ⟨rfl, rfl, rfl, by decide +kernel, rfl, by decide +kernel, by decide +kernel⟩
theorem b_l_kept (T : TX K mg) : Binds K T.d_l_kept ["_law_bale", "_law_scheme", "_law_table_here", "_law_passed", "_law_other"] [] := T.F_l_kept.bindsN fun _ _ _ _ _ _ us hl => match us, hl with | [_, _, _, _, _], _ => rfl
/-- a bale by its parts -/
def BPt (K : PySem.W.Frag) (H : Hp) (x dx p a : Addr) (bs : List Addr) (b : Addr) (R : List (List Int)) (G : List Bool) : Prop := H x = some (.ins (Bc K) dx [("scheme", .ref p), ("rows", .ref a), ("goods", .ref b)]) ∧ H a = some (rL bs) ∧ Rws H bs R ∧ H b = some (bL G)
def sp_kept (K : PySem.W.Frag) : Sp := fun vs H Q _ => ∃ (bl p tq pq p2 dx ps a b pt pr : Addr) (bs pas : List Addr) (r cc c r2 cc2 c2 : Nat) (R R1 : List (List Int)) (G G1 : List Bool), vs = [.ref bl, .ref p, .ref tq, .ref pq, .ref p2] ∧
  BPt K H bl dx ps a bs b R1 G1 ∧ SchAt K H ps r cc c ∧ SchAt K H p r cc c ∧ SchAt K H p2 r2 cc2 c2 ∧ ¬ (r = r2 ∧ cc = cc2) ∧ c2 ≤ 9 ∧ 1 ≤ c ∧ c ≤ 9 ∧ R1.length ≤ 1000 ∧ R.length ≤ 1000 ∧
  TabAt H tq R G ∧ (∀ row ∈ R, row.length = c) ∧ H pq = some (.lst [.ref pt, .ref pr]) ∧ H pt = some (rL pas) ∧ Rws H pas R ∧ pas.Nodup ∧ H pr = some (bL G) ∧ 0 < R.length ∧ G.length = R.length ∧
  (∀ y ∈ a :: b :: bs, y ≠ pt ∧ y ≠ pr ∧ y ∉ pas) ∧ ∀ H' : Hp, Q (.bl true) H'
theorem not_first_list {C : Addr} : PySem.W.notFirst K C (.type "list") = true := by
  unfold PySem.W.notFirst PySem.W.subIn
  rfl
theorem not_first_int {C : Addr} : PySem.W.notFirst K C (.type "int") = true := by
  unfold PySem.W.notFirst PySem.W.subIn
  rfl
theorem rd_neTab {H : Hp} {p q : Addr} {R : List (List Int)} {G : List Bool} {Q : VK} (h1 : TabAt H p R G) (h2 : TabAt H q R G) (k : Q (.bl false) H) : rNeD K (.ref p) (.ref q) H Q := by
  obtain ⟨t, r, a1, a2, a3⟩ := h1
  obtain ⟨t', r', b1, b2, b3⟩ := h2
  have sh : SeqAt.shaped (.list [dT R, dB G]) = true := by
    have h1 := shp_T R
    have h2 := shp_B G
    unfold SeqAt.shaped at h1 h2 ⊢
    rw [Bool.and_eq_true] at h1 h2 ⊢
    obtain ⟨l1, l2⟩ := lay_rows R
    obtain ⟨l3, l4⟩ := lay_bools G
    refine ⟨by simp only [PyData.canLay0, PyData.canLayAll0, l1, l3, Bool.and_true], decide_eq_true ?_⟩
    simp only [PyData.depth, PyData.depthAll, l4]
    omega
  refine ⟨_, _, .lst (SqL.of a1) (.cons (dp_T a2) (.cons (dp_B a3) .nil)), .lst (SqL.of b1) (.cons (dp_T b2) (.cons (dp_B b3) .nil)), sh, sh, ?_⟩
  have e : PyData.eqv (.list [dT R, dB G]) (.list [dT R, dB G]) = true := by
    rw [PyData.eqv, PyData.eqvAll, PyData.eqvAll, PyData.eqvAll, eqv_dT, eqv_dB]; simp
  rw [e]
  exact k
theorem ok_l_kept (T : TX K mg) : FnOk P w K mg base CX0 7 (He.fAd K ("_law_kept", none)) T.d_l_kept ["_law_bale", "_law_scheme", "_law_table_here", "_law_passed", "_law_other"] (sp_kept K) := by
  refine T.F_l_kept.ok sc_l_kept (fun vs H Q E h => ?_) (fun cdv A outer s H vs Q E hr h => ?_)
  · obtain ⟨_, _, _, _, _, _, _, _, _, _, _, _, _, _, _, _, _, _, _, _, _, _, _, rfl, _⟩ := h
    rfl
  · obtain ⟨bl, p, tq, pq, p2, dx, ps, a, b, pt, pr, bs, pas, r, cc, c, r2, cc2, c2, R, R1, G, G1, rfl, ⟨hbl, hba, hbR, hbG⟩, hps, hp, hp2, hne, hc2, hc1, hc9, hl1, hl, hT, hrl, hpq, hpt, hpR, hpn, hpr, hpos, hgl, hap, q⟩ := h
    refine ⟨_, PSs.nox (pss_cons (ps_if (pt_cmpR (neDK K hr.units) (pv 3) (pv 2) (nomark _)) (pss_one (ps_ret pe_bl)) pss_nil)
    (pss_cons (ps_set (i := 5) sc_l_kept.nd rfl (Or.inl rfl) (pe_call (ok_l_copied T) (hr.mono (by decide)) (by rfl) T.g_l_copied T.F_l_copied.kp (b_l_copied T) .nil pass0 (pa_cons (fldK K (pv 0) rfl) pa_nil)))
    (pss_cons (ps_set (i := 6) sc_l_kept.nd rfl (Or.inl rfl) (pe_callTy (lstK K) (by rfl) T.n_list bt_list (pa_cons (fldK K (pv 0) rfl) pa_nil)))
    (pss_cons (ps_for PassesOwn.never rfl (pi_listK K (pe_ix (ixL K) (pv 3) pe_int (fun _ _ => rfl))) (pg_name (i := 7) sc_l_kept.nd rfl (Or.inl rfl)) (pss_cons (ps_asg (pe_un un_neg pe_int) (pg_sub (pv 7) pe_int set_list))
      (pss_one (ps_expr (bmK K PySem.F.plainAttrs_list PySem.F.slot_list_append PySem.F.type_list_append mt_append (pv 7) (pa_cons pe_int pa_nil))))))
    (pss_cons (ps_expr (bmK K PySem.F.plainAttrs_list PySem.F.slot_list_append PySem.F.type_list_append mt_append (pe_ix (ixL K) (pv 3) pe_int (fun _ _ => rfl)) (pa_cons (pe_lst pa_nil) pa_nil)))
    (pss_cons (ps_expr (pe_bm0 PySem.F.plainAttrs_list PySem.F.slot_list_clear PySem.F.type_list_clear mt_clear (pe_ix (ixL K) (pv 3) pe_int (fun _ _ => rfl))))
    (pss_cons (ps_if (PW.pt (pw_or (pt_cmpR (neDK K hr.units) (fldK K (pv 0) rfl) (pv 5) (nomark _)) (pw_or1 (pt_cmpR (neDK K hr.units) (fldK K (pv 0) rfl) (pv 6) (nomark _))))) (pss_one (ps_ret pe_bl)) pss_nil)
    (pss_cons (ps_if (PW.pt (pw_or (pt_not (pt_cmpR (op_eqO K (ok_s_eq T) (hr.mono (by decide)) T.eq_S T.fe_S (b_s_eq T)) (fldK K (pv 0) rfl) (pv 1) (nomark _))) (pw_or (pt_cmpR (op_eqO K (ok_b_eq T) (hr.mono (by decide)) T.eq_B T.fe_B (b_b_eq T)) (pv 0) (pv 5) (nomark _)) (pw_or1 (pt_cmpR (op_eqO K (ok_b_eq T) (hr.mono (by decide)) T.eq_B T.fe_B (b_b_eq T)) (pv 0) pe_int (nomark _)))))) (pss_one (ps_ret pe_bl)) pss_nil)
    (pss_one (ps_ret (pe_and (pe_not (pe_cmpR (op_eqO K (ok_b_eq T) (hr.mono (by decide)) T.eq_B T.fe_B (b_b_eq T)) (pv 0) (ClX.pe_cmeth (pe_glob (v := .ref (He.ga K "Bale")) rfl T.m_Bale rfl) T.rd_B T.cm_every (fnR_of (ok_b_every T) (b_b_every T)) (hr.mono (by decide)) pass0 (pa_cons (pv 4) pa_nil)) (nomark _))) (pe_one (pe_not (pe_cmpR (op_eqO K (ok_b_eq T) (hr.mono (by decide)) T.eq_B T.fe_B (b_b_eq T)) (ClX.pe_cmeth (pe_glob (v := .ref (He.ga K "Bale")) rfl T.m_Bale rfl) T.rd_B T.cm_none (fnR_of (ok_b_none T) (b_b_none T)) (hr.mono (by decide)) pass0 (pa_cons (pv 4) pa_nil)) (pv 0) (nomark _))))))))))))))), ?_⟩
    have hTp : TabAt H pq R G := ⟨pt, pr, hpq, ⟨pas, hpt, hpR⟩, hpr⟩
    have hpas := Paired.length hpR
    refine ⟨_, rfl, _, rfl, rd_neTab hTp hT ⟨_, rfl, iteF ?_⟩⟩
    refine ⟨_, rfl, bl, _, _, _, _, rfl, hbl, T.c_Bale, T.nb_rows, rfl, a, R1, rfl, ⟨bs, hba, hbR⟩, hl1, fun q1 H1 s1 N1 => ?_⟩
    refine ⟨_, rfl, bl, _, _, _, _, rfl, s1 _ _ hbl, T.c_Bale, T.nb_goods, rfl, b, _, rfl, .inl (SqL.of (s1 _ _ hbG)), fun g ng => ?_⟩
    have s2 : Same H1 (upd H1 g (bL G1)) := same_new ng
    have S2 : Same H (upd H1 g (bL G1)) := s1.trans s2
    have hg2 : upd H1 g (bL G1) g = some (bL G1) := upd_same
    have ngH : H g = none := s1.free ng
    obtain ⟨nq1, qs, hq1, hqR, hqn, hqnew⟩ := N1
    have hq2 := s2 _ _ hq1
    have hqR2 := hqR.same s2
    have nM : ∀ {y : Addr}, H y = none → y ≠ pt ∧ y ≠ pr ∧ y ∉ pas := fun {y} h => ⟨(ne_of_none hpt h).symm, (ne_of_none hpr h).symm, rws_none hpR h⟩
    have iM : ∀ {y C d : Addr} {fs : List (Str × V)}, H y = some (.ins C d fs) → y ≠ pt ∧ y ≠ pr ∧ y ∉ pas := fun {y C d fs} h => ⟨ne_of h hpt (fun z => by cases z), ne_of h hpr (fun z => by cases z), fun z => by
      obtain ⟨j, hj, ej⟩ := List.getElem_of_mem z
      obtain ⟨r', _, hr'⟩ := paired_get hpR (List.getElem?_eq_getElem hj)
      rw [ej] at hr'
      rw [show H y = some (iL r') from hr'] at h
      cases h⟩
    generalize upd H1 g (bL G1) = H2 at s2 S2 hg2 hq2 hqR2
    have nptp : pt ∉ pas := fun z => by
      obtain ⟨j, hj, ej⟩ := List.getElem_of_mem z
      obtain ⟨r', _, hr'⟩ := paired_get hpR (List.getElem?_eq_getElem hj)
      rw [ej] at hr'
      exact rL_ne z (Option.some.inj (hpt.symm.trans hr'))
    have nprp : pr ∉ pas := fun z => by
      obtain ⟨j, hj, ej⟩ := List.getElem_of_mem z
      obtain ⟨r', _, hr'⟩ := paired_get hpR (List.getElem?_eq_getElem hj)
      rw [ej] at hr'
      have e := Option.some.inj (hpr.symm.trans (show H pr = some (iL r') from hr'))
      injection e with e
      cases G with
      | nil => rw [List.length_nil] at hgl; omega
      | cons x G =>
        cases r' with
        | nil => cases e
        | cons y r' => injection e with e _; cases e
    have nptr : pt ≠ pr := fun z => by
      rw [z, hpr] at hpt
      have e := Option.some.inj hpt
      injection e with e
      cases G with
      | nil => rw [List.length_nil] at hgl; omega
      | cons x G =>
        cases pas with
        | nil => cases e
        | cons y r' => injection e with e _; cases e
    refine ⟨_, rfl, pq, _, _, _, rfl, rfl, SqL.of (S2 _ _ hpq), at2_0, pt, rfl, ⟨_, SqL.of (S2 _ _ hpt)⟩, ?_⟩
    refine for_list (xs := pas.map V.ref) (fun i σ H' => ∃ y7 : Option V, σ = [some (.ref bl), some (.ref p), some (.ref tq), some (.ref pq), some (.ref p2), some (.ref q1), some (.ref g), y7] ∧ (∀ y o, y ∉ pas → H2 y = some o → H' y = some o) ∧ ∀ j b' r', i ≤ j → pas[j]? = some b' → R[j]? = some r' → H' b' = some (iL r')) ?_ ?_ ?_ ?_
    · refine ⟨none, rfl, fun y o _ e => e, fun j b' r' _ h1 h2 => ?_⟩
      obtain ⟨r'', h3, h4⟩ := paired_get hpR h1
      rw [h2] at h3
      cases h3
      exact S2 _ _ h4
    · rintro i σ H' _ ⟨y7, rfl, k1, _⟩
      exact SqL.of (k1 _ _ nptp (S2 _ _ hpt))
    · rintro i x σ H3 hx ⟨y7, rfl, k1, k2⟩
      obtain ⟨b', hb', rfl⟩ := map_get' hx
      obtain ⟨r', hr', _⟩ := paired_get hpR hb'
      have hb3 := k2 i b' r' (Nat.le_refl _) hb' hr'
      have hrl' := hrl r' (List.mem_of_getElem? hr')
      refine ⟨_, rfl, _, rfl, b', _, _, 0, rfl, rfl, hb3, ixN_nat (j := 0) (by rw [List.length_map]; omega), ?_⟩
      refine ⟨_, rfl, .inl ⟨rfl, _, SqL.of upd_same⟩, b', _, _, rfl, rfl, upd_same, szLt (by rw [List.length_set, List.length_map]; omega), ?_⟩
      have hbm := List.mem_of_getElem? hb'
      refine ⟨_, rfl, fun y o hy e => ?_, fun j b2 r2 hj h1 h2 => ?_⟩
      · have : y ≠ b' := fun z => hy (z ▸ hbm)
        exact upd_at this (upd_at this (k1 y o hy e))
      · have : b2 ≠ b' := fun z => by
          subst z
          have e1 := List.getElem?_eq_some_iff.mp h1
          have e2 := List.getElem?_eq_some_iff.mp hb'
          have := (List.getElem_inj hpn).mp (e1.2.trans e2.2.symm)
          omega
        exact upd_at this (upd_at this (k2 j b2 r2 (by omega) h1 h2))
    rintro σ H3 ⟨y7, rfl, k1, _⟩
    have npqp : pq ∉ pas := fun z => by
      obtain ⟨j, hj, ej⟩ := List.getElem_of_mem z
      obtain ⟨r', _, hr'⟩ := paired_get hpR (List.getElem?_eq_getElem hj)
      rw [ej] at hr'
      have e := Option.some.inj (hpq.symm.trans (show H pq = some (iL r') from hr'))
      injection e with e
      cases r' with
      | nil => cases e
      | cons y r' => injection e with e _; cases e
    have npqt : pq ≠ pt := ne_of hpq hpt (fun z => by
      injection z with e
      cases pas with
      | nil => cases e
      | cons x pas =>
        injection e with e _
        injection e with e
        exact nptp (e ▸ List.mem_cons_self))
    have npqr : pq ≠ pr := ne_of hpq hpr (fun z => by
      injection z with e
      cases G with
      | nil => cases e
      | cons x pas => injection e with e _; cases e)
    have hpq3 := k1 _ _ npqp (S2 _ _ hpq)
    have hpt3 := k1 _ _ nptp (S2 _ _ hpt)
    have hpr3 := k1 _ _ nprp (S2 _ _ hpr)
    refine ⟨_, rfl, pq, _, _, _, rfl, rfl, SqL.of hpq3, at2_0, .inl ⟨rfl, _, SqL.of hpt3⟩, (by show 0 ≤ sizeLine; decide), fun l nl => ?_⟩
    have s4 : Same H3 (upd H3 l (.lst [])) := same_new nl
    refine ⟨pt, _, _, rfl, rfl, s4 _ _ hpt3, szLt (by rw [List.length_map]; omega), ?_⟩
    have hpq5 : upd (upd H3 l (.lst [])) pt (.lst (pas.map V.ref ++ [.ref l])) pq = some (.lst [.ref pt, .ref pr]) := upd_at npqt (s4 _ _ hpq3)
    have hpr5 : upd (upd H3 l (.lst [])) pt (.lst (pas.map V.ref ++ [.ref l])) pr = some (bL G) := upd_at (Ne.symm nptr) (s4 _ _ hpr3)
    refine ⟨_, rfl, pq, _, _, _, rfl, rfl, SqL.of hpq5, at2_1, .inl ⟨rfl, _, SqL.of hpr5⟩, pr, _, rfl, rfl, hpr5, ?_⟩
    have K7 : ∀ y o, (y ≠ pt ∧ y ≠ pr ∧ y ∉ pas) → H2 y = some o → upd (upd (upd H3 l (.lst [])) pt (.lst (pas.map V.ref ++ [.ref l]))) pr (.lst []) y = some o := fun y o hy e => upd_at hy.2.1 (upd_at hy.1 (s4 _ _ (k1 y o hy.2.2 e)))
    generalize upd (upd (upd H3 l (.lst [])) pt (.lst (pas.map V.ref ++ [.ref l]))) pr (.lst []) = H7 at K7
    have hbl7 := K7 _ _ (iM hbl) (S2 _ _ hbl)
    have hT7 : Tb H7 a R1 := ⟨bs, K7 _ _ (hap a (by simp)) (S2 _ _ hba), paired_mem hbR fun u v hu e => K7 _ _ (hap u (by simp [hu])) (S2 _ _ e)⟩
    have hG7 : H7 b = some (bL G1) := K7 _ _ (hap b (by simp)) (S2 _ _ hbG)
    have hq7 : H7 q1 = some (rL qs) := K7 _ _ (nM nq1) hq2
    have hQ7 : Tb H7 q1 R1 := ⟨qs, hq7, paired_mem hqR2 fun u v hu e => K7 _ _ (nM (hqnew u hu).1) e⟩
    have hg7 : H7 g = some (bL G1) := K7 _ _ (nM ngH) hg2
    have hs7 : ∀ {u : Addr} {m n k : Nat}, SchAt K H u m n k → SchAt K H7 u m n k := fun {u m n k} h => by
      obtain ⟨d, e⟩ := h
      exact ⟨d, K7 _ _ (iM e) (S2 _ _ e)⟩
    have hB7 : BAt K H7 bl r cc c R1 G1 := ⟨dx, ps, a, b, hbl7, hs7 hps, hT7, hG7⟩
    refine ⟨_, rfl, bl, _, _, _, _, rfl, hbl7, T.c_Bale, T.nb_rows, rfl, _, rfl, rd_neT hT7 hQ7 ⟨_, rfl, ?_⟩⟩
    rw [decide_eq_true rfl]
    refine iteF ?_
    refine ⟨_, rfl, bl, _, _, _, _, rfl, hbl7, T.c_Bale, T.nb_goods, rfl, _, rfl, rd_neB hG7 hg7 ⟨_, rfl, ?_⟩⟩
    rw [decide_eq_true rfl]
    refine iteF ?_
    obtain ⟨dps, hps7⟩ := hs7 hps
    obtain ⟨dp, hp7⟩ := hs7 hp
    refine ⟨_, rfl, bl, _, _, _, _, rfl, hbl7, T.c_Bale, T.nb_scheme, rfl, _, rfl, ps, dps, _, _, rfl, hps7, .base (.ins hp7 T.c_Scheme T.o_S T.o_get T.o_tk T.om_S), (by unfold PySem.W.notFirst; simp), ps, p, r, cc, c, r, cc, c, rfl, ⟨dps, hps7⟩, ⟨dp, hp7⟩, ⟨_, rfl⟩, _, rfl, ?_⟩
    rw [decide_eq_true ⟨rfl, rfl⟩]
    refine iteF ?_
    refine ⟨_, rfl, _, rfl, bl, dx, _, _, rfl, hbl7, .base (.lst hq7), not_first_list, bl, _, r, cc, c, R1, G1, rfl, hB7, .inr ⟨.inl ⟨_, _, rfl, hq7⟩, ⟨_, rfl⟩, _, rfl, iteF ?_⟩⟩
    refine ⟨_, rfl, bl, dx, _, _, rfl, hbl7, .base (.int 0), not_first_int, bl, _, r, cc, c, R1, G1, rfl, hB7, .inr ⟨.inr ⟨_, rfl⟩, ⟨_, rfl⟩, _, rfl, iteF ?_⟩⟩
    have hne2 : decide (r = r2 ∧ cc = cc2 ∧ True) = false := decide_eq_false (fun z => hne ⟨z.1, z.2.1⟩)
    refine ⟨_, rfl, rfl, _, rfl, _, p2, r2, cc2, c2, rfl, hs7 hp2, hc2, fun x8 H8 R8 G8 s8 hB8 => ?_⟩
    have hbl8 := s8 _ _ hbl7
    obtain ⟨dx8, _, _, _, hx8, _⟩ := id hB8
    refine ⟨bl, dx, _, _, rfl, hbl8, .base (.ins hx8 T.c_Bale T.o_B T.o_get T.o_tk T.om_B), (by unfold PySem.W.notFirst; simp), bl, _, r, cc, c, R1, G1, rfl, hB7.same s8, .inl ⟨x8, r2, cc2, c2, R8, G8, rfl, hB8, ⟨_, rfl⟩, _, rfl, _, rfl, ?_⟩⟩
    rw [decide_eq_false (fun z => hne ⟨z.1, z.2.1⟩)]
    refine iteT ?_
    refine ⟨rfl, _, rfl, _, p2, r2, cc2, c2, rfl, (hs7 hp2).same s8, hc2, fun x9 H9 R9 G9 s9 hB9 => ?_⟩
    obtain ⟨dx9, _, _, _, hx9, _⟩ := id hB9
    refine ⟨_, rfl, x9, dx9, _, _, rfl, hx9, .base (.ins (s9 _ _ hbl8) T.c_Bale T.o_B T.o_get T.o_tk T.om_B), (by unfold PySem.W.notFirst; simp), x9, _, r2, cc2, c2, R9, G9, rfl, hB9, .inl ⟨bl, r, cc, c, R1, G1, rfl, (hB7.same s8).same s9, ⟨_, rfl⟩, _, rfl, ?_⟩⟩
    rw [decide_eq_false (fun z => hne ⟨z.1.symm, z.2.1.symm⟩)]
    exact q H9
end
end Gal
end
section
set_option Elab.async false
set_option linter.all false
set_option maxRecDepth 100000
set_option maxHeartbeats 4000000
/-! BadTable: made by its own __init__, which calls the one above -/
namespace Gal
abbrev s_bt_init : PySem.Stmt := L2.inClass (topS 10) 0
end Gal
namespace PySem
namespace BtX
open PySem.W PySem.Calls PyProof.Rows PySem.HandSPX
abbrev btC (K : Frag) : Addr := He.ga K "BadTable"
abbrev btI (K : Frag) : Addr := He.fAd K ("BadTable", some "__init__")
/-- what the written part says of BadTable and of its __init__ -/
structure BTx (P : Program) (K : Frag) (mg : Str → Option Value) : Prop where
  gC : mg "BadTable" = some (.ref (btC K))
  gS : mg "super" = none
  cls : ∃ nm q N bs bm sn sub ab col dd k0 k1 k2 k3 k5, K.lookup (btC K) = some (excClassObj nm q (btC K) N bs bm true sn sub ab col dd k0 k1 k2 k3 k5 "ValueError.__new__") ∧ refsVE bm = true
  sa : findIn K (.ref (btC K)) "__setattr__" = some (some (.builtin "object.__setattr__"))
  ga : findIn K (.ref (btC K)) "__getattribute__" = some (some (.builtin "BaseException.__getattribute__"))
  gg : findIn K (.ref (btC K)) "__getattr__" = some none
  noN : findIn K (.ref (btC K)) "place" = some none
  iC : findIn K (.ref (btC K)) "__init__" = some (some (.ref (btI K)))
  tC : typeIn K (.ref (btI K)) = some (.type "function")
  kC : keepIn K (.ref (btC K)) = true
  exC : subIn K (.ref (btC K)) (.type "BaseException") = some true
  tyC : typeIn K (.ref (btC K)) = some (.type "type")
  hdC : hasDictIn K (btC K) = true
  te : exmOne K (.ref (btC K)) (.ref (He.ga K "GalloonError")) = some true
  any : nsIn K cStatics "thirdparty.any" = some none
  sup : ks_superIn K (btC K) (btC K) "__init__" = some (some (.builtin "ValueError.__init__"))
  self : mroIn K (btC K) (.ref (btC K)) = some true
  ve : subIn K (.ref (btC K)) (.type "ValueError") = some true
  fn : ∃ (oc : Value) (od : Option Addr) (doc pm : Value) (an : Option Addr) (ct : Value) (osl : Array (Option Value)) (cc cda : Addr) (cl : Value) (cld : Option Addr) (csl : Array (Option Value)) (ccl : Value) (cdd : Option Addr) (vs : Array Value) (ccs : Array (Option Value)) (file : Str) (tf : Tok),
    K.lookup (btI K) = some ⟨oc, od, .func (ksFn "__init__" "BadTable.__init__" (L2.defArgs Gal.s_bt_init) (L2.defBody Gal.s_bt_init) (L2.defScope Gal.s_bt_init) .none .none doc pm an (.ref cda) ct cc), osl⟩ ∧ codeIn K (.ref cda) "BadTable.__init__" = true ∧
    K.lookup cc = some ⟨cl, cld, .cell (some (.ref (btC K))), csl⟩ ∧ K.lookup cda = some ⟨ccl, cdd, .fields vs, ccs⟩ ∧ vs[2]? = some (.str file tf) ∧ ((P.main.file : Str) == file) = true
  top : (P.main.scope.names.lookup ("super" : Str)).isSome = false
theorem one_size (v : Value) : [v].length ≤ sizeLine := by
  rw [sizeLine_eq]
  exact (by decide : 1 ≤ 16777216)
theorem kept_but {K : Frag} {h h' : Heap} {x : Addr} (X : K.In h) (hx : K.lookup x = none) (k : ∀ b o, b ≠ x → h.get? b = some o → h'.get? b = some o) : K.In h' := fun a o e =>
  k a o (fun z => by rw [z, hx] at e; cases e) (X a o e)
/-- what __init__ leaves of a fresh exception at x -/
structure InitEnd (h h' : Heap) (x C dx t1 : Addr) (v : Value) : Prop where
  keep : ∀ b o, b ≠ x → h.get? b = some o → h'.get? b = some o
  obj : h'.get? x = some { cls := .ref C, dict := some dx, data := .fields #[.ref t1, .none, .none, .none, .bool false, .none] }
  dbig : h.objs.size ≤ dx
  dne : dx ≠ x
  ns : h'.Ns1 dx (fun y => if y = "place" then some v else none)
/-- a made one -/
structure OwnMade (h h' : Heap) (e C d : Addr) (v : Value) : Prop where
  keep : ∀ b o, h.get? b = some o → h'.get? b = some o
  new : h.objs.size ≤ e
  obj : ∃ oe vs, h'.get? e = some oe ∧ oe.cls = .ref C ∧ oe.dict = some d ∧ oe.data = .fields vs ∧ vs[1]? = some .none
  dbig : h.objs.size ≤ d
  dne : d ≠ e
  ns : h'.Ns1 d (fun y => if y = "place" then some v else none)
section
variable {prog : Program} {w : World} {A : Around} {E : Value → Shared → Prop} {h : Heap} {g : Array GenState} {d : Drawn} {t : Nat} {os : OsState}
variable {nm q : Str} {C N : Addr} {bs bm : List Value} {hdct : Bool} {sn : List Str} {sub : List Value} {ab : Bool} {col : Option Bool} {dd : Option Addr} {k0 k1 k2 k3 k5 : Option Value}
/-- the built-in __init__, bound, called -/
theorem call_mw {u e t0 : Addr} {rest : List Value} {Q : Value → Shared → Prop}
    (hC : h.get? C = some (excClassObj nm q C N bs bm hdct sn sub ab col dd k0 k1 k2 k3 k5 "ValueError.__new__")) (he : h.get? e = some (HandSPX.excO C t0)) (hu : h.get? u = some (kxs_mw "ValueError.__init__" e)) (hrest : rest.length ≤ sizeLine)
    (hq : ∀ h' t1, (∀ b o, b ≠ e → h.get? b = some o → h'.get? b = some o) → h'.get? e = some (HandSPX.excO C t1) → Q .none ⟨h', g, d, t, os⟩) :
    wpAny (model prog w) A (call (.ref u) rest) Q E ⟨h, g, d, t, os⟩ := by
  refine wpAny_call (codeAny_of_tree ?_)
  show wpAny _ A.in1 (callAny (.ref u) ⟨rest, []⟩) _ _ _
  simp only [callAny]
  refine wpAny_bind (wpAny_load hu ?_)
  simp only [kxs_mw, show (Value.type "method-wrapper" == Value.type "method" || Value.type "method-wrapper" == Value.type "builtin_function_or_method" || Value.type "method-wrapper" == Value.type "method-wrapper") = true by decide, if_true]
  refine W.KFB.if_so (by decide) ?_
  refine wpAny_bind (ESX.check_bound F.excBase_ValueError hC he rfl ?_)
  refine wpAny_bind (wpAny_pure (wpAny_pure ?_))
  refine ⟨Code.quiet_builtin _ (by decide +kernel), codeAny_builtin F.excBase_ValueError.initEntry ?_⟩
  rw [Around.under_plainId F.excBase_ValueError.init.plain _]
  wp_walk
  refine hq _ h.objs.size (fun b o hb ho => ?_) ?_
  · rw [Heap.get?_update_other _ _ (Ne.symm hb)]
    exact Heap.get?_push_of_some _ ho
  · rw [Heap.get?_update_self _ (Heap.get?_push_of_some _ he) rfl]
    rfl
end
end BtX
end PySem
end
section
set_option Elab.async false
set_option linter.all false
set_option maxRecDepth 100000
set_option maxHeartbeats 4000000
namespace PySem
namespace BtX
open PySem.W PySem.Calls PyProof.Rows PySem.HandSPX
section
variable {prog : Program} {w : World} {A : Around} {R : Result → Shared → Prop} {s : Shared} {K : Frag} {mg : Str → Option Value}
theorem bt_init (T : BTx prog K mg) {x t0 : Addr} {v : Value} (X : K.In s.heap) (hlim : s.heap.NoLimit) (G : s.heap.Ns mainGlobals mg) (B : ∃ mb, s.heap.Ns builtinsNs mb ∧ ∀ x : Str, x ≠ "__name__" → mb x = bootBuiltins x)
    (hx : s.heap.get? x = some (excO (btC K) t0)) (hnx : K.lookup x = none) (hroom : A.depth < recursionLimit)
    (hq : ∀ h' tk dx t1, InitEnd s.heap h' x (btC K) dx t1 v → R (.ok (.ret .none)) { s with heap := h', toks := tk }) :
    codeAny (model prog w) A (.call (.ref (btI K)) ⟨[.ref x, v], []⟩) R s := by
  obtain ⟨oc, od, doc, pm, an, ct, osl, cc, cda, cl, cld, csl, ccl, cdd, vs, ccs, file, tf, ho, hcd, hcell, hcode, hvs, hfile⟩ := T.fn
  obtain ⟨nm, q, N, bs, bm, sn, sub, ab, col, dd, k0, k1, k2, k3, k5, hC, hbm⟩ := T.cls
  obtain ⟨mb, hB, hmb⟩ := B
  have hcl : clsIn K (btC K) = some { name := nm, bases := bs, mro := .ref (btC K) :: bm, ns := N, qualname := q, hasDict := true, slotNames := sn, subclasses := sub, abstract := ab, collection := col, hasDel := false } := by unfold clsIn; rw [hC] <;> rfl
  refine ks_codeAny_call_defAt (fd := ksFn "__init__" "BadTable.__init__" (L2.defArgs Gal.s_bt_init) (L2.defBody Gal.s_bt_init) (L2.defScope Gal.s_bt_init) .none .none doc pm an (.ref cda) ct cc) (body := L2.defBody Gal.s_bt_init) (binds := [("self", .ref x), ("place", v)]) hroom (X _ _ ho) rfl hlim (codeRec_of X hcd) rfl (BindsTo.of_eq (by first | rfl | with_unfolding_all rfl)) (by show ∀ x ∈ (L2.defScope Gal.s_bt_init).names, x.2 ≠ .cell; decide +kernel) (by intro y hy; simp only [List.mem_cons, List.not_mem_nil, or_false] at hy; rcases hy with rfl | rfl; exact (by decide +kernel : List.lookup ("self" : Str) (L2.defScope Gal.s_bt_init).names = some .local); exact (by decide +kernel : List.lookup ("place" : Str) (L2.defScope Gal.s_bt_init).names = some .local)) (fun h₁ hns hk => ?_) (by with_unfolding_all rfl) (by with_unfolding_all rfl) (by with_unfolding_all rfl)
  have X₁ : K.In h₁ := X.keeps hk
  have hxL : s.heap.objs.size ≠ x := Nat.ne_of_gt (Heap.lt_size hx)
  have hx₁ := hk _ _ hx
  obtain ⟨oD, hD1, hD2⟩ : ∃ oD, h₁.get? (btC K) = some oD ∧ oD.data = .cls { name := nm, bases := bs, mro := .ref (btC K) :: bm, ns := N, qualname := q, hasDict := true, slotNames := sn, subclasses := sub, abstract := ab, collection := col, hasDel := false } := ⟨_, X₁ _ _ hC, rfl⟩
  refine ks_wpAt_execs_cons (ks_wpAt_Expr_any (ks_wpAt_MethodCall (pl := ?pl) ?_ ?he) ?hi ?hs)
  case he => first | rfl | with_unfolding_all rfl
  case hi => first | rfl | with_unfolding_all rfl
  case hs => first | rfl | with_unfolding_all rfl
  refine ks_wpAt_super_base (by first | rfl | with_unfolding_all rfl) (by first | rfl | with_unfolding_all rfl) rfl rfl (X₁ _ _ ho) rfl (by first | rfl | with_unfolding_all rfl) rfl (X₁ _ _ hcode) rfl hvs hfile T.top ?_
  refine ks_loadName_global rfl (by first | rfl | with_unfolding_all rfl) (loadGlobal_builtin (G.keeps hk) T.gS (hB.keeps hk) ((hmb "super" (by decide)).trans (by decide +kernel)) ⟨rfl, ?_⟩)
  refine wpAny_loadName_free rfl (by first | rfl | with_unfolding_all rfl) rfl ⟨_, X₁ _ _ hcell, rfl⟩ ?_
  refine wpAny_loadName_local rfl (by first | rfl | with_unfolding_all rfl) hns (v := .ref x) (by first | rfl | with_unfolding_all rfl | kernel_rfl) ?_
  refine ks_wpAny_isType_cls hD1 hD2 ⟨rfl, ?_⟩
  refine ks_wpAny_call_super hD1 hD2 hx₁ rfl (fun c e => by cases e) (looks_mroIn X₁ T.self) (fun h₂ e k => ?_)
  have X₂ : K.In h₂ := X₁.keeps k
  have hx₂ := k _ _ hx₁
  have I₂ : InstAt h₂ x (excO (btC K) t0) (btC K) none := ⟨hx₂, rfl, rfl, trivial⟩
  have hsup := T.sup
  unfold ks_superIn at hsup
  rw [hcl] at hsup
  refine kxs_getMethod kxs_ValueError e (looks_opaque X₂ T.any) (l₀ := .ref (btC K) :: bm) (fun A Q E s k q => wpAny_bind ((looks_clsIn X₂ hcl) A _ E s k (wpAny_pure q))) rfl X₂ hsup (I₂.type.andThen (looks_subIn X₂ T.ve)) (ks_ne X₂ I₂ hcl) rfl ?_
  refine kxs_callWith (i := "ValueError.__init__") (x := x) (by first | rfl | with_unfolding_all rfl) (evalArgs_plain (args_cons (Calls.Constant_str (args_nil ?_)) (by first | rfl | with_unfolding_all rfl)))
  refine ⟨Heap.get?_push_at rfl rfl, ?_⟩
  have k3 : ∀ b o, h₂.get? b = some o → (h₂.push (kxs_mw "ValueError.__init__" x)).get? b = some o := fun b o e => Heap.get?_push_of_some _ e
  refine call_mw (k3 _ _ (X₂ _ _ hC)) (k3 _ _ hx₂) (Heap.get?_push_at rfl rfl) (one_size _) (fun h₄ t1 k4 hx₄ => ?_)
  refine wpAt_of_wpAny ?_
  have old : ∀ b o, b ≠ x → s.heap.get? b = some o → h₄.get? b = some o := fun b o hb e => k4 b o hb (k3 _ _ (k _ _ (hk _ _ e)))
  have X₄ : K.In h₄ := kept_but (X₂.keeps k3) hnx k4
  have hns₄ := hns.at (h' := h₄) (fun o e => k4 _ o hxL (k3 _ _ (k _ _ e)))
  show wpAny _ _ (execs _ _) _ _ _
  refine wpAny_execs_cons (plainObj_wpAny_Assign_Attribute ?_ ?hs2)
  case hs2 => first | rfl | with_unfolding_all rfl
  refine ESX.ldL (v := v) hns₄ (by first | rfl | with_unfolding_all rfl | kernel_rfl) (ESX.ldL (v := .ref x) hns₄ (by first | rfl | with_unfolding_all rfl | kernel_rfl) ?_ (by with_unfolding_all rfl) (by first | rfl | with_unfolding_all rfl)) (by with_unfolding_all rfl) (by first | rfl | with_unfolding_all rfl)
  refine set_plain X₄ (ox := excO (btC K) t1) (od := none) ⟨hx₄, rfl, rfl, trivial⟩ T.sa ?_
  refine exc_osa X₄ hx₄ hcl (show refsVE (.ref (btC K) :: bm) = true from hbm) rfl T.noN (fun h₅ tk₅ dx k₅ dn dne hx₅ hn₅ => ?_)
  show wpAny _ _ (execs _ _) _ _ _
  have z : s.heap.objs.size < h₄.objs.size := hns₄.lt
  exact wpAny_execs_nil (hq h₅ tk₅ dx t1 ⟨fun b o hb e => k₅ b o hb (old b o hb e), hx₅, Nat.le_of_lt (Nat.lt_of_lt_of_le z dn), dne, hn₅⟩)
theorem bt_made (T : BTx prog K mg) {v : Value} (X : K.In s.heap) (hlim : s.heap.NoLimit) (G : s.heap.Ns mainGlobals mg) (B : ∃ mb, s.heap.Ns builtinsNs mb ∧ ∀ x : Str, x ≠ "__name__" → mb x = bootBuiltins x) (hroom : A.depth + 1 < recursionLimit)
    (hq : ∀ h' tk e d, OwnMade s.heap h' e (btC K) d v → R (.ok (.ret (.ref e))) { s with heap := h', toks := tk }) :
    codeAny (model prog w) A (.call (.ref (btC K)) ⟨[v], []⟩) R s := by
  obtain ⟨nm, q, N, bs, bm, sn, sub, ab, col, dd, k0, k1, k2, k3, k5, hC, hbm⟩ := T.cls
  obtain ⟨hp, g, dr, tk, os⟩ := s
  have k : ∀ b o, hp.get? b = some o → ((hp.push (kdv_tup [v])).push (excO (btC K) hp.objs.size)).get? b = some o := fun b o e => Heap.get?_push_of_some _ (Heap.get?_push_of_some _ e)
  have hget : ((hp.push (kdv_tup [v])).push (excO (btC K) hp.objs.size)).get? (hp.objs.size + 1) = some (excO (btC K) hp.objs.size) := by heap_get
  have hnx : K.lookup (hp.objs.size + 1) = none := by
    cases e : K.lookup (hp.objs.size + 1) with
    | none => rfl
    | some o =>
      have z : hp.get? (hp.objs.size + 1) = some o := X _ _ e
      exact absurd (Nat.lt_of_succ_lt (Heap.lt_size z)) (Nat.lt_irrefl _)
  obtain ⟨mb, hB, hmb⟩ := B
  refine call_own F.excBase_ValueError (fun X => refsVE_contains X bm hbm) (X _ _ hC) (looks_findIn X T.iC) (fun self => bind_fn X self T.tC) (one_size v) ?_
  refine bt_init (s := ⟨(hp.push (kdv_tup [v])).push (excO (btC K) hp.objs.size), g, dr, tk, os⟩) T (X.keeps k) (hlim.keeps k) (G.keeps k) ⟨mb, hB.keeps k, hmb⟩ hget hnx ?_ fun h' tk' dx t1 ⟨k', hx, dn, dne, hns⟩ => ?_
  · show A.depth + 1 < recursionLimit
    exact hroom
  · have old : ∀ b o, hp.get? b = some o → h'.get? b = some o := fun b o e => k' b o (Nat.ne_of_lt (Nat.lt_succ_of_lt (Heap.lt_size e))) (k b o e)
    have z : hp.objs.size + 1 + 1 ≤ dx := by
      first
        | (simpa only [Heap.size_push] using dn)
        | exact dn
        | (have q := dn; rw [Heap.size_push, Heap.size_push] at q; exact q)
    exact ⟨rfl, hq h' tk' (hp.objs.size + 1) dx ⟨old, Nat.le_succ _, ⟨_, _, hx, rfl, rfl, rfl, rfl⟩, Nat.le_trans (Nat.le_trans (Nat.le_succ _) (Nat.le_succ _)) z, dne, hns⟩⟩
end
end BtX
end PySem
end
section
set_option Elab.async false
set_option linter.all false
set_option maxRecDepth 100000
set_option maxHeartbeats 4000000
/-! an exception with a dict of its own: isinstance; BadTable raised -/
namespace PySem.BtX
open PySem PySem.W PySem.Spec PySem.Calls PyProof.Rows
/-- what a class must say for isinstance of its exceptions -/
structure IsE (K : Frag) (D : Addr) : Prop where
  ga : findIn K (.ref D) "__getattribute__" = some (some (.builtin "BaseException.__getattribute__"))
  gg : findIn K (.ref D) "__getattr__" = some none
  ex : subIn K (.ref D) (.type "BaseException") = some true
  hd : hasDictIn K D = true
  cl : findIn K (.ref D) "__class__" = some (some (.builtin "object.__class__"))
  gt : specialIn K (.builtin "object.__class__") "__get__" = some (some (.builtin "getset_descriptor.__get__"))
  tk : takesIn K (.builtin "object.__class__") = some true
  mo : mroIn K D (.type "object") = some true
section
variable {prog : Program} {w : World} {A : Around} {E : Value → Shared → Prop} {s : Shared} {K : Frag} {x D : Addr} {ox od : Obj}
theorem cls_isSome (F : IsE K D) : (clsIn K D).isSome = true := by
  obtain ⟨cd, hc, _⟩ := any_some F.hd
  rw [hc]; rfl
theorem class_of {Q : Option Value → Shared → Prop} (F : IsE K D) (X : K.In s.heap) (I : W.InstAt s.heap x ox D (some od)) (h : Q (some (.ref D)) { s with toks := s.toks + 1 }) :
    wpAny (model prog w) A (getAttr? (.ref x) "__class__") Q E s := by
  have hf : findObj K D (some od) "__class__" = some (.bind (.builtin "getset_descriptor.__get__") (.builtin "object.__class__")) := findObj_data (cls_isSome F) F.cl F.gt F.tk
  obtain ⟨hp, g, dr, t, os⟩ := s
  have ty := I.type (M := model prog w)
  have lga := looks_findIn (M := model prog w) X F.ga
  have lgg := looks_findIn (M := model prog w) X F.gg
  have lf := looks_find (M := model prog w) X I hf
  have isE : Looks (model prog w) hp (isInstance (.ref x) (.type "BaseException")) true := ty.andThen (looks_subIn X F.ex)
  have noHeap : (false && onTheHeap (Value.builtin "BaseException.__getattribute__")) = false := rfl
  have own : (Value.builtin "BaseException.__getattribute__" == Value.builtin "object.__getattribute__") = false := by decide +kernel
  have own2 : (onTheHeap (Value.ref D) && Value.builtin "BaseException.__getattribute__" == Value.builtin "object.__getattribute__") = false := by rw [own]; rfl
  unfold getAttr? getAttrBy? getAttrBy
  refine wpAny_bind (wpAny_mkText (wpAny_bind (wpAny_attempt (wpAny_holding (wpAny_bind (ty.at (wpAny_bind (lga.at ?_))))))))
  show wpAny _ _ (if (onTheHeap (Value.ref D) && Value.builtin "BaseException.__getattribute__" == Value.builtin "object.__getattribute__") = true then _ else _) _ _ _
  rw [own2, if_neg Bool.false_ne_true]
  unfold getAttrByItsOwn hookBefore
  refine wpAny_bind ?_
  rw [if_pos (show onTheHeap (Value.ref D) = true from rfl)]
  refine lgg.at (wpAny_bind (wpAny_attempt (wpAny_holding ?_)))
  unfold callGetattribute
  rw [noHeap, if_neg Bool.false_ne_true]
  unfold boundAndCalled
  rw [PySem.F.excAttr_ValueError.ga.bind (.ref x)]
  refine wpAny_bind (wpAny_pure ?_)
  show wpAny _ _ (call (.builtin "BaseException.__getattribute__") [.ref x, .str "__class__" t]) _ _ _
  refine wpAny_call (codeAny_call_builtin PySem.F.excAttr_ValueError.ga.plain PySem.F.entry_bexc_ga ?_)
  refine @check_slot (model prog w) _ _ ⟨hp, g, dr, t + 1, os⟩ "BaseException.__getattribute__" "BaseException" "__getattribute__" (.ref x) [.str "__class__" t] [] _ (by decide +kernel) (by decide +kernel) isE (PySem.F.args_bexc_ga (.ref x) (.str "__class__" t)) ?_
  unfold Builtin.«object.__getattribute__»
  refine wpAny_bind (wpAny_of_eq (a := ((Value.ref x : Value), [Value.str "__class__" t])) (by first | rfl | (simp only [slotArgs]; rfl)) ?_)
  refine wpAny_bind (wpAny_pure (wpAny_bind (ty.at (wpAny_bind (lf.at ?_)))))
  show wpAny _ _ (holding [Value.builtin "object.__class__"] (call (.builtin "getset_descriptor.__get__") [.builtin "object.__class__", .ref x, .ref D]) >>= ret) _ _ _
  refine wpAny_bind (wpAny_holding (wpAny_call (class_get (s := ⟨hp, g, dr, t + 1, os⟩) (ox := ox) (od := some od) X I F.mo (wpAny_pure ?_))))
  show wpAny _ _ (handedOut (.ref D)) _ _ _
  rw [handedOut_of (v := .ref D) rfl]
  first
    | exact wpAny_pure (wpAny_pure h)
    | exact wpAny_pure h
    | exact wpAny_pure (wpAny_bind (wpAny_pure (wpAny_pure h)))
theorem kit_exc (F : IsE K D) : KitX K (.ref x) (.ref D) (fun h => W.InstAt h x ox D (some od)) where
  ty := fun _ _ _ I => I.type
  it := fun _ _ X _ => by
    have hc := cls_isSome F
    unfold clsIn at hc
    split at hc
    · rename_i c' d' cd' sl' ho
      intro A' Q' E' s' k q
      unfold isType loadHead
      exact wpAny_bind (wpAny_loadPart (k _ _ (X _ _ ho)) (wpAny_pure q))
    · cases hc
  ne := fun h tp dd its n sl X htp => by
    have hc := cls_isSome F
    refine Bool.eq_false_iff.mpr fun q => ?_
    have e : D = tp := Value.ref.inj (beq_iff_eq.mp q)
    subst e
    unfold clsIn at hc
    split at hc
    · rename_i c' d' cd' sl' ho
      have z := (X _ _ ho).symm.trans htp
      cases z
    · cases hc
  ca := fun X I k => class_of F X I k
end
end PySem.BtX
namespace L2
open PySem PySem.Spec PyProof.Rows
section
variable {X : Cx}
/-- isinstance(e, c), e the exception that the suite holds, with its dict d -/
def rIsD (K : PySem.W.Frag) (D a : Addr) (cls : Value) (d : Option Addr) : List V → Hp → VK → Prop := fun xs H Q => ∃ (c : V) (cv : Value) (b : Bool) (dd : Addr) (fs : List (Str × V)), cls = .ref D ∧ d = some dd ∧ H dd = some (.xd fs) ∧ xs = [.ref a, c] ∧ (∀ u, RelV c u → u = cv) ∧ PySem.W.kitOne K (.ref D) cv = some b ∧ Q (.bl b) H
theorem call_isD {a D : Addr} {cls : Value} {d : Option Addr} {oe : Obj} {pn : List (Addr × Obj)} (F : PySem.BtX.IsE X.K D) (hz : Zc cls d oe) (hf : ∃ vs, oe.data = .fields vs) : CallR (X.suite a ((a, oe) :: pn)) (.builtin "isinstance") (rIsD X.K D a cls d) := by
  intro pins s σ H xs us Q I r h
  obtain ⟨c, cv, b, dd, fs, rfl, rfl, hfs, rfl, hcv, e, q⟩ := h
  obtain ⟨u1, u2, rfl, r1, r2⟩ := vals2 r
  cases (show u1 = Value.ref a from r1)
  cases hcv _ r2
  obtain ⟨hget, _⟩ := I.pin (a, oe) (List.mem_append_left _ List.mem_cons_self)
  obtain ⟨vs, hv⟩ := hf
  obtain ⟨mA, hns, hr⟩ := (show ObjOk X.prog X.w H s.heap dd (.xd fs) from I.hok dd _ hfs)
  obtain ⟨od, ho, hl⟩ := lookIn_ns hns
  have J : PySem.W.InstAt s.heap a oe D (some od) := ⟨hget, hz.1, by unfold PySem.W.notCls; rw [hv] <;> rfl, by rw [hz.2]; exact ho⟩
  exact PySem.W.kia_one (PySem.BtX.kit_exc F) I.kIn J e (fun z => nomatch z) fun tk => ⟨.bl b, H, I.tok tk, rfl, q⟩
/-- BadTable(e) -/
def tMkBt (C : Addr) (ta : TA) : St → Hp → XK → Prop := fun σ H Q => ta σ H fun vs H1 => ∃ v, vs = [v] ∧ ∀ d, H1 d = none → Q (.ref C) (some d) (upd H1 d (.xd [(("place" : Str), v)]))
theorem relO_place {v : V} {v' : Value} (r : RelV v v') (f : Str) : RelO (List.lookup f [(("place" : Str), v)]) (if f = "place" then some v' else none) := by
  by_cases hw : f = "place"
  · subst hw
    rw [if_pos rfl, show List.lookup ("place" : Str) [(("place" : Str), v)] = some v by simp [List.lookup]]
    exact r
  · have qw : (f == ("place" : Str)) = false := by simpa using hw
    rw [if_neg hw, show List.lookup f [(("place" : Str), v)] = none by simp [List.lookup, qw]]
    trivial
theorem pmk_bt {a : Expr} {ta : TA} {p pos : Pos} {k : Nat} (T : PySem.BtX.BTx X.prog X.K X.mg) (hr : Room k X.A) (hk : 1 ≤ k) (ha : PA X [a] ta) (hg : Gl X "BadTable" := by rfl)
    (he : starEach (a :: []) X.env = (false, eval a X.env) :: starEach [] X.env := by rfl) (hpl : (backTo pos (starEach [] X.env)).any (·.1) = false := by rfl) :
    PMk X (.Call (.Name "BadTable" p) [a] [] pos) (tMkBt (PySem.BtX.btC X.K) ta) := by
  intro pins s σ H Q I h
  refine wpAny_Call_Name_kw (ld_glob I hg T.gC ?_)
  refine PySem.W.callWith_K (h₀ := X.base) I.ok.mod.kin T.kC (thn (ha.run pos pins s σ H _ I h) fun us s1 hh => ?_) he hpl
  obtain ⟨vs, H1, I1, r1, v, ev, q1⟩ := hh
  subst ev
  refine ⟨I1.kIn, ?_⟩
  cases r1 with
  | cons rv rn =>
    rename_i v' us'
    cases rn
    show wpAny _ _ (call (.ref (PySem.BtX.btC X.K)) [v']) _ _ _
    have hlim := I1.nolimit
    have hG := I1.mod.glob.keeps I1.bk
    obtain ⟨mb, hB, hmb⟩ := I1.mod.blt
    have hB' := hB.keeps I1.bk
    obtain ⟨hp, g, dr, tk, os⟩ := s1
    refine wpAny_call (PySem.BtX.bt_made T I1.kIn hlim hG ⟨mb, hB', hmb⟩ (by have := hr.dp; omega) fun h' tk' e d M => ?_)
    show MkP X pins σ Q (.ref e) ⟨h', g, dr, tk', os⟩
    obtain ⟨oe, fv, hoe, hc, hd, hdat, h1⟩ := M.obj
    obtain ⟨G', g1, g2⟩ := restrict h' fun b => decide (b ≠ e)
    have gk : ∀ b, b ≠ e → G'.get? b = h'.get? b := fun b hb => g1 b (decide_eq_true hb)
    have ge : G'.get? e = none := g2 e (by simp)
    have old : ∀ b o, hp.get? b = some o → G'.get? b = some o := fun b o q => (gk b (Nat.ne_of_lt (Nat.lt_of_lt_of_le (Heap.lt_size q) M.new))).trans (M.keep b o q)
    have ob : ObjOk X.prog X.w (upd H1 d (.xd [(("place" : Str), v)])) G' d (.xd [(("place" : Str), v)]) := ⟨_, M.ns.at (fun o q => (gk d M.dne).trans q), fun f => relO_place rv f⟩
    have J : Inv X pins σ (upd H1 d (.xd [(("place" : Str), v)])) ⟨G', g, dr, tk', os⟩ := I1.laid (t' := tk') old M.dbig ob
    refine ⟨e, oe, fv, ⟨G', g, dr, tk', os⟩, _, .ref (PySem.BtX.btC X.K), some d, rfl, J, fun b o q => ?_, ge, hoe, ⟨hc, hd⟩, hdat, h1, ?_, rfl, I1.bare, raises_own T.exC T.tyC, q1 d (I1.hok.fresh M.dbig)⟩
    · by_cases hb : b = e
      · have q' : G'.get? b = some o := q
        rw [hb, ge] at q'; cases q'
      · exact (gk b hb).symm.trans q
    · rw [upd_ne (Ne.symm M.dne)]
      exact I1.hok.fresh M.new
/-- raise BadTable(e) -/
def tRaiseBt (C : Addr) (W : WX) (ta : TA) : TS := fun _ σ H => tMkBt C ta σ H fun cls d H' => W cls d σ H'
theorem ps_raiseBt {a : Expr} {ta : TA} {W : WX} {p pos pos2 : Pos} {k : Nat} (hc : X.calm = true) (T : PySem.BtX.BTx X.prog X.K X.mg) (hr : Room k X.A) (hk : 1 ≤ k) (tk : Takes X W) (ha : PA X [a] ta) (hg : Gl X "BadTable" := by rfl)
    (he : starEach (a :: []) X.env = (false, eval a X.env) :: starEach [] X.env := by rfl) (hpl : (backTo pos (starEach [] X.env)).any (·.1) = false := by rfl) :
    PS X (.Raise (some (.Call (.Name "BadTable" p) [a] [] pos)) none pos2) (tRaiseBt (PySem.BtX.btC X.K) W ta) := ps_raise hc tk (pmk_bt T hr hk ha hg he hpl)
end
end L2
end
section
set_option Elab.async false
set_option linter.all false
set_option maxRecDepth 100000
set_option maxHeartbeats 4000000
namespace Gal
open PySem PySem.Spec PyProof.Rows L2
section
variable {P : Program} {w : World} {K : PySem.W.Frag} {mg : Str → Option Value} {base : Heap}
/-! ### bad tables are refused -/
abbrev BT (K : PySem.W.Frag) : Addr := PySem.BtX.btC K
/-- the place that the refusal names -/
def BadAt (c : Nat) (R : List (List Int)) (G : List Bool) (pl : Int) : Prop := (R = [] ∨ G.length ≠ R.length) ∧ pl = -1 ∨
  R ≠ [] ∧ G.length = R.length ∧ ∃ (i : Nat) (row : List Int), R[i]? = some row ∧ pl = (i : Int) ∧ BadRow c R.length row ∧ ∀ (j : Nat) (r : List Int), j < i → R[j]? = some r → ¬ BadRow c R.length r
theorem ne_of_bang {p : Prop} {i : Decidable p} (h : (!decide p) = true) : ¬ p := fun x => by rw [decide_eq_true x] at h; cases h
theorem bang_of_ne {p : Prop} {i : Decidable p} (h : ¬ p) : (!decide p) = true := by rw [decide_eq_false h]; rfl
theorem good_row {c n : Nat} {r : List Int} (h : ¬ BadRow c n r) : r.length = c ∧ ∀ x ∈ r, -1 ≤ x ∧ x < (n : Int) :=
  ⟨Classical.byContradiction fun z => h (.inl z), fun x hx => Classical.byContradiction fun z => h (.inr ⟨x, hx, z⟩)⟩
def sp_checkX (K : PySem.W.Frag) : Sp := fun vs H _ E => ∃ (p a b : Addr) (r cc c : Nat) (R : List (List Int)) (G : List Bool) (pl : Int), vs = [.ref p, .ref a, .ref b] ∧ SchAt K H p r cc c ∧ c ≤ 9 ∧ Tb H a R ∧ H b = some (bL G) ∧ R.length ≤ 1000 ∧ (∀ row ∈ R, row.length ≤ 1000) ∧ BadAt c R G pl ∧
  ∀ (H' : Hp) (d : Addr), Same H H' → H' d = some (.xd [("place", .int pl)]) → E (.ref (BT K)) (some d) H'
theorem okX_check_table (T : TX K mg) (U : PySem.BtX.BTx P K mg) : FnOk P w K mg base (L2.CX P w) 3 (He.fAd K ("check_table", none)) T.d_check_table ["scheme", "rows", "goods"] (sp_checkX K) := by
  refine T.F_check_table.ok sc_check_table (fun vs H Q E h => ?_) (fun cdv A outer s H vs Q E hr h => ?_)
  · obtain ⟨p, a, b, r, cc, c, R, G, pl, rfl, _⟩ := h
    rfl
  · obtain ⟨p, a, b, r, cc, c, R, G, pl, rfl, hp, hc, hT, hb, hl, hl2, hbad, q⟩ := h
    obtain ⟨as, hS, hlen, ha, hR⟩ := hT.get (K := K)
    have eas : ((as.map V.ref).length : Int) = (R.length : Int) := by rw [List.length_map, hlen]
    have ebs : ((G.map V.bl).length : Int) = (G.length : Int) := by rw [List.length_map]
    have fin : ∀ (H1 : Hp) (d : Addr) (v : Int), Same H H1 → v = pl → H1 d = none → E (.ref (BT K)) (some d) (upd H1 d (.xd [("place", .int v)])) := fun H1 d v s1 ev nd => by
      subst ev
      exact q _ d (s1.trans (same_new nd)) upd_same
    refine ⟨_, (pss_cons (ps_if (PW.pt (pw_or (pt_cmpR op_eq (pe_callB (lenK K) (by rfl) T.n_len PySem.boot_len (pa_cons (pv 1) pa_nil)) pe_int (nomark _)) (pw_or1 (pt_cmpR op_ne (pe_callB (lenK K) (by rfl) T.n_len PySem.boot_len (pa_cons (pv 2) pa_nil)) (pe_callB (lenK K) (by rfl) T.n_len PySem.boot_len (pa_cons (pv 1) pa_nil)) (nomark _))))) (pss_one (ps_raiseBt rfl U hr (by decide) (takes_of rfl rfl rfl rfl) (pa_cons (pe_un un_neg pe_int) pa_nil))) pss_nil)
    (pss_one (ps_for (passes_of rfl) rfl (pi_enum (by rfl) T.n_enumerate (pa_cons (pv 1) pa_nil)) (tupG K rfl (pgs_cons (pg_name (i := 3) sc_check_table.nd rfl (Or.inl rfl)) (pgs_cons (pg_name (i := 4) sc_check_table.nd rfl (Or.inl rfl)) pgs_nil))) (pss_one (ps_if (PW.pt (pw_or (pt_cmpR op_ne (pe_callB (lenK K) (by rfl) T.n_len PySem.boot_len (pa_cons (pv 4) pa_nil)) (pe_callB (call_lenO (ok_s_len T) (hr.mono (by decide)) T.ln_S T.fl_S (b_s_len T)) (by rfl) T.n_len PySem.boot_len (pa_cons (pv 0) pa_nil)) (nomark _)) (pw_or1 (pt_val (pe_callB (anyK K rfl) (by rfl) T.n_any bt_any (pa_cons (pe_lc (own := [("step", 5)]) (g := gName 5) (tt := tYes) rfl sc_check_table.nd (pi_listK K (pv 4)) (blkOk_by (own := [("step", 5)]) (N := N_check_table) (sc := defScope s_check_table) (by decide +kernel)) (fun _ _ _ _ _ => (pg_name (i := 5) sc_check_table.nd rfl (Or.inl rfl))) (fun _ _ _ _ _ => pts_nil) (fun _ _ _ _ _ => (pe_not (pe_chain op_le op_lt (pe_un un_neg pe_int) (pv 5) (pe_callB (lenK K) (by rfl) T.n_len PySem.boot_len (pa_cons (pv 1) pa_nil)))))) pa_nil)))))) (pss_one (ps_raiseBt rfl U hr (by decide) (takes_of rfl rfl rfl rfl) (pa_cons (pv 3) pa_nil))) pss_nil))))), ?_⟩
    refine ⟨_, rfl, a, _, rfl, .inl hS, rfl, _, rfl, ite2 (fun z => ?_) (fun z0 => ?_)⟩
    · have z := V.int.inj (of_decide_eq_true z)
      have hR0 : R = [] := by
        have : R.length = 0 := by omega
        exact List.length_eq_zero_iff.mp this
      rcases hbad with ⟨_, e⟩ | ⟨e, _⟩
      · exact ⟨_, rfl, _, rfl, fun d nd => fin _ d _ same_rfl e.symm nd⟩
      · exact absurd hR0 e
    have hR0 : R ≠ [] := fun e => z0 (decide_eq_true (by rw [eas, e]; rfl))
    refine ⟨_, rfl, b, _, rfl, .inl (SqL.of hb), _, rfl, a, _, rfl, .inl hS, rfl, _, rfl, ite2 (fun z => ?_) (fun z => ?_)⟩
    · rcases hbad with ⟨_, e⟩ | ⟨_, e, _⟩
      · exact ⟨_, rfl, _, rfl, fun d nd => fin _ d _ same_rfl e.symm nd⟩
      · have z := ne_of_bang z
        exact absurd (congrArg V.int (ebs.trans ((congrArg Int.ofNat e).trans eas.symm))) z
    have hG : G.length = R.length := by
      have z : V.int ((G.map V.bl).length : Int) = V.int ((as.map V.ref).length : Int) := Classical.byContradiction fun x => z (bang_of_ne x)
      have := V.int.inj z
      omega
    rcases hbad with ⟨e, _⟩ | ⟨_, _, k, rowk, hk, epl, hbk, hgood⟩
    · rcases e with e | e
      · exact absurd e hR0
      · exact absurd hG e
    have hkl : k < R.length := (List.getElem?_eq_some_iff.mp hk).1
    refine ⟨_, rfl, a, _, rfl, hS, ?_⟩
    refine for_it (walk_enum (xs := as.map V.ref)) (fun i σ H' => i ≤ k ∧ ∃ y3 y4 : Option V, σ = [some (.ref p), some (.ref a), some (.ref b), y3, y4, none] ∧ Same H H') ⟨Nat.zero_le _, none, none, rfl, same_rfl⟩ (fun i σ H' _ h => by obtain ⟨_, y3, y4, _, s1⟩ := h; exact SqL.of (s1 _ _ ha)) ?_ ?_
    · rintro i x σ _ H1 hi ⟨hik, y3, y4, rfl, s1⟩ ⟨T1, x1, y1, rfl, nT, rfl, hx1, hy1⟩
      have hx1 := Option.some.inj hx1
      subst hx1
      obtain ⟨bi, hbi, rfl⟩ := map_get' hy1
      obtain ⟨row, hrow, hri⟩ := paired_get hR hbi
      have hrl := hl2 row (List.mem_of_getElem? hrow)
      rename_i H0
      have s2 : Same H0 (upd H0 T1 (.tup [.int (i : Nat), .ref bi])) := same_new nT
      have S2 : Same H _ := s1.trans s2
      refine ⟨T1, _, rfl, SqT.of upd_same, rfl, _, _, rfl, _, _, rfl, rfl, ?_⟩
      generalize upd H0 T1 (.tup [.int (i : Nat), .ref bi]) = H2 at s2 S2
      have hri2 := S2 _ _ hri
      have hp2 := hp.same S2
      obtain ⟨dx, hpx⟩ := hp2
      have isk : BadRow c R.length row → (i : Int) = pl := fun hb => by
        have : i = k := by
          rcases Nat.lt_or_ge i k with h | h
          · exact absurd hb (hgood i row h hrow)
          · omega
        rw [epl, this]
      refine ⟨_, rfl, bi, _, rfl, .inl (SqL.of hri2), _, rfl, p, dx, _, rfl, hpx, p, r, cc, c, rfl, ⟨dx, hpx⟩, hc, ⟨c, rfl, by omega⟩, rfl, _, rfl, ite2 (fun z => ?_) (fun z => ?_)⟩
      · have z := ne_of_bang z
        have hb : BadRow c R.length row := .inl fun e => z (congrArg V.int (by rw [List.length_map, e]))
        exact ⟨_, rfl, _, rfl, fun d nd => fin _ d _ S2 (isk hb) nd⟩
      have hrc : row.length = c := by
        have z : V.int ((row.map V.int).length : Int) = V.int (c : Int) := Classical.byContradiction fun x => z (bang_of_ne x)
        have := V.int.inj z
        rw [List.length_map] at this
        omega
      refine ⟨_, rfl, bi, rfl, ⟨_, SqL.of hri2⟩, fun D nD => ?_⟩
      refine lc_list (K := K) (a := bi) (xs := row.map V.int) (fun j H' => H' = upd H2 D (bL ((row.take j).map fun z => !(decide (-1 ≤ z) && decide (z < (R.length : Int)))))) rfl (fun j H' _ z => by rw [z]; exact SqL.of (same_new nD _ _ hri2)) ?_ ?_
      · rintro j x H' hx rfl
        obtain ⟨z, hz, rfl⟩ := map_get' hx
        have hjl := (List.getElem?_eq_some_iff.mp hz).1
        have stp : ∀ b : Bool, b = !(decide (-1 ≤ z) && decide (z < (R.length : Int))) → upd (upd H2 D (bL ((row.take j).map fun z => !(decide (-1 ≤ z) && decide (z < (R.length : Int)))))) D (.lst (((row.take j).map fun z => !(decide (-1 ≤ z) && decide (z < (R.length : Int)))).map V.bl ++ [V.bl b])) = upd H2 D (bL ((row.take (j + 1)).map fun z => !(decide (-1 ≤ z) && decide (z < (R.length : Int))))) := fun b eb => by
          rw [upd_upd, snocB, List.take_succ, hz, List.map_append, eb]; rfl
        refine ⟨rfl, _, rfl, _, rfl, _, _, rfl, rfl, _, rfl, ite2 (fun z1 => ?_) (fun z1 => ?_)⟩
        · have z1 : -1 ≤ z := of_decide_eq_true z1
          refine ⟨_, rfl, a, _, rfl, .inl (SqL.of (same_new nD _ _ (S2 _ _ ha))), _, _, rfl, rfl, _, rfl, _, upd_same, szLt (by rw [List.length_map, List.length_map]; exact Nat.lt_of_le_of_lt (List.length_take_le _ _) (by omega)), ?_⟩
          refine stp _ ?_
          rw [decide_eq_true z1, Bool.true_and]
          show (!decide (z < ((as.map V.ref).length : Int))) = _
          rw [eas]
        · have z1 : ¬ -1 ≤ z := fun x => z1 (decide_eq_true x)
          refine ⟨_, rfl, _, upd_same, szLt (by rw [List.length_map, List.length_map]; exact Nat.lt_of_le_of_lt (List.length_take_le _ _) (by omega)), ?_⟩
          refine stp _ ?_
          rw [decide_eq_false z1, Bool.false_and]
      · rintro H' rfl
        have eL : (row.map V.int).length = row.length := List.length_map _
        rw [eL, List.take_length]
        refine ⟨D, _, rfl, SqL.of upd_same, _, rfl, ite2 (fun z => ?_) (fun z => ?_)⟩
        · have hb : BadRow c R.length row := by
            obtain ⟨x, hx, ex⟩ := List.any_eq_true.mp z
            obtain ⟨y, hy, rfl⟩ := List.mem_map.mp hx
            refine .inr ⟨y, hy, fun w => ?_⟩
            simp [decide_eq_true w.1, decide_eq_true w.2] at ex
          exact ⟨_, rfl, _, rfl, fun d nd => fin _ d _ (S2.trans (same_new nD)) (isk hb) nd⟩
        · have hn : ¬ BadRow c R.length row := fun hb => by
            rcases hb with hb | ⟨y, hy, hb⟩
            · exact hb hrc
            · refine z (List.any_eq_true.mpr ⟨_, List.mem_map.mpr ⟨y, hy, rfl⟩, ?_⟩)
              by_cases h1 : -1 ≤ y
              · have h2 : ¬ y < (R.length : Int) := fun h2 => hb ⟨h1, h2⟩
                rw [decide_eq_false h2, Bool.and_false]; rfl
              · rw [decide_eq_false h1]; rfl
          have hlt : i < k := by
            rcases Nat.lt_or_ge i k with h | h
            · exact h
            · have : i = k := by omega
              rw [this, hk] at hrow
              rw [← Option.some.inj hrow] at hn
              exact absurd hbk hn
          exact ⟨hlt, _, _, rfl, S2.trans (same_new nD)⟩
    · rintro σ H1 ⟨hik, _⟩
      rw [List.length_map] at hik
      omega
end
end Gal
end
section
set_option Elab.async false
set_option linter.all false
set_option maxRecDepth 100000
set_option maxHeartbeats 4000000
namespace Gal
open PySem PySem.Spec PyProof.Rows L2
section
variable {P : Program} {w : World} {K : PySem.W.Frag} {mg : Str → Option Value} {base : Heap}
/-! ### Bale(..) of a bad table, asked -/
/-- what the written part says of the errors that the law asks for -/
structure EXx (K : PySem.W.Frag) (mg : Str → Option Value) : Prop where
  is : PySem.BtX.IsE K (BT K)
  m_GE : mg "GalloonError" = some (.ref (He.ga K "GalloonError"))
  m_BC : mg "BadCount" = some (.ref (He.ga K "BadCount"))
  m_BP : mg "BadPattern" = some (.ref (He.ga K "BadPattern"))
  m_BS : mg "BadStrip" = some (.ref (He.ga K "BadStrip"))
  k_BC : PySem.W.kitOne K (.ref (BT K)) (.ref (He.ga K "BadCount")) = some false
  k_BP : PySem.W.kitOne K (.ref (BT K)) (.ref (He.ga K "BadPattern")) = some false
  k_BS : PySem.W.kitOne K (.ref (BT K)) (.ref (He.ga K "BadStrip")) = some false
  k_VE : PySem.W.kitOne K (.ref (BT K)) (.type "ValueError") = some true
theorem xf_of (U : EXx K mg) : XfC K (BT K) := ⟨U.is.ga, U.is.gg, U.is.ex, U.is.hd⟩
def sp_b_initX (K : PySem.W.Frag) : Sp := fun vs H _ E => ∃ (x p a b : Addr) (r cc c : Nat) (R : List (List Int)) (G : List Bool) (pl : Int), vs = [.ref x, .ref p, .ref a, .ref b] ∧ SchAt K H p r cc c ∧ c ≤ 9 ∧ Tb H a R ∧ H b = some (bL G) ∧ R.length ≤ 1000 ∧ (∀ row ∈ R, row.length ≤ 1000) ∧ BadAt c R G pl ∧
  ∀ (H' : Hp) (d : Addr), Same H H' → H' d = some (.xd [("place", .int pl)]) → E (.ref (BT K)) (some d) H'
theorem okX_b_init (T : TX K mg) (U : PySem.BtX.BTx P K mg) : FnOk P w K mg base (L2.CX P w) 4 (He.fAd K ("Bale", some "__init__")) T.d_b_init ["self", "scheme", "rows", "goods"] (sp_b_initX K) := by
  refine T.F_b_init.ok sc_b_init (fun vs H Q E h => ?_) (fun cdv A outer s H vs Q E hr h => ?_)
  · obtain ⟨x, p, a, b, r, cc, c, R, G, pl, rfl, _⟩ := h
    rfl
  · obtain ⟨x, p, a, b, r, cc, c, R, G, pl, rfl, hp, hc, hT, hb, hl, hl2, hbad, q⟩ := h
    refine ⟨_, pss_cons (ps_expr (pe_call (okX_check_table T U) (hr.mono (by decide)) (by rfl) T.g_check_table T.F_check_table.kp (b_check_table T) .nil (passes_call (takes_of rfl rfl rfl rfl) (fun _ _ _ _ h => h)) (pa_cons (pv 1) (pa_cons (pv 2) (pa_cons (pv 3) pa_nil))))) pss_never, ?_⟩
    exact ⟨_, rfl, _, rfl, _, rfl, p, a, b, r, cc, c, R, G, pl, rfl, hp, hc, hT, hb, hl, hl2, hbad, q⟩
abbrev N_l_asked : List Str := ["_law_scheme", "_law_rows", "_law_goods", "_law_bale", "e"]
theorem sc_l_asked : FnScope N_l_asked ["_law_scheme", "_law_rows", "_law_goods"] (defScope s_l_asked) := ⟨rfl, rfl, rfl, by decide +kernel, rfl, by decide +kernel, by decide +kernel⟩
theorem b_l_asked (T : TX K mg) : Binds K T.d_l_asked ["_law_scheme", "_law_rows", "_law_goods"] [] := T.F_l_asked.bindsN fun _ _ _ _ _ _ us hl => match us, hl with | [_, _, _], _ => rfl
def sp_asked (K : PySem.W.Frag) : Sp := fun vs H Q _ => ∃ (p a b : Addr) (r cc c : Nat) (R : List (List Int)) (G : List Bool) (pl : Int), vs = [.ref p, .ref a, .ref b] ∧ SchAt K H p r cc c ∧ c ≤ 9 ∧ Tb H a R ∧ H b = some (bL G) ∧ R.length ≤ 1000 ∧ (∀ row ∈ R, row.length ≤ 1000) ∧ BadAt c R G pl ∧
  ∀ H' : Hp, Same H H' → Q (.int pl) H'
/-- an exception of a call, whatever the slots -/
def anyS (n : Nat) (W : WX) : XK := fun cls d H => ∀ σ : List (Option V), σ.length = n → W cls d σ H
theorem passAny {X : Cx} {W : WX} {n : Nat} (tk : Takes X W) (hn : X.N.length = n) : Passes (L2.CX X.prog X.w) X (anyS n W) := fun _ σ _ _ _ s' I c => tk _ s' (XE.of_call I (fun _ _ _ h => h σ (I.len.trans hn)) c)
theorem ok_l_asked (T : TX K mg) (U : PySem.BtX.BTx P K mg) (V' : EXx K mg) : FnOk P w K mg base CX0 6 (He.fAd K ("_law_asked", none)) T.d_l_asked ["_law_scheme", "_law_rows", "_law_goods"] (sp_asked K) := by
  refine T.F_l_asked.ok sc_l_asked (fun vs H Q E h => ?_) (fun cdv A outer s H vs Q E hr h => ?_)
  · obtain ⟨p, a, b, r, cc, c, R, G, pl, rfl, _⟩ := h
    rfl
  · obtain ⟨p, a, b, r, cc, c, R, G, pl, rfl, hp, hc, hT, hb, hl, hl2, hbad, q⟩ := h
    refine ⟨_, PSs.nox (pss_one (ps_try_as (i := 4) (Wout := fun _ _ _ _ => False) rfl rfl sc_l_asked.nd rfl rfl ⟨rfl, by decide, Or.inl V'.m_GE⟩ takes0
      (fun W pn xe tk _ => pss_cons (ps_set (i := 3) sc_l_asked.nd rfl (Or.inl rfl) (pe_make T.mk_Bale (okX_b_init T U) (hr.mono (by decide)) (by rfl) T.m_Bale (b_b_init T) .nil (passAny (n := 5) tk rfl) (pa_cons (pv 0) (pa_cons (pv 1) (pa_cons (pv 2) pa_nil))))) pss_never)
      (fun a oe cls d pn hz hf => pss_cons (ps_if (PW.pt (pw_or (pt_val (pe_callB (call_isD V'.is hz hf) (by rfl) T.n_isinstance bt_isinstance (pa_cons (pv 4) (pa_cons (pe_glob (v := .ref (He.ga K "BadCount")) rfl V'.m_BC rfl) pa_nil))))
          (pw_or (pt_val (pe_callB (call_isD V'.is hz hf) (by rfl) T.n_isinstance bt_isinstance (pa_cons (pv 4) (pa_cons (pe_glob (v := .ref (He.ga K "BadPattern")) rfl V'.m_BP rfl) pa_nil))))
          (pw_or1 (pt_val (pe_callB (call_isD V'.is hz hf) (by rfl) T.n_isinstance bt_isinstance (pa_cons (pv 4) (pa_cons (pe_glob (v := .ref (He.ga K "BadStrip")) rfl V'.m_BS rfl) pa_nil)))))))) (pss_one (ps_ret pe_non)) pss_nil)
        (pss_one (ps_ret (pe_ifExp (PW.pt (pw_and (pt_val (pe_callB (call_isD V'.is hz hf) (by rfl) T.n_isinstance bt_isinstance (pa_cons (pv 4) (pa_cons (pe_glob (v := .ref (BT K)) rfl U.gC rfl) pa_nil))))
          (pw_and1 (pt_val (pe_callB (call_isD V'.is hz hf) (by rfl) T.n_isinstance bt_isinstance (pa_cons (pv 4) (pa_cons (pe_bltn (by rfl) T.n_ValueError bt_ValueError (show RelV (.ty "ValueError") (.type "ValueError") from rfl)) pa_nil)))))))
          (pe_xf (xf_of V') U.noN hz hf (pv 4)) pe_non)))))), ?_⟩
    refine ⟨_, rfl, _, rfl, _, rfl, fun x dx nx ndx ndxx => ?_⟩
    have s3 := pre_make (o := .ins (Bc K) dx []) nx ndx
    refine ⟨x, p, a, b, r, cc, c, R, G, pl, rfl, hp.same s3, hc, hT.same s3, s3 _ _ hb, hl, hl2, hbad, fun H1 d s1 hd σ hσ => ⟨true, U.te, fun _ ad nad => ?_, fun q => Bool.noConfusion q⟩⟩
    match σ, hσ with
    | [y0, y1, y2, y3, y4], _ =>
      refine ⟨_, rfl, _, _, false, d, _, rfl, rfl, hd, rfl, fun u h => h, V'.k_BC, _, rfl, iteF ?_⟩
      refine ⟨_, rfl, _, _, false, d, _, rfl, rfl, hd, rfl, fun u h => h, V'.k_BP, _, rfl, iteF ?_⟩
      refine ⟨_, rfl, _, _, false, d, _, rfl, rfl, hd, rfl, fun u h => h, V'.k_BS, _, rfl, iteF ?_⟩
      refine ⟨_, rfl, _, _, true, d, _, rfl, rfl, hd, rfl, fun u h => h, (by unfold PySem.W.kitOne; simp), _, rfl, iteT ?_⟩
      refine ⟨_, rfl, _, _, true, d, _, rfl, rfl, hd, rfl, fun u h => h, V'.k_VE, _, rfl, iteT ?_⟩
      exact ⟨_, rfl, rfl, rfl, d, _, _, rfl, hd, rfl, q H1 ((show Same H _ from s3).trans s1)⟩
end
end Gal
end
section
set_option Elab.async false
set_option linter.all false
set_option maxRecDepth 100000
set_option maxHeartbeats 4000000
namespace Gal
open PySem PySem.Spec PyProof.Rows L2
section
variable {P : Program} {w : World} {K : PySem.W.Frag} {mg : Str → Option Value} {base : Heap}
/-! ### six refusals -/
theorem wf_notbad {c : Nat} {R : List (List Int)} {G : List Bool} (W : WF c R G) {j : Nat} {r : List Int} (h : R[j]? = some r) : ¬ BadRow c R.length r := by
  obtain ⟨h1, h2⟩ := W.row r (List.mem_of_getElem? h)
  rintro (z | ⟨x, hx, z⟩)
  · exact z h1
  · exact z (h2 x hx)
theorem bad_one {c i : Nat} {R : List (List Int)} {G : List Bool} {b : List Int} (W : WF c R G) (hi : i < R.length) (hb : BadRow c R.length b) : BadAt c (R.set i b) G (i : Int) := by
  have hpos := W.pos
  refine .inr ⟨fun e => ?_, by rw [List.length_set]; exact W.len, i, b, ?_, rfl, by rw [List.length_set]; exact hb, fun j r hj hr => ?_⟩
  · have := congrArg List.length e
    rw [List.length_set, List.length_nil] at this
    omega
  · rw [List.getElem?_set_self hi]
  · rw [List.getElem?_set_ne (by omega)] at hr
    rw [List.length_set]
    exact wf_notbad W hr
theorem bad_two {c i k : Nat} {R : List (List Int)} {G : List Bool} {b b' : List Int} (W : WF c R G) (hi : i < R.length) (hk : k < R.length) (hb : BadRow c R.length b) (hb' : BadRow c R.length b') : BadAt c ((R.set i b).set k b') G ((min i k : Nat) : Int) := by
  have hpos := W.pos
  have hlen : ((R.set i b).set k b').length = R.length := by rw [List.length_set, List.length_set]
  have lo : ∀ j r, j < min i k → ((R.set i b).set k b')[j]? = some r → ¬ BadRow c ((R.set i b).set k b').length r := fun j r hj hr => by
    rw [List.getElem?_set_ne (by omega), List.getElem?_set_ne (by omega)] at hr
    rw [hlen]
    exact wf_notbad W hr
  refine .inr ⟨fun e => ?_, by rw [hlen]; exact W.len, min i k, ?_⟩
  · have := congrArg List.length e
    rw [hlen, List.length_nil] at this
    omega
  · rcases Nat.lt_or_ge i k with h | h
    · refine ⟨b, ?_, rfl, by rw [hlen]; exact hb, lo⟩
      rw [Nat.min_eq_left (by omega), List.getElem?_set_ne (by omega), List.getElem?_set_self hi]
    · refine ⟨b', ?_, rfl, by rw [hlen]; exact hb', lo⟩
      rw [Nat.min_eq_right h, List.getElem?_set_self (by rw [List.length_set]; exact hk)]
theorem bad_len {c : Nat} {R : List (List Int)} {G : List Bool} (h : R = [] ∨ G.length ≠ R.length) : BadAt c R G (-1) := .inl ⟨h, rfl⟩
theorem rL_out {H : Hp} {as bs : List Addr} {R : List (List Int)} {l : Addr} (h : Rws H as R) (e : H l = some (rL bs)) (n : bs ≠ []) : l ∉ as := fun z => by
  obtain ⟨j, hj, ej⟩ := List.getElem_of_mem z
  obtain ⟨r', _, hr'⟩ := paired_get h (List.getElem?_eq_getElem hj)
  rw [ej] at hr'
  have q := Option.some.inj (e.symm.trans (show H l = some (iL r') from hr'))
  injection q with q
  cases bs with
  | nil => exact n rfl
  | cons x bs =>
    cases r' with
    | nil => cases q
    | cons y r' => injection q with q _; cases q
/-- the rows that are spoilt, what is told -/
structure RQ (H1 : Hp) (l tl : Addr) (as : List Addr) (R : List (List Int)) (ts : List Int) (H : Hp) : Prop where
  sm : Same H1 H
  at_ : H l = some (rL as)
  rws : Rws H as R
  told : H tl = some (iL ts)
  nl : H1 l = none
  nt : H1 tl = none
  ne : l ≠ tl
  out : tl ∉ as
theorem RQ.same {H1 H H' : Hp} {l tl : Addr} {as : List Addr} {R : List (List Int)} {ts : List Int} (s : Same H H') (h : RQ H1 l tl as R ts H) : RQ H1 l tl as R ts H' := ⟨h.sm.trans s, s _ _ h.at_, h.rws.same s, s _ _ h.told, h.nl, h.nt, h.ne, h.out⟩
theorem RQ.app {H1 H : Hp} {l tl : Addr} {as : List Addr} {R : List (List Int)} {ts : List Int} {z : Int} (h : RQ H1 l tl as R ts H) : RQ H1 l tl as R (ts ++ [z]) (upd H tl (iL (ts ++ [z]))) :=
  ⟨same_mut h.sm h.nt, upd_at h.ne h.at_, paired_mem h.rws fun b r hb e => upd_at (fun q => h.out (q ▸ hb)) e, upd_same, h.nl, h.nt, h.ne, h.out⟩
theorem RQ.set {H1 H : Hp} {l tl z : Addr} {as : List Addr} {R : List (List Int)} {ts : List Int} {b : List Int} {i : Nat} (h : RQ H1 l tl as R ts H) (n : as ≠ []) (hz : H z = some (iL b)) (nz : z ≠ tl) (nzl : z ≠ l) : RQ H1 l tl (as.set i z) (R.set i b) ts (upd H l (rL (as.set i z))) :=
  ⟨same_mut h.sm h.nl, upd_same, paired_mem (paired_set (F := fun b r => H b = some (iL r)) hz i h.rws) fun y r hy e => upd_at (fun q => by
    subst q
    rcases List.mem_or_eq_of_mem_set hy with q | q
    · exact rL_out h.rws h.at_ n q
    · exact nzl q.symm) e, upd_at (Ne.symm h.ne) h.told, h.nl, h.nt, h.ne, fun q => by
    rcases List.mem_or_eq_of_mem_set q with q | q
    · exact h.out q
    · exact nz q.symm⟩
theorem rws_mut {H : Hp} {l z : Addr} {as : List Addr} {R : List (List Int)} {b : List Int} {i : Nat} (h : Rws H as R) (e : H l = some (rL as)) (n : as ≠ []) (hz : H z = some (iL b)) (nzl : z ≠ l) : Rws (upd H l (rL (as.set i z))) (as.set i z) (R.set i b) :=
  paired_mem (paired_set (F := fun b r => H b = some (iL r)) hz i h) fun y r hy e' => upd_at (fun q => by
    subst q
    rcases List.mem_or_eq_of_mem_set hy with q | q
    · exact rL_out h e n q
    · exact nzl q.symm) e'
theorem kit_int_bool {K : PySem.W.Frag} : PySem.W.kitOne K (.type "int") (.type "bool") = some false := by first | rfl | kernel_rfl | decide +kernel
theorem set_len {R : List (List Int)} {i : Nat} {b : List Int} (h : ∀ r ∈ R, r.length ≤ 1000) (hb : b.length ≤ 1000) : ∀ r ∈ R.set i b, r.length ≤ 1000 := fun r hr => by
  rcases List.mem_or_eq_of_mem_set hr with q | q
  · exact h r q
  · rw [q]; exact hb
abbrev N_l_refused : List Str := ["_law_purse_here", "_law_scheme", "_law_table_here", "_law_many", "_law_one", "_law_two", "_law_bad_here", "_law_rows", "_law_told", "_law_place"]
theorem sc_l_refused : FnScope N_l_refused ["_law_purse_here", "_law_scheme", "_law_table_here"] (defScope s_l_refused) := ⟨rfl, rfl, rfl, by decide +kernel, rfl, by decide +kernel, by decide +kernel⟩
theorem b_l_refused (T : TX K mg) : Binds K T.d_l_refused ["_law_purse_here", "_law_scheme", "_law_table_here"] [] := T.F_l_refused.bindsN fun _ _ _ _ _ _ us hl => match us, hl with | [_, _, _], _ => rfl
def sp_refused (K : PySem.W.Frag) : Sp := fun vs H Q _ => ∃ (p s q : Addr) (r cc c : Nat) (R : List (List Int)) (G : List Bool), vs = [.ref p, .ref s, .ref q] ∧ PuAt H p ∧ SchAt K H s r cc c ∧ s ≠ p ∧ TabA p H q R G ∧ WF c R G ∧ 1 ≤ c ∧ c ≤ 9 ∧ R.length ≤ 40 ∧
  ∀ H' : Hp, Sb p H H' → Q (.bl true) H'
theorem ok_l_refused (T : TX K mg) (U : PySem.BtX.BTx P K mg) (V' : EXx K mg) : FnOk P w K mg base CX0 7 (He.fAd K ("_law_refused", none)) T.d_l_refused ["_law_purse_here", "_law_scheme", "_law_table_here"] (sp_refused K) := by
  refine T.F_l_refused.ok sc_l_refused (fun vs H Q E h => ?_) (fun cdv A outer s H vs Q E hr h => ?_)
  · obtain ⟨p, s, q, r, cc, c, R, G, rfl, _⟩ := h
    rfl
  · obtain ⟨p, sc, q, r, cc, c, R, G, rfl, hp, hs, nsp, TA, W, hc1, hc2, hl, qq⟩ := h
    refine ⟨_, PSs.nox (pss_cons (ps_set (i := 3) sc_l_refused.nd rfl (Or.inl rfl) (pe_callB (lenK K) (by rfl) T.n_len PySem.boot_len (pa_cons (pe_ix (ixL K) (pv 2) pe_int (fun _ _ => rfl)) pa_nil)))
    (pss_cons (ps_set (i := 4) sc_l_refused.nd rfl (Or.inl rfl) (pe_call (ok_l_draw T) (hr.mono (by decide)) (by rfl) T.g_l_draw T.F_l_draw.kp (b_l_draw T) .nil pass0 (pa_cons (pv 0) (pa_cons (pv 3) pa_nil))))
    (pss_cons (ps_set (i := 5) sc_l_refused.nd rfl (Or.inl rfl) (pe_call (ok_l_draw T) (hr.mono (by decide)) (by rfl) T.g_l_draw T.F_l_draw.kp (b_l_draw T) .nil pass0 (pa_cons (pv 0) (pa_cons (pv 3) pa_nil))))
    (pss_cons (ps_set (i := 6) sc_l_refused.nd rfl (Or.inl rfl) (pe_lst (pa_cons (pe_call (ok_l_bad T) (hr.mono (by decide)) (by rfl) T.g_l_bad T.F_l_bad.kp (b_l_bad T) .nil pass0 (pa_cons (pv 0) (pa_cons (pe_ix (ixL K) (pe_ix (ixL K) (pv 2) pe_int (fun _ _ => rfl)) (pv 4) (fun _ _ => rfl)) (pa_cons (pv 3) pa_nil)))) (pa_cons (pe_call (ok_l_bad T) (hr.mono (by decide)) (by rfl) T.g_l_bad T.F_l_bad.kp (b_l_bad T) .nil pass0 (pa_cons (pv 0) (pa_cons (pe_ix (ixL K) (pe_ix (ixL K) (pv 2) pe_int (fun _ _ => rfl)) (pv 5) (fun _ _ => rfl)) (pa_cons (pv 3) pa_nil)))) pa_nil))))
    (pss_cons (ps_set (i := 7) sc_l_refused.nd rfl (Or.inl rfl) (pe_call (ok_l_copied T) (hr.mono (by decide)) (by rfl) T.g_l_copied T.F_l_copied.kp (b_l_copied T) .nil pass0 (pa_cons (pe_ix (ixL K) (pv 2) pe_int (fun _ _ => rfl)) pa_nil)))
    (pss_cons (ps_asg (pe_callTy (lstK K) (by rfl) T.n_list bt_list (pa_cons (pe_ix (ixL K) (pv 6) pe_int (fun _ _ => rfl)) pa_nil)) (pg_sub (pv 7) (pv 4) set_list))
    (pss_cons (ps_set (i := 8) sc_l_refused.nd rfl (Or.inl rfl) (pe_lst (pa_cons (pe_call (ok_l_asked T U V') (hr.mono (by decide)) (by rfl) T.g_l_asked T.F_l_asked.kp (b_l_asked T) .nil pass0 (pa_cons (pv 1) (pa_cons (pe_call (ok_l_copied T) (hr.mono (by decide)) (by rfl) T.g_l_copied T.F_l_copied.kp (b_l_copied T) .nil pass0 (pa_cons (pv 7) pa_nil)) (pa_cons (pe_callTy (lstK K) (by rfl) T.n_list bt_list (pa_cons (pe_ix (ixL K) (pv 2) pe_int (fun _ _ => rfl)) pa_nil)) pa_nil)))) pa_nil)))
    (pss_cons (ps_asg (pe_callTy (lstK K) (by rfl) T.n_list bt_list (pa_cons (pe_ix (ixL K) (pv 6) pe_int (fun _ _ => rfl)) pa_nil)) (pg_sub (pv 7) (pv 5) set_list))
    (pss_cons (ps_expr (bmK K PySem.F.plainAttrs_list PySem.F.slot_list_append PySem.F.type_list_append mt_append (pv 8) (pa_cons (pe_call (ok_l_asked T U V') (hr.mono (by decide)) (by rfl) T.g_l_asked T.F_l_asked.kp (b_l_asked T) .nil pass0 (pa_cons (pv 1) (pa_cons (pe_call (ok_l_copied T) (hr.mono (by decide)) (by rfl) T.g_l_copied T.F_l_copied.kp (b_l_copied T) .nil pass0 (pa_cons (pv 7) pa_nil)) (pa_cons (pe_callTy (lstK K) (by rfl) T.n_list bt_list (pa_cons (pe_ix (ixL K) (pv 2) pe_int (fun _ _ => rfl)) pa_nil)) pa_nil)))) pa_nil)))
    (pss_cons (ps_expr (bmK K PySem.F.plainAttrs_list PySem.F.slot_list_append PySem.F.type_list_append mt_append (pv 8) (pa_cons (pe_call (ok_l_asked T U V') (hr.mono (by decide)) (by rfl) T.g_l_asked T.F_l_asked.kp (b_l_asked T) .nil pass0 (pa_cons (pv 1) (pa_cons (pe_call (ok_l_copied T) (hr.mono (by decide)) (by rfl) T.g_l_copied T.F_l_copied.kp (b_l_copied T) .nil pass0 (pa_cons (pv 7) pa_nil)) (pa_cons (pe_slice (slL K) (pe_ix (ixL K) (pv 2) pe_int (fun _ _ => rfl)) (po_some pe_int) po_none) pa_nil)))) pa_nil)))
    (pss_cons (ps_expr (bmK K PySem.F.plainAttrs_list PySem.F.slot_list_append PySem.F.type_list_append mt_append (pv 8) (pa_cons (pe_call (ok_l_asked T U V') (hr.mono (by decide)) (by rfl) T.g_l_asked T.F_l_asked.kp (b_l_asked T) .nil pass0 (pa_cons (pv 1) (pa_cons (pe_call (ok_l_copied T) (hr.mono (by decide)) (by rfl) T.g_l_copied T.F_l_copied.kp (b_l_copied T) .nil pass0 (pa_cons (pe_ix (ixL K) (pv 2) pe_int (fun _ _ => rfl)) pa_nil)) (pa_cons (pe_op op_cat (pe_ix (ixL K) (pv 2) pe_int (fun _ _ => rfl)) (pe_lst (pa_cons pe_bl pa_nil))) pa_nil)))) pa_nil)))
    (pss_cons (ps_expr (bmK K PySem.F.plainAttrs_list PySem.F.slot_list_append PySem.F.type_list_append mt_append (pv 8) (pa_cons (pe_call (ok_l_asked T U V') (hr.mono (by decide)) (by rfl) T.g_l_asked T.F_l_asked.kp (b_l_asked T) .nil pass0 (pa_cons (pv 1) (pa_cons (pe_lst pa_nil) (pa_cons (pe_lst pa_nil) pa_nil)))) pa_nil)))
    (pss_cons (ps_expr (bmK K PySem.F.plainAttrs_list PySem.F.slot_list_append PySem.F.type_list_append mt_append (pv 8) (pa_cons (pe_call (ok_l_asked T U V') (hr.mono (by decide)) (by rfl) T.g_l_asked T.F_l_asked.kp (b_l_asked T) .nil pass0 (pa_cons (pv 1) (pa_cons (pe_lst pa_nil) (pa_cons (pe_lst (pa_cons pe_bl pa_nil)) pa_nil)))) pa_nil)))
    (pss_cons (ps_for PassesOwn.never rfl (pi_listK K (pv 8)) (pg_name (i := 9) sc_l_refused.nd rfl (Or.inl rfl)) (pss_one (ps_if (PW.pt (pw_or (pt_not (pt_val (pe_callB (isiK K) (by rfl) T.n_isinstance bt_isinstance (pa_cons (pv 9) (pa_cons (pe_bltn (by rfl) T.n_int bt_int (show RelV (.ty "int") (.type "int") from rfl)) pa_nil))))) (pw_or1 (pt_val (pe_callB (isiK K) (by rfl) T.n_isinstance bt_isinstance (pa_cons (pv 9) (pa_cons (pe_bltn (by rfl) T.n_bool bt_bool (show RelV (.ty "bool") (.type "bool") from rfl)) pa_nil))))))) (pss_one (ps_ret pe_bl)) pss_nil)))
    (pss_one (ps_ret (pe_cmpR (eqDK K hr.units) (pv 8) (pe_lst (pa_cons (pv 4) (pa_cons (pe_callB (call_min2 rfl) (by rfl) T.n_min bt_min (pa_cons (pv 4) (pa_cons (pv 5) pa_nil))) (pa_cons (pe_un un_neg pe_int) (pa_cons (pe_un un_neg pe_int) (pa_cons (pe_un un_neg pe_int) (pa_cons (pe_un un_neg pe_int) pa_nil))))))) (nomark _)))))))))))))))))), ?_⟩
    have hpos := W.pos
    have hgl := W.len
    obtain ⟨t, g, as, hq, ht, hR, hg, np1, np2, np3, np4⟩ := TA
    obtain ⟨dsc, hsc⟩ := hs
    have hal : as.length = R.length := Paired.length hR
    have eal : ((as.map V.ref).length : Int) = (R.length : Int) := by rw [List.length_map, hal]
    refine ⟨_, rfl, q, _, _, _, rfl, rfl, SqL.of hq, at2_0, t, _, rfl, .inl (SqL.of ht), ?_⟩
    rw [eal]
    refine ⟨_, rfl, _, rfl, p, _, rfl, by omega, by omega, hp, fun d a1 a2 a3 d0 d1 => ?_⟩
    obtain ⟨i, rfl, hi⟩ := ex_lt d0 d1
    have hi : i < R.length := by omega
    refine ⟨_, rfl, _, rfl, p, _, rfl, by omega, by omega, PuAt.to, fun d b1 b2 b3 d0 d1 => ?_⟩
    obtain ⟨k, rfl, hk⟩ := ex_lt d0 d1
    have hk : k < R.length := by omega
    have sb : Sb p H (upd (upd H p (pu a1 a2 a3)) p (pu b1 b2 b3)) := Sb.set (Sb.set Sb.refl)
    have pu2 : PuAt (upd (upd H p (pu a1 a2 a3)) p (pu b1 b2 b3)) p := PuAt.to
    generalize upd (upd H p (pu a1 a2 a3)) p (pu b1 b2 b3) = H2 at sb pu2
    obtain ⟨ai, hai, hri⟩ := paired_get' hR (row_mem hi)
    obtain ⟨ak, hak, hrk⟩ := paired_get' hR (row_mem hk)
    have nai : ai ≠ p := fun z => np4 (z ▸ List.mem_of_getElem? hai)
    have nak : ak ≠ p := fun z => np4 (z ▸ List.mem_of_getElem? hak)
    obtain ⟨wi, _⟩ := wf_row W hi
    obtain ⟨wk, _⟩ := wf_row W hk
    refine ⟨_, rfl, _, rfl, q, _, _, _, rfl, rfl, SqL.of (sb _ _ hq np1), at2_0, _, rfl, t, _, _, _, rfl, rfl, SqL.of (sb _ _ ht np2), atI_map hai, _, rfl, p, ai, row R i, R.length, rfl, pu2, sb _ _ hri nai, nai, by omega, by omega, by omega, fun z1 H3 r1 s3 pu3 nz1 hz1 l1 bad1 => ?_⟩
    have sb3 := sb.trans s3
    refine ⟨_, rfl, _, rfl, q, _, _, _, rfl, rfl, SqL.of (sb3 _ _ hq np1), at2_0, _, rfl, t, _, _, _, rfl, rfl, SqL.of (sb3 _ _ ht np2), atI_map hak, _, rfl, p, ak, row R k, R.length, rfl, pu3, sb3 _ _ hrk nak, nak, by omega, by omega, by omega, fun z2 H4 r2 s4 pu4 nz2 hz2 l2 bad2 => ?_⟩
    have sb4 := sb3.trans s4
    rw [wi] at bad1
    rw [wk] at bad2
    have nz1p : z1 ≠ p := by
      obtain ⟨_, _, _, e⟩ := pu2
      exact (ne_of_none e nz1).symm
    have hz1' := s4 _ _ hz1 nz1p
    refine ⟨(by show 2 ≤ sizeLine; decide), fun B nB => ?_⟩
    have s5 := same_new (o := .lst [.ref z1, .ref z2]) nB
    have hB : upd H4 B (.lst [.ref z1, .ref z2]) B = some (.lst [.ref z1, .ref z2]) := upd_same
    have hq5 := s5 _ _ (sb4 _ _ hq np1)
    have ht5 := s5 _ _ (sb4 _ _ ht np2)
    have hg5 := s5 _ _ (sb4 _ _ hg np3)
    have hR5 : Rws _ as R := (hR.but sb4 (fun b hb z => np4 (z ▸ hb))).same s5
    have hs5 := s5 _ _ (sb4 _ _ hsc nsp)
    have hz15 := s5 _ _ hz1'
    have hz25 := s5 _ _ hz2
    have sb5 := sb4.trans (Sb.of s5)
    generalize upd H4 B (.lst [.ref z1, .ref z2]) = H5 at hB hq5 ht5 hg5 hR5 hs5 hz15 hz25 sb5
    have ias : as ≠ [] := fun z => by rw [z, List.length_nil] at hal; omega
    have rl9 : ∀ r ∈ R, r.length ≤ 1000 := fun r hr => by rw [(W.row r hr).1]; omega
    -- the copy, one row spoilt
    refine ⟨_, rfl, q, _, _, _, rfl, rfl, SqL.of hq5, at2_0, t, R, rfl, ⟨as, ht5, hR5⟩, by omega, fun l0 H6 s6 N6 => ?_⟩
    obtain ⟨nl0, as0, hl0, hRw0, nd0, new0⟩ := N6
    have hal0 : as0.length = R.length := Paired.length hRw0
    have ias0 : as0 ≠ [] := fun z => by rw [z, List.length_nil] at hal0; omega
    refine ⟨_, rfl, B, _, _, _, rfl, rfl, SqL.of (s6 _ _ hB), at2_0, z1, _, rfl, .inl (SqL.of (s6 _ _ hz15)), fun y1 ny1 => ?_⟩
    have s7 := same_new (o := iL r1) ny1
    have S7 := s6.trans s7
    have hl7 := s7 _ _ hl0
    have nl7 : l0 ≠ y1 := ne_of_none hl0 ny1
    refine ⟨_, rfl, _, rfl, l0, _, _, i, rfl, rfl, hl7, ixN_nat (by rw [List.length_map]; omega), ?_⟩
    rw [← List.map_set]
    have sm8 : Same H5 (upd (upd H6 y1 (iL r1)) l0 (rL (as0.set i y1))) := same_mut S7 nl0
    have at8 : (upd (upd H6 y1 (iL r1)) l0 (rL (as0.set i y1))) l0 = some (rL (as0.set i y1)) := upd_same
    have rws8 := rws_mut (i := i) (hRw0.same s7) hl7 ias0 (show upd H6 y1 (iL r1) y1 = some (iL r1) from upd_same) (Ne.symm nl7)
    generalize upd (upd H6 y1 (iL r1)) l0 (rL (as0.set i y1)) = H8 at sm8 at8 rws8
    have las1 : (as0.set i y1) ≠ [] := fun z => by
      have := congrArg List.length z
      rw [List.length_set, List.length_nil] at this
      omega
    have len1 : (R.set i r1).length ≤ 1000 := by rw [List.length_set]; omega
    have rl1 := set_len (i := i) rl9 l1
    have B1 := bad_one W hi bad1
    have B2 := bad_two W hi hk bad1 bad2
    -- asked once
    refine ⟨_, rfl, _, rfl, l0, R.set i r1, rfl, ⟨_, at8, rws8⟩, len1, fun c1 H9 s9 N9 => ⟨_, rfl, q, _, _, _, rfl, rfl, SqL.of (s9 _ _ (sm8 _ _ hq5)), at2_1, g, _, rfl, .inl (SqL.of (s9 _ _ (sm8 _ _ hg5))), fun g1 ng1 => ?_⟩⟩
    obtain ⟨_, as9, hc9, hRw9, _⟩ := N9
    have s10 := same_new (o := bL G) ng1
    refine ⟨sc, c1, g1, r, cc, c, R.set i r1, G, _, rfl, ⟨dsc, s10 _ _ (s9 _ _ (sm8 _ _ hs5))⟩, hc2, ⟨as9, s10 _ _ hc9, hRw9.same s10⟩, upd_same, len1, rl1, B1, fun H10 s11 => ⟨(by show 1 ≤ sizeLine; decide), fun tl ntl => ?_⟩⟩
    have S10 : Same H8 H10 := s9.trans ((show Same H9 _ from s10).trans s11)
    have M1 : RQ H5 l0 tl (as0.set i y1) (R.set i r1) [(i : Int)] (upd H10 tl (.lst [.int (i : Nat)])) := ⟨(sm8.trans S10).trans (same_new ntl), same_new ntl _ _ (S10 _ _ at8), (rws8.same S10).same (same_new ntl), upd_same, nl0, (sm8.trans S10).free ntl, ne_of_none (S10 _ _ at8) ntl, rws_none (rws8.same S10) ntl⟩
    generalize upd H10 tl (.lst [.int (i : Nat)]) = H11 at M1
    -- the second row spoilt
    refine ⟨_, rfl, B, _, _, _, rfl, rfl, SqL.of (M1.sm _ _ hB), at2_1, z2, _, rfl, .inl (SqL.of (M1.sm _ _ hz25)), fun y2 ny2 => ?_⟩
    have M2 := M1.same (same_new (o := iL r2) ny2)
    have ny2l : l0 ≠ y2 := ne_of_none M1.at_ ny2
    have ny2t : tl ≠ y2 := ne_of_none M1.told ny2
    refine ⟨_, rfl, _, rfl, l0, _, _, k, rfl, rfl, M2.at_, ixN_nat (by rw [List.length_map, List.length_set]; omega), ?_⟩
    rw [← List.map_set]
    have M3 := M2.set (i := k) las1 (show upd H11 y2 (iL r2) y2 = some (iL r2) from upd_same) (Ne.symm ny2t) (Ne.symm ny2l)
    generalize upd (upd H11 y2 (iL r2)) l0 (rL ((as0.set i y1).set k y2)) = H12 at M3
    have len2 : ((R.set i r1).set k r2).length ≤ 1000 := by rw [List.length_set]; omega
    have rl2 := set_len (i := k) rl1 l2
    have nil_ne : ((R.set i r1).set k r2).length = R.length := by rw [List.length_set, List.length_set]
    -- asked a second time
    refine ⟨_, rfl, .inl ⟨rfl, _, SqL.of M3.told⟩, _, rfl, _, rfl, l0, _, rfl, ⟨_, M3.at_, M3.rws⟩, len2, fun c2 H13 s13 N13 => ⟨_, rfl, q, _, _, _, rfl, rfl, SqL.of (s13 _ _ (M3.sm _ _ hq5)), at2_1, g, _, rfl, .inl (SqL.of (s13 _ _ (M3.sm _ _ hg5))), fun g2 ng2 => ?_⟩⟩
    obtain ⟨_, as13, hc13, hRw13, _⟩ := N13
    have s14 := same_new (o := bL G) ng2
    refine ⟨sc, c2, g2, r, cc, c, _, G, _, rfl, ⟨dsc, s14 _ _ (s13 _ _ (M3.sm _ _ hs5))⟩, hc2, ⟨as13, s14 _ _ hc13, hRw13.same s14⟩, upd_same, len2, rl2, B2, fun H14 s15 => ?_⟩
    have M4 := M3.same (s13.trans ((show Same H13 _ from s14).trans s15))
    refine ⟨tl, _, _, rfl, rfl, M4.told, szLt (by rw [List.length_map]; show 1 < 1000000; decide), ?_⟩
    rw [snocI]
    have M5 := M4.app (z := ((min i k : Nat) : Int))
    generalize upd H14 tl (iL ([(i : Int)] ++ [((min i k : Nat) : Int)])) = H15 at M5
    -- too few truth values
    refine ⟨_, rfl, .inl ⟨rfl, _, SqL.of M5.told⟩, _, rfl, _, rfl, l0, _, rfl, ⟨_, M5.at_, M5.rws⟩, len2, fun c3 H16 s16 N16 => ⟨_, rfl, q, _, _, _, rfl, rfl, SqL.of (s16 _ _ (M5.sm _ _ hq5)), at2_1, _, rfl, g, _, rfl, SqL.of (s16 _ _ (M5.sm _ _ hg5)), fun g3 ng3 => ?_⟩⟩
    obtain ⟨_, as16, hc16, hRw16, _⟩ := N16
    rw [show cutV (G.map V.bl) (some 1) none = (G.drop 1).map V.bl by rw [show (1 : Int) = ((1 : Nat) : Int) from rfl, cut_hi, List.map_drop]]
    have s17 := same_new (o := bL (G.drop 1)) ng3
    refine ⟨sc, c3, g3, r, cc, c, _, G.drop 1, -1, rfl, ⟨dsc, s17 _ _ (s16 _ _ (M5.sm _ _ hs5))⟩, hc2, ⟨as16, s17 _ _ hc16, hRw16.same s17⟩, upd_same, len2, rl2, bad_len (.inr (by rw [nil_ne, List.length_drop]; omega)), fun H17 s18 => ?_⟩
    have M6 := M5.same (s16.trans ((show Same H16 _ from s17).trans s18))
    refine ⟨tl, _, _, rfl, rfl, M6.told, szLt (by rw [List.length_map]; show 2 < 1000000; decide), ?_⟩
    rw [snocI]
    have M7 := M6.app (z := -1)
    generalize upd H17 tl (iL (([(i : Int)] ++ [((min i k : Nat) : Int)]) ++ [-1])) = H18 at M7
    -- too many
    refine ⟨_, rfl, .inl ⟨rfl, _, SqL.of M7.told⟩, _, rfl, _, rfl, q, _, _, _, rfl, rfl, SqL.of (M7.sm _ _ hq5), at2_0, t, R, rfl, ⟨as, M7.sm _ _ ht5, hR5.same M7.sm⟩, by omega, fun c4 H19 s19 N19 => ⟨_, rfl, q, _, _, _, rfl, rfl, SqL.of (s19 _ _ (M7.sm _ _ hq5)), at2_1, (by show 1 ≤ sizeLine; decide), fun g4 ng4 => ⟨g, g4, _, _, rfl, rfl, same_new ng4 _ _ (s19 _ _ (M7.sm _ _ hg5)), upd_same, szL (by rw [List.length_map]; show _ + 1 ≤ _; omega), fun g5 ng5 => ?_⟩⟩⟩
    obtain ⟨_, as19, hc19, hRw19, _⟩ := N19
    have s20 := (same_new (o := .lst [.bl true]) ng4).trans (same_new (o := .lst (G.map V.bl ++ [.bl true])) ng5)
    refine ⟨sc, c4, g5, r, cc, c, R, G ++ [true], -1, rfl, ⟨dsc, s20 _ _ (s19 _ _ (M7.sm _ _ hs5))⟩, hc2, ⟨as19, s20 _ _ hc19, hRw19.same s20⟩, (by rw [upd_same, snocB]), by omega, rl9, bad_len (.inr (by rw [List.length_append]; show _ + 1 ≠ _; omega)), fun H20 s21 => ?_⟩
    have M8 := M7.same (s19.trans ((show Same H19 _ from s20).trans s21))
    refine ⟨tl, _, _, rfl, rfl, M8.told, szLt (by rw [List.length_map]; show 3 < 1000000; decide), ?_⟩
    rw [snocI]
    have M9 := M8.app (z := -1)
    generalize upd H20 tl (iL ((([(i : Int)] ++ [((min i k : Nat) : Int)]) ++ [-1]) ++ [-1])) = H21 at M9
    -- no row
    refine ⟨_, rfl, .inl ⟨rfl, _, SqL.of M9.told⟩, _, rfl, (by show 0 ≤ sizeLine; decide), fun c5 nc5 => ⟨(by show 0 ≤ sizeLine; decide), fun g6 ng6 => ?_⟩⟩
    have s22 := (same_new (o := .lst []) nc5).trans (same_new (o := .lst []) ng6)
    refine ⟨sc, c5, g6, r, cc, c, [], [], -1, rfl, ⟨dsc, s22 _ _ (M9.sm _ _ hs5)⟩, hc2, ⟨[], same_new ng6 _ _ upd_same, .nil⟩, upd_same, by show 0 ≤ 1000; decide, (fun r hr => by cases hr), bad_len (.inl rfl), fun H22 s23 => ?_⟩
    have M10 := M9.same ((show Same H21 _ from s22).trans s23)
    refine ⟨tl, _, _, rfl, rfl, M10.told, szLt (by rw [List.length_map]; show 4 < 1000000; decide), ?_⟩
    rw [snocI]
    have M11 := M10.app (z := -1)
    generalize upd H22 tl (iL (((([(i : Int)] ++ [((min i k : Nat) : Int)]) ++ [-1]) ++ [-1]) ++ [-1])) = H23 at M11
    -- no row, one truth value
    refine ⟨_, rfl, .inl ⟨rfl, _, SqL.of M11.told⟩, _, rfl, (by show 0 ≤ sizeLine; decide), fun c6 nc6 => ⟨(by show 1 ≤ sizeLine; decide), fun g7 ng7 => ?_⟩⟩
    have s24 := (same_new (o := .lst []) nc6).trans (same_new (o := .lst [.bl true]) ng7)
    refine ⟨sc, c6, g7, r, cc, c, [], [true], -1, rfl, ⟨dsc, s24 _ _ (M11.sm _ _ hs5)⟩, hc2, ⟨[], same_new ng7 _ _ upd_same, .nil⟩, upd_same, by show 0 ≤ 1000; decide, (fun r hr => by cases hr), bad_len (.inl rfl), fun H24 s25 => ?_⟩
    have M12 := M11.same ((show Same H23 _ from s24).trans s25)
    refine ⟨tl, _, _, rfl, rfl, M12.told, szLt (by rw [List.length_map]; show 5 < 1000000; decide), ?_⟩
    rw [snocI]
    have M13 := M12.app (z := -1)
    generalize upd H24 tl (iL ((((([(i : Int)] ++ [((min i k : Nat) : Int)]) ++ [-1]) ++ [-1]) ++ [-1]) ++ [-1])) = H25 at M13
    generalize ets : ((((([(i : Int)] ++ [((min i k : Nat) : Int)]) ++ [-1]) ++ [-1]) ++ [-1]) ++ [-1]) = ts at M13
    -- all are whole numbers
    refine ⟨_, rfl, tl, rfl, ⟨_, SqL.of M13.told⟩, ?_⟩
    refine for_list (xs := ts.map V.int) (fun _ σ H' => H' = H25 ∧ ∃ y9 : Option V, σ = [some (.ref p), some (.ref sc), some (.ref q), some (.int (R.length : Nat)), some (.int (i : Nat)), some (.int (k : Nat)), some (.ref B), some (.ref l0), some (.ref tl), y9]) ⟨rfl, none, rfl⟩ (fun _ σ H' _ h => by obtain ⟨rfl, _⟩ := h; exact SqL.of M13.told) ?_ ?_
    · rintro j x σ H' hx ⟨rfl, y9, rfl⟩
      obtain ⟨z, hz, rfl⟩ := map_get' hx
      refine ⟨_, rfl, _, _, _, _, true, rfl, .ty "int", .base (.int _), (by unfold PySem.W.kitOne; simp), _, rfl, iteF ?_⟩
      refine ⟨_, rfl, _, _, _, _, false, rfl, .ty "bool", .base (.int _), kit_int_bool, _, rfl, iteF ?_⟩
      exact ⟨rfl, _, rfl⟩
    rintro σ H' ⟨rfl, y9, rfl⟩
    refine ⟨_, rfl, _, rfl, _, rfl, _, rfl, _, _, rfl, _, rfl, _, rfl, _, rfl, _, rfl, (by show 6 ≤ sizeLine; decide), fun z nz => ?_⟩
    have em : (if (k : Int) < (i : Int) then (k : Int) else (i : Int)) = ((min i k : Nat) : Int) := by
      by_cases h : (k : Int) < (i : Int)
      · rw [if_pos h, Nat.min_eq_right (by omega)]
      · rw [if_neg h, Nat.min_eq_left (by omega)]
    rw [em]
    refine rd_eqI (ns := ts) (ms := [(i : Int), ((min i k : Nat) : Int), -1, -1, -1, -1]) (same_new nz _ _ M13.told) upd_same ?_
    rw [decide_eq_true (show ts = [(i : Int), ((min i k : Nat) : Int), -1, -1, -1, -1] from ets.symm)]
    exact qq _ ((sb5.trans (Sb.of M13.sm)).trans (Sb.of (same_new nz)))
end
end Gal
end
section
set_option Elab.async false
set_option linter.all false
set_option maxRecDepth 100000
set_option maxHeartbeats 4000000
namespace Gal
open PySem PySem.Spec PyProof.Rows L2
section
variable {P : Program} {w : World} {K : PySem.W.Frag} {mg : Str → Option Value} {base : Heap}
/-! ### the law -/
theorem same_sb {H H1 H2 : Hp} {p : Addr} (s : Same H H1) (t : Sb p H1 H2) (n : H p = none) : Same H H2 := fun b o e => t b o (s b o e) (ne_of_none e n)
theorem gif_join {c : TT} {t e : TS} (F : List (Option V) → Hp → Prop) {i : Nat} {x : V} {D : Ends} {σ : List (Option V)} {H : Hp} {u : TS} {rt : VK} {bk ct : List (Option V) → Hp → Prop} (hn : ∀ σ' H', F σ' H' → u D σ' H') (h : (∀ σ' H', F σ' H' → u D σ' H') → tSeq (tIfS c t e) u D (σ.set i (some x)) H) : gName i x σ H (Ends.nx (Ends.mk (tSeq (tIfS c t e) u D) rt bk ct)) := h hn
theorem szs_ok : ∀ z ∈ szs, 1 ≤ z.1 ∧ z.1 ≤ 3 ∧ 2 ≤ z.2.1 ∧ z.2.1 ≤ 3 ∧ ¬ (z.1 = 3 ∧ z.2.1 = 3) ∧ z.2.1 ^ z.1 = z.2.2 ∧ 1 ≤ z.2.2 ∧ z.2.2 ≤ 9 := by decide
theorem szs_two : ∀ z ∈ szs, ∀ y ∈ szs, z.1 = y.1 ∧ z.2.1 = y.2.1 → z = y := by decide
theorem szs_four : ∀ z ∈ szs, (szs.filter fun y => !decide (y = z)).length = 4 := by decide
theorem SzAt.same {H H' : Hp} {b : Addr} {z : Nat × Nat × Nat} (h : SzAt H b z) (s : Same H H') : SzAt H' b z := s _ _ h
/-- a size, told as data -/
def dZ (z : Nat × Nat × Nat) : PyData := .tuple [.int (z.1 : Nat), .int (z.2.1 : Nat), .int (z.2.2 : Nat)]
theorem rd_neZ {H : Hp} {a b : Addr} {y z : Nat × Nat × Nat} {Q : VK} (h1 : SzAt H a y) (h2 : SzAt H b z) (q : Q (.bl (!decide (y = z))) H) : rNeD K (.ref a) (.ref b) H Q := by
  have sh : ∀ u : Nat × Nat × Nat, SeqAt.shaped (dZ u) = true := fun u => by
    unfold SeqAt.shaped dZ
    simp [PyData.canLay0, PyData.canLayAll0, PyData.depth, PyData.depthAll]
  refine ⟨dZ y, dZ z, .tup (SqT.of h1) (.cons (.int _) (.cons (.int _) (.cons (.int _) .nil))), .tup (SqT.of h2) (.cons (.int _) (.cons (.int _) (.cons (.int _) .nil))), sh y, sh z, ?_⟩
  have e : PyData.eqv (dZ y) (dZ z) = decide (y = z) := by
    obtain ⟨a1, a2, a3⟩ := y
    obtain ⟨b1, b2, b3⟩ := z
    unfold dZ
    simp only [PyData.eqv, PyData.eqvAll]
    by_cases h : (a1, a2, a3) = (b1, b2, b3)
    · cases h; simp
    · rw [decide_eq_false h]
      have h' : ¬ (a1 = b1 ∧ a2 = b2 ∧ a3 = b3) := fun w => h (by rw [w.1, w.2.1, w.2.2])
      simp only [Bool.and_true, Bool.and_eq_false_iff, beq_eq_false_iff_ne, ne_eq, Int.ofNat_inj]
      omega
  rw [e]
  exact q
abbrev N_law : List Str := ["_law_script", "_law_purse_here", "_law_size", "_law_second", "_law_most", "_law_table_here", "_law_scheme", "_law_passed", "_law_bale", "_law_twin_here", "_law_same", "_law_changed_here", "_law_third", "_law_one"]
theorem sc_law : FnScope N_law ["_law_script"] (defScope s_law) := ⟨rfl, rfl, rfl, by decide +kernel, rfl, by decide +kernel, by decide +kernel⟩
theorem b_law (T : TX K mg) : Binds K T.d_law ["_law_script"] [] := T.F_law.bindsN fun _ _ _ _ _ _ us hl => match us, hl with | [_], _ => rfl
def sp_law (K : PySem.W.Frag) : Sp := fun vs H Q _ => ∃ (a : Addr) (ns : List Int), vs = [.ref a] ∧ SqL K H a (ns.map V.int) ∧ ∀ H' : Hp, Q (.bl true) H'
theorem ok_law (T : TX K mg) (U : PySem.BtX.BTx P K mg) (V' : EXx K mg) : FnOk P w K mg base CX0 8 (He.fAd K ("law", none)) T.d_law ["_law_script"] (sp_law K) := by
  refine T.F_law.ok sc_law (fun vs H Q E h => ?_) (fun cdv A outer s H vs Q E hr h => ?_)
  · obtain ⟨a, ns, rfl, _⟩ := h
    rfl
  · obtain ⟨a, ns, rfl, hS, qq⟩ := h
    refine ⟨_, PSs.nox (pss_cons (ps_set (i := 1) sc_law.nd rfl (Or.inl rfl) (pe_call (ok_l_purse T) (hr.mono (by decide)) (by rfl) T.g_l_purse T.F_l_purse.kp (b_l_purse T) .nil pass0 (pa_cons (pv 0) (pa_cons pe_int (pa_cons pe_int pa_nil)))))
    (pss_cons (ps_set (i := 2) sc_law.nd rfl (Or.inr rfl) (pe_ix (ixL K) (pe_call0 (ok_l_sizes T) (hr.mono (by decide)) (by rfl) T.g_l_sizes T.F_l_sizes.kp (b_l_sizes T) .nil pass0) (pe_call (ok_l_draw T) (hr.mono (by decide)) (by rfl) T.g_l_draw T.F_l_draw.kp (b_l_draw T) .nil pass0 (pa_cons (pv 1) (pa_cons pe_int pa_nil))) (fun _ _ => rfl)))
    (pss_cons (ps_set (i := 3) sc_law.nd rfl (Or.inl rfl) (pe_ix (ixL K) (pe_lc (own := [("_law_one", 13)]) (g := gName 13) rfl sc_law.nd (pi_listK K (pe_call0 (ok_l_sizes T) (hr.mono (by decide)) (by rfl) T.g_l_sizes T.F_l_sizes.kp (b_l_sizes T) .nil pass0)) (blkOk_by (own := [("_law_one", 13)]) (N := N_law) (sc := defScope s_law) (by decide +kernel)) (fun _ _ _ _ _ => (pg_name (i := 13) sc_law.nd rfl (Or.inl rfl))) (fun _ _ _ _ _ => (pts_one (pt_cmpR (neDK K hr.units) (pv 13) (pv 2) (nomark _)))) (fun _ _ _ _ _ => (pv 13))) (pe_call (ok_l_draw T) (hr.mono (by decide)) (by rfl) T.g_l_draw T.F_l_draw.kp (b_l_draw T) .nil pass0 (pa_cons (pv 1) (pa_cons pe_int pa_nil))) (fun _ _ => rfl)))
    (pss_cons (ps_set (i := 4) sc_law.nd rfl (Or.inl rfl) (pe_ix (ixL K) (pe_lst (pa_cons pe_int (pa_cons pe_int (pa_cons pe_int (pa_cons pe_int (pa_cons pe_int (pa_cons pe_int (pa_cons pe_int (pa_cons pe_int pa_nil))))))))) (pe_call (ok_l_draw T) (hr.mono (by decide)) (by rfl) T.g_l_draw T.F_l_draw.kp (b_l_draw T) .nil pass0 (pa_cons (pv 1) (pa_cons pe_int pa_nil))) (fun _ _ => rfl)))
    (pss_cons (ps_set (i := 5) sc_law.nd rfl (Or.inl rfl) (pe_call (ok_l_drawn T) (hr.mono (by decide)) (by rfl) T.g_l_drawn T.F_l_drawn.kp (b_l_drawn T) .nil pass0 (pa_cons (pv 1) (pa_cons (pe_ix (ixT K) (pv 2) pe_int (fun _ _ => rfl)) (pa_cons (pv 4) pa_nil)))))
    (pss_cons (ps_if (pt_cmpR op_eq (pe_call (ok_l_draw T) (hr.mono (by decide)) (by rfl) T.g_l_draw T.F_l_draw.kp (b_l_draw T) .nil pass0 (pa_cons (pv 1) (pa_cons pe_int pa_nil))) pe_int (nomark _)) (pss_one (ps_set (i := 5) sc_law.nd rfl (Or.inl rfl) (pe_call (ok_l_drawn T) (hr.mono (by decide)) (by rfl) T.g_l_drawn T.F_l_drawn.kp (b_l_drawn T) .nil pass0 (pa_cons (pv 1) (pa_cons (pe_ix (ixT K) (pv 2) pe_int (fun _ _ => rfl)) (pa_cons (pe_op op_add pe_int (pe_call (ok_l_draw T) (hr.mono (by decide)) (by rfl) T.g_l_draw T.F_l_draw.kp (b_l_draw T) .nil pass0 (pa_cons (pv 1) (pa_cons pe_int pa_nil)))) pa_nil)))))) pss_nil)
    (pss_cons (ps_set (i := 6) sc_law.nd rfl (Or.inl rfl) (pe_make T.mk_Scheme (ok_s_init T) (hr.mono (by decide)) (by rfl) T.m_Scheme (b_s_init T) .nil pass0 (pa_cons (pe_ix (ixT K) (pv 2) pe_int (fun _ _ => rfl)) (pa_cons (pe_ix (ixT K) (pv 2) pe_int (fun _ _ => rfl)) pa_nil))))
    (pss_cons (ps_set (i := 7) sc_law.nd rfl (Or.inl rfl) (pe_lst (pa_cons (pe_call (ok_l_copied T) (hr.mono (by decide)) (by rfl) T.g_l_copied T.F_l_copied.kp (b_l_copied T) .nil pass0 (pa_cons (pe_ix (ixL K) (pv 5) pe_int (fun _ _ => rfl)) pa_nil)) (pa_cons (pe_callTy (lstK K) (by rfl) T.n_list bt_list (pa_cons (pe_ix (ixL K) (pv 5) pe_int (fun _ _ => rfl)) pa_nil)) pa_nil))))
    (pss_cons (ps_set (i := 8) sc_law.nd rfl (Or.inl rfl) (pe_make T.mk_Bale (ok_b_init T) (hr.mono (by decide)) (by rfl) T.m_Bale (b_b_init T) .nil pass0 (pa_cons (pv 6) (pa_cons (pe_ix (ixL K) (pv 7) pe_int (fun _ _ => rfl)) (pa_cons (pe_ix (ixL K) (pv 7) pe_int (fun _ _ => rfl)) pa_nil)))))
    (pss_cons (ps_if (PW.pt (pw_or (pt_not (pt_val (pe_call (ok_l_least T) (hr.mono (by decide)) (by rfl) T.g_l_least T.F_l_least.kp (b_l_least T) .nil pass0 (pa_cons (fldK K (pv 8) rfl) (pa_cons (fldK K (pv 8) rfl) (pa_cons (pe_ix (ixT K) (pv 2) pe_int (fun _ _ => rfl)) pa_nil)))))) (pw_or1 (pt_not (pt_val (pe_call (ok_l_alike T) (hr.mono (by decide)) (by rfl) T.g_l_alike T.F_l_alike.kp (b_l_alike T) .nil pass0 (pa_cons (pv 5) (pa_cons (pe_lst (pa_cons (fldK K (pv 8) rfl) (pa_cons (fldK K (pv 8) rfl) pa_nil))) (pa_cons (pe_ix (ixT K) (pv 2) pe_int (fun _ _ => rfl)) pa_nil))))))))) (pss_one (ps_ret pe_bl)) pss_nil)
    (pss_cons (ps_set (i := 9) sc_law.nd rfl (Or.inl rfl) (pe_call (ok_l_twin T) (hr.mono (by decide)) (by rfl) T.g_l_twin T.F_l_twin.kp (b_l_twin T) .nil pass0 (pa_cons (pe_call (ok_l_purse T) (hr.mono (by decide)) (by rfl) T.g_l_purse T.F_l_purse.kp (b_l_purse T) .nil pass0 (pa_cons (pv 0) (pa_cons pe_int (pa_cons pe_int pa_nil)))) (pa_cons (pv 5) (pa_cons (pe_ix (ixT K) (pv 2) pe_int (fun _ _ => rfl)) pa_nil)))))
    (pss_cons (ps_set (i := 10) sc_law.nd rfl (Or.inl rfl) (pe_make T.mk_Bale (ok_b_init T) (hr.mono (by decide)) (by rfl) T.m_Bale (b_b_init T) .nil pass0 (pa_cons (pv 6) (pa_cons (pe_call (ok_l_copied T) (hr.mono (by decide)) (by rfl) T.g_l_copied T.F_l_copied.kp (b_l_copied T) .nil pass0 (pa_cons (pe_ix (ixL K) (pv 9) pe_int (fun _ _ => rfl)) pa_nil)) (pa_cons (pe_callTy (lstK K) (by rfl) T.n_list bt_list (pa_cons (pe_ix (ixL K) (pv 9) pe_int (fun _ _ => rfl)) pa_nil)) pa_nil)))))
    (pss_cons (ps_if (PW.pt (pw_or (pt_not (pt_cmpR (op_eqO K (ok_b_eq T) (hr.mono (by decide)) T.eq_B T.fe_B (b_b_eq T)) (pv 10) (pv 8) (nomark _))) (pw_or (pt_cmpR (neDK K hr.units) (fldK K (pv 10) rfl) (fldK K (pv 8) rfl) (nomark _)) (pw_or1 (pt_cmpR (neDK K hr.units) (fldK K (pv 10) rfl) (fldK K (pv 8) rfl) (nomark _)))))) (pss_one (ps_ret pe_bl)) pss_nil)
    (pss_cons (ps_set (i := 11) sc_law.nd rfl (Or.inl rfl) (pe_call (ok_l_changed T) (hr.mono (by decide)) (by rfl) T.g_l_changed T.F_l_changed.kp (b_l_changed T) .nil pass0 (pa_cons (pe_call (ok_l_purse T) (hr.mono (by decide)) (by rfl) T.g_l_purse T.F_l_purse.kp (b_l_purse T) .nil pass0 (pa_cons (pv 0) (pa_cons pe_int (pa_cons pe_int pa_nil)))) (pa_cons (pv 5) (pa_cons (pe_ix (ixT K) (pv 2) pe_int (fun _ _ => rfl)) pa_nil)))))
    (pss_cons (ps_set (i := 12) sc_law.nd rfl (Or.inl rfl) (pe_make T.mk_Bale (ok_b_init T) (hr.mono (by decide)) (by rfl) T.m_Bale (b_b_init T) .nil pass0 (pa_cons (pv 6) (pa_cons (pe_call (ok_l_copied T) (hr.mono (by decide)) (by rfl) T.g_l_copied T.F_l_copied.kp (b_l_copied T) .nil pass0 (pa_cons (pe_ix (ixL K) (pv 11) pe_int (fun _ _ => rfl)) pa_nil)) (pa_cons (pe_callTy (lstK K) (by rfl) T.n_list bt_list (pa_cons (pe_ix (ixL K) (pv 11) pe_int (fun _ _ => rfl)) pa_nil)) pa_nil)))))
    (pss_cons (ps_if (pt_cmpR op_ne (pe_cmpR (op_eqO K (ok_b_eq T) (hr.mono (by decide)) T.eq_B T.fe_B (b_b_eq T)) (pv 12) (pv 8) (nomark _)) (pe_call (ok_l_alike T) (hr.mono (by decide)) (by rfl) T.g_l_alike T.F_l_alike.kp (b_l_alike T) .nil pass0 (pa_cons (pv 5) (pa_cons (pv 11) (pa_cons (pe_ix (ixT K) (pv 2) pe_int (fun _ _ => rfl)) pa_nil)))) (nomark _)) (pss_one (ps_ret pe_bl)) pss_nil)
    (pss_cons (ps_if (pt_not (pt_val (pe_call (ok_l_refused T U V') (hr.mono (by decide)) (by rfl) T.g_l_refused T.F_l_refused.kp (b_l_refused T) .nil pass0 (pa_cons (pe_call (ok_l_purse T) (hr.mono (by decide)) (by rfl) T.g_l_purse T.F_l_purse.kp (b_l_purse T) .nil pass0 (pa_cons (pv 0) (pa_cons pe_int (pa_cons pe_int pa_nil)))) (pa_cons (pv 6) (pa_cons (pv 5) pa_nil)))))) (pss_one (ps_ret pe_bl)) pss_nil)
    (pss_one (ps_ret (pe_call (ok_l_kept T) (hr.mono (by decide)) (by rfl) T.g_l_kept T.F_l_kept.kp (b_l_kept T) .nil pass0 (pa_cons (pv 8) (pa_cons (pv 6) (pa_cons (pv 5) (pa_cons (pv 7) (pa_cons (pe_make T.mk_Scheme (ok_s_init T) (hr.mono (by decide)) (by rfl) T.m_Scheme (b_s_init T) .nil pass0 (pa_cons (pe_ix (ixT K) (pv 3) pe_int (fun _ _ => rfl)) (pa_cons (pe_ix (ixT K) (pv 3) pe_int (fun _ _ => rfl)) pa_nil))) pa_nil))))))))))))))))))))))))), ?_⟩
    refine ⟨_, rfl, a, ns, 0, _, rfl, hS, by decide, fun p x y np => ?_⟩
    have s1 : Same H (upd H p (pu x y 0)) := same_new np
    have pu1 : PuAt (upd H p (pu x y 0)) p := PuAt.to
    generalize upd H p (pu x y 0) = H1 at s1 pu1
    -- a size
    refine ⟨rfl, fun q as H2 s2 nq hq hP => ?_⟩
    have pu2 := pu1.same s2
    have npq : q ≠ p := by
      obtain ⟨_, _, _, e⟩ := pu1
      exact (ne_of_none e nq).symm
    refine ⟨_, rfl, p, 5, rfl, by decide, by decide, pu2, fun d a1 a2 a3 d0 d1 => ?_⟩
    obtain ⟨i, rfl, hi⟩ := ex_lt (n := 5) d0 d1
    obtain ⟨z, hz⟩ : ∃ z, szs[i]? = some z := ⟨_, List.getElem?_eq_getElem (show i < szs.length by show i < 5; omega)⟩
    obtain ⟨za, hza, hzt⟩ := paired_get' hP hz
    have zm := List.mem_of_getElem? hz
    obtain ⟨zr1, zr2, zc1, zc2, zn, ze, zw1, zw2⟩ := szs_ok z zm
    have hq3 : upd H2 p (pu a1 a2 a3) q = some (rL as) := upd_at npq hq
    have pu3 : PuAt (upd H2 p (pu a1 a2 a3)) p := PuAt.to
    have hz3 : SzAt (upd H2 p (pu a1 a2 a3)) za z := by
      obtain ⟨_, _, _, e⟩ := pu2
      exact upd_at (ne_of hzt e (fun z => by cases z)) hzt
    have s3 : Same H (upd H2 p (pu a1 a2 a3)) := same_mut (s1.trans s2) np
    generalize upd H2 p (pu a1 a2 a3) = H3 at hq3 pu3 hz3 s3
    refine ⟨q, _, _, _, rfl, rfl, SqL.of hq3, atI_map hza, ?_⟩
    -- another one
    refine ⟨rfl, fun q' as' H4 s4 nq' hq' hP' => ?_⟩
    refine ⟨q', rfl, ⟨_, SqL.of hq'⟩, fun D nD => ?_⟩
    have hzq := hz3.same s4
    refine lc_list (K := K) (a := q') (xs := as'.map V.ref) (fun j H' => ∃ ks, H' = upd H4 D (rL ks) ∧ Paired (SzAt H4) ks ((szs.take j).filter fun y => !decide (y = z))) ⟨[], rfl, .nil⟩ (fun j H' _ h => by obtain ⟨ks, rfl, _⟩ := h; exact SqL.of (same_new nD _ _ hq')) ?_ ?_
    · rintro j x H' hx ⟨ks, rfl, hks⟩
      obtain ⟨b, hb, rfl⟩ := map_get' hx
      obtain ⟨y, hy, hby⟩ := paired_get hP' hb
      have sD : ∀ {o : HO}, Same H4 (upd H4 D o) := fun {o} => same_new nD
      refine ⟨rfl, _, rfl, _, rfl, rd_neZ (hby.same sD) (hzq.same sD) ⟨_, rfl, ite2 (fun h => ?_) (fun h => ?_)⟩⟩
      · refine ⟨_, rfl, _, upd_same, szLt (by rw [List.length_map, Paired.length hks]; refine Nat.lt_of_le_of_lt (List.length_filter_le _ _) ?_; exact Nat.lt_of_le_of_lt (List.length_take_le _ _) (by have := (List.getElem?_eq_some_iff.mp hy).1; have e5 : szs.length = 5 := rfl; omega)), ks ++ [b], ?_, ?_⟩
        · rw [upd_upd]
          show upd H4 D (.lst (ks.map V.ref ++ [V.ref b])) = upd H4 D (.lst ((ks ++ [b]).map V.ref))
          rw [List.map_append]; rfl
        · rw [List.take_succ, hy, List.filter_append]
          show Paired _ _ (_ ++ List.filter _ [y])
          rw [List.filter_cons_of_pos (p := fun y => !decide (y = z)) h]
          exact paired_app hks (.cons hby .nil)
      · refine ⟨ks, rfl, ?_⟩
        rw [List.take_succ, hy, List.filter_append]
        show Paired _ _ (_ ++ List.filter _ [y])
        rw [List.filter_cons_of_neg (p := fun y => !decide (y = z)) h, List.filter_nil, List.append_nil]
        exact hks
    rintro H5 ⟨ks, rfl, hks⟩
    have e5 : (as'.map V.ref).length = szs.length := by rw [List.length_map, Paired.length hP']
    rw [e5, List.take_length] at hks
    have k4 : ks.length = 4 := (Paired.length hks).trans (szs_four z zm)
    have s5 : Same H4 (upd H4 D (rL ks)) := same_new nD
    have hD : upd H4 D (rL ks) D = some (rL ks) := upd_same
    have hks5 : Paired (SzAt (upd H4 D (rL ks))) ks (szs.filter fun y => !decide (y = z)) := Paired.mapP hks fun u v e => e.same s5
    have S5 := s4.trans s5
    have pu5 := pu3.same S5
    have hz5 := hz3.same S5
    have S5H := s3.trans S5
    have nDp : D ≠ p := by
      obtain ⟨_, _, _, e⟩ := pu3.same s4
      exact (ne_of_none e nD).symm
    generalize upd H4 D (rL ks) = H5 at s5 hD hks5 S5 pu5 hz5 S5H
    refine ⟨_, rfl, p, 4, rfl, by decide, by decide, pu5, fun d a1 a2 a3 d0 d1 => ?_⟩
    obtain ⟨k, rfl, hk⟩ := ex_lt (n := 4) d0 d1
    obtain ⟨z', hz'⟩ : ∃ z', (szs.filter fun y => !decide (y = z))[k]? = some z' := ⟨_, List.getElem?_eq_getElem (show k < (szs.filter fun y => !decide (y = z)).length by rw [szs_four z zm]; omega)⟩
    obtain ⟨zb, hzb, hzbt⟩ := paired_get' hks5 hz'
    obtain ⟨zm', zne⟩ := List.mem_filter.mp (List.mem_of_getElem? hz')
    have zne : z' ≠ z := ne_of_bang zne
    obtain ⟨yr1, yr2, yc1, yc2, yn, ye, yw1, yw2⟩ := szs_ok z' zm'
    have nzp : ∀ {u : Addr} {y : Nat × Nat × Nat}, SzAt H5 u y → u ≠ p := fun {u y} h => by
      obtain ⟨_, _, _, e⟩ := pu5
      exact ne_of h e (fun z => by cases z)
    have hz6 : SzAt (upd H5 p (pu a1 a2 a3)) za z := upd_at (nzp hz5) hz5
    have hy6 : SzAt (upd H5 p (pu a1 a2 a3)) zb z' := upd_at (nzp hzbt) hzbt
    have hD6 : upd H5 p (pu a1 a2 a3) D = some (rL ks) := upd_at nDp hD
    have pu6 : PuAt (upd H5 p (pu a1 a2 a3)) p := PuAt.to
    have s6 : Same H (upd H5 p (pu a1 a2 a3)) := same_mut S5H np
    generalize upd H5 p (pu a1 a2 a3) = H6 at hz6 hy6 hD6 pu6 s6
    refine ⟨D, _, _, _, rfl, rfl, SqL.of hD6, atI_map hzb, ?_⟩
    -- how many rows at most
    refine ⟨(by show 8 ≤ sizeLine; decide), fun m nm => ⟨_, rfl, p, 8, rfl, by decide, by decide, pu6.same (same_new nm), fun d a1 a2 a3 d0 d1 => ?_⟩⟩
    obtain ⟨n8, rfl, hn8⟩ := ex_lt (n := 8) d0 d1
    have nmp : m ≠ p := by
      obtain ⟨_, _, _, e⟩ := pu6
      exact (ne_of_none e nm).symm
    obtain ⟨mo, hmo, mo1, mo2⟩ : ∃ mo : Nat, ([.int 5, .int 5, .int 5, .int 5, .int 5, .int 5, .int 5, .int 12] : List V)[n8]? = some (.int (mo : Nat)) ∧ 1 ≤ mo ∧ mo ≤ 40 := by
      have h8 : n8 < 8 := by omega
      match n8, h8 with
      | 0, _ => exact ⟨5, rfl, by decide, by decide⟩
      | 1, _ => exact ⟨5, rfl, by decide, by decide⟩
      | 2, _ => exact ⟨5, rfl, by decide, by decide⟩
      | 3, _ => exact ⟨5, rfl, by decide, by decide⟩
      | 4, _ => exact ⟨5, rfl, by decide, by decide⟩
      | 5, _ => exact ⟨5, rfl, by decide, by decide⟩
      | 6, _ => exact ⟨5, rfl, by decide, by decide⟩
      | 7, _ => exact ⟨12, rfl, by decide, by decide⟩
    have nzp6 : ∀ {u : Addr} {y : Nat × Nat × Nat}, SzAt H6 u y → u ≠ p := fun {u y} h => by
      obtain ⟨_, _, _, e⟩ := pu6
      exact ne_of h e (fun z => by cases z)
    have s7 : Same H6 (upd H6 m (.lst [.int 5, .int 5, .int 5, .int 5, .int 5, .int 5, .int 5, .int 12])) := same_new nm
    have sb7 : Sb p H6 (upd (upd H6 m (.lst [.int 5, .int 5, .int 5, .int 5, .int 5, .int 5, .int 5, .int 12])) p (pu a1 a2 a3)) := (Sb.of s7).set
    have hm7 : upd (upd H6 m (.lst [.int 5, .int 5, .int 5, .int 5, .int 5, .int 5, .int 5, .int 12])) p (pu a1 a2 a3) m = some (.lst [.int 5, .int 5, .int 5, .int 5, .int 5, .int 5, .int 5, .int 12]) := upd_at nmp upd_same
    have pu7 : PuAt (upd (upd H6 m (.lst [.int 5, .int 5, .int 5, .int 5, .int 5, .int 5, .int 5, .int 12])) p (pu a1 a2 a3)) p := PuAt.to
    refine ⟨m, _, _, _, rfl, rfl, SqL.of hm7, atI_nat hmo, ?_⟩
    have hz7 : SzAt _ za z := sb7 _ _ hz6 (nzp6 hz6)
    have hy7 : SzAt _ zb z' := sb7 _ _ hy6 (nzp6 hy6)
    have S7 := same_sb s6 sb7 np
    generalize upd (upd H6 m (.lst [.int 5, .int 5, .int 5, .int 5, .int 5, .int 5, .int 5, .int 12])) p (pu a1 a2 a3) = H7 at pu7 hz7 hy7 S7
    have nzp7 : ∀ {u : Addr} {y : Nat × Nat × Nat}, SzAt H7 u y → u ≠ p := fun {u y} h => by
      obtain ⟨_, _, _, e⟩ := pu7
      exact ne_of h e (fun z => by cases z)
    -- a table
    refine ⟨_, rfl, _, rfl, za, _, _, _, rfl, rfl, SqT.of hz7, at3_2, _, rfl, p, z.2.2, mo, rfl, pu7, zw1, zw2, mo1, mo2, fun tq H8 R G sb8 pu8 hT8 W8 hl8 => ?_⟩
    have hz8 : SzAt H8 za z := sb8 _ _ hz7 (nzp7 hz7)
    have hy8 : SzAt H8 zb z' := sb8 _ _ hy7 (nzp7 hy7)
    have S8 := same_sb S7 sb8 np
    have TT8 : TabAt H8 tq R G := by
      obtain ⟨_, t, r, h1, ⟨_, as, h2, h3, _⟩, _, h5⟩ := hT8
      exact ⟨t, r, h1, ⟨as, h2, h3⟩, h5⟩
    have hl8 : R.length ≤ 40 := Nat.le_trans hl8 mo2
    refine gif_join (fun σ H' => ∃ tq R G, σ = [some (.ref a), some (.ref p), some (.ref za), some (.ref zb), some (.int (mo : Nat)), some (.ref tq), none, none, none, none, none, none, none, none] ∧ Same H H' ∧ SzAt H' za z ∧ SzAt H' zb z' ∧ TabAt H' tq R G ∧ WF z.2.2 R G ∧ R.length ≤ 40) ?_ (fun jn => ?_)
    · rintro σ H9 ⟨tq, R, G, rfl, S9, hz9, hy9, TT9, W, hl⟩
      clear hT8 TT8 W8 hl8 sb8 pu8
      have hpos := W.pos
      have hgl := W.len
      -- the scheme
      refine ⟨_, rfl, za, _, _, _, rfl, rfl, SqT.of hz9, at3_0, _, rfl, za, _, _, _, rfl, rfl, SqT.of hz9, at3_1, fun sx sdx nsx nsdx nsdxx => ?_⟩
      refine ⟨sx, sdx, z.1, z.2.1, rfl, upd_same, zr1, zr2, zc1, zc2, zn, rfl, ?_⟩
      rw [upd_upd, ze]
      have sS := pre_make (o := .ins (Sc K) sdx [("rows", .int (z.1 : Nat)), ("colours", .int (z.2.1 : Nat)), ("columns", .str (colT z.2.2))]) nsx nsdx
      have hs10 : SchAt K (upd (upd H9 sdx (.own sx)) sx (.ins (Sc K) sdx [("rows", .int (z.1 : Nat)), ("colours", .int (z.2.1 : Nat)), ("columns", .str (colT z.2.2))])) sx z.1 z.2.1 z.2.2 := ⟨sdx, upd_same⟩
      have S10 := S9.trans sS
      have hz10 := hz9.same sS
      have hy10 := hy9.same sS
      have TT10 := TT9.same sS
      generalize upd (upd H9 sdx (.own sx)) sx (.ins (Sc K) sdx [("rows", .int (z.1 : Nat)), ("colours", .int (z.2.1 : Nat)), ("columns", .str (colT z.2.2))]) = H10 at hs10 S10 hz10 hy10 TT10
      clear sS
      -- what is passed
      obtain ⟨t, g, htq, ⟨tas, ht, htR⟩, hg⟩ := id TT10
      refine ⟨_, rfl, tq, _, _, _, rfl, rfl, SqL.of htq, at2_0, t, R, rfl, ⟨tas, ht, htR⟩, by omega, fun pt H11 s11 N11 => ?_⟩
      obtain ⟨npt, pas, hpt, hpR, hpn, _⟩ := N11
      refine ⟨_, rfl, tq, _, _, _, rfl, rfl, SqL.of (s11 _ _ htq), at2_1, g, _, rfl, .inl (SqL.of (s11 _ _ hg)), fun pr npr => ⟨(by show 2 ≤ sizeLine; decide), fun pq npq => ?_⟩⟩
      have s12 : Same H11 (upd (upd H11 pr (bL G)) pq (.lst [.ref pt, .ref pr])) := (same_new npr).trans (same_new npq)
      have hpq12 : upd (upd H11 pr (bL G)) pq (.lst [.ref pt, .ref pr]) pq = some (.lst [.ref pt, .ref pr]) := upd_same
      have hpr12 : upd (upd H11 pr (bL G)) pq (.lst [.ref pt, .ref pr]) pr = some (bL G) := same_new npq _ _ upd_same
      have hpt12 := s12 _ _ hpt
      have hpR12 := hpR.same s12
      have S12 : Same H10 _ := s11.trans s12
      have hs12 := hs10.same S12
      have hz12 := hz10.same S12
      have hy12 := hy10.same S12
      have TT12 := TT10.same S12
      have S12H := S10.trans S12
      generalize upd (upd H11 pr (bL G)) pq (.lst [.ref pt, .ref pr]) = H12 at hpq12 hpr12 hpt12 hpR12 hs12 hz12 hy12 TT12 S12H
      clear s12 S12
      -- the bale
      refine ⟨_, rfl, _, rfl, pq, _, _, _, rfl, rfl, SqL.of hpq12, at2_0, _, rfl, pq, _, _, _, rfl, rfl, SqL.of hpq12, at2_1, fun bx bdx nbx nbdx nbdxx => ?_⟩
      have s13 := pre_make (o := .ins (Bc K) bdx []) nbx nbdx
      refine ⟨bx, bdx, sx, pt, pr, z.1, z.2.1, z.2.2, R, G, rfl, upd_same, hs12.same s13, zw2, ⟨pas, s13 _ _ hpt12, hpR12.same s13⟩, s13 _ _ hpr12, W, by omega, fun H13 bq bg R1 G1 sb13 hx13 hT13 nbg hg13 hl1 LO => ⟨rfl, ?_⟩⟩
      obtain ⟨S13, BA⟩ := made_bale hs12 nbx nbdx sb13 hx13 hT13 hg13
      obtain ⟨nbq, bas, hbq13, hbR13, hbnew⟩ := hT13
      have hap : ∀ y ∈ bq :: bg :: bas, y ≠ pt ∧ y ≠ pr ∧ y ∉ pas := fun y hy => by
        have ny : H12 y = none := by
          rcases List.mem_cons.mp hy with rfl | hy
          · exact s13.free nbq
          rcases List.mem_cons.mp hy with rfl | hy
          · exact s13.free nbg
          · exact s13.free (hbnew y hy)
        exact ⟨(ne_of_none hpt12 ny).symm, (ne_of_none hpr12 ny).symm, rws_none hpR12 ny⟩
      clear sb13 s13 nbq nbg hbnew
      have S13H := S12H.trans S13
      have hs13 := hs12.same S13
      have hz13 := hz12.same S13
      have hy13 := hy12.same S13
      have TT13 := TT12.same S13
      have hpq13 := S13 _ _ hpq12
      have hpt13 := S13 _ _ hpt12
      have hpr13 := S13 _ _ hpr12
      have hpR13 := hpR12.same S13
      have L1 := LO.1
      -- it is the least, and like the table
      refine ⟨_, rfl, bx, _, _, _, _, rfl, hx13, T.c_Bale, T.nb_rows, rfl, _, rfl, bx, _, _, _, _, rfl, hx13, T.c_Bale, T.nb_goods, rfl, _, rfl, za, _, _, _, rfl, rfl, SqT.of hz13, at3_2, bq, bg, z.2.2, R1, G1, rfl, ⟨bas, hbq13, hbR13⟩, hg13, L1, by omega, by omega, fun H14 s14 => ⟨_, rfl, iteF ?_⟩⟩
      have W1 := L1.wf
      have hx14 := s14 _ _ hx13
      have hz14 := hz13.same s14
      refine ⟨_, rfl, _, rfl, bx, _, _, _, _, rfl, hx14, T.c_Bale, T.nb_rows, rfl, _, rfl, bx, _, _, _, _, rfl, hx14, T.c_Bale, T.nb_goods, rfl, (by show 2 ≤ sizeLine; decide), fun bl nbl => ?_⟩
      have s15 : Same H14 (upd H14 bl (.lst [.ref bq, .ref bg])) := same_new nbl
      have hbl15 : upd H14 bl (.lst [.ref bq, .ref bg]) bl = some (.lst [.ref bq, .ref bg]) := upd_same
      have S15 : Same H13 _ := s14.trans s15
      refine ⟨_, rfl, za, _, _, _, rfl, rfl, SqT.of (s15 _ _ hz14), at3_2, tq, bl, z.2.2, R, G, R1, G1, rfl, TT13.same S15, ⟨bq, bg, hbl15, ⟨bas, S15 _ _ hbq13, hbR13.same S15⟩, S15 _ _ hg13⟩, W, W1, by omega, by omega, by omega, fun H16 bb s16 hbb => ⟨_, rfl, ?_⟩⟩
      have hbb : bb = true := hbb.mpr LO.2.symm
      subst hbb
      refine iteF ?_
      have S16 := S15.trans s16
      have BA16 := BA.same S16
      have hx16 := S16 _ _ hx13
      have hz16 := hz13.same S16
      have hy16 := hy13.same S16
      have TT16 := TT13.same S16
      have hs16 := hs13.same S16
      have S16H := S13H.trans S16
      have kp16 : Same H13 H16 := S16
      clear S15 s15 s14 s16 S16 hx14 hz14 hbl15
      -- a twin
      refine ⟨_, rfl, a, ns, 1, _, rfl, S16H.seq hS, by decide, fun p2 x y np2 => ?_⟩
      have s17 : Same H16 (upd H16 p2 (pu x y 0)) := same_new np2
      refine ⟨_, rfl, _, rfl, za, _, _, _, rfl, rfl, SqT.of (hz16.same s17), at3_2, p2, tq, z.2.2, R, G, rfl, PuAt.to, TT16.apart np2, W, zw1, zw2, hl, fun w H18 R' G' sb18 _ TTw W' hl' hL' => ?_⟩
      have S18 : Same H16 H18 := same_sb s17 sb18 np2
      clear s17 sb18
      obtain ⟨wt, wg, hw, ⟨was, hwt, hwR⟩, hwg⟩ := TTw
      refine ⟨_, rfl, _, rfl, w, _, _, _, rfl, rfl, SqL.of hw, at2_0, wt, R', rfl, ⟨was, hwt, hwR⟩, by omega, fun ct H19 s19 N19 => ?_⟩
      obtain ⟨_, cas, hct, hcR, _, _⟩ := N19
      refine ⟨_, rfl, w, _, _, _, rfl, rfl, SqL.of (s19 _ _ hw), at2_1, wg, _, rfl, .inl (SqL.of (s19 _ _ hwg)), fun cg ncg xx xdx nxx nxdx nxdxx => ?_⟩
      have s20 : Same H19 (upd H19 cg (bL G')) := same_new ncg
      have hcg : upd H19 cg (bL G') cg = some (bL G') := upd_same
      have S20 : Same H16 _ := S18.trans (s19.trans s20)
      have hct20 := s20 _ _ hct
      have hcR20 := hcR.same s20
      generalize upd H19 cg (bL G') = H20 at nxx nxdx s20 hcg S20 hct20 hcR20
      have s21 := pre_make (o := .ins (Bc K) xdx []) nxx nxdx
      have hs20 := hs16.same S20
      refine ⟨xx, xdx, sx, ct, cg, z.1, z.2.1, z.2.2, R', G', rfl, upd_same, hs20.same s21, zw2, ⟨cas, s21 _ _ hct20, hcR20.same s21⟩, s21 _ _ hcg, W', by omega, fun H21 eq eg R2 G2 sb21 hx21 hT21 _ hg21 _ LO2 => ⟨rfl, ?_⟩⟩
      obtain ⟨S21, BA2⟩ := made_bale hs20 nxx nxdx sb21 hx21 hT21 hg21
      obtain ⟨_, eas, heq21, heR21, _⟩ := hT21
      have S21H : Same H16 H21 := S20.trans S21
      clear sb21 s21 s20 S20 S21 s19
      obtain ⟨e1, e2⟩ := one_least LO2.1 L1 (LO2.2.trans (hL'.trans LO.2.symm))
      subst e1 e2
      have BA21 := BA16.same S21H
      have hxb21 := S21H _ _ hx16
      refine ⟨_, rfl, _, rfl, xx, xdx, _, _, rfl, hx21, .base (.ins hxb21 T.c_Bale T.o_B T.o_get T.o_tk T.om_B), (by unfold PySem.W.notFirst; simp), xx, _, z.1, z.2.1, z.2.2, R2, G2, rfl, BA2, .inl ⟨bx, z.1, z.2.1, z.2.2, R2, G2, rfl, BA21, ⟨_, rfl⟩, _, rfl, ?_⟩⟩
      rw [decide_eq_true ⟨rfl, rfl, rfl, rfl⟩]
      refine iteF ?_
      refine ⟨_, rfl, xx, _, _, _, _, rfl, hx21, T.c_Bale, T.nb_rows, rfl, _, rfl, bx, _, _, _, _, rfl, hxb21, T.c_Bale, T.nb_rows, rfl, rd_neT ⟨eas, heq21, heR21⟩ ⟨bas, S21H _ _ (kp16 _ _ hbq13), (hbR13.same kp16).same S21H⟩ ⟨_, rfl, ?_⟩⟩
      rw [decide_eq_true rfl]
      refine iteF ?_
      refine ⟨_, rfl, xx, _, _, _, _, rfl, hx21, T.c_Bale, T.nb_goods, rfl, _, rfl, bx, _, _, _, _, rfl, hxb21, T.c_Bale, T.nb_goods, rfl, rd_neB hg21 (S21H _ _ (kp16 _ _ hg13)) ⟨_, rfl, ?_⟩⟩
      rw [decide_eq_true rfl]
      refine iteF ?_
      have kp21 : Same H13 H21 := kp16.trans S21H
      have S21a : Same H H21 := S16H.trans S21H
      have TT21 := TT16.same S21H
      have hz21 := hz16.same S21H
      have hy21 := hy16.same S21H
      have hs21 := hs16.same S21H
      clear S21H BA2 hx21 hg21 heq21 heR21
      -- a changed one
      refine ⟨_, rfl, a, ns, 2, _, rfl, S21a.seq hS, by decide, fun p3 x y np3 => ?_⟩
      have s22 : Same H21 (upd H21 p3 (pu x y 0)) := same_new np3
      refine ⟨_, rfl, _, rfl, za, _, _, _, rfl, rfl, SqT.of (hz21.same s22), at3_2, p3, tq, z.2.2, R, G, rfl, PuAt.to, TT21.apart np3, W, zw1, zw2, hl, fun v H23 R3' G3' sb23 _ TTv W3 hl3 => ?_⟩
      have S23 : Same H21 H23 := same_sb s22 sb23 np3
      clear s22 sb23
      obtain ⟨vt, vg, hv, ⟨vas, hvt, hvR⟩, hvg⟩ := id TTv
      refine ⟨_, rfl, _, rfl, v, _, _, _, rfl, rfl, SqL.of hv, at2_0, vt, R3', rfl, ⟨vas, hvt, hvR⟩, by omega, fun dt H24 s24 N24 => ?_⟩
      obtain ⟨_, das, hdt, hdR, _, _⟩ := N24
      refine ⟨_, rfl, v, _, _, _, rfl, rfl, SqL.of (s24 _ _ hv), at2_1, vg, _, rfl, .inl (SqL.of (s24 _ _ hvg)), fun dg ndg fx fdx nfx nfdx nfdxx => ?_⟩
      have s25 : Same H24 (upd H24 dg (bL G3')) := same_new ndg
      have hdg : upd H24 dg (bL G3') dg = some (bL G3') := upd_same
      have S24 : Same H23 _ := s24.trans s25
      have S25 : Same H21 _ := S23.trans S24
      have hdt25 := s25 _ _ hdt
      have hdR25 := hdR.same s25
      have TTv25 := TTv.same S24
      generalize upd H24 dg (bL G3') = H25 at nfx nfdx s25 hdg S25 hdt25 hdR25 S24 TTv25
      have s26 := pre_make (o := .ins (Bc K) fdx []) nfx nfdx
      have hs25 := hs21.same S25
      refine ⟨fx, fdx, sx, dt, dg, z.1, z.2.1, z.2.2, R3', G3', rfl, upd_same, hs25.same s26, zw2, ⟨das, s26 _ _ hdt25, hdR25.same s26⟩, s26 _ _ hdg, W3, by omega, fun H26 hq hg' R3 G3 sb26 hx26 hT26 _ hg26 _ LO3 => ⟨rfl, ?_⟩⟩
      obtain ⟨S26, BA3⟩ := made_bale hs25 nfx nfdx sb26 hx26 hT26 hg26
      have S26a : Same H21 H26 := S25.trans S26
      have TTv26 := TTv25.same S26
      clear sb26 s26 s25 S25 S26 s24 S24 hT26
      have BA26 := BA21.same S26a
      have hxb26 := S26a _ _ hxb21
      have TT26 := TT21.same S26a
      have hz26 := hz21.same S26a
      refine ⟨_, rfl, _, rfl, fx, fdx, _, _, rfl, hx26, .base (.ins hxb26 T.c_Bale T.o_B T.o_get T.o_tk T.om_B), (by unfold PySem.W.notFirst; simp), fx, _, z.1, z.2.1, z.2.2, R3, G3, rfl, BA3, .inl ⟨bx, z.1, z.2.1, z.2.2, R2, G2, rfl, BA26, ⟨_, rfl⟩, ?_⟩⟩
      refine ⟨_, rfl, _, rfl, _, rfl, za, _, _, _, rfl, rfl, SqT.of hz26, at3_2, tq, v, z.2.2, R, G, R3', G3', rfl, TT26, TTv26, W, W3, by omega, by omega, by omega, fun H27 b3 s27 hb3 => ?_⟩
      have eb : decide (z.1 = z.1 ∧ z.2.1 = z.2.1 ∧ R3 = R2 ∧ G3 = G2) = b3 := by
        by_cases h : L_ R G 0 = L_ R3' G3' 0
        · obtain ⟨f1, f2⟩ := one_least LO3.1 L1 (LO3.2.trans (h.symm.trans LO.2.symm))
          rw [hb3.mpr h, decide_eq_true ⟨rfl, rfl, f1, f2⟩]
        · have : b3 = false := by
            cases b3 with
            | true => exact absurd (hb3.mp rfl) h
            | false => rfl
          rw [this]
          refine decide_eq_false (fun w => h ?_)
          rw [← LO.2, ← LO3.2, w.2.2.1, w.2.2.2]
      rw [eb]
      refine ⟨rfl, _, rfl, iteNS rfl ?_⟩
      have kp27 : Same H13 H27 := kp21.trans (S26a.trans s27)
      have S27 : Same H H27 := S21a.trans (S26a.trans s27)
      have TT27 := TT26.same s27
      have hy27 := hy21.same (S26a.trans s27)
      have hs27 := hs21.same (S26a.trans s27)
      clear hx26 hg26 BA3 hxb26 hz26 TTv26 s27 S26a
      -- bad tables
      refine ⟨_, rfl, a, ns, 3, _, rfl, S27.seq hS, by decide, fun p4 x y np4 => ?_⟩
      have s28 : Same H27 (upd H27 p4 (pu x y 0)) := same_new np4
      have nsx : sx ≠ p4 := by
        obtain ⟨_, e⟩ := hs27
        exact ne_of_none e np4
      refine ⟨_, rfl, _, rfl, p4, sx, tq, z.1, z.2.1, z.2.2, R, G, rfl, PuAt.to, hs27.same s28, nsx, TT27.apart np4, W, zw1, zw2, hl, fun H29 sb29 => ⟨_, rfl, iteF ?_⟩⟩
      have S29 : Same H27 H29 := same_sb s28 sb29 np4
      clear s28 sb29
      have kp29 := kp27.trans S29
      have TT29 := TT27.same S29
      have hy29 := hy27.same S29
      have hs29 := hs27.same S29
      -- what is passed stays apart
      refine ⟨_, rfl, _, rfl, _, rfl, _, rfl, _, rfl, zb, _, _, _, rfl, rfl, SqT.of hy29, at3_0, _, rfl, zb, _, _, _, rfl, rfl, SqT.of hy29, at3_1, fun ux udx nux nudx nudxx => ?_⟩
      refine ⟨ux, udx, z'.1, z'.2.1, rfl, upd_same, yr1, yr2, yc1, yc2, yn, rfl, ?_⟩
      rw [upd_upd, ye]
      have s30 := pre_make (o := .ins (Sc K) udx [("rows", .int (z'.1 : Nat)), ("colours", .int (z'.2.1 : Nat)), ("columns", .str (colT z'.2.2))]) nux nudx
      have hu30 : SchAt K (upd (upd H29 udx (.own ux)) ux (.ins (Sc K) udx [("rows", .int (z'.1 : Nat)), ("colours", .int (z'.2.1 : Nat)), ("columns", .str (colT z'.2.2))])) ux z'.1 z'.2.1 z'.2.2 := ⟨udx, upd_same⟩
      generalize upd (upd H29 udx (.own ux)) ux (.ins (Sc K) udx [("rows", .int (z'.1 : Nat)), ("colours", .int (z'.2.1 : Nat)), ("columns", .str (colT z'.2.2))]) = H30 at s30 hu30
      have kp30 := kp29.trans s30
      exact ⟨bx, sx, tq, pq, ux, bdx, sx, bq, bg, pt, pr, bas, pas, z.1, z.2.1, z.2.2, z'.1, z'.2.1, z'.2.2, R, R2, G, G2, rfl, ⟨kp30 _ _ hx13, kp30 _ _ hbq13, hbR13.same kp30, kp30 _ _ hg13⟩, hs29.same s30, hs29.same s30, hu30, fun w => zne (szs_two z' zm' z zm ⟨w.1.symm, w.2.symm⟩), yw2, zw1, zw2, by omega, by omega,
        TT29.same s30, fun row hr => (W.row row hr).1, kp30 _ _ hpq13, kp30 _ _ hpt13, hpR13.same kp30, hpn, kp30 _ _ hpr13, hpos, hgl, hap, qq⟩
    · have nzp8 : ∀ {u : Addr} {y : Nat × Nat × Nat}, SzAt H8 u y → u ≠ p := fun {u y} h => by
        obtain ⟨_, _, _, e⟩ := pu8
        exact ne_of h e (fun z => by cases z)
      have TA8 : TabA p H8 tq R G := by
        obtain ⟨nq, t, r, h1, ⟨nt, as, h2, h3, h4⟩, nr, h5⟩ := hT8
        have nn : ∀ {u : Addr}, H7 u = none → u ≠ p := fun {u} h => by
          obtain ⟨_, _, _, e⟩ := pu7
          exact (ne_of_none e h).symm
        exact ⟨t, r, as, h1, h2, h3, h5, nn nq, nn nt, nn nr, fun z => nn (h4 p z) rfl⟩
      refine ⟨_, rfl, p, 16, rfl, by decide, by decide, pu8, fun d a1 a2 a3 d0 d1 => ?_⟩
      have sb9 : Sb p H8 (upd H8 p (pu a1 a2 a3)) := Sb.set Sb.refl
      have pu9 : PuAt (upd H8 p (pu a1 a2 a3)) p := PuAt.to
      have hz9 : SzAt _ za z := sb9 _ _ hz8 (nzp8 hz8)
      have hy9 : SzAt _ zb z' := sb9 _ _ hy8 (nzp8 hy8)
      have TA9 := TA8.sb sb9
      have S9 := same_sb S8 sb9 np
      generalize upd H8 p (pu a1 a2 a3) = H9 at sb9 pu9 hz9 hy9 TA9 S9
      refine ⟨rfl, _, rfl, ite2 (fun _ => ?_) (fun _ => ?_)⟩
      · have nzp9 : ∀ {u : Addr} {y : Nat × Nat × Nat}, SzAt H9 u y → u ≠ p := fun {u y} h => by
          obtain ⟨_, _, _, e⟩ := pu9
          exact ne_of h e (fun z => by cases z)
        refine ⟨_, rfl, _, rfl, za, _, _, _, rfl, rfl, SqT.of hz9, at3_2, _, rfl, p, 7, rfl, by decide, by decide, pu9, fun d a1 a2 a3 d0 d1 => ?_⟩
        obtain ⟨k7, rfl, hk7⟩ := ex_lt (n := 7) d0 d1
        have sb10 : Sb p H9 (upd H9 p (pu a1 a2 a3)) := Sb.set Sb.refl
        have pu10 : PuAt (upd H9 p (pu a1 a2 a3)) p := PuAt.to
        refine ⟨_, _, rfl, rfl, p, z.2.2, 30 + k7, rfl, pu10, zw1, zw2, by omega, by omega, fun tq' H11 R' G' sb11 pu11 hT11 W11 hl11 => ?_⟩
        have TT11 : TabAt H11 tq' R' G' := by
          obtain ⟨_, t, r, h1, ⟨_, as, h2, h3, _⟩, _, h5⟩ := hT11
          exact ⟨t, r, h1, ⟨as, h2, h3⟩, h5⟩
        have sb12 := sb10.trans sb11
        exact jn _ _ ⟨tq', R', G', rfl, same_sb S9 sb12 np, sb12 _ _ hz9 (nzp9 hz9), sb12 _ _ hy9 (nzp9 hy9), TT11, W11, by omega⟩
      · exact jn _ _ ⟨tq, R, G, rfl, S9, hz9, hy9, TA9.at_, W8, hl8⟩
end
end Gal
end
section
set_option Elab.async false
set_option linter.all false
set_option maxRecDepth 100000
set_option maxHeartbeats 4000000
/-! what the head looks at, and what it gives -/
namespace Gal
open PySem PySem.Spec PyProof.Rows L2
/-! ### the part of the heap: what the module's names and the machine's own statics reach -/
def glN : List Str := ["power", "found_states", "leading_on", "numbered", "classes_of", "trimmed", "least", "check_table", "step_dicts", "step_lists", "_law_purse", "_law_draw", "_law_sizes", "_law_drawn", "_law_copied", "_law_table", "_law_numbers", "_law_leads", "_law_kinds", "_law_least", "_law_alike", "_law_order", "_law_twin", "_law_changed", "_law_bad", "_law_asked", "_law_refused", "_law_kept", "law"]
/-- a value's address; what a dict at d has at x -/
def rfV : Value → Addr
  | .ref a => a
  | _ => 0
def dcA (g : Addr → Option Obj) (d : Addr) (x : Str) : Addr := match g d with
  | some ⟨_, _, .dict es _, _⟩ => (match es.toList.find? (·.key.isStr x) with
    | some e => rfV e.val
    | none => 0)
  | _ => 0
/-- a function, its code, its cells -/
def fnL (g : Addr → Option Obj) (f : Addr) : List Addr := f :: match g f with
  | some ⟨_, _, .func fd, _⟩ => rfV fd.code :: fd.closure.map (·.2)
  | _ => []
def inL (g : Addr → Option Obj) (p : Addr) : List Addr := match g p with
  | some ⟨_, _, .fields vs, _⟩ => (match vs.toList with
    | v :: _ => fnL g (rfV v)
    | [] => [])
  | _ => []
def nsA (g : Addr → Option Obj) (C : Addr) : Addr := match g C with
  | some ⟨_, _, .cls cd, _⟩ => cd.ns
  | _ => 0
def clL (g : Addr → Option Obj) (C N : Addr) (ms : List Str) : List Addr := C :: N :: ms.flatMap fun m => fnL g (dcA g N m)
def gclL (g : Addr → Option Obj) (x : Str) (ms : List Str) : List Addr := clL g (dcA g mainGlobals x) (nsA g (dcA g mainGlobals x)) ms
def cmL (g : Addr → Option Obj) (x m : Str) : List Addr := dcA g (nsA g (dcA g mainGlobals x)) m :: inL g (dcA g (nsA g (dcA g mainGlobals x)) m)
def asR (g : Addr → Option Obj) : List Addr := [mainGlobals, cStatics] ++ (gclL g "BadTable" ["__init__"] ++ (gclL g "GalloonError" [] ++ (gclL g "BadCount" [] ++ (gclL g "BadPattern" [] ++ (gclL g "BadStrip" [] ++ (gclL g "Scheme" ["__init__", "__eq__", "__len__"] ++ (gclL g "Bale" ["__init__", "__eq__"] ++ (cmL g "Bale" "every" ++ (cmL g "Bale" "none" ++ glN.flatMap fun x => fnL g (dcA g mainGlobals x))))))))))
/-! ### a def, by its address -/
structure DD where
  adr : PySem.W.Frag → Addr
  name : Str
  qual : Str
  st : Stmt
abbrev FnA : Type := Option (Str × Str × Arguments × FuncBody × Scope × Addr × List (Str × Addr) × Value × Value × Addr)
def fnA (K : PySem.W.Frag) (a : Addr) : FnA := match K.lookup a with
  | some ⟨_, _, .func fd, _⟩ => some (fd.name, fd.qualname, fd.params, fd.body, fd.scope, fd.globals, fd.closure, fd.defaults, fd.kwdefaults, fd.builtins)
  | _ => none
def DD.val (d : DD) : FnA := some (d.name, d.qual, defArgs d.st, .stmts (defBody d.st), defScope d.st, mainGlobals, [], .none, .none, builtinsNs)
def DD.ok (K : PySem.W.Frag) (d : DD) : Bool := match K.lookup (d.adr K) with
  | some ⟨_, _, .func fd, _⟩ => PySem.W.codeIn K fd.code d.qual
  | _ => false
theorem DD.fun_ {K : PySem.W.Frag} {d : DD} (e : fnA K (d.adr K) = d.val) (c : d.ok K = true) : ∃ fd, FunD K d.name d.qual (defArgs d.st) (defBody d.st) (defScope d.st) [] [] (d.adr K) fd := by
  unfold DD.ok at c
  unfold fnA DD.val at e
  split at c
  · rename_i oc od fd sl ho
    rw [ho] at e
    obtain ⟨m1, m2, m3, m4, m5, m6, m7, m8, m9, m10, m11, m12, m13, m14, m15⟩ := fd
    have e := Option.some.inj e
    simp only [Prod.mk.injEq] at e
    obtain ⟨rfl, rfl, rfl, rfl, rfl, rfl, rfl, rfl, rfl, rfl⟩ := e
    exact ⟨_, ⟨oc, od, _, _, m10, m11, m12, m13, m14, sl, rfl, ho, c, .inl ⟨rfl, rfl⟩, .inl rfl⟩, by unfold PySem.W.keepIn; dsimp only; rw [ho]⟩
  · cases c
/-! ### BadTable, its __init__; a class method's record -/
def recB (K : PySem.W.Frag) (m : Str) : Bool := match PySem.W.recIn K (He.fAd K ("Bale", some m)) "classmethod" with
  | some (.ref _ :: _) => true
  | _ => false
theorem recB_ok {K : PySem.W.Frag} {m : Str} (h : recB K m = true) : ∃ rest, PySem.W.recIn K (He.fAd K ("Bale", some m)) "classmethod" = some (.ref (cmA K m) :: rest) := by
  unfold recB at h
  split at h
  · rename_i g rest e
    refine ⟨rest, ?_⟩
    have : cmA K m = g := by unfold cmA; rw [e]
    rw [e, this]
  · cases h
def cmB (K : PySem.W.Frag) (m : Str) : Bool := match PySem.W.findCls K (.ref (Bc K)) (.type "type") m with
  | some (.get (.builtin g) (.ref p) .none (.ref C)) => decide (g = "classmethod.__get__") && (p == He.fAd K ("Bale", some m) && C == Bc K)
  | _ => false
theorem cmB_ok {K : PySem.W.Frag} {m : Str} (h : cmB K m = true) : PySem.W.findCls K (.ref (Bc K)) (.type "type") m = some (.get (.builtin "classmethod.__get__") (.ref (He.fAd K ("Bale", some m))) .none (.ref (Bc K))) := by
  unfold cmB at h
  split at h
  · rename_i g p C e
    obtain ⟨h1, h⟩ := He.ba h
    obtain ⟨h2, h3⟩ := He.ba h
    rw [e, of_decide_eq_true h1, beq_iff_eq.mp h2, beq_iff_eq.mp h3]
  · cases h
def btB (K : PySem.W.Frag) (C : Addr) : Bool := match K.lookup C with
  | some ⟨.type t, _, .cls cd, sl⟩ => (match cd.mro, sl.toList with
    | .ref D :: bm, [_, _, _, _, some (.builtin n), _] => decide (t = "type") && (D == C && (decide (n = "ValueError.__new__") && (!cd.hasDel && (cd.hasDict && HandSPX.refsVE bm))))
    | _, _ => false)
  | _ => false
theorem btB_ok {K : PySem.W.Frag} {C : Addr} (h : btB K C = true) : ∃ nm q N bs bm sn sub ab col dd k0 k1 k2 k3 k5, K.lookup C = some (excClassObj nm q C N bs bm true sn sub ab col dd k0 k1 k2 k3 k5 "ValueError.__new__") ∧ HandSPX.refsVE bm = true := by
  unfold btB at h
  split at h
  · rename_i t dd cd sl ho
    split at h
    · rename_i D bm k0 k1 k2 k3 n k5 hm hs
      obtain ⟨h1, h⟩ := He.ba h
      obtain ⟨h2, h⟩ := He.ba h
      obtain ⟨h3, h⟩ := He.ba h
      obtain ⟨h4, h⟩ := He.ba h
      obtain ⟨h5, h6⟩ := He.ba h
      obtain ⟨nm, bs, mro, ns, qn, hd, sn, sub, ab, col, del⟩ := cd
      obtain ⟨l⟩ := sl
      simp only at hm hs h4 h5
      have e1 := of_decide_eq_true h1
      have e2 : D = C := beq_iff_eq.mp h2
      have e3 := of_decide_eq_true h3
      have e4 : del = false := by simpa using h4
      subst e1 e2 e3 e4 h5 hm hs
      exact ⟨nm, qn, ns, bs, bm, sn, sub, ab, col, dd, k0, k1, k2, k3, k5, ho, h6⟩
    · cases h
  · cases h
abbrev FnB : Type := Option (Str × Str × Arguments × FuncBody × Scope × Addr × Value × Value × Addr)
def fnB (K : PySem.W.Frag) (a : Addr) : FnB := match K.lookup a with
  | some ⟨_, _, .func fd, _⟩ => some (fd.name, fd.qualname, fd.params, fd.body, fd.scope, fd.globals, fd.defaults, fd.kwdefaults, fd.builtins)
  | _ => none
def valB : FnB := some ("__init__", "BadTable.__init__", defArgs s_bt_init, .stmts (defBody s_bt_init), defScope s_bt_init, mainGlobals, .none, .none, builtinsNs)
abbrev LP : Program := (PySem.Challenge.rw_galloon_k04_whole_least_tables).prog
/-- its code, its cell -/
def btF (K : PySem.W.Frag) : Bool := match K.lookup (PySem.BtX.btI K) with
  | some ⟨_, _, .func fd, _⟩ => (match fd.code, fd.closure with
    | .ref cda, [(x, cc)] => decide (x = "__class__") && (PySem.W.codeIn K (.ref cda) "BadTable.__init__" && ((match K.lookup cda with
        | some ⟨_, _, .fields vs, _⟩ => (match (vs[2]? : Option Value) with
          | some (.str f _) => (LP.main.file : Str) == f
          | _ => false)
        | _ => false) && (match K.lookup cc with
        | some ⟨_, _, .cell (some (.ref c)), _⟩ => c == BT K
        | _ => false)))
    | _, _ => false)
  | _ => false
theorem btF_ok {K : PySem.W.Frag} (h : btF K = true) (e : fnB K (PySem.BtX.btI K) = valB) : ∃ (oc : Value) (od : Option Addr) (doc pm : Value) (an : Option Addr) (ct : Value) (osl : Array (Option Value)) (cc cda : Addr) (cl : Value) (cld : Option Addr) (csl : Array (Option Value)) (ccl : Value) (cdd : Option Addr) (vs : Array Value) (ccs : Array (Option Value)) (file : Str) (tf : Tok),
    K.lookup (PySem.BtX.btI K) = some ⟨oc, od, .func (PySem.W.ksFn "__init__" "BadTable.__init__" (L2.defArgs Gal.s_bt_init) (L2.defBody Gal.s_bt_init) (L2.defScope Gal.s_bt_init) .none .none doc pm an (.ref cda) ct cc), osl⟩ ∧ PySem.W.codeIn K (.ref cda) "BadTable.__init__" = true ∧
    K.lookup cc = some ⟨cl, cld, .cell (some (.ref (BT K))), csl⟩ ∧ K.lookup cda = some ⟨ccl, cdd, .fields vs, ccs⟩ ∧ vs[2]? = some (.str file tf) ∧ ((LP.main.file : Str) == file) = true := by
  unfold btF at h
  split at h
  · rename_i oc od fd sl ho
    unfold fnB valB at e
    rw [ho] at e
    obtain ⟨m1, m2, m3, m4, m5, m6, m7, m8, m9, m10, m11, m12, m13, m14, m15⟩ := fd
    have e := Option.some.inj e
    simp only [Prod.mk.injEq] at e
    obtain ⟨rfl, rfl, rfl, rfl, rfl, rfl, rfl, rfl, rfl⟩ := e
    split at h
    · rename_i cda x cc hc hcl
      simp only at hc hcl
      subst hc hcl
      obtain ⟨h1, h⟩ := He.ba h
      obtain ⟨h2, h⟩ := He.ba h
      obtain ⟨h3, h4⟩ := He.ba h
      have h1 : x = "__class__" := of_decide_eq_true h1
      subst h1
      split at h3
      · rename_i ccl cdd vs ccs hv
        split at h3
        · rename_i f tf hf
          split at h4
          · rename_i cl cld c csl hcc
            have e4 : c = BT K := beq_iff_eq.mp h4
            subst e4
            exact ⟨oc, od, _, _, _, _, sl, cc, cda, cl, cld, csl, ccl, cdd, vs, ccs, f, tf, ho, h2, hcc, hv, hf, h3⟩
          · cases h4
        · cases h3
      · cases h3
    · cases h
  · cases h
/-! ### the facts -/
def fz : List (PySem.W.Frag → Bool) := [
  fun K => (He.Fa.glo "power").ok K,
  fun K => (He.Fa.glo "found_states").ok K,
  fun K => (He.Fa.glo "leading_on").ok K,
  fun K => (He.Fa.glo "numbered").ok K,
  fun K => (He.Fa.glo "classes_of").ok K,
  fun K => (He.Fa.glo "trimmed").ok K,
  fun K => (He.Fa.glo "least").ok K,
  fun K => (He.Fa.glo "check_table").ok K,
  fun K => (He.Fa.glo "step_dicts").ok K,
  fun K => (He.Fa.glo "step_lists").ok K,
  fun K => (He.Fa.glo "_law_purse").ok K,
  fun K => (He.Fa.glo "_law_draw").ok K,
  fun K => (He.Fa.glo "_law_sizes").ok K,
  fun K => (He.Fa.glo "_law_drawn").ok K,
  fun K => (He.Fa.glo "_law_copied").ok K,
  fun K => (He.Fa.glo "_law_table").ok K,
  fun K => (He.Fa.glo "_law_numbers").ok K,
  fun K => (He.Fa.glo "_law_leads").ok K,
  fun K => (He.Fa.glo "_law_kinds").ok K,
  fun K => (He.Fa.glo "_law_least").ok K,
  fun K => (He.Fa.glo "_law_alike").ok K,
  fun K => (He.Fa.glo "_law_order").ok K,
  fun K => (He.Fa.glo "_law_twin").ok K,
  fun K => (He.Fa.glo "_law_changed").ok K,
  fun K => (He.Fa.glo "_law_bad").ok K,
  fun K => (He.Fa.glo "_law_asked").ok K,
  fun K => (He.Fa.glo "_law_refused").ok K,
  fun K => (He.Fa.glo "_law_kept").ok K,
  fun K => (He.Fa.glo "law").ok K,
  fun K => (He.Fa.glo "Scheme").ok K,
  fun K => (He.Fa.glo "Bale").ok K,
  fun K => (He.Fa.glo "BadTable").ok K,
  fun K => (He.Fa.glo "GalloonError").ok K,
  fun K => (He.Fa.glo "BadCount").ok K,
  fun K => (He.Fa.glo "BadPattern").ok K,
  fun K => (He.Fa.glo "BadStrip").ok K,
  fun K => (He.Fa.free "range").ok K,
  fun K => (He.Fa.free "len").ok K,
  fun K => (He.Fa.free "list").ok K,
  fun K => (He.Fa.free "sorted").ok K,
  fun K => (He.Fa.free "any").ok K,
  fun K => (He.Fa.free "tuple").ok K,
  fun K => (He.Fa.free "zip").ok K,
  fun K => (He.Fa.free "enumerate").ok K,
  fun K => (He.Fa.free "reversed").ok K,
  fun K => (He.Fa.free "int").ok K,
  fun K => (He.Fa.free "bool").ok K,
  fun K => (He.Fa.free "sum").ok K,
  fun K => (He.Fa.free "abs").ok K,
  fun K => (He.Fa.free "min").ok K,
  fun K => (He.Fa.free "isinstance").ok K,
  fun K => (He.Fa.free "ValueError").ok K,
  fun K => (He.Fa.free "super").ok K,
  fun K => (He.Fa.str "LETTERS" "abcdefghi").ok K,
  fun K => (He.Fa.cls "Scheme").ok K,
  fun K => (He.Fa.mkr "Scheme").ok K,
  fun K => (He.Fa.cls "Bale").ok K,
  fun K => (He.Fa.mkr "Bale").ok K,
  fun K => (He.Fa.noat "Scheme" "rows").ok K,
  fun K => (He.Fa.noat "Scheme" "colours").ok K,
  fun K => (He.Fa.noat "Scheme" "columns").ok K,
  fun K => (He.Fa.noat "Bale" "scheme").ok K,
  fun K => (He.Fa.noat "Bale" "rows").ok K,
  fun K => (He.Fa.noat "Bale" "goods").ok K,
  fun K => (He.Fa.meth "Scheme" "__eq__").ok K,
  fun K => (He.Fa.meth "Scheme" "__len__").ok K,
  fun K => (He.Fa.meth "Bale" "__eq__").ok K,
  fun K => decide (PySem.W.findIn K (.ref (Sc K)) "__class__" = some (some (.builtin "object.__class__"))),
  fun K => decide (PySem.W.mroIn K (Sc K) (.type "object") = some true),
  fun K => decide (PySem.W.findIn K (.ref (Bc K)) "__class__" = some (some (.builtin "object.__class__"))),
  fun K => decide (PySem.W.mroIn K (Bc K) (.type "object") = some true),
  fun K => decide (PySem.W.findIn K (.ref (BT K)) "__class__" = some (some (.builtin "object.__class__"))),
  fun K => decide (PySem.W.mroIn K (BT K) (.type "object") = some true),
  fun K => decide (PySem.W.specialIn K (.builtin "object.__class__") "__get__" = some (some (.builtin "getset_descriptor.__get__"))),
  fun K => decide (PySem.W.takesIn K (.builtin "object.__class__") = some true),
  fun K => decide (PySem.W.kitOne K (.type "list") (.ref (Bc K)) = some false),
  fun K => decide (PySem.W.kitOne K (.type "int") (.ref (Bc K)) = some false),
  fun K => PySem.W.readsIn K (Bc K) (.type "type"),
  fun K => decide (PySem.W.specialIn K (.ref (Bc K)) "__getattribute__" = some (some (.builtin "type.__getattribute__"))),
  fun K => cmB K "every",
  fun K => recB K "every",
  fun K => PySem.W.fnIn K (cmA K "every"),
  fun K => cmB K "none",
  fun K => recB K "none",
  fun K => PySem.W.fnIn K (cmA K "none"),
  fun K => btB K (BT K),
  fun K => decide (PySem.W.findIn K (.ref (BT K)) "__setattr__" = some (some (.builtin "object.__setattr__"))),
  fun K => decide (PySem.W.findIn K (.ref (BT K)) "__getattribute__" = some (some (.builtin "BaseException.__getattribute__"))),
  fun K => decide (PySem.W.findIn K (.ref (BT K)) "__getattr__" = some none),
  fun K => decide (PySem.W.findIn K (.ref (BT K)) "place" = some none),
  fun K => decide (PySem.W.findIn K (.ref (BT K)) "__init__" = some (some (.ref (PySem.BtX.btI K)))),
  fun K => decide (PySem.W.typeIn K (.ref (PySem.BtX.btI K)) = some (.type "function")),
  fun K => PySem.W.keepIn K (.ref (BT K)),
  fun K => decide (PySem.W.subIn K (.ref (BT K)) (.type "BaseException") = some true),
  fun K => decide (PySem.W.typeIn K (.ref (BT K)) = some (.type "type")),
  fun K => PySem.W.hasDictIn K (BT K),
  fun K => decide (PySem.W.exmOne K (.ref (BT K)) (.ref (He.ga K "GalloonError")) = some true),
  fun K => decide (PySem.W.nsIn K cStatics "thirdparty.any" = some none),
  fun K => decide (PySem.W.ks_superIn K (BT K) (BT K) "__init__" = some (some (.builtin "ValueError.__init__"))),
  fun K => decide (PySem.W.mroIn K (BT K) (.ref (BT K)) = some true),
  fun K => decide (PySem.W.subIn K (.ref (BT K)) (.type "ValueError") = some true),
  fun K => btF K,
  fun K => decide (PySem.W.kitOne K (.ref (BT K)) (.ref (He.ga K "BadCount")) = some false),
  fun K => decide (PySem.W.kitOne K (.ref (BT K)) (.ref (He.ga K "BadPattern")) = some false),
  fun K => decide (PySem.W.kitOne K (.ref (BT K)) (.ref (He.ga K "BadStrip")) = some false),
  fun K => decide (PySem.W.kitOne K (.ref (BT K)) (.type "ValueError") = some true)]
def dz : List DD := [
  ⟨fun K => He.fAd K ("power", none), "power", "power", s_power⟩,
  ⟨fun K => He.fAd K ("Scheme", some "__init__"), "__init__", "Scheme.__init__", s_s_init⟩,
  ⟨fun K => He.fAd K ("Scheme", some "__eq__"), "__eq__", "Scheme.__eq__", s_s_eq⟩,
  ⟨fun K => He.fAd K ("Scheme", some "__len__"), "__len__", "Scheme.__len__", s_s_len⟩,
  ⟨fun K => He.fAd K ("found_states", none), "found_states", "found_states", s_found_states⟩,
  ⟨fun K => He.fAd K ("leading_on", none), "leading_on", "leading_on", s_leading_on⟩,
  ⟨fun K => He.fAd K ("numbered", none), "numbered", "numbered", s_numbered⟩,
  ⟨fun K => He.fAd K ("classes_of", none), "classes_of", "classes_of", s_classes_of⟩,
  ⟨fun K => He.fAd K ("trimmed", none), "trimmed", "trimmed", s_trimmed⟩,
  ⟨fun K => He.fAd K ("least", none), "least", "least", s_least⟩,
  ⟨fun K => He.fAd K ("check_table", none), "check_table", "check_table", s_check_table⟩,
  ⟨fun K => He.fAd K ("step_dicts", none), "step_dicts", "step_dicts", s_step_dicts⟩,
  ⟨fun K => He.fAd K ("step_lists", none), "step_lists", "step_lists", s_step_lists⟩,
  ⟨fun K => He.fAd K ("Bale", some "__init__"), "__init__", "Bale.__init__", s_b_init⟩,
  ⟨fun K => cmA K "every", "every", "Bale.every", s_b_every⟩,
  ⟨fun K => cmA K "none", "none", "Bale.none", s_b_none⟩,
  ⟨fun K => He.fAd K ("Bale", some "__eq__"), "__eq__", "Bale.__eq__", s_b_eq⟩,
  ⟨fun K => He.fAd K ("_law_purse", none), "_law_purse", "_law_purse", s_l_purse⟩,
  ⟨fun K => He.fAd K ("_law_draw", none), "_law_draw", "_law_draw", s_l_draw⟩,
  ⟨fun K => He.fAd K ("_law_sizes", none), "_law_sizes", "_law_sizes", s_l_sizes⟩,
  ⟨fun K => He.fAd K ("_law_drawn", none), "_law_drawn", "_law_drawn", s_l_drawn⟩,
  ⟨fun K => He.fAd K ("_law_copied", none), "_law_copied", "_law_copied", s_l_copied⟩,
  ⟨fun K => He.fAd K ("_law_table", none), "_law_table", "_law_table", s_l_table⟩,
  ⟨fun K => He.fAd K ("_law_numbers", none), "_law_numbers", "_law_numbers", s_l_numbers⟩,
  ⟨fun K => He.fAd K ("_law_leads", none), "_law_leads", "_law_leads", s_l_leads⟩,
  ⟨fun K => He.fAd K ("_law_kinds", none), "_law_kinds", "_law_kinds", s_l_kinds⟩,
  ⟨fun K => He.fAd K ("_law_least", none), "_law_least", "_law_least", s_l_least⟩,
  ⟨fun K => He.fAd K ("_law_alike", none), "_law_alike", "_law_alike", s_l_alike⟩,
  ⟨fun K => He.fAd K ("_law_order", none), "_law_order", "_law_order", s_l_order⟩,
  ⟨fun K => He.fAd K ("_law_twin", none), "_law_twin", "_law_twin", s_l_twin⟩,
  ⟨fun K => He.fAd K ("_law_changed", none), "_law_changed", "_law_changed", s_l_changed⟩,
  ⟨fun K => He.fAd K ("_law_bad", none), "_law_bad", "_law_bad", s_l_bad⟩,
  ⟨fun K => He.fAd K ("_law_asked", none), "_law_asked", "_law_asked", s_l_asked⟩,
  ⟨fun K => He.fAd K ("_law_refused", none), "_law_refused", "_law_refused", s_l_refused⟩,
  ⟨fun K => He.fAd K ("_law_kept", none), "_law_kept", "_law_kept", s_l_kept⟩,
  ⟨fun K => He.fAd K ("law", none), "law", "law", s_law⟩]
abbrev AlR : Type := Bool × List FnA × FnB
def obsR (K : PySem.W.Frag) : AlR := ((fz.all fun f => f K) && dz.all fun d => d.ok K, dz.map fun d => fnA K (d.adr K), fnB K (PySem.BtX.btI K))
def valR : AlR := (true, dz.map DD.val, valB)
def SaysR (K : PySem.W.Frag) : Prop := obsR K = valR
def obsRG (g : Addr → Option Obj) : AlR := obsR (He.frG g (asR g))
def hookR : PySem.W.Hook where
  α := AlR
  obs := fun s => obsRG s.heap.get?
  val := fun _ => valR
  says := fun _ h => ∃ K : PySem.W.Frag, K.In h ∧ SaysR K
  of := fun _ _ e => ⟨_, He.frG_in, e⟩
  keeps := fun _ _ _ ⟨K, hK, c⟩ k => ⟨K, PySem.W.Frag.In.keeps hK k, c⟩
theorem obsRG_eq {g : Addr → Option Obj} {s : Shared} (h : ∀ a, g a = s.heap.get? a) : obsRG g = hookR.obs s := by
  rw [show g = s.heap.get? from funext h] <;> rfl
section
variable {K : PySem.W.Frag}
theorem SaysR.fact (c : SaysR K) (i : Nat) {f : PySem.W.Frag → Bool} (h : fz[i]? = some f := by rfl) : f K = true := by
  have c1 := (He.ba (show ((fz.all fun f => f K) && dz.all fun d => d.ok K) = true from congrArg (fun z : AlR => z.1) c)).1
  exact List.all_eq_true.mp c1 f (List.mem_of_getElem? h)
theorem SaysR.def_ (c : SaysR K) (i : Nat) {d : DD} (h : dz[i]? = some d := by rfl) : ∃ fd, FunD K d.name d.qual (defArgs d.st) (defBody d.st) (defScope d.st) [] [] (d.adr K) fd := by
  have c2 := (He.ba (show ((fz.all fun f => f K) && dz.all fun d => d.ok K) = true from congrArg (fun z : AlR => z.1) c)).2
  have e : (dz.map fun d => fnA K (d.adr K)) = dz.map DD.val := congrArg (fun z : AlR => z.2.1) c
  have e2 : (dz.map fun d => fnA K (d.adr K))[i]? = (dz.map DD.val)[i]? := by rw [e]
  rw [List.getElem?_map, List.getElem?_map, h] at e2
  exact DD.fun_ (Option.some.inj e2) (List.all_eq_true.mp c2 d (List.mem_of_getElem? h))
theorem SaysR.bt (c : SaysR K) : fnB K (PySem.BtX.btI K) = valB := congrArg (fun z : AlR => z.2.2) c
end
section
variable {K : PySem.W.Frag} {h : Heap} {mg : Str → Option Value}
theorem tx_of (X : K.In h) (G : h.Ns mainGlobals mg) (c : SaysR K) : Nonempty (TX K mg) := by
  obtain ⟨d_power, F_power⟩ := c.def_ 0
  obtain ⟨d_s_init, F_s_init⟩ := c.def_ 1
  obtain ⟨d_s_eq, F_s_eq⟩ := c.def_ 2
  obtain ⟨d_s_len, F_s_len⟩ := c.def_ 3
  obtain ⟨d_found_states, F_found_states⟩ := c.def_ 4
  obtain ⟨d_leading_on, F_leading_on⟩ := c.def_ 5
  obtain ⟨d_numbered, F_numbered⟩ := c.def_ 6
  obtain ⟨d_classes_of, F_classes_of⟩ := c.def_ 7
  obtain ⟨d_trimmed, F_trimmed⟩ := c.def_ 8
  obtain ⟨d_least, F_least⟩ := c.def_ 9
  obtain ⟨d_check_table, F_check_table⟩ := c.def_ 10
  obtain ⟨d_step_dicts, F_step_dicts⟩ := c.def_ 11
  obtain ⟨d_step_lists, F_step_lists⟩ := c.def_ 12
  obtain ⟨d_b_init, F_b_init⟩ := c.def_ 13
  obtain ⟨d_b_every, F_b_every⟩ := c.def_ 14
  obtain ⟨d_b_none, F_b_none⟩ := c.def_ 15
  obtain ⟨d_b_eq, F_b_eq⟩ := c.def_ 16
  obtain ⟨d_l_purse, F_l_purse⟩ := c.def_ 17
  obtain ⟨d_l_draw, F_l_draw⟩ := c.def_ 18
  obtain ⟨d_l_sizes, F_l_sizes⟩ := c.def_ 19
  obtain ⟨d_l_drawn, F_l_drawn⟩ := c.def_ 20
  obtain ⟨d_l_copied, F_l_copied⟩ := c.def_ 21
  obtain ⟨d_l_table, F_l_table⟩ := c.def_ 22
  obtain ⟨d_l_numbers, F_l_numbers⟩ := c.def_ 23
  obtain ⟨d_l_leads, F_l_leads⟩ := c.def_ 24
  obtain ⟨d_l_kinds, F_l_kinds⟩ := c.def_ 25
  obtain ⟨d_l_least, F_l_least⟩ := c.def_ 26
  obtain ⟨d_l_alike, F_l_alike⟩ := c.def_ 27
  obtain ⟨d_l_order, F_l_order⟩ := c.def_ 28
  obtain ⟨d_l_twin, F_l_twin⟩ := c.def_ 29
  obtain ⟨d_l_changed, F_l_changed⟩ := c.def_ 30
  obtain ⟨d_l_bad, F_l_bad⟩ := c.def_ 31
  obtain ⟨d_l_asked, F_l_asked⟩ := c.def_ 32
  obtain ⟨d_l_refused, F_l_refused⟩ := c.def_ 33
  obtain ⟨d_l_kept, F_l_kept⟩ := c.def_ 34
  obtain ⟨d_law, F_law⟩ := c.def_ 35
  exact ⟨{
    d_power := d_power,
    F_power := F_power,
    g_power := He.glo_ok X G (x := "power") (c.fact 0),
    d_s_init := d_s_init,
    F_s_init := F_s_init,
    d_s_eq := d_s_eq,
    F_s_eq := F_s_eq,
    d_s_len := d_s_len,
    F_s_len := F_s_len,
    d_found_states := d_found_states,
    F_found_states := F_found_states,
    g_found_states := He.glo_ok X G (x := "found_states") (c.fact 1),
    d_leading_on := d_leading_on,
    F_leading_on := F_leading_on,
    g_leading_on := He.glo_ok X G (x := "leading_on") (c.fact 2),
    d_numbered := d_numbered,
    F_numbered := F_numbered,
    g_numbered := He.glo_ok X G (x := "numbered") (c.fact 3),
    d_classes_of := d_classes_of,
    F_classes_of := F_classes_of,
    g_classes_of := He.glo_ok X G (x := "classes_of") (c.fact 4),
    d_trimmed := d_trimmed,
    F_trimmed := F_trimmed,
    g_trimmed := He.glo_ok X G (x := "trimmed") (c.fact 5),
    d_least := d_least,
    F_least := F_least,
    g_least := He.glo_ok X G (x := "least") (c.fact 6),
    d_check_table := d_check_table,
    F_check_table := F_check_table,
    g_check_table := He.glo_ok X G (x := "check_table") (c.fact 7),
    d_step_dicts := d_step_dicts,
    F_step_dicts := F_step_dicts,
    g_step_dicts := He.glo_ok X G (x := "step_dicts") (c.fact 8),
    d_step_lists := d_step_lists,
    F_step_lists := F_step_lists,
    g_step_lists := He.glo_ok X G (x := "step_lists") (c.fact 9),
    d_b_init := d_b_init,
    F_b_init := F_b_init,
    d_b_every := d_b_every,
    F_b_every := F_b_every,
    d_b_none := d_b_none,
    F_b_none := F_b_none,
    d_b_eq := d_b_eq,
    F_b_eq := F_b_eq,
    d_l_purse := d_l_purse,
    F_l_purse := F_l_purse,
    g_l_purse := He.glo_ok X G (x := "_law_purse") (c.fact 10),
    d_l_draw := d_l_draw,
    F_l_draw := F_l_draw,
    g_l_draw := He.glo_ok X G (x := "_law_draw") (c.fact 11),
    d_l_sizes := d_l_sizes,
    F_l_sizes := F_l_sizes,
    g_l_sizes := He.glo_ok X G (x := "_law_sizes") (c.fact 12),
    d_l_drawn := d_l_drawn,
    F_l_drawn := F_l_drawn,
    g_l_drawn := He.glo_ok X G (x := "_law_drawn") (c.fact 13),
    d_l_copied := d_l_copied,
    F_l_copied := F_l_copied,
    g_l_copied := He.glo_ok X G (x := "_law_copied") (c.fact 14),
    d_l_table := d_l_table,
    F_l_table := F_l_table,
    g_l_table := He.glo_ok X G (x := "_law_table") (c.fact 15),
    d_l_numbers := d_l_numbers,
    F_l_numbers := F_l_numbers,
    g_l_numbers := He.glo_ok X G (x := "_law_numbers") (c.fact 16),
    d_l_leads := d_l_leads,
    F_l_leads := F_l_leads,
    g_l_leads := He.glo_ok X G (x := "_law_leads") (c.fact 17),
    d_l_kinds := d_l_kinds,
    F_l_kinds := F_l_kinds,
    g_l_kinds := He.glo_ok X G (x := "_law_kinds") (c.fact 18),
    d_l_least := d_l_least,
    F_l_least := F_l_least,
    g_l_least := He.glo_ok X G (x := "_law_least") (c.fact 19),
    d_l_alike := d_l_alike,
    F_l_alike := F_l_alike,
    g_l_alike := He.glo_ok X G (x := "_law_alike") (c.fact 20),
    d_l_order := d_l_order,
    F_l_order := F_l_order,
    g_l_order := He.glo_ok X G (x := "_law_order") (c.fact 21),
    d_l_twin := d_l_twin,
    F_l_twin := F_l_twin,
    g_l_twin := He.glo_ok X G (x := "_law_twin") (c.fact 22),
    d_l_changed := d_l_changed,
    F_l_changed := F_l_changed,
    g_l_changed := He.glo_ok X G (x := "_law_changed") (c.fact 23),
    d_l_bad := d_l_bad,
    F_l_bad := F_l_bad,
    g_l_bad := He.glo_ok X G (x := "_law_bad") (c.fact 24),
    d_l_asked := d_l_asked,
    F_l_asked := F_l_asked,
    g_l_asked := He.glo_ok X G (x := "_law_asked") (c.fact 25),
    d_l_refused := d_l_refused,
    F_l_refused := F_l_refused,
    g_l_refused := He.glo_ok X G (x := "_law_refused") (c.fact 26),
    d_l_kept := d_l_kept,
    F_l_kept := F_l_kept,
    g_l_kept := He.glo_ok X G (x := "_law_kept") (c.fact 27),
    d_law := d_law,
    F_law := F_law,
    g_law := He.glo_ok X G (x := "law") (c.fact 28),
    n_range := He.free_ok X G (x := "range") (c.fact 36),
    n_len := He.free_ok X G (x := "len") (c.fact 37),
    n_list := He.free_ok X G (x := "list") (c.fact 38),
    n_sorted := He.free_ok X G (x := "sorted") (c.fact 39),
    n_any := He.free_ok X G (x := "any") (c.fact 40),
    n_tuple := He.free_ok X G (x := "tuple") (c.fact 41),
    n_zip := He.free_ok X G (x := "zip") (c.fact 42),
    n_enumerate := He.free_ok X G (x := "enumerate") (c.fact 43),
    n_reversed := He.free_ok X G (x := "reversed") (c.fact 44),
    n_int := He.free_ok X G (x := "int") (c.fact 45),
    n_bool := He.free_ok X G (x := "bool") (c.fact 46),
    n_sum := He.free_ok X G (x := "sum") (c.fact 47),
    n_abs := He.free_ok X G (x := "abs") (c.fact 48),
    n_min := He.free_ok X G (x := "min") (c.fact 49),
    n_isinstance := He.free_ok X G (x := "isinstance") (c.fact 50),
    n_ValueError := He.free_ok X G (x := "ValueError") (c.fact 51),
    letters := He.str_ok X G (x := "LETTERS") (z := "abcdefghi") (c.fact 53),
    m_Scheme := He.glo_ok X G (x := "Scheme") (c.fact 29),
    c_Scheme := He.cls_ok (x := "Scheme") (c.fact 54),
    mk_Scheme := He.mkr_ok (x := "Scheme") (c.fact 55),
    m_Bale := He.glo_ok X G (x := "Bale") (c.fact 30),
    c_Bale := He.cls_ok (x := "Bale") (c.fact 56),
    mk_Bale := He.mkr_ok (x := "Bale") (c.fact 57),
    ns_rows := He.noat_ok (x := "Scheme") (f := "rows") (c.fact 58),
    ns_colours := He.noat_ok (x := "Scheme") (f := "colours") (c.fact 59),
    ns_columns := He.noat_ok (x := "Scheme") (f := "columns") (c.fact 60),
    nb_scheme := He.noat_ok (x := "Bale") (f := "scheme") (c.fact 61),
    nb_rows := He.noat_ok (x := "Bale") (f := "rows") (c.fact 62),
    nb_goods := He.noat_ok (x := "Bale") (f := "goods") (c.fact 63),
    eq_S := (He.meth_ok (x := "Scheme") (m := "__eq__") (c.fact 64)).at_,
    fe_S := (He.meth_ok (x := "Scheme") (m := "__eq__") (c.fact 64)).fn,
    ln_S := (He.meth_ok (x := "Scheme") (m := "__len__") (c.fact 65)).at_,
    fl_S := (He.meth_ok (x := "Scheme") (m := "__len__") (c.fact 65)).fn,
    eq_B := (He.meth_ok (x := "Bale") (m := "__eq__") (c.fact 66)).at_,
    fe_B := (He.meth_ok (x := "Bale") (m := "__eq__") (c.fact 66)).fn,
    o_S := of_decide_eq_true (c.fact 67),
    o_B := of_decide_eq_true (c.fact 69),
    o_get := of_decide_eq_true (c.fact 73),
    o_tk := of_decide_eq_true (c.fact 74),
    om_S := of_decide_eq_true (c.fact 68),
    om_B := of_decide_eq_true (c.fact 70),
    kl_B := of_decide_eq_true (c.fact 75),
    ki_B := of_decide_eq_true (c.fact 76),
    rd_B := ⟨(c.fact 77), of_decide_eq_true (c.fact 78)⟩,
    cm_every := ⟨cmB_ok (c.fact 79), recB_ok (c.fact 80), (c.fact 81)⟩,
    cm_none := ⟨cmB_ok (c.fact 82), recB_ok (c.fact 83), (c.fact 84)⟩ }⟩
theorem bx_of (X : K.In h) (G : h.Ns mainGlobals mg) (c : SaysR K) : PySem.BtX.BTx LP K mg where
  gC := He.glo_ok X G (x := "BadTable") (c.fact 31)
  gS := He.free_ok X G (x := "super") (c.fact 52)
  cls := btB_ok (c.fact 85)
  sa := of_decide_eq_true (c.fact 86)
  ga := of_decide_eq_true (c.fact 87)
  gg := of_decide_eq_true (c.fact 88)
  noN := of_decide_eq_true (c.fact 89)
  iC := of_decide_eq_true (c.fact 90)
  tC := of_decide_eq_true (c.fact 91)
  kC := (c.fact 92)
  exC := of_decide_eq_true (c.fact 93)
  tyC := of_decide_eq_true (c.fact 94)
  hdC := (c.fact 95)
  te := of_decide_eq_true (c.fact 96)
  any := of_decide_eq_true (c.fact 97)
  sup := of_decide_eq_true (c.fact 98)
  self := of_decide_eq_true (c.fact 99)
  ve := of_decide_eq_true (c.fact 100)
  fn := btF_ok (c.fact 101) c.bt
  top := by decide +kernel
theorem ex_of (X : K.In h) (G : h.Ns mainGlobals mg) (c : SaysR K) : EXx K mg where
  is := ⟨of_decide_eq_true (c.fact 87), of_decide_eq_true (c.fact 88), of_decide_eq_true (c.fact 93), (c.fact 95), of_decide_eq_true (c.fact 71), of_decide_eq_true (c.fact 73), of_decide_eq_true (c.fact 74), of_decide_eq_true (c.fact 72)⟩
  m_GE := He.glo_ok X G (x := "GalloonError") (c.fact 32)
  m_BC := He.glo_ok X G (x := "BadCount") (c.fact 33)
  m_BP := He.glo_ok X G (x := "BadPattern") (c.fact 34)
  m_BS := He.glo_ok X G (x := "BadStrip") (c.fact 35)
  k_BC := of_decide_eq_true (c.fact 102)
  k_BP := of_decide_eq_true (c.fact 103)
  k_BS := of_decide_eq_true (c.fact 104)
  k_VE := of_decide_eq_true (c.fact 105)
end
end Gal
end
section
set_option Elab.async false
set_option linter.all false
set_option maxRecDepth 100000
set_option maxHeartbeats 0
namespace Gal
open PySem PySem.W PySem.Calls PyProof.Rows
abbrev RR : OpenRow := OpenLaw.row PySem.Challenge.rw_galloon_k04_whole_least_tables
abbrev qv : Program := view RR.prog [66]
def names1 : List PySem.Str := ["_wall", "__name__", "GalloonError", "UnlikeSchemes", "BadScheme", "BadColumn", "BadSpots", "BadStrip", "BadCount", "BadPattern", "BadTable", "LETTERS", "COLOURS", "power", "Scheme", "same_scheme", "found_states", "word_to", "first_word", "leading_on", "numbered", "classes_of", "trimmed", "least"]
def names2 : List PySem.Str := ["arcs_of", "targets_of", "determined", "row_at", "good_at", "is_hopeless", "is_wanted", "paired", "combined", "chained", "layers_of", "layer_after", "check_table", "step_dicts", "step_lists", "Bale", "made_bale", "bale_table", "joined_word", "combined_bale"]
def names3 : List PySem.Str := ["_law_purse", "_law_draw", "_law_sizes", "_law_drawn", "_law_copied", "_law_table", "_law_numbers", "_law_leads", "_law_kinds", "_law_least", "_law_alike", "_law_order", "_law_twin", "_law_changed", "_law_bad", "_law_asked", "_law_refused", "_law_kept"]
def names : List PySem.Str := names1 ++ (names2 ++ names3)
abbrev hk : Hook := hookR
def ob (s : SharedT) : AlR := obsRG (HandSHeadRun.getT s)
theorem ob_eq (s : SharedT) : ob s = hk.obs s.abs := obsRG_eq (HandSHeadRun.getT_eq s)
theorem run (w : World) : HandSHeadRun.RunEq RR qv hk ob 8000 names w := by
  intro os
  kernel_rfl
end Gal
open PySem PySem.W PySem.Calls PyProof.Rows
theorem PySem.Challenge.cw_galloon_k04_whole_least_tables_holds : PySem.Challenge.rw_galloon_k04_whole_least_tables.Holds := by
  w_on; o_law
  refine HandSHeadRun.head_any (r := OpenLaw.row PySem.Challenge.rw_galloon_k04_whole_least_tables) (q := view (OpenLaw.row PySem.Challenge.rw_galloon_k04_whole_least_tables).prog [66]) (H := Gal.hk) (ob := Gal.ob) (M := 8000) (loose := Gal.names) (d := HandSHeadRun.topDef (OpenLaw.row PySem.Challenge.rw_galloon_k04_whole_least_tables).prog 66) (kwd := []) Gal.ob_eq
    (by kernel_rfl) (fun s => by kernel_rfl) Gal.run (by kernel_rfl) (by kernel_rfl) (by kernel_rfl) (by rfl) (by first | assumption | decide +kernel) (by decide +kernel) ⟨rfl, rfl, rfl, rfl, rfl, by decide +kernel⟩ ?hw ?hc
  case hw => w_witness2
  case hc =>
    refine L2.walk_ofE (l := PySem.Challenge.rw_galloon_k04_whole_least_tables) (n := 63) (k := 8) (x := "_law_script") (CX := L2.CX0) rfl (by decide) (by kernel_rfl) ⟨rfl, by decide, by decide⟩ ?F (fun _ _ _ _ z => z)
    intro w mg fa h Y G hmg0
    obtain ⟨K, KX, c⟩ := Y
    have hmg : mg ("law" : PySem.Str) = some (.ref fa) := by
      have e : (HandSHeadRun.topDef (OpenLaw.row PySem.Challenge.rw_galloon_k04_whole_least_tables).prog 66).name = ("law" : PySem.Str) := by kernel_rfl
      rw [← e]
      exact hmg0
    obtain ⟨T⟩ := Gal.tx_of KX G c
    have ef : He.fAd K ("law", none) = fa := by
      have z := T.g_law.symm.trans hmg
      exact Value.ref.inj (Option.some.inj z)
    have hF := fun base => Gal.ok_law (w := w) (base := base) T (Gal.bx_of KX G c) (Gal.ex_of KX G c)
    rw [ef] at hF
    have hb := L2.FunD.bindsA (ps := ["_law_script"]) T.F_law fun _ _ _ _ _ _ us hl => match us, hl with | [_], _ => rfl
    exact ⟨K, T.d_law, Gal.sp_law K, KX, fun s v => hb s [v] rfl, fun H a ns hl _ hS => ⟨a, ns, rfl, hS, fun _ => rfl⟩, fun base _ _ => hF base⟩
end
