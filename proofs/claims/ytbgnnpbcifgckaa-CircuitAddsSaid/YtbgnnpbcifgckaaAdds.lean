/- Proved here: the statement CircuitAdds of the seat, whole, under no condition: in smooth and decomposable circuits, derivatives are values with a variable known, and add up to the value. (The function returns true for all drafts and all bytes, in every world that the statement speaks of.) -/
import Derived.Test.YtbgnnpbcifgckaaAdds5
import Derived.Test.YtbgnnpbcifgckaaAdds4
import Derived.Deep.Slices
import Derived.OpenShut
import Derived.ProofKit
import Derived.ChangeCalls
import Derived.Test.YtbgnnpbcifgckaaRows
set_option linter.all false
namespace Go.Proofs.Ytbgnnpbcifgckaa
open Go Go.Fw Go.RowKit
set_option maxRecDepth 100000
set_option maxHeartbeats 4000000
theorem sumI_map_le {α : Type} {l : List α} {f g : α → Int} (h : ∀ a ∈ l, f a ≤ g a) : sumI (l.map f) ≤ sumI (l.map g) := by
  induction l with
  | nil => exact Int.le_refl _
  | cons x l ih =>
    rw [List.map_cons, List.map_cons, sumI_cons, sumI_cons]
    have := h x List.mem_cons_self
    have := ih fun a ha => h a (List.mem_cons_of_mem _ ha)
    omega
theorem prodI_map_le {α : Type} {l : List α} {f g : α → Int} (h : ∀ a ∈ l, 0 ≤ f a ∧ f a ≤ g a) : 0 ≤ prodI (l.map f) ∧ prodI (l.map f) ≤ prodI (l.map g) := by
  induction l with
  | nil => exact ⟨(by decide : (0 : Int) ≤ prodI []), Int.le_refl _⟩
  | cons x l ih =>
    rw [List.map_cons, List.map_cons, prodI_cons, prodI_cons]
    obtain ⟨h1, h2⟩ := h x List.mem_cons_self
    obtain ⟨h3, h4⟩ := ih fun a ha => h a (List.mem_cons_of_mem _ ha)
    exact ⟨Int.mul_nonneg h1 h3, Int.mul_le_mul h2 h4 h3 (Int.le_trans h1 h2)⟩
/-- The second input knows less than the first. -/
def lessI (a b : List Int) : Prop := ∀ i, b.getD i 0 = a.getD i 0 ∨ b.getD i 0 = -1
theorem val_mono {a b o p : List Int} {cards : List Int} {g : Gate} {y : Int} (hab : lessI a b) (hlen : o.length = p.length) (ho : numsOK o) (hop : Le o p) (hg : gOK cards o.length g = true) (h : valO b p g = some y) : ∃ x, valO a o g = some x ∧ x ≤ y := by
  have hon := nn_of ho
  unfold valO at h ⊢
  by_cases h1 : g.1 = 1
  · rw [if_pos h1] at h ⊢
    exact ⟨_, rfl, by cases h; exact Int.le_refl _⟩
  rw [if_neg h1] at h ⊢
  by_cases h2 : g.1 = 2
  · rw [if_pos h2] at h ⊢
    refine ⟨_, rfl, ?_⟩
    cases h
    rcases hab g.2.1.toNat with e | e
    · rw [e]; exact Int.le_refl _
    · rw [if_pos (Or.inl e)]
      split <;> omega
  rw [if_neg h2] at h ⊢
  by_cases h3 : g.1 = 3
  · rw [if_pos h3] at h ⊢
    have hs : sumI (atF o g.2.2.2.2) ≤ sumI (atF p g.2.2.2.2) := sumI_map_le fun k _ => hop _
    split at h
    · cases h
      rw [if_pos (by omega)]
      exact ⟨_, rfl, hs⟩
    · cases h
  · rw [if_neg h3] at h ⊢
    have hs := (prodI_map_le (l := g.2.2.2.2) (f := fun k : Int => o.getD k.toNat 0) (g := fun k : Int => p.getD k.toNat 0) fun k _ => ⟨hon _, hop _⟩).2
    have hs : prodI (atF o g.2.2.2.2) ≤ prodI (atF p g.2.2.2.2) := hs
    split at h
    · cases h
      rw [if_pos (by omega)]
      exact ⟨_, rfl, hs⟩
    · cases h
theorem le_snoc {o p : List Int} {x y : Int} (hlen : o.length = p.length) (h : Le o p) (hx : x ≤ y) : Le (o ++ [x]) (p ++ [y]) := by
  intro i
  rcases Nat.lt_or_ge i o.length with hi | hi
  · rw [List.getD_eq_getElem?_getD, List.getD_eq_getElem?_getD, List.getElem?_append_left hi, List.getElem?_append_left (hlen ▸ hi)]
    have := h i
    rwa [List.getD_eq_getElem?_getD, List.getD_eq_getElem?_getD] at this
  · rw [List.getD_eq_getElem?_getD, List.getD_eq_getElem?_getD, List.getElem?_append_right hi, List.getElem?_append_right (hlen ▸ hi), hlen]
    generalize i - p.length = k
    cases k with
    | zero => exact hx
    | succ k => exact Int.le_refl _
theorem vals_mono {cards a b : List Int} (hab : lessI a b) : ∀ {gs : List Gate} {o p ys : List Int}, o.length = p.length → numsOK o → Le o p → (∀ j, j < gs.length → gOK cards ((o.length + j : Nat) : Int) (gs.getD j gz) = true) → valsO b gs p = some ys → ∃ xs, valsO a gs o = some xs ∧ Le xs ys
  | [], o, p, ys, _, _, hop, _, h => by
    simp only [valsO, Option.some.injEq] at h
    subst h
    exact ⟨o, rfl, hop⟩
  | g :: gs, o, p, ys, hlen, ho, hop, hg, h => by
    simp only [valsO] at h
    split at h
    · cases h
    · rename_i y hy
      have hg0 := hg 0 (by simp)
      obtain ⟨x, hx, hxy⟩ := val_mono (cards := cards) (g := g) hab hlen ho hop hg0 hy
      obtain ⟨xs, h1, h2⟩ := vals_mono (cards := cards) (o := o ++ [x]) (p := p ++ [y]) hab (by simp [hlen]) (numsOK_snoc ho (valO_ok (cards := cards) ho hg0 hx)) (le_snoc hlen hop hxy) (fun j hj => by
        have := hg (j + 1) (by simpa using hj)
        rw [List.getD_cons_succ] at this
        rw [List.length_append, List.length_singleton, show o.length + 1 + j = o.length + (j + 1) by omega]
        exact this) h
      exact ⟨xs, by simp only [valsO]; rw [hx]; exact h1, h2⟩
/-- If less is known, no value is smaller. -/
theorem eval_mono {cards a b : List Int} {gates : List Gate} (hr : rightB cards gates = true) (ha : inputB cards a = true) (hb : inputB cards b = true) (hab : lessI a b) (h : (evalF cards gates b).2 = 0) :
    (evalF cards gates a).2 = 0 ∧ (evalF cards gates a).1 ≤ (evalF cards gates b).1 := by
  unfold evalF at h ⊢
  rw [if_neg (by rw [hr]; decide), if_neg (by rw [hb]; decide)] at h
  rw [if_neg (by rw [hr]; decide), if_neg (by rw [ha]; decide), if_neg (by rw [hr]; decide), if_neg (by rw [hb]; decide)]
  cases hv : valsO b gates [] with
  | none => rw [hv] at h; cases h
  | some ys =>
    obtain ⟨xs, h1, h2⟩ := vals_mono (cards := cards) (o := []) (p := []) hab rfl (fun x hx => absurd hx List.not_mem_nil) (Le.refl _) (fun j hj => by simpa using (right_all hr).2 j hj) hv
    rw [h1]
    have l1 := valsO_len h1
    have l2 := valsO_len hv
    dsimp only
    refine ⟨rfl, ?_⟩
    rw [l1, l2]
    exact h2 _
theorem eval_err {cards a : List Int} {gates : List Gate} (hr : rightB cards gates = true) (ha : inputB cards a = true) : (evalF cards gates a).2 = 0 ∨ (evalF cards gates a).2 = 6 := by
  unfold evalF
  rw [if_neg (by rw [hr]; decide), if_neg (by rw [ha]; decide)]
  cases valsO a gates [] with
  | none => exact Or.inr rfl
  | some ys => exact Or.inl rfl

/-- Whether all gates are valid. -/
def allOK (cards : List Int) (gs : List Gate) : Prop := ∀ m, m < gs.length → gOK cards m (gs.getD m gz) = true
theorem allOK_snoc {cards : List Int} {gs : List Gate} {g : Gate} (h : allOK cards gs) (hg : gOK cards gs.length g = true) : allOK cards (gs ++ [g]) := by
  intro m hm
  rw [List.length_append, List.length_singleton] at hm
  by_cases e : m < gs.length
  · rw [List.getD_eq_getElem?_getD, List.getElem?_append_left e, ← List.getD_eq_getElem?_getD]
    exact h m e
  · have : m = gs.length := by omega
    subst this
    rw [List.getD_eq_getElem?_getD, List.getElem?_append_right (Nat.le_refl _), Nat.sub_self]
    exact hg
theorem isR_ok {cards : List Int} {v : Nat} (hv : v < cards.length) {gs : List Gate} (h : allOK cards gs) : ∀ x : Nat, (x : Int) ≤ cards.getD v 0 → allOK cards (gs ++ isR v x)
  | 0, _ => by
    rw [show isR v 0 = [] from rfl, List.append_nil]; exact h
  | x + 1, hx => by
    rw [isR_succ, ← List.append_assoc]
    refine allOK_snoc (isR_ok hv h x (by omega)) ?_
    have hlt : (x : Int) < cards.getD v 0 := by omega
    show gateB 2 v x 0 [] _ cards = true
    rw [gateB, if_neg (by decide), if_pos rfl]
    simp only [and_true, Bool.and_eq_true, decide_eq_true_eq, Int.toNat_natCast, List.length_nil]
    omega
theorem isL_ok {cards : List Int} (hc : ∀ c ∈ cards, 1 ≤ c ∧ c ≤ 3) : ∀ v, v ≤ cards.length → allOK cards (isL cards v)
  | 0, _ => fun m hm => absurd hm (Nat.not_lt_zero m)
  | v + 1, hv => by
    have := hc _ (getD_mem (d := 0) (show v < cards.length by omega))
    rw [isL]
    exact isR_ok (by omega) (isL_ok hc v (by omega)) _ (by omega)
theorem argsQ_ok {n : Nat} {q : Q4} (hn : 1 ≤ n) : (argsQ n q).length ≠ 0 ∧ argsB n (argsQ n q) = true := by
  have h1 : q.2.1 % n < n := Nat.mod_lt _ hn
  have h2 : q.2.2.1 % n < n := Nat.mod_lt _ hn
  unfold argsQ
  generalize q.2.1 % n = x at *
  generalize q.2.2.1 % n = y at *
  split
  · refine ⟨by simp, argsB_true fun m hm => ?_⟩
    have : m = 0 := by simpa using hm
    subst this
    simp only [okAt, and_true, true_or, true_and, List.getD_cons_zero, Bool.and_eq_true, Bool.or_eq_true, decide_eq_true_eq]
    omega
  · refine ⟨by simp, argsB_true fun m hm => ?_⟩
    have : m = 0 ∨ m = 1 := by
      have : m < 2 := hm
      omega
    rcases this with rfl | rfl
    · simp only [okAt, and_true, true_or, true_and, List.getD_cons_zero, Bool.and_eq_true, Bool.or_eq_true, decide_eq_true_eq]
      omega
    · simp only [okAt, and_true, true_or, List.getD_cons_zero, List.getD_cons_succ, Nat.sub_self, Bool.and_eq_true, Bool.or_eq_true, decide_eq_true_eq]
      omega
theorem gateQ_ok {cards : List Int} {unit : Int} {n : Nat} {q : Q4} (hu : unit = 1 ∨ unit = 100000000000) (hn : 1 ≤ n) : gOK cards n (gateQ unit n q) = true := by
  unfold gateQ
  by_cases h5 : q.1 % 5 = 0
  · rw [if_pos h5]
    show gateB 1 0 0 _ [] _ cards = true
    rw [gateB, if_pos rfl]
    simp only [and_true, Bool.and_eq_true, decide_eq_true_eq, List.length_nil]
    have : q.2.1 % 8 < 8 := Nat.mod_lt _ (by decide)
    rcases hu with rfl | rfl <;> omega
  · rw [if_neg h5]
    show gateB _ 0 0 0 (argsQ n q) _ cards = true
    have h3 : q.1 % 2 < 2 := Nat.mod_lt _ (by decide)
    obtain ⟨h1, h2⟩ := argsQ_ok (q := q) hn
    rw [gateB, if_neg (by omega), if_neg (by omega), if_pos (by omega)]
    simp only [Bool.and_eq_true, decide_eq_true_eq]
    exact ⟨⟨⟨⟨h1, trivial⟩, trivial⟩, trivial⟩, h2⟩
theorem gatesQ_ok {cards : List Int} {unit : Int} (hu : unit = 1 ∨ unit = 100000000000) : ∀ (dg : List Q4) (g0 : List Gate), 1 ≤ g0.length → allOK cards g0 → allOK cards (gatesQ unit g0 dg)
  | [], g0, _, h => h
  | q :: dg, g0, hn, h => gatesQ_ok hu dg (g0 ++ [gateQ unit g0.length q]) (by simp) (allOK_snoc h (gateQ_ok hu hn))
theorem prodI_le3 {l : List Int} (h : ∀ c ∈ l, 1 ≤ c ∧ c ≤ 3) : 0 ≤ prodI l ∧ prodI l ≤ 3 ^ l.length := by
  induction l with
  | nil => exact ⟨by decide, by decide⟩
  | cons x l ih =>
    obtain ⟨h1, h2⟩ := h x List.mem_cons_self
    obtain ⟨h3, h4⟩ := ih fun a ha => h a (List.mem_cons_of_mem _ ha)
    rw [prodI_cons, List.length_cons, Int.pow_succ, Int.mul_comm ((3 : Int) ^ l.length)]
    exact ⟨Int.mul_nonneg (by omega) h3, Int.mul_le_mul h2 h4 h3 (by decide)⟩
theorem gatesD_len (dc : List Nat) (dg : List Q4) (big : Bool) : 1 ≤ (gatesD dc dg big).length ∧ (gatesD dc dg big).length ≤ 42 := by
  obtain ⟨h1, h2, h3⟩ := cardsD_ok dc
  have h4 := isL_len h3 _ (Nat.le_refl _)
  rw [gatesD, gatesQ_len, List.length_take]
  omega
theorem draft_right (dc : List Nat) (dg : List Q4) (big : Bool) : rightB (cardsD dc) (gatesD dc dg big) = true := by
  obtain ⟨h1, h2, h3⟩ := cardsD_ok dc
  have h4 := isL_len h3 _ (Nat.le_refl _)
  have h5 := gatesD_len dc dg big
  refine (rightB_true ?_ h5.1 (by omega) (gatesQ_ok ?_ _ _ (by omega) (isL_ok h3 _ (Nat.le_refl _)))).symm
  · simp only [cardsB, Bool.and_eq_true, decide_eq_true_eq, List.all_eq_true]
    refine ⟨⟨⟨h1, by omega⟩, fun c hc => ?_⟩, ?_⟩
    · have := h3 c hc
      simp only [cardOK, Bool.and_eq_true, decide_eq_true_eq]
      omega
    · have h6 := (prodI_le3 h3).2
      have h7 : (3 : Int) ^ (cardsD dc).length ≤ 3 ^ 4 := by
        generalize (cardsD dc).length = n at h2
        match n, h2 with
        | 0, _ | 1, _ | 2, _ | 3, _ | 4, _ => decide
      have h8 : (3 : Int) ^ 4 = 81 := by decide
      omega
  · cases big
    · exact Or.inl rfl
    · exact Or.inr rfl
theorem draft_args (dc : List Nat) (dg : List Q4) (big : Bool) : ∀ g ∈ gatesD dc dg big, g.2.2.2.2.length ≤ 2 := by
  have hq : ∀ (unit : Int) (dg : List Q4) (g0 : List Gate), (∀ g ∈ g0, g.2.2.2.2.length ≤ 2) → ∀ g ∈ gatesQ unit g0 dg, g.2.2.2.2.length ≤ 2 := by
    intro unit dg
    induction dg with
    | nil => intro g0 h; exact h
    | cons q dg ih =>
      intro g0 h
      refine ih (g0 ++ [gateQ unit g0.length q]) fun g hg => ?_
      rcases List.mem_append.1 hg with hg | hg
      · exact h g hg
      · rw [List.mem_singleton] at hg
        subst hg
        unfold gateQ argsQ
        split
        · exact Nat.zero_le _
        · split
          · exact (by decide : 1 ≤ 2)
          · exact Nat.le_refl _
  refine hq _ _ _ ?_
  generalize (cardsD dc).length = n
  induction n with
  | zero => intro g hg; exact absurd hg List.not_mem_nil
  | succ v ih =>
    intro g hg
    rw [isL] at hg
    rcases List.mem_append.1 hg with hg | hg
    · exact ih g hg
    · obtain ⟨x, _, rfl⟩ := List.mem_map.1 hg
      exact Nat.zero_le _
theorem inp_ok {cards : List Int} {l : List Nat} (hc : ∀ v, v < cards.length → 0 ≤ cards.getD v 0) : inputB cards (inpF cards l cards.length) = true := by
  refine (inputB_t (by rw [inpF_len]) fun v hv => ?_).symm
  rw [inpF_len] at hv
  have e : (inpF cards l cards.length).getD v 0 = inpV cards l v := by
    rw [inpF, List.getD_eq_getElem?_getD, List.getElem?_map, List.getElem?_range hv]; rfl
  rw [e, inpV]
  have := hc v hv
  have ht1 := Int.tmod_nonneg (max (cards.getD v 0) 0 + 1) (show (0 : Int) ≤ ((l.getD (v % 8) 0 : Nat) : Int) by omega)
  have ht2 := Int.tmod_lt_of_pos ((l.getD (v % 8) 0 : Nat) : Int) (show (0 : Int) < max (cards.getD v 0) 0 + 1 by omega)
  omega
/-- An input, less known at the first places. -/
def lessF (which : Nat) (a : List Int) (j : Nat) : List Int := (List.range a.length).map fun v => if v < j ∧ (which >>> (v % 8)) &&& 1 = 1 then -1 else a.getD v 0
theorem lessF_len (which : Nat) (a : List Int) (j : Nat) : (lessF which a j).length = a.length := by rw [lessF, List.length_map, List.length_range]
theorem lessF_at {which : Nat} {a : List Int} {j v : Nat} (h : v < a.length) : (lessF which a j).getD v 0 = if v < j ∧ (which >>> (v % 8)) &&& 1 = 1 then -1 else a.getD v 0 := by
  rw [lessF, List.getD_eq_getElem?_getD, List.getElem?_map, List.getElem?_range h]; rfl
theorem lessF_zero (which : Nat) (a : List Int) : lessF which a 0 = a := by
  refine list_ext0 (d := 0) (lessF_len ..) fun i hi => ?_
  rw [lessF_len] at hi
  rw [lessF_at hi, if_neg (by omega)]
theorem lessF_yes {which : Nat} {a : List Int} {j : Nat} (hj : j < a.length) (h : (which >>> (j % 8)) &&& 1 = 1) : (lessF which a j).set j (-1) = lessF which a (j + 1) := by
  refine list_ext0 (d := 0) (by rw [List.length_set, lessF_len, lessF_len]) fun i hi => ?_
  rw [List.length_set, lessF_len] at hi
  rw [getD_set, lessF_len, lessF_at hi, lessF_at hi]
  by_cases e : j = i
  · subst e
    rw [if_pos ⟨rfl, hi⟩, if_pos ⟨by omega, h⟩]
  · rw [if_neg fun h => e h.1]
    by_cases h2 : i < j
    · simp only [h2, show i < j + 1 by omega, true_and]
    · simp only [h2, show ¬ i < j + 1 by omega, false_and, if_false]
theorem lessF_no {which : Nat} {a : List Int} {j : Nat} (h : ¬ (which >>> (j % 8)) &&& 1 = 1) : lessF which a j = lessF which a (j + 1) := by
  refine list_ext0 (d := 0) (by rw [lessF_len, lessF_len]) fun i hi => ?_
  rw [lessF_len] at hi
  rw [lessF_at hi, lessF_at hi]
  by_cases e : i = j
  · subst e
    rw [if_neg (by omega), if_neg fun h2 => h h2.2]
  · by_cases h2 : i < j
    · simp only [h2, show i < j + 1 by omega, true_and]
    · simp only [h2, show ¬ i < j + 1 by omega, false_and, if_false]
theorem lessF_less (which : Nat) (a : List Int) (j : Nat) : lessI a (lessF which a j) := by
  intro i
  rcases Nat.lt_or_ge i a.length with h | h
  · rw [lessF_at h]
    split
    · exact Or.inr rfl
    · exact Or.inl rfl
  · refine Or.inl ?_
    rw [List.getD_eq_getElem?_getD, List.getD_eq_getElem?_getD, List.getElem?_eq_none h, List.getElem?_eq_none (by rw [lessF_len]; exact h)]
theorem lessF_ok {cards a : List Int} {which j : Nat} (h : inputB cards a = true) (hc : ∀ v, v < cards.length → 0 ≤ cards.getD v 0) : inputB cards (lessF which a j) = true := by
  have hl : a.length = cards.length := by
    simp only [inputB, Bool.and_eq_true, decide_eq_true_eq] at h
    exact h.1
  have h2 : ∀ v, v < a.length → -1 ≤ a.getD v 0 ∧ a.getD v 0 < cards.getD v 0 := by
    simp only [inputB, Bool.and_eq_true, decide_eq_true_eq, List.all_eq_true, List.mem_range] at h
    exact h.2
  refine (inputB_t (by rw [lessF_len, hl]) fun v hv => ?_).symm
  rw [lessF_len] at hv
  rw [lessF_at hv]
  have := h2 v hv
  have := hc v (by omega)
  split <;> omega
end Go.Proofs.Ytbgnnpbcifgckaa
namespace Go.Proofs.Ytbgnnpbcifgckaa
open Go Go.Fw Go.RowKit
set_option maxRecDepth 100000
set_option maxHeartbeats 4000000
/-- The equation of a gate's value. -/
def valP (b w : List Int) (g : Gate) : Int :=
  if g.1 = 1 then g.2.2.2.1 else if g.1 = 2 then (if b.getD g.2.1.toNat 0 = -1 ∨ b.getD g.2.1.toNat 0 = g.2.2.1 then 1 else 0)
  else if g.1 = 3 then sumI (atF w g.2.2.2.2) else prodI (atF w g.2.2.2.2)
theorem valO_P {b o : List Int} {g : Gate} {v : Int} (h : valO b o g = some v) : v = valP b o g := by
  unfold valO at h
  unfold valP
  by_cases h1 : g.1 = 1
  · rw [if_pos h1] at h ⊢; cases h; rfl
  rw [if_neg h1] at h ⊢
  by_cases h2 : g.1 = 2
  · rw [if_pos h2] at h ⊢; cases h; rfl
  rw [if_neg h2] at h ⊢
  by_cases h3 : g.1 = 3
  · rw [if_pos h3] at h ⊢
    split at h
    · cases h; rfl
    · cases h
  · rw [if_neg h3] at h ⊢
    split at h
    · cases h; rfl
    · cases h
theorem atF_congr {w o : List Int} {l : List Int} (h : ∀ a ∈ l, w.getD a.toNat 0 = o.getD a.toNat 0) : atF w l = atF o l := List.map_congr_left h
theorem valP_congr {b w o : List Int} {g : Gate} (h : ∀ a ∈ g.2.2.2.2, w.getD a.toNat 0 = o.getD a.toNat 0) : valP b w g = valP b o g := by
  unfold valP; rw [atF_congr h]
theorem valsO_pre {b : List Int} : ∀ {gs : List Gate} {o vs : List Int}, valsO b gs o = some vs → ∃ r, vs = o ++ r
  | [], o, vs, h => by
    simp only [valsO, Option.some.injEq] at h
    exact ⟨[], by rw [h, List.append_nil]⟩
  | g :: gs, o, vs, h => by
    simp only [valsO] at h
    split at h
    · cases h
    · obtain ⟨r, e⟩ := valsO_pre h
      exact ⟨_ :: r, by rw [e, List.append_assoc]; rfl⟩
theorem vals_at {b : List Int} : ∀ {gs : List Gate} {o vs : List Int}, valsO b gs o = some vs → ∀ j, j < gs.length → vs.getD (o.length + j) 0 = valP b (vs.take (o.length + j)) (gs.getD j gz)
  | [], _, _, _, j, hj => absurd hj (Nat.not_lt_zero j)
  | g :: gs, o, vs, h, j, hj => by
    simp only [valsO] at h
    split at h
    · cases h
    · rename_i v hv
      cases j with
      | zero =>
        obtain ⟨r, e⟩ := valsO_pre h
        rw [Nat.add_zero, e, List.append_assoc, List.take_append_of_le_length (Nat.le_refl _), List.take_length, List.getD_eq_getElem?_getD, List.getElem?_append_right (Nat.le_refl _), Nat.sub_self]
        exact valO_P hv
      | succ j =>
        have := vals_at h j (by simpa using hj)
        rw [List.length_append, List.length_singleton, show o.length + 1 + j = o.length + (j + 1) by omega] at this
        rw [List.getD_cons_succ]
        exact this
/-- A list of values that satisfies the equations of all gates. -/
def allEq (gates : List Gate) (b w : List Int) : Prop := ∀ i, i < gates.length → w.getD i 0 = valP b w (gates.getD i gz)
theorem orU_bit (l : List Nat) (k : Nat) : (orU l).testBit k = l.any fun x => x.testBit k := by
  induction l with
  | nil => rw [show orU [] = 0 from rfl, Nat.zero_testBit]; rfl
  | cons x l ih => rw [orU_cons, Nat.testBit_or, ih, List.any_cons]
/-- Whether a variable is one of a gate's. -/
def kin (gates : List Gate) (k i : Nat) : Bool := ((varsF gates).getD i 0).testBit k
theorem sum_one {f g : Nat → Int} {a : Nat} : ∀ {m : Nat}, a < m → (∀ j, j < m → j ≠ a → f j = g j) → sumI ((List.range m).map f) = sumI ((List.range m).map g) + (f a - g a)
  | 0, h, _ => absurd h (Nat.not_lt_zero a)
  | m + 1, h, hj => by
    rw [List.range_succ, List.map_append, List.map_append, List.map_singleton, List.map_singleton, sumI_snoc, sumI_snoc]
    by_cases e : a = m
    · subst e
      rw [List.map_congr_left fun j hjm => hj j (by have := List.mem_range.1 hjm; omega) (by have := List.mem_range.1 hjm; omega)]
      omega
    · rw [sum_one (a := a) (by omega) fun j h1 h2 => hj j (by omega) h2, hj m (by omega) (fun h => e h.symm)]
      omega
theorem sum_zero {α : Type} {f : α → Int} : ∀ {l : List α}, (∀ x ∈ l, f x = 0) → sumI (l.map f) = 0
  | [], _ => rfl
  | x :: l, h => by rw [List.map_cons, sumI_cons, h x List.mem_cons_self, sum_zero fun y hy => h y (List.mem_cons_of_mem x hy)]; rfl
theorem sum_swap {f : Nat → Nat → Int} {n : Nat} : ∀ m, sumI ((List.range m).map fun x => sumI ((List.range n).map fun i => f x i)) = sumI ((List.range n).map fun i => sumI ((List.range m).map fun x => f x i))
  | 0 => by
    show 0 = _
    rw [sum_zero]
    intro x _; rfl
  | m + 1 => by
    rw [List.range_succ, List.map_append, List.map_singleton, sumI_snoc, sum_swap m]
    have : ∀ l : List Nat, sumI (l.map fun i => sumI ((List.range m).map fun x => f x i)) + sumI (l.map fun i => f m i) = sumI (l.map fun i => sumI ((List.range m ++ [m]).map fun x => f x i)) := by
      intro l
      induction l with
      | nil => rfl
      | cons i l ih =>
        rw [List.map_cons, List.map_cons, List.map_cons, sumI_cons, sumI_cons, sumI_cons, ← ih, List.map_append, List.map_singleton, sumI_snoc]
        omega
    exact this _
section
variable {cards : List Int} {gates : List Gate} {k : Nat}
theorem val_eq (hr : rightB cards gates = true) {b vs : List Int} (h : valsO b gates [] = some vs) : allEq gates b vs := by
  intro i hi
  have h1 := vals_at h i hi
  rw [List.length_nil, Nat.zero_add] at h1
  rw [h1]
  refine valP_congr fun a ha => ?_
  have := gate_args ((right_all hr).2 i hi) a ha
  rw [List.getD_eq_getElem?_getD, List.getElem?_take, if_pos (by omega), List.getD_eq_getElem?_getD]
theorem kin_eq (hr : rightB cards gates = true) {i : Nat} (hi : i < gates.length) : kin gates k i = ((decide ((gates.getD i gz).1 = 2) && decide ((gates.getD i gz).2.1.toNat = k)) || (gates.getD i gz).2.2.2.2.any fun a => kin gates k a.toNat) := by
  rw [kin, varsF_at hi (gate_args ((right_all hr).2 i hi)), setG, orU_bit, List.any_append, List.any_map]
  congr 1
  by_cases h2 : (gates.getD i gz).1 = 2
  · rw [if_pos h2, decide_eq_true h2, List.any_cons, List.any_nil, Bool.or_false, Bool.true_and, Nat.one_shiftLeft, Nat.testBit_two_pow]
  · rw [if_neg h2, decide_eq_false h2]; rfl
/-- A gate's value does not change with a variable that is none of its. -/
theorem same_out (hr : rightB cards gates = true) {b b' w w' : List Int} (hb : ∀ v, v ≠ k → b.getD v 0 = b'.getD v 0) (hw : allEq gates b w) (hw' : allEq gates b' w') : ∀ (n i : Nat), i < n → i < gates.length → kin gates k i = false → w.getD i 0 = w'.getD i 0
  | 0, i, h, _, _ => absurd h (Nat.not_lt_zero i)
  | n + 1, i, h, hi, hki => by
    rw [kin_eq hr hi, Bool.or_eq_false_iff, List.any_eq_false] at hki
    have hap := gate_args ((right_all hr).2 i hi)
    have ih : ∀ a ∈ (gates.getD i gz).2.2.2.2, w.getD a.toNat 0 = w'.getD a.toNat 0 := fun a ha => by
      have h1 := hap a ha
      exact same_out hr hb hw hw' n a.toNat (by omega) (by omega) (Bool.eq_false_iff.2 (hki.2 a ha))
    rw [hw i hi, hw' i hi, valP_congr ih]
    unfold valP
    by_cases h2 : (gates.getD i gz).1 = 2
    · rw [decide_eq_true h2, Bool.true_and] at hki
      have : (gates.getD i gz).2.1.toNat ≠ k := of_decide_eq_false hki.1
      rw [hb _ this]
    · rw [if_neg h2, if_neg h2]
theorem fold_sum {vs w : List Int} {g : Gate} {d : Int} {m : Nat} : ∀ {args : List Int} (l : List Int), (∀ a ∈ args, 0 ≤ a ∧ a < m) → m ≤ l.length →
    sumI ((List.range m).map fun j => if kin gates k j = true then (args.foldl (stepA vs g d) l).getD j 0 * w.getD j 0 else 0) = sumI ((List.range m).map fun j => if kin gates k j = true then l.getD j 0 * w.getD j 0 else 0) + sumI (args.map fun a => if kin gates k a.toNat = true then d * byD vs g a * w.getD a.toNat 0 else 0)
  | [], l, _, _ => by rw [List.foldl_nil, List.map_nil, sumI_nil, Int.add_zero]
  | a :: args, l, ha, hm => by
    have h1 := ha a List.mem_cons_self
    rw [List.foldl_cons, fold_sum (stepA vs g d l a) (fun b hb => ha b (List.mem_cons_of_mem a hb)) (by rw [stepA_len]; exact hm), List.map_cons, sumI_cons]
    have := sum_one (m := m) (a := a.toNat) (f := fun j => if kin gates k j = true then (stepA vs g d l a).getD j 0 * w.getD j 0 else 0) (g := fun j => if kin gates k j = true then l.getD j 0 * w.getD j 0 else 0) (by omega) fun j hj hne => by
      have e : (stepA vs g d l a).getD j 0 = l.getD j 0 := by rw [stepA, getD_set, if_neg fun e => hne e.1.symm]
      rw [e]
    have e : (stepA vs g d l a).getD a.toNat 0 = l.getD a.toNat 0 + d * byD vs g a := by rw [stepA, getD_set, if_pos ⟨rfl, by omega⟩]
    rw [this, e]
    split
    · rw [Int.add_mul]; omega
    · omega
/-- What a gate hands on to its arguments, in all. -/
theorem gate_sum (hr : rightB cards gates = true) (hsm : smF (varsF gates) gates gates.length = true) (hdc : dcF (varsF gates) gates gates.length = true) {b b' vs w : List Int} (hb : ∀ v, v ≠ k → b.getD v 0 = b'.getD v 0) (hv : allEq gates b vs) (hw : allEq gates b' w) {m : Nat} (hm : m < gates.length) (d : Int) :
    sumI ((gates.getD m gz).2.2.2.2.map fun a => if kin gates k a.toNat = true then d * byD vs (gates.getD m gz) a * w.getD a.toNat 0 else 0) = if kin gates k m = true ∧ (gates.getD m gz).1 ≠ 2 then d * w.getD m 0 else 0 := by
  have hgk := (right_all hr).2 m hm
  have hap := gate_args hgk
  have hke := kin_eq (k := k) hr hm
  by_cases hkm : kin gates k m = true
  · rcases gate_ok hgk with h | h | h
    · exfalso
      rw [hkm, h.2.2.2, decide_eq_false (show ¬ (gates.getD m gz).1 = 2 by omega)] at hke
      cases hke
    · rw [if_neg fun e => e.2 h.1, h.2.2.2.2.2]; rfl
    · obtain ⟨h1, h2, h3⟩ := h
      rw [if_pos ⟨hkm, by omega⟩]
      rw [hkm, decide_eq_false (show ¬ (gates.getD m gz).1 = 2 by omega), Bool.false_and, Bool.false_or] at hke
      have hwm := hw m hm
      rw [valP, if_neg (by omega), if_neg (by omega)] at hwm
      by_cases hk3 : (gates.getD m gz).1 = 3
      · rw [if_pos hk3] at hwm
        have hsi := (sm_iff hr hm).1 (by rw [smF, List.all_eq_true] at hsm; exact hsm m (List.mem_range.2 hm)) hk3
        have hall : ∀ a ∈ (gates.getD m gz).2.2.2.2, kin gates k a.toNat = true := by
          intro a ha
          obtain ⟨j, hj, rfl⟩ := List.getElem_of_mem ha
          have := hsi j hj
          rw [getD_lt hj] at this
          rw [kin, this]
          exact hkm
        rw [hwm, List.map_congr_left (g := fun a => d * w.getD a.toNat 0) fun a ha => by rw [if_pos (hall a ha), byD, if_neg (by omega), Int.mul_one]]
        have : ∀ l : List Int, sumI (l.map fun a => d * w.getD a.toNat 0) = d * sumI (atF w l) := by
          intro l
          induction l with
          | nil => rw [List.map_nil, sumI_nil]; exact (Int.mul_zero d).symm
          | cons a l ih => rw [List.map_cons, sumI_cons, ih, show atF w (a :: l) = w.getD a.toNat 0 :: atF w l from rfl, sumI_cons, Int.mul_add]
        exact this _
      · rw [if_neg hk3] at hwm
        have hk4 : (gates.getD m gz).1 = 4 := by omega
        have hdi := (dc_iff (varsF gates) (gates.getD m gz)).1 (by rw [dcF, List.all_eq_true] at hdc; exact hdc m (List.mem_range.2 hm)) hk4
        have hpw : (gates.getD m gz).2.2.2.2.Pairwise fun x y => ((varsF gates).getD y.toNat 0 &&& (varsF gates).getD x.toNat 0) = 0 := by
          rw [List.pairwise_iff_getElem]
          intro i j hi hj hij
          have := hdi j i hj hij
          rwa [getD_lt hj, getD_lt hi] at this
        have hinc := argsB_inc h3
        obtain ⟨a0, ha0, hka⟩ := List.any_eq_true.1 hke.symm
        obtain ⟨l1, l2, e⟩ := List.append_of_mem ha0
        have hne : ∀ x y : Nat, (x &&& y) = 0 → x.testBit k = true → y.testBit k = false := by
          intro x y h hx
          have := congrArg (fun n => n.testBit k) h
          simp only [Nat.testBit_and, Nat.zero_testBit, hx, Bool.true_and] at this
          exact this
        have hap' := hap
        rw [e] at hpw hinc hap'
        obtain ⟨_, p2, p3⟩ := List.pairwise_append.1 hpw
        obtain ⟨_, q2, q3⟩ := List.pairwise_append.1 hinc
        rw [List.pairwise_cons] at p2 q2
        have n1 : ∀ a ∈ l1, kin gates k a.toNat = false := fun a ha => hne _ _ (p3 a ha a0 List.mem_cons_self) hka
        have n2 : ∀ a ∈ l2, kin gates k a.toNat = false := fun a ha => hne _ _ (by rw [Nat.and_comm]; exact p2.1 a ha) hka
        have s1 : atF vs l1 = atF w l1 := atF_congr fun a ha => by
          have := hap' a (List.mem_append_left _ ha)
          exact same_out hr hb hv hw gates.length _ (by omega) (by omega) (n1 a ha)
        have s2 : atF vs l2 = atF w l2 := atF_congr fun a ha => by
          have := hap' a (List.mem_append_right _ (List.mem_cons_of_mem _ ha))
          exact same_out hr hb hv hw gates.length _ (by omega) (by omega) (n2 a ha)
        have m1 : a0 ∉ l1 := fun h => by have := q3 a0 h a0 List.mem_cons_self; omega
        have m2 : a0 ∉ l2 := fun h => by have := q2.1 a0 h; omega
        have hby : byD vs (gates.getD m gz) a0 = prodI (atF w l1) * prodI (atF w l2) := by
          rw [byD, if_pos hk4, e, butF_append, prodI_append, butF_none m1, s1]
          congr 1
          rw [show butF vs (a0 :: l2) a0 = butF vs l2 a0 by rw [butF, List.filter_cons_of_neg (by simp)]; rfl, butF_none m2, s2]
        rw [hwm, e, List.map_append, List.map_cons, sumI_append, sumI_cons, sum_zero fun a ha => by rw [n1 a ha]; rfl, sum_zero fun a ha => by rw [n2 a ha]; rfl]
        have hka : kin gates k a0.toNat = true := hka
        rw [if_pos hka, hby, Int.zero_add, Int.add_zero]
        rw [show atF w (l1 ++ a0 :: l2) = atF w l1 ++ w.getD a0.toNat 0 :: atF w l2 by rw [atF, List.map_append]; rfl, prodI_append, prodI_cons]
        ac_rfl
  · rw [if_neg fun h => hkm h.1]
    refine sum_zero fun a ha => ?_
    rw [if_neg]
    intro h
    apply hkm
    rw [hke, Bool.or_eq_true]
    exact Or.inr (List.any_eq_true.2 ⟨a, ha, h⟩)
def wS (vs w : List Int) (gates : List Gate) (k s : Nat) : Int := sumI ((List.range (gates.length - s)).map fun a => if kin gates k a = true then (scat vs gates s).getD a 0 * w.getD a 0 else 0)
def pF (vs w : List Int) (gates : List Gate) (k i : Nat) : Int := if (gates.getD i gz).1 = 2 ∧ (gates.getD i gz).2.1.toNat = k then (sF vs gates).getD i 0 * w.getD i 0 else 0
def pS (vs w : List Int) (gates : List Gate) (k s : Nat) : Int := sumI ((List.range' (gates.length - s) s).map (pF vs w gates k))
/-- The value of the last gate, by the gates that are still to be done, and by those of the variable that are done. -/
theorem scat_inv (hr : rightB cards gates = true) (hsm : smF (varsF gates) gates gates.length = true) (hdc : dcF (varsF gates) gates gates.length = true) {b b' vs w : List Int} (hb : ∀ v, v ≠ k → b.getD v 0 = b'.getD v 0) (hv : allEq gates b vs) (hw : allEq gates b' w) (h1 : 1 ≤ gates.length) (hroot : kin gates k (gates.length - 1) = true) :
    ∀ s, s ≤ gates.length → w.getD (gates.length - 1) 0 = wS vs w gates k s + pS vs w gates k s
  | 0, _ => by
    rw [pS, List.range'_zero, List.map_nil, sumI_nil, Int.add_zero, wS, Nat.sub_zero]
    rw [sum_one (a := gates.length - 1) (g := fun _ => 0) (by omega) fun j hj hne => by
      have e : (scat vs gates 0).getD j 0 = 0 := by
        rw [scat, getD_set, if_neg fun e => hne e.1.symm, List.getD_eq_getElem?_getD, List.getElem?_replicate, if_pos hj]; rfl
      rw [e, Int.zero_mul]; split <;> rfl]
    have e : (scat vs gates 0).getD (gates.length - 1) 0 = 1 := by rw [scat, getD_set, if_pos ⟨rfl, by rw [List.length_replicate]; omega⟩]
    rw [sum_zero fun _ _ => rfl, if_pos hroot, e]
    omega
  | s + 1, hs => by
    have hmn : gates.length - 1 - s < gates.length := by omega
    rw [scat_inv hr hsm hdc hb hv hw h1 hroot s (by omega)]
    have hgk := (right_all hr).2 _ hmn
    have hap := gate_args hgk
    have hgs := gate_sum hr hsm hdc hb hv hw hmn ((scat vs gates s).getD (gates.length - 1 - s) 0)
    have hfs := fold_sum (gates := gates) (k := k) (w := w) (vs := vs) (g := gates.getD (gates.length - 1 - s) gz) (d := (scat vs gates s).getD (gates.length - 1 - s) 0) (m := gates.length - 1 - s) (scat vs gates s) hap (by rw [scat_len]; omega)
    rw [hgs] at hfs
    have e1 : wS vs w gates k (s + 1) = sumI ((List.range (gates.length - 1 - s)).map fun j => if kin gates k j = true then (scat vs gates s).getD j 0 * w.getD j 0 else 0) + (if kin gates k (gates.length - 1 - s) = true ∧ (gates.getD (gates.length - 1 - s) gz).1 ≠ 2 then (scat vs gates s).getD (gates.length - 1 - s) 0 * w.getD (gates.length - 1 - s) 0 else 0) := by
      rw [← hfs, wS, show gates.length - (s + 1) = gates.length - 1 - s by omega, scat]
      rfl
    have e2 : wS vs w gates k s = sumI ((List.range (gates.length - 1 - s)).map fun j => if kin gates k j = true then (scat vs gates s).getD j 0 * w.getD j 0 else 0) + (if kin gates k (gates.length - 1 - s) = true then (scat vs gates s).getD (gates.length - 1 - s) 0 * w.getD (gates.length - 1 - s) 0 else 0) := by
      rw [wS, show gates.length - s = gates.length - 1 - s + 1 by omega, List.range_succ, List.map_append, List.map_singleton, sumI_snoc]
    have e3 : pS vs w gates k (s + 1) = pF vs w gates k (gates.length - 1 - s) + pS vs w gates k s := by
      rw [pS, pS, show gates.length - (s + 1) = gates.length - 1 - s by omega, List.range'_succ, show gates.length - 1 - s + 1 = gates.length - s by omega, List.map_cons, sumI_cons]
    have hsk : (sF vs gates).getD (gates.length - 1 - s) 0 = (scat vs gates s).getD (gates.length - 1 - s) 0 := scat_keep (cards := cards) (fun j hj => (right_all hr).2 j hj) (t := s) (by omega) (by omega) hmn
    have hke := kin_eq (k := k) hr hmn
    have e4 : pF vs w gates k (gates.length - 1 - s) = if kin gates k (gates.length - 1 - s) = true ∧ (gates.getD (gates.length - 1 - s) gz).1 = 2 then (scat vs gates s).getD (gates.length - 1 - s) 0 * w.getD (gates.length - 1 - s) 0 else 0 := by
      rw [pF, hsk]
      by_cases h2 : (gates.getD (gates.length - 1 - s) gz).1 = 2
      · have hargs : (gates.getD (gates.length - 1 - s) gz).2.2.2.2 = [] := by
          rcases gate_ok hgk with h | h | h
          · exact h.2.2.2
          · exact h.2.2.2.2.2
          · omega
        rw [hargs, decide_eq_true h2, Bool.true_and, List.any_nil, Bool.or_false] at hke
        rw [hke]
        by_cases hv2 : (gates.getD (gates.length - 1 - s) gz).2.1.toNat = k
        · rw [if_pos ⟨h2, hv2⟩, if_pos ⟨decide_eq_true hv2, h2⟩]
        · rw [if_neg fun e => hv2 e.2, if_neg fun e => hv2 (of_decide_eq_true e.1)]
      · rw [if_neg fun e => h2 e.1, if_neg fun e => h2 e.2]
    rw [e1, e2, e3, e4]
    by_cases hk : kin gates k (gates.length - 1 - s) = true
    · by_cases h2 : (gates.getD (gates.length - 1 - s) gz).1 = 2
      · rw [if_pos hk, if_neg fun e => e.2 h2, if_pos ⟨hk, h2⟩]; omega
      · rw [if_pos hk, if_pos ⟨hk, h2⟩, if_neg fun e => h2 e.2]; omega
    · rw [if_neg hk, if_neg fun e => hk e.1, if_neg fun e => hk e.1]; omega
/-- The value of the last gate, by the gates of a variable. -/
theorem root_sum (hr : rightB cards gates = true) (hsm : smF (varsF gates) gates gates.length = true) (hdc : dcF (varsF gates) gates gates.length = true) {b b' vs w : List Int} (hb : ∀ v, v ≠ k → b.getD v 0 = b'.getD v 0) (hv : allEq gates b vs) (hw : allEq gates b' w) (h1 : 1 ≤ gates.length) (hroot : kin gates k (gates.length - 1) = true) :
    w.getD (gates.length - 1) 0 = sumI ((List.range gates.length).map (pF vs w gates k)) := by
  rw [scat_inv hr hsm hdc hb hv hw h1 hroot gates.length (Nat.le_refl _), wS, pS, Nat.sub_self, List.range_zero, List.map_nil, sumI_nil, Int.zero_add, List.range_eq_range']
end
end Go.Proofs.Ytbgnnpbcifgckaa
namespace Go.Proofs.Ytbgnnpbcifgckaa
open Go Go.Fw Go.RowKit
set_option maxRecDepth 100000
set_option maxHeartbeats 4000000
theorem map_getD (l : List Int) : (List.range l.length).map (fun x => l.getD x 0) = l := by
  apply List.ext_getElem?
  intro i
  rw [List.getElem?_map]
  by_cases h : i < l.length
  · rw [List.getElem?_range h, List.getElem?_eq_getElem h, Option.map_some, getD_lt h]
  · rw [List.getElem?_eq_none (by rw [List.length_range]; omega), List.getElem?_eq_none (by omega)]; rfl
theorem isO_iff {gates : List Gate} {v x j : Nat} : isO gates v x j = true ↔ (gates.getD j gz).1 = 2 ∧ (gates.getD j gz).2.1 = v ∧ (gates.getD j gz).2.2.1 = x := decide_eq_true_iff
section
variable {cards : List Int} {gates : List Gate} {k : Nat}
theorem inputB_set {a : List Int} (h : inputB cards a = true) {x : Nat} (hk : k < cards.length) (hx : (x : Int) < cards.getD k 0) : inputB cards (a.set k (x : Int)) = true := by
  simp only [inputB, Bool.and_eq_true, decide_eq_true_eq, List.all_eq_true, List.mem_range, List.length_set] at h ⊢
  refine ⟨h.1, fun v hv => ?_⟩
  have := h.2 v hv
  rw [getD_set]
  split
  · rename_i e
    rw [← e.1]; omega
  · exact this
theorem sO_val (hr : rightB cards gates = true) (vs : List Int) {i : Nat} (hi : i < gates.length) : sumI ((List.range (cards.getD k 0).toNat).map fun x : Nat => if isO gates k x i = true then (sF vs gates).getD i 0 else 0) = if (gates.getD i gz).1 = 2 ∧ (gates.getD i gz).2.1.toNat = k then (sF vs gates).getD i 0 else 0 := by
  by_cases h : (gates.getD i gz).1 = 2 ∧ (gates.getD i gz).2.1.toNat = k
  · obtain ⟨h2, hk⟩ := h
    obtain ⟨_, g1, g2, g3, g4, _⟩ := isgate ((right_all hr).2 i hi) h2
    rw [if_pos ⟨h2, hk⟩]
    rw [hk] at g4
    rw [sum_one (a := (gates.getD i gz).2.2.1.toNat) (g := fun _ => 0) (by omega) fun j _ hne => by
      rw [if_neg]
      intro e
      have := isO_iff.1 e
      omega]
    rw [sum_zero fun _ _ => rfl, if_pos (isO_iff.2 ⟨h2, by omega, by omega⟩)]
    omega
  · rw [if_neg h]
    refine sum_zero fun x _ => ?_
    rw [if_neg]
    intro e
    have := isO_iff.1 e
    exact h ⟨this.1, by omega⟩
theorem adds_law (hr : rightB cards gates = true) (hsm : smF (varsF gates) gates gates.length = true) (hdc : dcF (varsF gates) gates gates.length = true) (hk : k < cards.length) (hroot : kin gates k (gates.length - 1) = true) {a : List Int} (ha : inputB cards a = true) (hak : a.getD k 0 = -1)
    (h0 : (evalF cards gates a).2 = 0) (hd : (derF cards gates a).2 = 0) :
    (derF cards gates a).1.length = cards.length ∧ ((derF cards gates a).1.getD k []).length = (cards.getD k 0).toNat ∧
      (∀ x : Nat, (x : Int) < cards.getD k 0 → (evalF cards gates (a.set k (x : Int))).2 = 0 ∧ (evalF cards gates (a.set k (x : Int))).1 = ((derF cards gates a).1.getD k []).getD x 0) ∧
      sumI ((derF cards gates a).1.getD k []) = (evalF cards gates a).1 ∧ (∀ y ∈ (derF cards gates a).1.getD k [], 0 ≤ y) ∧ (evalF cards gates a).1 ≤ 4611686018427387903 := by
  have h1 : 1 ≤ gates.length := by
    simp only [rightB, Bool.and_eq_true, decide_eq_true_eq] at hr
    exact hr.1.1.2
  have hg : allG cards gates := fun j hj => (right_all hr).2 j hj
  have hal : a.length = cards.length := by
    simp only [inputB, Bool.and_eq_true, decide_eq_true_eq] at ha
    omega
  have hm := fun x (hx : (x : Nat) < cards.getD k 0) => eval_mono hr (inputB_set ha hk hx) ha (b := a) (fun i => by
    rw [getD_set]
    split
    · rename_i e; rw [← e.1]; exact Or.inr hak
    · exact Or.inl rfl) h0
  unfold derF at hd ⊢
  rw [if_neg (by rw [hr]; decide), if_neg (by rw [ha]; decide)] at hd ⊢
  have e0 : evalF cards gates a = match valsO a gates [] with
    | none => (0, 6)
    | some vs => (vs.getD (vs.length - 1) 0, 0) := by
    unfold evalF
    rw [if_neg (by rw [hr]; decide), if_neg (by rw [ha]; decide)]
    rfl
  cases hvs : valsO a gates [] with
  | none => rw [hvs] at e0; rw [e0] at h0; cases h0
  | some vs =>
    rw [hvs] at hd e0
    dsimp only at hd e0 ⊢
    have hvl := valsO_len hvs
    rw [List.length_nil, Nat.zero_add] at hvl
    have hn := numsOK_vals (cards := cards) (out := []) (fun j hj => by rw [List.length_nil, Nat.zero_add]; exact hg j hj) (fun x hx => by cases hx) hvs
    by_cases hok : okD cards vs gates
    · rw [if_pos hok]
      dsimp only
      have hve := val_eq hr hvs
      have hrow := outS_row cards vs gates k gates.length
      have key : ∀ x : Nat, (x : Int) < cards.getD k 0 → ((outS cards vs gates gates.length).getD k []).getD x 0 = sumI ((List.range gates.length).map fun i => if isO gates k x i = true then (sF vs gates).getD i 0 else 0) := by
        intro x hx
        rw [outS_out hg hk hx, outP]
        rw [← sumI_filter (isO gates k x) (fun i => if isO gates k x i = true then (sF vs gates).getD i 0 else 0) _ (fun i _ hi => by rw [hi]; rfl)]
        congr 1
        refine List.map_congr_left fun i hi => ?_
        rw [(List.mem_filter.1 hi).2]; rfl
      refine ⟨outS_len .., hrow, fun x hx => ?_, ?_, fun y hy => ?_, ?_⟩
      · obtain ⟨h2, _⟩ := hm x hx
        refine ⟨h2, ?_⟩
        have hbx := inputB_set ha hk hx
        unfold evalF at h2 ⊢
        rw [if_neg (by rw [hr]; decide), if_neg (by rw [hbx]; decide)] at h2 ⊢
        cases hvx : valsO (a.set k (x : Int)) gates [] with
        | none => rw [hvx] at h2; cases h2
        | some vx =>
          have hxl := valsO_len hvx
          rw [List.length_nil, Nat.zero_add] at hxl
          have hxe := val_eq hr hvx
          dsimp only
          rw [hxl, root_sum hr hsm hdc (fun v hv => by rw [getD_set, if_neg fun e => hv e.1.symm]) hve hxe h1 hroot, key x hx]
          congr 1
          refine List.map_congr_left fun i hi => ?_
          have hi := List.mem_range.1 hi
          rw [pF]
          by_cases h2k : (gates.getD i gz).1 = 2 ∧ (gates.getD i gz).2.1.toNat = k
          · obtain ⟨q1, q2⟩ := h2k
            obtain ⟨_, g1, g2, g3, g4, _⟩ := isgate ((right_all hr).2 i hi) q1
            have hv : vx.getD i 0 = if (x : Int) = (gates.getD i gz).2.2.1 then 1 else 0 := by
              have e3 : (a.set k (x : Int)).getD k 0 = x := by rw [getD_set, if_pos ⟨rfl, by omega⟩]
              rw [hxe i hi, valP, if_neg (by omega), if_pos q1, q2, e3]
              by_cases e : (x : Int) = (gates.getD i gz).2.2.1
              · rw [if_pos (Or.inr e), if_pos e]
              · rw [if_neg (by omega), if_neg e]
            rw [if_pos ⟨q1, q2⟩, hv]
            by_cases e : (x : Int) = (gates.getD i gz).2.2.1
            · rw [if_pos e, Int.mul_one, if_pos (isO_iff.2 ⟨q1, by omega, by omega⟩)]
            · rw [if_neg e, Int.mul_zero, if_neg (fun h => e (isO_iff.1 h).2.2.symm)]
          · rw [if_neg h2k, if_neg]
            intro h
            have := isO_iff.1 h
            exact h2k ⟨this.1, by omega⟩
      · rw [e0]
        dsimp only
        rw [hvl, root_sum hr hsm hdc (fun v _ => rfl) hve hve h1 hroot, ← map_getD ((outS cards vs gates gates.length).getD k []), hrow]
        rw [List.map_congr_left (g := fun x : Nat => sumI ((List.range gates.length).map fun i => if isO gates k x i = true then (sF vs gates).getD i 0 else 0)) fun x hx => key x (by have := List.mem_range.1 hx; omega)]
        rw [sum_swap]
        congr 1
        refine List.map_congr_left fun i hi => ?_
        have hi := List.mem_range.1 hi
        rw [sO_val hr vs hi, pF]
        by_cases h2k : (gates.getD i gz).1 = 2 ∧ (gates.getD i gz).2.1.toNat = k
        · rw [if_pos h2k, if_pos h2k, hve i hi, valP, if_neg (by omega), if_pos h2k.1, if_pos (Or.inl (by rw [h2k.2]; exact hak)), Int.mul_one]
        · rw [if_neg h2k, if_neg h2k]
      · obtain ⟨x, hx, rfl⟩ := List.getElem_of_mem hy
        have := outS_nn (cards := cards) (nn_of hn) gates gates.length k x
        rwa [getD_lt hx] at this
      · rw [e0]
        dsimp only
        exact (hn _ (getD_mem (by omega))).2
    · rw [if_neg hok] at hd; cases hd
end
end Go.Proofs.Ytbgnnpbcifgckaa
namespace Go.Proofs.Ytbgnnpbcifgckaa
open Go Go.Fw Go.RowKit
set_option maxRecDepth 100000
set_option maxHeartbeats 4000000
theorem shr_le (a n : Nat) : a >>> n ≤ a := by rw [Nat.shiftRight_eq_div_pow]; exact Nat.div_le_self ..
theorem grows_fn (dc : List Nat) (dg : List Q4) (big : Bool) (l : List Nat) (which : Nat) (hdc : ∀ c ∈ dc, c ≤ 255) (hdg : ∀ q ∈ dg, q.1 ≤ 255 ∧ q.2.1 ≤ 255 ∧ q.2.2.1 ≤ 255 ∧ q.2.2.2 ≤ 255) (hl : dc.length ≤ 9223372036854775807) (hl2 : dg.length ≤ 9223372036854775807)
    (hl8 : l.length = 8) (hlb : ∀ x ∈ l, x ≤ 255) (hw : which ≤ 255) :
    Fw.Fn Try.prog 7 [.agg [.dat .old (.i .u8) dc, .dat .old a4T dg, .val (.bool big)], .av .old (.i .u8) l, .un .u8 which] [] (.val (.bool true)) [] := by
  have hcd := cardsD_ok dc
  have hgd := gatesD_len dc dg big
  have hr := draft_right dc dg big
  have har := draft_args dc dg big
  have hci : ∀ v, v < (cardsD dc).length → 0 ≤ (cardsD dc).getD v 0 := fun v hv => by have := hcd.2.2 _ (getD_mem (d := 0) hv); omega
  have hi := inp_ok (l := l) hci
  have hil := inpF_len (cardsD dc) l (cardsD dc).length
  have hdf := draft_fn dc dg big hdc hdg hl hl2
  have hif := inputs15_fn (cardsD dc) l hl8 hlb (fun k hk => by have := hcd.2.2 k hk; omega) (by omega)
  have hcf := clone_fn (inpF (cardsD dc) l (cardsD dc).length) (by omega) (fun e => by rw [e] at hil; simp at hil; omega)
  refine fnR_go env_ok mixed Try.func7 (c := Try.f7.body.get rfl) rfl (by kernel_rfl) [] [] [] rfl ?_
  repeat' first | apply And.intro | (intro h; (cases h; done)) | intro _ | exact True.intro | (show Region.lexB _ _ = true; kernel_rfl) | refine CallK.fn [] wakes_fn rfl rfl rfl rfl rfl trivial ?_ | refine CallK.fn [] hdf rfl rfl rfl rfl rfl trivial ?_ | refine CallK.fn [] hif rfl rfl rfl rfl rfl ?_ ?_ | refine CallK.fn [] hcf rfl rfl rfl rfl rfl ?_ ?_
  · show l.length * 1 = 8
    omega
  have hg42 := hgd.2
  generalize hcs : cardsD dc = cs at *
  generalize hgs : gatesD dc dg big = gs at *
  generalize ha : inpF cs l cs.length = a at *
  refine ⟨loopI (fun j : Nat => { n := 71, t := [(2, .un .u8 which), (7, .ptr 0 0), (8, .own 1), (9, .own 2), (26, .val (.int .i64 a.length)), (27, .val (.int .i64 j))], h := [(0, some (.cells [.dat .fr (.i .i64) cs, .dat .fr gT gs])), (1, some (.arr .fr (.i .i64) a)), (2, some (.arr .fr (.i .i64) (lessF which a j)))], nx := 3 }) (fun j => a.length - j) (fun j => Ok (j ≤ a.length)),
    loopI.start 0 [] [2, 7, 8, 9, 26, 27] [(7, []), (8, []), (9, [])] .fr (by (repeat' first | apply And.intro | rfl) <;> first | exact (lessF_zero which a).symm | exact ⟨Nat.zero_le _⟩), ?_⟩
  rintro _ _ ⟨j, rfl, rfl, ⟨hj⟩⟩
  have hll := lessF_len which a j
  by_cases hlt : j < a.length
  · have hx : ((j : Int).tmod 8).toNat = j % 8 := rfl
    have hx2 : (j : Int).tmod 8 = ((j % 8 : Nat) : Int) := rfl
    repeat' first | apply And.intro | (intro h; (cases h; done)) | (intro h; exfalso; simp only [decT, decF, beq_iff_eq, beq_eq_false_iff_ne, ne_eq, Int.toNat_natCast] at h; (try dsimp only [D, IK, dz, gT] at h); first | omega | exact absurd h (by assumption) | exact h (by assumption)) | intro _ | exact True.intro | (show Region.lexB _ _ = true; kernel_rfl) | refine loopI.next (j + 1) [] [2, 7, 8, 9, 26, 27] [(7, []), (8, []), (9, [])] .fr ?_
    all_goals (try simp only [decT, decF, beq_iff_eq, bne_iff_ne, ne_eq, beq_eq_false_iff_ne, bne_eq_false_iff_eq, Decidable.not_not, Int.toNat_natCast, Bool.not_eq_true', Bool.not_eq_false', Bool.not_eq_true, Bool.not_eq_false, Int.not_lt, Int.not_le] at *; try dsimp only [D, IK, dz] at *)
    all_goals try simp only [hx, hx2] at *
    all_goals try rw [show umax .u8 = 255 from rfl]
    all_goals first | omega | rfl | exact ⟨by omega⟩ | exact lessF_yes hlt (by assumption) | exact lessF_no (by assumption) | exact Nat.le_trans (shr_le _ _) hw
  · have hle := lessF_less which a j
    have hlo := lessF_ok (which := which) (j := j) hi hci
    have e1 := eval_fn cs gs a (by omega) (by omega) (by omega) (fun g hg => by have := har g hg; omega)
    have e2 := eval_fn cs gs (lessF which a j) (by omega) (by omega) (by omega) (fun g hg => by have := har g hg; omega)
    have m1 := eval_mono hr hi hlo hle
    have m2 := eval_err hr hi
    have m3 := eval_err hr hlo
    generalize evalF cs gs a = p at *
    generalize evalF cs gs (lessF which a j) = q at *
    repeat' first | apply And.intro | (intro h; (cases h; done)) | (intro h; exfalso; simp only [decT, decF, beq_iff_eq, beq_eq_false_iff_ne, ne_eq, Int.toNat_natCast] at h; (try dsimp only [D, IK, dz, gT] at h); first | omega | exact absurd h (by assumption) | exact h (by assumption)) | intro _ | exact True.intro | (show Region.lexB _ _ = true; kernel_rfl) | refine CallK.fn [] e1 rfl rfl rfl rfl rfl trivial ?_ | refine CallK.fn [] e2 rfl rfl rfl rfl rfl trivial ?_
    all_goals (try simp only [decT, decF, beq_iff_eq, bne_iff_ne, ne_eq, beq_eq_false_iff_ne, bne_eq_false_iff_eq, Decidable.not_not, Int.toNat_natCast, Bool.not_eq_true', Bool.not_eq_false', Bool.not_eq_true, Bool.not_eq_false, Int.not_lt, Int.not_le] at *; try dsimp only [D, IK, dz] at *)
    all_goals first | omega | rfl | (exact decide_eq_true (by omega)) | skip
end Go.Proofs.Ytbgnnpbcifgckaa
namespace Go.Proofs.Ytbgnnpbcifgckaa
open Go Go.Fw Go.RowKit
set_option maxRecDepth 100000
set_option maxHeartbeats 4000000
def inwV (cards : List Int) (l : List Nat) (v : Nat) : Int := ((l.getD (v % 8) 0 : Nat) : Int).tmod (IntKind.i64.wrap (max (cards.getD v 0) 0 + 1)) - 1
def inwF (cards : List Int) (l : List Nat) (j : Nat) : List Int := (List.range j).map (inwV cards l)
theorem inwF_len (cards : List Int) (l : List Nat) (j : Nat) : (inwF cards l j).length = j := by rw [inwF, List.length_map, List.length_range]
theorem inwF_succ (cards : List Int) (l : List Nat) (j : Nat) : inwF cards l (j + 1) = inwF cards l j ++ [inwV cards l j] := by rw [inwF, List.range_succ, List.map_append]; rfl
theorem wrap_in {z : Int} (h1 : -9223372036854775808 ≤ z) (h2 : z ≤ 9223372036854775807) : IntKind.i64.wrap z = z := inr_wrap ⟨h1, h2⟩
theorem wrap_top : IntKind.i64.wrap 9223372036854775808 = -9223372036854775808 := by decide
theorem wrap_ne {z : Int} (h1 : 1 ≤ z) (h2 : z ≤ 9223372036854775808) : IntKind.i64.wrap z ≠ 0 := by
  by_cases h : z = 9223372036854775808
  · rw [h, wrap_top]; decide
  · rw [wrap_in (by omega) (by omega)]; omega
theorem tmod_le {a b : Int} (ha : 0 ≤ a) : 0 ≤ a.tmod b ∧ a.tmod b ≤ a := by
  have h0 := Int.tmod_nonneg b ha
  have h1 := Int.natAbs_tmod a b
  have h2 := Nat.mod_le a.natAbs b.natAbs
  exact ⟨h0, by omega⟩
theorem inputsW_fn (cards : List Int) (l : List Nat) (hl : l.length = 8) (hlb : ∀ x ∈ l, x ≤ 255) (hc : ∀ k ∈ cards, k ≤ 9223372036854775807) (hcl : cards.length ≤ 1000000) :
    Fw.Fn Try.prog 18 [.dat .old (.i .i64) cards, .av .old (.i .u8) l] [] (.dat .fr (.i .i64) (inwF cards l cards.length)) [] := by
  refine fn_go env_wr mixed Try.func18 (c := Try.f18.body.get rfl) rfl (by kernel_rfl) [] rfl ?_
  repeat' first | apply And.intro | (intro h; (cases h; done)) | (intro h; exfalso; simp only [decT, decF, beq_iff_eq, beq_eq_false_iff_ne, ne_eq, Int.toNat_natCast] at h; (try dsimp only [D, IK, dz, gT] at h); first | omega | exact absurd h (by assumption) | exact h (by assumption)) | intro _ | exact True.intro | (show Region.lexB _ _ = true; kernel_rfl)
  (all_goals try ((first | (show (_ : Int) ≤ _) | (show (_ : Int) < _) | (show (_ : Nat) ≤ _) | (show (_ : Nat) < _)); (try simp only [Int.toNat_natCast, List.length_cons, List.length_nil, umax64]); (try dsimp only [D, IK, dz, gT]); omega))
  refine ⟨loopI (fun j : Nat => { n := 30, t := [(3, .ptr 0 0), (5, .own 1), (8, .dat .old (.i .i64) cards), (9, .val (.int .i64 (↑(List.length cards)))), (10, .val (.int .i64 j))], h := [(0, some (.arr .old (.i .u8) l)), (1, some (.arr .fr (.i .i64) (inwF cards l j)))], nx := 2 }) (fun j => cards.length - j) (fun j => Ok (j ≤ cards.length)),
    loopI.start 0 [5] [3, 5, 8, 9, 10] [(3, []), (5, [])] .fr (by (repeat' first | apply And.intro | rfl); exact ⟨Nat.zero_le _⟩), ?_⟩
  rintro _ _ ⟨j, rfl, rfl, ⟨hj⟩⟩
  have hil := inwF_len cards l j
  have his := inwF_succ cards l j
  by_cases hlt : j < cards.length
  · have hk := hc _ (getD_mem (d := 0) hlt)
    have hx : ((j : Int).tmod 8).toNat = j % 8 := rfl
    have hx2 : (j : Int).tmod 8 = ((j % 8 : Nat) : Int) := rfl
    have hb := hlb _ (getD_mem (l := l) (v := j % 8) (d := 0) (by omega))
    have ht := tmod_le (b := IntKind.i64.wrap (max (cards.getD j 0) 0 + 1)) (show (0 : Int) ≤ ((l.getD (j % 8) 0 : Nat) : Int) by omega)
    have hne := wrap_ne (z := max (cards.getD j 0) 0 + 1) (by omega) (by omega)
    have hw := wrap_in (z := (j : Int) + 1) (by omega) (by omega)
    repeat' first | apply And.intro | (intro h; (cases h; done)) | (intro h; exfalso; simp only [decT, decF, beq_iff_eq, beq_eq_false_iff_ne, ne_eq, Int.toNat_natCast] at h; (try dsimp only [D, IK, dz, gT] at h); first | omega | exact absurd h (by assumption) | exact h (by assumption)) | intro _ | exact True.intro | (show Region.lexB _ _ = true; kernel_rfl) | refine loopI.next (j + 1) [] [3, 5, 8, 9, 10] [(3, []), (5, [])] .fr ?_
    all_goals (try simp only [decT, decF, beq_iff_eq, bne_iff_ne, ne_eq, beq_eq_false_iff_ne, bne_eq_false_iff_eq, Decidable.not_not, Int.toNat_natCast, Bool.not_eq_true', Bool.not_eq_false', Bool.not_eq_true, Bool.not_eq_false, Int.not_lt, Int.not_le] at *; try dsimp only [D, IK, dz] at *)
    all_goals try simp only [hx, hx2, Int.toNat_natCast]
    all_goals try simp only [hil, List.length_cons, List.length_nil]
    all_goals first | omega | rfl | exact ⟨by omega⟩ | exact his.symm | exact hl | exact hne | exact congrArg (fun z => AV.val (.int .i64 z)) hw | skip
  · have hje : j = cards.length := by omega
    repeat' first | apply And.intro | (intro h; (cases h; done)) | (intro h; exfalso; simp only [decT, decF, beq_iff_eq, beq_eq_false_iff_ne, ne_eq, Int.toNat_natCast] at h; (try dsimp only [D, IK, dz, gT] at h); first | omega | exact absurd h (by assumption) | exact h (by assumption)) | intro _ | exact True.intro | (show Region.lexB _ _ = true; kernel_rfl)
    (all_goals try ((first | (show (_ : Int) ≤ _) | (show (_ : Int) < _) | (show (_ : Nat) ≤ _) | (show (_ : Nat) < _)); (try simp only [Int.toNat_natCast, List.length_cons, List.length_nil, umax64]); (try dsimp only [D, IK, dz, gT]); omega))
    all_goals first | rfl | rw [hje]
end Go.Proofs.Ytbgnnpbcifgckaa
namespace Go.Proofs.Ytbgnnpbcifgckaa
open Go Go.Fw Go.RowKit
set_option maxRecDepth 100000
set_option maxHeartbeats 4000000
def fewG (g : Gate) : Gate := (g.1, g.2.1, g.2.2.1, g.2.2.2.1, g.2.2.2.2.take 10)
def fewL (gates : List Gate) : List Gate := (gates.take 40).map fewG
theorem tkN {α : Type} (l : List α) (n : Nat) (z : Int) (h : z = n) : List.take (Int.toNat (min (↑(List.length l)) z)) l = l.take n := by
  subst h
  rw [show (min (l.length : Int) (n : Int)).toNat = min l.length n by omega]
  by_cases h : l.length ≤ n
  · rw [Nat.min_eq_left h, List.take_length, List.take_of_length_le h]
  · rw [Nat.min_eq_right (by omega)]
theorem few_snoc {G : List Gate} {j : Nat} (h : j < G.length) : (G.take (j + 1)).map fewG = (G.take j).map fewG ++ [fewG (G.getD j gz)] := by
  rw [take_step h, List.map_append, getD_lt h]; rfl
theorem few_fn (cards : List Int) (gates : List Gate) (hl : cards.length ≤ 9223372036854775807) (hl2 : gates.length ≤ 9223372036854775807) (hargs : ∀ g ∈ gates, g.2.2.2.2.length ≤ 9223372036854775807) :
    Fw.Fn Try.prog 35 [.agg [.dat .old (.i .i64) cards, .dat .old gT gates]] [] (.agg [.dat .old (.i .i64) (cards.take 10), .dat .old gT (fewL gates)]) [] := by
  refine fnR_go env_ok mixed Try.func35 (c := Try.f35.body.get rfl) rfl (by kernel_rfl) [] [] [] rfl ?_
  obtain ⟨G, hG⟩ : ∃ G, G = gates.take 40 := ⟨_, rfl⟩
  have hGl : G.length ≤ 40 := by rw [hG, List.length_take]; omega
  have hGa : ∀ g ∈ G, g.2.2.2.2.length ≤ 9223372036854775807 := fun g h => hargs g (List.mem_of_mem_take (hG ▸ h))
  have k1 : List.take (Int.toNat (min (↑(List.length gates)) 40)) gates = G := (tkN gates 40 40 rfl).trans hG.symm
  repeat' first | apply And.intro | (intro h; (cases h; done)) | (intro h; exfalso; simp only [decT, decF, beq_iff_eq, beq_eq_false_iff_ne, ne_eq, Int.toNat_natCast] at h; (try dsimp only [D, IK, dz, gT] at h); first | omega | exact absurd h (by assumption) | exact h (by assumption)) | intro _ | exact True.intro | (show Region.lexB _ _ = true; kernel_rfl)
  (all_goals try ((first | (show (_ : Int) ≤ _) | (show (_ : Int) < _) | (show (_ : Nat) ≤ _) | (show (_ : Nat) < _)); (try simp only [Int.toNat_natCast, List.length_cons, List.length_nil, umax64]); (try dsimp only [D, IK, dz, gT]); omega))
  refine ⟨loopI (fun j : Nat => { n := 42, t := [(2, .ptr 0 0), (3, .ptr 1 0), (20, .dat .old gT G), (21, .val (.int .i64 (↑(List.length G)))), (22, .val (.int .i64 j))], h := [(0, some (.cells [.nil (.i .i64), .nil gT])), (1, some (.cells [.dat .old (.i .i64) (cards.take 10), .own 2])), (2, some (.arr .old gT ((G.take j).map fewG)))], nx := 3 }) (fun j => G.length - j) (fun j => Ok (j ≤ G.length)),
    loopI.start 0 [2003] [2, 3, 20, 21, 22] [(2, []), (3, []), (3, [1])] .old (by (repeat' first | apply And.intro | rfl) <;> first | exact k1 | (rw [k1]; done) | exact tkN cards 10 10 rfl | exact ⟨Nat.zero_le _⟩), ?_⟩
  have hfe : fewL gates = G.map fewG := by rw [fewL, hG]
  rw [hfe]
  clear k1 hfe hG hargs hl2
  rintro _ _ ⟨j, rfl, rfl, ⟨hj⟩⟩
  by_cases hlt : j < G.length
  · have ha := hGa _ (getD_mem (d := gz) hlt)
    have hs := few_snoc hlt
    repeat' first | apply And.intro | (intro h; (cases h; done)) | (intro h; exfalso; simp only [decT, decF, beq_iff_eq, beq_eq_false_iff_ne, ne_eq, Int.toNat_natCast] at h; (try dsimp only [D, IK, dz, gT] at h); first | omega | exact absurd h (by assumption) | exact h (by assumption)) | intro _ | exact True.intro | (show Region.lexB _ _ = true; kernel_rfl) | refine loopI.next (j + 1) [] [2, 3, 20, 21, 22] [(2, []), (3, []), (3, [1])] .old ?_
    all_goals (try simp only [decT, decF, beq_iff_eq, bne_iff_ne, ne_eq, beq_eq_false_iff_ne, bne_eq_false_iff_eq, Decidable.not_not, Int.toNat_natCast, Bool.not_eq_true', Bool.not_eq_false', Bool.not_eq_true, Bool.not_eq_false, Int.not_lt, Int.not_le] at *; try dsimp only [D, IK, dz] at *)
    all_goals try dsimp only [gz] at *
    all_goals try simp only [List.length_map, List.length_take, List.length_cons, List.length_nil]
    all_goals try omega
    all_goals first | rfl | exact ⟨by omega⟩ | (rw [hs, fewG, tkN _ 10 10 rfl])
  · have hje : j = G.length := by omega
    repeat' first | apply And.intro | (intro h; (cases h; done)) | (intro h; exfalso; simp only [decT, decF, beq_iff_eq, beq_eq_false_iff_ne, ne_eq, Int.toNat_natCast] at h; (try dsimp only [D, IK, dz, gT] at h); first | omega | exact absurd h (by assumption) | exact h (by assumption)) | intro _ | exact True.intro | (show Region.lexB _ _ = true; kernel_rfl)
    (all_goals try (show Fw.xRun _ _ _ _ _ _ _ _; exfalso; (try simp only [decT, decF, beq_iff_eq, bne_iff_ne, ne_eq, beq_eq_false_iff_ne, bne_eq_false_iff_eq, Decidable.not_not, Int.toNat_natCast, Bool.not_eq_true', Bool.not_eq_false', Bool.not_eq_true, Bool.not_eq_false, Int.not_lt, Int.not_le] at *); omega))
    all_goals first | rfl | (rw [hje, List.take_length])
end Go.Proofs.Ytbgnnpbcifgckaa
namespace Go.Proofs.Ytbgnnpbcifgckaa
open Go Go.Fw Go.RowKit
set_option maxRecDepth 100000
set_option maxHeartbeats 4000000
def bendG (m : Nat) (n : Int) (g : Gate) : Gate := match m with
  | 0 => (n, g.2.1, g.2.2.1, g.2.2.2.1, g.2.2.2.2)
  | 1 => (g.1, n, g.2.2.1, g.2.2.2.1, g.2.2.2.2)
  | 2 => (g.1, g.2.1, n, g.2.2.2.1, g.2.2.2.2)
  | 3 => (g.1, g.2.1, g.2.2.1, n, g.2.2.2.2)
  | 4 => (g.1, g.2.1, g.2.2.1, g.2.2.2.1, g.2.2.2.2 ++ [n])
  | _ => (g.1, g.2.1, g.2.2.1, g.2.2.2.1, g.2.2.2.2.drop 1)
def bendM (m at' : Nat) (n : Int) (cards : List Int) (gates : List Gate) : List Int × List Gate := match m with
  | 6 => (cards.set (at' % cards.length) n, gates)
  | 7 => (cards, gates.take (gates.length - 1))
  | 8 => (cards ++ [n], gates)
  | m => (cards, gates.set (at' % gates.length) (bendG m n (gates.getD (at' % gates.length) gz)))
/-- A circuit, changed in one place. -/
def bendF (what at' : Nat) (n : Int) (cards : List Int) (gates : List Gate) : List Int × List Gate :=
  if gates.length = 0 ∨ cards.length = 0 then (cards, gates) else bendM (what % 9) at' n cards gates
def tkG (gates : List Gate) (j : Nat) : List Gate := gates.take j
theorem tkG_0 (gates : List Gate) : tkG gates 0 = [] := rfl
theorem bend_fn (what at' : Nat) (bn : Int) (cards : List Int) (gates : List Gate) (hw : what ≤ 255) (ha : at' ≤ 255) (hl : cards.length ≤ 1000) (hl2 : gates.length ≤ 1000) (hargs : ∀ g ∈ gates, g.2.2.2.2.length ≤ 1000) :
    Fw.Fn Try.prog 34 [.agg [.un .u8 what, .un .u8 at', .val (.int .i64 bn)], .agg [.dat .old (.i .i64) cards, .dat .old gT gates]] [] (.agg [.own 0, .dat .fr gT (bendF what at' bn cards gates).2]) [(0, some (.arr .fr (.i .i64) (bendF what at' bn cards gates).1))] := by
  refine Fn.fl (hs := [(0, some (.arr .old (.i .i64) (bendF what at' bn cards gates).1))]) ?_
  refine fnR_go env_own mixed Try.func34 (c := Try.f34.body.get rfl) rfl (by kernel_rfl) [(25, [.row 10 []]), (27, [.row 10 []])] [] [(4, [0])] rfl ?_
  repeat' first | apply And.intro | (intro h; (cases h; done)) | (intro h; exfalso; simp only [decT, decF, beq_iff_eq, beq_eq_false_iff_ne, ne_eq, Int.toNat_natCast] at h; (try dsimp only [D, IK, dz, gT] at h); first | omega | exact absurd h (by assumption) | exact h (by assumption)) | intro _ | exact True.intro | (show Region.lexB _ _ = true; kernel_rfl)
  (all_goals try ((first | (show (_ : Int) ≤ _) | (show (_ : Int) < _) | (show (_ : Nat) ≤ _) | (show (_ : Nat) < _)); (try simp only [Int.toNat_natCast, List.length_cons, List.length_nil, umax64]); (try dsimp only [D, IK, dz, gT]); omega))
  refine ⟨loopI (fun j : Nat => { n := 149, t := [(2, .ptr 0 0), (3, .ptr 1 0), (4, .ptr 2 0), (5, .own 3), (6, .val (.int .i64 j))], h := [(0, some (.cells [.un .u8 what, .un .u8 at', .val (.int .i64 bn)])), (1, some (.cells [.dat .old (.i .i64) cards, .dat .old gT gates])), (2, some (.cells [.nil (.i .i64), .nil gT])), (3, some (.deep gT (tkG gates j)))], nx := 4 }) (fun j => gates.length - j) (fun j => Ok (j ≤ gates.length)),
    loopI.start 0 [505] [2, 3, 4, 5, 6] [(2, []), (3, []), (4, []), (5, [])] .fr (by (repeat' first | apply And.intro | rfl); exact ⟨Nat.zero_le _⟩), ?_⟩
  rintro _ _ ⟨j, rfl, rfl, ⟨hj⟩⟩
  have htl : (tkG gates j).length = j := by rw [tkG, List.length_take]; omega
  by_cases hlt : j < gates.length
  · have ha := hargs _ (getD_mem (d := gz) hlt)
    have hs : tkG gates (j + 1) = tkG gates j ++ [gates.getD j gz] := by rw [tkG, tkG, take_step hlt, getD_lt hlt]
    repeat' first | apply And.intro | (intro h; (cases h; done)) | (intro h; exfalso; simp only [decT, decF, beq_iff_eq, beq_eq_false_iff_ne, ne_eq, Int.toNat_natCast] at h; (try dsimp only [D, IK, dz, gT] at h); first | omega | exact absurd h (by assumption) | exact h (by assumption)) | intro _ | exact True.intro | (show Region.lexB _ _ = true; kernel_rfl) | refine loopI.next (j + 1) [] [2, 3, 4, 5, 6] [(2, []), (3, []), (4, []), (5, [])] .fr ?_
    all_goals (try simp only [decT, decF, beq_iff_eq, bne_iff_ne, ne_eq, beq_eq_false_iff_ne, bne_eq_false_iff_eq, Decidable.not_not, Int.toNat_natCast, Bool.not_eq_true', Bool.not_eq_false', Bool.not_eq_true, Bool.not_eq_false, Int.not_lt, Int.not_le] at *; try dsimp only [D, IK, dz] at *)
    all_goals try dsimp only [gz] at *
    all_goals try simp only [htl, List.length_cons, List.length_nil]
    all_goals first | omega | rfl | exact hs.symm | exact ⟨by omega⟩ | skip
  · have hje : j = gates.length := by omega
    have hte : tkG gates j = gates := by rw [tkG, hje, List.take_length]
    by_cases hg0 : gates.length = 0
    · have hb : bendF what at' bn cards gates = (cards, gates) := if_pos (Or.inl hg0)
      rw [hb]
      repeat' first | apply And.intro | (intro h; (cases h; done)) | (intro h; exfalso; simp only [decT, decF, beq_iff_eq, beq_eq_false_iff_ne, ne_eq, Int.toNat_natCast] at h; (try dsimp only [D, IK, dz, gT] at h); first | omega | exact absurd h (by assumption) | exact h (by assumption)) | intro _ | exact True.intro | (show Region.lexB _ _ = true; kernel_rfl)
      (all_goals try (show Fw.xRun _ _ _ _ _ _ _ _; exfalso; (try simp only [decT, decF, beq_iff_eq, bne_iff_ne, ne_eq, beq_eq_false_iff_ne, bne_eq_false_iff_eq, Decidable.not_not, Int.toNat_natCast, Bool.not_eq_true', Bool.not_eq_false', Bool.not_eq_true, Bool.not_eq_false, Int.not_lt, Int.not_le] at *); omega))
      (all_goals try ((first | (show (_ : Int) ≤ _) | (show (_ : Int) < _) | (show (_ : Nat) ≤ _) | (show (_ : Nat) < _)); (try simp only [Int.toNat_natCast, List.length_cons, List.length_nil, umax64]); (try dsimp only [D, IK, dz, gT]); omega))
      all_goals first | rfl | exact hte
    by_cases hc0 : cards.length = 0
    · have hb : bendF what at' bn cards gates = (cards, gates) := if_pos (Or.inr hc0)
      rw [hb]
      repeat' first | apply And.intro | (intro h; (cases h; done)) | (intro h; exfalso; simp only [decT, decF, beq_iff_eq, beq_eq_false_iff_ne, ne_eq, Int.toNat_natCast] at h; (try dsimp only [D, IK, dz, gT] at h); first | omega | exact absurd h (by assumption) | exact h (by assumption)) | intro _ | exact True.intro | (show Region.lexB _ _ = true; kernel_rfl)
      (all_goals try (show Fw.xRun _ _ _ _ _ _ _ _; exfalso; (try simp only [decT, decF, beq_iff_eq, bne_iff_ne, ne_eq, beq_eq_false_iff_ne, bne_eq_false_iff_eq, Decidable.not_not, Int.toNat_natCast, Bool.not_eq_true', Bool.not_eq_false', Bool.not_eq_true, Bool.not_eq_false, Int.not_lt, Int.not_le] at *); omega))
      (all_goals try ((first | (show (_ : Int) ≤ _) | (show (_ : Int) < _) | (show (_ : Nat) ≤ _) | (show (_ : Nat) < _)); (try simp only [Int.toNat_natCast, List.length_cons, List.length_nil, umax64]); (try dsimp only [D, IK, dz, gT]); omega))
      all_goals first | rfl | exact hte
    have hb : bendF what at' bn cards gates = bendM (what % 9) at' bn cards gates := if_neg (by omega)
    obtain ⟨m, hm⟩ : ∃ m, m = what % 9 := ⟨_, rfl⟩
    have hm9 : m < 9 := by omega
    have ht : ∀ n : Nat, Int.tmod (at' : Int) (n : Int) = ((at' % n : Nat) : Int) := fun _ => rfl
    have hl3 : (tkG gates j).length = gates.length := by rw [hte]
    have hml := Nat.mod_lt at' (show 0 < gates.length by omega)
    have hmc := Nat.mod_lt at' (show 0 < cards.length by omega)
    have hag := hargs _ (getD_mem (d := gz) hml)
    rw [hb, ← hm]
    rcases (show m = 0 ∨ m = 1 ∨ m = 2 ∨ m = 3 ∨ m = 4 ∨ m = 5 ∨ m = 6 ∨ m = 7 ∨ m = 8 by omega) with e | e | e | e | e | e | e | e | e
    all_goals rw [e] at hm ⊢
    all_goals repeat' first | apply And.intro | (intro h; (cases h; done)) | (intro h; exfalso; simp only [decT, decF, beq_iff_eq, beq_eq_false_iff_ne, ne_eq, Int.toNat_natCast] at h; (try dsimp only [D, IK, dz, gT] at h); first | omega | exact absurd h (by assumption) | exact h (by assumption)) | intro _ | exact True.intro | (show Region.lexB _ _ = true; kernel_rfl)
    all_goals (all_goals try (show Fw.xRun _ _ _ _ _ _ _ _; exfalso; (try simp only [decT, decF, beq_iff_eq, bne_iff_ne, ne_eq, beq_eq_false_iff_ne, bne_eq_false_iff_eq, Decidable.not_not, Int.toNat_natCast, Bool.not_eq_true', Bool.not_eq_false', Bool.not_eq_true, Bool.not_eq_false, Int.not_lt, Int.not_le] at *); omega))
    all_goals (all_goals try ((first | (show (_ : Int) ≤ _) | (show (_ : Int) < _) | (show (_ : Nat) ≤ _) | (show (_ : Nat) < _)); (try simp only [Int.toNat_natCast, List.length_cons, List.length_nil, umax64]); (try dsimp only [D, IK, dz, gT]); omega))
    all_goals (try simp only [decT, decF, beq_iff_eq, bne_iff_ne, ne_eq, beq_eq_false_iff_ne, bne_eq_false_iff_eq, Decidable.not_not, Int.toNat_natCast, Bool.not_eq_true', Bool.not_eq_false', Bool.not_eq_true, Bool.not_eq_false, Int.not_lt, Int.not_le] at *; try dsimp only [D, IK, dz] at *)
    all_goals try dsimp only [gz] at *
    all_goals try omega
    all_goals try simp only [ht, Int.toNat_natCast, hl3]
    all_goals try omega
    all_goals try rfl
    all_goals try (rw [hte]; rfl)
    all_goals try (rw [hte]; simp only [List.length_cons, List.length_nil]; omega)
    all_goals try (rw [List.drop_zero, hte, show ((gates.length : Int) - 1).toNat = gates.length - 1 by omega]; rfl)
    · rw [hte, List.take_of_length_le (by rw [List.length_drop]; exact Nat.le_refl _)]; rfl
    · rename_i h0
      rw [hl3, ht, Int.toNat_natCast, hte] at h0
      have h1 : (gates.getD (at' % gates.length) (0, 0, 0, 0, [])).2.2.2.2 = [] := List.length_eq_zero_iff.1 (by omega)
      have h2 : bendG 5 bn (gates.getD (at' % gates.length) gz) = gates.getD (at' % gates.length) gz := by
        dsimp only [gz, bendG]
        rw [h1]
        conv => rhs; rw [← Prod.eta (gates.getD (at' % gates.length) (0, 0, 0, 0, []))]
        exact congrArg (fun x => ((gates.getD (at' % gates.length) (0, 0, 0, 0, [])).1, (gates.getD (at' % gates.length) (0, 0, 0, 0, [])).2.1, (gates.getD (at' % gates.length) (0, 0, 0, 0, [])).2.2.1, (gates.getD (at' % gates.length) (0, 0, 0, 0, [])).2.2.2.1, x)) h1.symm
      rw [hte]
      show _ = gates.set (at' % gates.length) (bendG 5 bn (gates.getD (at' % gates.length) gz))
      rw [h2]
end Go.Proofs.Ytbgnnpbcifgckaa
namespace Go.Fw
open Go Go.RowKit Go.ChangeShapes Go.WideShapes

def fldB (chk : TypeId → Ty → Bool) (cells : TypeId → Nat) : List Field → Nat → Ty → Bool
  | [], _, _ => false
  | [f], o, t => Nat.beq f.offset o && chk f.type t && Nat.beq (cells f.type) (sz t)
  | f :: g :: r, o, .pr x y => Nat.beq f.offset o && chk f.type x && Nat.beq (cells f.type) (sz x) && fldB chk cells (g :: r) (o + sz x) y
  | _ :: _ :: _, _, _ => false
def arB (chk : Ty → Bool) (n : Nat) : Nat → Ty → Bool
  | 0, _ => false
  | 1, t => chk t && Nat.beq n (sz t)
  | m + 2, .pr x y => chk x && Nat.beq n (sz x) && arB chk n (m + 1) y
  | _ + 2, _ => false
/-- Whether a type of the program is this type of data. -/
def tyB (P : Program) : Nat → TypeId → Ty → Bool
  | 0, _, _ => false
  | n + 1, T, t => match P.underlying T with
    | some .bool => match t with
      | .b => true
      | _ => false
    | some (.int k) => match t with
      | .i k' => ikEq k k'
      | _ => false
    | some (.slice e) => match t with
      | .sl u => tyB P n e u && Nat.beq (P.cellsOf e) (sz u)
      | _ => false
    | some (.struct fs) => fldB (tyB P n) P.cellsOf fs.toList 0 t && Nat.beq (P.cellsOf T) (sz t)
    | some (.array m e) => arB (tyB P n e) (P.cellsOf e) m t && Nat.beq (P.cellsOf T) (sz t)
    | _ => false
/-- Whether numbers fit their kinds, and lists are no longer than lists can be. -/
def wfD : (t : Ty) → D t → Prop
  | .i k, n => k.min ≤ IK.z k n ∧ IK.z k n ≤ k.max
  | .b, _ => True
  | .sl t, xs => List.length xs ≤ maxLen ∧ ∀ x ∈ (xs : List (D t)), wfD t x
  | .pr x y, p => wfD x p.1 ∧ wfD y p.2
theorem z_of {k : IntKind} {n : Int} (h : k.min ≤ n) : IK.z k (IK.of k n) = n := by
  cases k <;> simp only [IK.z, IK.of] <;> first | rfl | (have h : (0 : Int) ≤ n := h; exact Int.toNat_of_nonneg h)

section
variable {H : Type} {enc : TypeId × Value → H} {P : Program} {w : World} {base : Nat} {sp : Nat → Bool} {hd : Bool}

theorem RDok {t : Ty} {d : D t} {cs : List Value} (h : RD w (fun b => b < w.heap.size) t d cs) : cs.length = sz t := h.length

theorem fl_RD {m fuel : Nat} (ih : ∀ T t cs x, tyB P m T t = true → DataW.trod enc P w base sp hd fuel T cs = some x → ∃ d : D t, wfD t d ∧ RD w (fun b => b < w.heap.size) t d cs) {all : List Value} :
    ∀ (fs : List Field) (o : Nat) (t : Ty), fldB (tyB P m) P.cellsOf fs o t = true → o + sz t = all.length → (∀ f ∈ fs, ∃ x, DataW.trod enc P w base sp hd fuel f.type ((all.drop f.offset).take (P.cellsOf f.type)) = some x) →
      ∃ d : D t, wfD t d ∧ RD w (fun b => b < w.heap.size) t d (all.drop o)
  | [], _, _, h, _, _ => by cases h
  | [f], o, t, h, hn, hf => by
    simp only [fldB, Bool.and_eq_true] at h
    obtain ⟨⟨h1, h2⟩, h3⟩ := h
    have h1 := Nat.eq_of_beq_eq_true h1
    have h3 := Nat.eq_of_beq_eq_true h3
    obtain ⟨x, hx⟩ := hf f (by simp)
    obtain ⟨d, d1, d2⟩ := ih _ _ _ _ h2 hx
    rw [h1, h3, List.take_of_length_le (by rw [List.length_drop]; omega)] at d2
    exact ⟨d, d1, d2⟩
  | f :: g :: r, o, .pr x y, h, hn, hf => by
    simp only [fldB, Bool.and_eq_true] at h
    obtain ⟨⟨⟨h1, h2⟩, h3⟩, h4⟩ := h
    have h1 := Nat.eq_of_beq_eq_true h1
    have h3 := Nat.eq_of_beq_eq_true h3
    simp only [sz] at hn
    obtain ⟨z, hz⟩ := hf f (by simp)
    obtain ⟨d, d1, d2⟩ := ih _ _ _ _ h2 hz
    obtain ⟨e, e1, e2⟩ := fl_RD ih (g :: r) (o + sz x) y h4 (by omega) fun f' hf' => hf f' (List.mem_cons_of_mem _ hf')
    refine ⟨(d, e), ⟨d1, e1⟩, ?_⟩
    simp only [RD]
    refine ⟨_, _, ?_, d2, e2⟩
    rw [h1, h3, ← List.drop_drop, List.take_append_drop]
  | _ :: _ :: _, _, .i _, h, _, _ => by simp [fldB] at h
  | _ :: _ :: _, _, .b, h, _, _ => by simp [fldB] at h
  | _ :: _ :: _, _, .sl _, h, _, _ => by simp [fldB] at h

theorem ar_RD {m fuel : Nat} {e : TypeId} (ih : ∀ t cs x, tyB P m e t = true → DataW.trod enc P w base sp hd fuel e cs = some x → ∃ d : D t, wfD t d ∧ RD w (fun b => b < w.heap.size) t d cs) {all : List Value} :
    ∀ (n o : Nat) (t : Ty), arB (tyB P m e) (P.cellsOf e) n t = true → o * P.cellsOf e + sz t = all.length → (∀ i, o ≤ i → i < o + n → ∃ x, DataW.trod enc P w base sp hd fuel e ((all.drop (i * P.cellsOf e)).take (P.cellsOf e)) = some x) →
      ∃ d : D t, wfD t d ∧ RD w (fun b => b < w.heap.size) t d (all.drop (o * P.cellsOf e))
  | 0, _, _, h, _, _ => by simp [arB] at h
  | 1, o, t, h, hn, hf => by
    simp only [arB, Bool.and_eq_true] at h
    have h3 := Nat.eq_of_beq_eq_true h.2
    obtain ⟨x, hx⟩ := hf o (Nat.le_refl _) (by omega)
    obtain ⟨d, d1, d2⟩ := ih _ _ _ h.1 hx
    rw [List.take_of_length_le (by rw [List.length_drop]; omega)] at d2
    exact ⟨d, d1, d2⟩
  | n + 2, o, .pr x y, h, hn, hf => by
    simp only [arB, Bool.and_eq_true] at h
    obtain ⟨⟨h1, h2⟩, h3⟩ := h
    have h2 := Nat.eq_of_beq_eq_true h2
    simp only [sz] at hn
    obtain ⟨z, hz⟩ := hf o (Nat.le_refl _) (by omega)
    obtain ⟨d, d1, d2⟩ := ih _ _ _ h1 hz
    have hm : (o + 1) * P.cellsOf e = o * P.cellsOf e + P.cellsOf e := Nat.succ_mul ..
    obtain ⟨e', e1, e2⟩ := ar_RD ih (n + 1) (o + 1) y h3 (by rw [hm]; omega) fun i hi hi' => hf i (by omega) (by omega)
    refine ⟨(d, e'), ⟨d1, e1⟩, ?_⟩
    simp only [RD]
    refine ⟨_, _, ?_, d2, e2⟩
    rw [hm, ← List.drop_drop, List.take_append_drop]
  | _ + 2, _, .i _, h, _, _ => by simp [arB] at h
  | _ + 2, _, .b, h, _, _ => by simp [arB] at h
  | _ + 2, _, .sl _, h, _, _ => by simp [arB] at h

theorem choose_list {α : Type} {n : Nat} {p : Nat → α → Prop} (h : ∀ i, i < n → ∃ x, p i x) : ∃ l : List α, l.length = n ∧ ∀ i (hi : i < l.length), p i l[i] := by
  induction n with
  | zero => exact ⟨[], rfl, fun i hi => absurd hi (Nat.not_lt_zero _)⟩
  | succ n ih =>
    obtain ⟨l, h1, h2⟩ := ih fun i hi => h i (by omega)
    obtain ⟨x, hx⟩ := h n (Nat.lt_succ_self n)
    refine ⟨l ++ [x], by simp [h1], fun i hi => ?_⟩
    by_cases e : i < l.length
    · rw [List.getElem_append_left e]; exact h2 i e
    · have : i = l.length := by simp at hi; omega
      subst this
      rw [List.getElem_concat_length rfl]
      rw [h1]; exact hx

/-- What is read is data. -/
theorem trod_RD : ∀ (m : Nat) {T : TypeId} {t : Ty} {fuel : Nat} {cs : List Value} {x : DataW H × List MemPlace}, tyB P m T t = true → DataW.trod enc P w base sp hd fuel T cs = some x →
    ∃ d : D t, wfD t d ∧ RD w (fun b => b < w.heap.size) t d cs
  | 0, _, _, _, _, _, h, _ => by cases h
  | m + 1, T, t, fuel, cs, x, h, hx => by
    have ih : ∀ fuel T t cs x, tyB P m T t = true → DataW.trod enc P w base sp hd fuel T cs = some x → ∃ d : D t, wfD t d ∧ RD w (fun b => b < w.heap.size) t d cs := fun _ _ _ _ _ h hx => trod_RD m h hx
    unfold tyB at h
    split at h
    · rename_i hu
      split at h
      · obtain ⟨b, rfl⟩ : ∃ b, cs = [.bool b] := by
          cases fuel with
          | zero => simp [DataW.trod] at hx
          | succ n =>
            unfold DataW.trod at hx
            rw [hu] at hx
            split at hx <;> simp_all
        exact ⟨b, trivial, rfl⟩
      · cases h
    · rename_i k hu
      split at h
      · rename_i k'
        have := ikEq_eq h
        subst this
        obtain ⟨n, rfl, hn⟩ : ∃ n, cs = [.int k n] ∧ (Lit.int k n).wf = true := by
          cases fuel with
          | zero => simp [DataW.trod] at hx
          | succ n =>
            unfold DataW.trod at hx
            rw [hu] at hx
            split at hx <;> simp_all
        simp only [Lit.wf, Bool.and_eq_true, decide_eq_true_eq] at hn
        have hz := z_of hn.1
        refine ⟨IK.of k n, ?_, ?_⟩
        · simp only [wfD, hz]; exact hn
        · simp only [RD, hz]
      · cases h
    · rename_i e hu
      split at h
      · rename_i u
        simp only [Bool.and_eq_true] at h
        obtain ⟨h1, h2⟩ := h
        have h2 := Nat.eq_of_beq_eq_true h2
        rcases Go.Deep.open_slice hu hx with ⟨rfl, _⟩ | ⟨a, len, cap, m', n, Dd, Pl, rfl, _, hl, hm, hm', _, hrow⟩
        · exact ⟨[], ⟨Nat.zero_le _, fun x hx => absurd hx List.not_mem_nil⟩, none, 0, rfl, Nat.le_refl _, fun h => absurd rfl h⟩
        · have hrow' : ∀ i, i < len → ∃ d : D u, wfD u d ∧ ∃ cs', w.cells? base (a.add (i * P.cellsOf e)) (P.cellsOf e) = some cs' ∧ RD w (fun b => b < w.heap.size) u d cs' := by
            intro i hi
            obtain ⟨cs', c1, c2⟩ := hrow i (by rw [hm']; split <;> omega)
            obtain ⟨d, d1, d2⟩ := ih _ _ _ _ _ h1 c2
            exact ⟨d, d1, cs', c1, d2⟩
          obtain ⟨xs, x1, x2⟩ := choose_list hrow'
          refine ⟨xs, ⟨by rw [x1]; omega, fun x hx => ?_⟩, ?_⟩
          · obtain ⟨i, hi, rfl⟩ := List.getElem_of_mem hx
            exact (x2 i hi).1
          · simp only [RD]
            refine ⟨some a, cap, by rw [x1], by rw [x1]; exact hl, fun hne => ?_⟩
            have h0 : 0 < xs.length := List.length_pos_iff.2 hne
            obtain ⟨b, off, spot⟩ := a
            have hpos := sz_pos u
            have hspot : spot = none := by
              obtain ⟨_, cs', c1, c2⟩ := x2 0 h0
              obtain ⟨_, c3, c4⟩ := World.cells?_some c1
              have h5 := c4 0 (by omega)
              rw [List.getElem?_eq_getElem (by omega)] at h5
              have h6 := World.cell?_spot h5
              simpa [Addr.add] using h6
            subst hspot
            have cellAt : ∀ i (hi : i < xs.length), ∃ cs', RowAt w b (off + i * sz u) cs' ∧ RD w (fun b => b < w.heap.size) u xs[i] cs' := by
              intro i hi
              obtain ⟨_, cs', c1, c2⟩ := x2 i hi
              obtain ⟨_, c3, c4⟩ := World.cells?_some c1
              rw [h2] at c3 c4
              refine ⟨cs', fun j hj => ?_, c2⟩
              have h5 := c4 j (by omega)
              rw [add_plain, add_plain, List.getElem?_eq_getElem hj] at h5
              exact h5
            refine ⟨b, off, rfl, ?_, fun j hj => cellAt j hj⟩
            obtain ⟨cs', r1, r2⟩ := cellAt 0 h0
            refine r1.lt fun e => ?_
            have := r2.length
            rw [e] at this
            simp at this
            omega
      · cases h
    · rename_i fs hu
      simp only [Bool.and_eq_true] at h
      obtain ⟨h1, h2⟩ := h
      have h2 := Nat.eq_of_beq_eq_true h2
      obtain ⟨xs, n, _, _, hl, hlen, hf⟩ := DataW.trod_struct hu hx
      have := fl_RD (ih n) (all := cs) fs.toList 0 t h1 (by omega) fun f hf' => by
        obtain ⟨i, hi, rfl⟩ := List.getElem_of_mem hf'
        have hi' : i < fs.size := by simpa using hi
        have := hf i (fs[i]) (by simp [hi'])
        rw [List.getElem?_eq_getElem (by omega)] at this
        exact ⟨_, by simpa using this⟩
      simpa using this
    · rename_i n e hu
      simp only [Bool.and_eq_true] at h
      obtain ⟨h1, h2⟩ := h
      have h2 := Nat.eq_of_beq_eq_true h2
      obtain ⟨xs, n', _, _, hl, hlen, hf⟩ := DataW.trod_array hu hx
      have := ar_RD (fun t cs x => ih n' e t cs x) (all := cs) n 0 t h1 (by omega) fun i _ hi => by
        have := hf i (by omega)
        rw [List.getElem?_eq_getElem (by omega)] at this
        exact ⟨_, this⟩
      simpa using this
    · cases h

/-- The context of a call from outside: all memory that is there may be read. -/
def ph0 : Ph := ⟨fun _ => none, fun _ _ => False⟩
def bs0 (w : World) : Bs := fnBs w (fun b => b < w.heap.size) ph0 0
def cx0 (w : World) : Cx := cx (bs0 w) ph0 (preS []) w
theorem ok0 {w : World} {b : Nat} (h : b < w.heap.size) : (cx0 w).ok .old b := by
  refine ⟨?_, Or.inl h⟩
  rintro ⟨id, h1, _⟩
  exact h1 rfl
theorem hm0 (w : World) : HM (bs0 w) ph0 (preS []) w := by
  have hn : ∀ i, Fw.hl i (preS []).h = none := fun _ => rfl
  refine ⟨fun id h => ?_, fun id b h => ?_, fun i j b h => ?_, fun i b h => ?_, fun i b h => ?_, Nat.le_refl _, Keeps.refl _ _ _, fun i h => absurd h (Nat.not_lt_zero i)⟩
  · obtain ⟨x, hx⟩ := h
    cases hx
  · rw [hn] at h; cases h
  · exact absurd (hn i) h
  · exact absurd (hn i) h
  · exact absurd (hn i) h
/-- A law's contract, from outside. -/
theorem Fn.law {f : FuncId} {args : List AV} (h : Fw.Fn P f args [] (.val (.bool true)) []) {vs : List Value} (hR : RL (cx0 w) args vs) :
    Calls P f vs.toArray w fun e w' => e = .returned (.bool true) ∧ Below w.heap.size w w' := by
  refine (h.2 w _ ph0 vs (hm0 w) hR).mono ?_
  rintro e w' ⟨v, φ', rfl, _, h3, h4⟩
  have e := R.val_inv h4
  subst e
  refine ⟨rfl, h3.kp.os, h3.kp.tape, h3.kp.output, h3.kp.size, fun k hk => h3.kp.block k hk ?_⟩
  rintro ⟨i, hi, _⟩
  exact absurd hi (Nat.not_lt_zero i)

theorem trodAll_stays {W W' : World} (hl : laidOutB P = true) (hb : Below W.heap.size W W') : ∀ {ts : List TypeId} {vs : List Value} {ds : List (DataW H)} {ps : List MemPlace}, (∀ t ∈ ts, P.readableRec t = true ∧ t < P.types.size) →
    DataW.TrodAll enc P W 0 (fun _ => true) true ts vs ds ps → (∀ x ∈ ps, x.block < W.heap.size) → DataW.TrodAll enc P W' 0 (fun b => decide (b < W.heap.size)) true ts vs ds ps
  | [], [], [], _, _, h, _ => h
  | t :: ts, v :: vs, d :: ds, _, hr, ⟨p, q, h1, h2, e⟩, hlt => by
    subst e
    exact ⟨p, q, Below.trod hl (hr t (by simp)).1 (hr t (by simp)).2 h1 hb (fun x hx => hlt x (by simp [hx])), trodAll_stays hl hb (fun t ht => hr t (by simp [ht])) h2 (fun x hx => hlt x (by simp [hx])), rfl⟩

/-- A law, from outside: it returns true, its arguments read as they did. -/
theorem law_lifted {C : Checked} {os : Os} {f : FuncId} {fn : Func} {s : ChangeSpec} {conds : List PathCond} {T : TypeId} (own : ownKnob C.prog.godebug = none) (started : os.Started) (noInit : C.prog.inits.idxOf? f = none) (hfn : C.prog.funcs[f]? = some fn)
    (witness : ∃ (w : World) (tape : Tape) (i : Input), w.os = os ∧ (w.forCall tape i).Shaped C.prog ∧ i.vars = [] ∧ Input.okWide C.prog (w.forCall tape i) .any w.heap.size f i ∧
      s.pre6 enc C.prog fn conds false (w.forCall tape i).memory i.args ∧ ({} : Assume).holds C.prog (lone (Frame.enter C.prog f i.args .normal) [] (w.forCall tape i)))
    (hl : laidOutB C.prog = true) (hr : (fn.params.toList.all fun t => C.prog.readableRec t && decide (t < C.prog.types.size)) = true) (hv : s.vars = [])
    (hs : ∀ ds : List (DataW H), ds.length = fn.params.toList.length → (s.fn H ds).results = [.lit (.bool true)] ∧ (s.fn H ds).args = ds ∧ (s.fn H ds).vars = [])
    (hres : fn.resultTypes.toList = [T]) (hT : C.prog.underlying T = some .bool)
    (walk : ∀ (W : World) (base : Nat) (args : Array Value) (ds : List (DataW H)) (ps : List MemPlace), (∀ (j : Nat) t v, fn.params[j]? = some t → args[j]? = some v → Value.okWide C.prog W .any base t v) →
      DataW.TrodAll enc C.prog W 0 (fun _ => true) true fn.params.toList args.toList ds ps → Calls C.prog f args W fun e w' => e = .returned (.bool true) ∧ Below W.heap.size W w') :
    ReturnsInHanded {} C os f .any (s.pre6 enc C.prog fn conds false) (s.post enc C.prog fn false true false false) := by
  refine returnsInHanded_of_change own started noInit hfn witness ?_
  intro W base args ds gs before hval hW _ _
  have hW' := hW
  obtain ⟨p, q, hA, hV, rfl, _, _⟩ := hW
  rw [hv] at hV
  obtain ⟨rfl, rfl⟩ := trodVars_none hV
  have hlen := (trodAll_length hA).2
  obtain ⟨s1, s2, s3⟩ := hs ds hlen
  refine (walk W base args ds p hval hA).mono ?_
  rintro e w' ⟨rfl, hb⟩
  have hlt : ∀ x ∈ p, x.block < W.heap.size := fun x hx => by simpa using hW'.lt x (by simpa using hx)
  have hsz : fn.resultTypes.size = 1 := by rw [← Array.length_toList, hres]; rfl
  refine ⟨_, rfl, ds, [], p ++ [], [], p, [], hW', ?_, ?_, ?_, hb.frame _, fun h => by cases h⟩
  · rw [List.append_nil, s1, hres, hsz]
    exact trodAll_mk1 ⟨1, by simp [DataW.trod, Value.cells, hT]⟩
  · rw [List.append_nil, s2]
    exact trodAll_stays hl hb (fun t ht => by
      have := List.all_eq_true.1 hr t ht
      simpa using this) hA hlt
  · rw [List.append_nil, s3, hv]; rfl
end
end Go.Fw
namespace Go.Proofs.Ytbgnnpbcifgckaa
open Go Go.Fw Go.RowKit Go.ChangeShapes Go.WideShapes Go.ChangeAt
theorem own : ownKnob Try.prog.godebug = none := by kernel_rfl
theorem laid : laidOutB Try.prog = true := by kernel_rfl
abbrev draftT : Ty := .pr (.sl (.i .u8)) (.pr (.sl a4T) .b)
theorem ty25 : tyB Try.prog 9 25 draftT = true := by kernel_rfl
theorem ty46 : tyB Try.prog 9 46 (.pr (.i .u8) (.pr (.i .u8) (.pr (.i .u8) (.pr (.i .u8) (.pr (.i .u8) (.pr (.i .u8) (.pr (.i .u8) (.i .u8)))))))) = true := by kernel_rfl
abbrev a8T : Ty := .pr (.i .u8) (.pr (.i .u8) (.pr (.i .u8) (.pr (.i .u8) (.pr (.i .u8) (.pr (.i .u8) (.pr (.i .u8) (.i .u8)))))))
def list8 (d : D a8T) : List Nat := [d.1, d.2.1, d.2.2.1, d.2.2.2.1, d.2.2.2.2.1, d.2.2.2.2.2.1, d.2.2.2.2.2.2.1, d.2.2.2.2.2.2.2]
theorem av8 {c : Cx} {o : Org} {ok : Nat → Prop} {d : D a8T} {cs : Array Value} (h : RD c.w ok a8T d cs.toList) : R c (.av o (.i .u8) (list8 d)) (.agg cs) := by
  simp only [RD] at h
  obtain ⟨c1, _, h, rfl, c2, _, rfl, rfl, c3, _, rfl, rfl, c4, _, rfl, rfl, c5, _, rfl, rfl, c6, _, rfl, rfl, c7, _, rfl, rfl, rfl⟩ := h
  refine .av ((list8 d).map fun y => [.int .u8 (IK.z .u8 y)]) ?_ (by rw [List.length_map]) fun j hj => ?_
  · rw [h]; rfl
  · simp only [List.getElem_map, RD]
theorem wf8 {d : D a8T} (h : wfD a8T d) : ∀ x ∈ list8 d, x ≤ 255 := by
  simp only [wfD] at h
  have hm : IntKind.u8.max = 255 := by decide
  simp only [hm, IK.z] at h
  intro x hx
  simp only [list8, List.mem_cons, List.not_mem_nil, or_false] at hx
  omega
theorem read_draft {d : D draftT} (h : wfD draftT d) : (∀ c ∈ (d.1 : List Nat), c ≤ 255) ∧ (∀ q ∈ (d.2.1 : List Q4), q.1 ≤ 255 ∧ q.2.1 ≤ 255 ∧ q.2.2.1 ≤ 255 ∧ q.2.2.2 ≤ 255) ∧ List.length (d.1 : List Nat) ≤ 9223372036854775807 ∧ List.length (d.2.1 : List Q4) ≤ 9223372036854775807 := by
  simp only [wfD] at h
  have hm : IntKind.u8.max = 255 := by decide
  have hl : maxLen = 9223372036854775807 := by decide
  simp only [hm, hl, IK.z] at h
  refine ⟨fun c hc => ?_, fun q hq => ?_, h.1.1, h.2.1.1⟩
  · exact Int.ofNat_le.1 (h.1.2 c hc).2
  · obtain ⟨q1, q2, q3, q4⟩ := h.2.1.2 q hq
    exact ⟨Int.ofNat_le.1 q1.2, Int.ofNat_le.1 q2.2, Int.ofNat_le.1 q3.2, Int.ofNat_le.1 q4.2⟩
theorem ty5 : tyB Try.prog 9 5 (.i .u8) = true := by kernel_rfl
theorem okWide_array {P : Program} {w : World} {r : Reach} {base : Nat} {t : TypeId} {v : Value} {n : Nat} {e : TypeId} (ht : P.underlying t = some (.array n e)) (h : Value.okWide P w r base t v) : ∃ cs, v = .agg cs ∧ cs.size = P.cellsOf t := by
  simp only [Value.okWide, ht] at h
  obtain ⟨cs, h1, h2, _⟩ := h
  exact ⟨cs, h1, h2⟩
abbrev bendT : Ty := .pr (.i .u8) (.pr (.i .u8) (.i .i64))
abbrev Bd : Type := Nat × Nat × Int
abbrev cT : Ty := .pr (.sl (.i .i64)) (.sl gT)
abbrev Cc : Type := List Int × List Gate
abbrev b2T : Ty := .pr bendT bendT
theorem ty28 : tyB Try.prog 9 28 b2T = true := by kernel_rfl
theorem ty32 : tyB Try.prog 9 32 cT = true := by kernel_rfl
theorem ty29 : tyB Try.prog 9 29 (.sl (.i .i64)) = true := by kernel_rfl
def list2 (d : D b2T) : List Bd := [d.1, d.2]
theorem av2 {c : Cx} {o : Org} {ok : Nat → Prop} {d : D b2T} {cs : Array Value} (hok : ∀ b, ok b → c.ok o b) (h : RD c.w ok b2T d cs.toList) : R c (.av o bendT (list2 d)) (.agg cs) := by
  rw [RD] at h
  obtain ⟨c1, c2, h, h1, h2⟩ := h
  refine .av [c1, c2] (by rw [h]; simp) rfl fun j hj => ?_
  match j, hj with
  | 0, _ => exact h1.imp hok
  | 1, _ => exact h2.imp hok
theorem wf2 {d : D b2T} (h : wfD b2T d) : ∀ b ∈ list2 d, b.1 ≤ 255 ∧ b.2.1 ≤ 255 ∧ b.2.2 ≤ 9223372036854775807 := by
  simp only [wfD] at h
  have hm : IntKind.u8.max = 255 := by decide
  have hi : IntKind.i64.max = 9223372036854775807 := by decide
  simp only [hm, hi, IK.z] at h
  obtain ⟨⟨h1, h2, h3⟩, h4, h5, h6⟩ := h
  intro x hx
  simp only [list2, List.mem_cons, List.not_mem_nil, or_false] at hx
  rcases hx with rfl | rfl
  · exact ⟨Int.ofNat_le.1 h1.2, Int.ofNat_le.1 h2.2, h3.2⟩
  · exact ⟨Int.ofNat_le.1 h4.2, Int.ofNat_le.1 h5.2, h6.2⟩
theorem read_cc {d : D cT} (h : wfD cT d) : List.length (d.1 : List Int) ≤ 9223372036854775807 ∧ List.length (d.2 : List Gate) ≤ 9223372036854775807 ∧ (∀ g ∈ (d.2 : List Gate), g.2.2.2.2.length ≤ 9223372036854775807) ∧ ∀ k ∈ (d.1 : List Int), k ≤ 9223372036854775807 := by
  simp only [wfD] at h
  have hi : IntKind.i64.max = 9223372036854775807 := by decide
  have hl : maxLen = 9223372036854775807 := by decide
  simp only [hi, hl, IK.z] at h
  exact ⟨h.1.1, h.2.1, fun g hg => (h.2.2 g hg).2.2.2.2.1, fun k hk => (h.1.2 k hk).2⟩
theorem rd_sl {c : Cx} {o : Org} {t : Ty} {x : D (.sl t)} {v : Value} (h : RD c.w (c.ok o) (.sl t) x [v]) : R c (.dat o t x) v := by
  have := RD.cells (c := c) (o := o) h
  cases this with
  | cons h _ => exact h
section
variable {H : Type} {enc : TypeId × Value → H} {P : Program} {w : World} {base : Nat} {spare : Nat → Bool} {held : Bool}
theorem trodAll_five {t0 t1 t2 t3 t4 : TypeId} {args : Array Value} {ds : List (DataW H)} {ps : List MemPlace} (h : DataW.TrodAll enc P w base spare held [t0, t1, t2, t3, t4] args.toList ds ps) :
    ∃ v0 v1 v2 v3 v4 d0 d1 d2 d3 d4 p0 p1 p2 p3 p4, args = #[v0, v1, v2, v3, v4] ∧ ds = [d0, d1, d2, d3, d4] ∧ DataW.Trod enc P w base spare held t0 v0 d0 p0 ∧ DataW.Trod enc P w base spare held t1 v1 d1 p1 ∧ DataW.Trod enc P w base spare held t2 v2 d2 p2 ∧ DataW.Trod enc P w base spare held t3 v3 d3 p3 ∧ DataW.Trod enc P w base spare held t4 v4 d4 p4 := by
  obtain ⟨v0, vs, d0, ds', p0, q, hargs, rfl, rfl, h0, hr⟩ := trodAll_cons h
  obtain ⟨v1, vs, d1, ds', p1, q, rfl, rfl, rfl, h1, hr⟩ := trodAll_cons hr
  obtain ⟨v2, vs, d2, ds', p2, q, rfl, rfl, rfl, h2, hr⟩ := trodAll_cons hr
  obtain ⟨v3, vs, d3, ds', p3, q, rfl, rfl, rfl, h3, hr⟩ := trodAll_cons hr
  obtain ⟨v4, vs, d4, ds', p4, q, rfl, rfl, rfl, h4, hr⟩ := trodAll_cons hr
  obtain ⟨rfl, rfl, rfl⟩ := trodAll_nil hr
  exact ⟨v0, v1, v2, v3, v4, d0, d1, d2, d3, d4, p0, p1, p2, p3, p4, by cases args; simp_all, rfl, h0, h1, h2, h3, h4⟩
end
end Go.Proofs.Ytbgnnpbcifgckaa
namespace Go.Proofs.Ytbgnnpbcifgckaa
open Go Go.Fw Go.RowKit
set_option maxRecDepth 100000
set_option maxHeartbeats 4000000
/-- A circuit that is small enough to look at. -/
structure cOK (c : Cc) : Prop where
  lc : c.1.length ≤ 10
  lg : c.2.length ≤ 42
  la : ∀ g ∈ c.2, g.2.2.2.2.length ≤ 10
  lk : ∀ k ∈ c.1, k ≤ 9223372036854775807
theorem mem_set {α : Type} {l : List α} {k : Nat} {a x : α} (h : x ∈ l.set k a) : x ∈ l ∨ x = a := List.mem_or_eq_of_mem_set h
theorem bendG_args (m : Nat) (n : Int) (g : Gate) : (bendG m n g).2.2.2.2.length ≤ g.2.2.2.2.length + 1 := by
  unfold bendG
  split <;> simp <;> omega
theorem bend_sm (what at' : Nat) (n : Int) (cards : List Int) (gates : List Gate) (hn : n ≤ 9223372036854775807) {a : Nat} (hg : ∀ g ∈ gates, g.2.2.2.2.length ≤ a) (hk : ∀ k ∈ cards, k ≤ 9223372036854775807) :
    (bendF what at' n cards gates).1.length ≤ cards.length + 1 ∧ (bendF what at' n cards gates).2.length ≤ gates.length ∧ (∀ g ∈ (bendF what at' n cards gates).2, g.2.2.2.2.length ≤ a + 1) ∧ ∀ k ∈ (bendF what at' n cards gates).1, k ≤ 9223372036854775807 := by
  unfold bendF
  split
  · exact ⟨Nat.le_succ _, Nat.le_refl _, fun g h => Nat.le_succ_of_le (hg g h), hk⟩
  · rename_i h0
    unfold bendM
    split
    · refine ⟨by rw [List.length_set]; omega, Nat.le_refl _, fun g h => Nat.le_succ_of_le (hg g h), fun k h => ?_⟩
      rcases mem_set h with h | h
      · exact hk k h
      · omega
    · exact ⟨Nat.le_succ _, by rw [List.length_take]; omega, fun g h => Nat.le_succ_of_le (hg g (List.mem_of_mem_take h)), hk⟩
    · refine ⟨by rw [List.length_append]; exact Nat.le_refl _, Nat.le_refl _, fun g h => Nat.le_succ_of_le (hg g h), fun k h => ?_⟩
      rcases List.mem_append.1 h with h | h
      · exact hk k h
      · rw [List.mem_singleton] at h; omega
    · refine ⟨Nat.le_succ _, by rw [List.length_set]; exact Nat.le_refl _, fun g h => ?_, hk⟩
      rcases mem_set h with h | h
      · exact Nat.le_succ_of_le (hg g h)
      · rw [h]
        exact Nat.le_trans (bendG_args _ _ _) (Nat.succ_le_succ (hg _ (getD_mem (d := gz) (Nat.mod_lt at' (show 0 < gates.length by omega)))))
abbrev bz : Bd := (0, 0, 0)
def bdF (b : Bd) (c : Cc) : Cc := bendF b.1 b.2.1 b.2.2 c.1 c.2
def drF (dc : List Nat) (dg : List Q4) (big : Bool) : Cc := (cardsD dc, gatesD dc dg big)
def circF (dc : List Nat) (dg : List Q4) (big : Bool) (bs : List Bd) (cards : List Int) (gates : List Gate) : List Cc :=
  [drF dc dg big, bdF (bs.getD 0 bz) (drF dc dg big), bdF (bs.getD 1 bz) (bdF (bs.getD 0 bz) (drF dc dg big)), (cards.take 10, fewL gates)]
theorem few_ok (cards : List Int) (gates : List Gate) (hk : ∀ k ∈ cards, k ≤ 9223372036854775807) : cOK (cards.take 10, fewL gates) := by
  refine ⟨by rw [List.length_take]; omega, ?_, fun g hg => ?_, fun k h => hk k (List.mem_of_mem_take h)⟩
  · show (fewL gates).length ≤ 42
    rw [fewL, List.length_map, List.length_take]; omega
  · obtain ⟨x, _, rfl⟩ := List.mem_map.1 hg
    show (List.take 10 x.2.2.2.2).length ≤ 10
    rw [List.length_take]; omega
theorem circ_ok (dc : List Nat) (dg : List Q4) (big : Bool) (bs : List Bd) (cards : List Int) (gates : List Gate) (h2 : bs.length = 2) (hb : ∀ b ∈ bs, b.2.2 ≤ 9223372036854775807) (hk : ∀ k ∈ cards, k ≤ 9223372036854775807) :
    ∀ c ∈ circF dc dg big bs cards gates, cOK c := by
  have hcd := cardsD_ok dc
  have hgd := gatesD_len dc dg big
  have har := draft_args dc dg big
  have hb0 := hb _ (getD_mem (d := bz) (show 0 < bs.length by omega))
  have hb1 := hb _ (getD_mem (d := bz) (show 1 < bs.length by omega))
  have hck : ∀ k ∈ cardsD dc, k ≤ 9223372036854775807 := fun k h => by have := hcd.2.2 k h; omega
  obtain ⟨p1, p2, p3, p4⟩ := bend_sm (bs.getD 0 bz).1 (bs.getD 0 bz).2.1 (bs.getD 0 bz).2.2 (cardsD dc) (gatesD dc dg big) hb0 har hck
  obtain ⟨q1, q2, q3, q4⟩ := bend_sm (bs.getD 1 bz).1 (bs.getD 1 bz).2.1 (bs.getD 1 bz).2.2 _ _ hb1 p3 p4
  intro c hc
  simp only [circF, List.mem_cons, List.not_mem_nil, or_false] at hc
  rcases hc with rfl | rfl | rfl | rfl
  · exact ⟨by show (cardsD dc).length ≤ 10; omega, by show (gatesD dc dg big).length ≤ 42; omega, fun g h => by have := har g h; omega, hck⟩
  · exact ⟨Nat.le_trans p1 (by omega), Nat.le_trans p2 (by omega), fun g h => Nat.le_trans (p3 g h) (by omega), p4⟩
  · exact ⟨Nat.le_trans q1 (by omega), Nat.le_trans q2 (by omega), fun g h => Nat.le_trans (q3 g h) (by omega), q4⟩
  · exact few_ok cards gates hk
theorem circuits_fn (dc : List Nat) (dg : List Q4) (big : Bool) (bs : List Bd) (cards : List Int) (gates : List Gate)
    (hdc : ∀ c ∈ dc, c ≤ 255) (hdg : ∀ q ∈ dg, q.1 ≤ 255 ∧ q.2.1 ≤ 255 ∧ q.2.2.1 ≤ 255 ∧ q.2.2.2 ≤ 255) (hl : dc.length ≤ 9223372036854775807) (hl2 : dg.length ≤ 9223372036854775807)
    (h2 : bs.length = 2) (hb : ∀ b ∈ bs, b.1 ≤ 255 ∧ b.2.1 ≤ 255 ∧ b.2.2 ≤ 9223372036854775807) (hlc : cards.length ≤ 9223372036854775807) (hlg : gates.length ≤ 9223372036854775807) (hargs : ∀ g ∈ gates, g.2.2.2.2.length ≤ 9223372036854775807) :
    Fw.Fn Try.prog 10 [.agg [.dat .old (.i .u8) dc, .dat .old a4T dg, .val (.bool big)], .av .old bendT bs, .agg [.dat .old (.i .i64) cards, .dat .old gT gates]] [] (.av .old cT (circF dc dg big bs cards gates)) [] := by
  have hcd := cardsD_ok dc
  have hgd := gatesD_len dc dg big
  have har := draft_args dc dg big
  have hb0 := hb _ (getD_mem (d := bz) (show 0 < bs.length by omega))
  have hb1 := hb _ (getD_mem (d := bz) (show 1 < bs.length by omega))
  have hck : ∀ k ∈ cardsD dc, k ≤ 9223372036854775807 := fun k h => by have := hcd.2.2 k h; omega
  obtain ⟨p1, p2, p3, p4⟩ := bend_sm (bs.getD 0 bz).1 (bs.getD 0 bz).2.1 (bs.getD 0 bz).2.2 (cardsD dc) (gatesD dc dg big) hb0.2.2 har hck
  have c0 := draft_fn dc dg big hdc hdg hl hl2
  have c1 := bend_fn (bs.getD 0 bz).1 (bs.getD 0 bz).2.1 (bs.getD 0 bz).2.2 (cardsD dc) (gatesD dc dg big) hb0.1 hb0.2.1 (by omega) (by omega) (fun g h => by have := har g h; omega)
  have c2 := bend_fn (bs.getD 1 bz).1 (bs.getD 1 bz).2.1 (bs.getD 1 bz).2.2 _ _ hb1.1 hb1.2.1 (Nat.le_trans p1 (by omega)) (Nat.le_trans p2 (by omega)) (fun g h => Nat.le_trans (p3 g h) (by omega))
  have c3 := few_fn cards gates hlc hlg hargs
  refine fnR_go env_ok mixed Try.func10 (c := Try.f10.body.get rfl) rfl (by kernel_rfl) [] [] [] rfl ?_
  repeat' first | apply And.intro | (intro h; (cases h; done)) | (intro h; exfalso; simp only [decT, decF, beq_iff_eq, beq_eq_false_iff_ne, ne_eq, Int.toNat_natCast] at h; (try dsimp only [D, IK, dz, gT] at h); first | omega | exact absurd h (by assumption) | exact h (by assumption)) | intro _ | exact True.intro | (show Region.lexB _ _ = true; kernel_rfl) | refine CallK.fn [] c0 rfl rfl rfl rfl rfl trivial ?_ | refine CallK.fn [] c1 rfl rfl rfl rfl rfl ?_ ?_ | refine CallK.fn [] c2 rfl rfl rfl rfl rfl ?_ ?_ | refine CallK.fn [] c3 rfl rfl rfl rfl rfl trivial ?_
  all_goals try omega
  all_goals try exact h2
  all_goals try (first | rfl | (dsimp only [Int.toNat_zero]; omega))
end Go.Proofs.Ytbgnnpbcifgckaa
namespace Go.Proofs.Ytbgnnpbcifgckaa
open Go Go.Fw Go.RowKit
set_option maxRecDepth 100000
set_option maxHeartbeats 4000000
theorem derF_small (cards : List Int) (gates : List Gate) (input : List Int) : (derF cards gates input).1.length ≤ 8 ∧ ∀ r ∈ (derF cards gates input).1, r.length ≤ 4 := by
  unfold derF
  by_cases h : rightB cards gates = false
  · rw [if_pos h]; exact ⟨by decide, fun r hr => by cases hr⟩
  rw [if_neg h]
  have h : rightB cards gates = true := by cases e : rightB cards gates <;> simp_all
  obtain ⟨hc8, hcv⟩ := cards_ok h
  by_cases hi : inputB cards input = false
  · rw [if_pos hi]; exact ⟨by decide, fun r hr => by cases hr⟩
  rw [if_neg hi]
  cases valsO input gates [] with
  | none => exact ⟨Nat.zero_le _, fun r hr => by cases hr⟩
  | some vs =>
    dsimp only
    split
    · have hl := outS_len cards vs gates gates.length
      refine ⟨by show (outS cards vs gates gates.length).length ≤ 8; omega, fun r hr => ?_⟩
      have hr : r ∈ outS cards vs gates gates.length := hr
      obtain ⟨v, hv, rfl⟩ := List.getElem_of_mem hr
      have := outS_row cards vs gates v gates.length
      rw [getD_lt hv] at this
      rw [this]
      have := hcv v (by omega)
      omega
    · exact ⟨by decide, fun r hr => by cases hr⟩
theorem derives_fn (dc : List Nat) (dg : List Q4) (big : Bool) (bs : List Bd) (cards : List Int) (gates : List Gate) (l : List Nat) (odd : List Int)
    (hdc : ∀ c ∈ dc, c ≤ 255) (hdg : ∀ q ∈ dg, q.1 ≤ 255 ∧ q.2.1 ≤ 255 ∧ q.2.2.1 ≤ 255 ∧ q.2.2.2 ≤ 255) (hl : dc.length ≤ 9223372036854775807) (hl2 : dg.length ≤ 9223372036854775807)
    (h2 : bs.length = 2) (hb : ∀ b ∈ bs, b.1 ≤ 255 ∧ b.2.1 ≤ 255 ∧ b.2.2 ≤ 9223372036854775807) (hlc : cards.length ≤ 9223372036854775807) (hlg : gates.length ≤ 9223372036854775807) (hargs : ∀ g ∈ gates, g.2.2.2.2.length ≤ 9223372036854775807) (hk : ∀ k ∈ cards, k ≤ 9223372036854775807)
    (hl8 : l.length = 8) (hlb : ∀ x ∈ l, x ≤ 255) (ho : odd.length ≤ 9223372036854775807) :
    Fw.Fn Try.prog 5 [.agg [.dat .old (.i .u8) dc, .dat .old a4T dg, .val (.bool big)], .av .old bendT bs, .agg [.dat .old (.i .i64) cards, .dat .old gT gates], .av .old (.i .u8) l, .dat .old (.i .i64) odd] [] (.val (.bool true)) [] := by
  have hcf := circuits_fn dc dg big bs cards gates hdc hdg hl hl2 h2 hb hlc hlg hargs
  have hcok := circ_ok dc dg big bs cards gates h2 (fun b h => (hb b h).2.2) hk
  have hcl : (circF dc dg big bs cards gates).length = 4 := rfl
  refine fn_go env_ok mixed Try.func5 (c := Try.f5.body.get rfl) rfl (by kernel_rfl) [] rfl ?_
  repeat' first | apply And.intro | (intro h; (cases h; done)) | (intro h; exfalso; simp only [decT, decF, beq_iff_eq, beq_eq_false_iff_ne, ne_eq, Int.toNat_natCast] at h; (try dsimp only [D, IK, dz, gT] at h); first | omega | exact absurd h (by assumption) | exact h (by assumption)) | intro _ | exact True.intro | (show Region.lexB _ _ = true; kernel_rfl) | refine CallK.fn [] wakes_fn rfl rfl rfl rfl rfl trivial ?_ | refine CallK.fn [] hcf rfl rfl rfl rfl rfl trivial ?_
  · show bs.length * 3 = 6
    omega
  generalize circF dc dg big bs cards gates = C at *
  clear hcf
  have hol : (List.take (Int.toNat (min (↑(List.length odd)) 10)) odd).length ≤ 10 := by rw [List.length_take]; omega
  refine ⟨loopI (fun j : Nat => { n := 69, t := [(4, .dat .old (.i .i64) odd), (8, .ptr 0 0), (24, .av .old cT C), (25, .val (.int .i64 j))], h := [(0, some (.arr .old (.i .u8) l))], nx := 1 }) (fun j => 4 - j) (fun j => Ok (j ≤ 4)),
    loopI.start 0 [] [4, 8, 24, 25] [(8, [])] .fr (by (repeat' first | apply And.intro | rfl); exact ⟨Nat.zero_le _⟩), ?_⟩
  rintro _ _ ⟨j, rfl, rfl, ⟨hj⟩⟩
  by_cases hlt : j < 4
  · have hc := hcok _ (getD_mem (d := (([], []) : Cc)) (show j < C.length by omega))
    have hil : (List.take (Int.toNat (min (↑(List.length (C.getD j (([], []) : Cc)).1)) 10)) (C.getD j (([], []) : Cc)).1).length ≤ 10 := by rw [List.length_take]; omega
    have hif := inputsW_fn (List.take (Int.toNat (min (↑(List.length (C.getD j (([], []) : Cc)).1)) 10)) (C.getD j (([], []) : Cc)).1) l hl8 hlb (fun k h => hc.lk k (List.mem_of_mem_take h)) (by omega)
    have hal := inwF_len (List.take (Int.toNat (min (↑(List.length (C.getD j (([], []) : Cc)).1)) 10)) (C.getD j (([], []) : Cc)).1) l (List.take (Int.toNat (min (↑(List.length (C.getD j (([], []) : Cc)).1)) 10)) (C.getD j (([], []) : Cc)).1).length
    repeat' first | apply And.intro | (intro h; (cases h; done)) | (intro h; exfalso; simp only [decT, decF, beq_iff_eq, beq_eq_false_iff_ne, ne_eq, Int.toNat_natCast] at h; (try dsimp only [D, IK, dz, gT] at h); first | omega | exact absurd h (by assumption) | exact h (by assumption)) | intro _ | exact True.intro | (show Region.lexB _ _ = true; kernel_rfl) | refine CallK.fn [] hif rfl rfl rfl rfl rfl trivial ?_
    all_goals try exact hcl
    all_goals try (show l.length * 1 = 8; omega)
    (all_goals try ((first | (show (_ : Int) ≤ _) | (show (_ : Int) < _) | (show (_ : Nat) ≤ _) | (show (_ : Nat) < _)); (try simp only [Int.toNat_natCast, List.length_cons, List.length_nil, umax64]); (try dsimp only [D, IK, dz, gT]); omega))
    obtain ⟨c, hcc⟩ : ∃ c, c = C.getD j (([], []) : Cc) := ⟨_, rfl⟩
    obtain ⟨L, hL⟩ : ∃ L, L = [inwF (List.take (Int.toNat (min (↑(List.length (C.getD j (([], []) : Cc)).1)) 10)) (C.getD j (([], []) : Cc)).1) l (List.take (Int.toNat (min (↑(List.length (C.getD j (([], []) : Cc)).1)) 10)) (C.getD j (([], []) : Cc)).1).length, List.take (Int.toNat (min (↑(List.length odd)) 10)) odd] := ⟨_, rfl⟩
    have hLl : L.length = 2 := by rw [hL]; rfl
    have hLs : ∀ x ∈ L, x.length ≤ 10 := by
      intro x hx
      rw [hL] at hx
      rcases List.mem_cons.1 hx with e | hx
      · rw [e, hal]; exact hil
      · rw [List.mem_singleton.1 hx]; exact hol
    refine ⟨loopI (fun k : Nat => { n := 69, t := [(4, .dat .old (.i .i64) odd), (8, .ptr 0 0), (12, .ptr 1 0), (24, .av .old cT C), (25, .val (.int .i64 j)), (42, .av .old (.sl (.i .i64)) L), (43, .val (.int .i64 k))], h := [(0, some (.arr .old (.i .u8) l)), (1, some (.cells [.dat .old (.i .i64) c.1, .dat .old gT c.2]))], nx := 2 }) (fun k => 2 - k) (fun k => Ok (k ≤ 2)),
      loopI.start 0 [] [4, 8, 12, 24, 25, 42, 43] [(8, []), (12, [])] .fr (by rw [hL, hcc]; (repeat' first | apply And.intro | rfl); exact ⟨Nat.zero_le _⟩), ?_⟩
    rw [← hcc] at hc
    clear hL hif hal hil hol hcc
    rintro _ _ ⟨k, rfl, rfl, ⟨hk2⟩⟩
    by_cases hlk : k < 2
    · have hx := hLs _ (getD_mem (d := ([] : List Int)) (show k < L.length by omega))
      have e1 := Derive_fn c.1 c.2 (L.getD k ([] : List Int)) (Nat.le_trans hc.lg (by decide)) (Nat.le_trans hc.lc (by decide)) (by omega) (fun g h => Nat.le_trans (hc.la g h) (by decide))
      have e2 := ref_derive_fn c.1 c.2 (L.getD k ([] : List Int)) (Nat.le_trans hc.lg (by decide)) (Nat.le_trans hc.lc (by decide)) (by omega) (fun g h => Nat.le_trans (hc.la g h) (by decide))
      have hds := derF_small c.1 c.2 (L.getD k ([] : List Int))
      have e3 := sametable_fn (derF c.1 c.2 (L.getD k ([] : List Int))).1 (derF c.1 c.2 (L.getD k ([] : List Int))).1 (by omega) (fun r h => by have := hds.2 r h; omega)
      rw [decide_eq_true rfl] at e3
      generalize derF c.1 c.2 (L.getD k ([] : List Int)) = D0 at *
      repeat' first | apply And.intro | (intro h; (cases h; done)) | (intro h; exfalso; simp only [decT, decF, beq_iff_eq, beq_eq_false_iff_ne, ne_eq, Int.toNat_natCast] at h; (try dsimp only [D, IK, dz, gT] at h); first | omega | exact absurd h (by assumption) | exact h (by assumption)) | intro _ | exact True.intro | (show Region.lexB _ _ = true; kernel_rfl) | refine CallK.fn [] e1 rfl rfl rfl rfl rfl trivial ?_ | refine CallK.fn [] e2 rfl rfl rfl rfl rfl trivial ?_ | refine CallK.fn [] e3 rfl rfl rfl rfl rfl trivial ?_ | refine loopI.next (k + 1) [] [4, 8, 12, 24, 25, 42, 43] [(8, []), (12, [])] .fr ?_
      all_goals try exact hLl
      all_goals (try simp only [decT, decF, beq_iff_eq, bne_iff_ne, ne_eq, beq_eq_false_iff_ne, bne_eq_false_iff_eq, Decidable.not_not, Int.toNat_natCast, Bool.not_eq_true', Bool.not_eq_false', Bool.not_eq_true, Bool.not_eq_false, Int.not_lt, Int.not_le] at *; try dsimp only [D, IK, dz] at *)
      all_goals first | rfl | omega | exact ⟨by omega⟩ | (exfalso; simp_all; done)
    · repeat' first | apply And.intro | (intro h; (cases h; done)) | (intro h; exfalso; simp only [decT, decF, beq_iff_eq, beq_eq_false_iff_ne, ne_eq, Int.toNat_natCast] at h; (try dsimp only [D, IK, dz, gT] at h); first | omega | exact absurd h (by assumption) | exact h (by assumption)) | intro _ | exact True.intro | (show Region.lexB _ _ = true; kernel_rfl) | refine loopI.next (j + 1) [] [4, 8, 24, 25] [(8, [])] .fr ?_
      (all_goals try (show Fw.xRun _ _ _ _ _ _ _ _; exfalso; (try simp only [decT, decF, beq_iff_eq, bne_iff_ne, ne_eq, beq_eq_false_iff_ne, bne_eq_false_iff_eq, Decidable.not_not, Int.toNat_natCast, Bool.not_eq_true', Bool.not_eq_false', Bool.not_eq_true, Bool.not_eq_false, Int.not_lt, Int.not_le] at *); omega))
      all_goals (try simp only [decT, decF, beq_iff_eq, bne_iff_ne, ne_eq, beq_eq_false_iff_ne, bne_eq_false_iff_eq, Decidable.not_not, Int.toNat_natCast, Bool.not_eq_true', Bool.not_eq_false', Bool.not_eq_true, Bool.not_eq_false, Int.not_lt, Int.not_le] at *; try dsimp only [D, IK, dz] at *)
      all_goals first | rfl | omega | exact ⟨by omega⟩
  · repeat' first | apply And.intro | (intro h; (cases h; done)) | (intro h; exfalso; simp only [decT, decF, beq_iff_eq, beq_eq_false_iff_ne, ne_eq, Int.toNat_natCast] at h; (try dsimp only [D, IK, dz, gT] at h); first | omega | exact absurd h (by assumption) | exact h (by assumption)) | intro _ | exact True.intro | (show Region.lexB _ _ = true; kernel_rfl)
    (all_goals try (show Fw.xRun _ _ _ _ _ _ _ _; exfalso; (try simp only [decT, decF, beq_iff_eq, bne_iff_ne, ne_eq, beq_eq_false_iff_ne, bne_eq_false_iff_eq, Decidable.not_not, Int.toNat_natCast, Bool.not_eq_true', Bool.not_eq_false', Bool.not_eq_true, Bool.not_eq_false, Int.not_lt, Int.not_le] at *); omega))
    all_goals rfl
end Go.Proofs.Ytbgnnpbcifgckaa
namespace Go.Proofs.Ytbgnnpbcifgckaa
open Go Go.Fw Go.RowKit
set_option maxRecDepth 100000
set_option maxHeartbeats 4000000
theorem inputB_neg {cards a : List Int} (h : inputB cards a = true) {k : Nat} (hc : ∀ v, v < cards.length → 0 ≤ cards.getD v 0) : inputB cards (a.set k (-1)) = true := by
  simp only [inputB, Bool.and_eq_true, decide_eq_true_eq, List.all_eq_true, List.mem_range, List.length_set] at h ⊢
  refine ⟨h.1, fun v hv => ?_⟩
  have h1 := h.2 v hv
  have h2 := hc v (by omega)
  rw [getD_set]
  split
  · exact ⟨by omega, by omega⟩
  · exact h1
theorem bit_shr (n k : Nat) : ((n >>> k &&& 1) == 0) = !n.testBit k := by
  rw [Nat.testBit, Nat.and_comm]
  cases h : (1 &&& n >>> k) == 0 <;> simp_all
theorem derF_err {cards a : List Int} {gates : List Gate} (hr : rightB cards gates = true) (ha : inputB cards a = true) : (derF cards gates a).2 = 0 ∨ (derF cards gates a).2 = 6 := by
  unfold derF
  rw [if_neg (by rw [hr]; decide), if_neg (by rw [ha]; decide)]
  cases valsO a gates [] with
  | none => exact Or.inr rfl
  | some ys =>
    dsimp only
    split
    · exact Or.inl rfl
    · exact Or.inr rfl
theorem adds_fn (dc : List Nat) (dg : List Q4) (big : Bool) (l : List Nat) (v : Nat) (hdc : ∀ c ∈ dc, c ≤ 255) (hdg : ∀ q ∈ dg, q.1 ≤ 255 ∧ q.2.1 ≤ 255 ∧ q.2.2.1 ≤ 255 ∧ q.2.2.2 ≤ 255) (hl : dc.length ≤ 9223372036854775807) (hl2 : dg.length ≤ 9223372036854775807)
    (hl8 : l.length = 8) (hlb : ∀ x ∈ l, x ≤ 255) (hv : v ≤ 255) :
    Fw.Fn Try.prog 6 [.agg [.dat .old (.i .u8) dc, .dat .old a4T dg, .val (.bool big)], .av .old (.i .u8) l, .un .u8 v] [] (.val (.bool true)) [] := by
  have hcd := cardsD_ok dc
  have hgd := gatesD_len dc dg big
  have hr := draft_right dc dg big
  have har := draft_args dc dg big
  have hci : ∀ v, v < (cardsD dc).length → 1 ≤ (cardsD dc).getD v 0 ∧ (cardsD dc).getD v 0 ≤ 3 := fun v hv => hcd.2.2 _ (getD_mem (d := 0) hv)
  have hi := inp_ok (l := l) (fun v hv => by have := hci v hv; omega)
  have hil := inpF_len (cardsD dc) l (cardsD dc).length
  have hdf := draft_fn dc dg big hdc hdg hl hl2
  have hif := inputs15_fn (cardsD dc) l hl8 hlb (fun k hk => by have := hcd.2.2 k hk; omega) (by omega)
  have hkf := kinds_fn (cardsD dc) (gatesD dc dg big) (by omega) (by omega) (fun g hg => by have := har g hg; omega) hr
  have hvf := ref_variables_fn (cardsD dc) (gatesD dc dg big) hr (fun g hg => by have := har g hg; omega)
  have hvl := varsF_len (gatesD dc dg big)
  have hv256 := varsF_lt hr
  generalize hcs : cardsD dc = cs at *
  generalize hgs : gatesD dc dg big = gs at *
  have hkl : v % cs.length < cs.length := Nat.mod_lt _ (by omega)
  have hkz : Int.tmod (v : Int) (cs.length : Int) = ((v % cs.length : Nat) : Int) := rfl
  have ha := inputB_neg hi (k := v % cs.length) (fun v hv => by have := hci v hv; omega)
  have hal : ((inpF cs l cs.length).set (v % cs.length) (-1)).length = cs.length := by rw [List.length_set]; exact hil
  have hak : ((inpF cs l cs.length).set (v % cs.length) (-1)).getD (v % cs.length) 0 = -1 := by rw [getD_set, if_pos ⟨rfl, by omega⟩]
  have e1 := eval_fn cs gs ((inpF cs l cs.length).set (v % cs.length) (-1)) (by omega) (by omega) (by omega) (fun g hg => by have := har g hg; omega)
  have e2 := Derive_fn cs gs ((inpF cs l cs.length).set (v % cs.length) (-1)) (by omega) (by omega) (by omega) (fun g hg => by have := har g hg; omega)
  have m1 := eval_err hr ha
  have m2 := derF_err hr ha
  have hbv : (varsF gs).getD (Int.toNat (↑(List.length gs) - 1)) 0 >>> Int.toNat (Int.tmod ↑v ↑(List.length cs)) &&& 1 = 0 ∨ kin gs (v % cs.length) (gs.length - 1) = true := by
    rw [show Int.toNat (↑(List.length gs) - 1) = gs.length - 1 by omega]
    have := bit_shr ((varsF gs).getD (gs.length - 1) 0) (v % cs.length)
    cases hb : kin gs (v % cs.length) (gs.length - 1) with
    | true => exact Or.inr rfl
    | false =>
      rw [kin] at hb
      rw [hb] at this
      exact Or.inl (eq_of_beq this)
  have hU1 : (varsF gs).getD (Int.toNat (↑(List.length gs) - 1)) 0 >>> Int.toNat (Int.tmod ↑v ↑(List.length cs)) ≤ umax .u64 := Nat.le_trans (shr_le _ _) (umax_ok (getD_lt256 hv256 _))
  have hU2 : Int.toNat (Int.tmod ↑v ↑(List.length cs)) ≤ IntKind.bits IntKind.u64 ∨ (varsF gs).getD (Int.toNat (↑(List.length gs) - 1)) 0 ≤ umax .u64 := Or.inr (umax_ok (getD_lt256 hv256 _))
  refine fn_go env_ok mixed Try.func6 (c := Try.f6.body.get rfl) rfl (by kernel_rfl) [] rfl ?_
  by_cases hsm : smF (varsF gs) gs gs.length = true
  · by_cases hdp : dcF (varsF gs) gs gs.length = true
    · rw [hsm, hdp] at hkf
      have law := fun hroot h0 hd => adds_law hr hsm hdp hkl hroot ha hak h0 hd
      generalize hA : (inpF cs l cs.length).set (v % cs.length) (-1) = A at *
      generalize evalF cs gs A = p at *
      generalize derF cs gs A = q at *
      by_cases hb0 : (varsF gs).getD (Int.toNat (↑(List.length gs) - 1)) 0 >>> Int.toNat (Int.tmod ↑v ↑(List.length cs)) &&& 1 = 0
      · repeat' first | apply And.intro | (intro h; (cases h; done)) | (intro h; exfalso; simp only [decT, decF, beq_iff_eq, beq_eq_false_iff_ne, ne_eq, Int.toNat_natCast] at h; (try dsimp only [D, IK, dz, gT] at h); first | omega | exact absurd h (by assumption) | exact h (by assumption)) | intro _ | exact True.intro | (show Region.lexB _ _ = true; kernel_rfl) | refine CallK.fn [] wakes_fn rfl rfl rfl rfl rfl trivial ?_ | refine CallK.fn [] hdf rfl rfl rfl rfl rfl trivial ?_ | refine CallK.fn [] hkf rfl rfl rfl rfl rfl trivial ?_ | refine CallK.fn [] hvf rfl rfl rfl rfl rfl trivial ?_
        all_goals first | rfl | exact hU1 | exact hU2 | (rw [hkz]; omega) | omega | (exfalso; omega)
      · have hroot : kin gs (v % cs.length) (gs.length - 1) = true := hbv.resolve_left hb0
        by_cases hp : p.2 = 0 ∧ q.2 = 0
        · obtain ⟨L1, L2, L3, L4, L5, L6⟩ := law hroot hp.1 hp.2
          obtain ⟨p1, p2⟩ := p
          obtain ⟨q1, q2⟩ := q
          obtain ⟨hp1, hp2⟩ := hp
          dsimp only at hp1 hp2 L1 L2 L3 L4 L5 L6 e1 e2
          subst hp1 hp2
          subst hA
          have hqr : (q1.getD (Int.toNat (Int.tmod ↑v ↑(List.length cs))) []).length = (cs.getD (v % cs.length) 0).toNat := L2
          have hcv := hci _ hkl
          have hq0 : ((q1.getD (Int.toNat (Int.tmod ↑v ↑(List.length cs))) []).length : Int) = cs.getD (Int.toNat (Int.tmod ↑v ↑(List.length cs))) 0 := by
            rw [hqr, hkz, Int.toNat_natCast]; omega
          repeat' first | apply And.intro | (intro h; (cases h; done)) | (intro h; exfalso; simp only [decT, decF, beq_iff_eq, beq_eq_false_iff_ne, ne_eq, Int.toNat_natCast] at h; (try dsimp only [D, IK, dz, gT] at h); first | omega | exact absurd h (by assumption) | exact h (by assumption)) | intro _ | exact True.intro | (show Region.lexB _ _ = true; kernel_rfl) | refine CallK.fn [] wakes_fn rfl rfl rfl rfl rfl trivial ?_ | refine CallK.fn [] hdf rfl rfl rfl rfl rfl trivial ?_ | refine CallK.fn [] hkf rfl rfl rfl rfl rfl trivial ?_ | refine CallK.fn [] hvf rfl rfl rfl rfl rfl trivial ?_ | refine CallK.fn [] hif rfl rfl rfl rfl rfl ?_ ?_ | refine CallK.fn [] e1 rfl rfl rfl rfl rfl trivial ?_ | refine CallK.fn [] e2 rfl rfl rfl rfl rfl trivial ?_
          all_goals try first | exact hU1 | exact hU2 | (show l.length * 1 = 8; omega) | (rw [hkz]; omega) | omega
          · rename_i h
            rw [bne_iff_ne] at h
            omega
          · rename_i h
            rw [bne_iff_ne] at h
            exact absurd hq0 h
          obtain ⟨k, hk⟩ : ∃ k, k = v % cs.length := ⟨_, rfl⟩
          obtain ⟨A, hA⟩ : ∃ A, A = (inpF cs l cs.length).set (v % cs.length) (-1) := ⟨_, rfl⟩
          obtain ⟨row, hrw⟩ : ∃ row, row = q1.getD k [] := ⟨_, rfl⟩
          refine ⟨loopI (fun x : Nat × List Int => { n := 159, t := [(7, .ptr 0 0), (12, .val (.int .i64 k)), (13, .own 1), (14, .val (.int .i64 p1)), (16, .dat .fr (.sl (.i .i64)) q1), (18, .val (.int .i64 (sumI (row.take x.1)))), (125, .val (.int .i64 (cs.getD k 0))), (126, .val (.int .i64 x.1))], h := [(0, some (.cells [.dat .fr (.i .i64) cs, .dat .fr gT gs])), (1, some (.arr .fr (.i .i64) x.2))], nx := 2 }) (fun x => (cs.getD k 0).toNat - x.1) (fun x => Ok ((x.1 : Int) ≤ cs.getD k 0 ∧ x.2.length = cs.length ∧ ∀ y : Int, x.2.set k y = A.set k y)),
            loopI.start (0, A) [] [7, 12, 13, 14, 16, 18, 125, 126] [(7, []), (13, [])] .fr (by rw [hk, hA]; (repeat' first | apply And.intro | rfl); exact ⟨by show (0 : Int) ≤ _; omega, by omega, fun _ => rfl⟩), ?_⟩
          rw [← hA] at L3
          rw [← hk] at hkl hcv L2 L3 L4 L5
          rw [← hrw] at L2 L3 L4 L5
          clear hq0 hqr hkz hbv hU1 hU2 ha hal hak law m1 m2 e1 e2 hk hA hif hkf hvf hdf
          rintro _ _ ⟨⟨x, Lc⟩, rfl, rfl, ⟨hx, hLl, hLs⟩⟩
          dsimp only at hx hLl hLs ⊢
          have htk := sumI_take_le L5 x
          have htn := sumI_take_nonneg L5 x
          by_cases hxl : (x : Int) < cs.getD k 0
          · have hE : evalF cs gs (Lc.set k (x : Int)) = (row.getD x 0, 0) := by rw [hLs]; exact Prod.ext (L3 x hxl).2 (L3 x hxl).1
            have e3 := eval_fn cs gs (Lc.set k (x : Int)) (by omega) (by omega) (by rw [List.length_set]; omega) (fun g hg => by have := har g hg; omega)
            rw [hE] at e3
            have htk1 := sumI_take_le L5 (x + 1)
            have htn1 := sumI_take_nonneg L5 (x + 1)
            have hst : sumI (row.take (x + 1)) = sumI (row.take x) + row.getD x 0 := by rw [take_step (by omega), sumI_snoc, getD_lt (by omega)]
            have hr1 : (row.getD x 0 != (q1.getD (Int.toNat (k : Int)) []).getD (Int.toNat (x : Int)) 0) = false := by rw [Int.toNat_natCast, Int.toNat_natCast, ← hrw]; simp
            have hql : (q1.getD (Int.toNat (k : Int)) []).length = (cs.getD k 0).toNat := by rw [Int.toNat_natCast, ← hrw]; exact L2
            repeat' first | apply And.intro | (intro h; (cases h; done)) | (intro h; exfalso; simp only [decT, decF, beq_iff_eq, beq_eq_false_iff_ne, ne_eq, Int.toNat_natCast] at h; (try dsimp only [D, IK, dz, gT] at h); first | omega | exact absurd h (by assumption) | exact h (by assumption)) | intro _ | exact True.intro | (show Region.lexB _ _ = true; kernel_rfl) | refine CallK.fn [] e3 rfl rfl rfl rfl rfl trivial ?_ | refine loopI.next (x + 1, Lc.set k (x : Int)) [] [7, 12, 13, 14, 16, 18, 125, 126] [(7, []), (13, [])] .fr ?_
            all_goals (try simp only [decT, decF, beq_iff_eq, bne_iff_ne, ne_eq, beq_eq_false_iff_ne, bne_eq_false_iff_eq, Decidable.not_not, Int.toNat_natCast, Bool.not_eq_true', Bool.not_eq_false', Bool.not_eq_true, Bool.not_eq_false, Int.not_lt, Int.not_le] at *; try dsimp only [D, IK, dz] at *)
            all_goals first | rfl | omega | exact ⟨by omega, by rw [List.length_set]; exact hLl, fun y => by rw [List.set_set]; exact hLs y⟩ | skip
          · have hxe : row.take x = row := List.take_of_length_le (by omega)
            repeat' first | apply And.intro | (intro h; (cases h; done)) | (intro h; exfalso; simp only [decT, decF, beq_iff_eq, beq_eq_false_iff_ne, ne_eq, Int.toNat_natCast] at h; (try dsimp only [D, IK, dz, gT] at h); first | omega | exact absurd h (by assumption) | exact h (by assumption)) | intro _ | exact True.intro | (show Region.lexB _ _ = true; kernel_rfl)
            rw [hxe, L4]; exact beq_self_eq_true p1
        · subst hA
          repeat' first | apply And.intro | (intro h; (cases h; done)) | (intro h; exfalso; simp only [decT, decF, beq_iff_eq, beq_eq_false_iff_ne, ne_eq, Int.toNat_natCast] at h; (try dsimp only [D, IK, dz, gT] at h); first | omega | exact absurd h (by assumption) | exact h (by assumption)) | intro _ | exact True.intro | (show Region.lexB _ _ = true; kernel_rfl) | refine CallK.fn [] wakes_fn rfl rfl rfl rfl rfl trivial ?_ | refine CallK.fn [] hdf rfl rfl rfl rfl rfl trivial ?_ | refine CallK.fn [] hkf rfl rfl rfl rfl rfl trivial ?_ | refine CallK.fn [] hvf rfl rfl rfl rfl rfl trivial ?_ | refine CallK.fn [] hif rfl rfl rfl rfl rfl ?_ ?_ | refine CallK.fn [] e1 rfl rfl rfl rfl rfl trivial ?_ | refine CallK.fn [] e2 rfl rfl rfl rfl rfl trivial ?_
          all_goals try first | exact hU1 | exact hU2 | (show l.length * 1 = 8; omega) | (rw [hkz]; omega) | omega
          (all_goals try (show Fw.xRun _ _ _ _ _ _ _ _; exfalso; (try simp only [decT, decF, beq_iff_eq, bne_iff_ne, ne_eq, beq_eq_false_iff_ne, bne_eq_false_iff_eq, Decidable.not_not, Int.toNat_natCast, Bool.not_eq_true', Bool.not_eq_false', Bool.not_eq_true, Bool.not_eq_false, Int.not_lt, Int.not_le] at *); omega))
          all_goals (try simp only [decT, decF, beq_iff_eq, bne_iff_ne, ne_eq, beq_eq_false_iff_ne, bne_eq_false_iff_eq, Decidable.not_not, Int.toNat_natCast, Bool.not_eq_true', Bool.not_eq_false', Bool.not_eq_true, Bool.not_eq_false, Int.not_lt, Int.not_le] at *; try dsimp only [D, IK, dz] at *)
          all_goals first | rfl | omega | (rw [hkz]; omega) | skip
    · have hdp : dcF (varsF gs) gs gs.length = false := by cases h : dcF (varsF gs) gs gs.length <;> simp_all
      rw [hdp] at hkf
      repeat' first | apply And.intro | (intro h; (cases h; done)) | (intro h; exfalso; simp only [decT, decF, beq_iff_eq, beq_eq_false_iff_ne, ne_eq, Int.toNat_natCast] at h; (try dsimp only [D, IK, dz, gT] at h); first | omega | exact absurd h (by assumption) | exact h (by assumption)) | intro _ | exact True.intro | (show Region.lexB _ _ = true; kernel_rfl) | refine CallK.fn [] wakes_fn rfl rfl rfl rfl rfl trivial ?_ | refine CallK.fn [] hdf rfl rfl rfl rfl rfl trivial ?_ | refine CallK.fn [] hkf rfl rfl rfl rfl rfl trivial ?_
      all_goals rfl
  · have hsm : smF (varsF gs) gs gs.length = false := by cases h : smF (varsF gs) gs gs.length <;> simp_all
    rw [hsm] at hkf
    repeat' first | apply And.intro | (intro h; (cases h; done)) | (intro h; exfalso; simp only [decT, decF, beq_iff_eq, beq_eq_false_iff_ne, ne_eq, Int.toNat_natCast] at h; (try dsimp only [D, IK, dz, gT] at h); first | omega | exact absurd h (by assumption) | exact h (by assumption)) | intro _ | exact True.intro | (show Region.lexB _ _ = true; kernel_rfl) | refine CallK.fn [] wakes_fn rfl rfl rfl rfl rfl trivial ?_ | refine CallK.fn [] hdf rfl rfl rfl rfl rfl trivial ?_ | refine CallK.fn [] hkf rfl rfl rfl rfl rfl trivial ?_
    all_goals rfl
end Go.Proofs.Ytbgnnpbcifgckaa
namespace Go.Proofs.Ytbgnnpbcifgckaa
open Go Go.Fw Go.RowKit Go.ChangeShapes Go.WideShapes Go.ChangeAt
set_option maxRecDepth 100000 in
theorem adds_lifted (os : Os) (started : os.Started) (H : Type) (enc : TypeId × Value → H) :
    ReturnsInHanded {} Try.checked os 6 .any (Rows.circuitAddsSpec.pre6 enc Try.prog Try.f6 Rows.circuitAddsRow.domain false) (Rows.circuitAddsSpec.post enc Try.prog Try.f6 false true false false) := by
  refine law_lifted (C := Try.checked) (T := 4) own started (by kernel_rfl) Try.func6
    (ChangeSpec.witness6 (enc := enc) (C := Try.checked) false ⟨#[], #[.agg #[.slice none 0 0, .slice none 0 0, .bool false], .agg #[.int .u8 0, .int .u8 0, .int .u8 0, .int .u8 0, .int .u8 0, .int .u8 0, .int .u8 0, .int .u8 0], .int .u8 0], []⟩ 8 (by kernel_rfl) (by kernel_rfl) (by kernel_rfl) (by kernel_rfl))
    laid (by kernel_rfl) rfl (fun ds hd => ?_) rfl rfl ?_
  · match ds, hd with
    | [d1, d2, d3], _ => exact ⟨rfl, rfl, rfl⟩
  · intro W base args ds ps hval hA
    obtain ⟨v0, v1, v2, d0, d1, d2, p0, p1, p2, rfl, rfl, rfl, h0, h1, h2⟩ := trodAll_three (t := 25) (t' := 46) (t'' := 5) hA
    have e0 := hval 0 25 v0 rfl rfl
    have e1 := hval 1 46 v1 rfl rfl
    have e2 := hval 2 5 v2 rfl rfl
    obtain ⟨n0, h0⟩ := h0
    obtain ⟨n1, h1⟩ := h1
    obtain ⟨n2, h2⟩ := h2
    obtain ⟨x0, w0, r0⟩ := trod_RD 9 ty25 h0
    obtain ⟨x1, w1, r1⟩ := trod_RD 9 ty46 h1
    obtain ⟨x2, w2, r2⟩ := trod_RD (t := .i .u8) 9 ty5 h2
    obtain ⟨cs0, rfl, _⟩ := okWide_struct (P := Try.prog) (t := 25) rfl e0
    obtain ⟨cs1, rfl, _⟩ := okWide_array (P := Try.prog) (t := 46) rfl e1
    obtain ⟨z2, rfl⟩ := okWide_int (P := Try.prog) (t := 5) (k := .u8) rfl e2
    obtain ⟨d1, d2, d3, d4⟩ := read_draft w0
    have k2 : z2 = ((x2 : Nat) : Int) := by
      simp only [RD] at r2
      have r2 : [Value.int .u8 z2] = [Value.int .u8 (IK.z .u8 x2)] := r2
      simpa [IK.z] using r2
    subst k2
    have hw2 : (x2 : Nat) ≤ 255 := by
      have hm : IntKind.u8.max = 255 := by decide
      simp only [wfD, hm, IK.z] at w2
      exact Int.ofNat_le.1 w2.2
    have g := adds_fn (x0.1 : List Nat) (x0.2.1 : List Q4) (x0.2.2 : Bool) (list8 x1) x2 d1 d2 d3 d4 rfl (wf8 w1) hw2
    refine Fn.law (w := W) g (vs := [.agg cs0, .agg cs1, .int .u8 (x2 : Nat)]) (.cons ?_ (.cons ?_ (.cons (.un _ _) .nil)))
    · exact .agg (RD.cells (c := cx0 W) (o := .old) (t := draftT) (x := x0) (r0.imp fun b hb => ok0 hb))
    · exact av8 (r1.imp fun b hb => ok0 hb)
theorem adds_over : Rows.circuitAddsRow.holds Try.pinned (OpenSpec.ofChange Rows.circuitAddsSpec) :=
  OpenClaim.holds_of_wide 6 Try.f6 rfl rfl rfl rfl rfl rfl rfl ⟨rfl, rfl, rfl, rfl, rfl⟩ rfl rfl rfl rfl rfl (by kernel_rfl) Try.func6 (by kernel_rfl)
    (of_decide_eq_true (by kernel_rfl)) (by unfold Func.isWrapper; first | (rw [if_pos (by decide +kernel)]; kernel_rfl) | (rw [if_neg (by decide +kernel)]; exact ⟨rfl, rfl⟩))
    (fun os started H enc _ => adds_lifted os started H enc)
/-- The statement. -/
theorem circuitAdds_proved : Rows.CircuitAddsSaid := adds_over
end Go.Proofs.Ytbgnnpbcifgckaa
