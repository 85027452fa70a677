/- Proved here: the statement CircuitKnown of the seat, whole, under no condition: the examples of the chapter, and errors and limits. (The function, which takes nothing, returns true in every world that the statement speaks of.) -/
import Derived.Test.YtbgnnpbcifgckaaKnown4
import Derived.Deep.Slices
import Derived.OpenShut
import Derived.ProofKit
import Derived.ChangeCalls
import Derived.Test.YtbgnnpbcifgckaaRows
set_option linter.all false
namespace Go.Proofs.Ytbgnnpbcifgckaa
open Go Go.Fw Go.RowKit
set_option maxRecDepth 100000
set_option maxHeartbeats 4000000
/-- The union of sets. -/
def orU (l : List Nat) : Nat := l.foldl (· ||| ·) 0
theorem foldl_or (l : List Nat) (a : Nat) : l.foldl (· ||| ·) a = a ||| orU l := by
  induction l generalizing a with
  | nil => simp [orU]
  | cons x l ih => simp only [orU, List.foldl_cons]; rw [ih, ih (0 ||| x), Nat.zero_or, Nat.or_assoc]
theorem orU_snoc (l : List Nat) (x : Nat) : orU (l ++ [x]) = orU l ||| x := by simp [orU]
theorem orU_cons (x : Nat) (l : List Nat) : orU (x :: l) = x ||| orU l := by simp only [orU, List.foldl_cons]; rw [foldl_or, Nat.zero_or]; rfl
def setG (out : List Nat) (g : Gate) : Nat := orU ((if g.1 = 2 then [1 <<< g.2.1.toNat] else []) ++ g.2.2.2.2.map fun a => out.getD a.toNat 0)
def varsF (gates : List Gate) : List Nat := gates.foldl (fun out g => out ++ [setG out g]) []
theorem orU_lt {l : List Nat} (h : ∀ x ∈ l, x < 256) : orU l < 256 := by
  induction l with
  | nil => exact (by decide : orU [] < 256)
  | cons x l ih => rw [orU_cons]; exact Nat.or_lt_two_pow (n := 8) (h x List.mem_cons_self) (ih fun y hy => h y (List.mem_cons_of_mem _ hy))
theorem joined_fn (l : List Nat) (hb : ∀ x ∈ l, x < 256) (hl : l.length ≤ 4611686018427387903) : Fw.Fn Try.prog 55 [.dat .old (.i .u64) l] [] (.un .u64 (orU l)) [] := by
  refine fn_go env_ok mixed Try.func55 (c := Try.f55.body.get rfl) rfl (by kernel_rfl) [] rfl ?_
  repeat' first | apply And.intro | (intro h; (cases h; done)) | intro _ | exact True.intro | (show Region.lexB _ _ = true; kernel_rfl)
  all_goals try omega
  refine ⟨loopI (fun j : Nat => { n := 17, t := [(3, .un .u64 (orU (l.take j))), (6, .dat .old (.i .u64) l), (7, .val (.int .i64 (↑(List.length l)))), (8, .val (.int .i64 j))], h := [], nx := 0 }) (fun j => l.length - j) (fun j => Ok (j ≤ l.length)),
    loopI.start 0 [] [3, 6, 7, 8] [] .fr (by (repeat' first | apply And.intro | rfl); exact ⟨Nat.zero_le _⟩), ?_⟩
  rintro _ _ ⟨j, rfl, rfl, ⟨hj⟩⟩
  have hto : orU (l.take j) < 256 := orU_lt fun x hx => hb x (List.mem_of_mem_take hx)
  have hx : ∀ h : (j : Int) < l.length, orU (l.take (j + 1)) = orU (l.take j) ||| l.getD j 0 := fun h => by
    rw [take_step (by omega), orU_snoc, getD_lt (by omega)]
  repeat' first | apply And.intro | (intro h; (cases h; done)) | intro _ | exact True.intro | (show Region.lexB _ _ = true; kernel_rfl) | refine loopI.next (j + 1) [] [3, 6, 7, 8] [] .fr ?_
  all_goals (try simp only [decT, decF, beq_iff_eq, bne_iff_ne, ne_eq, beq_eq_false_iff_ne, bne_eq_false_iff_eq, Decidable.not_not, Int.toNat_natCast, Bool.not_eq_true', Bool.not_eq_false', Bool.not_eq_true, Bool.not_eq_false, Int.not_lt, Int.not_le] at *; try dsimp only [D, IK, dz] at *)
  all_goals try rw [umax64]
  all_goals try omega
  all_goals by_cases h0 : (j : Int) < l.length
  all_goals try simp only [h0, true_implies, false_implies] at hx
  all_goals try omega
  all_goals first | exact hx.symm | exact ⟨by omega⟩ | (rw [List.take_of_length_le (by omega)]; done) | (have := hb _ (getD_mem (l := l) (v := j) (d := 0) (by omega)); omega)
theorem umax_ok {n : Nat} (h : n < 256) : n ≤ umax .u64 := by rw [umax64]; omega
theorem varsF_snoc (gates : List Gate) (g : Gate) : varsF (gates ++ [g]) = varsF gates ++ [setG (varsF gates) g] := by simp [varsF]
theorem varsF_len (gates : List Gate) : (varsF gates).length = gates.length := by
  unfold varsF
  suffices h : ∀ (gs : List Gate) (o : List Nat), (gs.foldl (fun out g => out ++ [setG out g]) o).length = o.length + gs.length by simpa using h gates []
  intro gs
  induction gs with
  | nil => intro o; rfl
  | cons g gs ih => intro o; rw [List.foldl_cons, ih]; simp; omega
theorem setG_lt {cards : List Int} {i : Int} {out : List Nat} {g : Gate} (hg : gOK cards i g = true) (h8 : cards.length ≤ 8) (ho : ∀ x ∈ out, x < 256) : setG out g < 256 := by
  refine orU_lt fun x hx => ?_
  rcases List.mem_append.1 hx with hx | hx
  · split at hx
    · rename_i h2
      obtain ⟨_, g1, g2, _⟩ := isgate hg h2
      simp only [List.mem_singleton] at hx
      subst hx
      rw [Nat.one_shiftLeft]
      exact Nat.pow_lt_pow_right (by decide) (by omega : g.2.1.toNat < 8)
    · cases hx
  · obtain ⟨a, _, rfl⟩ := List.mem_map.1 hx
    rcases Nat.lt_or_ge a.toNat out.length with h | h
    · exact ho _ (getD_mem h)
    · rw [List.getD_eq_getElem?_getD, List.getElem?_eq_none h]; exact (by decide : (0 : Nat) < 256)
theorem varsT_lt {cards : List Int} {gates : List Gate} (hr : rightB cards gates = true) {j : Nat} (hj : j ≤ gates.length) : ∀ x ∈ varsF (gates.take j), x < 256 := by
  have h8 := (cards_ok hr).1
  have hg := (right_all hr).2
  induction j with
  | zero => intro x hx; exact absurd hx List.not_mem_nil
  | succ j ih =>
    intro x hx
    rw [take_step (by omega), varsF_snoc] at hx
    rcases List.mem_append.1 hx with hx | hx
    · exact ih (by omega) x hx
    · rw [List.mem_singleton] at hx
      subst hx
      refine setG_lt (cards := cards) (i := j) ?_ h8 (ih (by omega))
      rw [← getD_lt (d := gz)]
      exact hg j (by omega)
theorem varsF_lt {cards : List Int} {gates : List Gate} (hr : rightB cards gates = true) : ∀ x ∈ varsF gates, x < 256 := by
  have := varsT_lt hr (Nat.le_refl gates.length)
  rwa [List.take_length] at this
theorem gate_args {cards : List Int} {i : Int} {g : Gate} (h : gOK cards i g = true) : ∀ a ∈ g.2.2.2.2, 0 ≤ a ∧ a < i := by
  rcases gate_ok h with h | h | h
  · rw [h.2.2.2]; exact fun a ha => absurd ha List.not_mem_nil
  · rw [h.2.2.2.2.2]; exact fun a ha => absurd ha List.not_mem_nil
  · exact args_mem h.2.2
theorem varsF_take {gates : List Gate} {j : Nat} (h : j < gates.length) : varsF (gates.take (j + 1)) = varsF (gates.take j) ++ [setG (varsF (gates.take j)) (gates.getD j gz)] := by
  rw [take_step h, varsF_snoc, getD_lt h]
theorem variables_fn (cards : List Int) (gates : List Gate) (hr : rightB cards gates = true) (hargs : ∀ g ∈ gates, g.2.2.2.2.length ≤ 1000000) : Fw.Fn Try.prog 39 [.agg [.dat .old (.i .i64) cards, .dat .old gT gates]] [] (.dat .fr (.i .u64) (varsF gates)) [] := by
  refine fn_go env_ok mixed Try.func39 (c := Try.f39.body.get rfl) rfl (by kernel_rfl) [] rfl ?_
  repeat' first | apply And.intro | (intro h; (cases h; done)) | intro _ | exact True.intro | (show Region.lexB _ _ = true; kernel_rfl)
  all_goals try omega
  refine ⟨loopI (fun j : Nat => { n := 47, t := [(3, .own 0), (10, .dat .old gT gates), (11, .val (.int .i64 (↑(List.length gates)))), (12, .val (.int .i64 j))], h := [(0, some (.arr .fr (.i .u64) (varsF (gates.take j))))], nx := 1 }) (fun j => gates.length - j) (fun j => Ok (j ≤ gates.length)),
    loopI.start 0 [3] [3, 10, 11, 12] [(3, [])] .fr (by (repeat' first | apply And.intro | rfl); exact ⟨Nat.zero_le _⟩), ?_⟩
  rintro _ _ ⟨j, rfl, rfl, ⟨hj⟩⟩
  by_cases hlt : j < gates.length
  · have hgk := (right_all hr).2 j hlt
    have hal := hargs _ (getD_mem (d := gz) hlt)
    have h8 := (cards_ok hr).1
    have hgl := (right_all hr).1
    have hvl : ∀ x ∈ varsF (gates.take j), x < 256 := varsT_lt hr (by omega)
    have hvn : (varsF (gates.take j)).length = j := by rw [varsF_len, List.length_take]; omega
    have hap : ∀ a ∈ (gates.getD j gz).2.2.2.2, 0 ≤ a ∧ a < j := gate_args hgk
    by_cases h2k : (gates.getD j gz).1 = 2
    · obtain ⟨_, g1, g2, g3, g4, g5⟩ := isgate hgk h2k
      have hsh : 1 <<< (gates.getD j gz).2.1.toNat < 256 := by
        rw [Nat.one_shiftLeft]
        exact Nat.pow_lt_pow_right (by decide) (by omega : (gates.getD j gz).2.1.toNat < 8)
      repeat' first | apply And.intro | (intro h; (cases h; done)) | (intro h; exfalso; simp only [decT, decF, beq_iff_eq, beq_eq_false_iff_ne, ne_eq, Int.toNat_natCast] at h; (try dsimp only [D, IK, dz, gT] at h); first | omega | exact absurd h (by assumption) | exact h (by assumption)) | intro _ | exact True.intro | (show Region.lexB _ _ = true; kernel_rfl)
      (all_goals try ((first | (show (_ : Int) ≤ _) | (show (_ : Int) < _) | (show (_ : Nat) ≤ _) | (show (_ : Nat) < _)); (try simp only [Int.toNat_natCast, List.length_cons, List.length_nil, umax64]); (try dsimp only [D, IK, dz, gT]); omega))
      · exact umax_ok hsh
      refine ⟨loopI (fun t : Nat => { n := 47, t := [(3, .own 0), (6, .own 1), (10, .dat .old gT gates), (11, .val (.int .i64 (↑(List.length gates)))), (12, .val (.int .i64 ↑j)), (26, .dat .old (.i .i64) (gates.getD j gz).2.2.2.2), (27, .val (.int .i64 (↑(List.length (gates.getD j gz).2.2.2.2)))), (28, .val (.int .i64 t))], h := [(0, some (.arr .fr (.i .u64) (varsF (List.take j gates)))), (1, some (.arr .fr (.i .u64) ([1 <<< (gates.getD j gz).2.1.toNat] ++ ((gates.getD j gz).2.2.2.2.take t).map fun a => (varsF (gates.take j)).getD a.toNat 0)))], nx := 2 }) (fun t => (gates.getD j gz).2.2.2.2.length - t) (fun t => Ok (t ≤ (gates.getD j gz).2.2.2.2.length)),
        loopI.start 0 [6] [3, 6, 10, 11, 12, 26, 27, 28] [(3, []), (6, [])] .fr (by (repeat' first | apply And.intro | rfl); exact ⟨Nat.zero_le _⟩), ?_⟩
      rintro _ _ ⟨t, rfl, rfl, ⟨ht⟩⟩
      by_cases htl : t < (gates.getD j gz).2.2.2.2.length
      · have hpa := hap _ (getD_mem (d := 0) htl)
        repeat' first | apply And.intro | (intro h; (cases h; done)) | (intro h; exfalso; simp only [decT, decF, beq_iff_eq, beq_eq_false_iff_ne, ne_eq, Int.toNat_natCast] at h; (try dsimp only [D, IK, dz, gT] at h); first | omega | exact absurd h (by assumption) | exact h (by assumption)) | intro _ | exact True.intro | (show Region.lexB _ _ = true; kernel_rfl) | refine loopI.next (t + 1) [] [3, 6, 10, 11, 12, 26, 27, 28] [(3, []), (6, [])] .fr ?_
        all_goals (try simp only [decT, decF, beq_iff_eq, bne_iff_ne, ne_eq, beq_eq_false_iff_ne, bne_eq_false_iff_eq, Decidable.not_not, Int.toNat_natCast, Bool.not_eq_true', Bool.not_eq_false', Bool.not_eq_true, Bool.not_eq_false, Int.not_lt, Int.not_le] at *; try dsimp only [D, IK, dz] at *)
        all_goals try omega
        · rw [List.length_append, List.length_map, List.length_take]; simp only [List.length_cons, List.length_nil]; omega
        · rw [take_step htl, List.map_append, List.append_assoc, List.map_singleton, getD_lt htl]
        · exact ⟨by omega⟩
      · have hte : t = (gates.getD j gz).2.2.2.2.length := by omega
        have hsg : setG (varsF (gates.take j)) (gates.getD j gz) = orU ([1 <<< (gates.getD j gz).2.1.toNat] ++ ((gates.getD j gz).2.2.2.2.take t).map fun a => (varsF (gates.take j)).getD a.toNat 0) := by
          rw [setG, if_pos h2k, hte, List.take_length]
        have hbb : ∀ x ∈ [1 <<< (gates.getD j gz).2.1.toNat] ++ ((gates.getD j gz).2.2.2.2.take t).map fun a => (varsF (gates.take j)).getD a.toNat 0, x < 256 := by
          intro x hx
          rcases List.mem_append.1 hx with hx | hx
          · rw [List.mem_singleton] at hx; rw [hx]; exact hsh
          · obtain ⟨a, ha, rfl⟩ := List.mem_map.1 hx
            have := hap a (List.mem_of_mem_take ha)
            exact hvl _ (getD_mem (by omega))
        repeat' first | apply And.intro | (intro h; (cases h; done)) | (intro h; exfalso; simp only [decT, decF, beq_iff_eq, beq_eq_false_iff_ne, ne_eq, Int.toNat_natCast] at h; (try dsimp only [D, IK, dz, gT] at h); first | omega | exact absurd h (by assumption) | exact h (by assumption)) | intro _ | exact True.intro | (show Region.lexB _ _ = true; kernel_rfl) | refine CallK.fn [] (joined_fn _ hbb ?_) rfl rfl rfl rfl rfl trivial ?_ | refine loopI.next (j + 1) [] [3, 10, 11, 12] [(3, [])] .fr ?_
        all_goals try simp only [hvn, List.length_append, List.length_map, List.length_take, List.length_cons, List.length_nil]
        all_goals try omega
        all_goals try rfl
        · rw [varsF_take hlt, hsg]
        · exact ⟨by omega⟩
    · repeat' first | apply And.intro | (intro h; (cases h; done)) | (intro h; exfalso; simp only [decT, decF, beq_iff_eq, beq_eq_false_iff_ne, ne_eq, Int.toNat_natCast] at h; (try dsimp only [D, IK, dz, gT] at h); first | omega | exact absurd h (by assumption) | exact h (by assumption)) | intro _ | exact True.intro | (show Region.lexB _ _ = true; kernel_rfl)
      (all_goals try ((first | (show (_ : Int) ≤ _) | (show (_ : Int) < _) | (show (_ : Nat) ≤ _) | (show (_ : Nat) < _)); (try simp only [Int.toNat_natCast, List.length_cons, List.length_nil, umax64]); (try dsimp only [D, IK, dz, gT]); omega))
      refine ⟨loopI (fun t : Nat => { n := 47, t := [(3, .own 0), (6, .own 1), (10, .dat .old gT gates), (11, .val (.int .i64 (↑(List.length gates)))), (12, .val (.int .i64 ↑j)), (26, .dat .old (.i .i64) (gates.getD j gz).2.2.2.2), (27, .val (.int .i64 (↑(List.length (gates.getD j gz).2.2.2.2)))), (28, .val (.int .i64 t))], h := [(0, some (.arr .fr (.i .u64) (varsF (List.take j gates)))), (1, some (.arr .fr (.i .u64) (([] : List Nat) ++ ((gates.getD j gz).2.2.2.2.take t).map fun a => (varsF (gates.take j)).getD a.toNat 0)))], nx := 2 }) (fun t => (gates.getD j gz).2.2.2.2.length - t) (fun t => Ok (t ≤ (gates.getD j gz).2.2.2.2.length)),
        loopI.start 0 [6] [3, 6, 10, 11, 12, 26, 27, 28] [(3, []), (6, [])] .fr (by (repeat' first | apply And.intro | rfl); exact ⟨Nat.zero_le _⟩), ?_⟩
      rintro _ _ ⟨t, rfl, rfl, ⟨ht⟩⟩
      by_cases htl : t < (gates.getD j gz).2.2.2.2.length
      · have hpa := hap _ (getD_mem (d := 0) htl)
        repeat' first | apply And.intro | (intro h; (cases h; done)) | (intro h; exfalso; simp only [decT, decF, beq_iff_eq, beq_eq_false_iff_ne, ne_eq, Int.toNat_natCast] at h; (try dsimp only [D, IK, dz, gT] at h); first | omega | exact absurd h (by assumption) | exact h (by assumption)) | intro _ | exact True.intro | (show Region.lexB _ _ = true; kernel_rfl) | refine loopI.next (t + 1) [] [3, 6, 10, 11, 12, 26, 27, 28] [(3, []), (6, [])] .fr ?_
        all_goals (try simp only [decT, decF, beq_iff_eq, bne_iff_ne, ne_eq, beq_eq_false_iff_ne, bne_eq_false_iff_eq, Decidable.not_not, Int.toNat_natCast, Bool.not_eq_true', Bool.not_eq_false', Bool.not_eq_true, Bool.not_eq_false, Int.not_lt, Int.not_le] at *; try dsimp only [D, IK, dz] at *)
        all_goals try omega
        · rw [List.length_append, List.length_map, List.length_take]; simp only [List.length_cons, List.length_nil]; omega
        · rw [take_step htl, List.map_append, List.append_assoc, List.map_singleton, getD_lt htl]
        · exact ⟨by omega⟩
      · have hte : t = (gates.getD j gz).2.2.2.2.length := by omega
        have hsg : setG (varsF (gates.take j)) (gates.getD j gz) = orU (([] : List Nat) ++ ((gates.getD j gz).2.2.2.2.take t).map fun a => (varsF (gates.take j)).getD a.toNat 0) := by
          rw [setG, if_neg h2k, hte, List.take_length]
        have hbb : ∀ x ∈ ([] : List Nat) ++ ((gates.getD j gz).2.2.2.2.take t).map fun a => (varsF (gates.take j)).getD a.toNat 0, x < 256 := by
          intro x hx
          rcases List.mem_append.1 hx with hx | hx
          · exact absurd hx List.not_mem_nil
          · obtain ⟨a, ha, rfl⟩ := List.mem_map.1 hx
            have := hap a (List.mem_of_mem_take ha)
            exact hvl _ (getD_mem (by omega))
        repeat' first | apply And.intro | (intro h; (cases h; done)) | (intro h; exfalso; simp only [decT, decF, beq_iff_eq, beq_eq_false_iff_ne, ne_eq, Int.toNat_natCast] at h; (try dsimp only [D, IK, dz, gT] at h); first | omega | exact absurd h (by assumption) | exact h (by assumption)) | intro _ | exact True.intro | (show Region.lexB _ _ = true; kernel_rfl) | refine CallK.fn [] (joined_fn _ hbb ?_) rfl rfl rfl rfl rfl trivial ?_ | refine loopI.next (j + 1) [] [3, 10, 11, 12] [(3, [])] .fr ?_
        all_goals try simp only [hvn, List.length_append, List.length_map, List.length_take, List.length_cons, List.length_nil]
        all_goals try omega
        all_goals try rfl
        · rw [varsF_take hlt, hsg]
        · exact ⟨by omega⟩
  · repeat' first | apply And.intro | (intro h; (cases h; done)) | (intro h; exfalso; simp only [decT, decF, beq_iff_eq, beq_eq_false_iff_ne, ne_eq, Int.toNat_natCast] at h; (try dsimp only [D, IK, dz, gT] at h); first | omega | exact absurd h (by assumption) | exact h (by assumption)) | intro _ | exact True.intro | (show Region.lexB _ _ = true; kernel_rfl)
    all_goals try omega
    rw [List.take_of_length_le (by omega)]
end Go.Proofs.Ytbgnnpbcifgckaa
namespace Go.Proofs.Ytbgnnpbcifgckaa
open Go Go.Fw Go.RowKit
set_option maxRecDepth 100000
set_option maxHeartbeats 4000000
/-- Whether a gate has a value other than 0, those of the ones ahead of it given. -/
def nzG (input : List Int) (out : List Bool) (g : Gate) : Bool :=
  if g.1 = 1 then decide (0 < g.2.2.2.1) else if g.1 = 2 then decide (input.getD g.2.1.toNat 0 = g.2.2.1)
  else if g.1 = 4 then g.2.2.2.2.all fun a => out.getD a.toNat false else g.2.2.2.2.any fun a => out.getD a.toNat false
def nzF (input : List Int) (gates : List Gate) : List Bool := gates.foldl (fun out g => out ++ [nzG input out g]) []
theorem nzF_snoc (input : List Int) (gates : List Gate) (g : Gate) : nzF input (gates ++ [g]) = nzF input gates ++ [nzG input (nzF input gates) g] := by simp [nzF]
theorem nzF_len (input : List Int) (gates : List Gate) : (nzF input gates).length = gates.length := by
  unfold nzF
  suffices h : ∀ (gs : List Gate) (o : List Bool), (gs.foldl (fun out g => out ++ [nzG input out g]) o).length = o.length + gs.length by simpa using h gates []
  intro gs
  induction gs with
  | nil => intro o; rfl
  | cons g gs ih => intro o; rw [List.foldl_cons, ih]; simp; omega
theorem nzF_take {input : List Int} {gates : List Gate} {j : Nat} (h : j < gates.length) : nzF input (gates.take (j + 1)) = nzF input (gates.take j) ++ [nzG input (nzF input (gates.take j)) (gates.getD j gz)] := by
  rw [take_step h, nzF_snoc, getD_lt h]
theorem nonzero_fn (cards : List Int) (gates : List Gate) (input : List Int) (hr : rightB cards gates = true) (hin : input.length = cards.length) (hargs : ∀ g ∈ gates, g.2.2.2.2.length ≤ 1000000) : Fw.Fn Try.prog 56 [.agg [.dat .old (.i .i64) cards, .dat .old gT gates], .dat .old (.i .i64) input] [] (.dat .fr .b (nzF input gates)) [] := by
  refine fn_go env_ok mixed Try.func56 (c := Try.f56.body.get rfl) rfl (by kernel_rfl) [] rfl ?_
  repeat' first | apply And.intro | (intro h; (cases h; done)) | intro _ | exact True.intro | (show Region.lexB _ _ = true; kernel_rfl)
  refine ⟨loopI (fun j : Nat => { n := 67, t := [(1, .dat .old (.i .i64) input), (5, .own 0), (13, .dat .old gT gates), (14, .val (.int .i64 (↑(List.length gates)))), (15, .val (.int .i64 j))], h := [(0, some (.arr .fr .b (nzF input (gates.take j))))], nx := 1 }) (fun j => gates.length - j) (fun j => Ok (j ≤ gates.length)),
    loopI.start 0 [5] [1, 5, 13, 14, 15] [(5, [])] .fr (by (repeat' first | apply And.intro | rfl); exact ⟨Nat.zero_le _⟩), ?_⟩
  rintro _ _ ⟨j, rfl, rfl, ⟨hj⟩⟩
  by_cases hlt : j < gates.length
  · have hgk := (right_all hr).2 j hlt
    have hal := hargs _ (getD_mem (d := gz) hlt)
    have hgl := (right_all hr).1
    have hnl : (nzF input (gates.take j)).length = j := by rw [nzF_len, List.length_take]; omega
    have hap : ∀ a ∈ (gates.getD j gz).2.2.2.2, 0 ≤ a ∧ a < j := gate_args hgk
    repeat' first | apply And.intro | (intro h; (cases h; done)) | (intro h; exfalso; simp only [decT, decF, beq_iff_eq, beq_eq_false_iff_ne, ne_eq, Int.toNat_natCast] at h; (try dsimp only [D, IK, dz, gT] at h); first | omega | exact absurd h (by assumption) | exact h (by assumption)) | intro _ | exact True.intro | (show Region.lexB _ _ = true; kernel_rfl)
    (all_goals try ((first | (show (_ : Int) ≤ _) | (show (_ : Int) < _) | (show (_ : Nat) ≤ _) | (show (_ : Nat) < _)); (try simp only [Int.toNat_natCast, List.length_cons, List.length_nil, umax64]); (try dsimp only [D, IK, dz, gT]); omega))
    obtain ⟨out, hout⟩ : ∃ out, out = nzF input (gates.take j) := ⟨_, rfl⟩
    obtain ⟨g, hg⟩ : ∃ g, g = gates.getD j gz := ⟨_, rfl⟩
    refine ⟨loopI (fun t : Nat => { n := 67, t := [(1, .dat .old (.i .i64) input), (5, .own 0), (7, .ptr 1 0), (8, .val (.bool ((g.2.2.2.2.take t).any fun a => out.getD a.toNat false))), (9, .val (.bool ((g.2.2.2.2.take t).all fun a => out.getD a.toNat false))), (13, .dat .old gT gates), (14, .val (.int .i64 (↑(List.length gates)))), (15, .val (.int .i64 ↑j)), (20, .dat .old (.i .i64) g.2.2.2.2), (21, .val (.int .i64 (↑(List.length g.2.2.2.2)))), (22, .val (.int .i64 t))], h := [(0, some (.arr .fr .b out)), (1, some (.cells [.val (.int .i64 g.1), .val (.int .i64 g.2.1), .val (.int .i64 g.2.2.1), .val (.int .i64 g.2.2.2.1), .dat .old (.i .i64) g.2.2.2.2]))], nx := 2 }) (fun t => g.2.2.2.2.length - t) (fun t => Ok (t ≤ g.2.2.2.2.length)),
      loopI.start 0 [] [1, 5, 7, 8, 9, 13, 14, 15, 20, 21, 22] [(5, []), (7, [])] .fr (by rw [hg, hout]; (repeat' first | apply And.intro | rfl); exact ⟨Nat.zero_le _⟩), ?_⟩
    rintro _ _ ⟨t, rfl, rfl, ⟨ht⟩⟩
    rw [← hg] at hgk hal hap
    rw [← hout] at hnl
    have hs := nzF_take (input := input) hlt
    rw [← hout, ← hg] at hs
    have hki0 : g.1 = 2 → 0 ≤ g.2.1 ∧ g.2.1 < cards.length := fun h2 => by obtain ⟨_, g1, g2, _⟩ := isgate hgk h2; exact ⟨g1, g2⟩
    clear hout hg
    by_cases htl : t < g.2.2.2.2.length
    · have hpa := hap _ (getD_mem (d := 0) htl)
      have e1 : (g.2.2.2.2.take (t + 1)).any (fun a => out.getD a.toNat false) = ((g.2.2.2.2.take t).any (fun a => out.getD a.toNat false) || out.getD (g.2.2.2.2.getD t 0).toNat false) := by
        rw [take_step htl, List.any_append, getD_lt htl]; simp
      have e2 : (g.2.2.2.2.take (t + 1)).all (fun a => out.getD a.toNat false) = ((g.2.2.2.2.take t).all (fun a => out.getD a.toNat false) && out.getD (g.2.2.2.2.getD t 0).toNat false) := by
        rw [take_step htl, List.all_append, getD_lt htl]; simp
      repeat' first | apply And.intro | (intro h; (cases h; done)) | (intro h; exfalso; simp only [decT, decF, beq_iff_eq, beq_eq_false_iff_ne, ne_eq, Int.toNat_natCast] at h; (try dsimp only [D, IK, dz, gT] at h); first | omega | exact absurd h (by assumption) | exact h (by assumption)) | intro _ | exact True.intro | (show Region.lexB _ _ = true; kernel_rfl) | refine loopI.next (t + 1) [] [1, 5, 7, 8, 9, 13, 14, 15, 20, 21, 22] [(5, []), (7, [])] .fr ?_
      all_goals (try simp only [decT, decF, beq_iff_eq, bne_iff_ne, ne_eq, beq_eq_false_iff_ne, bne_eq_false_iff_eq, Decidable.not_not, Int.toNat_natCast, Bool.not_eq_true', Bool.not_eq_false', Bool.not_eq_true, Bool.not_eq_false, Int.not_lt, Int.not_le] at *; try dsimp only [D, IK, dz] at *)
      all_goals first | omega | rfl | exact ⟨by omega⟩ | (rw [e1]; simp_all; done) | (rw [e2]; simp_all; done) | (rw [e2, ‹((g.2.2.2.2.take t).all fun a => out.getD a.toNat false) = false›]; rfl)
    · have hte : t = g.2.2.2.2.length := by omega
      have hte' : g.2.2.2.2 = g.2.2.2.2.take t := by rw [hte, List.take_length]
      have hki := hki0
      repeat' first | apply And.intro | (intro h; (cases h; done)) | (intro h; exfalso; simp only [decT, decF, beq_iff_eq, beq_eq_false_iff_ne, ne_eq, Int.toNat_natCast] at h; (try dsimp only [D, IK, dz, gT] at h); first | omega | exact absurd h (by assumption) | exact h (by assumption)) | intro _ | exact True.intro | (show Region.lexB _ _ = true; kernel_rfl) | refine loopI.next (j + 1) [] [1, 5, 13, 14, 15] [(5, [])] .fr ?_
      all_goals (try simp only [decT, decF, beq_iff_eq, bne_iff_ne, ne_eq, beq_eq_false_iff_ne, bne_eq_false_iff_eq, Decidable.not_not, Int.toNat_natCast, Bool.not_eq_true', Bool.not_eq_false', Bool.not_eq_true, Bool.not_eq_false, Int.not_lt, Int.not_le] at *; try dsimp only [D, IK, dz] at *)
      all_goals try simp only [hnl, List.length_cons, List.length_nil]
      all_goals first | omega | rfl | exact ⟨by omega⟩ | skip
      · rw [hs, nzG, if_pos (by assumption)]
      · rw [hs, nzG, if_neg (by assumption), if_pos (by assumption)]; rfl
      · rw [hs, nzG, hte, List.take_length, if_neg (by assumption), if_neg (by assumption), if_pos (by assumption)]
      · rw [hs, nzG, hte, List.take_length, if_neg (by assumption), if_neg (by assumption), if_neg (by assumption)]
  · repeat' first | apply And.intro | (intro h; (cases h; done)) | (intro h; exfalso; simp only [decT, decF, beq_iff_eq, beq_eq_false_iff_ne, ne_eq, Int.toNat_natCast] at h; (try dsimp only [D, IK, dz, gT] at h); first | omega | exact absurd h (by assumption) | exact h (by assumption)) | intro _ | exact True.intro | (show Region.lexB _ _ = true; kernel_rfl)
    (all_goals try ((first | (show (_ : Int) ≤ _) | (show (_ : Int) < _) | (show (_ : Nat) ≤ _) | (show (_ : Nat) < _)); (try simp only [Int.toNat_natCast, List.length_cons, List.length_nil, umax64]); (try dsimp only [D, IK, dz, gT]); omega))
    rw [List.take_of_length_le (by omega)]
end Go.Proofs.Ytbgnnpbcifgckaa
namespace Go.Proofs.Ytbgnnpbcifgckaa
open Go Go.Fw Go.RowKit
set_option maxRecDepth 100000
set_option maxHeartbeats 4000000
/-- Whether a list has a value for each variable. -/
def okA : List Int → List Int → Prop
  | [], [] => True
  | c :: cs, x :: xs => 0 ≤ x ∧ x < c ∧ okA cs xs
  | _, _ => False
/-- The order in which they are gone through: the last place counts most. -/
def less : List Int → List Int → Prop
  | a :: as', x :: xs => less as' xs ∨ (as' = xs ∧ a < x)
  | _, _ => False
def rankA : List Int → List Int → Nat
  | c :: cs, x :: xs => x.toNat + c.toNat * rankA cs xs
  | _, _ => 0
def prodN : List Int → Nat
  | [] => 1
  | c :: cs => c.toNat * prodN cs
theorem okA_len : ∀ {cs xs : List Int}, okA cs xs → xs.length = cs.length
  | [], [], _ => rfl
  | _ :: _, _ :: _, h => by simp [okA_len h.2.2]
  | [], _ :: _, h => h.elim
  | _ :: _, [], h => h.elim
theorem okA_at : ∀ {cs xs : List Int}, okA cs xs → ∀ u, u < cs.length → 0 ≤ xs.getD u 0 ∧ xs.getD u 0 < cs.getD u 0
  | [], [], _, u, h => absurd h (Nat.not_lt_zero _)
  | _ :: _, _ :: _, h, 0, _ => ⟨h.1, h.2.1⟩
  | _ :: _, _ :: _, h, u + 1, hu => by
    rw [List.getD_cons_succ, List.getD_cons_succ]
    exact okA_at h.2.2 u (by simpa using hu)
  | [], _ :: _, h, _, _ => h.elim
  | _ :: _, [], h, _, _ => h.elim
theorem okA_of : ∀ {cs xs : List Int}, xs.length = cs.length → (∀ u, u < cs.length → 0 ≤ xs.getD u 0 ∧ xs.getD u 0 < cs.getD u 0) → okA cs xs
  | [], [], _, _ => trivial
  | _ :: cs, _ :: xs, h, h2 => ⟨(h2 0 (by simp)).1, (h2 0 (by simp)).2, okA_of (by simpa using h) fun u hu => by
    have := h2 (u + 1) (by simpa using hu)
    rwa [List.getD_cons_succ, List.getD_cons_succ] at this⟩
  | [], _ :: _, h, _ => by simp at h
  | _ :: _, [], h, _ => by simp at h
theorem rankA_lt : ∀ {cs xs : List Int}, okA cs xs → rankA cs xs < prodN cs
  | [], [], _ => by simp [rankA, prodN]
  | c :: cs, x :: xs, h => by
    have h1 := rankA_lt h.2.2
    simp only [rankA, prodN]
    have h2 : x.toNat < c.toNat := by have := h.1; have := h.2.1; omega
    calc x.toNat + c.toNat * rankA cs xs < c.toNat + c.toNat * rankA cs xs := by omega
      _ = c.toNat * (rankA cs xs + 1) := by rw [Nat.mul_add, Nat.mul_one]; omega
      _ ≤ c.toNat * prodN cs := Nat.mul_le_mul_left _ h1
  | [], _ :: _, h => h.elim
  | _ :: _, [], h => h.elim
/-- The list behind one, once the first v places are full. -/
def nextA (v : Nat) (x : List Int) : List Int := (List.replicate v 0 ++ x.drop v).set v (x.getD v 0 + 1)
theorem nextA_zero (x : Int) (xs : List Int) : nextA 0 (x :: xs) = (x + 1) :: xs := by simp [nextA]
theorem nextA_succ (v : Nat) (x : Int) (xs : List Int) : nextA (v + 1) (x :: xs) = 0 :: nextA v xs := by
  simp only [nextA, List.replicate_succ, List.cons_append, List.drop_succ_cons, List.set_cons_succ, List.getD_cons_succ]
theorem odo_step : ∀ {cs xs : List Int} {v : Nat}, okA cs xs → v < xs.length → (∀ u, u < v → xs.getD u 0 = cs.getD u 0 - 1) → xs.getD v 0 ≠ cs.getD v 0 - 1 →
    okA cs (nextA v xs) ∧ (∀ a, okA cs a → less a (nextA v xs) → less a xs ∨ a = xs) ∧ rankA cs (nextA v xs) = rankA cs xs + 1
  | [], [], v, _, h, _, _ => absurd h (Nat.not_lt_zero _)
  | [], _ :: _, _, h, _, _, _ => h.elim
  | _ :: _, [], _, h, _, _, _ => h.elim
  | c :: cs, x :: xs, 0, h, _, _, h0 => by
    rw [nextA_zero]
    have h0 : x ≠ c - 1 := h0
    obtain ⟨h1, h2, h3⟩ := h
    refine ⟨⟨by omega, by omega, h3⟩, fun a ha hl => ?_, by simp only [rankA]; omega⟩
    cases a with
    | nil => exact ha.elim
    | cons b a =>
      rcases hl with hl | ⟨rfl, hl⟩
      · exact Or.inl (Or.inl hl)
      · by_cases e : b = x
        · exact Or.inr (by rw [e])
        · exact Or.inl (Or.inr ⟨rfl, by omega⟩)
  | c :: cs, x :: xs, v + 1, h, hv, hu, h0 => by
    rw [nextA_succ]
    have hx : x = c - 1 := hu 0 (Nat.succ_pos _)
    obtain ⟨h1, h2, h3⟩ := h
    obtain ⟨k1, k2, k3⟩ := odo_step (v := v) h3 (by simpa using hv) (fun u hu' => by
      have := hu (u + 1) (by omega)
      rwa [List.getD_cons_succ, List.getD_cons_succ] at this) (by rwa [List.getD_cons_succ, List.getD_cons_succ] at h0)
    refine ⟨⟨Int.le_refl _, by omega, k1⟩, fun a ha hl => ?_, ?_⟩
    · cases a with
      | nil => exact ha.elim
      | cons b a =>
        obtain ⟨a1, a2, a3⟩ := ha
        rcases hl with hl | ⟨_, hl⟩
        · rcases k2 a a3 hl with hl | rfl
          · exact Or.inl (Or.inl hl)
          · by_cases e : b = x
            · exact Or.inr (by rw [e])
            · exact Or.inl (Or.inr ⟨rfl, by omega⟩)
        · omega
    · simp only [rankA, k3]
      rw [Nat.mul_add, Nat.mul_one]
      have : x.toNat + 1 = c.toNat := by omega
      omega
theorem odo_end : ∀ {cs xs : List Int}, okA cs xs → (∀ u, u < xs.length → xs.getD u 0 = cs.getD u 0 - 1) → ∀ a, okA cs a → less a xs ∨ a = xs
  | [], [], _, _, [], _ => Or.inr rfl
  | [], [], _, _, _ :: _, h => h.elim
  | [], _ :: _, h, _, _, _ => h.elim
  | _ :: _, [], h, _, _, _ => h.elim
  | _ :: _, _ :: _, _, _, [], h => h.elim
  | c :: cs, x :: xs, h, hu, b :: a, ha => by
    have hx : x = c - 1 := hu 0 (by simp)
    rcases odo_end h.2.2 (fun u hu' => by
      have := hu (u + 1) (by simpa using hu')
      rwa [List.getD_cons_succ, List.getD_cons_succ] at this) a ha.2.2 with hl | rfl
    · exact Or.inl (Or.inl hl)
    · by_cases e : b = x
      · exact Or.inr (by rw [e])
      · have := ha.2.1
        exact Or.inl (Or.inr ⟨rfl, by omega⟩)
theorem less_zero : ∀ {cs a : List Int} {n : Nat}, okA cs a → ¬ less a (List.replicate n 0)
  | [], [], n, _, h => by cases n <;> exact h
  | [], _ :: _, _, h, _ => h.elim
  | _ :: _, [], _, h, _ => h.elim
  | c :: cs, x :: xs, 0, _, h => h
  | c :: cs, x :: xs, n + 1, h, hl => by
    rcases hl with hl | ⟨_, hl⟩
    · exact less_zero h.2.2 hl
    · have := h.1; omega
theorem okA_zero {cs : List Int} (h : ∀ v, v < cs.length → 1 ≤ cs.getD v 0) : okA cs (List.replicate cs.length 0) := by
  refine okA_of (by simp) fun u hu => ?_
  have := h u hu
  rw [List.getD_eq_getElem?_getD, List.getElem?_replicate, if_pos hu]
  exact ⟨Int.le_refl _, by rw [Option.getD_some]; omega⟩
/-- The number of a sum's arguments that have values other than 0. -/
def onesK (on : List Bool) (g : Gate) (t : Nat) : Nat := if g.1 = 3 then ((g.2.2.2.2.take t).filter fun a => on.getD a.toNat false).length else 0
def oneOK (gates : List Gate) (a : List Int) : Prop := ∀ i, i < gates.length → onesK (nzF a gates) (gates.getD i gz) (gates.getD i gz).2.2.2.2.length ≤ 1
open Classical in
/-- Whether a circuit is deterministic. -/
noncomputable def apartB (cards : List Int) (gates : List Gate) : Bool := decide (∀ a, okA cards a → oneOK gates a)
end Go.Proofs.Ytbgnnpbcifgckaa
namespace Go.Proofs.Ytbgnnpbcifgckaa
open Go Go.Fw Go.RowKit
set_option maxRecDepth 100000
set_option maxHeartbeats 4000000
theorem onesK_zero (on : List Bool) (g : Gate) : ((onesK on g 0 : Nat) : Int) = 0 := by
  unfold onesK; split <;> rfl
theorem onesK_le (on : List Bool) (g : Gate) (t : Nat) : onesK on g t ≤ t := by
  unfold onesK; split
  · exact Nat.le_trans (List.length_filter_le _ _) (by rw [List.length_take]; omega)
  · exact Nat.zero_le _
theorem onesK_step (on : List Bool) (g : Gate) {t : Nat} (h : t < g.2.2.2.2.length) : onesK on g (t + 1) = if g.1 = 3 ∧ on.getD (g.2.2.2.2.getD t 0).toNat false = true then onesK on g t + 1 else onesK on g t := by
  unfold onesK
  by_cases h3 : g.1 = 3
  · rw [if_pos h3, if_pos h3, take_step h, List.filter_append, List.length_append, getD_lt h]
    by_cases ho : on.getD g.2.2.2.2[t].toNat false = true
    · rw [if_pos ⟨h3, ho⟩, List.filter_cons_of_pos (p := fun a : Int => on.getD a.toNat false) ho]; rfl
    · rw [if_neg fun h => ho h.2, List.filter_cons_of_neg (p := fun a : Int => on.getD a.toNat false) ho]; rfl
  · rw [if_neg h3, if_neg h3, if_neg fun h => h3 h.1]
theorem apartB_false {cards : List Int} {gates : List Gate} {x : List Int} {j : Nat} (hx : okA cards x) (hj : j < gates.length) (h : 1 < onesK (nzF x gates) (gates.getD j gz) (gates.getD j gz).2.2.2.2.length) : apartB cards gates = false := by
  unfold apartB
  refine @decide_eq_false _ (_) fun ha => ?_
  have := ha x hx j hj
  omega
theorem apartB_true {cards : List Int} {gates : List Gate} (h : ∀ a, okA cards a → oneOK gates a) : apartB cards gates = true := by
  unfold apartB
  exact @decide_eq_true _ (_) h
theorem zL_at {x : List Int} {v : Nat} (h : v < x.length) : (List.replicate v (0 : Int) ++ x.drop v).getD v 0 = x.getD v 0 := by
  rw [List.getD_eq_getElem?_getD, List.getElem?_append_right (by rw [List.length_replicate]; exact Nat.le_refl _), List.length_replicate, Nat.sub_self, List.getElem?_drop, Nat.add_zero, List.getD_eq_getElem?_getD]
theorem zL_set {x : List Int} {v : Nat} (h : v < x.length) : (List.replicate v (0 : Int) ++ x.drop v).set v 0 = List.replicate (v + 1) 0 ++ x.drop (v + 1) := by
  rw [List.set_append_right _ _ (by rw [List.length_replicate]; exact Nat.le_refl _), List.length_replicate, Nat.sub_self, List.drop_eq_getElem_cons h, List.set_cons_zero, List.replicate_succ', List.append_assoc]; rfl
theorem apart_fn (cards : List Int) (gates : List Gate) (hr : rightB cards gates = true) (hargs : ∀ g ∈ gates, g.2.2.2.2.length ≤ 1000000) : Fw.Fn Try.prog 40 [.agg [.dat .old (.i .i64) cards, .dat .old gT gates]] [] (.val (.bool (apartB cards gates))) [] := by
  obtain ⟨h8, hcc⟩ := cards_ok hr
  have hgl := (right_all hr).1
  refine fn_go env_ok mixed Try.func40 (c := Try.f40.body.get rfl) rfl (by kernel_rfl) [] rfl ?_
  repeat' first | apply And.intro | (intro h; (cases h; done)) | (intro h; exfalso; simp only [decT, decF, beq_iff_eq, beq_eq_false_iff_ne, ne_eq, Int.toNat_natCast] at h; (try dsimp only [D, IK, dz, gT] at h); first | omega | exact absurd h (by assumption) | exact h (by assumption)) | intro _ | exact True.intro | (show Region.lexB _ _ = true; kernel_rfl)
  (all_goals try ((first | (show (_ : Int) ≤ _) | (show (_ : Int) < _) | (show (_ : Nat) ≤ _) | (show (_ : Nat) < _)); (try simp only [Int.toNat_natCast, List.length_cons, List.length_nil, umax64]); (try dsimp only [D, IK, dz, gT]); omega))
  refine ⟨loopI (fun x : List Int => { n := 79, t := [(1, .ptr 0 0), (3, .own 1)], h := [(0, some (.cells [.dat .old (.i .i64) cards, .dat .old gT gates])), (1, some (.arr .fr (.i .i64) x))], nx := 2 }) (fun x => prodN cards - rankA cards x) (fun x => Ok (okA cards x ∧ ∀ a, okA cards a → less a x → oneOK gates a)),
    loopI.start (List.replicate cards.length 0) [] [1, 3] [(1, []), (3, [])] .fr (by (repeat' first | apply And.intro | rfl) <;> exact ⟨okA_zero fun v hv => (hcc v hv).1, fun a ha hl => (less_zero ha hl).elim⟩), ?_⟩
  rintro _ _ ⟨x, rfl, rfl, ⟨hxo, hdone⟩⟩
  have hxl := okA_len hxo
  repeat' first | apply And.intro | (intro h; (cases h; done)) | (intro h; exfalso; simp only [decT, decF, beq_iff_eq, beq_eq_false_iff_ne, ne_eq, Int.toNat_natCast] at h; (try dsimp only [D, IK, dz, gT] at h); first | omega | exact absurd h (by assumption) | exact h (by assumption)) | intro _ | exact True.intro | (show Region.lexB _ _ = true; kernel_rfl) | refine CallK.fn [] (nonzero_fn cards gates x hr hxl hargs) rfl rfl rfl rfl rfl trivial ?_
  have hol := nzF_len x gates
  obtain ⟨on, hon⟩ : ∃ on, on = nzF x gates := ⟨_, rfl⟩
  refine ⟨loopI (fun j : Nat => { n := 79, t := [(1, .ptr 0 0), (3, .own 1), (4, .dat .fr .b on), (19, .dat .old gT gates), (20, .val (.int .i64 (↑(List.length gates)))), (21, .val (.int .i64 j))], h := [(0, some (.cells [.dat .old (.i .i64) cards, .dat .old gT gates])), (1, some (.arr .fr (.i .i64) x))], nx := 2 }) (fun j => gates.length - j) (fun j => Ok (j ≤ gates.length ∧ ∀ i, i < j → onesK on (gates.getD i gz) (gates.getD i gz).2.2.2.2.length ≤ 1)),
    loopI.start 0 [] [1, 3, 4, 19, 20, 21] [(1, []), (3, [])] .fr (by rw [hon]; (repeat' first | apply And.intro | rfl); exact ⟨Nat.zero_le _, fun i hi => absurd hi (Nat.not_lt_zero i)⟩), ?_⟩
  rintro _ _ ⟨j, rfl, rfl, ⟨hj, hones⟩⟩
  rw [← hon] at hol
  by_cases hlt : j < gates.length
  · have hgk := (right_all hr).2 j hlt
    have hal := hargs _ (getD_mem (d := gz) hlt)
    have hap : ∀ a ∈ (gates.getD j gz).2.2.2.2, 0 ≤ a ∧ a < j := gate_args hgk
    repeat' first | apply And.intro | (intro h; (cases h; done)) | (intro h; exfalso; simp only [decT, decF, beq_iff_eq, beq_eq_false_iff_ne, ne_eq, Int.toNat_natCast] at h; (try dsimp only [D, IK, dz, gT] at h); first | omega | exact absurd h (by assumption) | exact h (by assumption)) | intro _ | exact True.intro | (show Region.lexB _ _ = true; kernel_rfl)
    (all_goals try ((first | (show (_ : Int) ≤ _) | (show (_ : Int) < _) | (show (_ : Nat) ≤ _) | (show (_ : Nat) < _)); (try simp only [Int.toNat_natCast, List.length_cons, List.length_nil, umax64]); (try dsimp only [D, IK, dz, gT]); omega))
    obtain ⟨g, hg⟩ : ∃ g, g = gates.getD j gz := ⟨_, rfl⟩
    refine ⟨loopI (fun t : Nat => { n := 79, t := [(1, .ptr 0 0), (3, .own 1), (4, .dat .fr .b on), (6, .ptr 2 0), (7, .val (.int .i64 (onesK on g t))), (19, .dat .old gT gates), (20, .val (.int .i64 (↑(List.length gates)))), (21, .val (.int .i64 ↑j)), (26, .dat .old (.i .i64) g.2.2.2.2), (27, .val (.int .i64 (↑(List.length g.2.2.2.2)))), (28, .val (.int .i64 t))], h := [(0, some (.cells [.dat .old (.i .i64) cards, .dat .old gT gates])), (1, some (.arr .fr (.i .i64) x)), (2, some (.cells [.val (.int .i64 g.1), .val (.int .i64 g.2.1), .val (.int .i64 g.2.2.1), .val (.int .i64 g.2.2.2.1), .dat .old (.i .i64) g.2.2.2.2]))], nx := 3 }) (fun t => g.2.2.2.2.length - t) (fun t => Ok (t ≤ g.2.2.2.2.length)),
      loopI.start 0 [] [1, 3, 4, 6, 7, 19, 20, 21, 26, 27, 28] [(1, []), (3, []), (6, [])] .fr (by rw [hg]; (repeat' first | apply And.intro | rfl) <;> first | exact (onesK_zero _ _).symm | exact ⟨Nat.zero_le _⟩), ?_⟩
    rintro _ _ ⟨t, rfl, rfl, ⟨ht⟩⟩
    rw [← hg] at hgk hal hap
    have hb := onesK_le on g t
    by_cases htl : t < g.2.2.2.2.length
    · have hpa := hap _ (getD_mem (d := 0) htl)
      have hstep := onesK_step on g htl
      repeat' first | apply And.intro | (intro h; (cases h; done)) | (intro h; exfalso; simp only [decT, decF, beq_iff_eq, beq_eq_false_iff_ne, ne_eq, Int.toNat_natCast] at h; (try dsimp only [D, IK, dz, gT] at h); first | omega | exact absurd h (by assumption) | exact h (by assumption)) | intro _ | exact True.intro | (show Region.lexB _ _ = true; kernel_rfl) | refine loopI.next (t + 1) [] [1, 3, 4, 6, 7, 19, 20, 21, 26, 27, 28] [(1, []), (3, []), (6, [])] .fr ?_
      all_goals (try simp only [decT, decF, beq_iff_eq, bne_iff_ne, ne_eq, beq_eq_false_iff_ne, bne_eq_false_iff_eq, Decidable.not_not, Int.toNat_natCast, Bool.not_eq_true', Bool.not_eq_false', Bool.not_eq_true, Bool.not_eq_false, Int.not_lt, Int.not_le] at *; try dsimp only [D, IK, dz] at *)
      all_goals first | omega | rfl | exact ⟨by omega⟩ | skip
      · rw [hstep, if_pos ⟨by assumption, by assumption⟩]; rfl
      · rw [hstep, if_neg (by rintro ⟨_, h⟩; simp_all)]
      · rw [hstep, if_neg (by rintro ⟨h, _⟩; simp_all)]
    · have hte : t = g.2.2.2.2.length := by omega
      repeat' first | apply And.intro | (intro h; (cases h; done)) | (intro h; exfalso; simp only [decT, decF, beq_iff_eq, beq_eq_false_iff_ne, ne_eq, Int.toNat_natCast] at h; (try dsimp only [D, IK, dz, gT] at h); first | omega | exact absurd h (by assumption) | exact h (by assumption)) | intro _ | exact True.intro | (show Region.lexB _ _ = true; kernel_rfl) | refine loopI.next (j + 1) [] [1, 3, 4, 19, 20, 21] [(1, []), (3, [])] .fr ?_
      all_goals (try simp only [decT, decF, beq_iff_eq, bne_iff_ne, ne_eq, beq_eq_false_iff_ne, bne_eq_false_iff_eq, Decidable.not_not, Int.toNat_natCast, Bool.not_eq_true', Bool.not_eq_false', Bool.not_eq_true, Bool.not_eq_false, Int.not_lt, Int.not_le] at *; try dsimp only [D, IK, dz] at *)
      all_goals first | omega | rfl | skip
      · have hgt : 1 < onesK on g g.2.2.2.2.length := by rw [← hte]; omega
        exact (apartB_false hxo hlt (by rw [← hon, ← hg]; exact hgt)).symm
      · exact ⟨by omega, fun i hi => by
          by_cases e : i = j
          · subst e; rw [← hg, ← hte]; omega
          · exact hones i (by omega)⟩
  · repeat' first | apply And.intro | (intro h; (cases h; done)) | (intro h; exfalso; simp only [decT, decF, beq_iff_eq, beq_eq_false_iff_ne, ne_eq, Int.toNat_natCast] at h; (try dsimp only [D, IK, dz, gT] at h); first | omega | exact absurd h (by assumption) | exact h (by assumption)) | intro _ | exact True.intro | (show Region.lexB _ _ = true; kernel_rfl)
    (all_goals try ((first | (show (_ : Int) ≤ _) | (show (_ : Int) < _) | (show (_ : Nat) ≤ _) | (show (_ : Nat) < _)); (try simp only [Int.toNat_natCast, List.length_cons, List.length_nil, umax64]); (try dsimp only [D, IK, dz, gT]); omega))
    refine ⟨loopI (fun v : Nat => { n := 79, t := [(1, .ptr 0 0), (3, .own 1), (10, .val (.int .i64 v))], h := [(0, some (.cells [.dat .old (.i .i64) cards, .dat .old gT gates])), (1, some (.arr .fr (.i .i64) (List.replicate v 0 ++ x.drop v)))], nx := 2 }) (fun v => x.length - v) (fun v => Ok (v ≤ x.length ∧ ∀ u, u < v → x.getD u 0 = cards.getD u 0 - 1)),
      loopI.start 0 [] [1, 3, 10] [(1, []), (3, [])] .fr (by (repeat' first | apply And.intro | rfl); exact ⟨Nat.zero_le _, fun u hu => absurd hu (Nat.not_lt_zero u)⟩), ?_⟩
    rintro _ _ ⟨v, rfl, rfl, ⟨hv, hfull⟩⟩
    have hone : oneOK gates x := fun i hi => hon ▸ hones i (by omega)
    have hzl : (List.replicate v (0 : Int) ++ x.drop v).length = x.length := by rw [List.length_append, List.length_replicate, List.length_drop]; omega
    by_cases hvl : v < x.length
    · have hzv := zL_at hvl
      have hxv := okA_at hxo v (by omega)
      have hcv := hcc v (by omega)
      by_cases hf : x.getD v 0 = cards.getD v 0 - 1
      · repeat' first | apply And.intro | (intro h; (cases h; done)) | (intro h; exfalso; simp only [decT, decF, beq_iff_eq, beq_eq_false_iff_ne, ne_eq, Int.toNat_natCast] at h; (try dsimp only [D, IK, dz, gT] at h); first | omega | exact absurd h (by assumption) | exact h (by assumption)) | intro _ | exact True.intro | (show Region.lexB _ _ = true; kernel_rfl) | refine loopI.next (v + 1) [] [1, 3, 10] [(1, []), (3, [])] .fr ?_
        all_goals (try simp only [decT, decF, beq_iff_eq, bne_iff_ne, ne_eq, beq_eq_false_iff_ne, bne_eq_false_iff_eq, Decidable.not_not, Int.toNat_natCast, Bool.not_eq_true', Bool.not_eq_false', Bool.not_eq_true, Bool.not_eq_false, Int.not_lt, Int.not_le] at *; try dsimp only [D, IK, dz] at *)
        all_goals first | omega | rfl | skip
        · exact zL_set hvl
        · exact ⟨by omega, fun u hu => by
            by_cases e : u = v
            · rw [e]; exact hf
            · exact hfull u (by omega)⟩
      · obtain ⟨k1, k2, k3⟩ := odo_step hxo hvl hfull hf
        repeat' first | apply And.intro | (intro h; (cases h; done)) | (intro h; exfalso; simp only [decT, decF, beq_iff_eq, beq_eq_false_iff_ne, ne_eq, Int.toNat_natCast] at h; (try dsimp only [D, IK, dz, gT] at h); first | omega | exact absurd h (by assumption) | exact h (by assumption)) | intro _ | exact True.intro | (show Region.lexB _ _ = true; kernel_rfl) | refine loopI.next (nextA v x) [] [1, 3] [(1, []), (3, [])] .fr ?_
        all_goals (try simp only [decT, decF, beq_iff_eq, bne_iff_ne, ne_eq, beq_eq_false_iff_ne, bne_eq_false_iff_eq, Decidable.not_not, Int.toNat_natCast, Bool.not_eq_true', Bool.not_eq_false', Bool.not_eq_true, Bool.not_eq_false, Int.not_lt, Int.not_le] at *; try dsimp only [D, IK, dz] at *)
        all_goals first | omega | rfl | skip
        · rw [hzv]; rfl
        · have := rankA_lt hxo; omega
        · exact ⟨k1, fun a ha hl => by
            rcases k2 a ha hl with h | rfl
            · exact hdone a ha h
            · exact hone⟩
    · have hve : v = x.length := by omega
      repeat' first | apply And.intro | (intro h; (cases h; done)) | (intro h; exfalso; simp only [decT, decF, beq_iff_eq, beq_eq_false_iff_ne, ne_eq, Int.toNat_natCast] at h; (try dsimp only [D, IK, dz, gT] at h); first | omega | exact absurd h (by assumption) | exact h (by assumption)) | intro _ | exact True.intro | (show Region.lexB _ _ = true; kernel_rfl)
      all_goals (try simp only [decT, decF, beq_iff_eq, bne_iff_ne, ne_eq, beq_eq_false_iff_ne, bne_eq_false_iff_eq, Decidable.not_not, Int.toNat_natCast, Bool.not_eq_true', Bool.not_eq_false', Bool.not_eq_true, Bool.not_eq_false, Int.not_lt, Int.not_le] at *; try dsimp only [D, IK, dz] at *)
      all_goals first | omega | rfl | skip
      · refine (apartB_true fun a ha => ?_).symm
        rcases odo_end hxo (fun u hu => hfull u (by omega)) a ha with h | rfl
        · exact hdone a ha h
        · exact hone
end Go.Proofs.Ytbgnnpbcifgckaa
namespace Go.Proofs.Ytbgnnpbcifgckaa
open Go Go.Fw Go.RowKit
set_option maxRecDepth 100000
set_option maxHeartbeats 4000000
/-- Whether the first arguments of a sum have the variables of the first one. -/
def smA (vars : List Nat) (g : Gate) (t : Nat) : Bool := (g.2.2.2.2.take t).all fun a => !(decide (g.1 = 3) && (vars.getD a.toNat 0 != vars.getD (g.2.2.2.2.getD 0 0).toNat 0))
def seenA (vars : List Nat) (g : Gate) (t : Nat) : Nat := orU ((g.2.2.2.2.take t).map fun a => vars.getD a.toNat 0)
/-- Whether the first arguments of a product have no variable in common. -/
def dcA (vars : List Nat) (g : Gate) (t : Nat) : Bool := (List.range t).all fun k => !(decide (g.1 = 4) && ((vars.getD (g.2.2.2.2.getD k 0).toNat 0 &&& seenA vars g k) != 0))
def smF (vars : List Nat) (gates : List Gate) (j : Nat) : Bool := (List.range j).all fun i => smA vars (gates.getD i gz) (gates.getD i gz).2.2.2.2.length
def dcF (vars : List Nat) (gates : List Gate) (j : Nat) : Bool := (List.range j).all fun i => dcA vars (gates.getD i gz) (gates.getD i gz).2.2.2.2.length
theorem all_range_succ (f : Nat → Bool) (j : Nat) : (List.range (j + 1)).all f = ((List.range j).all f && f j) := by
  rw [List.range_succ, List.all_append]; simp
theorem smA_step (vars : List Nat) (g : Gate) {t : Nat} (h : t < g.2.2.2.2.length) : smA vars g (t + 1) = (smA vars g t && !(decide (g.1 = 3) && (vars.getD (g.2.2.2.2.getD t 0).toNat 0 != vars.getD (g.2.2.2.2.getD 0 0).toNat 0))) := by
  unfold smA
  rw [take_step h, List.all_append, getD_lt h]; simp
theorem dcA_step (vars : List Nat) (g : Gate) (t : Nat) : dcA vars g (t + 1) = (dcA vars g t && !(decide (g.1 = 4) && ((vars.getD (g.2.2.2.2.getD t 0).toNat 0 &&& seenA vars g t) != 0))) := by
  unfold dcA
  rw [all_range_succ]
theorem sm_no {k : Int} {x y : Nat} {a b : Bool} (h : ¬ k = 3 ∨ x = y) : (a && (b && !(decide (k = 3) && (x != y)))) = (a && b) := by
  rcases h with h | h
  · rw [decide_eq_false h]; simp
  · rw [h]; simp
theorem sm_yes {k : Int} {x y : Nat} {a b : Bool} (h : k = 3) (h2 : ¬ x = y) : (a && (b && !(decide (k = 3) && (x != y)))) = false := by
  rw [decide_eq_true h, bne_iff_ne.2 h2]; simp
theorem dc_no {k : Int} {x : Nat} {a b : Bool} (h : ¬ k = 4 ∨ x = 0) : (a && (b && !(decide (k = 4) && (x != 0)))) = (a && b) := by
  rcases h with h | h
  · rw [decide_eq_false h]; simp
  · rw [h]; simp
theorem dc_yes {k : Int} {x : Nat} {a b : Bool} (h : k = 4) (h2 : ¬ x = 0) : (a && (b && !(decide (k = 4) && (x != 0)))) = false := by
  rw [decide_eq_true h, bne_iff_ne.2 h2]; simp
theorem seenA_step (vars : List Nat) (g : Gate) {t : Nat} (h : t < g.2.2.2.2.length) : seenA vars g (t + 1) = seenA vars g t ||| vars.getD (g.2.2.2.2.getD t 0).toNat 0 := by
  unfold seenA
  rw [take_step h, List.map_append, List.map_singleton, orU_snoc, getD_lt h]
theorem getD_lt256 {vars : List Nat} (h : ∀ x ∈ vars, x < 256) (i : Nat) : vars.getD i 0 < 256 := by
  rcases Nat.lt_or_ge i vars.length with hi | hi
  · exact h _ (getD_mem hi)
  · rw [List.getD_eq_getElem?_getD, List.getElem?_eq_none hi]; exact (by decide : (0 : Nat) < 256)
theorem seenA_lt {vars : List Nat} (h : ∀ x ∈ vars, x < 256) (g : Gate) (t : Nat) : seenA vars g t < 256 := by
  refine orU_lt fun x hx => ?_
  obtain ⟨a, _, rfl⟩ := List.mem_map.1 hx
  exact getD_lt256 h _
section
variable (cards : List Int) (gates : List Gate) (hl : gates.length ≤ 4611686018427387903) (hc : cards.length ≤ 4611686018427387903) (hargs : ∀ g ∈ gates, g.2.2.2.2.length ≤ 1000000)
include hl hc hargs in
theorem kinds_no (h : rightB cards gates = false) : Fw.Fn Try.prog 13 [.agg [.dat .old (.i .i64) cards, .dat .old gT gates]] [] (.tup [.val (.bool false), .val (.bool false), .val (.bool false), .val (.int .i64 150)]) [] := by
  have hv := valid_fn cards gates hc hl fun g hg => by have := hargs g hg; omega
  rw [h] at hv
  refine fn_go env_ok mixed Try.func13 (c := Try.f13.body.get rfl) rfl (by kernel_rfl) [] rfl ?_
  repeat' first | apply And.intro | (intro h; (cases h; done)) | intro _ | exact True.intro | (show Region.lexB _ _ = true; kernel_rfl) | refine CallK.fn [] hv rfl rfl rfl rfl rfl trivial ?_
  all_goals rfl
include hl hc hargs in
theorem kinds_fn (h : rightB cards gates = true) : Fw.Fn Try.prog 13 [.agg [.dat .old (.i .i64) cards, .dat .old gT gates]] [] (.tup [.val (.bool (smF (varsF gates) gates gates.length)), .val (.bool (dcF (varsF gates) gates gates.length)), .val (.bool (apartB cards gates)), .val (.int .i64 0)]) [] := by
  have hv := valid_fn cards gates hc hl fun g hg => by have := hargs g hg; omega
  rw [h] at hv
  have hgl := (right_all h).1
  have hvn := varsF_len gates
  have hvl := varsF_lt h
  refine fn_go env_ok mixed Try.func13 (c := Try.f13.body.get rfl) rfl (by kernel_rfl) [] rfl ?_
  repeat' first | apply And.intro | (intro h; (cases h; done)) | intro _ | exact True.intro | (show Region.lexB _ _ = true; kernel_rfl) | refine CallK.fn [] hv rfl rfl rfl rfl rfl trivial ?_ | refine CallK.fn [] (variables_fn cards gates h hargs) rfl rfl rfl rfl rfl trivial ?_
  obtain ⟨vars, hva⟩ : ∃ vars, vars = varsF gates := ⟨_, rfl⟩
  refine ⟨loopI (fun j : Nat => { n := 72, t := [(1, .ptr 0 0), (2, .val (.bool (smF vars gates j))), (3, .val (.bool (dcF vars gates j))), (6, .dat .fr (.i .u64) vars), (18, .dat .old gT gates), (19, .val (.int .i64 (↑(List.length gates)))), (20, .val (.int .i64 j))], h := [(0, some (.cells [.dat .old (.i .i64) cards, .dat .old gT gates]))], nx := 1 }) (fun j => gates.length - j) (fun j => Ok (j ≤ gates.length)),
    loopI.start 0 [] [1, 2, 3, 6, 18, 19, 20] [(1, [])] .fr (by rw [hva]; (repeat' first | apply And.intro | rfl); exact ⟨Nat.zero_le _⟩), ?_⟩
  rintro _ _ ⟨j, rfl, rfl, ⟨hj⟩⟩
  rw [← hva] at hvn hvl ⊢
  by_cases hlt : j < gates.length
  · have hgk := (right_all h).2 j hlt
    have hal := hargs _ (getD_mem (d := gz) hlt)
    have hap : ∀ a ∈ (gates.getD j gz).2.2.2.2, 0 ≤ a ∧ a < j := gate_args hgk
    have hsj : smF vars gates (j + 1) = (smF vars gates j && smA vars (gates.getD j gz) (gates.getD j gz).2.2.2.2.length) := all_range_succ _ j
    have hdj : dcF vars gates (j + 1) = (dcF vars gates j && dcA vars (gates.getD j gz) (gates.getD j gz).2.2.2.2.length) := all_range_succ _ j
    repeat' first | apply And.intro | (intro h; (cases h; done)) | (intro h; exfalso; simp only [decT, decF, beq_iff_eq, beq_eq_false_iff_ne, ne_eq, Int.toNat_natCast] at h; (try dsimp only [D, IK, dz, gT] at h); first | omega | exact absurd h (by assumption) | exact h (by assumption)) | intro _ | exact True.intro | (show Region.lexB _ _ = true; kernel_rfl)
    (all_goals try ((first | (show (_ : Int) ≤ _) | (show (_ : Int) < _) | (show (_ : Nat) ≤ _) | (show (_ : Nat) < _)); (try simp only [Int.toNat_natCast, List.length_cons, List.length_nil, umax64]); (try dsimp only [D, IK, dz, gT]); omega))
    obtain ⟨g, hg⟩ : ∃ g, g = gates.getD j gz := ⟨_, rfl⟩
    refine ⟨loopI (fun t : Nat => { n := 72, t := [(1, .ptr 0 0), (2, .val (.bool (smF vars gates j && smA vars g t))), (3, .val (.bool (dcF vars gates j && dcA vars g t))), (6, .dat .fr (.i .u64) vars), (8, .ptr 1 0), (9, .un .u64 (seenA vars g t)), (18, .dat .old gT gates), (19, .val (.int .i64 (↑(List.length gates)))), (20, .val (.int .i64 ↑j)), (25, .dat .old (.i .i64) g.2.2.2.2), (26, .val (.int .i64 (↑(List.length g.2.2.2.2)))), (27, .val (.int .i64 t))], h := [(0, some (.cells [.dat .old (.i .i64) cards, .dat .old gT gates])), (1, some (.cells [.val (.int .i64 g.1), .val (.int .i64 g.2.1), .val (.int .i64 g.2.2.1), .val (.int .i64 g.2.2.2.1), .dat .old (.i .i64) g.2.2.2.2]))], nx := 2 }) (fun t => g.2.2.2.2.length - t) (fun t => Ok (t ≤ g.2.2.2.2.length)),
      loopI.start 0 [] [1, 2, 3, 6, 8, 9, 18, 19, 20, 25, 26, 27] [(1, []), (8, [])] .fr (by rw [hg]; (repeat' first | apply And.intro | rfl) <;> first | exact (Bool.and_true _).symm | exact ⟨Nat.zero_le _⟩), ?_⟩
    rintro _ _ ⟨t, rfl, rfl, ⟨ht⟩⟩
    rw [← hg] at hgk hal hap hsj hdj
    have hse := seenA_lt hvl g t
    by_cases htl : t < g.2.2.2.2.length
    · have hpa := hap _ (getD_mem (d := 0) htl)
      have hp0 := hap _ (getD_mem (l := g.2.2.2.2) (v := 0) (d := 0) (by omega))
      have e1 := smA_step vars g htl
      have e2 := dcA_step vars g t
      have e3 := seenA_step vars g htl
      have hv1 := getD_lt256 hvl (g.2.2.2.2.getD t 0).toNat
      repeat' first | apply And.intro | (intro h; (cases h; done)) | (intro h; exfalso; simp only [decT, decF, beq_iff_eq, beq_eq_false_iff_ne, ne_eq, Int.toNat_natCast] at h; (try dsimp only [D, IK, dz, gT] at h); first | omega | exact absurd h (by assumption) | exact h (by assumption)) | intro _ | exact True.intro | (show Region.lexB _ _ = true; kernel_rfl) | refine loopI.next (t + 1) [] [1, 2, 3, 6, 8, 9, 18, 19, 20, 25, 26, 27] [(1, []), (8, [])] .fr ?_
      all_goals (try simp only [decT, decF, beq_iff_eq, bne_iff_ne, ne_eq, beq_eq_false_iff_ne, bne_eq_false_iff_eq, Decidable.not_not, Int.toNat_natCast, Bool.not_eq_true', Bool.not_eq_false', Bool.not_eq_true, Bool.not_eq_false, Int.not_lt, Int.not_le] at *; try dsimp only [D, IK, dz] at *)
      all_goals first | omega | rfl | exact ⟨by omega⟩ | exact umax_ok hse | exact umax_ok hv1 | exact hp0.1 | exact (show (g.2.2.2.2.getD 0 0 < (vars.length : Int)) by omega) | skip
      all_goals first | (rw [e1, sm_no (Or.inl (by assumption))]; done) | (rw [e1, sm_no (Or.inr (by assumption))]; done) | (rw [e1, sm_yes (by assumption) (by assumption)]; done) | (rw [e2, dc_no (Or.inl (by assumption))]; done) | (rw [e2, dc_no (Or.inr (by assumption))]; done) | (rw [e2, dc_yes (by assumption) (by assumption)]; done) | (rw [e2, dc_no (Or.inl (by omega))]; done) | skip
    · have hte : t = g.2.2.2.2.length := by omega
      repeat' first | apply And.intro | (intro h; (cases h; done)) | (intro h; exfalso; simp only [decT, decF, beq_iff_eq, beq_eq_false_iff_ne, ne_eq, Int.toNat_natCast] at h; (try dsimp only [D, IK, dz, gT] at h); first | omega | exact absurd h (by assumption) | exact h (by assumption)) | intro _ | exact True.intro | (show Region.lexB _ _ = true; kernel_rfl) | refine loopI.next (j + 1) [] [1, 2, 3, 6, 18, 19, 20] [(1, [])] .fr ?_
      all_goals (try simp only [decT, decF, beq_iff_eq, bne_iff_ne, ne_eq, beq_eq_false_iff_ne, bne_eq_false_iff_eq, Decidable.not_not, Int.toNat_natCast, Bool.not_eq_true', Bool.not_eq_false', Bool.not_eq_true, Bool.not_eq_false, Int.not_lt, Int.not_le] at *; try dsimp only [D, IK, dz] at *)
      all_goals first | omega | rfl | exact ⟨by omega⟩ | (rw [hsj, hte]; done) | (rw [hdj, hte]; done)
  · have hje : j = gates.length := by omega
    repeat' first | apply And.intro | (intro h; (cases h; done)) | (intro h; exfalso; simp only [decT, decF, beq_iff_eq, beq_eq_false_iff_ne, ne_eq, Int.toNat_natCast] at h; (try dsimp only [D, IK, dz, gT] at h); first | omega | exact absurd h (by assumption) | exact h (by assumption)) | intro _ | exact True.intro | (show Region.lexB _ _ = true; kernel_rfl) | refine CallK.fn [] (apart_fn cards gates h hargs) rfl rfl rfl rfl rfl trivial ?_
    all_goals (try simp only [decT, decF, beq_iff_eq, bne_iff_ne, ne_eq, beq_eq_false_iff_ne, bne_eq_false_iff_eq, Decidable.not_not, Int.toNat_natCast, Bool.not_eq_true', Bool.not_eq_false', Bool.not_eq_true, Bool.not_eq_false, Int.not_lt, Int.not_le] at *; try dsimp only [D, IK, dz] at *)
    all_goals first | omega | rfl | rw [hje]
end
end Go.Proofs.Ytbgnnpbcifgckaa
namespace Go.Proofs.Ytbgnnpbcifgckaa
open Go Go.Fw Go.RowKit
set_option maxRecDepth 100000
set_option maxHeartbeats 4000000
theorem list_ext0 {α : Type} {d : α} {a b : List α} (h : a.length = b.length) (h2 : ∀ i, i < a.length → a.getD i d = b.getD i d) : a = b := by
  refine List.ext_getElem h fun i h1 h3 => ?_
  have := h2 i h1
  rwa [getD_lt h1, getD_lt h3] at this
theorem same_fn (a b : List Int) (ha : a.length ≤ 4611686018427387903) : Fw.Fn Try.prog 51 [.dat .old (.i .i64) a, .dat .old (.i .i64) b] [] (.val (.bool (decide (a = b)))) [] := by
  refine fn_go env_ok mixed Try.func51 (c := Try.f51.body.get rfl) rfl (by kernel_rfl) [] rfl ?_
  repeat' first | apply And.intro | (intro h; (cases h; done)) | intro _ | exact True.intro | (show Region.lexB _ _ = true; kernel_rfl)
  · rename_i h
    (try simp only [decT, decF, beq_iff_eq, bne_iff_ne, ne_eq, beq_eq_false_iff_ne, bne_eq_false_iff_eq, Decidable.not_not, Int.toNat_natCast, Bool.not_eq_true', Bool.not_eq_false', Bool.not_eq_true, Bool.not_eq_false, Int.not_lt, Int.not_le] at *; try dsimp only [D, IK, dz] at *)
    have : ¬ a = b := fun e => h (by rw [e])
    rw [decide_eq_false this]
  · rename_i h
    have hl : a.length = b.length := by
      have : (a.length : Int) = b.length := by simpa using h
      omega
    refine ⟨loopI (fun j : Nat => { n := 26, t := [(0, .dat .old (.i .i64) a), (1, .dat .old (.i .i64) b), (5, .val (.int .i64 j))], h := [], nx := 0 }) (fun j => a.length - j) (fun j => Ok (j ≤ a.length ∧ ∀ i, i < j → a.getD i 0 = b.getD i 0)),
      loopI.start 0 [] [0, 1, 5] [] .fr (by (repeat' first | apply And.intro | rfl); exact ⟨Nat.zero_le _, fun i hi => absurd hi (Nat.not_lt_zero i)⟩), ?_⟩
    rintro _ _ ⟨j, rfl, rfl, ⟨hj, hs⟩⟩
    clear h
    repeat' first | apply And.intro | (intro h; (cases h; done)) | intro _ | exact True.intro | (show Region.lexB _ _ = true; kernel_rfl) | refine loopI.next (j + 1) [] [0, 1, 5] [] .fr ?_
    all_goals (try simp only [decT, decF, beq_iff_eq, bne_iff_ne, ne_eq, beq_eq_false_iff_ne, bne_eq_false_iff_eq, Decidable.not_not, Int.toNat_natCast, Bool.not_eq_true', Bool.not_eq_false', Bool.not_eq_true, Bool.not_eq_false, Int.not_lt, Int.not_le] at *; try dsimp only [D, IK, dz] at *)
    all_goals first | omega | rfl | skip
    · rename_i h
      have : ¬ a = b := fun e => h (by rw [e])
      rw [decide_eq_false this]
    · exact ⟨by omega, all_step hs (by assumption)⟩
    · rw [decide_eq_true (list_ext0 (d := 0) hl fun i hi => hs i (by omega))]
theorem sametable_fn (a b : List (List Int)) (ha : a.length ≤ 4611686018427387903) (hal : ∀ r ∈ a, r.length ≤ 4611686018427387903) : Fw.Fn Try.prog 23 [.dat .old (.sl (.i .i64)) a, .dat .old (.sl (.i .i64)) b] [] (.val (.bool (decide (a = b)))) [] := by
  refine fn_go env_ok mixed Try.func23 (c := Try.f23.body.get rfl) rfl (by kernel_rfl) [] rfl ?_
  repeat' first | apply And.intro | (intro h; (cases h; done)) | intro _ | exact True.intro | (show Region.lexB _ _ = true; kernel_rfl)
  · rename_i h
    (try simp only [decT, decF, beq_iff_eq, bne_iff_ne, ne_eq, beq_eq_false_iff_ne, bne_eq_false_iff_eq, Decidable.not_not, Int.toNat_natCast, Bool.not_eq_true', Bool.not_eq_false', Bool.not_eq_true, Bool.not_eq_false, Int.not_lt, Int.not_le] at *; try dsimp only [D, IK, dz] at *)
    have : ¬ a = b := fun e => h (by rw [e])
    rw [decide_eq_false this]
  · rename_i h
    have hl : a.length = b.length := by
      have : (a.length : Int) = b.length := by simpa using h
      omega
    refine ⟨loopI (fun j : Nat => { n := 27, t := [(0, .dat .old (.sl (.i .i64)) a), (1, .dat .old (.sl (.i .i64)) b), (5, .val (.int .i64 j))], h := [], nx := 0 }) (fun j => a.length - j) (fun j => Ok (j ≤ a.length ∧ ∀ i, i < j → a.getD i [] = b.getD i [])),
      loopI.start 0 [] [0, 1, 5] [] .fr (by (repeat' first | apply And.intro | rfl); exact ⟨Nat.zero_le _, fun i hi => absurd hi (Nat.not_lt_zero i)⟩), ?_⟩
    rintro _ _ ⟨j, rfl, rfl, ⟨hj, hs⟩⟩
    clear h
    by_cases hlt : j < a.length
    · have hr := hal _ (getD_mem (d := []) hlt)
      have hsf := same_fn (a.getD j []) (b.getD j []) hr
      by_cases e : a.getD j [] = b.getD j []
      · rw [decide_eq_true e] at hsf
        repeat' first | apply And.intro | (intro h; (cases h; done)) | (intro h; exfalso; simp only [decT, decF, beq_iff_eq, beq_eq_false_iff_ne, ne_eq, Int.toNat_natCast] at h; (try dsimp only [D, IK, dz, gT] at h); first | omega | exact absurd h (by assumption) | exact h (by assumption)) | intro _ | exact True.intro | (show Region.lexB _ _ = true; kernel_rfl) | refine loopI.next (j + 1) [] [0, 1, 5] [] .fr ?_ | refine CallK.fn [] hsf rfl rfl rfl rfl rfl trivial ?_
        all_goals (try simp only [decT, decF, beq_iff_eq, bne_iff_ne, ne_eq, beq_eq_false_iff_ne, bne_eq_false_iff_eq, Decidable.not_not, Int.toNat_natCast, Bool.not_eq_true', Bool.not_eq_false', Bool.not_eq_true, Bool.not_eq_false, Int.not_lt, Int.not_le] at *; try dsimp only [D, IK, dz] at *)
        all_goals first | omega | rfl | skip
        exact ⟨by omega, all_step hs e⟩
      · rw [decide_eq_false e] at hsf
        repeat' first | apply And.intro | (intro h; (cases h; done)) | (intro h; exfalso; simp only [decT, decF, beq_iff_eq, beq_eq_false_iff_ne, ne_eq, Int.toNat_natCast] at h; (try dsimp only [D, IK, dz, gT] at h); first | omega | exact absurd h (by assumption) | exact h (by assumption)) | intro _ | exact True.intro | (show Region.lexB _ _ = true; kernel_rfl) | refine CallK.fn [] hsf rfl rfl rfl rfl rfl trivial ?_
        all_goals (try simp only [decT, decF, beq_iff_eq, bne_iff_ne, ne_eq, beq_eq_false_iff_ne, bne_eq_false_iff_eq, Decidable.not_not, Int.toNat_natCast, Bool.not_eq_true', Bool.not_eq_false', Bool.not_eq_true, Bool.not_eq_false, Int.not_lt, Int.not_le] at *; try dsimp only [D, IK, dz] at *)
        all_goals first | omega | rfl | skip
        have : ¬ a = b := fun e2 => e (by rw [e2])
        rw [decide_eq_false this]
    · repeat' first | apply And.intro | (intro h; (cases h; done)) | (intro h; exfalso; simp only [decT, decF, beq_iff_eq, beq_eq_false_iff_ne, ne_eq, Int.toNat_natCast] at h; (try dsimp only [D, IK, dz, gT] at h); first | omega | exact absurd h (by assumption) | exact h (by assumption)) | intro _ | exact True.intro | (show Region.lexB _ _ = true; kernel_rfl)
      (all_goals try ((first | (show (_ : Int) ≤ _) | (show (_ : Int) < _) | (show (_ : Nat) ≤ _) | (show (_ : Nat) < _)); (try simp only [Int.toNat_natCast, List.length_cons, List.length_nil, umax64]); (try dsimp only [D, IK, dz, gT]); omega))
      rw [decide_eq_true (list_ext0 (d := []) hl fun i hi => hs i (by omega))]
/-- The number of edges of the first gates. -/
def edgesF (gates : List Gate) : Nat → Nat
  | 0 => 0
  | j + 1 => edgesF gates j + (gates.getD j gz).2.2.2.2.length
theorem edgesF_le {gates : List Gate} {m : Nat} (h : ∀ g ∈ gates, g.2.2.2.2.length ≤ m) : ∀ j, j ≤ gates.length → edgesF gates j ≤ j * m
  | 0, _ => Nat.zero_le _
  | j + 1, hj => by
    have := edgesF_le h j (by omega)
    have := h _ (getD_mem (d := gz) (show j < gates.length by omega))
    rw [edgesF, Nat.add_mul]; omega
section
variable (cards : List Int) (gates : List Gate) (hl : gates.length ≤ 4611686018427387903) (hc : cards.length ≤ 4611686018427387903) (hargs : ∀ g ∈ gates, g.2.2.2.2.length ≤ 1000000)
include hl hc hargs in
theorem size_no (h : rightB cards gates = false) : Fw.Fn Try.prog 14 [.agg [.dat .old (.i .i64) cards, .dat .old gT gates]] [] (.tup [.val (.int .i64 0), .val (.int .i64 0), .val (.int .i64 150)]) [] := by
  have hv := valid_fn cards gates hc hl fun g hg => by have := hargs g hg; omega
  rw [h] at hv
  refine fn_go env_ok mixed Try.func14 (c := Try.f14.body.get rfl) rfl (by kernel_rfl) [] rfl ?_
  repeat' first | apply And.intro | (intro h; (cases h; done)) | intro _ | exact True.intro | (show Region.lexB _ _ = true; kernel_rfl) | refine CallK.fn [] hv rfl rfl rfl rfl rfl trivial ?_
  all_goals rfl
include hl hc hargs in
theorem size_fn (h : rightB cards gates = true) : Fw.Fn Try.prog 14 [.agg [.dat .old (.i .i64) cards, .dat .old gT gates]] [] (.tup [.val (.int .i64 gates.length), .val (.int .i64 (edgesF gates gates.length)), .val (.int .i64 0)]) [] := by
  have hv := valid_fn cards gates hc hl fun g hg => by have := hargs g hg; omega
  rw [h] at hv
  have hgl := (right_all h).1
  refine fn_go env_ok mixed Try.func14 (c := Try.f14.body.get rfl) rfl (by kernel_rfl) [] rfl ?_
  repeat' first | apply And.intro | (intro h; (cases h; done)) | intro _ | exact True.intro | (show Region.lexB _ _ = true; kernel_rfl) | refine CallK.fn [] hv rfl rfl rfl rfl rfl trivial ?_
  refine ⟨loopI (fun j : Nat => { n := 27, t := [(1, .ptr 0 0), (3, .val (.int .i64 (edgesF gates j))), (11, .dat .old gT gates), (12, .val (.int .i64 gates.length)), (13, .val (.int .i64 j))], h := [(0, some (.cells [.dat .old (.i .i64) cards, .dat .old gT gates]))], nx := 1 }) (fun j => gates.length - j) (fun j => Ok (j ≤ gates.length)),
    loopI.start 0 [] [1, 3, 11, 12, 13] [(1, [])] .fr (by (repeat' first | apply And.intro | rfl); exact ⟨Nat.zero_le _⟩), ?_⟩
  rintro _ _ ⟨j, rfl, rfl, ⟨hj⟩⟩
  have hb := edgesF_le hargs j hj
  by_cases hlt : j < gates.length
  · have hal := hargs _ (getD_mem (d := gz) hlt)
    repeat' first | apply And.intro | (intro h; (cases h; done)) | (intro h; exfalso; simp only [decT, decF, beq_iff_eq, beq_eq_false_iff_ne, ne_eq, Int.toNat_natCast] at h; (try dsimp only [D, IK, dz, gT] at h); first | omega | exact absurd h (by assumption) | exact h (by assumption)) | intro _ | exact True.intro | (show Region.lexB _ _ = true; kernel_rfl) | refine loopI.next (j + 1) [] [1, 3, 11, 12, 13] [(1, [])] .fr ?_
    all_goals (try simp only [decT, decF, beq_iff_eq, bne_iff_ne, ne_eq, beq_eq_false_iff_ne, bne_eq_false_iff_eq, Decidable.not_not, Int.toNat_natCast, Bool.not_eq_true', Bool.not_eq_false', Bool.not_eq_true, Bool.not_eq_false, Int.not_lt, Int.not_le] at *; try dsimp only [D, IK, dz] at *)
    all_goals try dsimp only [gz] at *
    all_goals first | omega | rfl | exact ⟨by omega⟩
  · have hje : j = gates.length := by omega
    repeat' first | apply And.intro | (intro h; (cases h; done)) | (intro h; exfalso; simp only [decT, decF, beq_iff_eq, beq_eq_false_iff_ne, ne_eq, Int.toNat_natCast] at h; (try dsimp only [D, IK, dz, gT] at h); first | omega | exact absurd h (by assumption) | exact h (by assumption)) | intro _ | exact True.intro | (show Region.lexB _ _ = true; kernel_rfl)
    (all_goals try ((first | (show (_ : Int) ≤ _) | (show (_ : Int) < _) | (show (_ : Nat) ≤ _) | (show (_ : Nat) < _)); (try simp only [Int.toNat_natCast, List.length_cons, List.length_nil, umax64]); (try dsimp only [D, IK, dz, gT]); omega))
    all_goals first | rfl | rw [hje]
end
end Go.Proofs.Ytbgnnpbcifgckaa
namespace Go.Proofs.Ytbgnnpbcifgckaa
open Go Go.Fw Go.RowKit
set_option maxRecDepth 100000
set_option maxHeartbeats 4000000
theorem is_c (v x : Int) : Fw.Fn Try.prog 31 [.val (.int .i64 v), .val (.int .i64 x)] [] (.agg [.val (.int .i64 2), .val (.int .i64 v), .val (.int .i64 x), .val (.int .i64 0), .dat .fr (.i .i64) []]) [] := by
  refine fnR_go env_ok mixed Try.func31 (c := Try.f31.body.get rfl) rfl (by kernel_rfl) [] [] [] rfl ?_
  repeat' first | apply And.intro | (intro h; (cases h; done)) | intro _ | exact True.intro | (show Region.lexB _ _ = true; kernel_rfl)
  all_goals rfl
theorem number_c (n : Int) : Fw.Fn Try.prog 29 [.val (.int .i64 n)] [] (.agg [.val (.int .i64 1), .val (.int .i64 0), .val (.int .i64 0), .val (.int .i64 n), .dat .fr (.i .i64) []]) [] := by
  refine fnR_go env_ok mixed Try.func29 (c := Try.f29.body.get rfl) rfl (by kernel_rfl) [] [] [] rfl ?_
  repeat' first | apply And.intro | (intro h; (cases h; done)) | intro _ | exact True.intro | (show Region.lexB _ _ = true; kernel_rfl)
  all_goals rfl
theorem sum_c (l : List Int) : Fw.Fn Try.prog 28 [.own 0] [.arr .old (.i .i64) l] (.agg [.val (.int .i64 3), .val (.int .i64 0), .val (.int .i64 0), .val (.int .i64 0), .own 0]) [(0, some (.arr .old (.i .i64) l))] := by
  refine fnR_go env_ok mixed Try.func28 (c := Try.f28.body.get rfl) rfl (by kernel_rfl) [] [] [] rfl ?_
  repeat' first | apply And.intro | (intro h; (cases h; done)) | intro _ | exact True.intro | (show Region.lexB _ _ = true; kernel_rfl)
  all_goals rfl
theorem product_c (l : List Int) : Fw.Fn Try.prog 30 [.own 0] [.arr .old (.i .i64) l] (.agg [.val (.int .i64 4), .val (.int .i64 0), .val (.int .i64 0), .val (.int .i64 0), .own 0]) [(0, some (.arr .old (.i .i64) l))] := by
  refine fnR_go env_ok mixed Try.func30 (c := Try.f30.body.get rfl) rfl (by kernel_rfl) [] [] [] rfl ?_
  repeat' first | apply And.intro | (intro h; (cases h; done)) | intro _ | exact True.intro | (show Region.lexB _ _ = true; kernel_rfl)
  all_goals rfl
def sampleG : List Gate := [(2, 0, 0, 0, []), (2, 0, 1, 0, []), (1, 0, 0, 3, []), (1, 0, 0, 5, []), (4, 0, 0, 0, [0, 2]), (4, 0, 0, 0, [1, 3]), (3, 0, 0, 0, [4, 5])]
theorem sample_fn : Fw.Fn Try.prog 27 [] [] (.agg [.dat .fr (.i .i64) [2], .dat .old gT sampleG]) [] := by
  refine fnR_go env_ok mixed Try.func27 (c := Try.f27.body.get rfl) rfl (by kernel_rfl) [] [] [] rfl ?_
  repeat' first | apply And.intro | (intro h; (cases h; done)) | intro _ | exact True.intro | (show Region.lexB _ _ = true; kernel_rfl) | refine CallK.fn [] (is_c _ _) rfl rfl rfl rfl rfl trivial ?_ | refine CallK.fn [] (number_c _) rfl rfl rfl rfl rfl trivial ?_ | refine CallK.fn [96] (product_c _) (by exact rfl) (by exact rfl) (by exact rfl) (by exact rfl) (by exact rfl) ?_ ?_ | refine CallK.fn [128] (product_c _) (by exact rfl) (by exact rfl) (by exact rfl) (by exact rfl) (by exact rfl) ?_ ?_ | refine CallK.fn [160] (sum_c _) (by exact rfl) (by exact rfl) (by exact rfl) (by exact rfl) (by exact rfl) ?_ ?_
  all_goals rfl
theorem value_fn (cards : List Int) (gates : List Gate) (want : Int) (input : List Int) (hl : gates.length ≤ 4611686018427387903) (hc : cards.length ≤ 4611686018427387903) (hin : input.length ≤ 4611686018427387903) (hargs : ∀ g ∈ gates, g.2.2.2.2.length ≤ 4611686018427387903) :
    Fw.Fn Try.prog 33 [.agg [.dat .old (.i .i64) cards, .dat .old gT gates], .val (.int .i64 want), .dat .old (.i .i64) input] [] (.val (.bool (decide (evalF cards gates input = (want, 0))))) [] := by
  refine fn_go env_ok mixed Try.func33 (c := Try.f33.body.get rfl) rfl (by kernel_rfl) [] rfl ?_
  repeat' first | apply And.intro | (intro h; (cases h; done)) | intro _ | exact True.intro | (show Region.lexB _ _ = true; kernel_rfl) | refine CallK.fn [] (eval_fn cards gates input hl hc hin hargs) rfl rfl rfl rfl rfl trivial ?_
  all_goals (try simp only [decT, decF, beq_iff_eq, bne_iff_ne, ne_eq, beq_eq_false_iff_ne, bne_eq_false_iff_eq, Decidable.not_not, Int.toNat_natCast, Bool.not_eq_true', Bool.not_eq_false', Bool.not_eq_true, Bool.not_eq_false, Int.not_lt, Int.not_le] at *; try dsimp only [D, IK, dz] at *)
  · rename_i h
    have e : evalF cards gates input = ((evalF cards gates input).1, 0) := by rw [← h]
    rw [e]
    by_cases h2 : (evalF cards gates input).1 = want
    · rw [h2]; simp
    · simp [h2]
  · rename_i h
    have : ¬ evalF cards gates input = (want, 0) := fun e => h (by rw [e])
    rw [decide_eq_false this]
theorem sample_right : rightB [2] sampleG = true := by rfl
theorem sample_der : derF [2] sampleG [-1] = ([[3, 5]], 0) := by
  unfold derF
  rw [if_neg (by rw [sample_right]; decide), if_neg (by decide)]
  have hv : valsO [-1] sampleG [] = some [1, 1, 3, 5, 3, 5, 8] := by rfl
  rw [hv]
  have hs : scat [1, 1, 3, 5, 3, 5, 8] sampleG sampleG.length = [3, 5, 1, 1, 1, 1, 1] := by rfl
  have ho : outS [2] [1, 1, 3, 5, 3, 5, 8] sampleG sampleG.length = [[3, 5]] := by rfl
  dsimp only
  rw [if_pos, ho]
  refine ⟨fun i => ?_, fun v x => ?_⟩
  · rw [hs]
    match i with
    | 0 | 1 | 2 | 3 | 4 | 5 | 6 => decide
    | n + 7 => exact (by decide : (0 : Int) ≤ 4611686018427387903)
  · rw [ho]
    match v, x with
    | 0, 0 | 0, 1 => decide
    | 0, n + 2 => exact (by decide : (0 : Int) ≤ 4611686018427387903)
    | n + 1, x => simp
theorem sample_apart : apartB [2] sampleG = true := by
  refine apartB_true fun a ha => ?_
  match a, ha with
  | [x], ⟨h1, h2, _⟩ =>
    have : x = 0 ∨ x = 1 := by omega
    rcases this with rfl | rfl
    · intro i hi
      match i, hi with
      | 0, _ | 1, _ | 2, _ | 3, _ | 4, _ | 5, _ | 6, _ => decide
    · intro i hi
      match i, hi with
      | 0, _ | 1, _ | 2, _ | 3, _ | 4, _ | 5, _ | 6, _ => decide
theorem sample_args {m : Nat} (h : 2 ≤ m) : ∀ g ∈ sampleG, g.2.2.2.2.length ≤ m := by
  intro g hg
  have : g.2.2.2.2.length ≤ 2 := by
    simp only [sampleG, List.mem_cons, List.not_mem_nil, or_false] at hg
    rcases hg with rfl | rfl | rfl | rfl | rfl | rfl | rfl <;> decide
  omega
theorem wakes_fn : Fw.Fn Try.prog 9 [] [] (.val (.bool true)) [] := by
  have hd := Derive_fn [2] sampleG [-1] (by decide) (by decide) (by decide) (sample_args (by decide))
  rw [sample_der] at hd
  have hk := kinds_fn [2] sampleG (by decide) (by decide) (sample_args (by decide)) sample_right
  rw [sample_apart, show smF (varsF sampleG) sampleG sampleG.length = true from rfl, show dcF (varsF sampleG) sampleG sampleG.length = true from rfl] at hk
  have hs := size_fn [2] sampleG (by decide) (by decide) (sample_args (by decide)) sample_right
  rw [show edgesF sampleG sampleG.length = 6 from rfl] at hs
  have v1 := value_fn [2] sampleG 8 [-1] (by decide) (by decide) (by decide) (sample_args (by decide))
  rw [show evalF [2] sampleG [-1] = (8, 0) from rfl] at v1
  have v2 := value_fn [2] sampleG 3 [0] (by decide) (by decide) (by decide) (sample_args (by decide))
  rw [show evalF [2] sampleG [0] = (3, 0) from rfl] at v2
  have v3 := value_fn [2] sampleG 5 [1] (by decide) (by decide) (by decide) (sample_args (by decide))
  rw [show evalF [2] sampleG [1] = (5, 0) from rfl] at v3
  have ht := sametable_fn [[3, 5]] [[3, 5]] (by decide) (by decide)
  have hc := check_fn [2] sampleG (by decide) (by decide) (sample_args (by decide))
  have hn := check_fn [] [] (by decide) (by decide) (by decide)
  refine fn_go env_ok mixed Try.func9 (c := Try.f9.body.get rfl) rfl (by kernel_rfl) [] rfl ?_
  repeat' first | apply And.intro | (intro h; (cases h; done)) | intro _ | exact True.intro | (show Region.lexB _ _ = true; kernel_rfl) | refine CallK.fn [] sample_fn rfl rfl rfl rfl rfl trivial ?_ | refine CallK.fn [] hd rfl rfl rfl rfl rfl trivial ?_ | refine CallK.fn [] hk rfl rfl rfl rfl rfl trivial ?_ | refine CallK.fn [] hs rfl rfl rfl rfl rfl trivial ?_ | refine CallK.fn [] v1 rfl rfl rfl rfl rfl trivial ?_ | refine CallK.fn [] v2 rfl rfl rfl rfl rfl trivial ?_ | refine CallK.fn [] v3 rfl rfl rfl rfl rfl trivial ?_ | refine CallK.fn [] ht rfl rfl rfl rfl rfl trivial ?_ | refine CallK.fn [] hc rfl rfl rfl rfl rfl trivial ?_ | refine CallK.fn [] hn rfl rfl rfl rfl rfl trivial ?_
  rfl
end Go.Proofs.Ytbgnnpbcifgckaa
namespace Go.Proofs.Ytbgnnpbcifgckaa
open Go Go.Fw Go.RowKit
set_option maxRecDepth 100000
set_option maxHeartbeats 4000000
theorem mul_c (n : Nat) (hn : n ≤ 5000) : Fw.Fn Try.prog 52 [.un .u64 1, .un .u64 n] [] (.tup [.un .u64 0, .un .u64 n]) [] := by
  refine fn_go env_ok mixed Try.func52 (c := Try.f52.body.get rfl) rfl (by kernel_rfl) [] rfl ?_
  have h := mul64_fn 1 n (by decide) (by omega)
  rw [Nat.one_mul, Nat.div_eq_of_lt (by omega), Nat.mod_eq_of_lt (by omega)] at h
  repeat' first | apply And.intro | (intro h; (cases h; done)) | (intro h; exfalso; simp only [decT, decF, beq_iff_eq, beq_eq_false_iff_ne, ne_eq, Int.toNat_natCast] at h; (try dsimp only [D, IK, dz, gT] at h); first | omega | exact absurd h (by assumption) | exact h (by assumption)) | intro _ | exact True.intro | (show Region.lexB _ _ = true; kernel_rfl) | refine CallK.fn [] h rfl rfl rfl rfl rfl trivial ?_
  all_goals rfl
def rpL (g : Gate) (n k : Nat) : List Gate := List.replicate k g ++ List.replicate (n - k) gz
theorem rp_len (g : Gate) {n k : Nat} (h : k ≤ n) : (rpL g n k).length = n := by rw [rpL, List.length_append, List.length_replicate, List.length_replicate]; omega
theorem rp_one {g : Gate} {n : Nat} (hn : 1 ≤ n) : List.take (List.length (List.replicate (Int.toNat (n : Int)) gz)) [g] ++ List.drop (min (List.length [g]) (List.length (List.replicate (Int.toNat (n : Int)) gz))) (List.replicate (Int.toNat (n : Int)) gz) = rpL g n 1 := by
  rw [List.length_replicate, Int.toNat_natCast, List.length_singleton, Nat.min_eq_left hn, List.take_of_length_le (by simpa using hn), List.drop_replicate]; rfl
theorem rp_step (g : Gate) {n k : Nat} (h1 : 1 ≤ k) (h2 : k ≤ n) : (rpL g n k).take k ++ ((rpL g n k).take k).take (n - k) ++ (rpL g n k).drop (k + min k (n - k)) = rpL g n (k + min k (n - k)) := by
  have e1 : (rpL g n k).take k = List.replicate k g := by rw [rpL, List.take_append_of_le_length (by rw [List.length_replicate]; exact Nat.le_refl _), List.take_of_length_le (by rw [List.length_replicate]; exact Nat.le_refl _)]
  rw [e1, List.take_replicate, rpL, List.drop_append, List.drop_replicate, List.drop_replicate, List.length_replicate, rpL, show k - (k + min k (n - k)) = 0 by omega, List.replicate_zero, List.nil_append, ← List.replicate_append_replicate, Nat.min_comm (n - k) k, show n - k - (k + min k (n - k) - k) = n - (k + min k (n - k)) by omega]
theorem repeat_fn (g : Gate) (n : Nat) (hn : 1 ≤ n) (hn2 : n ≤ 5000) : Fw.Fn Try.prog 32 [.own 0, .val (.int .i64 n)] [.arr .old gT [g]] (.dat .old gT (List.replicate n g)) [(0, some (.arr .old gT [g]))] := by
  refine fn_go env_ok mixed Try.func32 (c := Try.f32.body.get rfl) rfl (by kernel_rfl) [] rfl ?_
  repeat' first | apply And.intro | (intro h; (cases h; done)) | (intro h; exfalso; simp only [decT, decF, beq_iff_eq, beq_eq_false_iff_ne, ne_eq, Int.toNat_natCast] at h; (try dsimp only [D, IK, dz, gT] at h); first | omega | exact absurd h (by assumption) | exact h (by assumption)) | intro _ | exact True.intro | (show Region.lexB _ _ = true; kernel_rfl) | refine CallK.fn [] (mul_c _ hn2) rfl rfl rfl rfl rfl trivial ?_
  all_goals try omega
  all_goals try (simp only [List.length_singleton]; omega)
  refine ⟨loopI (fun k : Nat => { n := 48, t := [(7, .own 1), (8, .val (.int .i64 k))], h := [(0, some (.arr .old gT [g])), (1, some (.arr .old gT (rpL g n k)))], nx := 2, m := 1 }) (fun k => n - k) (fun k => Ok (1 ≤ k ∧ k ≤ n)),
    loopI.start 1 [] [7, 8] [(7, [])] .old (by (repeat' first | apply And.intro | rfl) <;> first | (show ((min 1 (List.length (List.replicate (Int.toNat (n : Int)) _)) : Nat) : Int) = ((1 : Nat) : Int); rw [List.length_replicate, Int.toNat_natCast, Nat.min_eq_left hn]) | exact rp_one hn | exact ⟨Nat.le_refl _, hn⟩), ?_⟩
  rintro _ _ ⟨k, rfl, rfl, ⟨hk1, hk2⟩⟩
  have hrl := rp_len g hk2
  by_cases hkl : k < n
  · have hst := rp_step g hk1 hk2
    repeat' first | apply And.intro | (intro h; (cases h; done)) | (intro h; exfalso; simp only [decT, decF, beq_iff_eq, beq_eq_false_iff_ne, ne_eq, Int.toNat_natCast] at h; (try dsimp only [D, IK, dz, gT] at h); first | omega | exact absurd h (by assumption) | exact h (by assumption)) | intro _ | exact True.intro | (show Region.lexB _ _ = true; kernel_rfl) | refine loopI.next (k + min k (n - k)) [] [7, 8] [(7, [])] .old ?_
    (all_goals try (show Fw.xRun _ _ _ _ _ _ _ _; exfalso; (try simp only [decT, decF, beq_iff_eq, bne_iff_ne, ne_eq, beq_eq_false_iff_ne, bne_eq_false_iff_eq, Decidable.not_not, Int.toNat_natCast, Bool.not_eq_true', Bool.not_eq_false', Bool.not_eq_true, Bool.not_eq_false, Int.not_lt, Int.not_le] at *); omega))
    (all_goals try ((first | (show (_ : Int) ≤ _) | (show (_ : Int) < _) | (show (_ : Nat) ≤ _) | (show (_ : Nat) < _)); (try simp only [Int.toNat_natCast, List.length_cons, List.length_nil, umax64]); (try dsimp only [D, IK, dz, gT]); omega))
    all_goals (try simp only [decT, decF, beq_iff_eq, bne_iff_ne, ne_eq, beq_eq_false_iff_ne, bne_eq_false_iff_eq, Decidable.not_not, Int.toNat_natCast, Bool.not_eq_true', Bool.not_eq_false', Bool.not_eq_true, Bool.not_eq_false, Int.not_lt, Int.not_le] at *; try dsimp only [D, IK, dz] at *)
    all_goals try simp only [hrl, List.length_take, List.length_drop]
    all_goals try omega
    · rw [List.drop_zero, show min (min k (n - 0)) (n - k) = min k (n - k) by omega]; exact hst
    · exact ⟨by omega, by omega⟩
  · have hke : k = n := by omega
    repeat' first | apply And.intro | (intro h; (cases h; done)) | (intro h; exfalso; simp only [decT, decF, beq_iff_eq, beq_eq_false_iff_ne, ne_eq, Int.toNat_natCast] at h; (try dsimp only [D, IK, dz, gT] at h); first | omega | exact absurd h (by assumption) | exact h (by assumption)) | intro _ | exact True.intro | (show Region.lexB _ _ = true; kernel_rfl)
    (all_goals try (show Fw.xRun _ _ _ _ _ _ _ _; exfalso; (try simp only [decT, decF, beq_iff_eq, bne_iff_ne, ne_eq, beq_eq_false_iff_ne, bne_eq_false_iff_eq, Decidable.not_not, Int.toNat_natCast, Bool.not_eq_true', Bool.not_eq_false', Bool.not_eq_true, Bool.not_eq_false, Int.not_lt, Int.not_le] at *); omega))
    (all_goals try ((first | (show (_ : Int) ≤ _) | (show (_ : Int) < _) | (show (_ : Nat) ≤ _) | (show (_ : Nat) < _)); (try simp only [Int.toNat_natCast, List.length_cons, List.length_nil, umax64]); (try dsimp only [D, IK, dz, gT]); omega))
    all_goals first | rfl | (rw [hke, rpL, Nat.sub_self, List.replicate_zero, List.append_nil]; done)
end Go.Proofs.Ytbgnnpbcifgckaa
namespace Go.Proofs.Ytbgnnpbcifgckaa
open Go Go.Fw Go.RowKit
set_option maxRecDepth 100000
set_option maxHeartbeats 4000000
abbrev a4T : Ty := .pr (.i .u8) (.pr (.i .u8) (.pr (.i .u8) (.i .u8)))
abbrev Q4 : Type := Nat × Nat × Nat × Nat
abbrev qz : Q4 := (0, 0, 0, 0)
def cardsQ (dc : List Nat) (j : Nat) : List Int := (dc.take j).map fun c => 1 + ((c % 3 : Nat) : Int)
/-- The numbers of values of a draft. -/
def cardsD (dc : List Nat) : List Int := if dc.length = 0 then [2] else cardsQ dc 4
def isR (v k : Nat) : List Gate := (List.range k).map fun x : Nat => ((2 : Int), (v : Int), ((x : Nat) : Int), (0 : Int), ([] : List Int))
def isL (cs : List Int) : Nat → List Gate
  | 0 => []
  | v + 1 => isL cs v ++ isR v (cs.getD v 0).toNat
def argsQ (n : Nat) (q : Q4) : List Int := if q.2.1 % n = q.2.2.1 % n then [((q.2.1 % n : Nat) : Int)] else [((min (q.2.1 % n) (q.2.2.1 % n) : Nat) : Int), ((max (q.2.1 % n) (q.2.2.1 % n) : Nat) : Int)]
def gateQ (unit : Int) (n : Nat) (q : Q4) : Gate := if q.1 % 5 = 0 then (1, 0, 0, ((q.2.1 % 8 : Nat) : Int) * unit, []) else (3 + ((q.1 % 2 : Nat) : Int), 0, 0, 0, argsQ n q)
def gatesQ (unit : Int) (g0 : List Gate) (dg : List Q4) : List Gate := dg.foldl (fun gs q => gs ++ [gateQ unit gs.length q]) g0
def unitQ (big : Bool) : Int := if big then 100000000000 else 1
/-- The gates of a draft. -/
def gatesD (dc : List Nat) (dg : List Q4) (big : Bool) : List Gate := gatesQ (unitQ big) (isL (cardsD dc) (cardsD dc).length) (dg.take 30)
theorem tmodN (a b : Nat) : Int.tmod (a : Int) (b : Int) = ((a % b : Nat) : Int) := rfl
theorem eqN {a b : Nat} (h : (a : Int) = (b : Int)) : a = b := by omega
theorem minN (a b : Nat) : min (a : Int) (b : Int) = ((min a b : Nat) : Int) := by omega
theorem maxN' (a b : Nat) : max (a : Int) (b : Int) = ((max a b : Nat) : Int) := by omega
theorem cardsD_ok (dc : List Nat) : 1 ≤ (cardsD dc).length ∧ (cardsD dc).length ≤ 4 ∧ ∀ c ∈ cardsD dc, 1 ≤ c ∧ c ≤ 3 := by
  unfold cardsD
  split
  · refine ⟨by decide, by decide, fun c hc => ?_⟩
    rw [List.mem_singleton] at hc
    omega
  · refine ⟨?_, ?_, fun c hc => ?_⟩
    · rw [cardsQ, List.length_map, List.length_take]; omega
    · rw [cardsQ, List.length_map, List.length_take]; omega
    · obtain ⟨x, _, rfl⟩ := List.mem_map.1 hc
      omega
theorem isR_len (v k : Nat) : (isR v k).length = k := by rw [isR, List.length_map, List.length_range]
theorem isR_succ (v k : Nat) : isR v (k + 1) = isR v k ++ [((2 : Int), (v : Int), ((k : Nat) : Int), (0 : Int), ([] : List Int))] := by
  rw [isR, isR, List.range_succ, List.map_append]; rfl
theorem isL_len {cs : List Int} (h : ∀ c ∈ cs, 1 ≤ c ∧ c ≤ 3) : ∀ v, v ≤ cs.length → v ≤ (isL cs v).length ∧ (isL cs v).length ≤ 3 * v
  | 0, _ => ⟨Nat.le_refl _, Nat.le_refl _⟩
  | v + 1, hv => by
    have h1 := isL_len h v (by omega)
    have h2 := h _ (getD_mem (d := 0) (show v < cs.length by omega))
    rw [isL, List.length_append, isR_len]
    omega
theorem gatesQ_snoc (unit : Int) (g0 : List Gate) (dg : List Q4) (q : Q4) : gatesQ unit g0 (dg ++ [q]) = gatesQ unit g0 dg ++ [gateQ unit (gatesQ unit g0 dg).length q] := by simp [gatesQ]
theorem gatesQ_len (unit : Int) (g0 : List Gate) : ∀ dg : List Q4, (gatesQ unit g0 dg).length = g0.length + dg.length := by
  intro dg
  unfold gatesQ
  induction dg generalizing g0 with
  | nil => rfl
  | cons q dg ih => rw [List.foldl_cons, ih]; simp; omega
theorem draft_fn (dc : List Nat) (dg : List Q4) (big : Bool) (hdc : ∀ c ∈ dc, c ≤ 255) (hdg : ∀ q ∈ dg, q.1 ≤ 255 ∧ q.2.1 ≤ 255 ∧ q.2.2.1 ≤ 255 ∧ q.2.2.2 ≤ 255) (hl : dc.length ≤ 9223372036854775807) (hl2 : dg.length ≤ 9223372036854775807) :
    Fw.Fn Try.prog 24 [.agg [.dat .old (.i .u8) dc, .dat .old a4T dg, .val (.bool big)]] [] (.agg [.dat .fr (.i .i64) (cardsD dc), .dat .fr gT (gatesD dc dg big)]) [] := by
  refine fnR_go env_ok mixed Try.func24 (c := Try.f24.body.get rfl) rfl (by kernel_rfl) [] [] [] rfl ?_
  repeat' first | apply And.intro | (intro h; (cases h; done)) | intro _ | exact True.intro | (show Region.lexB _ _ = true; kernel_rfl)
  refine ⟨loopI (fun j : Nat => { n := 140, t := [(1, .ptr 0 0), (2, .ptr 1 0), (3, .ptr 2 0), (4, .val (.int .i64 j))], h := [(0, some (.cells [.dat .old (.i .u8) dc, .dat .old a4T dg, .val (.bool big)])), (1, some (.cells [.nil (.i .i64), .nil gT])), (2, some (.cells [.own 3, .nil gT])), (3, some (.arr .fr (.i .i64) (cardsQ dc j)))], nx := 4 }) (fun j => 4 - j) (fun j => Ok (j ≤ 4 ∧ j ≤ dc.length)),
    loopI.start 0 [1003] [1, 2, 3, 4] [(1, []), (2, []), (3, []), (3, [0])] .fr (by (repeat' first | apply And.intro | rfl); exact ⟨Nat.zero_le _, Nat.zero_le _⟩), ?_⟩
  rintro _ _ ⟨j, rfl, rfl, ⟨hj, hj2⟩⟩
  have hql : (cardsQ dc j).length = j := by rw [cardsQ, List.length_map, List.length_take]; omega
  have hqs : ∀ h : j < dc.length, cardsQ dc (j + 1) = cardsQ dc j ++ [1 + ((dc.getD j 0 % 3 : Nat) : Int)] := fun h => by rw [cardsQ, take_step h, List.map_append, getD_lt h]; rfl
  by_cases hlt : j < 4 ∧ j < dc.length
  · have hc := hdc _ (getD_mem (d := 0) hlt.2)
    have hq := hqs hlt.2
    repeat' first | apply And.intro | (intro h; (cases h; done)) | (intro h; exfalso; simp only [decT, decF, beq_iff_eq, beq_eq_false_iff_ne, ne_eq, Int.toNat_natCast] at h; (try dsimp only [D, IK, dz, gT] at h); first | omega | exact absurd h (by assumption) | exact h (by assumption)) | intro _ | exact True.intro | (show Region.lexB _ _ = true; kernel_rfl) | refine loopI.next (j + 1) [] [1, 2, 3, 4] [(1, []), (2, []), (3, []), (3, [0])] .fr ?_
    all_goals (try simp only [decT, decF, beq_iff_eq, bne_iff_ne, ne_eq, beq_eq_false_iff_ne, bne_eq_false_iff_eq, Decidable.not_not, Int.toNat_natCast, Bool.not_eq_true', Bool.not_eq_false', Bool.not_eq_true, Bool.not_eq_false, Int.not_lt, Int.not_le] at *; try dsimp only [D, IK, dz] at *)
    all_goals try simp only [hql, List.length_cons, List.length_nil]
    all_goals first | omega | rfl | exact hq.symm | exact ⟨by omega, by omega⟩
  · have hcase : (j = dc.length ∧ dc.length = 0) ∨ (j = dc.length ∧ 1 ≤ dc.length) ∨ (j < dc.length ∧ j = 4) := by omega
    rcases hcase with ⟨d1, d2⟩ | ⟨d1, d2⟩ | ⟨d1, d2⟩
    · have hcs : cardsD dc = [2] := if_pos d2
      repeat' first | apply And.intro | (intro h; (cases h; done)) | (intro h; exfalso; simp only [decT, decF, beq_iff_eq, beq_eq_false_iff_ne, ne_eq, Int.toNat_natCast] at h; (try dsimp only [D, IK, dz, gT] at h); first | omega | exact absurd h (by assumption) | exact h (by assumption)) | intro _ | exact True.intro | (show Region.lexB _ _ = true; kernel_rfl)
      (all_goals try ((first | (show (_ : Int) ≤ _) | (show (_ : Int) < _) | (show (_ : Nat) ≤ _) | (show (_ : Nat) < _)); (try simp only [Int.toNat_natCast, List.length_cons, List.length_nil, umax64]); (try dsimp only [D, IK, dz, gT]); omega))
      refine ⟨loopI (fun v : Nat => { n := 140, t := [(1, .ptr 0 0), (2, .ptr 1 0), (3, .ptr 2 0), (5, .val (.int .i64 v))], h := [(0, some (.cells [.dat .old (.i .u8) dc, .dat .old a4T dg, .val (.bool big)])), (1, some (.cells [.nil (.i .i64), .nil gT])), (2, some (.cells [.own 3, .own 4])), (3, some (.arr .fr (.i .i64) (cardsD dc))), (4, some (.arr .fr gT (isL (cardsD dc) v)))], nx := 5 }) (fun v => (cardsD dc).length - v) (fun v => Ok (v ≤ (cardsD dc).length)),
        loopI.start 0 [2003] [1, 2, 3, 5] [(1, []), (2, []), (3, []), (3, [0]), (3, [1])] .fr (by (repeat' first | apply And.intro | rfl) <;> first | exact hcs.symm | exact ⟨Nat.zero_le _⟩), ?_⟩
      clear hlt hql hqs hcs d1 d2
      obtain ⟨c1, c2, c3⟩ := cardsD_ok dc
      obtain ⟨cs, hcs⟩ : ∃ cs, cs = cardsD dc := ⟨_, rfl⟩
      rintro _ _ ⟨v, rfl, rfl, ⟨hv⟩⟩
      rw [← hcs] at c1 c2 c3 hv
      have hgd : gatesD dc dg big = gatesQ (unitQ big) (isL cs cs.length) (dg.take 30) := by rw [gatesD, ← hcs]
      rw [hgd, ← hcs]
      have hil := isL_len c3 v hv
      by_cases hvl : v < cs.length
      · have hcv := c3 _ (getD_mem (d := 0) hvl)
        repeat' first | apply And.intro | (intro h; (cases h; done)) | (intro h; exfalso; simp only [decT, decF, beq_iff_eq, beq_eq_false_iff_ne, ne_eq, Int.toNat_natCast] at h; (try dsimp only [D, IK, dz, gT] at h); first | omega | exact absurd h (by assumption) | exact h (by assumption)) | intro _ | exact True.intro | (show Region.lexB _ _ = true; kernel_rfl)
        (all_goals try ((first | (show (_ : Int) ≤ _) | (show (_ : Int) < _) | (show (_ : Nat) ≤ _) | (show (_ : Nat) < _)); (try simp only [Int.toNat_natCast, List.length_cons, List.length_nil, umax64]); (try dsimp only [D, IK, dz, gT]); omega))
        refine ⟨loopI (fun x : Nat => { n := 140, t := [(1, .ptr 0 0), (2, .ptr 1 0), (3, .ptr 2 0), (5, .val (.int .i64 v)), (6, .val (.int .i64 x))], h := [(0, some (.cells [.dat .old (.i .u8) dc, .dat .old a4T dg, .val (.bool big)])), (1, some (.cells [.nil (.i .i64), .nil gT])), (2, some (.cells [.own 3, .own 4])), (3, some (.arr .fr (.i .i64) cs)), (4, some (.arr .fr gT (isL cs v ++ isR v x)))], nx := 5 }) (fun x => (cs.getD v 0).toNat - x) (fun x => Ok (x ≤ (cs.getD v 0).toNat)),
          loopI.start 0 [] [1, 2, 3, 5, 6] [(1, []), (2, []), (3, []), (3, [0]), (3, [1])] .fr (by rw [hcs]; (repeat' first | apply And.intro | rfl) <;> first | exact (List.append_nil _).symm | exact ⟨Nat.zero_le _⟩), ?_⟩
        rintro _ _ ⟨x, rfl, rfl, ⟨hx⟩⟩
        have hrl := isR_len v x
        by_cases hxl : x < (cs.getD v 0).toNat
        · have hrs := isR_succ v x
          repeat' first | apply And.intro | (intro h; (cases h; done)) | (intro h; exfalso; simp only [decT, decF, beq_iff_eq, beq_eq_false_iff_ne, ne_eq, Int.toNat_natCast] at h; (try dsimp only [D, IK, dz, gT] at h); first | omega | exact absurd h (by assumption) | exact h (by assumption)) | intro _ | exact True.intro | (show Region.lexB _ _ = true; kernel_rfl) | refine loopI.next (x + 1) [] [1, 2, 3, 5, 6] [(1, []), (2, []), (3, []), (3, [0]), (3, [1])] .fr ?_
          all_goals (try simp only [decT, decF, beq_iff_eq, bne_iff_ne, ne_eq, beq_eq_false_iff_ne, bne_eq_false_iff_eq, Decidable.not_not, Int.toNat_natCast, Bool.not_eq_true', Bool.not_eq_false', Bool.not_eq_true, Bool.not_eq_false, Int.not_lt, Int.not_le] at *; try dsimp only [D, IK, dz] at *)
          all_goals try simp only [hrl, List.length_append, List.length_cons, List.length_nil]
          all_goals first | omega | rfl | exact ⟨by omega⟩ | (rw [hrs, ← List.append_assoc]; done) | skip
        · have hxe : x = (cs.getD v 0).toNat := by omega
          repeat' first | apply And.intro | (intro h; (cases h; done)) | (intro h; exfalso; simp only [decT, decF, beq_iff_eq, beq_eq_false_iff_ne, ne_eq, Int.toNat_natCast] at h; (try dsimp only [D, IK, dz, gT] at h); first | omega | exact absurd h (by assumption) | exact h (by assumption)) | intro _ | exact True.intro | (show Region.lexB _ _ = true; kernel_rfl) | refine loopI.next (v + 1) [] [1, 2, 3, 5] [(1, []), (2, []), (3, []), (3, [0]), (3, [1])] .fr ?_
          all_goals (try simp only [decT, decF, beq_iff_eq, bne_iff_ne, ne_eq, beq_eq_false_iff_ne, bne_eq_false_iff_eq, Decidable.not_not, Int.toNat_natCast, Bool.not_eq_true', Bool.not_eq_false', Bool.not_eq_true, Bool.not_eq_false, Int.not_lt, Int.not_le] at *; try dsimp only [D, IK, dz] at *)
          all_goals first | omega | rfl | exact ⟨by omega⟩ | (rw [isL, hxe]; done) | skip
      · have hve : v = cs.length := by omega
        repeat' first | apply And.intro | (intro h; (cases h; done)) | (intro h; exfalso; simp only [decT, decF, beq_iff_eq, beq_eq_false_iff_ne, ne_eq, Int.toNat_natCast] at h; (try dsimp only [D, IK, dz, gT] at h); first | omega | exact absurd h (by assumption) | exact h (by assumption)) | intro _ | exact True.intro | (show Region.lexB _ _ = true; kernel_rfl)
        (all_goals try ((first | (show (_ : Int) ≤ _) | (show (_ : Int) < _) | (show (_ : Nat) ≤ _) | (show (_ : Nat) < _)); (try simp only [Int.toNat_natCast, List.length_cons, List.length_nil, umax64]); (try dsimp only [D, IK, dz, gT]); omega))
        clear hvl hv hil
        all_goals refine ⟨loopI (fun k : Nat => { n := 140, t := [(1, .ptr 0 0), (2, .ptr 1 0), (3, .ptr 2 0), (7, .val (.int .i64 (unitQ big))), (8, .val (.int .i64 k))], h := [(0, some (.cells [.dat .old (.i .u8) dc, .dat .old a4T dg, .val (.bool big)])), (1, some (.cells [.nil (.i .i64), .nil gT])), (2, some (.cells [.own 3, .own 4])), (3, some (.arr .fr (.i .i64) cs)), (4, some (.arr .fr gT (gatesQ (unitQ big) (isL cs cs.length) (dg.take k))))], nx := 5 }) (fun k => 30 - k) (fun k => Ok (k ≤ 30 ∧ k ≤ dg.length)),
          loopI.start 0 [] [1, 2, 3, 7, 8] [(1, []), (2, []), (3, []), (3, [0]), (3, [1])] .fr (by rw [hve]; (repeat' first | apply And.intro | rfl) <;> first | (rw [unitQ, if_pos (by assumption)]; done) | (rw [unitQ, if_neg (by simp_all)]; done) | exact ⟨Nat.zero_le _, Nat.zero_le _⟩), ?_⟩
        all_goals rintro _ _ ⟨k, rfl, rfl, ⟨hk, hk2⟩⟩
        all_goals have hil := isL_len c3 cs.length (Nat.le_refl _)
        all_goals have hgl := gatesQ_len (unitQ big) (isL cs cs.length) (dg.take k)
        all_goals rw [List.length_take, Nat.min_eq_left hk2] at hgl
        all_goals have hub : unitQ big = 1 ∨ unitQ big = 100000000000 := by cases big <;> simp [unitQ]
        all_goals (
          by_cases hkl : k < 30 ∧ k < dg.length
          · have hq := hdg _ (getD_mem (d := qz) hkl.2)
            have hgs : gatesQ (unitQ big) (isL cs cs.length) (dg.take (k + 1)) = gatesQ (unitQ big) (isL cs cs.length) (dg.take k) ++ [gateQ (unitQ big) (gatesQ (unitQ big) (isL cs cs.length) (dg.take k)).length (dg.getD k qz)] := by
              rw [take_step hkl.2, gatesQ_snoc, getD_lt hkl.2]
            repeat' first | apply And.intro | (intro h; (cases h; done)) | (intro h; exfalso; simp only [decT, decF, beq_iff_eq, beq_eq_false_iff_ne, ne_eq, Int.toNat_natCast] at h; (try dsimp only [D, IK, dz, gT] at h); first | omega | exact absurd h (by assumption) | exact h (by assumption)) | intro _ | exact True.intro | (show Region.lexB _ _ = true; kernel_rfl) | refine loopI.next (k + 1) [] [1, 2, 3, 7, 8] [(1, []), (2, []), (3, []), (3, [0]), (3, [1])] .fr ?_
            all_goals (try simp only [decT, decF, beq_iff_eq, bne_iff_ne, ne_eq, beq_eq_false_iff_ne, bne_eq_false_iff_eq, Decidable.not_not, Int.toNat_natCast, Bool.not_eq_true', Bool.not_eq_false', Bool.not_eq_true, Bool.not_eq_false, Int.not_lt, Int.not_le] at *; try dsimp only [D, IK, dz] at *)
            all_goals try dsimp only [qz] at *
            all_goals generalize hqq : dg.getD k (0, 0, 0, 0) = q at *
            all_goals generalize hgg : gatesQ (unitQ big) (isL cs cs.length) (dg.take k) = G at *
            all_goals try simp only [show Int.toNat 0 = 0 from rfl, show Int.toNat 1 = 1 from rfl, show Int.toNat 2 = 2 from rfl, List.getD_cons_zero, List.getD_cons_succ, List.length_cons, List.length_nil, List.length_replicate] at *
            all_goals try omega
            all_goals try rfl
            all_goals try simp only [tmodN] at *
            all_goals try exact ⟨by omega, by omega⟩
            all_goals try (rcases hub with h | h <;> rw [h] <;> omega)
            · rw [hgs, gateQ, if_pos (by assumption)]
            · rw [hgs, gateQ, if_neg (by assumption), argsQ, if_pos (eqN (by assumption))]
            · rw [hgs, gateQ, if_neg (by assumption), argsQ, if_neg (fun e => absurd (congrArg Int.ofNat e) (by assumption)), minN, maxN']
          · have hke : dg.take 30 = dg.take k := by
              by_cases h : k < 30
              · rw [List.take_of_length_le (by omega), List.take_of_length_le (by omega)]
              · rw [show k = 30 by omega]
            have hcase : (k = dg.length ∧ k ≤ 30) ∨ (k < dg.length ∧ k = 30) := by omega
            rw [hke]
            rcases hcase with ⟨e1, e2⟩ | ⟨e1, e2⟩
            · repeat' first | apply And.intro | (intro h; (cases h; done)) | (intro h; exfalso; simp only [decT, decF, beq_iff_eq, beq_eq_false_iff_ne, ne_eq, Int.toNat_natCast] at h; (try dsimp only [D, IK, dz, gT] at h); first | omega | exact absurd h (by assumption) | exact h (by assumption)) | intro _ | exact True.intro | (show Region.lexB _ _ = true; kernel_rfl)
              all_goals rfl
            · repeat' first | apply And.intro | (intro h; (cases h; done)) | (intro h; exfalso; simp only [decT, decF, beq_iff_eq, beq_eq_false_iff_ne, ne_eq, Int.toNat_natCast] at h; (try dsimp only [D, IK, dz, gT] at h); first | omega | exact absurd h (by assumption) | exact h (by assumption)) | intro _ | exact True.intro | (show Region.lexB _ _ = true; kernel_rfl)
              (all_goals try ((first | (show (_ : Int) ≤ _) | (show (_ : Int) < _) | (show (_ : Nat) ≤ _) | (show (_ : Nat) < _)); (try simp only [Int.toNat_natCast, List.length_cons, List.length_nil, umax64]); (try dsimp only [D, IK, dz, gT]); omega))
              all_goals rfl)
    · have hcs : cardsD dc = cardsQ dc j := by rw [cardsD, if_neg (by omega), cardsQ, cardsQ, List.take_of_length_le (by omega), List.take_of_length_le (by omega)]
      repeat' first | apply And.intro | (intro h; (cases h; done)) | (intro h; exfalso; simp only [decT, decF, beq_iff_eq, beq_eq_false_iff_ne, ne_eq, Int.toNat_natCast] at h; (try dsimp only [D, IK, dz, gT] at h); first | omega | exact absurd h (by assumption) | exact h (by assumption)) | intro _ | exact True.intro | (show Region.lexB _ _ = true; kernel_rfl)
      (all_goals try ((first | (show (_ : Int) ≤ _) | (show (_ : Int) < _) | (show (_ : Nat) ≤ _) | (show (_ : Nat) < _)); (try simp only [Int.toNat_natCast, List.length_cons, List.length_nil, umax64]); (try dsimp only [D, IK, dz, gT]); omega))
      refine ⟨loopI (fun v : Nat => { n := 140, t := [(1, .ptr 0 0), (2, .ptr 1 0), (3, .ptr 2 0), (5, .val (.int .i64 v))], h := [(0, some (.cells [.dat .old (.i .u8) dc, .dat .old a4T dg, .val (.bool big)])), (1, some (.cells [.nil (.i .i64), .nil gT])), (2, some (.cells [.own 3, .own 4])), (3, some (.arr .fr (.i .i64) (cardsD dc))), (4, some (.arr .fr gT (isL (cardsD dc) v)))], nx := 5 }) (fun v => (cardsD dc).length - v) (fun v => Ok (v ≤ (cardsD dc).length)),
        loopI.start 0 [2003] [1, 2, 3, 5] [(1, []), (2, []), (3, []), (3, [0]), (3, [1])] .fr (by (repeat' first | apply And.intro | rfl) <;> first | exact hcs.symm | exact ⟨Nat.zero_le _⟩), ?_⟩
      clear hlt hql hqs hcs d1 d2
      obtain ⟨c1, c2, c3⟩ := cardsD_ok dc
      obtain ⟨cs, hcs⟩ : ∃ cs, cs = cardsD dc := ⟨_, rfl⟩
      rintro _ _ ⟨v, rfl, rfl, ⟨hv⟩⟩
      rw [← hcs] at c1 c2 c3 hv
      have hgd : gatesD dc dg big = gatesQ (unitQ big) (isL cs cs.length) (dg.take 30) := by rw [gatesD, ← hcs]
      rw [hgd, ← hcs]
      have hil := isL_len c3 v hv
      by_cases hvl : v < cs.length
      · have hcv := c3 _ (getD_mem (d := 0) hvl)
        repeat' first | apply And.intro | (intro h; (cases h; done)) | (intro h; exfalso; simp only [decT, decF, beq_iff_eq, beq_eq_false_iff_ne, ne_eq, Int.toNat_natCast] at h; (try dsimp only [D, IK, dz, gT] at h); first | omega | exact absurd h (by assumption) | exact h (by assumption)) | intro _ | exact True.intro | (show Region.lexB _ _ = true; kernel_rfl)
        (all_goals try ((first | (show (_ : Int) ≤ _) | (show (_ : Int) < _) | (show (_ : Nat) ≤ _) | (show (_ : Nat) < _)); (try simp only [Int.toNat_natCast, List.length_cons, List.length_nil, umax64]); (try dsimp only [D, IK, dz, gT]); omega))
        refine ⟨loopI (fun x : Nat => { n := 140, t := [(1, .ptr 0 0), (2, .ptr 1 0), (3, .ptr 2 0), (5, .val (.int .i64 v)), (6, .val (.int .i64 x))], h := [(0, some (.cells [.dat .old (.i .u8) dc, .dat .old a4T dg, .val (.bool big)])), (1, some (.cells [.nil (.i .i64), .nil gT])), (2, some (.cells [.own 3, .own 4])), (3, some (.arr .fr (.i .i64) cs)), (4, some (.arr .fr gT (isL cs v ++ isR v x)))], nx := 5 }) (fun x => (cs.getD v 0).toNat - x) (fun x => Ok (x ≤ (cs.getD v 0).toNat)),
          loopI.start 0 [] [1, 2, 3, 5, 6] [(1, []), (2, []), (3, []), (3, [0]), (3, [1])] .fr (by rw [hcs]; (repeat' first | apply And.intro | rfl) <;> first | exact (List.append_nil _).symm | exact ⟨Nat.zero_le _⟩), ?_⟩
        rintro _ _ ⟨x, rfl, rfl, ⟨hx⟩⟩
        have hrl := isR_len v x
        by_cases hxl : x < (cs.getD v 0).toNat
        · have hrs := isR_succ v x
          repeat' first | apply And.intro | (intro h; (cases h; done)) | (intro h; exfalso; simp only [decT, decF, beq_iff_eq, beq_eq_false_iff_ne, ne_eq, Int.toNat_natCast] at h; (try dsimp only [D, IK, dz, gT] at h); first | omega | exact absurd h (by assumption) | exact h (by assumption)) | intro _ | exact True.intro | (show Region.lexB _ _ = true; kernel_rfl) | refine loopI.next (x + 1) [] [1, 2, 3, 5, 6] [(1, []), (2, []), (3, []), (3, [0]), (3, [1])] .fr ?_
          all_goals (try simp only [decT, decF, beq_iff_eq, bne_iff_ne, ne_eq, beq_eq_false_iff_ne, bne_eq_false_iff_eq, Decidable.not_not, Int.toNat_natCast, Bool.not_eq_true', Bool.not_eq_false', Bool.not_eq_true, Bool.not_eq_false, Int.not_lt, Int.not_le] at *; try dsimp only [D, IK, dz] at *)
          all_goals try simp only [hrl, List.length_append, List.length_cons, List.length_nil]
          all_goals first | omega | rfl | exact ⟨by omega⟩ | (rw [hrs, ← List.append_assoc]; done) | skip
        · have hxe : x = (cs.getD v 0).toNat := by omega
          repeat' first | apply And.intro | (intro h; (cases h; done)) | (intro h; exfalso; simp only [decT, decF, beq_iff_eq, beq_eq_false_iff_ne, ne_eq, Int.toNat_natCast] at h; (try dsimp only [D, IK, dz, gT] at h); first | omega | exact absurd h (by assumption) | exact h (by assumption)) | intro _ | exact True.intro | (show Region.lexB _ _ = true; kernel_rfl) | refine loopI.next (v + 1) [] [1, 2, 3, 5] [(1, []), (2, []), (3, []), (3, [0]), (3, [1])] .fr ?_
          all_goals (try simp only [decT, decF, beq_iff_eq, bne_iff_ne, ne_eq, beq_eq_false_iff_ne, bne_eq_false_iff_eq, Decidable.not_not, Int.toNat_natCast, Bool.not_eq_true', Bool.not_eq_false', Bool.not_eq_true, Bool.not_eq_false, Int.not_lt, Int.not_le] at *; try dsimp only [D, IK, dz] at *)
          all_goals first | omega | rfl | exact ⟨by omega⟩ | (rw [isL, hxe]; done) | skip
      · have hve : v = cs.length := by omega
        repeat' first | apply And.intro | (intro h; (cases h; done)) | (intro h; exfalso; simp only [decT, decF, beq_iff_eq, beq_eq_false_iff_ne, ne_eq, Int.toNat_natCast] at h; (try dsimp only [D, IK, dz, gT] at h); first | omega | exact absurd h (by assumption) | exact h (by assumption)) | intro _ | exact True.intro | (show Region.lexB _ _ = true; kernel_rfl)
        (all_goals try ((first | (show (_ : Int) ≤ _) | (show (_ : Int) < _) | (show (_ : Nat) ≤ _) | (show (_ : Nat) < _)); (try simp only [Int.toNat_natCast, List.length_cons, List.length_nil, umax64]); (try dsimp only [D, IK, dz, gT]); omega))
        clear hvl hv hil
        all_goals refine ⟨loopI (fun k : Nat => { n := 140, t := [(1, .ptr 0 0), (2, .ptr 1 0), (3, .ptr 2 0), (7, .val (.int .i64 (unitQ big))), (8, .val (.int .i64 k))], h := [(0, some (.cells [.dat .old (.i .u8) dc, .dat .old a4T dg, .val (.bool big)])), (1, some (.cells [.nil (.i .i64), .nil gT])), (2, some (.cells [.own 3, .own 4])), (3, some (.arr .fr (.i .i64) cs)), (4, some (.arr .fr gT (gatesQ (unitQ big) (isL cs cs.length) (dg.take k))))], nx := 5 }) (fun k => 30 - k) (fun k => Ok (k ≤ 30 ∧ k ≤ dg.length)),
          loopI.start 0 [] [1, 2, 3, 7, 8] [(1, []), (2, []), (3, []), (3, [0]), (3, [1])] .fr (by rw [hve]; (repeat' first | apply And.intro | rfl) <;> first | (rw [unitQ, if_pos (by assumption)]; done) | (rw [unitQ, if_neg (by simp_all)]; done) | exact ⟨Nat.zero_le _, Nat.zero_le _⟩), ?_⟩
        all_goals rintro _ _ ⟨k, rfl, rfl, ⟨hk, hk2⟩⟩
        all_goals have hil := isL_len c3 cs.length (Nat.le_refl _)
        all_goals have hgl := gatesQ_len (unitQ big) (isL cs cs.length) (dg.take k)
        all_goals rw [List.length_take, Nat.min_eq_left hk2] at hgl
        all_goals have hub : unitQ big = 1 ∨ unitQ big = 100000000000 := by cases big <;> simp [unitQ]
        all_goals (
          by_cases hkl : k < 30 ∧ k < dg.length
          · have hq := hdg _ (getD_mem (d := qz) hkl.2)
            have hgs : gatesQ (unitQ big) (isL cs cs.length) (dg.take (k + 1)) = gatesQ (unitQ big) (isL cs cs.length) (dg.take k) ++ [gateQ (unitQ big) (gatesQ (unitQ big) (isL cs cs.length) (dg.take k)).length (dg.getD k qz)] := by
              rw [take_step hkl.2, gatesQ_snoc, getD_lt hkl.2]
            repeat' first | apply And.intro | (intro h; (cases h; done)) | (intro h; exfalso; simp only [decT, decF, beq_iff_eq, beq_eq_false_iff_ne, ne_eq, Int.toNat_natCast] at h; (try dsimp only [D, IK, dz, gT] at h); first | omega | exact absurd h (by assumption) | exact h (by assumption)) | intro _ | exact True.intro | (show Region.lexB _ _ = true; kernel_rfl) | refine loopI.next (k + 1) [] [1, 2, 3, 7, 8] [(1, []), (2, []), (3, []), (3, [0]), (3, [1])] .fr ?_
            all_goals (try simp only [decT, decF, beq_iff_eq, bne_iff_ne, ne_eq, beq_eq_false_iff_ne, bne_eq_false_iff_eq, Decidable.not_not, Int.toNat_natCast, Bool.not_eq_true', Bool.not_eq_false', Bool.not_eq_true, Bool.not_eq_false, Int.not_lt, Int.not_le] at *; try dsimp only [D, IK, dz] at *)
            all_goals try dsimp only [qz] at *
            all_goals generalize hqq : dg.getD k (0, 0, 0, 0) = q at *
            all_goals generalize hgg : gatesQ (unitQ big) (isL cs cs.length) (dg.take k) = G at *
            all_goals try simp only [show Int.toNat 0 = 0 from rfl, show Int.toNat 1 = 1 from rfl, show Int.toNat 2 = 2 from rfl, List.getD_cons_zero, List.getD_cons_succ, List.length_cons, List.length_nil, List.length_replicate] at *
            all_goals try omega
            all_goals try rfl
            all_goals try simp only [tmodN] at *
            all_goals try exact ⟨by omega, by omega⟩
            all_goals try (rcases hub with h | h <;> rw [h] <;> omega)
            · rw [hgs, gateQ, if_pos (by assumption)]
            · rw [hgs, gateQ, if_neg (by assumption), argsQ, if_pos (eqN (by assumption))]
            · rw [hgs, gateQ, if_neg (by assumption), argsQ, if_neg (fun e => absurd (congrArg Int.ofNat e) (by assumption)), minN, maxN']
          · have hke : dg.take 30 = dg.take k := by
              by_cases h : k < 30
              · rw [List.take_of_length_le (by omega), List.take_of_length_le (by omega)]
              · rw [show k = 30 by omega]
            have hcase : (k = dg.length ∧ k ≤ 30) ∨ (k < dg.length ∧ k = 30) := by omega
            rw [hke]
            rcases hcase with ⟨e1, e2⟩ | ⟨e1, e2⟩
            · repeat' first | apply And.intro | (intro h; (cases h; done)) | (intro h; exfalso; simp only [decT, decF, beq_iff_eq, beq_eq_false_iff_ne, ne_eq, Int.toNat_natCast] at h; (try dsimp only [D, IK, dz, gT] at h); first | omega | exact absurd h (by assumption) | exact h (by assumption)) | intro _ | exact True.intro | (show Region.lexB _ _ = true; kernel_rfl)
              all_goals rfl
            · repeat' first | apply And.intro | (intro h; (cases h; done)) | (intro h; exfalso; simp only [decT, decF, beq_iff_eq, beq_eq_false_iff_ne, ne_eq, Int.toNat_natCast] at h; (try dsimp only [D, IK, dz, gT] at h); first | omega | exact absurd h (by assumption) | exact h (by assumption)) | intro _ | exact True.intro | (show Region.lexB _ _ = true; kernel_rfl)
              (all_goals try ((first | (show (_ : Int) ≤ _) | (show (_ : Int) < _) | (show (_ : Nat) ≤ _) | (show (_ : Nat) < _)); (try simp only [Int.toNat_natCast, List.length_cons, List.length_nil, umax64]); (try dsimp only [D, IK, dz, gT]); omega))
              all_goals rfl)
    · have hcs : cardsD dc = cardsQ dc j := by rw [cardsD, if_neg (by omega), d2]
      repeat' first | apply And.intro | (intro h; (cases h; done)) | (intro h; exfalso; simp only [decT, decF, beq_iff_eq, beq_eq_false_iff_ne, ne_eq, Int.toNat_natCast] at h; (try dsimp only [D, IK, dz, gT] at h); first | omega | exact absurd h (by assumption) | exact h (by assumption)) | intro _ | exact True.intro | (show Region.lexB _ _ = true; kernel_rfl)
      (all_goals try ((first | (show (_ : Int) ≤ _) | (show (_ : Int) < _) | (show (_ : Nat) ≤ _) | (show (_ : Nat) < _)); (try simp only [Int.toNat_natCast, List.length_cons, List.length_nil, umax64]); (try dsimp only [D, IK, dz, gT]); omega))
      refine ⟨loopI (fun v : Nat => { n := 140, t := [(1, .ptr 0 0), (2, .ptr 1 0), (3, .ptr 2 0), (5, .val (.int .i64 v))], h := [(0, some (.cells [.dat .old (.i .u8) dc, .dat .old a4T dg, .val (.bool big)])), (1, some (.cells [.nil (.i .i64), .nil gT])), (2, some (.cells [.own 3, .own 4])), (3, some (.arr .fr (.i .i64) (cardsD dc))), (4, some (.arr .fr gT (isL (cardsD dc) v)))], nx := 5 }) (fun v => (cardsD dc).length - v) (fun v => Ok (v ≤ (cardsD dc).length)),
        loopI.start 0 [2003] [1, 2, 3, 5] [(1, []), (2, []), (3, []), (3, [0]), (3, [1])] .fr (by (repeat' first | apply And.intro | rfl) <;> first | exact hcs.symm | exact ⟨Nat.zero_le _⟩), ?_⟩
      clear hlt hql hqs hcs d1 d2
      obtain ⟨c1, c2, c3⟩ := cardsD_ok dc
      obtain ⟨cs, hcs⟩ : ∃ cs, cs = cardsD dc := ⟨_, rfl⟩
      rintro _ _ ⟨v, rfl, rfl, ⟨hv⟩⟩
      rw [← hcs] at c1 c2 c3 hv
      have hgd : gatesD dc dg big = gatesQ (unitQ big) (isL cs cs.length) (dg.take 30) := by rw [gatesD, ← hcs]
      rw [hgd, ← hcs]
      have hil := isL_len c3 v hv
      by_cases hvl : v < cs.length
      · have hcv := c3 _ (getD_mem (d := 0) hvl)
        repeat' first | apply And.intro | (intro h; (cases h; done)) | (intro h; exfalso; simp only [decT, decF, beq_iff_eq, beq_eq_false_iff_ne, ne_eq, Int.toNat_natCast] at h; (try dsimp only [D, IK, dz, gT] at h); first | omega | exact absurd h (by assumption) | exact h (by assumption)) | intro _ | exact True.intro | (show Region.lexB _ _ = true; kernel_rfl)
        (all_goals try ((first | (show (_ : Int) ≤ _) | (show (_ : Int) < _) | (show (_ : Nat) ≤ _) | (show (_ : Nat) < _)); (try simp only [Int.toNat_natCast, List.length_cons, List.length_nil, umax64]); (try dsimp only [D, IK, dz, gT]); omega))
        refine ⟨loopI (fun x : Nat => { n := 140, t := [(1, .ptr 0 0), (2, .ptr 1 0), (3, .ptr 2 0), (5, .val (.int .i64 v)), (6, .val (.int .i64 x))], h := [(0, some (.cells [.dat .old (.i .u8) dc, .dat .old a4T dg, .val (.bool big)])), (1, some (.cells [.nil (.i .i64), .nil gT])), (2, some (.cells [.own 3, .own 4])), (3, some (.arr .fr (.i .i64) cs)), (4, some (.arr .fr gT (isL cs v ++ isR v x)))], nx := 5 }) (fun x => (cs.getD v 0).toNat - x) (fun x => Ok (x ≤ (cs.getD v 0).toNat)),
          loopI.start 0 [] [1, 2, 3, 5, 6] [(1, []), (2, []), (3, []), (3, [0]), (3, [1])] .fr (by rw [hcs]; (repeat' first | apply And.intro | rfl) <;> first | exact (List.append_nil _).symm | exact ⟨Nat.zero_le _⟩), ?_⟩
        rintro _ _ ⟨x, rfl, rfl, ⟨hx⟩⟩
        have hrl := isR_len v x
        by_cases hxl : x < (cs.getD v 0).toNat
        · have hrs := isR_succ v x
          repeat' first | apply And.intro | (intro h; (cases h; done)) | (intro h; exfalso; simp only [decT, decF, beq_iff_eq, beq_eq_false_iff_ne, ne_eq, Int.toNat_natCast] at h; (try dsimp only [D, IK, dz, gT] at h); first | omega | exact absurd h (by assumption) | exact h (by assumption)) | intro _ | exact True.intro | (show Region.lexB _ _ = true; kernel_rfl) | refine loopI.next (x + 1) [] [1, 2, 3, 5, 6] [(1, []), (2, []), (3, []), (3, [0]), (3, [1])] .fr ?_
          all_goals (try simp only [decT, decF, beq_iff_eq, bne_iff_ne, ne_eq, beq_eq_false_iff_ne, bne_eq_false_iff_eq, Decidable.not_not, Int.toNat_natCast, Bool.not_eq_true', Bool.not_eq_false', Bool.not_eq_true, Bool.not_eq_false, Int.not_lt, Int.not_le] at *; try dsimp only [D, IK, dz] at *)
          all_goals try simp only [hrl, List.length_append, List.length_cons, List.length_nil]
          all_goals first | omega | rfl | exact ⟨by omega⟩ | (rw [hrs, ← List.append_assoc]; done) | skip
        · have hxe : x = (cs.getD v 0).toNat := by omega
          repeat' first | apply And.intro | (intro h; (cases h; done)) | (intro h; exfalso; simp only [decT, decF, beq_iff_eq, beq_eq_false_iff_ne, ne_eq, Int.toNat_natCast] at h; (try dsimp only [D, IK, dz, gT] at h); first | omega | exact absurd h (by assumption) | exact h (by assumption)) | intro _ | exact True.intro | (show Region.lexB _ _ = true; kernel_rfl) | refine loopI.next (v + 1) [] [1, 2, 3, 5] [(1, []), (2, []), (3, []), (3, [0]), (3, [1])] .fr ?_
          all_goals (try simp only [decT, decF, beq_iff_eq, bne_iff_ne, ne_eq, beq_eq_false_iff_ne, bne_eq_false_iff_eq, Decidable.not_not, Int.toNat_natCast, Bool.not_eq_true', Bool.not_eq_false', Bool.not_eq_true, Bool.not_eq_false, Int.not_lt, Int.not_le] at *; try dsimp only [D, IK, dz] at *)
          all_goals first | omega | rfl | exact ⟨by omega⟩ | (rw [isL, hxe]; done) | skip
      · have hve : v = cs.length := by omega
        repeat' first | apply And.intro | (intro h; (cases h; done)) | (intro h; exfalso; simp only [decT, decF, beq_iff_eq, beq_eq_false_iff_ne, ne_eq, Int.toNat_natCast] at h; (try dsimp only [D, IK, dz, gT] at h); first | omega | exact absurd h (by assumption) | exact h (by assumption)) | intro _ | exact True.intro | (show Region.lexB _ _ = true; kernel_rfl)
        (all_goals try ((first | (show (_ : Int) ≤ _) | (show (_ : Int) < _) | (show (_ : Nat) ≤ _) | (show (_ : Nat) < _)); (try simp only [Int.toNat_natCast, List.length_cons, List.length_nil, umax64]); (try dsimp only [D, IK, dz, gT]); omega))
        clear hvl hv hil
        all_goals refine ⟨loopI (fun k : Nat => { n := 140, t := [(1, .ptr 0 0), (2, .ptr 1 0), (3, .ptr 2 0), (7, .val (.int .i64 (unitQ big))), (8, .val (.int .i64 k))], h := [(0, some (.cells [.dat .old (.i .u8) dc, .dat .old a4T dg, .val (.bool big)])), (1, some (.cells [.nil (.i .i64), .nil gT])), (2, some (.cells [.own 3, .own 4])), (3, some (.arr .fr (.i .i64) cs)), (4, some (.arr .fr gT (gatesQ (unitQ big) (isL cs cs.length) (dg.take k))))], nx := 5 }) (fun k => 30 - k) (fun k => Ok (k ≤ 30 ∧ k ≤ dg.length)),
          loopI.start 0 [] [1, 2, 3, 7, 8] [(1, []), (2, []), (3, []), (3, [0]), (3, [1])] .fr (by rw [hve]; (repeat' first | apply And.intro | rfl) <;> first | (rw [unitQ, if_pos (by assumption)]; done) | (rw [unitQ, if_neg (by simp_all)]; done) | exact ⟨Nat.zero_le _, Nat.zero_le _⟩), ?_⟩
        all_goals rintro _ _ ⟨k, rfl, rfl, ⟨hk, hk2⟩⟩
        all_goals have hil := isL_len c3 cs.length (Nat.le_refl _)
        all_goals have hgl := gatesQ_len (unitQ big) (isL cs cs.length) (dg.take k)
        all_goals rw [List.length_take, Nat.min_eq_left hk2] at hgl
        all_goals have hub : unitQ big = 1 ∨ unitQ big = 100000000000 := by cases big <;> simp [unitQ]
        all_goals (
          by_cases hkl : k < 30 ∧ k < dg.length
          · have hq := hdg _ (getD_mem (d := qz) hkl.2)
            have hgs : gatesQ (unitQ big) (isL cs cs.length) (dg.take (k + 1)) = gatesQ (unitQ big) (isL cs cs.length) (dg.take k) ++ [gateQ (unitQ big) (gatesQ (unitQ big) (isL cs cs.length) (dg.take k)).length (dg.getD k qz)] := by
              rw [take_step hkl.2, gatesQ_snoc, getD_lt hkl.2]
            repeat' first | apply And.intro | (intro h; (cases h; done)) | (intro h; exfalso; simp only [decT, decF, beq_iff_eq, beq_eq_false_iff_ne, ne_eq, Int.toNat_natCast] at h; (try dsimp only [D, IK, dz, gT] at h); first | omega | exact absurd h (by assumption) | exact h (by assumption)) | intro _ | exact True.intro | (show Region.lexB _ _ = true; kernel_rfl) | refine loopI.next (k + 1) [] [1, 2, 3, 7, 8] [(1, []), (2, []), (3, []), (3, [0]), (3, [1])] .fr ?_
            all_goals (try simp only [decT, decF, beq_iff_eq, bne_iff_ne, ne_eq, beq_eq_false_iff_ne, bne_eq_false_iff_eq, Decidable.not_not, Int.toNat_natCast, Bool.not_eq_true', Bool.not_eq_false', Bool.not_eq_true, Bool.not_eq_false, Int.not_lt, Int.not_le] at *; try dsimp only [D, IK, dz] at *)
            all_goals try dsimp only [qz] at *
            all_goals generalize hqq : dg.getD k (0, 0, 0, 0) = q at *
            all_goals generalize hgg : gatesQ (unitQ big) (isL cs cs.length) (dg.take k) = G at *
            all_goals try simp only [show Int.toNat 0 = 0 from rfl, show Int.toNat 1 = 1 from rfl, show Int.toNat 2 = 2 from rfl, List.getD_cons_zero, List.getD_cons_succ, List.length_cons, List.length_nil, List.length_replicate] at *
            all_goals try omega
            all_goals try rfl
            all_goals try simp only [tmodN] at *
            all_goals try exact ⟨by omega, by omega⟩
            all_goals try (rcases hub with h | h <;> rw [h] <;> omega)
            · rw [hgs, gateQ, if_pos (by assumption)]
            · rw [hgs, gateQ, if_neg (by assumption), argsQ, if_pos (eqN (by assumption))]
            · rw [hgs, gateQ, if_neg (by assumption), argsQ, if_neg (fun e => absurd (congrArg Int.ofNat e) (by assumption)), minN, maxN']
          · have hke : dg.take 30 = dg.take k := by
              by_cases h : k < 30
              · rw [List.take_of_length_le (by omega), List.take_of_length_le (by omega)]
              · rw [show k = 30 by omega]
            have hcase : (k = dg.length ∧ k ≤ 30) ∨ (k < dg.length ∧ k = 30) := by omega
            rw [hke]
            rcases hcase with ⟨e1, e2⟩ | ⟨e1, e2⟩
            · repeat' first | apply And.intro | (intro h; (cases h; done)) | (intro h; exfalso; simp only [decT, decF, beq_iff_eq, beq_eq_false_iff_ne, ne_eq, Int.toNat_natCast] at h; (try dsimp only [D, IK, dz, gT] at h); first | omega | exact absurd h (by assumption) | exact h (by assumption)) | intro _ | exact True.intro | (show Region.lexB _ _ = true; kernel_rfl)
              all_goals rfl
            · repeat' first | apply And.intro | (intro h; (cases h; done)) | (intro h; exfalso; simp only [decT, decF, beq_iff_eq, beq_eq_false_iff_ne, ne_eq, Int.toNat_natCast] at h; (try dsimp only [D, IK, dz, gT] at h); first | omega | exact absurd h (by assumption) | exact h (by assumption)) | intro _ | exact True.intro | (show Region.lexB _ _ = true; kernel_rfl)
              (all_goals try ((first | (show (_ : Int) ≤ _) | (show (_ : Int) < _) | (show (_ : Nat) ≤ _) | (show (_ : Nat) < _)); (try simp only [Int.toNat_natCast, List.length_cons, List.length_nil, umax64]); (try dsimp only [D, IK, dz, gT]); omega))
              all_goals rfl)
end Go.Proofs.Ytbgnnpbcifgckaa
namespace Go.Proofs.Ytbgnnpbcifgckaa
open Go Go.Fw Go.RowKit
set_option maxRecDepth 100000
set_option maxHeartbeats 4000000
def fewG (g : Gate) : Gate := (g.1, g.2.1, g.2.2.1, g.2.2.2.1, g.2.2.2.2.take 10)
def fewL (gates : List Gate) : List Gate := (gates.take 40).map fewG
theorem tkN {α : Type} (l : List α) (n : Nat) (z : Int) (h : z = n) : List.take (Int.toNat (min (↑(List.length l)) z)) l = l.take n := by
  subst h
  rw [show (min (l.length : Int) (n : Int)).toNat = min l.length n by omega]
  by_cases h : l.length ≤ n
  · rw [Nat.min_eq_left h, List.take_length, List.take_of_length_le h]
  · rw [Nat.min_eq_right (by omega)]
theorem few_snoc {G : List Gate} {j : Nat} (h : j < G.length) : (G.take (j + 1)).map fewG = (G.take j).map fewG ++ [fewG (G.getD j gz)] := by
  rw [take_step h, List.map_append, getD_lt h]; rfl
theorem few_fn (cards : List Int) (gates : List Gate) (hl : cards.length ≤ 9223372036854775807) (hl2 : gates.length ≤ 9223372036854775807) (hargs : ∀ g ∈ gates, g.2.2.2.2.length ≤ 9223372036854775807) :
    Fw.Fn Try.prog 35 [.agg [.dat .old (.i .i64) cards, .dat .old gT gates]] [] (.agg [.dat .old (.i .i64) (cards.take 10), .dat .old gT (fewL gates)]) [] := by
  refine fnR_go env_ok mixed Try.func35 (c := Try.f35.body.get rfl) rfl (by kernel_rfl) [] [] [] rfl ?_
  obtain ⟨G, hG⟩ : ∃ G, G = gates.take 40 := ⟨_, rfl⟩
  have hGl : G.length ≤ 40 := by rw [hG, List.length_take]; omega
  have hGa : ∀ g ∈ G, g.2.2.2.2.length ≤ 9223372036854775807 := fun g h => hargs g (List.mem_of_mem_take (hG ▸ h))
  have k1 : List.take (Int.toNat (min (↑(List.length gates)) 40)) gates = G := (tkN gates 40 40 rfl).trans hG.symm
  repeat' first | apply And.intro | (intro h; (cases h; done)) | (intro h; exfalso; simp only [decT, decF, beq_iff_eq, beq_eq_false_iff_ne, ne_eq, Int.toNat_natCast] at h; (try dsimp only [D, IK, dz, gT] at h); first | omega | exact absurd h (by assumption) | exact h (by assumption)) | intro _ | exact True.intro | (show Region.lexB _ _ = true; kernel_rfl)
  (all_goals try ((first | (show (_ : Int) ≤ _) | (show (_ : Int) < _) | (show (_ : Nat) ≤ _) | (show (_ : Nat) < _)); (try simp only [Int.toNat_natCast, List.length_cons, List.length_nil, umax64]); (try dsimp only [D, IK, dz, gT]); omega))
  refine ⟨loopI (fun j : Nat => { n := 42, t := [(2, .ptr 0 0), (3, .ptr 1 0), (20, .dat .old gT G), (21, .val (.int .i64 (↑(List.length G)))), (22, .val (.int .i64 j))], h := [(0, some (.cells [.nil (.i .i64), .nil gT])), (1, some (.cells [.dat .old (.i .i64) (cards.take 10), .own 2])), (2, some (.arr .old gT ((G.take j).map fewG)))], nx := 3 }) (fun j => G.length - j) (fun j => Ok (j ≤ G.length)),
    loopI.start 0 [2003] [2, 3, 20, 21, 22] [(2, []), (3, []), (3, [1])] .old (by (repeat' first | apply And.intro | rfl) <;> first | exact k1 | (rw [k1]; done) | exact tkN cards 10 10 rfl | exact ⟨Nat.zero_le _⟩), ?_⟩
  have hfe : fewL gates = G.map fewG := by rw [fewL, hG]
  rw [hfe]
  clear k1 hfe hG hargs hl2
  rintro _ _ ⟨j, rfl, rfl, ⟨hj⟩⟩
  by_cases hlt : j < G.length
  · have ha := hGa _ (getD_mem (d := gz) hlt)
    have hs := few_snoc hlt
    repeat' first | apply And.intro | (intro h; (cases h; done)) | (intro h; exfalso; simp only [decT, decF, beq_iff_eq, beq_eq_false_iff_ne, ne_eq, Int.toNat_natCast] at h; (try dsimp only [D, IK, dz, gT] at h); first | omega | exact absurd h (by assumption) | exact h (by assumption)) | intro _ | exact True.intro | (show Region.lexB _ _ = true; kernel_rfl) | refine loopI.next (j + 1) [] [2, 3, 20, 21, 22] [(2, []), (3, []), (3, [1])] .old ?_
    all_goals (try simp only [decT, decF, beq_iff_eq, bne_iff_ne, ne_eq, beq_eq_false_iff_ne, bne_eq_false_iff_eq, Decidable.not_not, Int.toNat_natCast, Bool.not_eq_true', Bool.not_eq_false', Bool.not_eq_true, Bool.not_eq_false, Int.not_lt, Int.not_le] at *; try dsimp only [D, IK, dz] at *)
    all_goals try dsimp only [gz] at *
    all_goals try simp only [List.length_map, List.length_take, List.length_cons, List.length_nil]
    all_goals try omega
    all_goals first | rfl | exact ⟨by omega⟩ | (rw [hs, fewG, tkN _ 10 10 rfl])
  · have hje : j = G.length := by omega
    repeat' first | apply And.intro | (intro h; (cases h; done)) | (intro h; exfalso; simp only [decT, decF, beq_iff_eq, beq_eq_false_iff_ne, ne_eq, Int.toNat_natCast] at h; (try dsimp only [D, IK, dz, gT] at h); first | omega | exact absurd h (by assumption) | exact h (by assumption)) | intro _ | exact True.intro | (show Region.lexB _ _ = true; kernel_rfl)
    (all_goals try (show Fw.xRun _ _ _ _ _ _ _ _; exfalso; (try simp only [decT, decF, beq_iff_eq, bne_iff_ne, ne_eq, beq_eq_false_iff_ne, bne_eq_false_iff_eq, Decidable.not_not, Int.toNat_natCast, Bool.not_eq_true', Bool.not_eq_false', Bool.not_eq_true, Bool.not_eq_false, Int.not_lt, Int.not_le] at *); omega))
    all_goals first | rfl | (rw [hje, List.take_length])
end Go.Proofs.Ytbgnnpbcifgckaa
namespace Go.Fw
open Go Go.RowKit Go.ChangeShapes Go.WideShapes

def fldB (chk : TypeId → Ty → Bool) (cells : TypeId → Nat) : List Field → Nat → Ty → Bool
  | [], _, _ => false
  | [f], o, t => Nat.beq f.offset o && chk f.type t && Nat.beq (cells f.type) (sz t)
  | f :: g :: r, o, .pr x y => Nat.beq f.offset o && chk f.type x && Nat.beq (cells f.type) (sz x) && fldB chk cells (g :: r) (o + sz x) y
  | _ :: _ :: _, _, _ => false
def arB (chk : Ty → Bool) (n : Nat) : Nat → Ty → Bool
  | 0, _ => false
  | 1, t => chk t && Nat.beq n (sz t)
  | m + 2, .pr x y => chk x && Nat.beq n (sz x) && arB chk n (m + 1) y
  | _ + 2, _ => false
/-- Whether a type of the program is this type of data. -/
def tyB (P : Program) : Nat → TypeId → Ty → Bool
  | 0, _, _ => false
  | n + 1, T, t => match P.underlying T with
    | some .bool => match t with
      | .b => true
      | _ => false
    | some (.int k) => match t with
      | .i k' => ikEq k k'
      | _ => false
    | some (.slice e) => match t with
      | .sl u => tyB P n e u && Nat.beq (P.cellsOf e) (sz u)
      | _ => false
    | some (.struct fs) => fldB (tyB P n) P.cellsOf fs.toList 0 t && Nat.beq (P.cellsOf T) (sz t)
    | some (.array m e) => arB (tyB P n e) (P.cellsOf e) m t && Nat.beq (P.cellsOf T) (sz t)
    | _ => false
/-- Whether numbers fit their kinds, and lists are no longer than lists can be. -/
def wfD : (t : Ty) → D t → Prop
  | .i k, n => k.min ≤ IK.z k n ∧ IK.z k n ≤ k.max
  | .b, _ => True
  | .sl t, xs => List.length xs ≤ maxLen ∧ ∀ x ∈ (xs : List (D t)), wfD t x
  | .pr x y, p => wfD x p.1 ∧ wfD y p.2
theorem z_of {k : IntKind} {n : Int} (h : k.min ≤ n) : IK.z k (IK.of k n) = n := by
  cases k <;> simp only [IK.z, IK.of] <;> first | rfl | (have h : (0 : Int) ≤ n := h; exact Int.toNat_of_nonneg h)

section
variable {H : Type} {enc : TypeId × Value → H} {P : Program} {w : World} {base : Nat} {sp : Nat → Bool} {hd : Bool}

theorem RDok {t : Ty} {d : D t} {cs : List Value} (h : RD w (fun b => b < w.heap.size) t d cs) : cs.length = sz t := h.length

theorem fl_RD {m fuel : Nat} (ih : ∀ T t cs x, tyB P m T t = true → DataW.trod enc P w base sp hd fuel T cs = some x → ∃ d : D t, wfD t d ∧ RD w (fun b => b < w.heap.size) t d cs) {all : List Value} :
    ∀ (fs : List Field) (o : Nat) (t : Ty), fldB (tyB P m) P.cellsOf fs o t = true → o + sz t = all.length → (∀ f ∈ fs, ∃ x, DataW.trod enc P w base sp hd fuel f.type ((all.drop f.offset).take (P.cellsOf f.type)) = some x) →
      ∃ d : D t, wfD t d ∧ RD w (fun b => b < w.heap.size) t d (all.drop o)
  | [], _, _, h, _, _ => by cases h
  | [f], o, t, h, hn, hf => by
    simp only [fldB, Bool.and_eq_true] at h
    obtain ⟨⟨h1, h2⟩, h3⟩ := h
    have h1 := Nat.eq_of_beq_eq_true h1
    have h3 := Nat.eq_of_beq_eq_true h3
    obtain ⟨x, hx⟩ := hf f (by simp)
    obtain ⟨d, d1, d2⟩ := ih _ _ _ _ h2 hx
    rw [h1, h3, List.take_of_length_le (by rw [List.length_drop]; omega)] at d2
    exact ⟨d, d1, d2⟩
  | f :: g :: r, o, .pr x y, h, hn, hf => by
    simp only [fldB, Bool.and_eq_true] at h
    obtain ⟨⟨⟨h1, h2⟩, h3⟩, h4⟩ := h
    have h1 := Nat.eq_of_beq_eq_true h1
    have h3 := Nat.eq_of_beq_eq_true h3
    simp only [sz] at hn
    obtain ⟨z, hz⟩ := hf f (by simp)
    obtain ⟨d, d1, d2⟩ := ih _ _ _ _ h2 hz
    obtain ⟨e, e1, e2⟩ := fl_RD ih (g :: r) (o + sz x) y h4 (by omega) fun f' hf' => hf f' (List.mem_cons_of_mem _ hf')
    refine ⟨(d, e), ⟨d1, e1⟩, ?_⟩
    simp only [RD]
    refine ⟨_, _, ?_, d2, e2⟩
    rw [h1, h3, ← List.drop_drop, List.take_append_drop]
  | _ :: _ :: _, _, .i _, h, _, _ => by simp [fldB] at h
  | _ :: _ :: _, _, .b, h, _, _ => by simp [fldB] at h
  | _ :: _ :: _, _, .sl _, h, _, _ => by simp [fldB] at h

theorem ar_RD {m fuel : Nat} {e : TypeId} (ih : ∀ t cs x, tyB P m e t = true → DataW.trod enc P w base sp hd fuel e cs = some x → ∃ d : D t, wfD t d ∧ RD w (fun b => b < w.heap.size) t d cs) {all : List Value} :
    ∀ (n o : Nat) (t : Ty), arB (tyB P m e) (P.cellsOf e) n t = true → o * P.cellsOf e + sz t = all.length → (∀ i, o ≤ i → i < o + n → ∃ x, DataW.trod enc P w base sp hd fuel e ((all.drop (i * P.cellsOf e)).take (P.cellsOf e)) = some x) →
      ∃ d : D t, wfD t d ∧ RD w (fun b => b < w.heap.size) t d (all.drop (o * P.cellsOf e))
  | 0, _, _, h, _, _ => by simp [arB] at h
  | 1, o, t, h, hn, hf => by
    simp only [arB, Bool.and_eq_true] at h
    have h3 := Nat.eq_of_beq_eq_true h.2
    obtain ⟨x, hx⟩ := hf o (Nat.le_refl _) (by omega)
    obtain ⟨d, d1, d2⟩ := ih _ _ _ h.1 hx
    rw [List.take_of_length_le (by rw [List.length_drop]; omega)] at d2
    exact ⟨d, d1, d2⟩
  | n + 2, o, .pr x y, h, hn, hf => by
    simp only [arB, Bool.and_eq_true] at h
    obtain ⟨⟨h1, h2⟩, h3⟩ := h
    have h2 := Nat.eq_of_beq_eq_true h2
    simp only [sz] at hn
    obtain ⟨z, hz⟩ := hf o (Nat.le_refl _) (by omega)
    obtain ⟨d, d1, d2⟩ := ih _ _ _ h1 hz
    have hm : (o + 1) * P.cellsOf e = o * P.cellsOf e + P.cellsOf e := Nat.succ_mul ..
    obtain ⟨e', e1, e2⟩ := ar_RD ih (n + 1) (o + 1) y h3 (by rw [hm]; omega) fun i hi hi' => hf i (by omega) (by omega)
    refine ⟨(d, e'), ⟨d1, e1⟩, ?_⟩
    simp only [RD]
    refine ⟨_, _, ?_, d2, e2⟩
    rw [hm, ← List.drop_drop, List.take_append_drop]
  | _ + 2, _, .i _, h, _, _ => by simp [arB] at h
  | _ + 2, _, .b, h, _, _ => by simp [arB] at h
  | _ + 2, _, .sl _, h, _, _ => by simp [arB] at h

theorem choose_list {α : Type} {n : Nat} {p : Nat → α → Prop} (h : ∀ i, i < n → ∃ x, p i x) : ∃ l : List α, l.length = n ∧ ∀ i (hi : i < l.length), p i l[i] := by
  induction n with
  | zero => exact ⟨[], rfl, fun i hi => absurd hi (Nat.not_lt_zero _)⟩
  | succ n ih =>
    obtain ⟨l, h1, h2⟩ := ih fun i hi => h i (by omega)
    obtain ⟨x, hx⟩ := h n (Nat.lt_succ_self n)
    refine ⟨l ++ [x], by simp [h1], fun i hi => ?_⟩
    by_cases e : i < l.length
    · rw [List.getElem_append_left e]; exact h2 i e
    · have : i = l.length := by simp at hi; omega
      subst this
      rw [List.getElem_concat_length rfl]
      rw [h1]; exact hx

/-- What is read is data. -/
theorem trod_RD : ∀ (m : Nat) {T : TypeId} {t : Ty} {fuel : Nat} {cs : List Value} {x : DataW H × List MemPlace}, tyB P m T t = true → DataW.trod enc P w base sp hd fuel T cs = some x →
    ∃ d : D t, wfD t d ∧ RD w (fun b => b < w.heap.size) t d cs
  | 0, _, _, _, _, _, h, _ => by cases h
  | m + 1, T, t, fuel, cs, x, h, hx => by
    have ih : ∀ fuel T t cs x, tyB P m T t = true → DataW.trod enc P w base sp hd fuel T cs = some x → ∃ d : D t, wfD t d ∧ RD w (fun b => b < w.heap.size) t d cs := fun _ _ _ _ _ h hx => trod_RD m h hx
    unfold tyB at h
    split at h
    · rename_i hu
      split at h
      · obtain ⟨b, rfl⟩ : ∃ b, cs = [.bool b] := by
          cases fuel with
          | zero => simp [DataW.trod] at hx
          | succ n =>
            unfold DataW.trod at hx
            rw [hu] at hx
            split at hx <;> simp_all
        exact ⟨b, trivial, rfl⟩
      · cases h
    · rename_i k hu
      split at h
      · rename_i k'
        have := ikEq_eq h
        subst this
        obtain ⟨n, rfl, hn⟩ : ∃ n, cs = [.int k n] ∧ (Lit.int k n).wf = true := by
          cases fuel with
          | zero => simp [DataW.trod] at hx
          | succ n =>
            unfold DataW.trod at hx
            rw [hu] at hx
            split at hx <;> simp_all
        simp only [Lit.wf, Bool.and_eq_true, decide_eq_true_eq] at hn
        have hz := z_of hn.1
        refine ⟨IK.of k n, ?_, ?_⟩
        · simp only [wfD, hz]; exact hn
        · simp only [RD, hz]
      · cases h
    · rename_i e hu
      split at h
      · rename_i u
        simp only [Bool.and_eq_true] at h
        obtain ⟨h1, h2⟩ := h
        have h2 := Nat.eq_of_beq_eq_true h2
        rcases Go.Deep.open_slice hu hx with ⟨rfl, _⟩ | ⟨a, len, cap, m', n, Dd, Pl, rfl, _, hl, hm, hm', _, hrow⟩
        · exact ⟨[], ⟨Nat.zero_le _, fun x hx => absurd hx List.not_mem_nil⟩, none, 0, rfl, Nat.le_refl _, fun h => absurd rfl h⟩
        · have hrow' : ∀ i, i < len → ∃ d : D u, wfD u d ∧ ∃ cs', w.cells? base (a.add (i * P.cellsOf e)) (P.cellsOf e) = some cs' ∧ RD w (fun b => b < w.heap.size) u d cs' := by
            intro i hi
            obtain ⟨cs', c1, c2⟩ := hrow i (by rw [hm']; split <;> omega)
            obtain ⟨d, d1, d2⟩ := ih _ _ _ _ _ h1 c2
            exact ⟨d, d1, cs', c1, d2⟩
          obtain ⟨xs, x1, x2⟩ := choose_list hrow'
          refine ⟨xs, ⟨by rw [x1]; omega, fun x hx => ?_⟩, ?_⟩
          · obtain ⟨i, hi, rfl⟩ := List.getElem_of_mem hx
            exact (x2 i hi).1
          · simp only [RD]
            refine ⟨some a, cap, by rw [x1], by rw [x1]; exact hl, fun hne => ?_⟩
            have h0 : 0 < xs.length := List.length_pos_iff.2 hne
            obtain ⟨b, off, spot⟩ := a
            have hpos := sz_pos u
            have hspot : spot = none := by
              obtain ⟨_, cs', c1, c2⟩ := x2 0 h0
              obtain ⟨_, c3, c4⟩ := World.cells?_some c1
              have h5 := c4 0 (by omega)
              rw [List.getElem?_eq_getElem (by omega)] at h5
              have h6 := World.cell?_spot h5
              simpa [Addr.add] using h6
            subst hspot
            have cellAt : ∀ i (hi : i < xs.length), ∃ cs', RowAt w b (off + i * sz u) cs' ∧ RD w (fun b => b < w.heap.size) u xs[i] cs' := by
              intro i hi
              obtain ⟨_, cs', c1, c2⟩ := x2 i hi
              obtain ⟨_, c3, c4⟩ := World.cells?_some c1
              rw [h2] at c3 c4
              refine ⟨cs', fun j hj => ?_, c2⟩
              have h5 := c4 j (by omega)
              rw [add_plain, add_plain, List.getElem?_eq_getElem hj] at h5
              exact h5
            refine ⟨b, off, rfl, ?_, fun j hj => cellAt j hj⟩
            obtain ⟨cs', r1, r2⟩ := cellAt 0 h0
            refine r1.lt fun e => ?_
            have := r2.length
            rw [e] at this
            simp at this
            omega
      · cases h
    · rename_i fs hu
      simp only [Bool.and_eq_true] at h
      obtain ⟨h1, h2⟩ := h
      have h2 := Nat.eq_of_beq_eq_true h2
      obtain ⟨xs, n, _, _, hl, hlen, hf⟩ := DataW.trod_struct hu hx
      have := fl_RD (ih n) (all := cs) fs.toList 0 t h1 (by omega) fun f hf' => by
        obtain ⟨i, hi, rfl⟩ := List.getElem_of_mem hf'
        have hi' : i < fs.size := by simpa using hi
        have := hf i (fs[i]) (by simp [hi'])
        rw [List.getElem?_eq_getElem (by omega)] at this
        exact ⟨_, by simpa using this⟩
      simpa using this
    · rename_i n e hu
      simp only [Bool.and_eq_true] at h
      obtain ⟨h1, h2⟩ := h
      have h2 := Nat.eq_of_beq_eq_true h2
      obtain ⟨xs, n', _, _, hl, hlen, hf⟩ := DataW.trod_array hu hx
      have := ar_RD (fun t cs x => ih n' e t cs x) (all := cs) n 0 t h1 (by omega) fun i _ hi => by
        have := hf i (by omega)
        rw [List.getElem?_eq_getElem (by omega)] at this
        exact ⟨_, this⟩
      simpa using this
    · cases h

/-- The context of a call from outside: all memory that is there may be read. -/
def ph0 : Ph := ⟨fun _ => none, fun _ _ => False⟩
def bs0 (w : World) : Bs := fnBs w (fun b => b < w.heap.size) ph0 0
def cx0 (w : World) : Cx := cx (bs0 w) ph0 (preS []) w
theorem ok0 {w : World} {b : Nat} (h : b < w.heap.size) : (cx0 w).ok .old b := by
  refine ⟨?_, Or.inl h⟩
  rintro ⟨id, h1, _⟩
  exact h1 rfl
theorem hm0 (w : World) : HM (bs0 w) ph0 (preS []) w := by
  have hn : ∀ i, Fw.hl i (preS []).h = none := fun _ => rfl
  refine ⟨fun id h => ?_, fun id b h => ?_, fun i j b h => ?_, fun i b h => ?_, fun i b h => ?_, Nat.le_refl _, Keeps.refl _ _ _, fun i h => absurd h (Nat.not_lt_zero i)⟩
  · obtain ⟨x, hx⟩ := h
    cases hx
  · rw [hn] at h; cases h
  · exact absurd (hn i) h
  · exact absurd (hn i) h
  · exact absurd (hn i) h
/-- A law's contract, from outside. -/
theorem Fn.law {f : FuncId} {args : List AV} (h : Fw.Fn P f args [] (.val (.bool true)) []) {vs : List Value} (hR : RL (cx0 w) args vs) :
    Calls P f vs.toArray w fun e w' => e = .returned (.bool true) ∧ Below w.heap.size w w' := by
  refine (h.2 w _ ph0 vs (hm0 w) hR).mono ?_
  rintro e w' ⟨v, φ', rfl, _, h3, h4⟩
  have e := R.val_inv h4
  subst e
  refine ⟨rfl, h3.kp.os, h3.kp.tape, h3.kp.output, h3.kp.size, fun k hk => h3.kp.block k hk ?_⟩
  rintro ⟨i, hi, _⟩
  exact absurd hi (Nat.not_lt_zero i)

theorem trodAll_stays {W W' : World} (hl : laidOutB P = true) (hb : Below W.heap.size W W') : ∀ {ts : List TypeId} {vs : List Value} {ds : List (DataW H)} {ps : List MemPlace}, (∀ t ∈ ts, P.readableRec t = true ∧ t < P.types.size) →
    DataW.TrodAll enc P W 0 (fun _ => true) true ts vs ds ps → (∀ x ∈ ps, x.block < W.heap.size) → DataW.TrodAll enc P W' 0 (fun b => decide (b < W.heap.size)) true ts vs ds ps
  | [], [], [], _, _, h, _ => h
  | t :: ts, v :: vs, d :: ds, _, hr, ⟨p, q, h1, h2, e⟩, hlt => by
    subst e
    exact ⟨p, q, Below.trod hl (hr t (by simp)).1 (hr t (by simp)).2 h1 hb (fun x hx => hlt x (by simp [hx])), trodAll_stays hl hb (fun t ht => hr t (by simp [ht])) h2 (fun x hx => hlt x (by simp [hx])), rfl⟩

/-- A law, from outside: it returns true, its arguments read as they did. -/
theorem law_lifted {C : Checked} {os : Os} {f : FuncId} {fn : Func} {s : ChangeSpec} {conds : List PathCond} {T : TypeId} (own : ownKnob C.prog.godebug = none) (started : os.Started) (noInit : C.prog.inits.idxOf? f = none) (hfn : C.prog.funcs[f]? = some fn)
    (witness : ∃ (w : World) (tape : Tape) (i : Input), w.os = os ∧ (w.forCall tape i).Shaped C.prog ∧ i.vars = [] ∧ Input.okWide C.prog (w.forCall tape i) .any w.heap.size f i ∧
      s.pre6 enc C.prog fn conds false (w.forCall tape i).memory i.args ∧ ({} : Assume).holds C.prog (lone (Frame.enter C.prog f i.args .normal) [] (w.forCall tape i)))
    (hl : laidOutB C.prog = true) (hr : (fn.params.toList.all fun t => C.prog.readableRec t && decide (t < C.prog.types.size)) = true) (hv : s.vars = [])
    (hs : ∀ ds : List (DataW H), ds.length = fn.params.toList.length → (s.fn H ds).results = [.lit (.bool true)] ∧ (s.fn H ds).args = ds ∧ (s.fn H ds).vars = [])
    (hres : fn.resultTypes.toList = [T]) (hT : C.prog.underlying T = some .bool)
    (walk : ∀ (W : World) (base : Nat) (args : Array Value) (ds : List (DataW H)) (ps : List MemPlace), (∀ (j : Nat) t v, fn.params[j]? = some t → args[j]? = some v → Value.okWide C.prog W .any base t v) →
      DataW.TrodAll enc C.prog W 0 (fun _ => true) true fn.params.toList args.toList ds ps → Calls C.prog f args W fun e w' => e = .returned (.bool true) ∧ Below W.heap.size W w') :
    ReturnsInHanded {} C os f .any (s.pre6 enc C.prog fn conds false) (s.post enc C.prog fn false true false false) := by
  refine returnsInHanded_of_change own started noInit hfn witness ?_
  intro W base args ds gs before hval hW _ _
  have hW' := hW
  obtain ⟨p, q, hA, hV, rfl, _, _⟩ := hW
  rw [hv] at hV
  obtain ⟨rfl, rfl⟩ := trodVars_none hV
  have hlen := (trodAll_length hA).2
  obtain ⟨s1, s2, s3⟩ := hs ds hlen
  refine (walk W base args ds p hval hA).mono ?_
  rintro e w' ⟨rfl, hb⟩
  have hlt : ∀ x ∈ p, x.block < W.heap.size := fun x hx => by simpa using hW'.lt x (by simpa using hx)
  have hsz : fn.resultTypes.size = 1 := by rw [← Array.length_toList, hres]; rfl
  refine ⟨_, rfl, ds, [], p ++ [], [], p, [], hW', ?_, ?_, ?_, hb.frame _, fun h => by cases h⟩
  · rw [List.append_nil, s1, hres, hsz]
    exact trodAll_mk1 ⟨1, by simp [DataW.trod, Value.cells, hT]⟩
  · rw [List.append_nil, s2]
    exact trodAll_stays hl hb (fun t ht => by
      have := List.all_eq_true.1 hr t ht
      simpa using this) hA hlt
  · rw [List.append_nil, s3, hv]; rfl
end
end Go.Fw
namespace Go.Proofs.Ytbgnnpbcifgckaa
open Go Go.Fw Go.RowKit Go.ChangeShapes Go.WideShapes Go.ChangeAt
theorem own : ownKnob Try.prog.godebug = none := by kernel_rfl
theorem laid : laidOutB Try.prog = true := by kernel_rfl
abbrev draftT : Ty := .pr (.sl (.i .u8)) (.pr (.sl a4T) .b)
theorem ty25 : tyB Try.prog 9 25 draftT = true := by kernel_rfl
theorem ty46 : tyB Try.prog 9 46 (.pr (.i .u8) (.pr (.i .u8) (.pr (.i .u8) (.pr (.i .u8) (.pr (.i .u8) (.pr (.i .u8) (.pr (.i .u8) (.i .u8)))))))) = true := by kernel_rfl
abbrev a8T : Ty := .pr (.i .u8) (.pr (.i .u8) (.pr (.i .u8) (.pr (.i .u8) (.pr (.i .u8) (.pr (.i .u8) (.pr (.i .u8) (.i .u8)))))))
def list8 (d : D a8T) : List Nat := [d.1, d.2.1, d.2.2.1, d.2.2.2.1, d.2.2.2.2.1, d.2.2.2.2.2.1, d.2.2.2.2.2.2.1, d.2.2.2.2.2.2.2]
theorem av8 {c : Cx} {o : Org} {ok : Nat → Prop} {d : D a8T} {cs : Array Value} (h : RD c.w ok a8T d cs.toList) : R c (.av o (.i .u8) (list8 d)) (.agg cs) := by
  simp only [RD] at h
  obtain ⟨c1, _, h, rfl, c2, _, rfl, rfl, c3, _, rfl, rfl, c4, _, rfl, rfl, c5, _, rfl, rfl, c6, _, rfl, rfl, c7, _, rfl, rfl, rfl⟩ := h
  refine .av ((list8 d).map fun y => [.int .u8 (IK.z .u8 y)]) ?_ (by rw [List.length_map]) fun j hj => ?_
  · rw [h]; rfl
  · simp only [List.getElem_map, RD]
theorem wf8 {d : D a8T} (h : wfD a8T d) : ∀ x ∈ list8 d, x ≤ 255 := by
  simp only [wfD] at h
  have hm : IntKind.u8.max = 255 := by decide
  simp only [hm, IK.z] at h
  intro x hx
  simp only [list8, List.mem_cons, List.not_mem_nil, or_false] at hx
  omega
theorem read_draft {d : D draftT} (h : wfD draftT d) : (∀ c ∈ (d.1 : List Nat), c ≤ 255) ∧ (∀ q ∈ (d.2.1 : List Q4), q.1 ≤ 255 ∧ q.2.1 ≤ 255 ∧ q.2.2.1 ≤ 255 ∧ q.2.2.2 ≤ 255) ∧ List.length (d.1 : List Nat) ≤ 9223372036854775807 ∧ List.length (d.2.1 : List Q4) ≤ 9223372036854775807 := by
  simp only [wfD] at h
  have hm : IntKind.u8.max = 255 := by decide
  have hl : maxLen = 9223372036854775807 := by decide
  simp only [hm, hl, IK.z] at h
  refine ⟨fun c hc => ?_, fun q hq => ?_, h.1.1, h.2.1.1⟩
  · exact Int.ofNat_le.1 (h.1.2 c hc).2
  · obtain ⟨q1, q2, q3, q4⟩ := h.2.1.2 q hq
    exact ⟨Int.ofNat_le.1 q1.2, Int.ofNat_le.1 q2.2, Int.ofNat_le.1 q3.2, Int.ofNat_le.1 q4.2⟩
theorem ty5 : tyB Try.prog 9 5 (.i .u8) = true := by kernel_rfl
theorem okWide_array {P : Program} {w : World} {r : Reach} {base : Nat} {t : TypeId} {v : Value} {n : Nat} {e : TypeId} (ht : P.underlying t = some (.array n e)) (h : Value.okWide P w r base t v) : ∃ cs, v = .agg cs ∧ cs.size = P.cellsOf t := by
  simp only [Value.okWide, ht] at h
  obtain ⟨cs, h1, h2, _⟩ := h
  exact ⟨cs, h1, h2⟩
abbrev bendT : Ty := .pr (.i .u8) (.pr (.i .u8) (.i .i64))
abbrev Bd : Type := Nat × Nat × Int
abbrev cT : Ty := .pr (.sl (.i .i64)) (.sl gT)
abbrev Cc : Type := List Int × List Gate
abbrev b2T : Ty := .pr bendT bendT
theorem ty28 : tyB Try.prog 9 28 b2T = true := by kernel_rfl
theorem ty32 : tyB Try.prog 9 32 cT = true := by kernel_rfl
theorem ty29 : tyB Try.prog 9 29 (.sl (.i .i64)) = true := by kernel_rfl
def list2 (d : D b2T) : List Bd := [d.1, d.2]
theorem av2 {c : Cx} {o : Org} {ok : Nat → Prop} {d : D b2T} {cs : Array Value} (hok : ∀ b, ok b → c.ok o b) (h : RD c.w ok b2T d cs.toList) : R c (.av o bendT (list2 d)) (.agg cs) := by
  rw [RD] at h
  obtain ⟨c1, c2, h, h1, h2⟩ := h
  refine .av [c1, c2] (by rw [h]; simp) rfl fun j hj => ?_
  match j, hj with
  | 0, _ => exact h1.imp hok
  | 1, _ => exact h2.imp hok
theorem wf2 {d : D b2T} (h : wfD b2T d) : ∀ b ∈ list2 d, b.1 ≤ 255 ∧ b.2.1 ≤ 255 ∧ b.2.2 ≤ 9223372036854775807 := by
  simp only [wfD] at h
  have hm : IntKind.u8.max = 255 := by decide
  have hi : IntKind.i64.max = 9223372036854775807 := by decide
  simp only [hm, hi, IK.z] at h
  obtain ⟨⟨h1, h2, h3⟩, h4, h5, h6⟩ := h
  intro x hx
  simp only [list2, List.mem_cons, List.not_mem_nil, or_false] at hx
  rcases hx with rfl | rfl
  · exact ⟨Int.ofNat_le.1 h1.2, Int.ofNat_le.1 h2.2, h3.2⟩
  · exact ⟨Int.ofNat_le.1 h4.2, Int.ofNat_le.1 h5.2, h6.2⟩
theorem read_cc {d : D cT} (h : wfD cT d) : List.length (d.1 : List Int) ≤ 9223372036854775807 ∧ List.length (d.2 : List Gate) ≤ 9223372036854775807 ∧ (∀ g ∈ (d.2 : List Gate), g.2.2.2.2.length ≤ 9223372036854775807) ∧ ∀ k ∈ (d.1 : List Int), k ≤ 9223372036854775807 := by
  simp only [wfD] at h
  have hi : IntKind.i64.max = 9223372036854775807 := by decide
  have hl : maxLen = 9223372036854775807 := by decide
  simp only [hi, hl, IK.z] at h
  exact ⟨h.1.1, h.2.1, fun g hg => (h.2.2 g hg).2.2.2.2.1, fun k hk => (h.1.2 k hk).2⟩
theorem rd_sl {c : Cx} {o : Org} {t : Ty} {x : D (.sl t)} {v : Value} (h : RD c.w (c.ok o) (.sl t) x [v]) : R c (.dat o t x) v := by
  have := RD.cells (c := c) (o := o) h
  cases this with
  | cons h _ => exact h
section
variable {H : Type} {enc : TypeId × Value → H} {P : Program} {w : World} {base : Nat} {spare : Nat → Bool} {held : Bool}
theorem trodAll_five {t0 t1 t2 t3 t4 : TypeId} {args : Array Value} {ds : List (DataW H)} {ps : List MemPlace} (h : DataW.TrodAll enc P w base spare held [t0, t1, t2, t3, t4] args.toList ds ps) :
    ∃ v0 v1 v2 v3 v4 d0 d1 d2 d3 d4 p0 p1 p2 p3 p4, args = #[v0, v1, v2, v3, v4] ∧ ds = [d0, d1, d2, d3, d4] ∧ DataW.Trod enc P w base spare held t0 v0 d0 p0 ∧ DataW.Trod enc P w base spare held t1 v1 d1 p1 ∧ DataW.Trod enc P w base spare held t2 v2 d2 p2 ∧ DataW.Trod enc P w base spare held t3 v3 d3 p3 ∧ DataW.Trod enc P w base spare held t4 v4 d4 p4 := by
  obtain ⟨v0, vs, d0, ds', p0, q, hargs, rfl, rfl, h0, hr⟩ := trodAll_cons h
  obtain ⟨v1, vs, d1, ds', p1, q, rfl, rfl, rfl, h1, hr⟩ := trodAll_cons hr
  obtain ⟨v2, vs, d2, ds', p2, q, rfl, rfl, rfl, h2, hr⟩ := trodAll_cons hr
  obtain ⟨v3, vs, d3, ds', p3, q, rfl, rfl, rfl, h3, hr⟩ := trodAll_cons hr
  obtain ⟨v4, vs, d4, ds', p4, q, rfl, rfl, rfl, h4, hr⟩ := trodAll_cons hr
  obtain ⟨rfl, rfl, rfl⟩ := trodAll_nil hr
  exact ⟨v0, v1, v2, v3, v4, d0, d1, d2, d3, d4, p0, p1, p2, p3, p4, by cases args; simp_all, rfl, h0, h1, h2, h3, h4⟩
end
end Go.Proofs.Ytbgnnpbcifgckaa
namespace Go.Proofs.Ytbgnnpbcifgckaa
open Go Go.Fw Go.RowKit
set_option maxRecDepth 100000
set_option maxHeartbeats 4000000
theorem sample_own : Fw.Fn Try.prog 27 [] [] (.agg [.dat .fr (.i .i64) [2], .own 0]) [(0, some (.arr .old gT sampleG))] := by
  refine fnR_go env_ok mixed Try.func27 (c := Try.f27.body.get rfl) rfl (by kernel_rfl) [] [] [(0, [1])] rfl ?_
  repeat' first | apply And.intro | (intro h; (cases h; done)) | intro _ | exact True.intro | (show Region.lexB _ _ = true; kernel_rfl) | refine CallK.fn [] (is_c _ _) rfl rfl rfl rfl rfl trivial ?_ | refine CallK.fn [] (number_c _) rfl rfl rfl rfl rfl trivial ?_ | refine CallK.fn [96] (product_c _) (by exact rfl) (by exact rfl) (by exact rfl) (by exact rfl) (by exact rfl) ?_ ?_ | refine CallK.fn [128] (product_c _) (by exact rfl) (by exact rfl) (by exact rfl) (by exact rfl) (by exact rfl) ?_ ?_ | refine CallK.fn [160] (sum_c _) (by exact rfl) (by exact rfl) (by exact rfl) (by exact rfl) (by exact rfl) ?_ ?_
  all_goals rfl
theorem sum_cd (l : List Int) : Fw.Fn Try.prog 28 [.dat .old (.i .i64) l] [] (.agg [.val (.int .i64 3), .val (.int .i64 0), .val (.int .i64 0), .val (.int .i64 0), .dat .old (.i .i64) l]) [] := by
  refine fnR_go env_ok mixed Try.func28 (c := Try.f28.body.get rfl) rfl (by kernel_rfl) [] [] [] rfl ?_
  repeat' first | apply And.intro | (intro h; (cases h; done)) | intro _ | exact True.intro | (show Region.lexB _ _ = true; kernel_rfl)
  all_goals rfl
def roughG : List Gate := sampleG.take 6 ++ [(3, 0, 0, 0, [2, 4, 5])]
theorem rough_right : rightB [2] roughG = true := by rfl
theorem rough_args {m : Nat} (h : 3 ≤ m) : ∀ g ∈ roughG, g.2.2.2.2.length ≤ m := by
  intro g hg
  have : g.2.2.2.2.length ≤ 3 := by
    simp only [roughG, sampleG, List.take_succ_cons, List.take_zero, List.cons_append, List.nil_append, List.mem_cons, List.not_mem_nil, or_false] at hg
    rcases hg with rfl | rfl | rfl | rfl | rfl | rfl | rfl <;> decide
  omega
theorem rough_apart : apartB [2] roughG = false := apartB_false (x := [0]) ⟨by decide, by decide, trivial⟩ (j := 6) (by decide) (by decide)
theorem sample_der0 : derF [2] sampleG [0] = ([[3, 5]], 0) := by
  unfold derF
  rw [if_neg (by rw [sample_right]; decide), if_neg (by decide)]
  have hv : valsO [0] sampleG [] = some [1, 0, 3, 5, 3, 0, 3] := by rfl
  rw [hv]
  have hs : scat [1, 0, 3, 5, 3, 0, 3] sampleG sampleG.length = [3, 5, 1, 0, 1, 1, 1] := by rfl
  have ho : outS [2] [1, 0, 3, 5, 3, 0, 3] sampleG sampleG.length = [[3, 5]] := by rfl
  dsimp only
  rw [if_pos, ho]
  refine ⟨fun i => ?_, fun v x => ?_⟩
  · rw [hs]
    match i with
    | 0 | 1 | 2 | 3 | 4 | 5 | 6 => decide
    | n + 7 => exact (by decide : (0 : Int) ≤ 4611686018427387903)
  · rw [ho]
    match v, x with
    | 0, 0 | 0, 1 => decide
    | 0, n + 2 => exact (by decide : (0 : Int) ≤ 4611686018427387903)
    | n + 1, x => simp
theorem der_big {cards : List Int} {gates : List Gate} {input vs : List Int} (hr : rightB cards gates = true) (hi : inputB cards input = true) (hv : valsO input gates [] = some vs) {i : Nat} (h : 4611686018427387903 < (scat vs gates gates.length).getD i 0) : derF cards gates input = ([], 6) := by
  unfold derF
  rw [if_neg (by rw [hr]; decide), if_neg (by rw [hi]; decide), hv]
  dsimp only
  rw [if_neg]
  intro hok
  have := hok.1 i
  omega
abbrev one : Gate := (1, 0, 0, 1, [])
def badL (R : List Gate) : List Cc := [([2], []), ([], [one]), ([5], [one]), ([0], [one]), ([4, 4, 4, 4, 4, 2], [one]), ([1, 1, 1, 1, 1, 1, 1, 1, 1], [one]), ([2], [(3, 0, 0, 0, [0])]), ([2], [one, (3, 0, 0, 0, [])]), ([2], [one, (3, 0, 0, 0, [0, 0])]), ([2], [one, one, (4, 0, 0, 0, [1, 0])]), ([2], [(2, 1, 0, 0, [])]), ([2], [(2, 0, 2, 0, [])]), ([2], [(1, 0, 0, -1, [])]), ([2], [(1, 0, 0, 4611686018427387904, [])]), ([2], [(0, 0, 0, 0, [])]), ([2], [(5, 0, 0, 0, [])]), ([2], [(1, 1, 0, 0, [])]), ([2], [(2, 0, 0, 1, [])]), ([2], [one, (3, 0, 1, 0, [0])]), ([2], R)]
theorem rep_args (n : Nat) : ∀ g ∈ List.replicate n one, g.2.2.2.2.length ≤ 10 := fun g h => by rw [List.eq_of_mem_replicate h]; decide
theorem bad_ok : ∀ c ∈ badL (List.replicate 4001 one), rightB c.1 c.2 = false ∧ c.1.length ≤ 5000 ∧ c.2.length ≤ 5000 ∧ ∀ g ∈ c.2, g.2.2.2.2.length ≤ 10 := by
  intro c hc
  simp only [badL, List.mem_cons, List.not_mem_nil, or_false] at hc
  rcases hc with rfl | rfl | rfl | rfl | rfl | rfl | rfl | rfl | rfl | rfl | rfl | rfl | rfl | rfl | rfl | rfl | rfl | rfl | rfl | rfl
  iterate 19 (exact ⟨by decide, by decide, by decide, by decide⟩)
  refine ⟨?_, by decide, by rw [List.length_replicate]; decide, rep_args _⟩
  have h : ¬ (List.replicate 4001 one).length ≤ 4000 := by rw [List.length_replicate]; decide
  rw [rightB, decide_eq_false h]
  simp only [Bool.and_false, Bool.false_and]
def edgeG : List Gate := [(1, 0, 0, 4611686018427387903, []), one, (1, 0, 0, 0, []), (3, 0, 0, 0, [0, 2]), (4, 0, 0, 0, [0, 1])]
def overG : List Gate := [(1, 0, 0, 4611686018427387903, []), one, (3, 0, 0, 0, [0, 1])]
abbrev half : Gate := (1, 0, 0, 2147483648, [])
def twiceG : List Gate := [half, half, (1, 0, 0, 0, []), (4, 0, 0, 0, [0, 1]), (4, 0, 0, 0, [0, 1, 2])]
def noneG : List Gate := [half, half, (1, 0, 0, 0, []), (4, 0, 0, 0, [0, 1, 2])]
def steepG : List Gate := [(2, 0, 0, 0, []), half, half, (4, 0, 0, 0, [0, 1, 2])]
theorem most_right : rightB [4, 4, 4, 4, 4, 1, 1, 1] (List.replicate 4000 one) = true := by
  refine (rightB_true (by decide) (by rw [List.length_replicate]; decide) (by rw [List.length_replicate]; exact Nat.le_refl _) fun m hm => ?_).symm
  rw [List.length_replicate] at hm
  rw [List.getD_eq_getElem?_getD, List.getElem?_replicate, if_pos hm, Option.getD_some]
  rfl
theorem known_fn : Fw.Fn Try.prog 8 [] [] (.val (.bool true)) [] := by
  have d0 := Derive_fn [2] sampleG [0] (by decide) (by decide) (by decide) (sample_args (by decide))
  rw [sample_der0] at d0
  have e2 := eval_fn [2] sampleG [2] (by decide) (by decide) (by decide) (sample_args (by decide))
  rw [show evalF [2] sampleG [2] = (0, 2) from rfl] at e2
  have e3 := eval_fn [2] sampleG [] (by decide) (by decide) (by decide) (sample_args (by decide))
  rw [show evalF [2] sampleG [] = (0, 2) from rfl] at e3
  have d4 := Derive_fn [2] sampleG [-2] (by decide) (by decide) (by decide) (sample_args (by decide))
  rw [show derF [2] sampleG [-2] = ([], 2) from by unfold derF; rw [if_neg (by rw [sample_right]; decide), if_pos (by decide)]] at d4
  have k5 := kinds_fn [2] roughG (by decide) (by decide) (rough_args (by decide)) rough_right
  rw [rough_apart, show smF (varsF roughG) roughG roughG.length = false from rfl, show dcF (varsF roughG) roughG roughG.length = true from rfl] at k5
  have r1 := repeat_fn (1, 0, 0, 1, []) 4001 (by decide) (by decide)
  have r2 := repeat_fn (1, 0, 0, 1, []) 4000 (by decide) (by decide)
  obtain ⟨R1, hR1⟩ : ∃ R, R = List.replicate 4001 one := ⟨_, rfl⟩
  obtain ⟨R2, hR2⟩ : ∃ R, R = List.replicate 4000 one := ⟨_, rfl⟩
  rw [← hR1] at r1
  rw [← hR2] at r2
  have j1 := eval_fn [2] overG [0] (by decide) (by decide) (by decide) (by decide)
  rw [show evalF [2] overG [0] = (0, 6) from rfl] at j1
  have j2 := eval_fn [2] twiceG [0] (by decide) (by decide) (by decide) (by decide)
  rw [show evalF [2] twiceG [0] = (0, 6) from rfl] at j2
  have j3 := Derive_fn [2] noneG [0] (by decide) (by decide) (by decide) (by decide)
  rw [der_big (cards := [2]) (gates := noneG) (input := [0]) (vs := [2147483648, 2147483648, 0, 0]) rfl rfl rfl (i := 2) (by decide)] at j3
  have j4 := Derive_fn [2] steepG [1] (by decide) (by decide) (by decide) (by decide)
  rw [der_big (cards := [2]) (gates := steepG) (input := [1]) (vs := [0, 2147483648, 2147483648, 0]) rfl rfl rfl (i := 0) (by decide)] at j4
  have c1 := check_fn [4, 4, 4, 4, 4, 1, 1, 1] (List.replicate 4000 one) (by decide) (by rw [List.length_replicate]; decide) (fun g h => Nat.le_trans (rep_args _ g h) (by decide))
  rw [if_pos most_right, ← hR2] at c1
  have v1 := value_fn [2] edgeG 4611686018427387903 [1] (by decide) (by decide) (by decide) (by decide)
  rw [show evalF [2] edgeG [1] = (4611686018427387903, 0) from rfl, decide_eq_true rfl] at v1
  have v2 := value_fn [2] noneG 0 [0] (by decide) (by decide) (by decide) (by decide)
  rw [show evalF [2] noneG [0] = (0, 0) from rfl, decide_eq_true rfl] at v2
  have v3 := value_fn [2] steepG 0 [1] (by decide) (by decide) (by decide) (by decide)
  rw [show evalF [2] steepG [1] = (0, 0) from rfl, decide_eq_true rfl] at v3
  have ht := sametable_fn [[3, 5]] [[3, 5]] (by decide) (by decide)
  rw [decide_eq_true rfl] at ht
  have hbk := bad_ok
  rw [← hR1] at hbk
  obtain ⟨L, hL⟩ : ∃ L, L = badL R1 := ⟨_, rfl⟩
  have hLl : L.length = 20 := by rw [hL]; rfl
  rw [← hL] at hbk
  refine fn_go env_ok mixed Try.func8 (c := Try.f8.body.get rfl) rfl (by kernel_rfl) [] rfl ?_
  repeat' first | apply And.intro | (intro h; (cases h; done)) | intro _ | exact True.intro | (show Region.lexB _ _ = true; kernel_rfl) | refine CallK.fn [] wakes_fn rfl rfl rfl rfl rfl trivial ?_ | refine CallK.fn [] sample_own rfl rfl rfl rfl rfl ?_ ?_ | refine CallK.fn [] d0 rfl rfl rfl rfl rfl trivial ?_ | refine CallK.fn [] e2 rfl rfl rfl rfl rfl trivial ?_ | refine CallK.fn [] e3 rfl rfl rfl rfl rfl trivial ?_ | refine CallK.fn [] d4 rfl rfl rfl rfl rfl trivial ?_ | refine CallK.fn [] (number_c _) rfl rfl rfl rfl rfl trivial ?_ | refine CallK.fn [] (is_c _ _) rfl rfl rfl rfl rfl trivial ?_ | refine CallK.fn [688] (sum_c _) (by exact rfl) (by exact rfl) (by exact rfl) (by exact rfl) (by exact rfl) ?_ ?_ | refine CallK.fn [] k5 rfl rfl rfl rfl rfl trivial ?_ | refine CallK.fn [1312] (sum_c _) (by exact rfl) (by exact rfl) (by exact rfl) (by exact rfl) (by exact rfl) ?_ ?_ | refine CallK.fn [1488] (sum_c _) (by exact rfl) (by exact rfl) (by exact rfl) (by exact rfl) (by exact rfl) ?_ ?_ | refine CallK.fn [1600] (product_c _) (by exact rfl) (by exact rfl) (by exact rfl) (by exact rfl) (by exact rfl) ?_ ?_ | refine CallK.fn [] (sum_cd _) rfl rfl rfl rfl rfl trivial ?_ | refine CallK.fn [2304] r1 (by exact rfl) (by exact rfl) (by exact rfl) (by exact rfl) (by exact rfl) ?_ ?_
  all_goals try first | decide | rfl
  refine ⟨loopI (fun j : Nat => { n := 326, t := [(2, .dat .fr (.sl (.i .i64)) [[3, 5]]), (3, .val (.int .i64 0)), (5, .val (.int .i64 2)), (7, .val (.int .i64 2)), (9, .val (.int .i64 2)), (11, .val (.bool false)), (12, .val (.bool true)), (13, .val (.bool false)), (14, .val (.int .i64 0)), (163, .own 0), (164, .val (.int .i64 (List.length L))), (165, .val (.int .i64 j))], h := [(0, some (.arr .old cT L))], nx := 1 }) (fun j => 20 - j) (fun j => Ok (j ≤ 20)),
    loopI.start 0 [] [2, 3, 5, 7, 9, 11, 12, 13, 14, 163, 164, 165] [(163, [])] .fr (by rw [hL]; (repeat' first | apply And.intro | rfl); exact ⟨Nat.zero_le _⟩), ?_⟩
  rintro _ _ ⟨j, rfl, rfl, ⟨hj⟩⟩
  by_cases hjl : j < 20
  · have hc := hbk _ (getD_mem (d := (([], []) : Cc)) (show j < L.length by omega))
    have f1 := eval_fn (L.getD j (([], []) : Cc)).1 (L.getD j (([], []) : Cc)).2 [] (by omega) (by omega) (by decide) (fun g h => Nat.le_trans (hc.2.2.2 g h) (by decide))
    rw [show evalF (L.getD j (([], []) : Cc)).1 (L.getD j (([], []) : Cc)).2 [] = (0, 150) from if_pos hc.1] at f1
    have f2 := check_fn (L.getD j (([], []) : Cc)).1 (L.getD j (([], []) : Cc)).2 (by omega) (by omega) (fun g h => Nat.le_trans (hc.2.2.2 g h) (by decide))
    rw [if_neg (by rw [hc.1]; decide)] at f2
    repeat' first | apply And.intro | (intro h; (cases h; done)) | (intro h; exfalso; simp only [decT, decF, beq_iff_eq, beq_eq_false_iff_ne, ne_eq, Int.toNat_natCast] at h; (try dsimp only [D, IK, dz, gT] at h); first | omega | exact absurd h (by assumption) | exact h (by assumption)) | intro _ | exact True.intro | (show Region.lexB _ _ = true; kernel_rfl) | refine CallK.fn [] f1 rfl rfl rfl rfl rfl trivial ?_ | refine CallK.fn [] f2 rfl rfl rfl rfl rfl trivial ?_ | refine loopI.next (j + 1) [] [2, 3, 5, 7, 9, 11, 12, 13, 14, 163, 164, 165] [(163, [])] .fr ?_
    (all_goals try ((first | (show (_ : Int) ≤ _) | (show (_ : Int) < _) | (show (_ : Nat) ≤ _) | (show (_ : Nat) < _)); (try simp only [Int.toNat_natCast, List.length_cons, List.length_nil, umax64]); (try dsimp only [D, IK, dz, gT]); omega))
    all_goals first | rfl | exact ⟨by omega⟩ | omega
  · repeat' first | apply And.intro | (intro h; (cases h; done)) | (intro h; exfalso; simp only [decT, decF, beq_iff_eq, beq_eq_false_iff_ne, ne_eq, Int.toNat_natCast] at h; (try dsimp only [D, IK, dz, gT] at h); first | omega | exact absurd h (by assumption) | exact h (by assumption)) | intro _ | exact True.intro | (show Region.lexB _ _ = true; kernel_rfl) | refine CallK.fn [] (number_c _) rfl rfl rfl rfl rfl trivial ?_ | refine CallK.fn [] (is_c _ _) rfl rfl rfl rfl rfl trivial ?_ | refine CallK.fn [49] r2 (by exact rfl) (by exact rfl) (by exact rfl) (by exact rfl) (by exact rfl) ?_ ?_ | refine CallK.fn [193] (sum_c _) (by exact rfl) (by exact rfl) (by exact rfl) (by exact rfl) (by exact rfl) ?_ ?_ | refine CallK.fn [225] (product_c _) (by exact rfl) (by exact rfl) (by exact rfl) (by exact rfl) (by exact rfl) ?_ ?_ | refine CallK.fn [369] (sum_c _) (by exact rfl) (by exact rfl) (by exact rfl) (by exact rfl) (by exact rfl) ?_ ?_ | refine CallK.fn [529] (product_c _) (by exact rfl) (by exact rfl) (by exact rfl) (by exact rfl) (by exact rfl) ?_ ?_ | refine CallK.fn [561] (product_c _) (by exact rfl) (by exact rfl) (by exact rfl) (by exact rfl) (by exact rfl) ?_ ?_ | refine CallK.fn [721] (product_c _) (by exact rfl) (by exact rfl) (by exact rfl) (by exact rfl) (by exact rfl) ?_ ?_ | refine CallK.fn [881] (product_c _) (by exact rfl) (by exact rfl) (by exact rfl) (by exact rfl) (by exact rfl) ?_ ?_ | refine CallK.fn [] j1 rfl rfl rfl rfl rfl trivial ?_ | refine CallK.fn [] j2 rfl rfl rfl rfl rfl trivial ?_ | refine CallK.fn [] j3 rfl rfl rfl rfl rfl trivial ?_ | refine CallK.fn [] j4 rfl rfl rfl rfl rfl trivial ?_ | refine CallK.fn [] c1 rfl rfl rfl rfl rfl trivial ?_ | refine CallK.fn [] v1 rfl rfl rfl rfl rfl trivial ?_ | refine CallK.fn [] v2 rfl rfl rfl rfl rfl trivial ?_ | refine CallK.fn [] v3 rfl rfl rfl rfl rfl trivial ?_ | refine CallK.fn [] ht rfl rfl rfl rfl rfl trivial ?_
    all_goals rfl
end Go.Proofs.Ytbgnnpbcifgckaa
namespace Go.Proofs.Ytbgnnpbcifgckaa
open Go Go.Fw Go.RowKit Go.ChangeShapes Go.WideShapes Go.ChangeAt
set_option maxRecDepth 100000 in
theorem known_lifted (os : Os) (started : os.Started) (H : Type) (enc : TypeId × Value → H) :
    ReturnsInHanded {} Try.checked os 8 .any (Rows.circuitKnownSpec.pre6 enc Try.prog Try.f8 Rows.circuitKnownRow.domain false) (Rows.circuitKnownSpec.post enc Try.prog Try.f8 false true false false) := by
  refine law_lifted (C := Try.checked) (T := 4) own started (by kernel_rfl) Try.func8
    (ChangeSpec.witness6 (enc := enc) (C := Try.checked) false ⟨#[], #[], []⟩ 8 (by kernel_rfl) (by kernel_rfl) (by kernel_rfl) (by kernel_rfl))
    laid (by kernel_rfl) rfl (fun ds hd => ?_) rfl rfl ?_
  · match ds, hd with
    | [], _ => exact ⟨rfl, rfl, rfl⟩
  · intro W base args ds ps hval hA
    obtain ⟨rfl, rfl, rfl⟩ := trodAll_none hA
    exact Fn.law (w := W) known_fn (vs := []) .nil
theorem known_over : Rows.circuitKnownRow.holds Try.pinned (OpenSpec.ofChange Rows.circuitKnownSpec) :=
  OpenClaim.holds_of_wide 8 Try.f8 rfl rfl rfl rfl rfl rfl rfl ⟨rfl, rfl, rfl, rfl, rfl⟩ rfl rfl rfl rfl rfl (by kernel_rfl) Try.func8 (by kernel_rfl)
    (of_decide_eq_true (by kernel_rfl)) (by unfold Func.isWrapper; first | (rw [if_pos (by decide +kernel)]; kernel_rfl) | (rw [if_neg (by decide +kernel)]; exact ⟨rfl, rfl⟩))
    (fun os started H enc _ => known_lifted os started H enc)
/-- The statement. -/
theorem circuitKnown_proved : Rows.CircuitKnownSaid := known_over
end Go.Proofs.Ytbgnnpbcifgckaa
