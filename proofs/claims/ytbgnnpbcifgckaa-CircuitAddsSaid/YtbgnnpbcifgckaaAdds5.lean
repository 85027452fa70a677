/- Helpers of Adds, part 5: the executor and contracts of functions. No statement of the seat is proved here, under no condition. -/
import Derived.Test.YtbgnnpbcifgckaaAdds4
set_option linter.all false
namespace Go.Proofs.Ytbgnnpbcifgckaa
open Go Go.Fw Go.RowKit
set_option maxRecDepth 100000
set_option maxHeartbeats 4000000
/-- The union of sets. -/
def orU (l : List Nat) : Nat := l.foldl (· ||| ·) 0
theorem foldl_or (l : List Nat) (a : Nat) : l.foldl (· ||| ·) a = a ||| orU l := by
  induction l generalizing a with
  | nil => simp [orU]
  | cons x l ih => simp only [orU, List.foldl_cons]; rw [ih, ih (0 ||| x), Nat.zero_or, Nat.or_assoc]
theorem orU_snoc (l : List Nat) (x : Nat) : orU (l ++ [x]) = orU l ||| x := by simp [orU]
theorem orU_cons (x : Nat) (l : List Nat) : orU (x :: l) = x ||| orU l := by simp only [orU, List.foldl_cons]; rw [foldl_or, Nat.zero_or]; rfl
def setG (out : List Nat) (g : Gate) : Nat := orU ((if g.1 = 2 then [1 <<< g.2.1.toNat] else []) ++ g.2.2.2.2.map fun a => out.getD a.toNat 0)
def varsF (gates : List Gate) : List Nat := gates.foldl (fun out g => out ++ [setG out g]) []
theorem orU_lt {l : List Nat} (h : ∀ x ∈ l, x < 256) : orU l < 256 := by
  induction l with
  | nil => exact (by decide : orU [] < 256)
  | cons x l ih => rw [orU_cons]; exact Nat.or_lt_two_pow (n := 8) (h x List.mem_cons_self) (ih fun y hy => h y (List.mem_cons_of_mem _ hy))
theorem joined_fn (l : List Nat) (hb : ∀ x ∈ l, x < 256) (hl : l.length ≤ 4611686018427387903) : Fw.Fn Try.prog 55 [.dat .old (.i .u64) l] [] (.un .u64 (orU l)) [] := by
  refine fn_go env_ok mixed Try.func55 (c := Try.f55.body.get rfl) rfl (by kernel_rfl) [] rfl ?_
  repeat' first | apply And.intro | (intro h; (cases h; done)) | intro _ | exact True.intro | (show Region.lexB _ _ = true; kernel_rfl)
  all_goals try omega
  refine ⟨loopI (fun j : Nat => { n := 17, t := [(3, .un .u64 (orU (l.take j))), (6, .dat .old (.i .u64) l), (7, .val (.int .i64 (↑(List.length l)))), (8, .val (.int .i64 j))], h := [], nx := 0 }) (fun j => l.length - j) (fun j => Ok (j ≤ l.length)),
    loopI.start 0 [] [3, 6, 7, 8] [] .fr (by (repeat' first | apply And.intro | rfl); exact ⟨Nat.zero_le _⟩), ?_⟩
  rintro _ _ ⟨j, rfl, rfl, ⟨hj⟩⟩
  have hto : orU (l.take j) < 256 := orU_lt fun x hx => hb x (List.mem_of_mem_take hx)
  have hx : ∀ h : (j : Int) < l.length, orU (l.take (j + 1)) = orU (l.take j) ||| l.getD j 0 := fun h => by
    rw [take_step (by omega), orU_snoc, getD_lt (by omega)]
  repeat' first | apply And.intro | (intro h; (cases h; done)) | intro _ | exact True.intro | (show Region.lexB _ _ = true; kernel_rfl) | refine loopI.next (j + 1) [] [3, 6, 7, 8] [] .fr ?_
  all_goals (try simp only [decT, decF, beq_iff_eq, bne_iff_ne, ne_eq, beq_eq_false_iff_ne, bne_eq_false_iff_eq, Decidable.not_not, Int.toNat_natCast, Bool.not_eq_true', Bool.not_eq_false', Bool.not_eq_true, Bool.not_eq_false, Int.not_lt, Int.not_le] at *; try dsimp only [D, IK, dz] at *)
  all_goals try rw [umax64]
  all_goals try omega
  all_goals by_cases h0 : (j : Int) < l.length
  all_goals try simp only [h0, true_implies, false_implies] at hx
  all_goals try omega
  all_goals first | exact hx.symm | exact ⟨by omega⟩ | (rw [List.take_of_length_le (by omega)]; done) | (have := hb _ (getD_mem (l := l) (v := j) (d := 0) (by omega)); omega)
theorem umax_ok {n : Nat} (h : n < 256) : n ≤ umax .u64 := by rw [umax64]; omega
theorem varsF_snoc (gates : List Gate) (g : Gate) : varsF (gates ++ [g]) = varsF gates ++ [setG (varsF gates) g] := by simp [varsF]
theorem varsF_len (gates : List Gate) : (varsF gates).length = gates.length := by
  unfold varsF
  suffices h : ∀ (gs : List Gate) (o : List Nat), (gs.foldl (fun out g => out ++ [setG out g]) o).length = o.length + gs.length by simpa using h gates []
  intro gs
  induction gs with
  | nil => intro o; rfl
  | cons g gs ih => intro o; rw [List.foldl_cons, ih]; simp; omega
theorem setG_lt {cards : List Int} {i : Int} {out : List Nat} {g : Gate} (hg : gOK cards i g = true) (h8 : cards.length ≤ 8) (ho : ∀ x ∈ out, x < 256) : setG out g < 256 := by
  refine orU_lt fun x hx => ?_
  rcases List.mem_append.1 hx with hx | hx
  · split at hx
    · rename_i h2
      obtain ⟨_, g1, g2, _⟩ := isgate hg h2
      simp only [List.mem_singleton] at hx
      subst hx
      rw [Nat.one_shiftLeft]
      exact Nat.pow_lt_pow_right (by decide) (by omega : g.2.1.toNat < 8)
    · cases hx
  · obtain ⟨a, _, rfl⟩ := List.mem_map.1 hx
    rcases Nat.lt_or_ge a.toNat out.length with h | h
    · exact ho _ (getD_mem h)
    · rw [List.getD_eq_getElem?_getD, List.getElem?_eq_none h]; exact (by decide : (0 : Nat) < 256)
theorem varsT_lt {cards : List Int} {gates : List Gate} (hr : rightB cards gates = true) {j : Nat} (hj : j ≤ gates.length) : ∀ x ∈ varsF (gates.take j), x < 256 := by
  have h8 := (cards_ok hr).1
  have hg := (right_all hr).2
  induction j with
  | zero => intro x hx; exact absurd hx List.not_mem_nil
  | succ j ih =>
    intro x hx
    rw [take_step (by omega), varsF_snoc] at hx
    rcases List.mem_append.1 hx with hx | hx
    · exact ih (by omega) x hx
    · rw [List.mem_singleton] at hx
      subst hx
      refine setG_lt (cards := cards) (i := j) ?_ h8 (ih (by omega))
      rw [← getD_lt (d := gz)]
      exact hg j (by omega)
theorem varsF_lt {cards : List Int} {gates : List Gate} (hr : rightB cards gates = true) : ∀ x ∈ varsF gates, x < 256 := by
  have := varsT_lt hr (Nat.le_refl gates.length)
  rwa [List.take_length] at this
theorem gate_args {cards : List Int} {i : Int} {g : Gate} (h : gOK cards i g = true) : ∀ a ∈ g.2.2.2.2, 0 ≤ a ∧ a < i := by
  rcases gate_ok h with h | h | h
  · rw [h.2.2.2]; exact fun a ha => absurd ha List.not_mem_nil
  · rw [h.2.2.2.2.2]; exact fun a ha => absurd ha List.not_mem_nil
  · exact args_mem h.2.2
theorem varsF_take {gates : List Gate} {j : Nat} (h : j < gates.length) : varsF (gates.take (j + 1)) = varsF (gates.take j) ++ [setG (varsF (gates.take j)) (gates.getD j gz)] := by
  rw [take_step h, varsF_snoc, getD_lt h]
theorem variables_fn (cards : List Int) (gates : List Gate) (hr : rightB cards gates = true) (hargs : ∀ g ∈ gates, g.2.2.2.2.length ≤ 1000000) : Fw.Fn Try.prog 39 [.agg [.dat .old (.i .i64) cards, .dat .old gT gates]] [] (.dat .fr (.i .u64) (varsF gates)) [] := by
  refine fn_go env_ok mixed Try.func39 (c := Try.f39.body.get rfl) rfl (by kernel_rfl) [] rfl ?_
  repeat' first | apply And.intro | (intro h; (cases h; done)) | intro _ | exact True.intro | (show Region.lexB _ _ = true; kernel_rfl)
  all_goals try omega
  refine ⟨loopI (fun j : Nat => { n := 47, t := [(3, .own 0), (10, .dat .old gT gates), (11, .val (.int .i64 (↑(List.length gates)))), (12, .val (.int .i64 j))], h := [(0, some (.arr .fr (.i .u64) (varsF (gates.take j))))], nx := 1 }) (fun j => gates.length - j) (fun j => Ok (j ≤ gates.length)),
    loopI.start 0 [3] [3, 10, 11, 12] [(3, [])] .fr (by (repeat' first | apply And.intro | rfl); exact ⟨Nat.zero_le _⟩), ?_⟩
  rintro _ _ ⟨j, rfl, rfl, ⟨hj⟩⟩
  by_cases hlt : j < gates.length
  · have hgk := (right_all hr).2 j hlt
    have hal := hargs _ (getD_mem (d := gz) hlt)
    have h8 := (cards_ok hr).1
    have hgl := (right_all hr).1
    have hvl : ∀ x ∈ varsF (gates.take j), x < 256 := varsT_lt hr (by omega)
    have hvn : (varsF (gates.take j)).length = j := by rw [varsF_len, List.length_take]; omega
    have hap : ∀ a ∈ (gates.getD j gz).2.2.2.2, 0 ≤ a ∧ a < j := gate_args hgk
    by_cases h2k : (gates.getD j gz).1 = 2
    · obtain ⟨_, g1, g2, g3, g4, g5⟩ := isgate hgk h2k
      have hsh : 1 <<< (gates.getD j gz).2.1.toNat < 256 := by
        rw [Nat.one_shiftLeft]
        exact Nat.pow_lt_pow_right (by decide) (by omega : (gates.getD j gz).2.1.toNat < 8)
      repeat' first | apply And.intro | (intro h; (cases h; done)) | (intro h; exfalso; simp only [decT, decF, beq_iff_eq, beq_eq_false_iff_ne, ne_eq, Int.toNat_natCast] at h; (try dsimp only [D, IK, dz, gT] at h); first | omega | exact absurd h (by assumption) | exact h (by assumption)) | intro _ | exact True.intro | (show Region.lexB _ _ = true; kernel_rfl)
      (all_goals try ((first | (show (_ : Int) ≤ _) | (show (_ : Int) < _) | (show (_ : Nat) ≤ _) | (show (_ : Nat) < _)); (try simp only [Int.toNat_natCast, List.length_cons, List.length_nil, umax64]); (try dsimp only [D, IK, dz, gT]); omega))
      · exact umax_ok hsh
      refine ⟨loopI (fun t : Nat => { n := 47, t := [(3, .own 0), (6, .own 1), (10, .dat .old gT gates), (11, .val (.int .i64 (↑(List.length gates)))), (12, .val (.int .i64 ↑j)), (26, .dat .old (.i .i64) (gates.getD j gz).2.2.2.2), (27, .val (.int .i64 (↑(List.length (gates.getD j gz).2.2.2.2)))), (28, .val (.int .i64 t))], h := [(0, some (.arr .fr (.i .u64) (varsF (List.take j gates)))), (1, some (.arr .fr (.i .u64) ([1 <<< (gates.getD j gz).2.1.toNat] ++ ((gates.getD j gz).2.2.2.2.take t).map fun a => (varsF (gates.take j)).getD a.toNat 0)))], nx := 2 }) (fun t => (gates.getD j gz).2.2.2.2.length - t) (fun t => Ok (t ≤ (gates.getD j gz).2.2.2.2.length)),
        loopI.start 0 [6] [3, 6, 10, 11, 12, 26, 27, 28] [(3, []), (6, [])] .fr (by (repeat' first | apply And.intro | rfl); exact ⟨Nat.zero_le _⟩), ?_⟩
      rintro _ _ ⟨t, rfl, rfl, ⟨ht⟩⟩
      by_cases htl : t < (gates.getD j gz).2.2.2.2.length
      · have hpa := hap _ (getD_mem (d := 0) htl)
        repeat' first | apply And.intro | (intro h; (cases h; done)) | (intro h; exfalso; simp only [decT, decF, beq_iff_eq, beq_eq_false_iff_ne, ne_eq, Int.toNat_natCast] at h; (try dsimp only [D, IK, dz, gT] at h); first | omega | exact absurd h (by assumption) | exact h (by assumption)) | intro _ | exact True.intro | (show Region.lexB _ _ = true; kernel_rfl) | refine loopI.next (t + 1) [] [3, 6, 10, 11, 12, 26, 27, 28] [(3, []), (6, [])] .fr ?_
        all_goals (try simp only [decT, decF, beq_iff_eq, bne_iff_ne, ne_eq, beq_eq_false_iff_ne, bne_eq_false_iff_eq, Decidable.not_not, Int.toNat_natCast, Bool.not_eq_true', Bool.not_eq_false', Bool.not_eq_true, Bool.not_eq_false, Int.not_lt, Int.not_le] at *; try dsimp only [D, IK, dz] at *)
        all_goals try omega
        · rw [List.length_append, List.length_map, List.length_take]; simp only [List.length_cons, List.length_nil]; omega
        · rw [take_step htl, List.map_append, List.append_assoc, List.map_singleton, getD_lt htl]
        · exact ⟨by omega⟩
      · have hte : t = (gates.getD j gz).2.2.2.2.length := by omega
        have hsg : setG (varsF (gates.take j)) (gates.getD j gz) = orU ([1 <<< (gates.getD j gz).2.1.toNat] ++ ((gates.getD j gz).2.2.2.2.take t).map fun a => (varsF (gates.take j)).getD a.toNat 0) := by
          rw [setG, if_pos h2k, hte, List.take_length]
        have hbb : ∀ x ∈ [1 <<< (gates.getD j gz).2.1.toNat] ++ ((gates.getD j gz).2.2.2.2.take t).map fun a => (varsF (gates.take j)).getD a.toNat 0, x < 256 := by
          intro x hx
          rcases List.mem_append.1 hx with hx | hx
          · rw [List.mem_singleton] at hx; rw [hx]; exact hsh
          · obtain ⟨a, ha, rfl⟩ := List.mem_map.1 hx
            have := hap a (List.mem_of_mem_take ha)
            exact hvl _ (getD_mem (by omega))
        repeat' first | apply And.intro | (intro h; (cases h; done)) | (intro h; exfalso; simp only [decT, decF, beq_iff_eq, beq_eq_false_iff_ne, ne_eq, Int.toNat_natCast] at h; (try dsimp only [D, IK, dz, gT] at h); first | omega | exact absurd h (by assumption) | exact h (by assumption)) | intro _ | exact True.intro | (show Region.lexB _ _ = true; kernel_rfl) | refine CallK.fn [] (joined_fn _ hbb ?_) rfl rfl rfl rfl rfl trivial ?_ | refine loopI.next (j + 1) [] [3, 10, 11, 12] [(3, [])] .fr ?_
        all_goals try simp only [hvn, List.length_append, List.length_map, List.length_take, List.length_cons, List.length_nil]
        all_goals try omega
        all_goals try rfl
        · rw [varsF_take hlt, hsg]
        · exact ⟨by omega⟩
    · repeat' first | apply And.intro | (intro h; (cases h; done)) | (intro h; exfalso; simp only [decT, decF, beq_iff_eq, beq_eq_false_iff_ne, ne_eq, Int.toNat_natCast] at h; (try dsimp only [D, IK, dz, gT] at h); first | omega | exact absurd h (by assumption) | exact h (by assumption)) | intro _ | exact True.intro | (show Region.lexB _ _ = true; kernel_rfl)
      (all_goals try ((first | (show (_ : Int) ≤ _) | (show (_ : Int) < _) | (show (_ : Nat) ≤ _) | (show (_ : Nat) < _)); (try simp only [Int.toNat_natCast, List.length_cons, List.length_nil, umax64]); (try dsimp only [D, IK, dz, gT]); omega))
      refine ⟨loopI (fun t : Nat => { n := 47, t := [(3, .own 0), (6, .own 1), (10, .dat .old gT gates), (11, .val (.int .i64 (↑(List.length gates)))), (12, .val (.int .i64 ↑j)), (26, .dat .old (.i .i64) (gates.getD j gz).2.2.2.2), (27, .val (.int .i64 (↑(List.length (gates.getD j gz).2.2.2.2)))), (28, .val (.int .i64 t))], h := [(0, some (.arr .fr (.i .u64) (varsF (List.take j gates)))), (1, some (.arr .fr (.i .u64) (([] : List Nat) ++ ((gates.getD j gz).2.2.2.2.take t).map fun a => (varsF (gates.take j)).getD a.toNat 0)))], nx := 2 }) (fun t => (gates.getD j gz).2.2.2.2.length - t) (fun t => Ok (t ≤ (gates.getD j gz).2.2.2.2.length)),
        loopI.start 0 [6] [3, 6, 10, 11, 12, 26, 27, 28] [(3, []), (6, [])] .fr (by (repeat' first | apply And.intro | rfl); exact ⟨Nat.zero_le _⟩), ?_⟩
      rintro _ _ ⟨t, rfl, rfl, ⟨ht⟩⟩
      by_cases htl : t < (gates.getD j gz).2.2.2.2.length
      · have hpa := hap _ (getD_mem (d := 0) htl)
        repeat' first | apply And.intro | (intro h; (cases h; done)) | (intro h; exfalso; simp only [decT, decF, beq_iff_eq, beq_eq_false_iff_ne, ne_eq, Int.toNat_natCast] at h; (try dsimp only [D, IK, dz, gT] at h); first | omega | exact absurd h (by assumption) | exact h (by assumption)) | intro _ | exact True.intro | (show Region.lexB _ _ = true; kernel_rfl) | refine loopI.next (t + 1) [] [3, 6, 10, 11, 12, 26, 27, 28] [(3, []), (6, [])] .fr ?_
        all_goals (try simp only [decT, decF, beq_iff_eq, bne_iff_ne, ne_eq, beq_eq_false_iff_ne, bne_eq_false_iff_eq, Decidable.not_not, Int.toNat_natCast, Bool.not_eq_true', Bool.not_eq_false', Bool.not_eq_true, Bool.not_eq_false, Int.not_lt, Int.not_le] at *; try dsimp only [D, IK, dz] at *)
        all_goals try omega
        · rw [List.length_append, List.length_map, List.length_take]; simp only [List.length_cons, List.length_nil]; omega
        · rw [take_step htl, List.map_append, List.append_assoc, List.map_singleton, getD_lt htl]
        · exact ⟨by omega⟩
      · have hte : t = (gates.getD j gz).2.2.2.2.length := by omega
        have hsg : setG (varsF (gates.take j)) (gates.getD j gz) = orU (([] : List Nat) ++ ((gates.getD j gz).2.2.2.2.take t).map fun a => (varsF (gates.take j)).getD a.toNat 0) := by
          rw [setG, if_neg h2k, hte, List.take_length]
        have hbb : ∀ x ∈ ([] : List Nat) ++ ((gates.getD j gz).2.2.2.2.take t).map fun a => (varsF (gates.take j)).getD a.toNat 0, x < 256 := by
          intro x hx
          rcases List.mem_append.1 hx with hx | hx
          · exact absurd hx List.not_mem_nil
          · obtain ⟨a, ha, rfl⟩ := List.mem_map.1 hx
            have := hap a (List.mem_of_mem_take ha)
            exact hvl _ (getD_mem (by omega))
        repeat' first | apply And.intro | (intro h; (cases h; done)) | (intro h; exfalso; simp only [decT, decF, beq_iff_eq, beq_eq_false_iff_ne, ne_eq, Int.toNat_natCast] at h; (try dsimp only [D, IK, dz, gT] at h); first | omega | exact absurd h (by assumption) | exact h (by assumption)) | intro _ | exact True.intro | (show Region.lexB _ _ = true; kernel_rfl) | refine CallK.fn [] (joined_fn _ hbb ?_) rfl rfl rfl rfl rfl trivial ?_ | refine loopI.next (j + 1) [] [3, 10, 11, 12] [(3, [])] .fr ?_
        all_goals try simp only [hvn, List.length_append, List.length_map, List.length_take, List.length_cons, List.length_nil]
        all_goals try omega
        all_goals try rfl
        · rw [varsF_take hlt, hsg]
        · exact ⟨by omega⟩
  · repeat' first | apply And.intro | (intro h; (cases h; done)) | (intro h; exfalso; simp only [decT, decF, beq_iff_eq, beq_eq_false_iff_ne, ne_eq, Int.toNat_natCast] at h; (try dsimp only [D, IK, dz, gT] at h); first | omega | exact absurd h (by assumption) | exact h (by assumption)) | intro _ | exact True.intro | (show Region.lexB _ _ = true; kernel_rfl)
    all_goals try omega
    rw [List.take_of_length_le (by omega)]
end Go.Proofs.Ytbgnnpbcifgckaa
namespace Go.Proofs.Ytbgnnpbcifgckaa
open Go Go.Fw Go.RowKit
set_option maxRecDepth 100000
set_option maxHeartbeats 4000000
/-- Whether a gate has a value other than 0, those of the ones ahead of it given. -/
def nzG (input : List Int) (out : List Bool) (g : Gate) : Bool :=
  if g.1 = 1 then decide (0 < g.2.2.2.1) else if g.1 = 2 then decide (input.getD g.2.1.toNat 0 = g.2.2.1)
  else if g.1 = 4 then g.2.2.2.2.all fun a => out.getD a.toNat false else g.2.2.2.2.any fun a => out.getD a.toNat false
def nzF (input : List Int) (gates : List Gate) : List Bool := gates.foldl (fun out g => out ++ [nzG input out g]) []
theorem nzF_snoc (input : List Int) (gates : List Gate) (g : Gate) : nzF input (gates ++ [g]) = nzF input gates ++ [nzG input (nzF input gates) g] := by simp [nzF]
theorem nzF_len (input : List Int) (gates : List Gate) : (nzF input gates).length = gates.length := by
  unfold nzF
  suffices h : ∀ (gs : List Gate) (o : List Bool), (gs.foldl (fun out g => out ++ [nzG input out g]) o).length = o.length + gs.length by simpa using h gates []
  intro gs
  induction gs with
  | nil => intro o; rfl
  | cons g gs ih => intro o; rw [List.foldl_cons, ih]; simp; omega
theorem nzF_take {input : List Int} {gates : List Gate} {j : Nat} (h : j < gates.length) : nzF input (gates.take (j + 1)) = nzF input (gates.take j) ++ [nzG input (nzF input (gates.take j)) (gates.getD j gz)] := by
  rw [take_step h, nzF_snoc, getD_lt h]
theorem nonzero_fn (cards : List Int) (gates : List Gate) (input : List Int) (hr : rightB cards gates = true) (hin : input.length = cards.length) (hargs : ∀ g ∈ gates, g.2.2.2.2.length ≤ 1000000) : Fw.Fn Try.prog 56 [.agg [.dat .old (.i .i64) cards, .dat .old gT gates], .dat .old (.i .i64) input] [] (.dat .fr .b (nzF input gates)) [] := by
  refine fn_go env_ok mixed Try.func56 (c := Try.f56.body.get rfl) rfl (by kernel_rfl) [] rfl ?_
  repeat' first | apply And.intro | (intro h; (cases h; done)) | intro _ | exact True.intro | (show Region.lexB _ _ = true; kernel_rfl)
  refine ⟨loopI (fun j : Nat => { n := 67, t := [(1, .dat .old (.i .i64) input), (5, .own 0), (13, .dat .old gT gates), (14, .val (.int .i64 (↑(List.length gates)))), (15, .val (.int .i64 j))], h := [(0, some (.arr .fr .b (nzF input (gates.take j))))], nx := 1 }) (fun j => gates.length - j) (fun j => Ok (j ≤ gates.length)),
    loopI.start 0 [5] [1, 5, 13, 14, 15] [(5, [])] .fr (by (repeat' first | apply And.intro | rfl); exact ⟨Nat.zero_le _⟩), ?_⟩
  rintro _ _ ⟨j, rfl, rfl, ⟨hj⟩⟩
  by_cases hlt : j < gates.length
  · have hgk := (right_all hr).2 j hlt
    have hal := hargs _ (getD_mem (d := gz) hlt)
    have hgl := (right_all hr).1
    have hnl : (nzF input (gates.take j)).length = j := by rw [nzF_len, List.length_take]; omega
    have hap : ∀ a ∈ (gates.getD j gz).2.2.2.2, 0 ≤ a ∧ a < j := gate_args hgk
    repeat' first | apply And.intro | (intro h; (cases h; done)) | (intro h; exfalso; simp only [decT, decF, beq_iff_eq, beq_eq_false_iff_ne, ne_eq, Int.toNat_natCast] at h; (try dsimp only [D, IK, dz, gT] at h); first | omega | exact absurd h (by assumption) | exact h (by assumption)) | intro _ | exact True.intro | (show Region.lexB _ _ = true; kernel_rfl)
    (all_goals try ((first | (show (_ : Int) ≤ _) | (show (_ : Int) < _) | (show (_ : Nat) ≤ _) | (show (_ : Nat) < _)); (try simp only [Int.toNat_natCast, List.length_cons, List.length_nil, umax64]); (try dsimp only [D, IK, dz, gT]); omega))
    obtain ⟨out, hout⟩ : ∃ out, out = nzF input (gates.take j) := ⟨_, rfl⟩
    obtain ⟨g, hg⟩ : ∃ g, g = gates.getD j gz := ⟨_, rfl⟩
    refine ⟨loopI (fun t : Nat => { n := 67, t := [(1, .dat .old (.i .i64) input), (5, .own 0), (7, .ptr 1 0), (8, .val (.bool ((g.2.2.2.2.take t).any fun a => out.getD a.toNat false))), (9, .val (.bool ((g.2.2.2.2.take t).all fun a => out.getD a.toNat false))), (13, .dat .old gT gates), (14, .val (.int .i64 (↑(List.length gates)))), (15, .val (.int .i64 ↑j)), (20, .dat .old (.i .i64) g.2.2.2.2), (21, .val (.int .i64 (↑(List.length g.2.2.2.2)))), (22, .val (.int .i64 t))], h := [(0, some (.arr .fr .b out)), (1, some (.cells [.val (.int .i64 g.1), .val (.int .i64 g.2.1), .val (.int .i64 g.2.2.1), .val (.int .i64 g.2.2.2.1), .dat .old (.i .i64) g.2.2.2.2]))], nx := 2 }) (fun t => g.2.2.2.2.length - t) (fun t => Ok (t ≤ g.2.2.2.2.length)),
      loopI.start 0 [] [1, 5, 7, 8, 9, 13, 14, 15, 20, 21, 22] [(5, []), (7, [])] .fr (by rw [hg, hout]; (repeat' first | apply And.intro | rfl); exact ⟨Nat.zero_le _⟩), ?_⟩
    rintro _ _ ⟨t, rfl, rfl, ⟨ht⟩⟩
    rw [← hg] at hgk hal hap
    rw [← hout] at hnl
    have hs := nzF_take (input := input) hlt
    rw [← hout, ← hg] at hs
    have hki0 : g.1 = 2 → 0 ≤ g.2.1 ∧ g.2.1 < cards.length := fun h2 => by obtain ⟨_, g1, g2, _⟩ := isgate hgk h2; exact ⟨g1, g2⟩
    clear hout hg
    by_cases htl : t < g.2.2.2.2.length
    · have hpa := hap _ (getD_mem (d := 0) htl)
      have e1 : (g.2.2.2.2.take (t + 1)).any (fun a => out.getD a.toNat false) = ((g.2.2.2.2.take t).any (fun a => out.getD a.toNat false) || out.getD (g.2.2.2.2.getD t 0).toNat false) := by
        rw [take_step htl, List.any_append, getD_lt htl]; simp
      have e2 : (g.2.2.2.2.take (t + 1)).all (fun a => out.getD a.toNat false) = ((g.2.2.2.2.take t).all (fun a => out.getD a.toNat false) && out.getD (g.2.2.2.2.getD t 0).toNat false) := by
        rw [take_step htl, List.all_append, getD_lt htl]; simp
      repeat' first | apply And.intro | (intro h; (cases h; done)) | (intro h; exfalso; simp only [decT, decF, beq_iff_eq, beq_eq_false_iff_ne, ne_eq, Int.toNat_natCast] at h; (try dsimp only [D, IK, dz, gT] at h); first | omega | exact absurd h (by assumption) | exact h (by assumption)) | intro _ | exact True.intro | (show Region.lexB _ _ = true; kernel_rfl) | refine loopI.next (t + 1) [] [1, 5, 7, 8, 9, 13, 14, 15, 20, 21, 22] [(5, []), (7, [])] .fr ?_
      all_goals (try simp only [decT, decF, beq_iff_eq, bne_iff_ne, ne_eq, beq_eq_false_iff_ne, bne_eq_false_iff_eq, Decidable.not_not, Int.toNat_natCast, Bool.not_eq_true', Bool.not_eq_false', Bool.not_eq_true, Bool.not_eq_false, Int.not_lt, Int.not_le] at *; try dsimp only [D, IK, dz] at *)
      all_goals first | omega | rfl | exact ⟨by omega⟩ | (rw [e1]; simp_all; done) | (rw [e2]; simp_all; done) | (rw [e2, ‹((g.2.2.2.2.take t).all fun a => out.getD a.toNat false) = false›]; rfl)
    · have hte : t = g.2.2.2.2.length := by omega
      have hte' : g.2.2.2.2 = g.2.2.2.2.take t := by rw [hte, List.take_length]
      have hki := hki0
      repeat' first | apply And.intro | (intro h; (cases h; done)) | (intro h; exfalso; simp only [decT, decF, beq_iff_eq, beq_eq_false_iff_ne, ne_eq, Int.toNat_natCast] at h; (try dsimp only [D, IK, dz, gT] at h); first | omega | exact absurd h (by assumption) | exact h (by assumption)) | intro _ | exact True.intro | (show Region.lexB _ _ = true; kernel_rfl) | refine loopI.next (j + 1) [] [1, 5, 13, 14, 15] [(5, [])] .fr ?_
      all_goals (try simp only [decT, decF, beq_iff_eq, bne_iff_ne, ne_eq, beq_eq_false_iff_ne, bne_eq_false_iff_eq, Decidable.not_not, Int.toNat_natCast, Bool.not_eq_true', Bool.not_eq_false', Bool.not_eq_true, Bool.not_eq_false, Int.not_lt, Int.not_le] at *; try dsimp only [D, IK, dz] at *)
      all_goals try simp only [hnl, List.length_cons, List.length_nil]
      all_goals first | omega | rfl | exact ⟨by omega⟩ | skip
      · rw [hs, nzG, if_pos (by assumption)]
      · rw [hs, nzG, if_neg (by assumption), if_pos (by assumption)]; rfl
      · rw [hs, nzG, hte, List.take_length, if_neg (by assumption), if_neg (by assumption), if_pos (by assumption)]
      · rw [hs, nzG, hte, List.take_length, if_neg (by assumption), if_neg (by assumption), if_neg (by assumption)]
  · repeat' first | apply And.intro | (intro h; (cases h; done)) | (intro h; exfalso; simp only [decT, decF, beq_iff_eq, beq_eq_false_iff_ne, ne_eq, Int.toNat_natCast] at h; (try dsimp only [D, IK, dz, gT] at h); first | omega | exact absurd h (by assumption) | exact h (by assumption)) | intro _ | exact True.intro | (show Region.lexB _ _ = true; kernel_rfl)
    (all_goals try ((first | (show (_ : Int) ≤ _) | (show (_ : Int) < _) | (show (_ : Nat) ≤ _) | (show (_ : Nat) < _)); (try simp only [Int.toNat_natCast, List.length_cons, List.length_nil, umax64]); (try dsimp only [D, IK, dz, gT]); omega))
    rw [List.take_of_length_le (by omega)]
end Go.Proofs.Ytbgnnpbcifgckaa
namespace Go.Proofs.Ytbgnnpbcifgckaa
open Go Go.Fw Go.RowKit
set_option maxRecDepth 100000
set_option maxHeartbeats 4000000
/-- Whether a list has a value for each variable. -/
def okA : List Int → List Int → Prop
  | [], [] => True
  | c :: cs, x :: xs => 0 ≤ x ∧ x < c ∧ okA cs xs
  | _, _ => False
/-- The order in which they are gone through: the last place counts most. -/
def less : List Int → List Int → Prop
  | a :: as', x :: xs => less as' xs ∨ (as' = xs ∧ a < x)
  | _, _ => False
def rankA : List Int → List Int → Nat
  | c :: cs, x :: xs => x.toNat + c.toNat * rankA cs xs
  | _, _ => 0
def prodN : List Int → Nat
  | [] => 1
  | c :: cs => c.toNat * prodN cs
theorem okA_len : ∀ {cs xs : List Int}, okA cs xs → xs.length = cs.length
  | [], [], _ => rfl
  | _ :: _, _ :: _, h => by simp [okA_len h.2.2]
  | [], _ :: _, h => h.elim
  | _ :: _, [], h => h.elim
theorem okA_at : ∀ {cs xs : List Int}, okA cs xs → ∀ u, u < cs.length → 0 ≤ xs.getD u 0 ∧ xs.getD u 0 < cs.getD u 0
  | [], [], _, u, h => absurd h (Nat.not_lt_zero _)
  | _ :: _, _ :: _, h, 0, _ => ⟨h.1, h.2.1⟩
  | _ :: _, _ :: _, h, u + 1, hu => by
    rw [List.getD_cons_succ, List.getD_cons_succ]
    exact okA_at h.2.2 u (by simpa using hu)
  | [], _ :: _, h, _, _ => h.elim
  | _ :: _, [], h, _, _ => h.elim
theorem okA_of : ∀ {cs xs : List Int}, xs.length = cs.length → (∀ u, u < cs.length → 0 ≤ xs.getD u 0 ∧ xs.getD u 0 < cs.getD u 0) → okA cs xs
  | [], [], _, _ => trivial
  | _ :: cs, _ :: xs, h, h2 => ⟨(h2 0 (by simp)).1, (h2 0 (by simp)).2, okA_of (by simpa using h) fun u hu => by
    have := h2 (u + 1) (by simpa using hu)
    rwa [List.getD_cons_succ, List.getD_cons_succ] at this⟩
  | [], _ :: _, h, _ => by simp at h
  | _ :: _, [], h, _ => by simp at h
theorem rankA_lt : ∀ {cs xs : List Int}, okA cs xs → rankA cs xs < prodN cs
  | [], [], _ => by simp [rankA, prodN]
  | c :: cs, x :: xs, h => by
    have h1 := rankA_lt h.2.2
    simp only [rankA, prodN]
    have h2 : x.toNat < c.toNat := by have := h.1; have := h.2.1; omega
    calc x.toNat + c.toNat * rankA cs xs < c.toNat + c.toNat * rankA cs xs := by omega
      _ = c.toNat * (rankA cs xs + 1) := by rw [Nat.mul_add, Nat.mul_one]; omega
      _ ≤ c.toNat * prodN cs := Nat.mul_le_mul_left _ h1
  | [], _ :: _, h => h.elim
  | _ :: _, [], h => h.elim
/-- The list behind one, once the first v places are full. -/
def nextA (v : Nat) (x : List Int) : List Int := (List.replicate v 0 ++ x.drop v).set v (x.getD v 0 + 1)
theorem nextA_zero (x : Int) (xs : List Int) : nextA 0 (x :: xs) = (x + 1) :: xs := by simp [nextA]
theorem nextA_succ (v : Nat) (x : Int) (xs : List Int) : nextA (v + 1) (x :: xs) = 0 :: nextA v xs := by
  simp only [nextA, List.replicate_succ, List.cons_append, List.drop_succ_cons, List.set_cons_succ, List.getD_cons_succ]
theorem odo_step : ∀ {cs xs : List Int} {v : Nat}, okA cs xs → v < xs.length → (∀ u, u < v → xs.getD u 0 = cs.getD u 0 - 1) → xs.getD v 0 ≠ cs.getD v 0 - 1 →
    okA cs (nextA v xs) ∧ (∀ a, okA cs a → less a (nextA v xs) → less a xs ∨ a = xs) ∧ rankA cs (nextA v xs) = rankA cs xs + 1
  | [], [], v, _, h, _, _ => absurd h (Nat.not_lt_zero _)
  | [], _ :: _, _, h, _, _, _ => h.elim
  | _ :: _, [], _, h, _, _, _ => h.elim
  | c :: cs, x :: xs, 0, h, _, _, h0 => by
    rw [nextA_zero]
    have h0 : x ≠ c - 1 := h0
    obtain ⟨h1, h2, h3⟩ := h
    refine ⟨⟨by omega, by omega, h3⟩, fun a ha hl => ?_, by simp only [rankA]; omega⟩
    cases a with
    | nil => exact ha.elim
    | cons b a =>
      rcases hl with hl | ⟨rfl, hl⟩
      · exact Or.inl (Or.inl hl)
      · by_cases e : b = x
        · exact Or.inr (by rw [e])
        · exact Or.inl (Or.inr ⟨rfl, by omega⟩)
  | c :: cs, x :: xs, v + 1, h, hv, hu, h0 => by
    rw [nextA_succ]
    have hx : x = c - 1 := hu 0 (Nat.succ_pos _)
    obtain ⟨h1, h2, h3⟩ := h
    obtain ⟨k1, k2, k3⟩ := odo_step (v := v) h3 (by simpa using hv) (fun u hu' => by
      have := hu (u + 1) (by omega)
      rwa [List.getD_cons_succ, List.getD_cons_succ] at this) (by rwa [List.getD_cons_succ, List.getD_cons_succ] at h0)
    refine ⟨⟨Int.le_refl _, by omega, k1⟩, fun a ha hl => ?_, ?_⟩
    · cases a with
      | nil => exact ha.elim
      | cons b a =>
        obtain ⟨a1, a2, a3⟩ := ha
        rcases hl with hl | ⟨_, hl⟩
        · rcases k2 a a3 hl with hl | rfl
          · exact Or.inl (Or.inl hl)
          · by_cases e : b = x
            · exact Or.inr (by rw [e])
            · exact Or.inl (Or.inr ⟨rfl, by omega⟩)
        · omega
    · simp only [rankA, k3]
      rw [Nat.mul_add, Nat.mul_one]
      have : x.toNat + 1 = c.toNat := by omega
      omega
theorem odo_end : ∀ {cs xs : List Int}, okA cs xs → (∀ u, u < xs.length → xs.getD u 0 = cs.getD u 0 - 1) → ∀ a, okA cs a → less a xs ∨ a = xs
  | [], [], _, _, [], _ => Or.inr rfl
  | [], [], _, _, _ :: _, h => h.elim
  | [], _ :: _, h, _, _, _ => h.elim
  | _ :: _, [], h, _, _, _ => h.elim
  | _ :: _, _ :: _, _, _, [], h => h.elim
  | c :: cs, x :: xs, h, hu, b :: a, ha => by
    have hx : x = c - 1 := hu 0 (by simp)
    rcases odo_end h.2.2 (fun u hu' => by
      have := hu (u + 1) (by simpa using hu')
      rwa [List.getD_cons_succ, List.getD_cons_succ] at this) a ha.2.2 with hl | rfl
    · exact Or.inl (Or.inl hl)
    · by_cases e : b = x
      · exact Or.inr (by rw [e])
      · have := ha.2.1
        exact Or.inl (Or.inr ⟨rfl, by omega⟩)
theorem less_zero : ∀ {cs a : List Int} {n : Nat}, okA cs a → ¬ less a (List.replicate n 0)
  | [], [], n, _, h => by cases n <;> exact h
  | [], _ :: _, _, h, _ => h.elim
  | _ :: _, [], _, h, _ => h.elim
  | c :: cs, x :: xs, 0, _, h => h
  | c :: cs, x :: xs, n + 1, h, hl => by
    rcases hl with hl | ⟨_, hl⟩
    · exact less_zero h.2.2 hl
    · have := h.1; omega
theorem okA_zero {cs : List Int} (h : ∀ v, v < cs.length → 1 ≤ cs.getD v 0) : okA cs (List.replicate cs.length 0) := by
  refine okA_of (by simp) fun u hu => ?_
  have := h u hu
  rw [List.getD_eq_getElem?_getD, List.getElem?_replicate, if_pos hu]
  exact ⟨Int.le_refl _, by rw [Option.getD_some]; omega⟩
/-- The number of a sum's arguments that have values other than 0. -/
def onesK (on : List Bool) (g : Gate) (t : Nat) : Nat := if g.1 = 3 then ((g.2.2.2.2.take t).filter fun a => on.getD a.toNat false).length else 0
def oneOK (gates : List Gate) (a : List Int) : Prop := ∀ i, i < gates.length → onesK (nzF a gates) (gates.getD i gz) (gates.getD i gz).2.2.2.2.length ≤ 1
open Classical in
/-- Whether a circuit is deterministic. -/
noncomputable def apartB (cards : List Int) (gates : List Gate) : Bool := decide (∀ a, okA cards a → oneOK gates a)
end Go.Proofs.Ytbgnnpbcifgckaa
namespace Go.Proofs.Ytbgnnpbcifgckaa
open Go Go.Fw Go.RowKit
set_option maxRecDepth 100000
set_option maxHeartbeats 4000000
theorem onesK_zero (on : List Bool) (g : Gate) : ((onesK on g 0 : Nat) : Int) = 0 := by
  unfold onesK; split <;> rfl
theorem onesK_le (on : List Bool) (g : Gate) (t : Nat) : onesK on g t ≤ t := by
  unfold onesK; split
  · exact Nat.le_trans (List.length_filter_le _ _) (by rw [List.length_take]; omega)
  · exact Nat.zero_le _
theorem onesK_step (on : List Bool) (g : Gate) {t : Nat} (h : t < g.2.2.2.2.length) : onesK on g (t + 1) = if g.1 = 3 ∧ on.getD (g.2.2.2.2.getD t 0).toNat false = true then onesK on g t + 1 else onesK on g t := by
  unfold onesK
  by_cases h3 : g.1 = 3
  · rw [if_pos h3, if_pos h3, take_step h, List.filter_append, List.length_append, getD_lt h]
    by_cases ho : on.getD g.2.2.2.2[t].toNat false = true
    · rw [if_pos ⟨h3, ho⟩, List.filter_cons_of_pos (p := fun a : Int => on.getD a.toNat false) ho]; rfl
    · rw [if_neg fun h => ho h.2, List.filter_cons_of_neg (p := fun a : Int => on.getD a.toNat false) ho]; rfl
  · rw [if_neg h3, if_neg h3, if_neg fun h => h3 h.1]
theorem apartB_false {cards : List Int} {gates : List Gate} {x : List Int} {j : Nat} (hx : okA cards x) (hj : j < gates.length) (h : 1 < onesK (nzF x gates) (gates.getD j gz) (gates.getD j gz).2.2.2.2.length) : apartB cards gates = false := by
  unfold apartB
  refine @decide_eq_false _ (_) fun ha => ?_
  have := ha x hx j hj
  omega
theorem apartB_true {cards : List Int} {gates : List Gate} (h : ∀ a, okA cards a → oneOK gates a) : apartB cards gates = true := by
  unfold apartB
  exact @decide_eq_true _ (_) h
theorem zL_at {x : List Int} {v : Nat} (h : v < x.length) : (List.replicate v (0 : Int) ++ x.drop v).getD v 0 = x.getD v 0 := by
  rw [List.getD_eq_getElem?_getD, List.getElem?_append_right (by rw [List.length_replicate]; exact Nat.le_refl _), List.length_replicate, Nat.sub_self, List.getElem?_drop, Nat.add_zero, List.getD_eq_getElem?_getD]
theorem zL_set {x : List Int} {v : Nat} (h : v < x.length) : (List.replicate v (0 : Int) ++ x.drop v).set v 0 = List.replicate (v + 1) 0 ++ x.drop (v + 1) := by
  rw [List.set_append_right _ _ (by rw [List.length_replicate]; exact Nat.le_refl _), List.length_replicate, Nat.sub_self, List.drop_eq_getElem_cons h, List.set_cons_zero, List.replicate_succ', List.append_assoc]; rfl
theorem apart_fn (cards : List Int) (gates : List Gate) (hr : rightB cards gates = true) (hargs : ∀ g ∈ gates, g.2.2.2.2.length ≤ 1000000) : Fw.Fn Try.prog 40 [.agg [.dat .old (.i .i64) cards, .dat .old gT gates]] [] (.val (.bool (apartB cards gates))) [] := by
  obtain ⟨h8, hcc⟩ := cards_ok hr
  have hgl := (right_all hr).1
  refine fn_go env_ok mixed Try.func40 (c := Try.f40.body.get rfl) rfl (by kernel_rfl) [] rfl ?_
  repeat' first | apply And.intro | (intro h; (cases h; done)) | (intro h; exfalso; simp only [decT, decF, beq_iff_eq, beq_eq_false_iff_ne, ne_eq, Int.toNat_natCast] at h; (try dsimp only [D, IK, dz, gT] at h); first | omega | exact absurd h (by assumption) | exact h (by assumption)) | intro _ | exact True.intro | (show Region.lexB _ _ = true; kernel_rfl)
  (all_goals try ((first | (show (_ : Int) ≤ _) | (show (_ : Int) < _) | (show (_ : Nat) ≤ _) | (show (_ : Nat) < _)); (try simp only [Int.toNat_natCast, List.length_cons, List.length_nil, umax64]); (try dsimp only [D, IK, dz, gT]); omega))
  refine ⟨loopI (fun x : List Int => { n := 79, t := [(1, .ptr 0 0), (3, .own 1)], h := [(0, some (.cells [.dat .old (.i .i64) cards, .dat .old gT gates])), (1, some (.arr .fr (.i .i64) x))], nx := 2 }) (fun x => prodN cards - rankA cards x) (fun x => Ok (okA cards x ∧ ∀ a, okA cards a → less a x → oneOK gates a)),
    loopI.start (List.replicate cards.length 0) [] [1, 3] [(1, []), (3, [])] .fr (by (repeat' first | apply And.intro | rfl) <;> exact ⟨okA_zero fun v hv => (hcc v hv).1, fun a ha hl => (less_zero ha hl).elim⟩), ?_⟩
  rintro _ _ ⟨x, rfl, rfl, ⟨hxo, hdone⟩⟩
  have hxl := okA_len hxo
  repeat' first | apply And.intro | (intro h; (cases h; done)) | (intro h; exfalso; simp only [decT, decF, beq_iff_eq, beq_eq_false_iff_ne, ne_eq, Int.toNat_natCast] at h; (try dsimp only [D, IK, dz, gT] at h); first | omega | exact absurd h (by assumption) | exact h (by assumption)) | intro _ | exact True.intro | (show Region.lexB _ _ = true; kernel_rfl) | refine CallK.fn [] (nonzero_fn cards gates x hr hxl hargs) rfl rfl rfl rfl rfl trivial ?_
  have hol := nzF_len x gates
  obtain ⟨on, hon⟩ : ∃ on, on = nzF x gates := ⟨_, rfl⟩
  refine ⟨loopI (fun j : Nat => { n := 79, t := [(1, .ptr 0 0), (3, .own 1), (4, .dat .fr .b on), (19, .dat .old gT gates), (20, .val (.int .i64 (↑(List.length gates)))), (21, .val (.int .i64 j))], h := [(0, some (.cells [.dat .old (.i .i64) cards, .dat .old gT gates])), (1, some (.arr .fr (.i .i64) x))], nx := 2 }) (fun j => gates.length - j) (fun j => Ok (j ≤ gates.length ∧ ∀ i, i < j → onesK on (gates.getD i gz) (gates.getD i gz).2.2.2.2.length ≤ 1)),
    loopI.start 0 [] [1, 3, 4, 19, 20, 21] [(1, []), (3, [])] .fr (by rw [hon]; (repeat' first | apply And.intro | rfl); exact ⟨Nat.zero_le _, fun i hi => absurd hi (Nat.not_lt_zero i)⟩), ?_⟩
  rintro _ _ ⟨j, rfl, rfl, ⟨hj, hones⟩⟩
  rw [← hon] at hol
  by_cases hlt : j < gates.length
  · have hgk := (right_all hr).2 j hlt
    have hal := hargs _ (getD_mem (d := gz) hlt)
    have hap : ∀ a ∈ (gates.getD j gz).2.2.2.2, 0 ≤ a ∧ a < j := gate_args hgk
    repeat' first | apply And.intro | (intro h; (cases h; done)) | (intro h; exfalso; simp only [decT, decF, beq_iff_eq, beq_eq_false_iff_ne, ne_eq, Int.toNat_natCast] at h; (try dsimp only [D, IK, dz, gT] at h); first | omega | exact absurd h (by assumption) | exact h (by assumption)) | intro _ | exact True.intro | (show Region.lexB _ _ = true; kernel_rfl)
    (all_goals try ((first | (show (_ : Int) ≤ _) | (show (_ : Int) < _) | (show (_ : Nat) ≤ _) | (show (_ : Nat) < _)); (try simp only [Int.toNat_natCast, List.length_cons, List.length_nil, umax64]); (try dsimp only [D, IK, dz, gT]); omega))
    obtain ⟨g, hg⟩ : ∃ g, g = gates.getD j gz := ⟨_, rfl⟩
    refine ⟨loopI (fun t : Nat => { n := 79, t := [(1, .ptr 0 0), (3, .own 1), (4, .dat .fr .b on), (6, .ptr 2 0), (7, .val (.int .i64 (onesK on g t))), (19, .dat .old gT gates), (20, .val (.int .i64 (↑(List.length gates)))), (21, .val (.int .i64 ↑j)), (26, .dat .old (.i .i64) g.2.2.2.2), (27, .val (.int .i64 (↑(List.length g.2.2.2.2)))), (28, .val (.int .i64 t))], h := [(0, some (.cells [.dat .old (.i .i64) cards, .dat .old gT gates])), (1, some (.arr .fr (.i .i64) x)), (2, some (.cells [.val (.int .i64 g.1), .val (.int .i64 g.2.1), .val (.int .i64 g.2.2.1), .val (.int .i64 g.2.2.2.1), .dat .old (.i .i64) g.2.2.2.2]))], nx := 3 }) (fun t => g.2.2.2.2.length - t) (fun t => Ok (t ≤ g.2.2.2.2.length)),
      loopI.start 0 [] [1, 3, 4, 6, 7, 19, 20, 21, 26, 27, 28] [(1, []), (3, []), (6, [])] .fr (by rw [hg]; (repeat' first | apply And.intro | rfl) <;> first | exact (onesK_zero _ _).symm | exact ⟨Nat.zero_le _⟩), ?_⟩
    rintro _ _ ⟨t, rfl, rfl, ⟨ht⟩⟩
    rw [← hg] at hgk hal hap
    have hb := onesK_le on g t
    by_cases htl : t < g.2.2.2.2.length
    · have hpa := hap _ (getD_mem (d := 0) htl)
      have hstep := onesK_step on g htl
      repeat' first | apply And.intro | (intro h; (cases h; done)) | (intro h; exfalso; simp only [decT, decF, beq_iff_eq, beq_eq_false_iff_ne, ne_eq, Int.toNat_natCast] at h; (try dsimp only [D, IK, dz, gT] at h); first | omega | exact absurd h (by assumption) | exact h (by assumption)) | intro _ | exact True.intro | (show Region.lexB _ _ = true; kernel_rfl) | refine loopI.next (t + 1) [] [1, 3, 4, 6, 7, 19, 20, 21, 26, 27, 28] [(1, []), (3, []), (6, [])] .fr ?_
      all_goals (try simp only [decT, decF, beq_iff_eq, bne_iff_ne, ne_eq, beq_eq_false_iff_ne, bne_eq_false_iff_eq, Decidable.not_not, Int.toNat_natCast, Bool.not_eq_true', Bool.not_eq_false', Bool.not_eq_true, Bool.not_eq_false, Int.not_lt, Int.not_le] at *; try dsimp only [D, IK, dz] at *)
      all_goals first | omega | rfl | exact ⟨by omega⟩ | skip
      · rw [hstep, if_pos ⟨by assumption, by assumption⟩]; rfl
      · rw [hstep, if_neg (by rintro ⟨_, h⟩; simp_all)]
      · rw [hstep, if_neg (by rintro ⟨h, _⟩; simp_all)]
    · have hte : t = g.2.2.2.2.length := by omega
      repeat' first | apply And.intro | (intro h; (cases h; done)) | (intro h; exfalso; simp only [decT, decF, beq_iff_eq, beq_eq_false_iff_ne, ne_eq, Int.toNat_natCast] at h; (try dsimp only [D, IK, dz, gT] at h); first | omega | exact absurd h (by assumption) | exact h (by assumption)) | intro _ | exact True.intro | (show Region.lexB _ _ = true; kernel_rfl) | refine loopI.next (j + 1) [] [1, 3, 4, 19, 20, 21] [(1, []), (3, [])] .fr ?_
      all_goals (try simp only [decT, decF, beq_iff_eq, bne_iff_ne, ne_eq, beq_eq_false_iff_ne, bne_eq_false_iff_eq, Decidable.not_not, Int.toNat_natCast, Bool.not_eq_true', Bool.not_eq_false', Bool.not_eq_true, Bool.not_eq_false, Int.not_lt, Int.not_le] at *; try dsimp only [D, IK, dz] at *)
      all_goals first | omega | rfl | skip
      · have hgt : 1 < onesK on g g.2.2.2.2.length := by rw [← hte]; omega
        exact (apartB_false hxo hlt (by rw [← hon, ← hg]; exact hgt)).symm
      · exact ⟨by omega, fun i hi => by
          by_cases e : i = j
          · subst e; rw [← hg, ← hte]; omega
          · exact hones i (by omega)⟩
  · repeat' first | apply And.intro | (intro h; (cases h; done)) | (intro h; exfalso; simp only [decT, decF, beq_iff_eq, beq_eq_false_iff_ne, ne_eq, Int.toNat_natCast] at h; (try dsimp only [D, IK, dz, gT] at h); first | omega | exact absurd h (by assumption) | exact h (by assumption)) | intro _ | exact True.intro | (show Region.lexB _ _ = true; kernel_rfl)
    (all_goals try ((first | (show (_ : Int) ≤ _) | (show (_ : Int) < _) | (show (_ : Nat) ≤ _) | (show (_ : Nat) < _)); (try simp only [Int.toNat_natCast, List.length_cons, List.length_nil, umax64]); (try dsimp only [D, IK, dz, gT]); omega))
    refine ⟨loopI (fun v : Nat => { n := 79, t := [(1, .ptr 0 0), (3, .own 1), (10, .val (.int .i64 v))], h := [(0, some (.cells [.dat .old (.i .i64) cards, .dat .old gT gates])), (1, some (.arr .fr (.i .i64) (List.replicate v 0 ++ x.drop v)))], nx := 2 }) (fun v => x.length - v) (fun v => Ok (v ≤ x.length ∧ ∀ u, u < v → x.getD u 0 = cards.getD u 0 - 1)),
      loopI.start 0 [] [1, 3, 10] [(1, []), (3, [])] .fr (by (repeat' first | apply And.intro | rfl); exact ⟨Nat.zero_le _, fun u hu => absurd hu (Nat.not_lt_zero u)⟩), ?_⟩
    rintro _ _ ⟨v, rfl, rfl, ⟨hv, hfull⟩⟩
    have hone : oneOK gates x := fun i hi => hon ▸ hones i (by omega)
    have hzl : (List.replicate v (0 : Int) ++ x.drop v).length = x.length := by rw [List.length_append, List.length_replicate, List.length_drop]; omega
    by_cases hvl : v < x.length
    · have hzv := zL_at hvl
      have hxv := okA_at hxo v (by omega)
      have hcv := hcc v (by omega)
      by_cases hf : x.getD v 0 = cards.getD v 0 - 1
      · repeat' first | apply And.intro | (intro h; (cases h; done)) | (intro h; exfalso; simp only [decT, decF, beq_iff_eq, beq_eq_false_iff_ne, ne_eq, Int.toNat_natCast] at h; (try dsimp only [D, IK, dz, gT] at h); first | omega | exact absurd h (by assumption) | exact h (by assumption)) | intro _ | exact True.intro | (show Region.lexB _ _ = true; kernel_rfl) | refine loopI.next (v + 1) [] [1, 3, 10] [(1, []), (3, [])] .fr ?_
        all_goals (try simp only [decT, decF, beq_iff_eq, bne_iff_ne, ne_eq, beq_eq_false_iff_ne, bne_eq_false_iff_eq, Decidable.not_not, Int.toNat_natCast, Bool.not_eq_true', Bool.not_eq_false', Bool.not_eq_true, Bool.not_eq_false, Int.not_lt, Int.not_le] at *; try dsimp only [D, IK, dz] at *)
        all_goals first | omega | rfl | skip
        · exact zL_set hvl
        · exact ⟨by omega, fun u hu => by
            by_cases e : u = v
            · rw [e]; exact hf
            · exact hfull u (by omega)⟩
      · obtain ⟨k1, k2, k3⟩ := odo_step hxo hvl hfull hf
        repeat' first | apply And.intro | (intro h; (cases h; done)) | (intro h; exfalso; simp only [decT, decF, beq_iff_eq, beq_eq_false_iff_ne, ne_eq, Int.toNat_natCast] at h; (try dsimp only [D, IK, dz, gT] at h); first | omega | exact absurd h (by assumption) | exact h (by assumption)) | intro _ | exact True.intro | (show Region.lexB _ _ = true; kernel_rfl) | refine loopI.next (nextA v x) [] [1, 3] [(1, []), (3, [])] .fr ?_
        all_goals (try simp only [decT, decF, beq_iff_eq, bne_iff_ne, ne_eq, beq_eq_false_iff_ne, bne_eq_false_iff_eq, Decidable.not_not, Int.toNat_natCast, Bool.not_eq_true', Bool.not_eq_false', Bool.not_eq_true, Bool.not_eq_false, Int.not_lt, Int.not_le] at *; try dsimp only [D, IK, dz] at *)
        all_goals first | omega | rfl | skip
        · rw [hzv]; rfl
        · have := rankA_lt hxo; omega
        · exact ⟨k1, fun a ha hl => by
            rcases k2 a ha hl with h | rfl
            · exact hdone a ha h
            · exact hone⟩
    · have hve : v = x.length := by omega
      repeat' first | apply And.intro | (intro h; (cases h; done)) | (intro h; exfalso; simp only [decT, decF, beq_iff_eq, beq_eq_false_iff_ne, ne_eq, Int.toNat_natCast] at h; (try dsimp only [D, IK, dz, gT] at h); first | omega | exact absurd h (by assumption) | exact h (by assumption)) | intro _ | exact True.intro | (show Region.lexB _ _ = true; kernel_rfl)
      all_goals (try simp only [decT, decF, beq_iff_eq, bne_iff_ne, ne_eq, beq_eq_false_iff_ne, bne_eq_false_iff_eq, Decidable.not_not, Int.toNat_natCast, Bool.not_eq_true', Bool.not_eq_false', Bool.not_eq_true, Bool.not_eq_false, Int.not_lt, Int.not_le] at *; try dsimp only [D, IK, dz] at *)
      all_goals first | omega | rfl | skip
      · refine (apartB_true fun a ha => ?_).symm
        rcases odo_end hxo (fun u hu => hfull u (by omega)) a ha with h | rfl
        · exact hdone a ha h
        · exact hone
end Go.Proofs.Ytbgnnpbcifgckaa
namespace Go.Proofs.Ytbgnnpbcifgckaa
open Go Go.Fw Go.RowKit
set_option maxRecDepth 100000
set_option maxHeartbeats 4000000
/-- Whether the first arguments of a sum have the variables of the first one. -/
def smA (vars : List Nat) (g : Gate) (t : Nat) : Bool := (g.2.2.2.2.take t).all fun a => !(decide (g.1 = 3) && (vars.getD a.toNat 0 != vars.getD (g.2.2.2.2.getD 0 0).toNat 0))
def seenA (vars : List Nat) (g : Gate) (t : Nat) : Nat := orU ((g.2.2.2.2.take t).map fun a => vars.getD a.toNat 0)
/-- Whether the first arguments of a product have no variable in common. -/
def dcA (vars : List Nat) (g : Gate) (t : Nat) : Bool := (List.range t).all fun k => !(decide (g.1 = 4) && ((vars.getD (g.2.2.2.2.getD k 0).toNat 0 &&& seenA vars g k) != 0))
def smF (vars : List Nat) (gates : List Gate) (j : Nat) : Bool := (List.range j).all fun i => smA vars (gates.getD i gz) (gates.getD i gz).2.2.2.2.length
def dcF (vars : List Nat) (gates : List Gate) (j : Nat) : Bool := (List.range j).all fun i => dcA vars (gates.getD i gz) (gates.getD i gz).2.2.2.2.length
theorem all_range_succ (f : Nat → Bool) (j : Nat) : (List.range (j + 1)).all f = ((List.range j).all f && f j) := by
  rw [List.range_succ, List.all_append]; simp
theorem smA_step (vars : List Nat) (g : Gate) {t : Nat} (h : t < g.2.2.2.2.length) : smA vars g (t + 1) = (smA vars g t && !(decide (g.1 = 3) && (vars.getD (g.2.2.2.2.getD t 0).toNat 0 != vars.getD (g.2.2.2.2.getD 0 0).toNat 0))) := by
  unfold smA
  rw [take_step h, List.all_append, getD_lt h]; simp
theorem dcA_step (vars : List Nat) (g : Gate) (t : Nat) : dcA vars g (t + 1) = (dcA vars g t && !(decide (g.1 = 4) && ((vars.getD (g.2.2.2.2.getD t 0).toNat 0 &&& seenA vars g t) != 0))) := by
  unfold dcA
  rw [all_range_succ]
theorem sm_no {k : Int} {x y : Nat} {a b : Bool} (h : ¬ k = 3 ∨ x = y) : (a && (b && !(decide (k = 3) && (x != y)))) = (a && b) := by
  rcases h with h | h
  · rw [decide_eq_false h]; simp
  · rw [h]; simp
theorem sm_yes {k : Int} {x y : Nat} {a b : Bool} (h : k = 3) (h2 : ¬ x = y) : (a && (b && !(decide (k = 3) && (x != y)))) = false := by
  rw [decide_eq_true h, bne_iff_ne.2 h2]; simp
theorem dc_no {k : Int} {x : Nat} {a b : Bool} (h : ¬ k = 4 ∨ x = 0) : (a && (b && !(decide (k = 4) && (x != 0)))) = (a && b) := by
  rcases h with h | h
  · rw [decide_eq_false h]; simp
  · rw [h]; simp
theorem dc_yes {k : Int} {x : Nat} {a b : Bool} (h : k = 4) (h2 : ¬ x = 0) : (a && (b && !(decide (k = 4) && (x != 0)))) = false := by
  rw [decide_eq_true h, bne_iff_ne.2 h2]; simp
theorem seenA_step (vars : List Nat) (g : Gate) {t : Nat} (h : t < g.2.2.2.2.length) : seenA vars g (t + 1) = seenA vars g t ||| vars.getD (g.2.2.2.2.getD t 0).toNat 0 := by
  unfold seenA
  rw [take_step h, List.map_append, List.map_singleton, orU_snoc, getD_lt h]
theorem getD_lt256 {vars : List Nat} (h : ∀ x ∈ vars, x < 256) (i : Nat) : vars.getD i 0 < 256 := by
  rcases Nat.lt_or_ge i vars.length with hi | hi
  · exact h _ (getD_mem hi)
  · rw [List.getD_eq_getElem?_getD, List.getElem?_eq_none hi]; exact (by decide : (0 : Nat) < 256)
theorem seenA_lt {vars : List Nat} (h : ∀ x ∈ vars, x < 256) (g : Gate) (t : Nat) : seenA vars g t < 256 := by
  refine orU_lt fun x hx => ?_
  obtain ⟨a, _, rfl⟩ := List.mem_map.1 hx
  exact getD_lt256 h _
section
variable (cards : List Int) (gates : List Gate) (hl : gates.length ≤ 4611686018427387903) (hc : cards.length ≤ 4611686018427387903) (hargs : ∀ g ∈ gates, g.2.2.2.2.length ≤ 1000000)
include hl hc hargs in
theorem kinds_no (h : rightB cards gates = false) : Fw.Fn Try.prog 13 [.agg [.dat .old (.i .i64) cards, .dat .old gT gates]] [] (.tup [.val (.bool false), .val (.bool false), .val (.bool false), .val (.int .i64 150)]) [] := by
  have hv := valid_fn cards gates hc hl fun g hg => by have := hargs g hg; omega
  rw [h] at hv
  refine fn_go env_ok mixed Try.func13 (c := Try.f13.body.get rfl) rfl (by kernel_rfl) [] rfl ?_
  repeat' first | apply And.intro | (intro h; (cases h; done)) | intro _ | exact True.intro | (show Region.lexB _ _ = true; kernel_rfl) | refine CallK.fn [] hv rfl rfl rfl rfl rfl trivial ?_
  all_goals rfl
include hl hc hargs in
theorem kinds_fn (h : rightB cards gates = true) : Fw.Fn Try.prog 13 [.agg [.dat .old (.i .i64) cards, .dat .old gT gates]] [] (.tup [.val (.bool (smF (varsF gates) gates gates.length)), .val (.bool (dcF (varsF gates) gates gates.length)), .val (.bool (apartB cards gates)), .val (.int .i64 0)]) [] := by
  have hv := valid_fn cards gates hc hl fun g hg => by have := hargs g hg; omega
  rw [h] at hv
  have hgl := (right_all h).1
  have hvn := varsF_len gates
  have hvl := varsF_lt h
  refine fn_go env_ok mixed Try.func13 (c := Try.f13.body.get rfl) rfl (by kernel_rfl) [] rfl ?_
  repeat' first | apply And.intro | (intro h; (cases h; done)) | intro _ | exact True.intro | (show Region.lexB _ _ = true; kernel_rfl) | refine CallK.fn [] hv rfl rfl rfl rfl rfl trivial ?_ | refine CallK.fn [] (variables_fn cards gates h hargs) rfl rfl rfl rfl rfl trivial ?_
  obtain ⟨vars, hva⟩ : ∃ vars, vars = varsF gates := ⟨_, rfl⟩
  refine ⟨loopI (fun j : Nat => { n := 72, t := [(1, .ptr 0 0), (2, .val (.bool (smF vars gates j))), (3, .val (.bool (dcF vars gates j))), (6, .dat .fr (.i .u64) vars), (18, .dat .old gT gates), (19, .val (.int .i64 (↑(List.length gates)))), (20, .val (.int .i64 j))], h := [(0, some (.cells [.dat .old (.i .i64) cards, .dat .old gT gates]))], nx := 1 }) (fun j => gates.length - j) (fun j => Ok (j ≤ gates.length)),
    loopI.start 0 [] [1, 2, 3, 6, 18, 19, 20] [(1, [])] .fr (by rw [hva]; (repeat' first | apply And.intro | rfl); exact ⟨Nat.zero_le _⟩), ?_⟩
  rintro _ _ ⟨j, rfl, rfl, ⟨hj⟩⟩
  rw [← hva] at hvn hvl ⊢
  by_cases hlt : j < gates.length
  · have hgk := (right_all h).2 j hlt
    have hal := hargs _ (getD_mem (d := gz) hlt)
    have hap : ∀ a ∈ (gates.getD j gz).2.2.2.2, 0 ≤ a ∧ a < j := gate_args hgk
    have hsj : smF vars gates (j + 1) = (smF vars gates j && smA vars (gates.getD j gz) (gates.getD j gz).2.2.2.2.length) := all_range_succ _ j
    have hdj : dcF vars gates (j + 1) = (dcF vars gates j && dcA vars (gates.getD j gz) (gates.getD j gz).2.2.2.2.length) := all_range_succ _ j
    repeat' first | apply And.intro | (intro h; (cases h; done)) | (intro h; exfalso; simp only [decT, decF, beq_iff_eq, beq_eq_false_iff_ne, ne_eq, Int.toNat_natCast] at h; (try dsimp only [D, IK, dz, gT] at h); first | omega | exact absurd h (by assumption) | exact h (by assumption)) | intro _ | exact True.intro | (show Region.lexB _ _ = true; kernel_rfl)
    (all_goals try ((first | (show (_ : Int) ≤ _) | (show (_ : Int) < _) | (show (_ : Nat) ≤ _) | (show (_ : Nat) < _)); (try simp only [Int.toNat_natCast, List.length_cons, List.length_nil, umax64]); (try dsimp only [D, IK, dz, gT]); omega))
    obtain ⟨g, hg⟩ : ∃ g, g = gates.getD j gz := ⟨_, rfl⟩
    refine ⟨loopI (fun t : Nat => { n := 72, t := [(1, .ptr 0 0), (2, .val (.bool (smF vars gates j && smA vars g t))), (3, .val (.bool (dcF vars gates j && dcA vars g t))), (6, .dat .fr (.i .u64) vars), (8, .ptr 1 0), (9, .un .u64 (seenA vars g t)), (18, .dat .old gT gates), (19, .val (.int .i64 (↑(List.length gates)))), (20, .val (.int .i64 ↑j)), (25, .dat .old (.i .i64) g.2.2.2.2), (26, .val (.int .i64 (↑(List.length g.2.2.2.2)))), (27, .val (.int .i64 t))], h := [(0, some (.cells [.dat .old (.i .i64) cards, .dat .old gT gates])), (1, some (.cells [.val (.int .i64 g.1), .val (.int .i64 g.2.1), .val (.int .i64 g.2.2.1), .val (.int .i64 g.2.2.2.1), .dat .old (.i .i64) g.2.2.2.2]))], nx := 2 }) (fun t => g.2.2.2.2.length - t) (fun t => Ok (t ≤ g.2.2.2.2.length)),
      loopI.start 0 [] [1, 2, 3, 6, 8, 9, 18, 19, 20, 25, 26, 27] [(1, []), (8, [])] .fr (by rw [hg]; (repeat' first | apply And.intro | rfl) <;> first | exact (Bool.and_true _).symm | exact ⟨Nat.zero_le _⟩), ?_⟩
    rintro _ _ ⟨t, rfl, rfl, ⟨ht⟩⟩
    rw [← hg] at hgk hal hap hsj hdj
    have hse := seenA_lt hvl g t
    by_cases htl : t < g.2.2.2.2.length
    · have hpa := hap _ (getD_mem (d := 0) htl)
      have hp0 := hap _ (getD_mem (l := g.2.2.2.2) (v := 0) (d := 0) (by omega))
      have e1 := smA_step vars g htl
      have e2 := dcA_step vars g t
      have e3 := seenA_step vars g htl
      have hv1 := getD_lt256 hvl (g.2.2.2.2.getD t 0).toNat
      repeat' first | apply And.intro | (intro h; (cases h; done)) | (intro h; exfalso; simp only [decT, decF, beq_iff_eq, beq_eq_false_iff_ne, ne_eq, Int.toNat_natCast] at h; (try dsimp only [D, IK, dz, gT] at h); first | omega | exact absurd h (by assumption) | exact h (by assumption)) | intro _ | exact True.intro | (show Region.lexB _ _ = true; kernel_rfl) | refine loopI.next (t + 1) [] [1, 2, 3, 6, 8, 9, 18, 19, 20, 25, 26, 27] [(1, []), (8, [])] .fr ?_
      all_goals (try simp only [decT, decF, beq_iff_eq, bne_iff_ne, ne_eq, beq_eq_false_iff_ne, bne_eq_false_iff_eq, Decidable.not_not, Int.toNat_natCast, Bool.not_eq_true', Bool.not_eq_false', Bool.not_eq_true, Bool.not_eq_false, Int.not_lt, Int.not_le] at *; try dsimp only [D, IK, dz] at *)
      all_goals first | omega | rfl | exact ⟨by omega⟩ | exact umax_ok hse | exact umax_ok hv1 | exact hp0.1 | exact (show (g.2.2.2.2.getD 0 0 < (vars.length : Int)) by omega) | skip
      all_goals first | (rw [e1, sm_no (Or.inl (by assumption))]; done) | (rw [e1, sm_no (Or.inr (by assumption))]; done) | (rw [e1, sm_yes (by assumption) (by assumption)]; done) | (rw [e2, dc_no (Or.inl (by assumption))]; done) | (rw [e2, dc_no (Or.inr (by assumption))]; done) | (rw [e2, dc_yes (by assumption) (by assumption)]; done) | (rw [e2, dc_no (Or.inl (by omega))]; done) | skip
    · have hte : t = g.2.2.2.2.length := by omega
      repeat' first | apply And.intro | (intro h; (cases h; done)) | (intro h; exfalso; simp only [decT, decF, beq_iff_eq, beq_eq_false_iff_ne, ne_eq, Int.toNat_natCast] at h; (try dsimp only [D, IK, dz, gT] at h); first | omega | exact absurd h (by assumption) | exact h (by assumption)) | intro _ | exact True.intro | (show Region.lexB _ _ = true; kernel_rfl) | refine loopI.next (j + 1) [] [1, 2, 3, 6, 18, 19, 20] [(1, [])] .fr ?_
      all_goals (try simp only [decT, decF, beq_iff_eq, bne_iff_ne, ne_eq, beq_eq_false_iff_ne, bne_eq_false_iff_eq, Decidable.not_not, Int.toNat_natCast, Bool.not_eq_true', Bool.not_eq_false', Bool.not_eq_true, Bool.not_eq_false, Int.not_lt, Int.not_le] at *; try dsimp only [D, IK, dz] at *)
      all_goals first | omega | rfl | exact ⟨by omega⟩ | (rw [hsj, hte]; done) | (rw [hdj, hte]; done)
  · have hje : j = gates.length := by omega
    repeat' first | apply And.intro | (intro h; (cases h; done)) | (intro h; exfalso; simp only [decT, decF, beq_iff_eq, beq_eq_false_iff_ne, ne_eq, Int.toNat_natCast] at h; (try dsimp only [D, IK, dz, gT] at h); first | omega | exact absurd h (by assumption) | exact h (by assumption)) | intro _ | exact True.intro | (show Region.lexB _ _ = true; kernel_rfl) | refine CallK.fn [] (apart_fn cards gates h hargs) rfl rfl rfl rfl rfl trivial ?_
    all_goals (try simp only [decT, decF, beq_iff_eq, bne_iff_ne, ne_eq, beq_eq_false_iff_ne, bne_eq_false_iff_eq, Decidable.not_not, Int.toNat_natCast, Bool.not_eq_true', Bool.not_eq_false', Bool.not_eq_true, Bool.not_eq_false, Int.not_lt, Int.not_le] at *; try dsimp only [D, IK, dz] at *)
    all_goals first | omega | rfl | rw [hje]
end
end Go.Proofs.Ytbgnnpbcifgckaa
namespace Go.Proofs.Ytbgnnpbcifgckaa
open Go Go.Fw Go.RowKit
set_option maxRecDepth 100000
set_option maxHeartbeats 4000000
def preU (out : List Nat) (g : Gate) (t : Nat) : Nat := orU ((if g.1 = 2 then [1 <<< g.2.1.toNat] else []) ++ (g.2.2.2.2.take t).map fun a => out.getD a.toNat 0)
theorem preU_step (out : List Nat) (g : Gate) {t : Nat} (h : t < g.2.2.2.2.length) : preU out g (t + 1) = preU out g t ||| out.getD (g.2.2.2.2.getD t 0).toNat 0 := by
  rw [preU, preU, take_step h, List.map_append, ← List.append_assoc, List.map_singleton, orU_snoc, getD_lt h]
theorem preU_end (out : List Nat) (g : Gate) {t : Nat} (h : t = g.2.2.2.2.length) : preU out g t = setG out g := by rw [preU, setG, h, List.take_length]
theorem ref_variables_fn (cards : List Int) (gates : List Gate) (hr : rightB cards gates = true) (hargs : ∀ g ∈ gates, g.2.2.2.2.length ≤ 1000000) : Fw.Fn Try.prog 25 [.agg [.dat .old (.i .i64) cards, .dat .old gT gates]] [] (.dat .fr (.i .u64) (varsF gates)) [] := by
  refine fn_go env_ok mixed Try.func25 (c := Try.f25.body.get rfl) rfl (by kernel_rfl) [] rfl ?_
  repeat' first | apply And.intro | (intro h; (cases h; done)) | (intro h; exfalso; simp only [decT, decF, beq_iff_eq, beq_eq_false_iff_ne, ne_eq, Int.toNat_natCast] at h; (try dsimp only [D, IK, dz, gT] at h); first | omega | exact absurd h (by assumption) | exact h (by assumption)) | intro _ | exact True.intro | (show Region.lexB _ _ = true; kernel_rfl)
  (all_goals try ((first | (show (_ : Int) ≤ _) | (show (_ : Int) < _) | (show (_ : Nat) ≤ _) | (show (_ : Nat) < _)); (try simp only [Int.toNat_natCast, List.length_cons, List.length_nil, umax64]); (try dsimp only [D, IK, dz, gT]); omega))
  refine ⟨loopI (fun j : Nat => { n := 49, t := [(1, .ptr 0 0), (3, .own 1), (4, .val (.int .i64 j))], h := [(0, some (.cells [.dat .old (.i .i64) cards, .dat .old gT gates])), (1, some (.arr .fr (.i .u64) (varsF (gates.take j))))], nx := 2 }) (fun j => gates.length - j) (fun j => Ok (j ≤ gates.length)),
    loopI.start 0 [3] [1, 3, 4] [(1, []), (3, [])] .fr (by (repeat' first | apply And.intro | rfl); exact ⟨Nat.zero_le _⟩), ?_⟩
  rintro _ _ ⟨j, rfl, rfl, ⟨hj⟩⟩
  have hgl := (right_all hr).1
  by_cases hlt : j < gates.length
  · have hgk := (right_all hr).2 j hlt
    have hal := hargs _ (getD_mem (d := gz) hlt)
    have h8 := (cards_ok hr).1
    have hvl : ∀ x ∈ varsF (gates.take j), x < 256 := varsT_lt hr (by omega)
    have hvn : (varsF (gates.take j)).length = j := by rw [varsF_len, List.length_take]; omega
    have hvs := varsF_take hlt
    have hap : ∀ a ∈ (gates.getD j gz).2.2.2.2, 0 ≤ a ∧ a < j := gate_args hgk
    have hsg := setG_lt hgk h8 hvl
    by_cases h2k : (gates.getD j gz).1 = 2
    · obtain ⟨_, g1, g2, g3, g4, g5⟩ := isgate hgk h2k
      have hsh : 1 <<< (gates.getD j gz).2.1.toNat < 256 := by
        rw [Nat.one_shiftLeft]
        exact Nat.pow_lt_pow_right (by decide) (by omega : (gates.getD j gz).2.1.toNat < 8)
      have hp0 : preU (varsF (gates.take j)) (gates.getD j gz) 0 = 1 <<< (gates.getD j gz).2.1.toNat := by
        rw [preU, if_pos h2k, List.take_zero, List.map_nil, List.append_nil, orU_cons]; exact Nat.or_zero _
      repeat' first | apply And.intro | (intro h; (cases h; done)) | (intro h; exfalso; simp only [decT, decF, beq_iff_eq, beq_eq_false_iff_ne, ne_eq, Int.toNat_natCast] at h; (try dsimp only [D, IK, dz, gT] at h); first | omega | exact absurd h (by assumption) | exact h (by assumption)) | intro _ | exact True.intro | (show Region.lexB _ _ = true; kernel_rfl)
      (all_goals try ((first | (show (_ : Int) ≤ _) | (show (_ : Int) < _) | (show (_ : Nat) ≤ _) | (show (_ : Nat) < _)); (try simp only [Int.toNat_natCast, List.length_cons, List.length_nil, umax64]); (try dsimp only [D, IK, dz, gT]); omega))
      · show (gates.getD j gz).2.1 ≤ _; omega
      · exact umax_ok hsh
      obtain ⟨g, hg⟩ : ∃ g, g = gates.getD j gz := ⟨_, rfl⟩
      refine ⟨loopI (fun t : Nat => { n := 49, t := [(1, .ptr 0 0), (3, .own 1), (4, .val (.int .i64 j)), (5, .ptr 2 0), (6, .un .u64 (preU (varsF (gates.take j)) g t)), (7, .val (.int .i64 t))], h := [(0, some (.cells [.dat .old (.i .i64) cards, .dat .old gT gates])), (1, some (.arr .fr (.i .u64) (varsF (gates.take j)))), (2, some (.cells [.val (.int .i64 g.1), .val (.int .i64 g.2.1), .val (.int .i64 g.2.2.1), .val (.int .i64 g.2.2.2.1), .dat .old (.i .i64) g.2.2.2.2]))], nx := 3 }) (fun t => g.2.2.2.2.length - t) (fun t => Ok (t ≤ g.2.2.2.2.length)),
        loopI.start 0 [] [1, 3, 4, 5, 6, 7] [(1, []), (3, []), (5, [])] .fr (by rw [hg]; (repeat' first | apply And.intro | rfl) <;> first | exact hp0.symm | exact ⟨Nat.zero_le _⟩), ?_⟩
      rw [← hg] at hgk hal hvs hap hsg
      clear h2k hp0
      rintro _ _ ⟨t, rfl, rfl, ⟨ht⟩⟩
      have hpl : ∀ t, preU (varsF (gates.take j)) g t < 256 := by
        intro t
        refine orU_lt fun x hx => ?_
        rcases List.mem_append.1 hx with hx | hx
        · split at hx
          · rename_i h2
            obtain ⟨_, g1, g2, _⟩ := isgate hgk h2
            rw [List.mem_singleton.1 hx, Nat.one_shiftLeft]
            exact Nat.pow_lt_pow_right (by decide) (by omega : g.2.1.toNat < 8)
          · cases hx
        · obtain ⟨a, _, rfl⟩ := List.mem_map.1 hx
          exact getD_lt256 hvl _
      by_cases htl : t < g.2.2.2.2.length
      · have hpa := hap _ (getD_mem (d := 0) htl)
        have hst := preU_step (varsF (gates.take j)) g htl
        have hb1 := umax_ok (hpl t)
        have hb2 := umax_ok (getD_lt256 hvl (g.2.2.2.2.getD t 0).toNat)
        repeat' first | apply And.intro | (intro h; (cases h; done)) | (intro h; exfalso; simp only [decT, decF, beq_iff_eq, beq_eq_false_iff_ne, ne_eq, Int.toNat_natCast] at h; (try dsimp only [D, IK, dz, gT] at h); first | omega | exact absurd h (by assumption) | exact h (by assumption)) | intro _ | exact True.intro | (show Region.lexB _ _ = true; kernel_rfl) | refine loopI.next (t + 1) [] [1, 3, 4, 5, 6, 7] [(1, []), (3, []), (5, [])] .fr ?_
        (all_goals try ((first | (show (_ : Int) ≤ _) | (show (_ : Int) < _) | (show (_ : Nat) ≤ _) | (show (_ : Nat) < _)); (try simp only [Int.toNat_natCast, List.length_cons, List.length_nil, umax64]); (try dsimp only [D, IK, dz, gT]); omega))
        all_goals (try simp only [decT, decF, beq_iff_eq, bne_iff_ne, ne_eq, beq_eq_false_iff_ne, bne_eq_false_iff_eq, Decidable.not_not, Int.toNat_natCast, Bool.not_eq_true', Bool.not_eq_false', Bool.not_eq_true, Bool.not_eq_false, Int.not_lt, Int.not_le] at *; try dsimp only [D, IK, dz] at *)
        all_goals first | omega | rfl | exact ⟨by omega⟩ | exact hst.symm | exact hb1 | exact hb2 | (exact show (g.2.2.2.2.getD t 0 : Int) < _ by omega)
      · have hte := preU_end (varsF (gates.take j)) g (show t = g.2.2.2.2.length by omega)
        repeat' first | apply And.intro | (intro h; (cases h; done)) | (intro h; exfalso; simp only [decT, decF, beq_iff_eq, beq_eq_false_iff_ne, ne_eq, Int.toNat_natCast] at h; (try dsimp only [D, IK, dz, gT] at h); first | omega | exact absurd h (by assumption) | exact h (by assumption)) | intro _ | exact True.intro | (show Region.lexB _ _ = true; kernel_rfl) | refine loopI.next (j + 1) [] [1, 3, 4] [(1, []), (3, [])] .fr ?_
        (all_goals try ((first | (show (_ : Int) ≤ _) | (show (_ : Int) < _) | (show (_ : Nat) ≤ _) | (show (_ : Nat) < _)); (try simp only [Int.toNat_natCast, List.length_cons, List.length_nil, umax64]); (try dsimp only [D, IK, dz, gT]); omega))
        all_goals (try simp only [decT, decF, beq_iff_eq, bne_iff_ne, ne_eq, beq_eq_false_iff_ne, bne_eq_false_iff_eq, Decidable.not_not, Int.toNat_natCast, Bool.not_eq_true', Bool.not_eq_false', Bool.not_eq_true, Bool.not_eq_false, Int.not_lt, Int.not_le] at *; try dsimp only [D, IK, dz] at *)
        all_goals try simp only [hvn, List.length_cons, List.length_nil]
        all_goals first | omega | rfl | exact ⟨by omega⟩ | (rw [hvs, hte]; done) | skip
    · have hp0 : preU (varsF (gates.take j)) (gates.getD j gz) 0 = 0 := by rw [preU, if_neg h2k]; rfl
      repeat' first | apply And.intro | (intro h; (cases h; done)) | (intro h; exfalso; simp only [decT, decF, beq_iff_eq, beq_eq_false_iff_ne, ne_eq, Int.toNat_natCast] at h; (try dsimp only [D, IK, dz, gT] at h); first | omega | exact absurd h (by assumption) | exact h (by assumption)) | intro _ | exact True.intro | (show Region.lexB _ _ = true; kernel_rfl)
      (all_goals try ((first | (show (_ : Int) ≤ _) | (show (_ : Int) < _) | (show (_ : Nat) ≤ _) | (show (_ : Nat) < _)); (try simp only [Int.toNat_natCast, List.length_cons, List.length_nil, umax64]); (try dsimp only [D, IK, dz, gT]); omega))
      obtain ⟨g, hg⟩ : ∃ g, g = gates.getD j gz := ⟨_, rfl⟩
      refine ⟨loopI (fun t : Nat => { n := 49, t := [(1, .ptr 0 0), (3, .own 1), (4, .val (.int .i64 j)), (5, .ptr 2 0), (6, .un .u64 (preU (varsF (gates.take j)) g t)), (7, .val (.int .i64 t))], h := [(0, some (.cells [.dat .old (.i .i64) cards, .dat .old gT gates])), (1, some (.arr .fr (.i .u64) (varsF (gates.take j)))), (2, some (.cells [.val (.int .i64 g.1), .val (.int .i64 g.2.1), .val (.int .i64 g.2.2.1), .val (.int .i64 g.2.2.2.1), .dat .old (.i .i64) g.2.2.2.2]))], nx := 3 }) (fun t => g.2.2.2.2.length - t) (fun t => Ok (t ≤ g.2.2.2.2.length)),
        loopI.start 0 [] [1, 3, 4, 5, 6, 7] [(1, []), (3, []), (5, [])] .fr (by rw [hg]; (repeat' first | apply And.intro | rfl) <;> first | exact hp0.symm | exact ⟨Nat.zero_le _⟩), ?_⟩
      rw [← hg] at hgk hal hvs hap hsg
      clear h2k hp0
      rintro _ _ ⟨t, rfl, rfl, ⟨ht⟩⟩
      have hpl : ∀ t, preU (varsF (gates.take j)) g t < 256 := by
        intro t
        refine orU_lt fun x hx => ?_
        rcases List.mem_append.1 hx with hx | hx
        · split at hx
          · rename_i h2
            obtain ⟨_, g1, g2, _⟩ := isgate hgk h2
            rw [List.mem_singleton.1 hx, Nat.one_shiftLeft]
            exact Nat.pow_lt_pow_right (by decide) (by omega : g.2.1.toNat < 8)
          · cases hx
        · obtain ⟨a, _, rfl⟩ := List.mem_map.1 hx
          exact getD_lt256 hvl _
      by_cases htl : t < g.2.2.2.2.length
      · have hpa := hap _ (getD_mem (d := 0) htl)
        have hst := preU_step (varsF (gates.take j)) g htl
        have hb1 := umax_ok (hpl t)
        have hb2 := umax_ok (getD_lt256 hvl (g.2.2.2.2.getD t 0).toNat)
        repeat' first | apply And.intro | (intro h; (cases h; done)) | (intro h; exfalso; simp only [decT, decF, beq_iff_eq, beq_eq_false_iff_ne, ne_eq, Int.toNat_natCast] at h; (try dsimp only [D, IK, dz, gT] at h); first | omega | exact absurd h (by assumption) | exact h (by assumption)) | intro _ | exact True.intro | (show Region.lexB _ _ = true; kernel_rfl) | refine loopI.next (t + 1) [] [1, 3, 4, 5, 6, 7] [(1, []), (3, []), (5, [])] .fr ?_
        (all_goals try ((first | (show (_ : Int) ≤ _) | (show (_ : Int) < _) | (show (_ : Nat) ≤ _) | (show (_ : Nat) < _)); (try simp only [Int.toNat_natCast, List.length_cons, List.length_nil, umax64]); (try dsimp only [D, IK, dz, gT]); omega))
        all_goals (try simp only [decT, decF, beq_iff_eq, bne_iff_ne, ne_eq, beq_eq_false_iff_ne, bne_eq_false_iff_eq, Decidable.not_not, Int.toNat_natCast, Bool.not_eq_true', Bool.not_eq_false', Bool.not_eq_true, Bool.not_eq_false, Int.not_lt, Int.not_le] at *; try dsimp only [D, IK, dz] at *)
        all_goals first | omega | rfl | exact ⟨by omega⟩ | exact hst.symm | exact hb1 | exact hb2 | (exact show (g.2.2.2.2.getD t 0 : Int) < _ by omega)
      · have hte := preU_end (varsF (gates.take j)) g (show t = g.2.2.2.2.length by omega)
        repeat' first | apply And.intro | (intro h; (cases h; done)) | (intro h; exfalso; simp only [decT, decF, beq_iff_eq, beq_eq_false_iff_ne, ne_eq, Int.toNat_natCast] at h; (try dsimp only [D, IK, dz, gT] at h); first | omega | exact absurd h (by assumption) | exact h (by assumption)) | intro _ | exact True.intro | (show Region.lexB _ _ = true; kernel_rfl) | refine loopI.next (j + 1) [] [1, 3, 4] [(1, []), (3, [])] .fr ?_
        (all_goals try ((first | (show (_ : Int) ≤ _) | (show (_ : Int) < _) | (show (_ : Nat) ≤ _) | (show (_ : Nat) < _)); (try simp only [Int.toNat_natCast, List.length_cons, List.length_nil, umax64]); (try dsimp only [D, IK, dz, gT]); omega))
        all_goals (try simp only [decT, decF, beq_iff_eq, bne_iff_ne, ne_eq, beq_eq_false_iff_ne, bne_eq_false_iff_eq, Decidable.not_not, Int.toNat_natCast, Bool.not_eq_true', Bool.not_eq_false', Bool.not_eq_true, Bool.not_eq_false, Int.not_lt, Int.not_le] at *; try dsimp only [D, IK, dz] at *)
        all_goals try simp only [hvn, List.length_cons, List.length_nil]
        all_goals first | omega | rfl | exact ⟨by omega⟩ | (rw [hvs, hte]; done) | skip
  · repeat' first | apply And.intro | (intro h; (cases h; done)) | (intro h; exfalso; simp only [decT, decF, beq_iff_eq, beq_eq_false_iff_ne, ne_eq, Int.toNat_natCast] at h; (try dsimp only [D, IK, dz, gT] at h); first | omega | exact absurd h (by assumption) | exact h (by assumption)) | intro _ | exact True.intro | (show Region.lexB _ _ = true; kernel_rfl)
    (all_goals try ((first | (show (_ : Int) ≤ _) | (show (_ : Int) < _) | (show (_ : Nat) ≤ _) | (show (_ : Nat) < _)); (try simp only [Int.toNat_natCast, List.length_cons, List.length_nil, umax64]); (try dsimp only [D, IK, dz, gT]); omega))
    rw [List.take_of_length_le (by omega)]
end Go.Proofs.Ytbgnnpbcifgckaa
namespace Go.Proofs.Ytbgnnpbcifgckaa
open Go Go.Fw Go.RowKit
set_option maxRecDepth 100000
set_option maxHeartbeats 4000000
theorem ref_smooth_in (cards : List Int) (gates : List Gate) (vars : List Nat) (B : Bool) (hv : vars.length = gates.length) (h4 : gates.length ≤ 4000) (hap : ∀ i, i < gates.length → ∀ a ∈ (gates.getD i gz).2.2.2.2, 0 ≤ a ∧ a < i) (hargs : ∀ g ∈ gates, g.2.2.2.2.length ≤ 1000000)
  (hb : ∀ i k, i < gates.length → k < (gates.getD i gz).2.2.2.2.length → (gates.getD i gz).1 = 3 → ¬ vars.getD ((gates.getD i gz).2.2.2.2.getD k 0).toNat 0 = vars.getD i 0 → B = false)
  (hgd : (∀ i k, i < gates.length → k < (gates.getD i gz).2.2.2.2.length → (gates.getD i gz).1 = 3 → vars.getD ((gates.getD i gz).2.2.2.2.getD k 0).toNat 0 = vars.getD i 0) → B = true)
  (hV : Fw.Fn Try.prog 25 [.agg [.dat .old (.i .i64) cards, .dat .old gT gates]] [] (.dat .fr (.i .u64) vars) []) :
    Fw.Fn Try.prog 15 [.agg [.dat .old (.i .i64) cards, .dat .old gT gates]] [] (.val (.bool B)) [] := by
  refine fn_go env_ok mixed Try.func15 (c := Try.f15.body.get rfl) rfl (by kernel_rfl) [] rfl ?_
  repeat' first | apply And.intro | (intro h; (cases h; done)) | (intro h; exfalso; simp only [decT, decF, beq_iff_eq, beq_eq_false_iff_ne, ne_eq, Int.toNat_natCast] at h; (try dsimp only [D, IK, dz, gT] at h); first | omega | exact absurd h (by assumption) | exact h (by assumption)) | intro _ | exact True.intro | (show Region.lexB _ _ = true; kernel_rfl) | refine CallK.fn [] hV rfl rfl rfl rfl rfl trivial ?_
  (all_goals try ((first | (show (_ : Int) ≤ _) | (show (_ : Int) < _) | (show (_ : Nat) ≤ _) | (show (_ : Nat) < _)); (try simp only [Int.toNat_natCast, List.length_cons, List.length_nil, umax64]); (try dsimp only [D, IK, dz, gT]); omega))
  refine ⟨loopI (fun i : Nat => { n := 52, t := [(1, .ptr 0 0), (3, .dat .fr (.i .u64) vars), (4, .val (.int .i64 i))], h := [(0, some (.cells [.dat .old (.i .i64) cards, .dat .old gT gates]))], nx := 1 }) (fun i => gates.length - i) (fun i => Ok (i ≤ gates.length ∧ ∀ i' k, i' < i → k < (gates.getD i' gz).2.2.2.2.length → (gates.getD i' gz).1 = 3 → vars.getD ((gates.getD i' gz).2.2.2.2.getD k 0).toNat 0 = vars.getD i' 0)),
    loopI.start 0 [] [1, 3, 4] [(1, [])] .fr (by (repeat' first | apply And.intro | rfl); exact ⟨Nat.zero_le _, fun i k h => absurd h (Nat.not_lt_zero i)⟩), ?_⟩
  rintro _ _ ⟨i, rfl, rfl, ⟨hi, ho⟩⟩
  by_cases hlt : i < gates.length
  · have hal := hargs _ (getD_mem (d := gz) hlt)
    have hai := hap i hlt
    have hbi := fun k => hb i k hlt
    repeat' first | apply And.intro | (intro h; (cases h; done)) | (intro h; exfalso; simp only [decT, decF, beq_iff_eq, beq_eq_false_iff_ne, ne_eq, Int.toNat_natCast] at h; (try dsimp only [D, IK, dz, gT] at h); first | omega | exact absurd h (by assumption) | exact h (by assumption)) | intro _ | exact True.intro | (show Region.lexB _ _ = true; kernel_rfl)
    (all_goals try (show Fw.xRun _ _ _ _ _ _ _ _; exfalso; (try simp only [decT, decF, beq_iff_eq, bne_iff_ne, ne_eq, beq_eq_false_iff_ne, bne_eq_false_iff_eq, Decidable.not_not, Int.toNat_natCast, Bool.not_eq_true', Bool.not_eq_false', Bool.not_eq_true, Bool.not_eq_false, Int.not_lt, Int.not_le] at *); omega))
    (all_goals try ((first | (show (_ : Int) ≤ _) | (show (_ : Int) < _) | (show (_ : Nat) ≤ _) | (show (_ : Nat) < _)); (try simp only [Int.toNat_natCast, List.length_cons, List.length_nil, umax64]); (try dsimp only [D, IK, dz, gT]); omega))
    refine ⟨loopI (fun k : Nat => { n := 52, t := [(1, .ptr 0 0), (3, .dat .fr (.i .u64) vars), (4, .val (.int .i64 i)), (5, .val (.int .i64 k))], h := [(0, some (.cells [.dat .old (.i .i64) cards, .dat .old gT gates]))], nx := 1 }) (fun k => (gates.getD i gz).2.2.2.2.length - k) (fun k => Ok (k ≤ (gates.getD i gz).2.2.2.2.length ∧ ∀ k', k' < k → (gates.getD i gz).1 = 3 → vars.getD ((gates.getD i gz).2.2.2.2.getD k' 0).toNat 0 = vars.getD i 0)),
      loopI.start 0 [] [1, 3, 4, 5] [(1, [])] .fr (by (repeat' first | apply And.intro | rfl); exact ⟨Nat.zero_le _, fun k h => absurd h (Nat.not_lt_zero k)⟩), ?_⟩
    rintro _ _ ⟨k, rfl, rfl, ⟨hk, hko⟩⟩
    by_cases hkl : k < (gates.getD i gz).2.2.2.2.length
    · have hak := hai _ (getD_mem (d := 0) hkl)
      have hbk := hbi k hkl
      have hso := all_step (P := fun k => (gates.getD i gz).1 = 3 → vars.getD ((gates.getD i gz).2.2.2.2.getD k 0).toNat 0 = vars.getD i 0) hko
      dsimp only [gz] at hak hbk hso hkl hal
      repeat' first | apply And.intro | (intro h; (cases h; done)) | (intro h; exfalso; simp only [decT, decF, beq_iff_eq, beq_eq_false_iff_ne, ne_eq, Int.toNat_natCast] at h; (try dsimp only [D, IK, dz, gT] at h); first | omega | exact absurd h (by assumption) | exact h (by assumption)) | intro _ | exact True.intro | (show Region.lexB _ _ = true; kernel_rfl) | refine loopI.next (k + 1) [] [1, 3, 4, 5] [(1, [])] .fr ?_
      (all_goals try ((first | (show (_ : Int) ≤ _) | (show (_ : Int) < _) | (show (_ : Nat) ≤ _) | (show (_ : Nat) < _)); (try simp only [Int.toNat_natCast, List.length_cons, List.length_nil, umax64]); (try dsimp only [D, IK, dz, gT]); omega))
      all_goals (try simp only [decT, decF, beq_iff_eq, bne_iff_ne, ne_eq, beq_eq_false_iff_ne, bne_eq_false_iff_eq, Decidable.not_not, Int.toNat_natCast, Bool.not_eq_true', Bool.not_eq_false', Bool.not_eq_true, Bool.not_eq_false, Int.not_lt, Int.not_le] at *; try dsimp only [D, IK, dz] at *)
      all_goals try dsimp only [gz] at *
      all_goals first | omega | rfl | exact ⟨by omega, hso fun h => absurd h (by assumption)⟩ | exact ⟨by omega, hso fun _ => by assumption⟩ | exact (hbk (by assumption) (by assumption)).symm | skip
    · have hke : k = (gates.getD i gz).2.2.2.2.length := by omega
      dsimp only [gz] at hke hko ho
      repeat' first | apply And.intro | (intro h; (cases h; done)) | (intro h; exfalso; simp only [decT, decF, beq_iff_eq, beq_eq_false_iff_ne, ne_eq, Int.toNat_natCast] at h; (try dsimp only [D, IK, dz, gT] at h); first | omega | exact absurd h (by assumption) | exact h (by assumption)) | intro _ | exact True.intro | (show Region.lexB _ _ = true; kernel_rfl) | refine loopI.next (i + 1) [] [1, 3, 4] [(1, [])] .fr ?_
      (all_goals try (show Fw.xRun _ _ _ _ _ _ _ _; exfalso; (try simp only [decT, decF, beq_iff_eq, bne_iff_ne, ne_eq, beq_eq_false_iff_ne, bne_eq_false_iff_eq, Decidable.not_not, Int.toNat_natCast, Bool.not_eq_true', Bool.not_eq_false', Bool.not_eq_true, Bool.not_eq_false, Int.not_lt, Int.not_le] at *); omega))
      (all_goals try ((first | (show (_ : Int) ≤ _) | (show (_ : Int) < _) | (show (_ : Nat) ≤ _) | (show (_ : Nat) < _)); (try simp only [Int.toNat_natCast, List.length_cons, List.length_nil, umax64]); (try dsimp only [D, IK, dz, gT]); omega))
      all_goals (try simp only [decT, decF, beq_iff_eq, bne_iff_ne, ne_eq, beq_eq_false_iff_ne, bne_eq_false_iff_eq, Decidable.not_not, Int.toNat_natCast, Bool.not_eq_true', Bool.not_eq_false', Bool.not_eq_true, Bool.not_eq_false, Int.not_lt, Int.not_le] at *; try dsimp only [D, IK, dz] at *)
      all_goals first | omega | rfl | skip
      · refine ⟨by omega, fun i' k' h1 h2 h3 => ?_⟩
        by_cases e : i' = i
        · subst e; exact hko k' (by omega) h3
        · exact ho i' k' (by omega) h2 h3
  · have hB := hgd fun i' k h1 => ho i' k (by omega)
    repeat' first | apply And.intro | (intro h; (cases h; done)) | (intro h; exfalso; simp only [decT, decF, beq_iff_eq, beq_eq_false_iff_ne, ne_eq, Int.toNat_natCast] at h; (try dsimp only [D, IK, dz, gT] at h); first | omega | exact absurd h (by assumption) | exact h (by assumption)) | intro _ | exact True.intro | (show Region.lexB _ _ = true; kernel_rfl)
    (all_goals try (show Fw.xRun _ _ _ _ _ _ _ _; exfalso; (try simp only [decT, decF, beq_iff_eq, bne_iff_ne, ne_eq, beq_eq_false_iff_ne, bne_eq_false_iff_eq, Decidable.not_not, Int.toNat_natCast, Bool.not_eq_true', Bool.not_eq_false', Bool.not_eq_true, Bool.not_eq_false, Int.not_lt, Int.not_le] at *); omega))
    (all_goals try ((first | (show (_ : Int) ≤ _) | (show (_ : Int) < _) | (show (_ : Nat) ≤ _) | (show (_ : Nat) < _)); (try simp only [Int.toNat_natCast, List.length_cons, List.length_nil, umax64]); (try dsimp only [D, IK, dz, gT]); omega))
    all_goals exact hB.symm
theorem ref_decomp_in (cards : List Int) (gates : List Gate) (vars : List Nat) (B : Bool) (hv : vars.length = gates.length) (hvl : ∀ x ∈ vars, x < 256) (h4 : gates.length ≤ 4000) (hap : ∀ i, i < gates.length → ∀ a ∈ (gates.getD i gz).2.2.2.2, 0 ≤ a ∧ a < i) (hargs : ∀ g ∈ gates, g.2.2.2.2.length ≤ 1000000)
  (hb : ∀ i k j, i < gates.length → k < (gates.getD i gz).2.2.2.2.length → j < k → (gates.getD i gz).1 = 4 → ¬ (vars.getD ((gates.getD i gz).2.2.2.2.getD k 0).toNat 0 &&& vars.getD ((gates.getD i gz).2.2.2.2.getD j 0).toNat 0) = 0 → B = false)
  (hgd : (∀ i k j, i < gates.length → k < (gates.getD i gz).2.2.2.2.length → j < k → (gates.getD i gz).1 = 4 → (vars.getD ((gates.getD i gz).2.2.2.2.getD k 0).toNat 0 &&& vars.getD ((gates.getD i gz).2.2.2.2.getD j 0).toNat 0) = 0) → B = true)
  (hV : Fw.Fn Try.prog 25 [.agg [.dat .old (.i .i64) cards, .dat .old gT gates]] [] (.dat .fr (.i .u64) vars) []) :
    Fw.Fn Try.prog 16 [.agg [.dat .old (.i .i64) cards, .dat .old gT gates]] [] (.val (.bool B)) [] := by
  refine fn_go env_ok mixed Try.func16 (c := Try.f16.body.get rfl) rfl (by kernel_rfl) [] rfl ?_
  repeat' first | apply And.intro | (intro h; (cases h; done)) | (intro h; exfalso; simp only [decT, decF, beq_iff_eq, beq_eq_false_iff_ne, ne_eq, Int.toNat_natCast] at h; (try dsimp only [D, IK, dz, gT] at h); first | omega | exact absurd h (by assumption) | exact h (by assumption)) | intro _ | exact True.intro | (show Region.lexB _ _ = true; kernel_rfl) | refine CallK.fn [] hV rfl rfl rfl rfl rfl trivial ?_
  (all_goals try ((first | (show (_ : Int) ≤ _) | (show (_ : Int) < _) | (show (_ : Nat) ≤ _) | (show (_ : Nat) < _)); (try simp only [Int.toNat_natCast, List.length_cons, List.length_nil, umax64]); (try dsimp only [D, IK, dz, gT]); omega))
  refine ⟨loopI (fun i : Nat => { n := 59, t := [(1, .ptr 0 0), (3, .dat .fr (.i .u64) vars), (4, .val (.int .i64 i))], h := [(0, some (.cells [.dat .old (.i .i64) cards, .dat .old gT gates]))], nx := 1 }) (fun i => gates.length - i) (fun i => Ok (i ≤ gates.length ∧ ∀ i' k j, i' < i → k < (gates.getD i' gz).2.2.2.2.length → j < k → (gates.getD i' gz).1 = 4 → (vars.getD ((gates.getD i' gz).2.2.2.2.getD k 0).toNat 0 &&& vars.getD ((gates.getD i' gz).2.2.2.2.getD j 0).toNat 0) = 0)),
    loopI.start 0 [] [1, 3, 4] [(1, [])] .fr (by (repeat' first | apply And.intro | rfl); exact ⟨Nat.zero_le _, fun i k j h => absurd h (Nat.not_lt_zero i)⟩), ?_⟩
  rintro _ _ ⟨i, rfl, rfl, ⟨hi, ho⟩⟩
  by_cases hlt : i < gates.length
  · have hal := hargs _ (getD_mem (d := gz) hlt)
    have hai := hap i hlt
    have hbi := fun k j => hb i k j hlt
    repeat' first | apply And.intro | (intro h; (cases h; done)) | (intro h; exfalso; simp only [decT, decF, beq_iff_eq, beq_eq_false_iff_ne, ne_eq, Int.toNat_natCast] at h; (try dsimp only [D, IK, dz, gT] at h); first | omega | exact absurd h (by assumption) | exact h (by assumption)) | intro _ | exact True.intro | (show Region.lexB _ _ = true; kernel_rfl)
    (all_goals try (show Fw.xRun _ _ _ _ _ _ _ _; exfalso; (try simp only [decT, decF, beq_iff_eq, bne_iff_ne, ne_eq, beq_eq_false_iff_ne, bne_eq_false_iff_eq, Decidable.not_not, Int.toNat_natCast, Bool.not_eq_true', Bool.not_eq_false', Bool.not_eq_true, Bool.not_eq_false, Int.not_lt, Int.not_le] at *); omega))
    (all_goals try ((first | (show (_ : Int) ≤ _) | (show (_ : Int) < _) | (show (_ : Nat) ≤ _) | (show (_ : Nat) < _)); (try simp only [Int.toNat_natCast, List.length_cons, List.length_nil, umax64]); (try dsimp only [D, IK, dz, gT]); omega))
    obtain ⟨g, hg⟩ : ∃ g, g = gates.getD i gz := ⟨_, rfl⟩
    refine ⟨loopI (fun k : Nat => { n := 59, t := [(1, .ptr 0 0), (3, .dat .fr (.i .u64) vars), (4, .val (.int .i64 i)), (5, .dat .old (.i .i64) g.2.2.2.2), (6, .val (.int .i64 k))], h := [(0, some (.cells [.dat .old (.i .i64) cards, .dat .old gT gates]))], nx := 1 }) (fun k => g.2.2.2.2.length - k) (fun k => Ok (k ≤ g.2.2.2.2.length ∧ ∀ k', k' < k → ∀ j, j < k' → g.1 = 4 → (vars.getD (g.2.2.2.2.getD k' 0).toNat 0 &&& vars.getD (g.2.2.2.2.getD j 0).toNat 0) = 0)),
      loopI.start 0 [] [1, 3, 4, 5, 6] [(1, [])] .fr (by rw [hg]; (repeat' first | apply And.intro | rfl); exact ⟨Nat.zero_le _, fun k h => absurd h (Nat.not_lt_zero k)⟩), ?_⟩
    rw [← hg] at hal hai hbi
    have hg1 : ∀ z, z = (gates.getD i gz).1 → z = g.1 := fun z h => by rw [hg, h]
    rintro _ _ ⟨k, rfl, rfl, ⟨hk, hko⟩⟩
    by_cases hkl : k < g.2.2.2.2.length
    · have hak := hai _ (getD_mem (d := 0) hkl)
      have hbk := fun j => hbi k j hkl
      have hso := all_step (P := fun k => ∀ j, j < k → g.1 = 4 → (vars.getD (g.2.2.2.2.getD k 0).toNat 0 &&& vars.getD (g.2.2.2.2.getD j 0).toNat 0) = 0) hko
      repeat' first | apply And.intro | (intro h; (cases h; done)) | (intro h; exfalso; simp only [decT, decF, beq_iff_eq, beq_eq_false_iff_ne, ne_eq, Int.toNat_natCast] at h; (try dsimp only [D, IK, dz, gT] at h); first | omega | exact absurd h (by assumption) | exact h (by assumption)) | intro _ | exact True.intro | (show Region.lexB _ _ = true; kernel_rfl)
      (all_goals try (show Fw.xRun _ _ _ _ _ _ _ _; exfalso; (try simp only [decT, decF, beq_iff_eq, bne_iff_ne, ne_eq, beq_eq_false_iff_ne, bne_eq_false_iff_eq, Decidable.not_not, Int.toNat_natCast, Bool.not_eq_true', Bool.not_eq_false', Bool.not_eq_true, Bool.not_eq_false, Int.not_lt, Int.not_le] at *); omega))
      (all_goals try ((first | (show (_ : Int) ≤ _) | (show (_ : Int) < _) | (show (_ : Nat) ≤ _) | (show (_ : Nat) < _)); (try simp only [Int.toNat_natCast, List.length_cons, List.length_nil, umax64]); (try dsimp only [D, IK, dz, gT]); omega))
      refine ⟨loopI (fun j : Nat => { n := 59, t := [(1, .ptr 0 0), (3, .dat .fr (.i .u64) vars), (4, .val (.int .i64 i)), (5, .dat .old (.i .i64) g.2.2.2.2), (6, .val (.int .i64 k)), (7, .val (.int .i64 j))], h := [(0, some (.cells [.dat .old (.i .i64) cards, .dat .old gT gates]))], nx := 1 }) (fun j => k - j) (fun j => Ok (j ≤ k ∧ ∀ j', j' < j → g.1 = 4 → (vars.getD (g.2.2.2.2.getD k 0).toNat 0 &&& vars.getD (g.2.2.2.2.getD j' 0).toNat 0) = 0)),
        loopI.start 0 [] [1, 3, 4, 5, 6, 7] [(1, [])] .fr (by (repeat' first | apply And.intro | rfl); exact ⟨Nat.zero_le _, fun j h => absurd h (Nat.not_lt_zero j)⟩), ?_⟩
      rintro _ _ ⟨j, rfl, rfl, ⟨hj, hjo⟩⟩
      by_cases hjl : j < k
      · have haj := hai _ (getD_mem (l := g.2.2.2.2) (v := j) (d := 0) (by omega))
        have hbj := hbk j hjl
        have hsj := all_step (P := fun j => g.1 = 4 → (vars.getD (g.2.2.2.2.getD k 0).toNat 0 &&& vars.getD (g.2.2.2.2.getD j 0).toNat 0) = 0) hjo
        have hu1 := umax_ok (getD_lt256 hvl (g.2.2.2.2.getD k 0).toNat)
        rw [hg] at hsj hbj
        dsimp only [gz] at hbj hsj hlt
        repeat' first | apply And.intro | (intro h; (cases h; done)) | (intro h; exfalso; simp only [decT, decF, beq_iff_eq, beq_eq_false_iff_ne, ne_eq, Int.toNat_natCast] at h; (try dsimp only [D, IK, dz, gT] at h); first | omega | exact absurd h (by assumption) | exact h (by assumption)) | intro _ | exact True.intro | (show Region.lexB _ _ = true; kernel_rfl) | refine loopI.next (j + 1) [] [1, 3, 4, 5, 6, 7] [(1, [])] .fr ?_
        (all_goals try ((first | (show (_ : Int) ≤ _) | (show (_ : Int) < _) | (show (_ : Nat) ≤ _) | (show (_ : Nat) < _)); (try simp only [Int.toNat_natCast, List.length_cons, List.length_nil, umax64]); (try dsimp only [D, IK, dz, gT]); omega))
        all_goals (try simp only [decT, decF, beq_iff_eq, bne_iff_ne, ne_eq, beq_eq_false_iff_ne, bne_eq_false_iff_eq, Decidable.not_not, Int.toNat_natCast, Bool.not_eq_true', Bool.not_eq_false', Bool.not_eq_true, Bool.not_eq_false, Int.not_lt, Int.not_le] at *; try dsimp only [D, IK, dz] at *)
        all_goals try dsimp only [gz] at *
        all_goals try rw [← hg] at *
        all_goals first | omega | rfl | exact hu1 | exact ⟨by omega, hsj fun h => absurd h (by assumption)⟩ | exact ⟨by omega, hsj fun _ => by assumption⟩ | exact (hbj (by assumption) (by assumption)).symm | skip
      · have hje : j = k := by omega
        repeat' first | apply And.intro | (intro h; (cases h; done)) | (intro h; exfalso; simp only [decT, decF, beq_iff_eq, beq_eq_false_iff_ne, ne_eq, Int.toNat_natCast] at h; (try dsimp only [D, IK, dz, gT] at h); first | omega | exact absurd h (by assumption) | exact h (by assumption)) | intro _ | exact True.intro | (show Region.lexB _ _ = true; kernel_rfl) | refine loopI.next (k + 1) [] [1, 3, 4, 5, 6] [(1, [])] .fr ?_
        (all_goals try (show Fw.xRun _ _ _ _ _ _ _ _; exfalso; (try simp only [decT, decF, beq_iff_eq, bne_iff_ne, ne_eq, beq_eq_false_iff_ne, bne_eq_false_iff_eq, Decidable.not_not, Int.toNat_natCast, Bool.not_eq_true', Bool.not_eq_false', Bool.not_eq_true, Bool.not_eq_false, Int.not_lt, Int.not_le] at *); omega))
        (all_goals try ((first | (show (_ : Int) ≤ _) | (show (_ : Int) < _) | (show (_ : Nat) ≤ _) | (show (_ : Nat) < _)); (try simp only [Int.toNat_natCast, List.length_cons, List.length_nil, umax64]); (try dsimp only [D, IK, dz, gT]); omega))
        all_goals (try simp only [decT, decF, beq_iff_eq, bne_iff_ne, ne_eq, beq_eq_false_iff_ne, bne_eq_false_iff_eq, Decidable.not_not, Int.toNat_natCast, Bool.not_eq_true', Bool.not_eq_false', Bool.not_eq_true, Bool.not_eq_false, Int.not_lt, Int.not_le] at *; try dsimp only [D, IK, dz] at *)
        all_goals first | omega | rfl | exact ⟨by omega, hso (hje ▸ hjo)⟩ | skip
    · have hke : k = g.2.2.2.2.length := by omega
      repeat' first | apply And.intro | (intro h; (cases h; done)) | (intro h; exfalso; simp only [decT, decF, beq_iff_eq, beq_eq_false_iff_ne, ne_eq, Int.toNat_natCast] at h; (try dsimp only [D, IK, dz, gT] at h); first | omega | exact absurd h (by assumption) | exact h (by assumption)) | intro _ | exact True.intro | (show Region.lexB _ _ = true; kernel_rfl) | refine loopI.next (i + 1) [] [1, 3, 4] [(1, [])] .fr ?_
      (all_goals try (show Fw.xRun _ _ _ _ _ _ _ _; exfalso; (try simp only [decT, decF, beq_iff_eq, bne_iff_ne, ne_eq, beq_eq_false_iff_ne, bne_eq_false_iff_eq, Decidable.not_not, Int.toNat_natCast, Bool.not_eq_true', Bool.not_eq_false', Bool.not_eq_true, Bool.not_eq_false, Int.not_lt, Int.not_le] at *); omega))
      (all_goals try ((first | (show (_ : Int) ≤ _) | (show (_ : Int) < _) | (show (_ : Nat) ≤ _) | (show (_ : Nat) < _)); (try simp only [Int.toNat_natCast, List.length_cons, List.length_nil, umax64]); (try dsimp only [D, IK, dz, gT]); omega))
      all_goals (try simp only [decT, decF, beq_iff_eq, bne_iff_ne, ne_eq, beq_eq_false_iff_ne, bne_eq_false_iff_eq, Decidable.not_not, Int.toNat_natCast, Bool.not_eq_true', Bool.not_eq_false', Bool.not_eq_true, Bool.not_eq_false, Int.not_lt, Int.not_le] at *; try dsimp only [D, IK, dz] at *)
      all_goals first | omega | rfl | skip
      · refine ⟨by omega, fun i' k' j' h1 h2 h3 h4 => ?_⟩
        by_cases e : i' = i
        · subst e
          rw [← hg] at h2 h4 ⊢
          exact hko k' (by omega) j' h3 h4
        · exact ho i' k' j' (by omega) h2 h3 h4
  · have hB := hgd fun i' k j h1 => ho i' k j (by omega)
    repeat' first | apply And.intro | (intro h; (cases h; done)) | (intro h; exfalso; simp only [decT, decF, beq_iff_eq, beq_eq_false_iff_ne, ne_eq, Int.toNat_natCast] at h; (try dsimp only [D, IK, dz, gT] at h); first | omega | exact absurd h (by assumption) | exact h (by assumption)) | intro _ | exact True.intro | (show Region.lexB _ _ = true; kernel_rfl)
    (all_goals try (show Fw.xRun _ _ _ _ _ _ _ _; exfalso; (try simp only [decT, decF, beq_iff_eq, bne_iff_ne, ne_eq, beq_eq_false_iff_ne, bne_eq_false_iff_eq, Decidable.not_not, Int.toNat_natCast, Bool.not_eq_true', Bool.not_eq_false', Bool.not_eq_true, Bool.not_eq_false, Int.not_lt, Int.not_le] at *); omega))
    (all_goals try ((first | (show (_ : Int) ≤ _) | (show (_ : Int) < _) | (show (_ : Nat) ≤ _) | (show (_ : Nat) < _)); (try simp only [Int.toNat_natCast, List.length_cons, List.length_nil, umax64]); (try dsimp only [D, IK, dz, gT]); omega))
    all_goals exact hB.symm
end Go.Proofs.Ytbgnnpbcifgckaa
namespace Go.Proofs.Ytbgnnpbcifgckaa
open Go Go.Fw Go.RowKit
set_option maxRecDepth 100000
set_option maxHeartbeats 4000000
theorem vpre : ∀ (gs : List Gate) (o : List Nat), ∃ r, gs.foldl (fun out g => out ++ [setG out g]) o = o ++ r
  | [], o => ⟨[], (List.append_nil o).symm⟩
  | g :: gs, o => by
    obtain ⟨r, h⟩ := vpre gs (o ++ [setG o g])
    exact ⟨[setG o g] ++ r, by rw [List.foldl_cons, h, List.append_assoc]⟩
theorem varsF_split {gates : List Gate} {i : Nat} (h : i < gates.length) : ∃ r, varsF gates = varsF (gates.take i) ++ setG (varsF (gates.take i)) (gates.getD i gz) :: r := by
  obtain ⟨r, hr⟩ := vpre (gates.drop (i + 1)) (varsF (gates.take (i + 1)))
  refine ⟨r, ?_⟩
  have e : varsF gates = (gates.drop (i + 1)).foldl (fun out g => out ++ [setG out g]) (varsF (gates.take (i + 1))) := by
    conv => lhs; rw [varsF, ← List.take_append_drop (i + 1) gates, List.foldl_append]
    rfl
  rw [e, hr, varsF_take h, List.append_assoc]; rfl
/-- A gate's variables are those of its arguments, and its own. -/
theorem varsF_at {gates : List Gate} {i : Nat} (h : i < gates.length) (hap : ∀ a ∈ (gates.getD i gz).2.2.2.2, 0 ≤ a ∧ a < i) : (varsF gates).getD i 0 = setG (varsF gates) (gates.getD i gz) := by
  obtain ⟨r, e⟩ := varsF_split h
  have hl : (varsF (gates.take i)).length = i := by rw [varsF_len, List.length_take]; omega
  have h1 : (varsF gates).getD i 0 = setG (varsF (gates.take i)) (gates.getD i gz) := by
    rw [e, List.getD_eq_getElem?_getD, List.getElem?_append_right (by omega), hl, Nat.sub_self]; rfl
  rw [h1, setG, setG]
  congr 2
  refine List.map_congr_left fun a ha => ?_
  have := hap a ha
  rw [e, List.getD_eq_getElem?_getD, List.getD_eq_getElem?_getD, List.getElem?_append_left (by omega)]
theorem orU_same {l : List Nat} {x : Nat} (h : ∀ y ∈ l, y = x) (hne : l ≠ []) : orU l = x := by
  induction l with
  | nil => exact absurd rfl hne
  | cons y l ih =>
    rw [orU_cons, h y List.mem_cons_self]
    cases l with
    | nil => exact Nat.or_zero _
    | cons z l =>
      rw [ih (fun w hw => h w (List.mem_cons_of_mem _ hw)) (by simp), Nat.or_self]
theorem and_orU {x : Nat} : ∀ {l : List Nat}, (x &&& orU l) = 0 ↔ ∀ y ∈ l, (x &&& y) = 0
  | [] => by simp [orU]
  | z :: l => by
    rw [orU_cons, Nat.and_or_distrib_left]
    constructor
    · intro h y hy
      have h1 : (x &&& z) = 0 := by
        apply Nat.eq_of_testBit_eq
        intro i
        have := congrArg (fun n => n.testBit i) h
        simp only [Nat.testBit_or, Nat.zero_testBit, Bool.or_eq_false_iff] at this
        rw [this.1, Nat.zero_testBit]
      have h2 : (x &&& orU l) = 0 := by
        apply Nat.eq_of_testBit_eq
        intro i
        have := congrArg (fun n => n.testBit i) h
        simp only [Nat.testBit_or, Nat.zero_testBit, Bool.or_eq_false_iff] at this
        rw [this.2, Nat.zero_testBit]
      rcases List.mem_cons.1 hy with rfl | hy
      · exact h1
      · exact and_orU.1 h2 y hy
    · intro h
      rw [h z List.mem_cons_self, and_orU.2 fun y hy => h y (List.mem_cons_of_mem _ hy)]; rfl
section
variable {cards : List Int} {gates : List Gate}
theorem sm_iff (hr : rightB cards gates = true) {i : Nat} (hi : i < gates.length) : smA (varsF gates) (gates.getD i gz) (gates.getD i gz).2.2.2.2.length = true ↔ ((gates.getD i gz).1 = 3 → ∀ k, k < (gates.getD i gz).2.2.2.2.length → (varsF gates).getD ((gates.getD i gz).2.2.2.2.getD k 0).toNat 0 = (varsF gates).getD i 0) := by
  have hgk := (right_all hr).2 i hi
  have hap := gate_args hgk
  have hat := varsF_at hi hap
  rw [smA, List.take_length, List.all_eq_true]
  by_cases h3 : (gates.getD i gz).1 = 3
  · have hne : (gates.getD i gz).2.2.2.2 ≠ [] := by
      rcases gate_ok hgk with h | h | h
      · omega
      · omega
      · intro e
        have := h.2.1
        rw [e] at this
        exact this rfl
    have hU : (varsF gates).getD i 0 = orU ((gates.getD i gz).2.2.2.2.map fun a => (varsF gates).getD a.toNat 0) := by
      rw [hat, setG, if_neg (by omega), List.nil_append]
    have hl0 : 0 < (gates.getD i gz).2.2.2.2.length := List.length_pos_iff.2 hne
    simp only [h3, decide_true, Bool.true_and, Bool.not_eq_true', bne_eq_false_iff_eq, true_implies]
    constructor
    · intro h
      have hs : (varsF gates).getD i 0 = (varsF gates).getD ((gates.getD i gz).2.2.2.2.getD 0 0).toNat 0 := by
        rw [hU]
        refine orU_same (fun y hy => ?_) (by simpa using hne)
        obtain ⟨a, ha, rfl⟩ := List.mem_map.1 hy
        exact h a ha
      intro k hk
      rw [hs]
      exact h _ (getD_mem hk)
    · intro h a ha
      obtain ⟨k, hk, rfl⟩ := List.getElem_of_mem ha
      have h1 := h k hk
      rw [getD_lt hk] at h1
      rw [h1, ← h 0 hl0]
  · simp only [h3, decide_false, Bool.false_and, Bool.not_false, implies_true, false_implies]
theorem smooth_bad (hr : rightB cards gates = true) {i k : Nat} (hi : i < gates.length) (hk : k < (gates.getD i gz).2.2.2.2.length) (h3 : (gates.getD i gz).1 = 3) (h : ¬ (varsF gates).getD ((gates.getD i gz).2.2.2.2.getD k 0).toNat 0 = (varsF gates).getD i 0) : smF (varsF gates) gates gates.length = false := by
  rw [smF, List.all_eq_false]
  refine ⟨i, List.mem_range.2 hi, fun e => h ?_⟩
  exact (sm_iff hr hi).1 e h3 k hk
theorem smooth_good (hr : rightB cards gates = true) (h : ∀ i k, i < gates.length → k < (gates.getD i gz).2.2.2.2.length → (gates.getD i gz).1 = 3 → (varsF gates).getD ((gates.getD i gz).2.2.2.2.getD k 0).toNat 0 = (varsF gates).getD i 0) : smF (varsF gates) gates gates.length = true := by
  rw [smF, List.all_eq_true]
  intro i hi
  have hi := List.mem_range.1 hi
  exact (sm_iff hr hi).2 fun h3 k hk => h i k hi hk h3
theorem dc_iff (vars : List Nat) (g : Gate) : dcA vars g g.2.2.2.2.length = true ↔ (g.1 = 4 → ∀ k j, k < g.2.2.2.2.length → j < k → (vars.getD (g.2.2.2.2.getD k 0).toNat 0 &&& vars.getD (g.2.2.2.2.getD j 0).toNat 0) = 0) := by
  rw [dcA, List.all_eq_true]
  by_cases h4 : g.1 = 4
  · simp only [h4, decide_true, Bool.true_and, Bool.not_eq_true', bne_eq_false_iff_eq, true_implies, seenA, and_orU]
    constructor
    · intro h k j hk hj
      refine h k (List.mem_range.2 hk) _ (List.mem_map.2 ⟨g.2.2.2.2.getD j 0, ?_, rfl⟩)
      rw [getD_lt (by omega)]
      exact List.mem_take_iff_getElem.2 ⟨j, by omega, rfl⟩
    · intro h k hk y hy
      have hk := List.mem_range.1 hk
      obtain ⟨a, ha, rfl⟩ := List.mem_map.1 hy
      obtain ⟨j, hj, rfl⟩ := List.mem_take_iff_getElem.1 ha
      have := h k j hk (by omega)
      rwa [getD_lt (l := g.2.2.2.2) (v := j) (by omega)] at this
  · simp only [h4, decide_false, Bool.false_and, Bool.not_false, implies_true, false_implies]
theorem decomp_bad {vars : List Nat} {i k j : Nat} (hi : i < gates.length) (hk : k < (gates.getD i gz).2.2.2.2.length) (hj : j < k) (h4 : (gates.getD i gz).1 = 4) (h : ¬ (vars.getD ((gates.getD i gz).2.2.2.2.getD k 0).toNat 0 &&& vars.getD ((gates.getD i gz).2.2.2.2.getD j 0).toNat 0) = 0) : dcF vars gates gates.length = false := by
  rw [dcF, List.all_eq_false]
  exact ⟨i, List.mem_range.2 hi, fun e => h ((dc_iff vars _).1 e h4 k j hk hj)⟩
theorem decomp_good {vars : List Nat} (h : ∀ i k j, i < gates.length → k < (gates.getD i gz).2.2.2.2.length → j < k → (gates.getD i gz).1 = 4 → (vars.getD ((gates.getD i gz).2.2.2.2.getD k 0).toNat 0 &&& vars.getD ((gates.getD i gz).2.2.2.2.getD j 0).toNat 0) = 0) : dcF vars gates gates.length = true := by
  rw [dcF, List.all_eq_true]
  intro i hi
  exact (dc_iff vars _).2 fun h4 k j hk hj => h i k j (List.mem_range.1 hi) hk hj h4
end
theorem ref_smooth_fn (cards : List Int) (gates : List Gate) (hr : rightB cards gates = true) (hargs : ∀ g ∈ gates, g.2.2.2.2.length ≤ 1000000) : Fw.Fn Try.prog 15 [.agg [.dat .old (.i .i64) cards, .dat .old gT gates]] [] (.val (.bool (smF (varsF gates) gates gates.length))) [] :=
  ref_smooth_in cards gates (varsF gates) _ (varsF_len gates) (right_all hr).1 (fun i hi => gate_args ((right_all hr).2 i hi)) hargs (fun _ _ hi hk h3 h => smooth_bad hr hi hk h3 h) (smooth_good hr) (ref_variables_fn cards gates hr hargs)
theorem ref_decomp_fn (cards : List Int) (gates : List Gate) (hr : rightB cards gates = true) (hargs : ∀ g ∈ gates, g.2.2.2.2.length ≤ 1000000) : Fw.Fn Try.prog 16 [.agg [.dat .old (.i .i64) cards, .dat .old gT gates]] [] (.val (.bool (dcF (varsF gates) gates gates.length))) [] :=
  ref_decomp_in cards gates (varsF gates) _ (varsF_len gates) (varsF_lt hr) (right_all hr).1 (fun i hi => gate_args ((right_all hr).2 i hi)) hargs (fun _ _ _ hi hk hj h4 h => decomp_bad hi hk hj h4 h) decomp_good (ref_variables_fn cards gates hr hargs)
end Go.Proofs.Ytbgnnpbcifgckaa
namespace Go.Proofs.Ytbgnnpbcifgckaa
open Go Go.Fw Go.RowKit
set_option maxRecDepth 100000
set_option maxHeartbeats 4000000
theorem argsB_inc {i : Int} {args : List Int} (h : argsB i args = true) : args.Pairwise (· < ·) := by
  rw [List.pairwise_iff_getElem]
  simp only [argsB, List.all_eq_true, List.mem_range, okAt, Bool.and_eq_true, Bool.or_eq_true, decide_eq_true_eq] at h
  have : ∀ (k m : Nat), m + 1 + k < args.length → args.getD m 0 < args.getD (m + 1 + k) 0 := by
    intro k
    induction k with
    | zero =>
      intro m hm
      have h2 := (h (m + 1) hm).2
      rw [Nat.add_sub_cancel] at h2
      rcases h2 with h2 | h2
      · omega
      · exact h2
    | succ k ih =>
      intro m hm
      have h1 := ih m (by omega)
      have h2 := (h (m + 1 + (k + 1)) hm).2
      rw [show m + 1 + (k + 1) - 1 = m + 1 + k by omega] at h2
      rcases h2 with h2 | h2
      · omega
      · omega
  intro a b ha hb hab
  have := this (b - a - 1) a (by omega)
  rw [show a + 1 + (b - a - 1) = b by omega, getD_lt ha, getD_lt hb] at this
  exact this
theorem folA_get {vs : List Int} {g : Gate} {d : Int} {i : Nat} : ∀ {ar : List Int} (l : List Int), (∀ a ∈ ar, 0 ≤ a) → ar.Pairwise (· < ·) → i < l.length →
    (ar.foldl (stepA vs g d) l).getD i 0 = l.getD i 0 + if (i : Int) ∈ ar then d * byD vs g i else 0
  | [], l, _, _, _ => by simp
  | a :: ar, l, h0, hp, hi => by
    rw [List.pairwise_cons] at hp
    have ha := h0 a List.mem_cons_self
    rw [List.foldl_cons]
    by_cases e : a.toNat = i
    · have ea : (i : Int) = a := by omega
      rw [folA_other _ fun b hb => by have := hp.1 b hb; omega, stepA, getD_set, if_pos ⟨e, by omega⟩, if_pos (by rw [ea]; exact List.mem_cons_self), ea, e]
    · have : (i : Int) ≠ a := by omega
      rw [folA_get _ (fun b hb => h0 b (List.mem_cons_of_mem _ hb)) hp.2 (by rw [stepA_len]; exact hi), stepA, getD_set, if_neg fun x => e x.1]
      simp only [List.mem_cons, this, false_or]
section
variable {cards vs : List Int} {gates : List Gate}
/-- The derivatives. -/
def sF (vs : List Int) (gates : List Gate) : List Int := scat vs gates gates.length
theorem sF_len (vs : List Int) (gates : List Gate) : (sF vs gates).length = gates.length := scat_len ..
def allG (cards : List Int) (gates : List Gate) : Prop := ∀ j, j < gates.length → gOK cards j (gates.getD j gz) = true
theorem allG_at (h : allG cards gates) {s : Nat} (hs : s < gates.length) : gOK cards (gates.length - 1 - s : Nat) (gAt gates s) = true := h _ (by omega)
theorem scat_one (h : allG cards gates) {s i : Nat} (hs : s < gates.length) (hi : i < gates.length) :
    (scat vs gates (s + 1)).getD i 0 = (scat vs gates s).getD i 0 + if (i : Int) ∈ (gAt gates s).2.2.2.2 then (scat vs gates s).getD (gates.length - 1 - s) 0 * byD vs (gAt gates s) i else 0 := by
  have ha := gAt_args (allG_at h hs)
  rw [scat, folA_get _ (fun a hm => (args_mem ha a hm).1) (argsB_inc ha) (by rw [scat_len]; exact hi)]
theorem scat_keep (h : allG cards gates) {i : Nat} : ∀ {t : Nat}, t ≤ gates.length → gates.length ≤ t + i + 1 → i < gates.length → (scat vs gates gates.length).getD i 0 = (scat vs gates t).getD i 0 := by
  intro t ht h1 hi
  have : ∀ k, t + k ≤ gates.length → (scat vs gates (t + k)).getD i 0 = (scat vs gates t).getD i 0 := by
    intro k
    induction k with
    | zero => intro _; rfl
    | succ k ih =>
      intro hk
      have hs : t + k < gates.length := by omega
      rw [show t + (k + 1) = t + k + 1 by omega, scat_one h hs hi, ih (by omega), if_neg, Int.add_zero]
      intro hm
      have := (args_mem (gAt_args (allG_at h hs)) _ hm).2
      omega
  have := this (gates.length - t) (by omega)
  rw [show t + (gates.length - t) = gates.length by omega] at this
  exact this
/-- What a later gate adds to a derivative. -/
def adD (vs : List Int) (gates : List Gate) (i j : Nat) : Int := (sF vs gates).getD j 0 * byD vs (gates.getD j gz) i
def inA (gates : List Gate) (i j : Nat) : Bool := decide ((i : Int) ∈ (gates.getD j gz).2.2.2.2)
/-- What the next t gates behind i add. -/
def parD (vs : List Int) (gates : List Gate) (i t : Nat) : List Int := ((List.range' (i + 1) t).filter (inA gates i)).map (adD vs gates i)
theorem parD_snoc (vs : List Int) (gates : List Gate) (i t : Nat) : parD vs gates i (t + 1) = if (i : Int) ∈ (gates.getD (i + 1 + t) gz).2.2.2.2 then parD vs gates i t ++ [adD vs gates i (i + 1 + t)] else parD vs gates i t := by
  rw [parD, List.range'_concat, List.filter_append, List.map_append]
  simp only [Nat.one_mul]
  by_cases h : (i : Int) ∈ (gates.getD (i + 1 + t) gz).2.2.2.2
  · rw [if_pos h, List.filter_cons_of_pos (by rw [inA]; exact decide_eq_true h)]; rfl
  · rw [if_neg h, List.filter_cons_of_neg (by rw [inA]; simpa using h)]; simp [parD]
theorem scat_sum (h : allG cards gates) {i : Nat} (hi : i + 1 < gates.length) : ∀ t, t + i + 1 ≤ gates.length → (scat vs gates t).getD i 0 = sumI (((List.range' (gates.length - t) t).filter (inA gates i)).map (adD vs gates i))
  | 0, _ => by
    rw [scat, getD_set, if_neg (by omega), List.getD_eq_getElem?_getD, List.getElem?_replicate, if_pos (by omega)]
    rfl
  | t + 1, ht => by
    rw [scat_one h (by omega) (by omega), scat_sum h hi t (by omega), show gates.length - (t + 1) = gates.length - 1 - t by omega, List.range'_succ, show gates.length - 1 - t + 1 = gates.length - t by omega]
    by_cases hm : (i : Int) ∈ (gAt gates t).2.2.2.2
    · rw [if_pos hm, List.filter_cons_of_pos (by rw [inA]; exact decide_eq_true hm), List.map_cons, sumI_cons, adD, sF, scat_keep h (t := t) (by omega) (by omega) (by omega)]
      show _ + _ * byD vs (gates.getD (gates.length - 1 - t) gz) i = _
      omega
    · rw [if_neg hm, List.filter_cons_of_neg (by rw [inA]; exact fun e => hm (of_decide_eq_true e))]; omega
/-- A derivative is the sum of what all later gates add. -/
theorem sF_sum (h : allG cards gates) {i : Nat} (hi : i + 1 < gates.length) : (sF vs gates).getD i 0 = sumI (parD vs gates i (gates.length - 1 - i)) := by
  rw [sF, scat_keep h (t := gates.length - 1 - i) (by omega) (by omega) (by omega), scat_sum h hi _ (by omega), parD, show gates.length - (gates.length - 1 - i) = i + 1 by omega]
theorem sF_last (h : allG cards gates) (h1 : 1 ≤ gates.length) : (sF vs gates).getD (gates.length - 1) 0 = 1 := by
  rw [sF, scat_keep h (t := 0) (by omega) (by omega) (by omega), scat, getD_set, if_pos ⟨rfl, by rw [List.length_replicate]; omega⟩]
theorem sF_nn (hv : Nn vs) : Nn (sF vs gates) := scat_nn hv gates _
theorem adD_nn (hv : Nn vs) (i j : Nat) : 0 ≤ adD vs gates i j := Int.mul_nonneg (sF_nn hv j) (byD_nn hv _ _)
theorem parD_nn (hv : Nn vs) (i t : Nat) : ∀ x ∈ parD vs gates i t, 0 ≤ x := by
  intro x hx
  obtain ⟨j, _, rfl⟩ := List.mem_map.1 hx
  exact adD_nn hv i j
theorem sumI_mem {l : List Int} (h : ∀ x ∈ l, 0 ≤ x) {x : Int} (hx : x ∈ l) : x ≤ sumI l := by
  induction l with
  | nil => cases hx
  | cons y l ih =>
    rw [sumI_cons]
    have h1 := h y List.mem_cons_self
    have h2 := sumI_nonneg fun z hz => h z (List.mem_cons_of_mem y hz)
    rcases List.mem_cons.1 hx with e | hx
    · omega
    · have := ih (fun z hz => h z (List.mem_cons_of_mem y hz)) hx
      omega
/-- What one gate adds is no more than the derivative. -/
theorem adD_le (h : allG cards gates) (hv : Nn vs) {i t : Nat} (hi : i + 1 + t < gates.length) (hm : (i : Int) ∈ (gates.getD (i + 1 + t) gz).2.2.2.2) : adD vs gates i (i + 1 + t) ≤ (sF vs gates).getD i 0 := by
  rw [sF_sum h (by omega)]
  refine sumI_mem (parD_nn hv i _) (List.mem_map.2 ⟨i + 1 + t, List.mem_filter.2 ⟨?_, by rw [inA]; exact decide_eq_true hm⟩, rfl⟩)
  rw [List.mem_range'_1]
  omega
/-- What an output adds up. -/
def isO (gates : List Gate) (v x j : Nat) : Bool := decide ((gates.getD j gz).1 = 2 ∧ (gates.getD j gz).2.1 = v ∧ (gates.getD j gz).2.2.1 = x)
def outP (vs : List Int) (gates : List Gate) (v x t : Nat) : List Int := ((List.range t).filter (isO gates v x)).map fun j => (sF vs gates).getD j 0
theorem outP_snoc (vs : List Int) (gates : List Gate) (v x t : Nat) : outP vs gates v x (t + 1) = if (gates.getD t gz).1 = 2 ∧ (gates.getD t gz).2.1 = v ∧ (gates.getD t gz).2.2.1 = x then outP vs gates v x t ++ [(sF vs gates).getD t 0] else outP vs gates v x t := by
  rw [outP, List.range_succ, List.filter_append, List.map_append]
  by_cases h : (gates.getD t gz).1 = 2 ∧ (gates.getD t gz).2.1 = v ∧ (gates.getD t gz).2.2.1 = x
  · rw [if_pos h, List.filter_cons_of_pos (by rw [isO]; exact decide_eq_true h)]; rfl
  · rw [if_neg h, List.filter_cons_of_neg (by rw [isO]; simpa using h)]; simp [outP]
theorem outS_sum (h : allG cards gates) {v x : Nat} (hv : v < cards.length) (hx : (x : Int) < cards.getD v 0) : ∀ t, t ≤ gates.length → ((outS cards vs gates t).getD v []).getD x 0 = sumI (((List.range' (gates.length - t) t).filter (isO gates v x)).map fun j => (sF vs gates).getD j 0)
  | 0, _ => by
    rw [outS, row0, List.getD_eq_getElem?_getD, List.getElem?_replicate, if_pos (by omega)]
    rfl
  | t + 1, ht => by
    have ih := outS_sum h hv hx t (by omega)
    have hk : (scat vs gates (t + 1)).getD (gates.length - 1 - t) 0 = (sF vs gates).getD (gates.length - 1 - t) 0 := (scat_keep h (t := t + 1) ht (by omega) (by omega)).symm
    rw [show gates.length - (t + 1) = gates.length - 1 - t by omega, List.range'_succ, show gates.length - 1 - t + 1 = gates.length - t by omega, outS]
    by_cases h2 : (gAt gates t).1 = 2
    · have hg := allG_at h (show t < gates.length by omega)
      obtain ⟨_, g1, g2, g3, g4, _⟩ := isgate hg h2
      rw [if_pos h2, hk]
      by_cases hvx : (gAt gates t).2.1 = v ∧ (gAt gates t).2.2.1 = x
      · obtain ⟨e1, e2⟩ := hvx
        rw [List.filter_cons_of_pos (by rw [isO]; exact decide_eq_true ⟨h2, e1, e2⟩), List.map_cons, sumI_cons, ← ih, e1, e2, Int.toNat_natCast, Int.toNat_natCast, inc2, getD_set, if_pos ⟨rfl, by rw [outS_len]; exact hv⟩, getD_set, if_pos ⟨rfl, by rw [outS_row]; omega⟩]
        omega
      · rw [List.filter_cons_of_neg (by rw [isO]; simp only [decide_eq_true_eq]; exact fun e => hvx e.2), ← ih, inc2, getD_set]
        split
        · rename_i e
          rw [getD_set, if_neg (fun e' => hvx ⟨by omega, by omega⟩)]
          rw [e.1]
        · rfl
    · rw [if_neg h2, List.filter_cons_of_neg (by rw [isO]; simp only [decide_eq_true_eq]; exact fun e => h2 e.1), ih]
theorem outS_out (h : allG cards gates) {v x : Nat} (hv : v < cards.length) (hx : (x : Int) < cards.getD v 0) : ((outS cards vs gates gates.length).getD v []).getD x 0 = sumI (outP vs gates v x gates.length) := by
  rw [outS_sum h hv hx _ (Nat.le_refl _), outP, Nat.sub_self, List.range_eq_range']
/-- The list of derivatives while it is filled in. -/
def dK (vs : List Int) (gates : List Gate) (k : Nat) : List Int := List.replicate (gates.length - 1 - k) 0 ++ (sF vs gates).drop (gates.length - 1 - k)
theorem dK_len (vs : List Int) (gates : List Gate) (k : Nat) : (dK vs gates k).length = gates.length := by
  rw [dK, List.length_append, List.length_replicate, List.length_drop, sF_len]; omega
theorem dK_get (vs : List Int) (gates : List Gate) {k j : Nat} (h : gates.length - 1 - k ≤ j) : (dK vs gates k).getD j 0 = (sF vs gates).getD j 0 := by
  rw [dK, List.getD_eq_getElem?_getD, List.getElem?_append_right (by rw [List.length_replicate]; exact h), List.length_replicate, List.getElem?_drop, List.getD_eq_getElem?_getD]
  congr 2; omega
theorem dK_set {k : Nat} (h : k + 2 ≤ gates.length) : (dK vs gates k).set (gates.length - 2 - k) ((sF vs gates).getD (gates.length - 2 - k) 0) = dK vs gates (k + 1) := by
  apply List.ext_getElem?
  intro j
  rw [List.getElem?_set, dK_len, dK, dK, show gates.length - 1 - (k + 1) = gates.length - 2 - k by omega]
  have hl := sF_len vs gates
  by_cases e : gates.length - 2 - k = j
  · subst e
    rw [if_pos rfl, if_pos (by omega), List.getElem?_append_right (by rw [List.length_replicate]; exact Nat.le_refl _), List.length_replicate, Nat.sub_self, List.getElem?_drop, Nat.add_zero, List.getElem?_eq_getElem (by omega), getD_lt (by omega)]
  · rw [if_neg e]
    by_cases h1 : j < gates.length - 2 - k
    · rw [List.getElem?_append_left (by rw [List.length_replicate]; omega), List.getElem?_append_left (by rw [List.length_replicate]; omega), List.getElem?_replicate, List.getElem?_replicate, if_pos (by omega), if_pos (by omega)]
    · rw [List.getElem?_append_right (by rw [List.length_replicate]; omega), List.getElem?_append_right (by rw [List.length_replicate]; omega), List.length_replicate, List.length_replicate, List.getElem?_drop, List.getElem?_drop]
      congr 1; omega
theorem dK_zero (h : allG cards gates) (h1 : 1 ≤ gates.length) : (List.replicate gates.length (0 : Int)).set (gates.length - 1) 1 = dK vs gates 0 := by
  have hl := sF_last (vs := vs) h h1
  have hn := sF_len vs gates
  rw [dK, Nat.sub_zero, List.drop_eq_getElem_cons (by omega), List.drop_eq_nil_of_le (by omega)]
  rw [getD_lt (by omega)] at hl
  rw [hl]
  apply List.ext_getElem?
  intro j
  rw [List.getElem?_set, List.length_replicate]
  by_cases e : gates.length - 1 = j
  · subst e
    rw [if_pos rfl, if_pos (by omega), List.getElem?_append_right (by rw [List.length_replicate]; exact Nat.le_refl _), List.length_replicate, Nat.sub_self]; rfl
  · rw [if_neg e, List.getElem?_replicate]
    by_cases h2 : j < gates.length - 1
    · rw [List.getElem?_append_left (by rw [List.length_replicate]; omega), List.getElem?_replicate, if_pos (by omega), if_pos (by omega)]
    · rw [if_neg (by omega), List.getElem?_append_right (by rw [List.length_replicate]; omega), List.length_replicate, List.getElem?_eq_none (by rw [List.length_singleton]; omega)]
theorem without_len (l : List Int) (i : Int) : (l.filter fun a => a != i).length = l.length ↔ i ∉ l := by
  rw [List.length_filter_eq_length_iff]
  constructor
  · intro h hm
    have := h i hm
    simp at this
  · intro h a ha
    simp only [bne_iff_ne, ne_eq]
    rintro rfl
    exact h ha
end
end Go.Proofs.Ytbgnnpbcifgckaa
namespace Go.Proofs.Ytbgnnpbcifgckaa
open Go Go.Fw Go.RowKit
set_option maxRecDepth 100000
set_option maxHeartbeats 4000000
theorem argsB_of {cards : List Int} {i : Int} {g : Gate} (hg : gOK cards i g = true) : argsB i g.2.2.2.2 = true := by
  rcases gate_ok hg with h | h | h
  · rw [h.2.2.2]; rfl
  · rw [h.2.2.2.2.2]; rfl
  · exact h.2.2
theorem ref_derive_in (cards : List Int) (gates : List Gate) (input vs : List Int) (R : List (List Int) × Int) (hg : allG cards gates) (hvl : vs.length = gates.length) (hn : numsOK vs) (h1 : 1 ≤ gates.length) (h4 : gates.length ≤ 4000) (hargs : ∀ g ∈ gates, g.2.2.2.2.length ≤ 1048576)
  (hc8 : cards.length ≤ 8) (hc : ∀ v, v < cards.length → 1 ≤ cards.getD v 0 ∧ cards.getD v 0 ≤ 4)
  (hb1 : ∀ i, 4611686018427387903 < (sF vs gates).getD i 0 → R = ([], 6)) (hb2 : ∀ v x : Nat, v < cards.length → (x : Int) < cards.getD v 0 → 4611686018427387903 < sumI (outP vs gates v x gates.length) → R = ([], 6))
  (hgd : (∀ i, i < gates.length → (sF vs gates).getD i 0 ≤ 4611686018427387903) → (∀ v x : Nat, v < cards.length → (x : Int) < cards.getD v 0 → sumI (outP vs gates v x gates.length) ≤ 4611686018427387903) → R = (outS cards vs gates gates.length, 0))
  (x0 : Int) (hE : Fw.Fn Try.prog 20 [.agg [.dat .old (.i .i64) cards, .dat .old gT gates], .dat .old (.i .i64) input] [] (.tup [.val (.int .i64 x0), .val (.int .i64 0)]) [])
  (hV : Fw.Fn Try.prog 46 [.agg [.dat .old (.i .i64) cards, .dat .old gT gates], .dat .old (.i .i64) input] [] (.tup [.dat .fr (.i .i64) vs, .val (.bool true)]) []) :
    Fw.Fn Try.prog 22 [.agg [.dat .old (.i .i64) cards, .dat .old gT gates], .dat .old (.i .i64) input] [] (.tup [.dat .fr (.sl (.i .i64)) R.1, .val (.int .i64 R.2)]) [] := by
  have hnn := nn_of hn
  have hS0 : ∀ j, gates.length - 1 - 0 ≤ j → (sF vs gates).getD j 0 ≤ 4611686018427387903 := by
    intro j hj
    by_cases e : j = gates.length - 1
    · rw [e, sF_last hg h1]; decide
    · rw [List.getD_eq_getElem?_getD, List.getElem?_eq_none (by rw [sF_len]; omega)]; decide
  refine fn_go env_ok mixed Try.func22 (c := Try.f22.body.get rfl) rfl (by kernel_rfl) [] rfl ?_
  repeat' first | apply And.intro | (intro h; (cases h; done)) | (intro h; exfalso; simp only [decT, decF, beq_iff_eq, beq_eq_false_iff_ne, ne_eq, Int.toNat_natCast] at h; (try dsimp only [D, IK, dz, gT] at h); first | omega | exact absurd h (by assumption) | exact h (by assumption)) | intro _ | exact True.intro | (show Region.lexB _ _ = true; kernel_rfl) | refine CallK.fn [] hE rfl rfl rfl rfl rfl trivial ?_ | refine CallK.fn [] hV rfl rfl rfl rfl rfl trivial ?_
  all_goals try omega
  · show (gates.length : Int) * 8 ≤ _; omega
  · rw [List.length_replicate]; omega
  · rw [List.length_replicate]; omega
  refine ⟨loopI (fun k : Nat => { n := 183, t := [(2, .ptr 0 0), (8, .dat .fr (.i .i64) vs), (10, .val (.int .i64 (↑(List.length gates)))), (11, .own 1), (12, .val (.int .i64 (↑(List.length gates) - 2 - k)))], h := [(0, some (.cells [.dat .old (.i .i64) cards, .dat .old gT gates])), (1, some (.arr .fr (.i .i64) (dK vs gates k)))], nx := 2 }) (fun k => gates.length - k) (fun k => Ok (k + 1 ≤ gates.length ∧ ∀ j, gates.length - 1 - k ≤ j → (sF vs gates).getD j 0 ≤ 4611686018427387903)),
    loopI.start 0 [] [2, 8, 10, 11, 12] [(2, []), (11, [])] .fr (by (repeat' first | apply And.intro | rfl) <;> first | (rw [← dK_zero hg h1]; congr 1; omega) | (show (_ : Int) = _; omega) | exact ⟨h1, hS0⟩), ?_⟩
  rintro _ _ ⟨k, rfl, rfl, ⟨hk, hd⟩⟩
  have hdl := dK_len vs gates k
  by_cases hk2 : k + 2 ≤ gates.length
  · have hi : ((gates.length : Int) - 2 - k).toNat = gates.length - 2 - k := by omega
    repeat' first | apply And.intro | (intro h; (cases h; done)) | (intro h; exfalso; simp only [decT, decF, beq_iff_eq, beq_eq_false_iff_ne, ne_eq, Int.toNat_natCast] at h; (try dsimp only [D, IK, dz, gT] at h); first | omega | exact absurd h (by assumption) | exact h (by assumption)) | intro _ | exact True.intro | (show Region.lexB _ _ = true; kernel_rfl)
    (all_goals try ((first | (show (_ : Int) ≤ _) | (show (_ : Int) < _) | (show (_ : Nat) ≤ _) | (show (_ : Nat) < _)); (try simp only [Int.toNat_natCast, List.length_cons, List.length_nil, umax64]); (try dsimp only [D, IK, dz, gT]); omega))
    refine ⟨loopI (fun t : Nat => { n := 183, t := [(2, .ptr 0 0), (8, .dat .fr (.i .i64) vs), (10, .val (.int .i64 (↑(List.length gates)))), (11, .own 1), (12, .val (.int .i64 (↑(List.length gates) - 2 - ↑k))), (13, .own 2), (14, .val (.int .i64 (↑(List.length gates) - 2 - ↑k + 1 + t)))], h := [(0, some (.cells [.dat .old (.i .i64) cards, .dat .old gT gates])), (1, some (.arr .fr (.i .i64) (dK vs gates k))), (2, some (.arr .fr (.i .i64) (parD vs gates (gates.length - 2 - k) t)))], nx := 3 }) (fun t => k + 1 - t) (fun t => Ok (t ≤ k + 1 ∧ (∀ x ∈ parD vs gates (gates.length - 2 - k) t, x ≤ 4611686018427387903) ∧ (parD vs gates (gates.length - 2 - k) t).length ≤ t)),
      loopI.start 0 [13] [2, 8, 10, 11, 12, 13, 14] [(2, []), (11, []), (13, [])] .fr (by (repeat' first | apply And.intro | rfl) <;> first | (show (_ : Int) = _; omega) | exact ⟨Nat.zero_le _, fun x hx => (by cases hx), Nat.le_refl _⟩), ?_⟩
    rintro _ _ ⟨t, rfl, rfl, ⟨ht, hp, hpl⟩⟩
    have hpn := parD_nn (gates := gates) hnn (gates.length - 2 - k) t
    by_cases hlt : t < k + 1
    · have hix : ((gates.length : Int) - 2 - k + 1 + t).toNat = gates.length - 2 - k + 1 + t := by omega
      have hiz : ((gates.length - 2 - k : Nat) : Int) = (gates.length : Int) - 2 - k := by omega
      have hjl : gates.length - 2 - k + 1 + t < gates.length := by omega
      have hal := hargs _ (getD_mem (d := gz) hjl)
      have hw := without_len (gates.getD (gates.length - 2 - k + 1 + t) gz).2.2.2.2 ((gates.length : Int) - 2 - k)
      have hsn := parD_snoc vs gates (gates.length - 2 - k) t
      have hdj := dK_get vs gates (k := k) (j := gates.length - 2 - k + 1 + t) (by omega)
      have hdb := hd (gates.length - 2 - k + 1 + t) (by omega)
      rw [hiz] at hsn
      rw [← hix] at hal hw hsn hdj hdb hjl
      have hwo := without_fn (gates.getD ((gates.length : Int) - 2 - k + 1 + t).toNat gz).2.2.2.2 ((gates.length : Int) - 2 - k) hal
      dsimp only [gz] at hal hw hsn hwo
      by_cases hm : ((gates.length : Int) - 2 - k) ∈ (gates.getD ((gates.length : Int) - 2 - k + 1 + t).toNat (0, 0, 0, 0, [])).2.2.2.2
      · rw [if_pos hm] at hsn
        have hw : ¬ _ := fun e => hw.1 e hm
        have hj0 := hg _ hjl
        have har : argsB (((gates.length : Int) - 2 - k + 1 + t).toNat : Nat) (gates.getD ((gates.length : Int) - 2 - k + 1 + t).toNat (0, 0, 0, 0, [])).2.2.2.2 = true := argsB_of hj0
        have hal2 := adD_le hg hnn (i := gates.length - 2 - k) (t := t) (by omega) (by rw [hiz, ← hix]; exact hm)
        have hsj := sF_nn (gates := gates) hnn (((gates.length : Int) - 2 - k + 1 + t).toNat)
        have hA : adD vs gates (gates.length - 2 - k) ((gates.length : Int) - 2 - k + 1 + t).toNat = (sF vs gates).getD ((gates.length : Int) - 2 - k + 1 + t).toNat 0 * byD vs (gates.getD ((gates.length : Int) - 2 - k + 1 + t).toNat (0, 0, 0, 0, [])) ((gates.length : Int) - 2 - k) := by rw [adD, hiz]
        rw [← hix] at hal2
        have hab : 4611686018427387903 < adD vs gates (gates.length - 2 - k) ((gates.length : Int) - 2 - k + 1 + t).toNat → R = ([], 6) := fun h => hb1 _ (Int.lt_of_lt_of_le h hal2)
        generalize hAA : adD vs gates (gates.length - 2 - k) ((gates.length : Int) - 2 - k + 1 + t).toNat = A at *
        have hpa : 0 ≤ A := by rw [← hAA]; exact adD_nn hnn _ _
        by_cases h4k : (gates.getD ((gates.length : Int) - 2 - k + 1 + t).toNat (0, 0, 0, 0, [])).1 = 4
        · have hby : byD vs (gates.getD ((gates.length : Int) - 2 - k + 1 + t).toNat (0, 0, 0, 0, [])) ((gates.length : Int) - 2 - k) = prodI (atF vs ((gates.getD ((gates.length : Int) - 2 - k + 1 + t).toNat (0, 0, 0, 0, [])).2.2.2.2.filter fun a => a != (gates.length : Int) - 2 - k)) := if_pos h4k
          have hfl := List.length_filter_le (fun a => a != (gates.length : Int) - 2 - k) (gates.getD ((gates.length : Int) - 2 - k + 1 + t).toNat (0, 0, 0, 0, [])).2.2.2.2
          have hpl2 : ∀ a ∈ (gates.getD ((gates.length : Int) - 2 - k + 1 + t).toNat (0, 0, 0, 0, [])).2.2.2.2.filter (fun a => a != (gates.length : Int) - 2 - k), 0 ≤ a ∧ a < vs.length := fun a ha => by
            have := args_mem har a (List.mem_filter.1 ha).1
            omega
          have hat := at_fn vs ((gates.getD ((gates.length : Int) - 2 - k + 1 + t).toNat (0, 0, 0, 0, [])).2.2.2.2.filter fun a => a != (gates.length : Int) - 2 - k) hpl2 (by omega)
          have hnu := atF_nums hn hpl2
          have hll := atF_len vs ((gates.getD ((gates.length : Int) - 2 - k + 1 + t).toNat (0, 0, 0, 0, [])).2.2.2.2.filter fun a => a != (gates.length : Int) - 2 - k)
          have hpf := ref_product_fn ([(dK vs gates k).getD ((gates.length : Int) - 2 - k + 1 + t).toNat 0] ++ atF vs ((gates.getD ((gates.length : Int) - 2 - k + 1 + t).toNat (0, 0, 0, 0, [])).2.2.2.2.filter fun a => a != (gates.length : Int) - 2 - k)) (by rw [List.length_append, hll, List.length_singleton]; omega) (fun x hx => by
            rcases List.mem_append.1 hx with h | h
            · rw [List.mem_singleton.1 h, hdj]; exact ⟨hsj, hdb⟩
            · exact hnu x h)
          have hpe : prodI ([(dK vs gates k).getD ((gates.length : Int) - 2 - k + 1 + t).toNat 0] ++ atF vs ((gates.getD ((gates.length : Int) - 2 - k + 1 + t).toNat (0, 0, 0, 0, [])).2.2.2.2.filter fun a => a != (gates.length : Int) - 2 - k)) = A := by
            rw [List.singleton_append, prodI_cons, hdj, hA, hby]
          rw [hpe] at hpf
          by_cases hAM : A ≤ 4611686018427387903
          · rw [if_pos hAM, decide_eq_true hAM] at hpf
            repeat' first | apply And.intro | (intro h; (cases h; done)) | (intro h; exfalso; simp only [decT, decF, beq_iff_eq, beq_eq_false_iff_ne, ne_eq, Int.toNat_natCast] at h; (try dsimp only [D, IK, dz, gT] at h); first | omega | exact absurd h (by assumption) | exact h (by assumption)) | intro _ | exact True.intro | (show Region.lexB _ _ = true; kernel_rfl) | refine CallK.fn [] hwo rfl rfl rfl rfl rfl trivial ?_ | refine CallK.fn [] hat rfl rfl rfl rfl rfl trivial ?_ | refine CallK.fn [] hpf rfl rfl rfl rfl rfl trivial ?_ | refine loopI.next (t + 1) [] [2, 8, 10, 11, 12, 13, 14] [(2, []), (11, []), (13, [])] .fr ?_
            (all_goals try (show Fw.xRun _ _ _ _ _ _ _ _; exfalso; (try simp only [decT, decF, beq_iff_eq, bne_iff_ne, ne_eq, beq_eq_false_iff_ne, bne_eq_false_iff_eq, Decidable.not_not, Int.toNat_natCast, Bool.not_eq_true', Bool.not_eq_false', Bool.not_eq_true, Bool.not_eq_false, Int.not_lt, Int.not_le] at *); omega))
            (all_goals try ((first | (show (_ : Int) ≤ _) | (show (_ : Int) < _) | (show (_ : Nat) ≤ _) | (show (_ : Nat) < _)); (try simp only [Int.toNat_natCast, List.length_cons, List.length_nil, umax64]); (try dsimp only [D, IK, dz, gT]); omega))
            all_goals (try simp only [decT, decF, beq_iff_eq, bne_iff_ne, ne_eq, beq_eq_false_iff_ne, bne_eq_false_iff_eq, Decidable.not_not, Int.toNat_natCast, Bool.not_eq_true', Bool.not_eq_false', Bool.not_eq_true, Bool.not_eq_false, Int.not_lt, Int.not_le] at *; try dsimp only [D, IK, dz] at *)
            all_goals try simp only [hll, List.length_cons, List.length_nil, List.length_append]
            all_goals first | omega | rfl | exact hsn.symm | exact ⟨by omega, by rw [hsn]; exact fun x hx => (List.mem_append.1 hx).elim (hp x) (fun h => by rw [List.mem_singleton.1 h]; exact hAM), by rw [hsn, List.length_append, List.length_singleton]; omega⟩ | skip
          · rw [if_neg hAM, decide_eq_false hAM] at hpf
            have hRR := hab (by omega)
            repeat' first | apply And.intro | (intro h; (cases h; done)) | (intro h; exfalso; simp only [decT, decF, beq_iff_eq, beq_eq_false_iff_ne, ne_eq, Int.toNat_natCast] at h; (try dsimp only [D, IK, dz, gT] at h); first | omega | exact absurd h (by assumption) | exact h (by assumption)) | intro _ | exact True.intro | (show Region.lexB _ _ = true; kernel_rfl) | refine CallK.fn [] hwo rfl rfl rfl rfl rfl trivial ?_ | refine CallK.fn [] hat rfl rfl rfl rfl rfl trivial ?_ | refine CallK.fn [] hpf rfl rfl rfl rfl rfl trivial ?_
            (all_goals try (show Fw.xRun _ _ _ _ _ _ _ _; exfalso; (try simp only [decT, decF, beq_iff_eq, bne_iff_ne, ne_eq, beq_eq_false_iff_ne, bne_eq_false_iff_eq, Decidable.not_not, Int.toNat_natCast, Bool.not_eq_true', Bool.not_eq_false', Bool.not_eq_true, Bool.not_eq_false, Int.not_lt, Int.not_le] at *); omega))
            (all_goals try ((first | (show (_ : Int) ≤ _) | (show (_ : Int) < _) | (show (_ : Nat) ≤ _) | (show (_ : Nat) < _)); (try simp only [Int.toNat_natCast, List.length_cons, List.length_nil, umax64]); (try dsimp only [D, IK, dz, gT]); omega))
            all_goals (try simp only [decT, decF, beq_iff_eq, bne_iff_ne, ne_eq, beq_eq_false_iff_ne, bne_eq_false_iff_eq, Decidable.not_not, Int.toNat_natCast, Bool.not_eq_true', Bool.not_eq_false', Bool.not_eq_true, Bool.not_eq_false, Int.not_lt, Int.not_le] at *; try dsimp only [D, IK, dz] at *)
            all_goals try simp only [hll, List.length_cons, List.length_nil, List.length_append]
            all_goals first | omega | (rw [hRR]; done) | skip
        · have hby : byD vs (gates.getD ((gates.length : Int) - 2 - k + 1 + t).toNat (0, 0, 0, 0, [])) ((gates.length : Int) - 2 - k) = 1 := if_neg h4k
          rw [hby, Int.mul_one] at hA
          have hpf := ref_product_fn [(dK vs gates k).getD ((gates.length : Int) - 2 - k + 1 + t).toNat 0] (by rw [List.length_singleton]; omega) (fun x hx => by rw [List.mem_singleton.1 hx, hdj]; exact ⟨hsj, hdb⟩)
          have hpe : prodI [(dK vs gates k).getD ((gates.length : Int) - 2 - k + 1 + t).toNat 0] = A := by
            rw [prodI_cons, prodI_nil, Int.mul_one, hdj, hA]
          have hAM : A ≤ 4611686018427387903 := by omega
          rw [hpe, if_pos hAM, decide_eq_true hAM] at hpf
          repeat' first | apply And.intro | (intro h; (cases h; done)) | (intro h; exfalso; simp only [decT, decF, beq_iff_eq, beq_eq_false_iff_ne, ne_eq, Int.toNat_natCast] at h; (try dsimp only [D, IK, dz, gT] at h); first | omega | exact absurd h (by assumption) | exact h (by assumption)) | intro _ | exact True.intro | (show Region.lexB _ _ = true; kernel_rfl) | refine CallK.fn [] hwo rfl rfl rfl rfl rfl trivial ?_ | refine CallK.fn [] hpf rfl rfl rfl rfl rfl trivial ?_ | refine loopI.next (t + 1) [] [2, 8, 10, 11, 12, 13, 14] [(2, []), (11, []), (13, [])] .fr ?_
          (all_goals try (show Fw.xRun _ _ _ _ _ _ _ _; exfalso; (try simp only [decT, decF, beq_iff_eq, bne_iff_ne, ne_eq, beq_eq_false_iff_ne, bne_eq_false_iff_eq, Decidable.not_not, Int.toNat_natCast, Bool.not_eq_true', Bool.not_eq_false', Bool.not_eq_true, Bool.not_eq_false, Int.not_lt, Int.not_le] at *); omega))
          (all_goals try ((first | (show (_ : Int) ≤ _) | (show (_ : Int) < _) | (show (_ : Nat) ≤ _) | (show (_ : Nat) < _)); (try simp only [Int.toNat_natCast, List.length_cons, List.length_nil, umax64]); (try dsimp only [D, IK, dz, gT]); omega))
          all_goals (try simp only [decT, decF, beq_iff_eq, bne_iff_ne, ne_eq, beq_eq_false_iff_ne, bne_eq_false_iff_eq, Decidable.not_not, Int.toNat_natCast, Bool.not_eq_true', Bool.not_eq_false', Bool.not_eq_true, Bool.not_eq_false, Int.not_lt, Int.not_le] at *; try dsimp only [D, IK, dz] at *)
          all_goals try simp only [List.length_cons, List.length_nil, List.length_append]
          all_goals first | omega | rfl | exact hsn.symm | exact ⟨by omega, by rw [hsn]; exact fun x hx => (List.mem_append.1 hx).elim (hp x) (fun h => by rw [List.mem_singleton.1 h]; exact hAM), by rw [hsn, List.length_append, List.length_singleton]; omega⟩ | skip
      · rw [if_neg hm] at hsn
        have hw := hw.2 hm
        repeat' first | apply And.intro | (intro h; (cases h; done)) | (intro h; exfalso; simp only [decT, decF, beq_iff_eq, beq_eq_false_iff_ne, ne_eq, Int.toNat_natCast] at h; (try dsimp only [D, IK, dz, gT] at h); first | omega | exact absurd h (by assumption) | exact h (by assumption)) | intro _ | exact True.intro | (show Region.lexB _ _ = true; kernel_rfl) | refine CallK.fn [] hwo rfl rfl rfl rfl rfl trivial ?_ | refine loopI.next (t + 1) [] [2, 8, 10, 11, 12, 13, 14] [(2, []), (11, []), (13, [])] .fr ?_
        (all_goals try (show Fw.xRun _ _ _ _ _ _ _ _; exfalso; (try simp only [decT, decF, beq_iff_eq, bne_iff_ne, ne_eq, beq_eq_false_iff_ne, bne_eq_false_iff_eq, Decidable.not_not, Int.toNat_natCast, Bool.not_eq_true', Bool.not_eq_false', Bool.not_eq_true, Bool.not_eq_false, Int.not_lt, Int.not_le] at *); omega))
        (all_goals try ((first | (show (_ : Int) ≤ _) | (show (_ : Int) < _) | (show (_ : Nat) ≤ _) | (show (_ : Nat) < _)); (try simp only [Int.toNat_natCast, List.length_cons, List.length_nil, umax64]); (try dsimp only [D, IK, dz, gT]); omega))
        all_goals (try simp only [decT, decF, beq_iff_eq, bne_iff_ne, ne_eq, beq_eq_false_iff_ne, bne_eq_false_iff_eq, Decidable.not_not, Int.toNat_natCast, Bool.not_eq_true', Bool.not_eq_false', Bool.not_eq_true, Bool.not_eq_false, Int.not_lt, Int.not_le] at *; try dsimp only [D, IK, dz] at *)
        all_goals first | omega | rfl | exact hsn.symm | exact ⟨by omega, by rw [hsn]; exact hp, by rw [hsn]; omega⟩ | skip
    · have hte : t = gates.length - 1 - (gates.length - 2 - k) := by omega
      have hsf := sF_sum (vs := vs) hg (i := gates.length - 2 - k) (by omega)
      rw [← hte] at hsf
      have hsu := ref_sum_fn (parD vs gates (gates.length - 2 - k) t) (by omega) (fun x hx => ⟨hpn x hx, hp x hx⟩)
      rw [← hsf] at hsu
      have hset := dK_set (vs := vs) (gates := gates) hk2
      have hbb := hb1 (gates.length - 2 - k)
      by_cases hS : (sF vs gates).getD (gates.length - 2 - k) 0 ≤ 4611686018427387903
      · rw [if_pos hS, decide_eq_true hS] at hsu
        repeat' first | apply And.intro | (intro h; (cases h; done)) | (intro h; exfalso; simp only [decT, decF, beq_iff_eq, beq_eq_false_iff_ne, ne_eq, Int.toNat_natCast] at h; (try dsimp only [D, IK, dz, gT] at h); first | omega | exact absurd h (by assumption) | exact h (by assumption)) | intro _ | exact True.intro | (show Region.lexB _ _ = true; kernel_rfl) | refine CallK.fn [] hsu rfl rfl rfl rfl rfl trivial ?_ | refine loopI.next (k + 1) [] [2, 8, 10, 11, 12] [(2, []), (11, [])] .fr ?_
        (all_goals try (show Fw.xRun _ _ _ _ _ _ _ _; exfalso; (try simp only [decT, decF, beq_iff_eq, bne_iff_ne, ne_eq, beq_eq_false_iff_ne, bne_eq_false_iff_eq, Decidable.not_not, Int.toNat_natCast, Bool.not_eq_true', Bool.not_eq_false', Bool.not_eq_true, Bool.not_eq_false, Int.not_lt, Int.not_le] at *); omega))
        (all_goals try ((first | (show (_ : Int) ≤ _) | (show (_ : Int) < _) | (show (_ : Nat) ≤ _) | (show (_ : Nat) < _)); (try simp only [Int.toNat_natCast, List.length_cons, List.length_nil, umax64]); (try dsimp only [D, IK, dz, gT]); omega))
        all_goals (try simp only [decT, decF, beq_iff_eq, bne_iff_ne, ne_eq, beq_eq_false_iff_ne, bne_eq_false_iff_eq, Decidable.not_not, Int.toNat_natCast, Bool.not_eq_true', Bool.not_eq_false', Bool.not_eq_true, Bool.not_eq_false, Int.not_lt, Int.not_le] at *; try dsimp only [D, IK, dz] at *)
        all_goals try simp only [hi]
        all_goals first | omega | rfl | exact hset | skip
        · refine ⟨by omega, fun j hj => ?_⟩
          by_cases e : j = gates.length - 2 - k
          · rw [e]; exact hS
          · exact hd j (by omega)
      · rw [if_neg hS, decide_eq_false hS] at hsu
        have hRR := hbb (by omega)
        repeat' first | apply And.intro | (intro h; (cases h; done)) | (intro h; exfalso; simp only [decT, decF, beq_iff_eq, beq_eq_false_iff_ne, ne_eq, Int.toNat_natCast] at h; (try dsimp only [D, IK, dz, gT] at h); first | omega | exact absurd h (by assumption) | exact h (by assumption)) | intro _ | exact True.intro | (show Region.lexB _ _ = true; kernel_rfl) | refine CallK.fn [] hsu rfl rfl rfl rfl rfl trivial ?_
        (all_goals try (show Fw.xRun _ _ _ _ _ _ _ _; exfalso; (try simp only [decT, decF, beq_iff_eq, bne_iff_ne, ne_eq, beq_eq_false_iff_ne, bne_eq_false_iff_eq, Decidable.not_not, Int.toNat_natCast, Bool.not_eq_true', Bool.not_eq_false', Bool.not_eq_true, Bool.not_eq_false, Int.not_lt, Int.not_le] at *); omega))
        (all_goals try ((first | (show (_ : Int) ≤ _) | (show (_ : Int) < _) | (show (_ : Nat) ≤ _) | (show (_ : Nat) < _)); (try simp only [Int.toNat_natCast, List.length_cons, List.length_nil, umax64]); (try dsimp only [D, IK, dz, gT]); omega))
        all_goals (try simp only [decT, decF, beq_iff_eq, bne_iff_ne, ne_eq, beq_eq_false_iff_ne, bne_eq_false_iff_eq, Decidable.not_not, Int.toNat_natCast, Bool.not_eq_true', Bool.not_eq_false', Bool.not_eq_true, Bool.not_eq_false, Int.not_lt, Int.not_le] at *; try dsimp only [D, IK, dz] at *)
        all_goals first | omega | (rw [hRR]; done) | skip
  · have hke : k + 1 = gates.length := by omega
    have hde : dK vs gates k = sF vs gates := by rw [dK, show gates.length - 1 - k = 0 by omega]; rfl
    have hSn := sF_len vs gates
    have hd2 : ∀ i, i < gates.length → (sF vs gates).getD i 0 ≤ 4611686018427387903 := fun i _ => hd i (by omega)
    have hgd2 := hgd hd2
    have hol := outS_len cards vs gates gates.length
    repeat' first | apply And.intro | (intro h; (cases h; done)) | (intro h; exfalso; simp only [decT, decF, beq_iff_eq, beq_eq_false_iff_ne, ne_eq, Int.toNat_natCast] at h; (try dsimp only [D, IK, dz, gT] at h); first | omega | exact absurd h (by assumption) | exact h (by assumption)) | intro _ | exact True.intro | (show Region.lexB _ _ = true; kernel_rfl)
    (all_goals try (show Fw.xRun _ _ _ _ _ _ _ _; exfalso; (try simp only [decT, decF, beq_iff_eq, bne_iff_ne, ne_eq, beq_eq_false_iff_ne, bne_eq_false_iff_eq, Decidable.not_not, Int.toNat_natCast, Bool.not_eq_true', Bool.not_eq_false', Bool.not_eq_true, Bool.not_eq_false, Int.not_lt, Int.not_le] at *); omega))
    (all_goals try ((first | (show (_ : Int) ≤ _) | (show (_ : Int) < _) | (show (_ : Nat) ≤ _) | (show (_ : Nat) < _)); (try simp only [Int.toNat_natCast, List.length_cons, List.length_nil, umax64]); (try dsimp only [D, IK, dz, gT]); omega))
    refine ⟨loopI (fun v : Nat => { n := 183, t := [(2, .ptr 0 0), (10, .val (.int .i64 (↑(List.length gates)))), (11, .own 1), (21, .own 2), (22, .val (.int .i64 v))], h := [(0, some (.cells [.dat .old (.i .i64) cards, .dat .old gT gates])), (1, some (.arr .fr (.i .i64) (sF vs gates))), (2, some (.arr .fr (.sl (.i .i64)) ((outS cards vs gates gates.length).take v)))], nx := 3 }) (fun v => cards.length - v) (fun v => Ok (v ≤ cards.length ∧ ∀ v' x : Nat, v' < v → (x : Int) < cards.getD v' 0 → sumI (outP vs gates v' x gates.length) ≤ 4611686018427387903)),
      loopI.start 0 [21] [2, 10, 11, 21, 22] [(2, []), (11, []), (21, [])] .fr (by rw [← hde]; (repeat' first | apply And.intro | rfl); exact ⟨Nat.zero_le _, fun v x h => absurd h (Nat.not_lt_zero v)⟩), ?_⟩
    clear hde hgd hd hdl
    rintro _ _ ⟨v, rfl, rfl, ⟨hv, hvo⟩⟩
    by_cases hvl : v < cards.length
    · have hcv := hc v hvl
      have hrl := outS_row cards vs gates v gates.length
      have hso : ∀ x : Nat, (x : Int) < cards.getD v 0 → ((outS cards vs gates gates.length).getD v []).getD x 0 = sumI (outP vs gates v x gates.length) := fun x hx => outS_out hg hvl hx
      have hto : (outS cards vs gates gates.length).take (v + 1) = (outS cards vs gates gates.length).take v ++ [(outS cards vs gates gates.length).getD v []] := by rw [take_step (by omega), getD_lt (by omega)]
      repeat' first | apply And.intro | (intro h; (cases h; done)) | (intro h; exfalso; simp only [decT, decF, beq_iff_eq, beq_eq_false_iff_ne, ne_eq, Int.toNat_natCast] at h; (try dsimp only [D, IK, dz, gT] at h); first | omega | exact absurd h (by assumption) | exact h (by assumption)) | intro _ | exact True.intro | (show Region.lexB _ _ = true; kernel_rfl)
      (all_goals try (show Fw.xRun _ _ _ _ _ _ _ _; exfalso; (try simp only [decT, decF, beq_iff_eq, bne_iff_ne, ne_eq, beq_eq_false_iff_ne, bne_eq_false_iff_eq, Decidable.not_not, Int.toNat_natCast, Bool.not_eq_true', Bool.not_eq_false', Bool.not_eq_true, Bool.not_eq_false, Int.not_lt, Int.not_le] at *); omega))
      (all_goals try ((first | (show (_ : Int) ≤ _) | (show (_ : Int) < _) | (show (_ : Nat) ≤ _) | (show (_ : Nat) < _)); (try simp only [Int.toNat_natCast, List.length_cons, List.length_nil, umax64]); (try dsimp only [D, IK, dz, gT]); omega))
      generalize hrow : (outS cards vs gates gates.length).getD v [] = row at *
      refine ⟨loopI (fun x : Nat => { n := 183, t := [(2, .ptr 0 0), (10, .val (.int .i64 (↑(List.length gates)))), (11, .own 1), (21, .own 2), (22, .val (.int .i64 v)), (23, .own 3), (24, .val (.int .i64 x))], h := [(0, some (.cells [.dat .old (.i .i64) cards, .dat .old gT gates])), (1, some (.arr .fr (.i .i64) (sF vs gates))), (2, some (.arr .fr (.sl (.i .i64)) ((outS cards vs gates gates.length).take v))), (3, some (.arr .fr (.i .i64) (row.take x)))], nx := 4 }) (fun x => (cards.getD v 0).toNat - x) (fun x => Ok ((x : Int) ≤ cards.getD v 0 ∧ ∀ x' : Nat, x' < x → sumI (outP vs gates v x' gates.length) ≤ 4611686018427387903)),
        loopI.start 0 [23] [2, 10, 11, 21, 22, 23, 24] [(2, []), (11, []), (21, []), (23, [])] .fr (by (repeat' first | apply And.intro | rfl); exact ⟨by show (0 : Int) ≤ _; omega, fun x h => absurd h (Nat.not_lt_zero x)⟩), ?_⟩
      rintro _ _ ⟨x, rfl, rfl, ⟨hx, hxo⟩⟩
      by_cases hxl : (x : Int) < cards.getD v 0
      · have hsx := hso x hxl
        have htx : row.take (x + 1) = row.take x ++ [row.getD x 0] := by rw [take_step (by omega), getD_lt (by omega)]
        have hrt : (row.take x).length ≤ 4 := by rw [List.length_take]; omega
        repeat' first | apply And.intro | (intro h; (cases h; done)) | (intro h; exfalso; simp only [decT, decF, beq_iff_eq, beq_eq_false_iff_ne, ne_eq, Int.toNat_natCast] at h; (try dsimp only [D, IK, dz, gT] at h); first | omega | exact absurd h (by assumption) | exact h (by assumption)) | intro _ | exact True.intro | (show Region.lexB _ _ = true; kernel_rfl)
        (all_goals try (show Fw.xRun _ _ _ _ _ _ _ _; exfalso; (try simp only [decT, decF, beq_iff_eq, bne_iff_ne, ne_eq, beq_eq_false_iff_ne, bne_eq_false_iff_eq, Decidable.not_not, Int.toNat_natCast, Bool.not_eq_true', Bool.not_eq_false', Bool.not_eq_true, Bool.not_eq_false, Int.not_lt, Int.not_le] at *); omega))
        (all_goals try ((first | (show (_ : Int) ≤ _) | (show (_ : Int) < _) | (show (_ : Nat) ≤ _) | (show (_ : Nat) < _)); (try simp only [Int.toNat_natCast, List.length_cons, List.length_nil, umax64]); (try dsimp only [D, IK, dz, gT]); omega))
        refine ⟨loopI (fun i : Nat => { n := 183, t := [(2, .ptr 0 0), (10, .val (.int .i64 (↑(List.length gates)))), (11, .own 1), (21, .own 2), (22, .val (.int .i64 v)), (23, .own 3), (24, .val (.int .i64 x)), (25, .own 4), (26, .val (.int .i64 i))], h := [(0, some (.cells [.dat .old (.i .i64) cards, .dat .old gT gates])), (1, some (.arr .fr (.i .i64) (sF vs gates))), (2, some (.arr .fr (.sl (.i .i64)) ((outS cards vs gates gates.length).take v))), (3, some (.arr .fr (.i .i64) (row.take x))), (4, some (.arr .fr (.i .i64) (outP vs gates v x i)))], nx := 5 }) (fun i => gates.length - i) (fun i => Ok (i ≤ gates.length ∧ (outP vs gates v x i).length ≤ i)),
          loopI.start 0 [25] [2, 10, 11, 21, 22, 23, 24, 25, 26] [(2, []), (11, []), (21, []), (23, []), (25, [])] .fr (by (repeat' first | apply And.intro | rfl); exact ⟨Nat.zero_le _, Nat.le_refl _⟩), ?_⟩
        rintro _ _ ⟨i, rfl, rfl, ⟨hi, hpl⟩⟩
        by_cases hil : i < gates.length
        · have hal := hargs _ (getD_mem (d := gz) hil)
          have hsn := outP_snoc vs gates v x i
          dsimp only [gz] at hal hsn
          by_cases hcd : (gates.getD i (0, 0, 0, 0, [])).1 = 2 ∧ (gates.getD i (0, 0, 0, 0, [])).2.1 = v ∧ (gates.getD i (0, 0, 0, 0, [])).2.2.1 = x
          · rw [if_pos hcd] at hsn
            obtain ⟨q1, q2, q3⟩ := hcd
            repeat' first | apply And.intro | (intro h; (cases h; done)) | (intro h; exfalso; simp only [decT, decF, beq_iff_eq, beq_eq_false_iff_ne, ne_eq, Int.toNat_natCast] at h; (try dsimp only [D, IK, dz, gT] at h); first | omega | exact absurd h (by assumption) | exact h (by assumption)) | intro _ | exact True.intro | (show Region.lexB _ _ = true; kernel_rfl) | refine loopI.next (i + 1) [] [2, 10, 11, 21, 22, 23, 24, 25, 26] [(2, []), (11, []), (21, []), (23, []), (25, [])] .fr ?_
            (all_goals try (show Fw.xRun _ _ _ _ _ _ _ _; exfalso; (try simp only [decT, decF, beq_iff_eq, bne_iff_ne, ne_eq, beq_eq_false_iff_ne, bne_eq_false_iff_eq, Decidable.not_not, Int.toNat_natCast, Bool.not_eq_true', Bool.not_eq_false', Bool.not_eq_true, Bool.not_eq_false, Int.not_lt, Int.not_le] at *); omega))
            (all_goals try ((first | (show (_ : Int) ≤ _) | (show (_ : Int) < _) | (show (_ : Nat) ≤ _) | (show (_ : Nat) < _)); (try simp only [Int.toNat_natCast, List.length_cons, List.length_nil, umax64]); (try dsimp only [D, IK, dz, gT]); omega))
            all_goals (try simp only [decT, decF, beq_iff_eq, bne_iff_ne, ne_eq, beq_eq_false_iff_ne, bne_eq_false_iff_eq, Decidable.not_not, Int.toNat_natCast, Bool.not_eq_true', Bool.not_eq_false', Bool.not_eq_true, Bool.not_eq_false, Int.not_lt, Int.not_le] at *; try dsimp only [D, IK, dz] at *)
            all_goals try simp only [List.length_cons, List.length_nil]
            all_goals first | omega | rfl | exact hsn.symm | exact ⟨by omega, by rw [hsn, List.length_append, List.length_singleton]; omega⟩ | skip
          · rw [if_neg hcd] at hsn
            repeat' first | apply And.intro | (intro h; (cases h; done)) | (intro h; exfalso; simp only [decT, decF, beq_iff_eq, beq_eq_false_iff_ne, ne_eq, Int.toNat_natCast] at h; (try dsimp only [D, IK, dz, gT] at h); first | omega | exact absurd h (by assumption) | exact h (by assumption)) | intro _ | exact True.intro | (show Region.lexB _ _ = true; kernel_rfl) | refine loopI.next (i + 1) [] [2, 10, 11, 21, 22, 23, 24, 25, 26] [(2, []), (11, []), (21, []), (23, []), (25, [])] .fr ?_
            (all_goals try (show Fw.xRun _ _ _ _ _ _ _ _; exfalso; (try simp only [decT, decF, beq_iff_eq, bne_iff_ne, ne_eq, beq_eq_false_iff_ne, bne_eq_false_iff_eq, Decidable.not_not, Int.toNat_natCast, Bool.not_eq_true', Bool.not_eq_false', Bool.not_eq_true, Bool.not_eq_false, Int.not_lt, Int.not_le] at *); omega))
            (all_goals try ((first | (show (_ : Int) ≤ _) | (show (_ : Int) < _) | (show (_ : Nat) ≤ _) | (show (_ : Nat) < _)); (try simp only [Int.toNat_natCast, List.length_cons, List.length_nil, umax64]); (try dsimp only [D, IK, dz, gT]); omega))
            all_goals (try simp only [decT, decF, beq_iff_eq, bne_iff_ne, ne_eq, beq_eq_false_iff_ne, bne_eq_false_iff_eq, Decidable.not_not, Int.toNat_natCast, Bool.not_eq_true', Bool.not_eq_false', Bool.not_eq_true, Bool.not_eq_false, Int.not_lt, Int.not_le] at *; try dsimp only [D, IK, dz] at *)
            all_goals first | omega | rfl | exact hsn.symm | exact ⟨by omega, by rw [hsn]; omega⟩ | (exfalso; simp_all; done) | skip
        · have hie : i = gates.length := by omega
          have hbb := hb2 v x hvl hxl
          have hpn : ∀ y ∈ outP vs gates v x i, 0 ≤ y ∧ y ≤ 4611686018427387903 := by
            intro y hy
            obtain ⟨j, hj, rfl⟩ := List.mem_map.1 hy
            have := List.mem_range.1 (List.mem_filter.1 hj).1
            exact ⟨sF_nn hnn j, hd2 j (by omega)⟩
          have hsu := ref_sum_fn (outP vs gates v x i) (by omega) hpn
          rw [show sumI (outP vs gates v x i) = sumI (outP vs gates v x gates.length) by rw [hie]] at hsu
          by_cases hS : sumI (outP vs gates v x gates.length) ≤ 4611686018427387903
          · rw [if_pos hS, decide_eq_true hS] at hsu
            repeat' first | apply And.intro | (intro h; (cases h; done)) | (intro h; exfalso; simp only [decT, decF, beq_iff_eq, beq_eq_false_iff_ne, ne_eq, Int.toNat_natCast] at h; (try dsimp only [D, IK, dz, gT] at h); first | omega | exact absurd h (by assumption) | exact h (by assumption)) | intro _ | exact True.intro | (show Region.lexB _ _ = true; kernel_rfl) | refine CallK.fn [] hsu rfl rfl rfl rfl rfl trivial ?_ | refine loopI.next (x + 1) [] [2, 10, 11, 21, 22, 23, 24] [(2, []), (11, []), (21, []), (23, [])] .fr ?_
            (all_goals try (show Fw.xRun _ _ _ _ _ _ _ _; exfalso; (try simp only [decT, decF, beq_iff_eq, bne_iff_ne, ne_eq, beq_eq_false_iff_ne, bne_eq_false_iff_eq, Decidable.not_not, Int.toNat_natCast, Bool.not_eq_true', Bool.not_eq_false', Bool.not_eq_true, Bool.not_eq_false, Int.not_lt, Int.not_le] at *); omega))
            (all_goals try ((first | (show (_ : Int) ≤ _) | (show (_ : Int) < _) | (show (_ : Nat) ≤ _) | (show (_ : Nat) < _)); (try simp only [Int.toNat_natCast, List.length_cons, List.length_nil, umax64]); (try dsimp only [D, IK, dz, gT]); omega))
            all_goals (try simp only [decT, decF, beq_iff_eq, bne_iff_ne, ne_eq, beq_eq_false_iff_ne, bne_eq_false_iff_eq, Decidable.not_not, Int.toNat_natCast, Bool.not_eq_true', Bool.not_eq_false', Bool.not_eq_true, Bool.not_eq_false, Int.not_lt, Int.not_le] at *; try dsimp only [D, IK, dz] at *)
            all_goals try simp only [List.length_cons, List.length_nil]
            all_goals first | omega | rfl | (rw [htx, hsx]; done) | skip
            · refine ⟨by omega, fun x' hx' => ?_⟩
              by_cases e : x' = x
              · rw [e]; exact hS
              · exact hxo x' (by omega)
          · rw [if_neg hS, decide_eq_false hS] at hsu
            have hRR := hbb (by omega)
            repeat' first | apply And.intro | (intro h; (cases h; done)) | (intro h; exfalso; simp only [decT, decF, beq_iff_eq, beq_eq_false_iff_ne, ne_eq, Int.toNat_natCast] at h; (try dsimp only [D, IK, dz, gT] at h); first | omega | exact absurd h (by assumption) | exact h (by assumption)) | intro _ | exact True.intro | (show Region.lexB _ _ = true; kernel_rfl) | refine CallK.fn [] hsu rfl rfl rfl rfl rfl trivial ?_
            (all_goals try (show Fw.xRun _ _ _ _ _ _ _ _; exfalso; (try simp only [decT, decF, beq_iff_eq, bne_iff_ne, ne_eq, beq_eq_false_iff_ne, bne_eq_false_iff_eq, Decidable.not_not, Int.toNat_natCast, Bool.not_eq_true', Bool.not_eq_false', Bool.not_eq_true, Bool.not_eq_false, Int.not_lt, Int.not_le] at *); omega))
            (all_goals try ((first | (show (_ : Int) ≤ _) | (show (_ : Int) < _) | (show (_ : Nat) ≤ _) | (show (_ : Nat) < _)); (try simp only [Int.toNat_natCast, List.length_cons, List.length_nil, umax64]); (try dsimp only [D, IK, dz, gT]); omega))
            all_goals (try simp only [decT, decF, beq_iff_eq, bne_iff_ne, ne_eq, beq_eq_false_iff_ne, bne_eq_false_iff_eq, Decidable.not_not, Int.toNat_natCast, Bool.not_eq_true', Bool.not_eq_false', Bool.not_eq_true, Bool.not_eq_false, Int.not_lt, Int.not_le] at *; try dsimp only [D, IK, dz] at *)
            all_goals first | omega | (rw [hRR]; done) | skip
      · have hxe : row.take x = row := List.take_of_length_le (by omega)
        repeat' first | apply And.intro | (intro h; (cases h; done)) | (intro h; exfalso; simp only [decT, decF, beq_iff_eq, beq_eq_false_iff_ne, ne_eq, Int.toNat_natCast] at h; (try dsimp only [D, IK, dz, gT] at h); first | omega | exact absurd h (by assumption) | exact h (by assumption)) | intro _ | exact True.intro | (show Region.lexB _ _ = true; kernel_rfl) | refine loopI.next (v + 1) [] [2, 10, 11, 21, 22] [(2, []), (11, []), (21, [])] .fr ?_
        (all_goals try (show Fw.xRun _ _ _ _ _ _ _ _; exfalso; (try simp only [decT, decF, beq_iff_eq, bne_iff_ne, ne_eq, beq_eq_false_iff_ne, bne_eq_false_iff_eq, Decidable.not_not, Int.toNat_natCast, Bool.not_eq_true', Bool.not_eq_false', Bool.not_eq_true, Bool.not_eq_false, Int.not_lt, Int.not_le] at *); omega))
        (all_goals try ((first | (show (_ : Int) ≤ _) | (show (_ : Int) < _) | (show (_ : Nat) ≤ _) | (show (_ : Nat) < _)); (try simp only [Int.toNat_natCast, List.length_cons, List.length_nil, umax64]); (try dsimp only [D, IK, dz, gT]); omega))
        all_goals (try simp only [decT, decF, beq_iff_eq, bne_iff_ne, ne_eq, beq_eq_false_iff_ne, bne_eq_false_iff_eq, Decidable.not_not, Int.toNat_natCast, Bool.not_eq_true', Bool.not_eq_false', Bool.not_eq_true, Bool.not_eq_false, Int.not_lt, Int.not_le] at *; try dsimp only [D, IK, dz] at *)
        all_goals first | omega | rfl | (rw [hto, hxe]; done) | skip
        · rw [List.length_take, List.length_singleton]; omega
        · refine ⟨by omega, fun v' x' h1 h2 => ?_⟩
          by_cases e : v' = v
          · subst e; exact hxo x' (by omega)
          · exact hvo v' x' (by omega) h2
    · have hve : v = cards.length := by omega
      have hRR := hgd2 (fun v' x h => hvo v' x (by omega))
      repeat' first | apply And.intro | (intro h; (cases h; done)) | (intro h; exfalso; simp only [decT, decF, beq_iff_eq, beq_eq_false_iff_ne, ne_eq, Int.toNat_natCast] at h; (try dsimp only [D, IK, dz, gT] at h); first | omega | exact absurd h (by assumption) | exact h (by assumption)) | intro _ | exact True.intro | (show Region.lexB _ _ = true; kernel_rfl)
      (all_goals try (show Fw.xRun _ _ _ _ _ _ _ _; exfalso; (try simp only [decT, decF, beq_iff_eq, bne_iff_ne, ne_eq, beq_eq_false_iff_ne, bne_eq_false_iff_eq, Decidable.not_not, Int.toNat_natCast, Bool.not_eq_true', Bool.not_eq_false', Bool.not_eq_true, Bool.not_eq_false, Int.not_lt, Int.not_le] at *); omega))
      (all_goals try ((first | (show (_ : Int) ≤ _) | (show (_ : Int) < _) | (show (_ : Nat) ≤ _) | (show (_ : Nat) < _)); (try simp only [Int.toNat_natCast, List.length_cons, List.length_nil, umax64]); (try dsimp only [D, IK, dz, gT]); omega))
      all_goals rw [hRR]
      all_goals exact List.take_of_length_le (by omega)
theorem ref_derive_fn (cards : List Int) (gates : List Gate) (input : List Int) (hl : gates.length ≤ 4611686018427387903) (hc : cards.length ≤ 4611686018427387903) (hin : input.length ≤ 4611686018427387903) (hargs : ∀ g ∈ gates, g.2.2.2.2.length ≤ 1048576) :
    Fw.Fn Try.prog 22 [.agg [.dat .old (.i .i64) cards, .dat .old gT gates], .dat .old (.i .i64) input] [] (.tup [.dat .fr (.sl (.i .i64)) (derF cards gates input).1, .val (.int .i64 (derF cards gates input).2)]) [] := by
  have hE := ref_eval_fn cards gates input (fun g h => Nat.le_trans (hargs g h) (by decide)) hin
  unfold derF
  unfold evalF at hE
  by_cases h : rightB cards gates = false
  · rw [if_pos h] at hE ⊢
    refine fn_go env_ok mixed Try.func22 (c := Try.f22.body.get rfl) rfl (by kernel_rfl) [] rfl ?_
    repeat' first | apply And.intro | (intro h; (cases h; done)) | (intro h; exfalso; simp only [decT, decF, beq_iff_eq, beq_eq_false_iff_ne, ne_eq, Int.toNat_natCast] at h; (try dsimp only [D, IK, dz, gT] at h); first | omega | exact absurd h (by assumption) | exact h (by assumption)) | intro _ | exact True.intro | (show Region.lexB _ _ = true; kernel_rfl) | refine CallK.fn [] hE rfl rfl rfl rfl rfl trivial ?_
    all_goals first | rfl | skip
  rw [if_neg h] at hE ⊢
  have h : rightB cards gates = true := by cases e : rightB cards gates <;> simp_all
  by_cases hi : inputB cards input = false
  · rw [if_pos hi] at hE ⊢
    refine fn_go env_ok mixed Try.func22 (c := Try.f22.body.get rfl) rfl (by kernel_rfl) [] rfl ?_
    repeat' first | apply And.intro | (intro h; (cases h; done)) | (intro h; exfalso; simp only [decT, decF, beq_iff_eq, beq_eq_false_iff_ne, ne_eq, Int.toNat_natCast] at h; (try dsimp only [D, IK, dz, gT] at h); first | omega | exact absurd h (by assumption) | exact h (by assumption)) | intro _ | exact True.intro | (show Region.lexB _ _ = true; kernel_rfl) | refine CallK.fn [] hE rfl rfl rfl rfl rfl trivial ?_
    all_goals first | rfl | skip
  rw [if_neg hi] at hE ⊢
  have hi : inputB cards input = true := by cases e : inputB cards input <;> simp_all
  obtain ⟨h4, hg⟩ := right_all h
  have hV := ref_values_fn cards gates input h4 hg hi
  obtain ⟨hc8, hcv⟩ := cards_ok h
  have h1 : 1 ≤ gates.length := by
    simp only [rightB, Bool.and_eq_true, decide_eq_true_eq] at h
    exact h.1.1.2
  cases hvs : valsO input gates [] with
  | none =>
    rw [hvs] at hE
    refine fn_go env_ok mixed Try.func22 (c := Try.f22.body.get rfl) rfl (by kernel_rfl) [] rfl ?_
    repeat' first | apply And.intro | (intro h; (cases h; done)) | (intro h; exfalso; simp only [decT, decF, beq_iff_eq, beq_eq_false_iff_ne, ne_eq, Int.toNat_natCast] at h; (try dsimp only [D, IK, dz, gT] at h); first | omega | exact absurd h (by assumption) | exact h (by assumption)) | intro _ | exact True.intro | (show Region.lexB _ _ = true; kernel_rfl) | refine CallK.fn [] hE rfl rfl rfl rfl rfl trivial ?_
    all_goals first | rfl | skip
  | some vs =>
    rw [hvs] at hE hV
    have hn := numsOK_vals (cards := cards) (out := []) (fun j hj => by rw [List.length_nil, Nat.zero_add]; exact hg j hj) (fun x hx => by cases hx) hvs
    have hvl := valsO_len hvs
    rw [List.length_nil, Nat.zero_add] at hvl
    refine ref_derive_in cards gates input vs _ hg hvl hn h1 h4 hargs hc8 hcv (fun i hi => if_neg fun hok => ?_) (fun v x hv hx hi => if_neg fun hok => ?_) (fun ha hb => if_pos ⟨fun i => ?_, fun v x => ?_⟩) _ hE hV
    · have := hok.1 i
      unfold sF at hi
      omega
    · have := hok.2 v x
      rw [outS_out hg hv hx] at this
      omega
    · by_cases hi : i < gates.length
      · exact ha i hi
      · rw [List.getD_eq_getElem?_getD, List.getElem?_eq_none (by rw [scat_len]; omega)]; decide
    · by_cases hv : v < cards.length
      · by_cases hx : (x : Int) < cards.getD v 0
        · rw [outS_out hg hv hx]; exact hb v x hv hx
        · rw [List.getD_eq_getElem?_getD, List.getElem?_eq_none (by rw [outS_row]; omega)]; decide
      · have : (outS cards vs gates gates.length).getD v [] = [] := by rw [List.getD_eq_getElem?_getD, List.getElem?_eq_none (by rw [outS_len]; omega)]; rfl
        rw [this]; show (0 : Int) ≤ _; decide
end Go.Proofs.Ytbgnnpbcifgckaa
namespace Go.Proofs.Ytbgnnpbcifgckaa
open Go Go.Fw Go.RowKit
set_option maxRecDepth 100000
set_option maxHeartbeats 4000000
theorem list_ext0 {α : Type} {d : α} {a b : List α} (h : a.length = b.length) (h2 : ∀ i, i < a.length → a.getD i d = b.getD i d) : a = b := by
  refine List.ext_getElem h fun i h1 h3 => ?_
  have := h2 i h1
  rwa [getD_lt h1, getD_lt h3] at this
theorem same_fn (a b : List Int) (ha : a.length ≤ 4611686018427387903) : Fw.Fn Try.prog 51 [.dat .old (.i .i64) a, .dat .old (.i .i64) b] [] (.val (.bool (decide (a = b)))) [] := by
  refine fn_go env_ok mixed Try.func51 (c := Try.f51.body.get rfl) rfl (by kernel_rfl) [] rfl ?_
  repeat' first | apply And.intro | (intro h; (cases h; done)) | intro _ | exact True.intro | (show Region.lexB _ _ = true; kernel_rfl)
  · rename_i h
    (try simp only [decT, decF, beq_iff_eq, bne_iff_ne, ne_eq, beq_eq_false_iff_ne, bne_eq_false_iff_eq, Decidable.not_not, Int.toNat_natCast, Bool.not_eq_true', Bool.not_eq_false', Bool.not_eq_true, Bool.not_eq_false, Int.not_lt, Int.not_le] at *; try dsimp only [D, IK, dz] at *)
    have : ¬ a = b := fun e => h (by rw [e])
    rw [decide_eq_false this]
  · rename_i h
    have hl : a.length = b.length := by
      have : (a.length : Int) = b.length := by simpa using h
      omega
    refine ⟨loopI (fun j : Nat => { n := 26, t := [(0, .dat .old (.i .i64) a), (1, .dat .old (.i .i64) b), (5, .val (.int .i64 j))], h := [], nx := 0 }) (fun j => a.length - j) (fun j => Ok (j ≤ a.length ∧ ∀ i, i < j → a.getD i 0 = b.getD i 0)),
      loopI.start 0 [] [0, 1, 5] [] .fr (by (repeat' first | apply And.intro | rfl); exact ⟨Nat.zero_le _, fun i hi => absurd hi (Nat.not_lt_zero i)⟩), ?_⟩
    rintro _ _ ⟨j, rfl, rfl, ⟨hj, hs⟩⟩
    clear h
    repeat' first | apply And.intro | (intro h; (cases h; done)) | intro _ | exact True.intro | (show Region.lexB _ _ = true; kernel_rfl) | refine loopI.next (j + 1) [] [0, 1, 5] [] .fr ?_
    all_goals (try simp only [decT, decF, beq_iff_eq, bne_iff_ne, ne_eq, beq_eq_false_iff_ne, bne_eq_false_iff_eq, Decidable.not_not, Int.toNat_natCast, Bool.not_eq_true', Bool.not_eq_false', Bool.not_eq_true, Bool.not_eq_false, Int.not_lt, Int.not_le] at *; try dsimp only [D, IK, dz] at *)
    all_goals first | omega | rfl | skip
    · rename_i h
      have : ¬ a = b := fun e => h (by rw [e])
      rw [decide_eq_false this]
    · exact ⟨by omega, all_step hs (by assumption)⟩
    · rw [decide_eq_true (list_ext0 (d := 0) hl fun i hi => hs i (by omega))]
theorem sametable_fn (a b : List (List Int)) (ha : a.length ≤ 4611686018427387903) (hal : ∀ r ∈ a, r.length ≤ 4611686018427387903) : Fw.Fn Try.prog 23 [.dat .old (.sl (.i .i64)) a, .dat .old (.sl (.i .i64)) b] [] (.val (.bool (decide (a = b)))) [] := by
  refine fn_go env_ok mixed Try.func23 (c := Try.f23.body.get rfl) rfl (by kernel_rfl) [] rfl ?_
  repeat' first | apply And.intro | (intro h; (cases h; done)) | intro _ | exact True.intro | (show Region.lexB _ _ = true; kernel_rfl)
  · rename_i h
    (try simp only [decT, decF, beq_iff_eq, bne_iff_ne, ne_eq, beq_eq_false_iff_ne, bne_eq_false_iff_eq, Decidable.not_not, Int.toNat_natCast, Bool.not_eq_true', Bool.not_eq_false', Bool.not_eq_true, Bool.not_eq_false, Int.not_lt, Int.not_le] at *; try dsimp only [D, IK, dz] at *)
    have : ¬ a = b := fun e => h (by rw [e])
    rw [decide_eq_false this]
  · rename_i h
    have hl : a.length = b.length := by
      have : (a.length : Int) = b.length := by simpa using h
      omega
    refine ⟨loopI (fun j : Nat => { n := 27, t := [(0, .dat .old (.sl (.i .i64)) a), (1, .dat .old (.sl (.i .i64)) b), (5, .val (.int .i64 j))], h := [], nx := 0 }) (fun j => a.length - j) (fun j => Ok (j ≤ a.length ∧ ∀ i, i < j → a.getD i [] = b.getD i [])),
      loopI.start 0 [] [0, 1, 5] [] .fr (by (repeat' first | apply And.intro | rfl); exact ⟨Nat.zero_le _, fun i hi => absurd hi (Nat.not_lt_zero i)⟩), ?_⟩
    rintro _ _ ⟨j, rfl, rfl, ⟨hj, hs⟩⟩
    clear h
    by_cases hlt : j < a.length
    · have hr := hal _ (getD_mem (d := []) hlt)
      have hsf := same_fn (a.getD j []) (b.getD j []) hr
      by_cases e : a.getD j [] = b.getD j []
      · rw [decide_eq_true e] at hsf
        repeat' first | apply And.intro | (intro h; (cases h; done)) | (intro h; exfalso; simp only [decT, decF, beq_iff_eq, beq_eq_false_iff_ne, ne_eq, Int.toNat_natCast] at h; (try dsimp only [D, IK, dz, gT] at h); first | omega | exact absurd h (by assumption) | exact h (by assumption)) | intro _ | exact True.intro | (show Region.lexB _ _ = true; kernel_rfl) | refine loopI.next (j + 1) [] [0, 1, 5] [] .fr ?_ | refine CallK.fn [] hsf rfl rfl rfl rfl rfl trivial ?_
        all_goals (try simp only [decT, decF, beq_iff_eq, bne_iff_ne, ne_eq, beq_eq_false_iff_ne, bne_eq_false_iff_eq, Decidable.not_not, Int.toNat_natCast, Bool.not_eq_true', Bool.not_eq_false', Bool.not_eq_true, Bool.not_eq_false, Int.not_lt, Int.not_le] at *; try dsimp only [D, IK, dz] at *)
        all_goals first | omega | rfl | skip
        exact ⟨by omega, all_step hs e⟩
      · rw [decide_eq_false e] at hsf
        repeat' first | apply And.intro | (intro h; (cases h; done)) | (intro h; exfalso; simp only [decT, decF, beq_iff_eq, beq_eq_false_iff_ne, ne_eq, Int.toNat_natCast] at h; (try dsimp only [D, IK, dz, gT] at h); first | omega | exact absurd h (by assumption) | exact h (by assumption)) | intro _ | exact True.intro | (show Region.lexB _ _ = true; kernel_rfl) | refine CallK.fn [] hsf rfl rfl rfl rfl rfl trivial ?_
        all_goals (try simp only [decT, decF, beq_iff_eq, bne_iff_ne, ne_eq, beq_eq_false_iff_ne, bne_eq_false_iff_eq, Decidable.not_not, Int.toNat_natCast, Bool.not_eq_true', Bool.not_eq_false', Bool.not_eq_true, Bool.not_eq_false, Int.not_lt, Int.not_le] at *; try dsimp only [D, IK, dz] at *)
        all_goals first | omega | rfl | skip
        have : ¬ a = b := fun e2 => e (by rw [e2])
        rw [decide_eq_false this]
    · repeat' first | apply And.intro | (intro h; (cases h; done)) | (intro h; exfalso; simp only [decT, decF, beq_iff_eq, beq_eq_false_iff_ne, ne_eq, Int.toNat_natCast] at h; (try dsimp only [D, IK, dz, gT] at h); first | omega | exact absurd h (by assumption) | exact h (by assumption)) | intro _ | exact True.intro | (show Region.lexB _ _ = true; kernel_rfl)
      (all_goals try ((first | (show (_ : Int) ≤ _) | (show (_ : Int) < _) | (show (_ : Nat) ≤ _) | (show (_ : Nat) < _)); (try simp only [Int.toNat_natCast, List.length_cons, List.length_nil, umax64]); (try dsimp only [D, IK, dz, gT]); omega))
      rw [decide_eq_true (list_ext0 (d := []) hl fun i hi => hs i (by omega))]
/-- The number of edges of the first gates. -/
def edgesF (gates : List Gate) : Nat → Nat
  | 0 => 0
  | j + 1 => edgesF gates j + (gates.getD j gz).2.2.2.2.length
theorem edgesF_le {gates : List Gate} {m : Nat} (h : ∀ g ∈ gates, g.2.2.2.2.length ≤ m) : ∀ j, j ≤ gates.length → edgesF gates j ≤ j * m
  | 0, _ => Nat.zero_le _
  | j + 1, hj => by
    have := edgesF_le h j (by omega)
    have := h _ (getD_mem (d := gz) (show j < gates.length by omega))
    rw [edgesF, Nat.add_mul]; omega
section
variable (cards : List Int) (gates : List Gate) (hl : gates.length ≤ 4611686018427387903) (hc : cards.length ≤ 4611686018427387903) (hargs : ∀ g ∈ gates, g.2.2.2.2.length ≤ 1000000)
include hl hc hargs in
theorem size_no (h : rightB cards gates = false) : Fw.Fn Try.prog 14 [.agg [.dat .old (.i .i64) cards, .dat .old gT gates]] [] (.tup [.val (.int .i64 0), .val (.int .i64 0), .val (.int .i64 150)]) [] := by
  have hv := valid_fn cards gates hc hl fun g hg => by have := hargs g hg; omega
  rw [h] at hv
  refine fn_go env_ok mixed Try.func14 (c := Try.f14.body.get rfl) rfl (by kernel_rfl) [] rfl ?_
  repeat' first | apply And.intro | (intro h; (cases h; done)) | intro _ | exact True.intro | (show Region.lexB _ _ = true; kernel_rfl) | refine CallK.fn [] hv rfl rfl rfl rfl rfl trivial ?_
  all_goals rfl
include hl hc hargs in
theorem size_fn (h : rightB cards gates = true) : Fw.Fn Try.prog 14 [.agg [.dat .old (.i .i64) cards, .dat .old gT gates]] [] (.tup [.val (.int .i64 gates.length), .val (.int .i64 (edgesF gates gates.length)), .val (.int .i64 0)]) [] := by
  have hv := valid_fn cards gates hc hl fun g hg => by have := hargs g hg; omega
  rw [h] at hv
  have hgl := (right_all h).1
  refine fn_go env_ok mixed Try.func14 (c := Try.f14.body.get rfl) rfl (by kernel_rfl) [] rfl ?_
  repeat' first | apply And.intro | (intro h; (cases h; done)) | intro _ | exact True.intro | (show Region.lexB _ _ = true; kernel_rfl) | refine CallK.fn [] hv rfl rfl rfl rfl rfl trivial ?_
  refine ⟨loopI (fun j : Nat => { n := 27, t := [(1, .ptr 0 0), (3, .val (.int .i64 (edgesF gates j))), (11, .dat .old gT gates), (12, .val (.int .i64 gates.length)), (13, .val (.int .i64 j))], h := [(0, some (.cells [.dat .old (.i .i64) cards, .dat .old gT gates]))], nx := 1 }) (fun j => gates.length - j) (fun j => Ok (j ≤ gates.length)),
    loopI.start 0 [] [1, 3, 11, 12, 13] [(1, [])] .fr (by (repeat' first | apply And.intro | rfl); exact ⟨Nat.zero_le _⟩), ?_⟩
  rintro _ _ ⟨j, rfl, rfl, ⟨hj⟩⟩
  have hb := edgesF_le hargs j hj
  by_cases hlt : j < gates.length
  · have hal := hargs _ (getD_mem (d := gz) hlt)
    repeat' first | apply And.intro | (intro h; (cases h; done)) | (intro h; exfalso; simp only [decT, decF, beq_iff_eq, beq_eq_false_iff_ne, ne_eq, Int.toNat_natCast] at h; (try dsimp only [D, IK, dz, gT] at h); first | omega | exact absurd h (by assumption) | exact h (by assumption)) | intro _ | exact True.intro | (show Region.lexB _ _ = true; kernel_rfl) | refine loopI.next (j + 1) [] [1, 3, 11, 12, 13] [(1, [])] .fr ?_
    all_goals (try simp only [decT, decF, beq_iff_eq, bne_iff_ne, ne_eq, beq_eq_false_iff_ne, bne_eq_false_iff_eq, Decidable.not_not, Int.toNat_natCast, Bool.not_eq_true', Bool.not_eq_false', Bool.not_eq_true, Bool.not_eq_false, Int.not_lt, Int.not_le] at *; try dsimp only [D, IK, dz] at *)
    all_goals try dsimp only [gz] at *
    all_goals first | omega | rfl | exact ⟨by omega⟩
  · have hje : j = gates.length := by omega
    repeat' first | apply And.intro | (intro h; (cases h; done)) | (intro h; exfalso; simp only [decT, decF, beq_iff_eq, beq_eq_false_iff_ne, ne_eq, Int.toNat_natCast] at h; (try dsimp only [D, IK, dz, gT] at h); first | omega | exact absurd h (by assumption) | exact h (by assumption)) | intro _ | exact True.intro | (show Region.lexB _ _ = true; kernel_rfl)
    (all_goals try ((first | (show (_ : Int) ≤ _) | (show (_ : Int) < _) | (show (_ : Nat) ≤ _) | (show (_ : Nat) < _)); (try simp only [Int.toNat_natCast, List.length_cons, List.length_nil, umax64]); (try dsimp only [D, IK, dz, gT]); omega))
    all_goals first | rfl | rw [hje]
end
end Go.Proofs.Ytbgnnpbcifgckaa
namespace Go.Proofs.Ytbgnnpbcifgckaa
open Go Go.Fw Go.RowKit
set_option maxRecDepth 100000
set_option maxHeartbeats 4000000
theorem is_c (v x : Int) : Fw.Fn Try.prog 31 [.val (.int .i64 v), .val (.int .i64 x)] [] (.agg [.val (.int .i64 2), .val (.int .i64 v), .val (.int .i64 x), .val (.int .i64 0), .dat .fr (.i .i64) []]) [] := by
  refine fnR_go env_ok mixed Try.func31 (c := Try.f31.body.get rfl) rfl (by kernel_rfl) [] [] [] rfl ?_
  repeat' first | apply And.intro | (intro h; (cases h; done)) | intro _ | exact True.intro | (show Region.lexB _ _ = true; kernel_rfl)
  all_goals rfl
theorem number_c (n : Int) : Fw.Fn Try.prog 29 [.val (.int .i64 n)] [] (.agg [.val (.int .i64 1), .val (.int .i64 0), .val (.int .i64 0), .val (.int .i64 n), .dat .fr (.i .i64) []]) [] := by
  refine fnR_go env_ok mixed Try.func29 (c := Try.f29.body.get rfl) rfl (by kernel_rfl) [] [] [] rfl ?_
  repeat' first | apply And.intro | (intro h; (cases h; done)) | intro _ | exact True.intro | (show Region.lexB _ _ = true; kernel_rfl)
  all_goals rfl
theorem sum_c (l : List Int) : Fw.Fn Try.prog 28 [.own 0] [.arr .old (.i .i64) l] (.agg [.val (.int .i64 3), .val (.int .i64 0), .val (.int .i64 0), .val (.int .i64 0), .own 0]) [(0, some (.arr .old (.i .i64) l))] := by
  refine fnR_go env_ok mixed Try.func28 (c := Try.f28.body.get rfl) rfl (by kernel_rfl) [] [] [] rfl ?_
  repeat' first | apply And.intro | (intro h; (cases h; done)) | intro _ | exact True.intro | (show Region.lexB _ _ = true; kernel_rfl)
  all_goals rfl
theorem product_c (l : List Int) : Fw.Fn Try.prog 30 [.own 0] [.arr .old (.i .i64) l] (.agg [.val (.int .i64 4), .val (.int .i64 0), .val (.int .i64 0), .val (.int .i64 0), .own 0]) [(0, some (.arr .old (.i .i64) l))] := by
  refine fnR_go env_ok mixed Try.func30 (c := Try.f30.body.get rfl) rfl (by kernel_rfl) [] [] [] rfl ?_
  repeat' first | apply And.intro | (intro h; (cases h; done)) | intro _ | exact True.intro | (show Region.lexB _ _ = true; kernel_rfl)
  all_goals rfl
def sampleG : List Gate := [(2, 0, 0, 0, []), (2, 0, 1, 0, []), (1, 0, 0, 3, []), (1, 0, 0, 5, []), (4, 0, 0, 0, [0, 2]), (4, 0, 0, 0, [1, 3]), (3, 0, 0, 0, [4, 5])]
theorem sample_fn : Fw.Fn Try.prog 27 [] [] (.agg [.dat .fr (.i .i64) [2], .dat .old gT sampleG]) [] := by
  refine fnR_go env_ok mixed Try.func27 (c := Try.f27.body.get rfl) rfl (by kernel_rfl) [] [] [] rfl ?_
  repeat' first | apply And.intro | (intro h; (cases h; done)) | intro _ | exact True.intro | (show Region.lexB _ _ = true; kernel_rfl) | refine CallK.fn [] (is_c _ _) rfl rfl rfl rfl rfl trivial ?_ | refine CallK.fn [] (number_c _) rfl rfl rfl rfl rfl trivial ?_ | refine CallK.fn [96] (product_c _) (by exact rfl) (by exact rfl) (by exact rfl) (by exact rfl) (by exact rfl) ?_ ?_ | refine CallK.fn [128] (product_c _) (by exact rfl) (by exact rfl) (by exact rfl) (by exact rfl) (by exact rfl) ?_ ?_ | refine CallK.fn [160] (sum_c _) (by exact rfl) (by exact rfl) (by exact rfl) (by exact rfl) (by exact rfl) ?_ ?_
  all_goals rfl
theorem value_fn (cards : List Int) (gates : List Gate) (want : Int) (input : List Int) (hl : gates.length ≤ 4611686018427387903) (hc : cards.length ≤ 4611686018427387903) (hin : input.length ≤ 4611686018427387903) (hargs : ∀ g ∈ gates, g.2.2.2.2.length ≤ 4611686018427387903) :
    Fw.Fn Try.prog 33 [.agg [.dat .old (.i .i64) cards, .dat .old gT gates], .val (.int .i64 want), .dat .old (.i .i64) input] [] (.val (.bool (decide (evalF cards gates input = (want, 0))))) [] := by
  refine fn_go env_ok mixed Try.func33 (c := Try.f33.body.get rfl) rfl (by kernel_rfl) [] rfl ?_
  repeat' first | apply And.intro | (intro h; (cases h; done)) | intro _ | exact True.intro | (show Region.lexB _ _ = true; kernel_rfl) | refine CallK.fn [] (eval_fn cards gates input hl hc hin hargs) rfl rfl rfl rfl rfl trivial ?_
  all_goals (try simp only [decT, decF, beq_iff_eq, bne_iff_ne, ne_eq, beq_eq_false_iff_ne, bne_eq_false_iff_eq, Decidable.not_not, Int.toNat_natCast, Bool.not_eq_true', Bool.not_eq_false', Bool.not_eq_true, Bool.not_eq_false, Int.not_lt, Int.not_le] at *; try dsimp only [D, IK, dz] at *)
  · rename_i h
    have e : evalF cards gates input = ((evalF cards gates input).1, 0) := by rw [← h]
    rw [e]
    by_cases h2 : (evalF cards gates input).1 = want
    · rw [h2]; simp
    · simp [h2]
  · rename_i h
    have : ¬ evalF cards gates input = (want, 0) := fun e => h (by rw [e])
    rw [decide_eq_false this]
theorem sample_right : rightB [2] sampleG = true := by rfl
theorem sample_der : derF [2] sampleG [-1] = ([[3, 5]], 0) := by
  unfold derF
  rw [if_neg (by rw [sample_right]; decide), if_neg (by decide)]
  have hv : valsO [-1] sampleG [] = some [1, 1, 3, 5, 3, 5, 8] := by rfl
  rw [hv]
  have hs : scat [1, 1, 3, 5, 3, 5, 8] sampleG sampleG.length = [3, 5, 1, 1, 1, 1, 1] := by rfl
  have ho : outS [2] [1, 1, 3, 5, 3, 5, 8] sampleG sampleG.length = [[3, 5]] := by rfl
  dsimp only
  rw [if_pos, ho]
  refine ⟨fun i => ?_, fun v x => ?_⟩
  · rw [hs]
    match i with
    | 0 | 1 | 2 | 3 | 4 | 5 | 6 => decide
    | n + 7 => exact (by decide : (0 : Int) ≤ 4611686018427387903)
  · rw [ho]
    match v, x with
    | 0, 0 | 0, 1 => decide
    | 0, n + 2 => exact (by decide : (0 : Int) ≤ 4611686018427387903)
    | n + 1, x => simp
theorem sample_apart : apartB [2] sampleG = true := by
  refine apartB_true fun a ha => ?_
  match a, ha with
  | [x], ⟨h1, h2, _⟩ =>
    have : x = 0 ∨ x = 1 := by omega
    rcases this with rfl | rfl
    · intro i hi
      match i, hi with
      | 0, _ | 1, _ | 2, _ | 3, _ | 4, _ | 5, _ | 6, _ => decide
    · intro i hi
      match i, hi with
      | 0, _ | 1, _ | 2, _ | 3, _ | 4, _ | 5, _ | 6, _ => decide
theorem sample_args {m : Nat} (h : 2 ≤ m) : ∀ g ∈ sampleG, g.2.2.2.2.length ≤ m := by
  intro g hg
  have : g.2.2.2.2.length ≤ 2 := by
    simp only [sampleG, List.mem_cons, List.not_mem_nil, or_false] at hg
    rcases hg with rfl | rfl | rfl | rfl | rfl | rfl | rfl <;> decide
  omega
theorem wakes_fn : Fw.Fn Try.prog 9 [] [] (.val (.bool true)) [] := by
  have hd := Derive_fn [2] sampleG [-1] (by decide) (by decide) (by decide) (sample_args (by decide))
  rw [sample_der] at hd
  have hk := kinds_fn [2] sampleG (by decide) (by decide) (sample_args (by decide)) sample_right
  rw [sample_apart, show smF (varsF sampleG) sampleG sampleG.length = true from rfl, show dcF (varsF sampleG) sampleG sampleG.length = true from rfl] at hk
  have hs := size_fn [2] sampleG (by decide) (by decide) (sample_args (by decide)) sample_right
  rw [show edgesF sampleG sampleG.length = 6 from rfl] at hs
  have v1 := value_fn [2] sampleG 8 [-1] (by decide) (by decide) (by decide) (sample_args (by decide))
  rw [show evalF [2] sampleG [-1] = (8, 0) from rfl] at v1
  have v2 := value_fn [2] sampleG 3 [0] (by decide) (by decide) (by decide) (sample_args (by decide))
  rw [show evalF [2] sampleG [0] = (3, 0) from rfl] at v2
  have v3 := value_fn [2] sampleG 5 [1] (by decide) (by decide) (by decide) (sample_args (by decide))
  rw [show evalF [2] sampleG [1] = (5, 0) from rfl] at v3
  have ht := sametable_fn [[3, 5]] [[3, 5]] (by decide) (by decide)
  have hc := check_fn [2] sampleG (by decide) (by decide) (sample_args (by decide))
  have hn := check_fn [] [] (by decide) (by decide) (by decide)
  refine fn_go env_ok mixed Try.func9 (c := Try.f9.body.get rfl) rfl (by kernel_rfl) [] rfl ?_
  repeat' first | apply And.intro | (intro h; (cases h; done)) | intro _ | exact True.intro | (show Region.lexB _ _ = true; kernel_rfl) | refine CallK.fn [] sample_fn rfl rfl rfl rfl rfl trivial ?_ | refine CallK.fn [] hd rfl rfl rfl rfl rfl trivial ?_ | refine CallK.fn [] hk rfl rfl rfl rfl rfl trivial ?_ | refine CallK.fn [] hs rfl rfl rfl rfl rfl trivial ?_ | refine CallK.fn [] v1 rfl rfl rfl rfl rfl trivial ?_ | refine CallK.fn [] v2 rfl rfl rfl rfl rfl trivial ?_ | refine CallK.fn [] v3 rfl rfl rfl rfl rfl trivial ?_ | refine CallK.fn [] ht rfl rfl rfl rfl rfl trivial ?_ | refine CallK.fn [] hc rfl rfl rfl rfl rfl trivial ?_ | refine CallK.fn [] hn rfl rfl rfl rfl rfl trivial ?_
  rfl
end Go.Proofs.Ytbgnnpbcifgckaa
namespace Go.Proofs.Ytbgnnpbcifgckaa
open Go Go.Fw Go.RowKit
set_option maxRecDepth 100000
set_option maxHeartbeats 4000000
abbrev a4T : Ty := .pr (.i .u8) (.pr (.i .u8) (.pr (.i .u8) (.i .u8)))
abbrev Q4 : Type := Nat × Nat × Nat × Nat
abbrev qz : Q4 := (0, 0, 0, 0)
def cardsQ (dc : List Nat) (j : Nat) : List Int := (dc.take j).map fun c => 1 + ((c % 3 : Nat) : Int)
/-- The numbers of values of a draft. -/
def cardsD (dc : List Nat) : List Int := if dc.length = 0 then [2] else cardsQ dc 4
def isR (v k : Nat) : List Gate := (List.range k).map fun x : Nat => ((2 : Int), (v : Int), ((x : Nat) : Int), (0 : Int), ([] : List Int))
def isL (cs : List Int) : Nat → List Gate
  | 0 => []
  | v + 1 => isL cs v ++ isR v (cs.getD v 0).toNat
def argsQ (n : Nat) (q : Q4) : List Int := if q.2.1 % n = q.2.2.1 % n then [((q.2.1 % n : Nat) : Int)] else [((min (q.2.1 % n) (q.2.2.1 % n) : Nat) : Int), ((max (q.2.1 % n) (q.2.2.1 % n) : Nat) : Int)]
def gateQ (unit : Int) (n : Nat) (q : Q4) : Gate := if q.1 % 5 = 0 then (1, 0, 0, ((q.2.1 % 8 : Nat) : Int) * unit, []) else (3 + ((q.1 % 2 : Nat) : Int), 0, 0, 0, argsQ n q)
def gatesQ (unit : Int) (g0 : List Gate) (dg : List Q4) : List Gate := dg.foldl (fun gs q => gs ++ [gateQ unit gs.length q]) g0
def unitQ (big : Bool) : Int := if big then 100000000000 else 1
/-- The gates of a draft. -/
def gatesD (dc : List Nat) (dg : List Q4) (big : Bool) : List Gate := gatesQ (unitQ big) (isL (cardsD dc) (cardsD dc).length) (dg.take 30)
theorem tmodN (a b : Nat) : Int.tmod (a : Int) (b : Int) = ((a % b : Nat) : Int) := rfl
theorem eqN {a b : Nat} (h : (a : Int) = (b : Int)) : a = b := by omega
theorem minN (a b : Nat) : min (a : Int) (b : Int) = ((min a b : Nat) : Int) := by omega
theorem maxN' (a b : Nat) : max (a : Int) (b : Int) = ((max a b : Nat) : Int) := by omega
theorem cardsD_ok (dc : List Nat) : 1 ≤ (cardsD dc).length ∧ (cardsD dc).length ≤ 4 ∧ ∀ c ∈ cardsD dc, 1 ≤ c ∧ c ≤ 3 := by
  unfold cardsD
  split
  · refine ⟨by decide, by decide, fun c hc => ?_⟩
    rw [List.mem_singleton] at hc
    omega
  · refine ⟨?_, ?_, fun c hc => ?_⟩
    · rw [cardsQ, List.length_map, List.length_take]; omega
    · rw [cardsQ, List.length_map, List.length_take]; omega
    · obtain ⟨x, _, rfl⟩ := List.mem_map.1 hc
      omega
theorem isR_len (v k : Nat) : (isR v k).length = k := by rw [isR, List.length_map, List.length_range]
theorem isR_succ (v k : Nat) : isR v (k + 1) = isR v k ++ [((2 : Int), (v : Int), ((k : Nat) : Int), (0 : Int), ([] : List Int))] := by
  rw [isR, isR, List.range_succ, List.map_append]; rfl
theorem isL_len {cs : List Int} (h : ∀ c ∈ cs, 1 ≤ c ∧ c ≤ 3) : ∀ v, v ≤ cs.length → v ≤ (isL cs v).length ∧ (isL cs v).length ≤ 3 * v
  | 0, _ => ⟨Nat.le_refl _, Nat.le_refl _⟩
  | v + 1, hv => by
    have h1 := isL_len h v (by omega)
    have h2 := h _ (getD_mem (d := 0) (show v < cs.length by omega))
    rw [isL, List.length_append, isR_len]
    omega
theorem gatesQ_snoc (unit : Int) (g0 : List Gate) (dg : List Q4) (q : Q4) : gatesQ unit g0 (dg ++ [q]) = gatesQ unit g0 dg ++ [gateQ unit (gatesQ unit g0 dg).length q] := by simp [gatesQ]
theorem gatesQ_len (unit : Int) (g0 : List Gate) : ∀ dg : List Q4, (gatesQ unit g0 dg).length = g0.length + dg.length := by
  intro dg
  unfold gatesQ
  induction dg generalizing g0 with
  | nil => rfl
  | cons q dg ih => rw [List.foldl_cons, ih]; simp; omega
theorem draft_fn (dc : List Nat) (dg : List Q4) (big : Bool) (hdc : ∀ c ∈ dc, c ≤ 255) (hdg : ∀ q ∈ dg, q.1 ≤ 255 ∧ q.2.1 ≤ 255 ∧ q.2.2.1 ≤ 255 ∧ q.2.2.2 ≤ 255) (hl : dc.length ≤ 9223372036854775807) (hl2 : dg.length ≤ 9223372036854775807) :
    Fw.Fn Try.prog 24 [.agg [.dat .old (.i .u8) dc, .dat .old a4T dg, .val (.bool big)]] [] (.agg [.dat .fr (.i .i64) (cardsD dc), .dat .fr gT (gatesD dc dg big)]) [] := by
  refine fnR_go env_ok mixed Try.func24 (c := Try.f24.body.get rfl) rfl (by kernel_rfl) [] [] [] rfl ?_
  repeat' first | apply And.intro | (intro h; (cases h; done)) | intro _ | exact True.intro | (show Region.lexB _ _ = true; kernel_rfl)
  refine ⟨loopI (fun j : Nat => { n := 140, t := [(1, .ptr 0 0), (2, .ptr 1 0), (3, .ptr 2 0), (4, .val (.int .i64 j))], h := [(0, some (.cells [.dat .old (.i .u8) dc, .dat .old a4T dg, .val (.bool big)])), (1, some (.cells [.nil (.i .i64), .nil gT])), (2, some (.cells [.own 3, .nil gT])), (3, some (.arr .fr (.i .i64) (cardsQ dc j)))], nx := 4 }) (fun j => 4 - j) (fun j => Ok (j ≤ 4 ∧ j ≤ dc.length)),
    loopI.start 0 [1003] [1, 2, 3, 4] [(1, []), (2, []), (3, []), (3, [0])] .fr (by (repeat' first | apply And.intro | rfl); exact ⟨Nat.zero_le _, Nat.zero_le _⟩), ?_⟩
  rintro _ _ ⟨j, rfl, rfl, ⟨hj, hj2⟩⟩
  have hql : (cardsQ dc j).length = j := by rw [cardsQ, List.length_map, List.length_take]; omega
  have hqs : ∀ h : j < dc.length, cardsQ dc (j + 1) = cardsQ dc j ++ [1 + ((dc.getD j 0 % 3 : Nat) : Int)] := fun h => by rw [cardsQ, take_step h, List.map_append, getD_lt h]; rfl
  by_cases hlt : j < 4 ∧ j < dc.length
  · have hc := hdc _ (getD_mem (d := 0) hlt.2)
    have hq := hqs hlt.2
    repeat' first | apply And.intro | (intro h; (cases h; done)) | (intro h; exfalso; simp only [decT, decF, beq_iff_eq, beq_eq_false_iff_ne, ne_eq, Int.toNat_natCast] at h; (try dsimp only [D, IK, dz, gT] at h); first | omega | exact absurd h (by assumption) | exact h (by assumption)) | intro _ | exact True.intro | (show Region.lexB _ _ = true; kernel_rfl) | refine loopI.next (j + 1) [] [1, 2, 3, 4] [(1, []), (2, []), (3, []), (3, [0])] .fr ?_
    all_goals (try simp only [decT, decF, beq_iff_eq, bne_iff_ne, ne_eq, beq_eq_false_iff_ne, bne_eq_false_iff_eq, Decidable.not_not, Int.toNat_natCast, Bool.not_eq_true', Bool.not_eq_false', Bool.not_eq_true, Bool.not_eq_false, Int.not_lt, Int.not_le] at *; try dsimp only [D, IK, dz] at *)
    all_goals try simp only [hql, List.length_cons, List.length_nil]
    all_goals first | omega | rfl | exact hq.symm | exact ⟨by omega, by omega⟩
  · have hcase : (j = dc.length ∧ dc.length = 0) ∨ (j = dc.length ∧ 1 ≤ dc.length) ∨ (j < dc.length ∧ j = 4) := by omega
    rcases hcase with ⟨d1, d2⟩ | ⟨d1, d2⟩ | ⟨d1, d2⟩
    · have hcs : cardsD dc = [2] := if_pos d2
      repeat' first | apply And.intro | (intro h; (cases h; done)) | (intro h; exfalso; simp only [decT, decF, beq_iff_eq, beq_eq_false_iff_ne, ne_eq, Int.toNat_natCast] at h; (try dsimp only [D, IK, dz, gT] at h); first | omega | exact absurd h (by assumption) | exact h (by assumption)) | intro _ | exact True.intro | (show Region.lexB _ _ = true; kernel_rfl)
      (all_goals try ((first | (show (_ : Int) ≤ _) | (show (_ : Int) < _) | (show (_ : Nat) ≤ _) | (show (_ : Nat) < _)); (try simp only [Int.toNat_natCast, List.length_cons, List.length_nil, umax64]); (try dsimp only [D, IK, dz, gT]); omega))
      refine ⟨loopI (fun v : Nat => { n := 140, t := [(1, .ptr 0 0), (2, .ptr 1 0), (3, .ptr 2 0), (5, .val (.int .i64 v))], h := [(0, some (.cells [.dat .old (.i .u8) dc, .dat .old a4T dg, .val (.bool big)])), (1, some (.cells [.nil (.i .i64), .nil gT])), (2, some (.cells [.own 3, .own 4])), (3, some (.arr .fr (.i .i64) (cardsD dc))), (4, some (.arr .fr gT (isL (cardsD dc) v)))], nx := 5 }) (fun v => (cardsD dc).length - v) (fun v => Ok (v ≤ (cardsD dc).length)),
        loopI.start 0 [2003] [1, 2, 3, 5] [(1, []), (2, []), (3, []), (3, [0]), (3, [1])] .fr (by (repeat' first | apply And.intro | rfl) <;> first | exact hcs.symm | exact ⟨Nat.zero_le _⟩), ?_⟩
      clear hlt hql hqs hcs d1 d2
      obtain ⟨c1, c2, c3⟩ := cardsD_ok dc
      obtain ⟨cs, hcs⟩ : ∃ cs, cs = cardsD dc := ⟨_, rfl⟩
      rintro _ _ ⟨v, rfl, rfl, ⟨hv⟩⟩
      rw [← hcs] at c1 c2 c3 hv
      have hgd : gatesD dc dg big = gatesQ (unitQ big) (isL cs cs.length) (dg.take 30) := by rw [gatesD, ← hcs]
      rw [hgd, ← hcs]
      have hil := isL_len c3 v hv
      by_cases hvl : v < cs.length
      · have hcv := c3 _ (getD_mem (d := 0) hvl)
        repeat' first | apply And.intro | (intro h; (cases h; done)) | (intro h; exfalso; simp only [decT, decF, beq_iff_eq, beq_eq_false_iff_ne, ne_eq, Int.toNat_natCast] at h; (try dsimp only [D, IK, dz, gT] at h); first | omega | exact absurd h (by assumption) | exact h (by assumption)) | intro _ | exact True.intro | (show Region.lexB _ _ = true; kernel_rfl)
        (all_goals try ((first | (show (_ : Int) ≤ _) | (show (_ : Int) < _) | (show (_ : Nat) ≤ _) | (show (_ : Nat) < _)); (try simp only [Int.toNat_natCast, List.length_cons, List.length_nil, umax64]); (try dsimp only [D, IK, dz, gT]); omega))
        refine ⟨loopI (fun x : Nat => { n := 140, t := [(1, .ptr 0 0), (2, .ptr 1 0), (3, .ptr 2 0), (5, .val (.int .i64 v)), (6, .val (.int .i64 x))], h := [(0, some (.cells [.dat .old (.i .u8) dc, .dat .old a4T dg, .val (.bool big)])), (1, some (.cells [.nil (.i .i64), .nil gT])), (2, some (.cells [.own 3, .own 4])), (3, some (.arr .fr (.i .i64) cs)), (4, some (.arr .fr gT (isL cs v ++ isR v x)))], nx := 5 }) (fun x => (cs.getD v 0).toNat - x) (fun x => Ok (x ≤ (cs.getD v 0).toNat)),
          loopI.start 0 [] [1, 2, 3, 5, 6] [(1, []), (2, []), (3, []), (3, [0]), (3, [1])] .fr (by rw [hcs]; (repeat' first | apply And.intro | rfl) <;> first | exact (List.append_nil _).symm | exact ⟨Nat.zero_le _⟩), ?_⟩
        rintro _ _ ⟨x, rfl, rfl, ⟨hx⟩⟩
        have hrl := isR_len v x
        by_cases hxl : x < (cs.getD v 0).toNat
        · have hrs := isR_succ v x
          repeat' first | apply And.intro | (intro h; (cases h; done)) | (intro h; exfalso; simp only [decT, decF, beq_iff_eq, beq_eq_false_iff_ne, ne_eq, Int.toNat_natCast] at h; (try dsimp only [D, IK, dz, gT] at h); first | omega | exact absurd h (by assumption) | exact h (by assumption)) | intro _ | exact True.intro | (show Region.lexB _ _ = true; kernel_rfl) | refine loopI.next (x + 1) [] [1, 2, 3, 5, 6] [(1, []), (2, []), (3, []), (3, [0]), (3, [1])] .fr ?_
          all_goals (try simp only [decT, decF, beq_iff_eq, bne_iff_ne, ne_eq, beq_eq_false_iff_ne, bne_eq_false_iff_eq, Decidable.not_not, Int.toNat_natCast, Bool.not_eq_true', Bool.not_eq_false', Bool.not_eq_true, Bool.not_eq_false, Int.not_lt, Int.not_le] at *; try dsimp only [D, IK, dz] at *)
          all_goals try simp only [hrl, List.length_append, List.length_cons, List.length_nil]
          all_goals first | omega | rfl | exact ⟨by omega⟩ | (rw [hrs, ← List.append_assoc]; done) | skip
        · have hxe : x = (cs.getD v 0).toNat := by omega
          repeat' first | apply And.intro | (intro h; (cases h; done)) | (intro h; exfalso; simp only [decT, decF, beq_iff_eq, beq_eq_false_iff_ne, ne_eq, Int.toNat_natCast] at h; (try dsimp only [D, IK, dz, gT] at h); first | omega | exact absurd h (by assumption) | exact h (by assumption)) | intro _ | exact True.intro | (show Region.lexB _ _ = true; kernel_rfl) | refine loopI.next (v + 1) [] [1, 2, 3, 5] [(1, []), (2, []), (3, []), (3, [0]), (3, [1])] .fr ?_
          all_goals (try simp only [decT, decF, beq_iff_eq, bne_iff_ne, ne_eq, beq_eq_false_iff_ne, bne_eq_false_iff_eq, Decidable.not_not, Int.toNat_natCast, Bool.not_eq_true', Bool.not_eq_false', Bool.not_eq_true, Bool.not_eq_false, Int.not_lt, Int.not_le] at *; try dsimp only [D, IK, dz] at *)
          all_goals first | omega | rfl | exact ⟨by omega⟩ | (rw [isL, hxe]; done) | skip
      · have hve : v = cs.length := by omega
        repeat' first | apply And.intro | (intro h; (cases h; done)) | (intro h; exfalso; simp only [decT, decF, beq_iff_eq, beq_eq_false_iff_ne, ne_eq, Int.toNat_natCast] at h; (try dsimp only [D, IK, dz, gT] at h); first | omega | exact absurd h (by assumption) | exact h (by assumption)) | intro _ | exact True.intro | (show Region.lexB _ _ = true; kernel_rfl)
        (all_goals try ((first | (show (_ : Int) ≤ _) | (show (_ : Int) < _) | (show (_ : Nat) ≤ _) | (show (_ : Nat) < _)); (try simp only [Int.toNat_natCast, List.length_cons, List.length_nil, umax64]); (try dsimp only [D, IK, dz, gT]); omega))
        clear hvl hv hil
        all_goals refine ⟨loopI (fun k : Nat => { n := 140, t := [(1, .ptr 0 0), (2, .ptr 1 0), (3, .ptr 2 0), (7, .val (.int .i64 (unitQ big))), (8, .val (.int .i64 k))], h := [(0, some (.cells [.dat .old (.i .u8) dc, .dat .old a4T dg, .val (.bool big)])), (1, some (.cells [.nil (.i .i64), .nil gT])), (2, some (.cells [.own 3, .own 4])), (3, some (.arr .fr (.i .i64) cs)), (4, some (.arr .fr gT (gatesQ (unitQ big) (isL cs cs.length) (dg.take k))))], nx := 5 }) (fun k => 30 - k) (fun k => Ok (k ≤ 30 ∧ k ≤ dg.length)),
          loopI.start 0 [] [1, 2, 3, 7, 8] [(1, []), (2, []), (3, []), (3, [0]), (3, [1])] .fr (by rw [hve]; (repeat' first | apply And.intro | rfl) <;> first | (rw [unitQ, if_pos (by assumption)]; done) | (rw [unitQ, if_neg (by simp_all)]; done) | exact ⟨Nat.zero_le _, Nat.zero_le _⟩), ?_⟩
        all_goals rintro _ _ ⟨k, rfl, rfl, ⟨hk, hk2⟩⟩
        all_goals have hil := isL_len c3 cs.length (Nat.le_refl _)
        all_goals have hgl := gatesQ_len (unitQ big) (isL cs cs.length) (dg.take k)
        all_goals rw [List.length_take, Nat.min_eq_left hk2] at hgl
        all_goals have hub : unitQ big = 1 ∨ unitQ big = 100000000000 := by cases big <;> simp [unitQ]
        all_goals (
          by_cases hkl : k < 30 ∧ k < dg.length
          · have hq := hdg _ (getD_mem (d := qz) hkl.2)
            have hgs : gatesQ (unitQ big) (isL cs cs.length) (dg.take (k + 1)) = gatesQ (unitQ big) (isL cs cs.length) (dg.take k) ++ [gateQ (unitQ big) (gatesQ (unitQ big) (isL cs cs.length) (dg.take k)).length (dg.getD k qz)] := by
              rw [take_step hkl.2, gatesQ_snoc, getD_lt hkl.2]
            repeat' first | apply And.intro | (intro h; (cases h; done)) | (intro h; exfalso; simp only [decT, decF, beq_iff_eq, beq_eq_false_iff_ne, ne_eq, Int.toNat_natCast] at h; (try dsimp only [D, IK, dz, gT] at h); first | omega | exact absurd h (by assumption) | exact h (by assumption)) | intro _ | exact True.intro | (show Region.lexB _ _ = true; kernel_rfl) | refine loopI.next (k + 1) [] [1, 2, 3, 7, 8] [(1, []), (2, []), (3, []), (3, [0]), (3, [1])] .fr ?_
            all_goals (try simp only [decT, decF, beq_iff_eq, bne_iff_ne, ne_eq, beq_eq_false_iff_ne, bne_eq_false_iff_eq, Decidable.not_not, Int.toNat_natCast, Bool.not_eq_true', Bool.not_eq_false', Bool.not_eq_true, Bool.not_eq_false, Int.not_lt, Int.not_le] at *; try dsimp only [D, IK, dz] at *)
            all_goals try dsimp only [qz] at *
            all_goals generalize hqq : dg.getD k (0, 0, 0, 0) = q at *
            all_goals generalize hgg : gatesQ (unitQ big) (isL cs cs.length) (dg.take k) = G at *
            all_goals try simp only [show Int.toNat 0 = 0 from rfl, show Int.toNat 1 = 1 from rfl, show Int.toNat 2 = 2 from rfl, List.getD_cons_zero, List.getD_cons_succ, List.length_cons, List.length_nil, List.length_replicate] at *
            all_goals try omega
            all_goals try rfl
            all_goals try simp only [tmodN] at *
            all_goals try exact ⟨by omega, by omega⟩
            all_goals try (rcases hub with h | h <;> rw [h] <;> omega)
            · rw [hgs, gateQ, if_pos (by assumption)]
            · rw [hgs, gateQ, if_neg (by assumption), argsQ, if_pos (eqN (by assumption))]
            · rw [hgs, gateQ, if_neg (by assumption), argsQ, if_neg (fun e => absurd (congrArg Int.ofNat e) (by assumption)), minN, maxN']
          · have hke : dg.take 30 = dg.take k := by
              by_cases h : k < 30
              · rw [List.take_of_length_le (by omega), List.take_of_length_le (by omega)]
              · rw [show k = 30 by omega]
            have hcase : (k = dg.length ∧ k ≤ 30) ∨ (k < dg.length ∧ k = 30) := by omega
            rw [hke]
            rcases hcase with ⟨e1, e2⟩ | ⟨e1, e2⟩
            · repeat' first | apply And.intro | (intro h; (cases h; done)) | (intro h; exfalso; simp only [decT, decF, beq_iff_eq, beq_eq_false_iff_ne, ne_eq, Int.toNat_natCast] at h; (try dsimp only [D, IK, dz, gT] at h); first | omega | exact absurd h (by assumption) | exact h (by assumption)) | intro _ | exact True.intro | (show Region.lexB _ _ = true; kernel_rfl)
              all_goals rfl
            · repeat' first | apply And.intro | (intro h; (cases h; done)) | (intro h; exfalso; simp only [decT, decF, beq_iff_eq, beq_eq_false_iff_ne, ne_eq, Int.toNat_natCast] at h; (try dsimp only [D, IK, dz, gT] at h); first | omega | exact absurd h (by assumption) | exact h (by assumption)) | intro _ | exact True.intro | (show Region.lexB _ _ = true; kernel_rfl)
              (all_goals try ((first | (show (_ : Int) ≤ _) | (show (_ : Int) < _) | (show (_ : Nat) ≤ _) | (show (_ : Nat) < _)); (try simp only [Int.toNat_natCast, List.length_cons, List.length_nil, umax64]); (try dsimp only [D, IK, dz, gT]); omega))
              all_goals rfl)
    · have hcs : cardsD dc = cardsQ dc j := by rw [cardsD, if_neg (by omega), cardsQ, cardsQ, List.take_of_length_le (by omega), List.take_of_length_le (by omega)]
      repeat' first | apply And.intro | (intro h; (cases h; done)) | (intro h; exfalso; simp only [decT, decF, beq_iff_eq, beq_eq_false_iff_ne, ne_eq, Int.toNat_natCast] at h; (try dsimp only [D, IK, dz, gT] at h); first | omega | exact absurd h (by assumption) | exact h (by assumption)) | intro _ | exact True.intro | (show Region.lexB _ _ = true; kernel_rfl)
      (all_goals try ((first | (show (_ : Int) ≤ _) | (show (_ : Int) < _) | (show (_ : Nat) ≤ _) | (show (_ : Nat) < _)); (try simp only [Int.toNat_natCast, List.length_cons, List.length_nil, umax64]); (try dsimp only [D, IK, dz, gT]); omega))
      refine ⟨loopI (fun v : Nat => { n := 140, t := [(1, .ptr 0 0), (2, .ptr 1 0), (3, .ptr 2 0), (5, .val (.int .i64 v))], h := [(0, some (.cells [.dat .old (.i .u8) dc, .dat .old a4T dg, .val (.bool big)])), (1, some (.cells [.nil (.i .i64), .nil gT])), (2, some (.cells [.own 3, .own 4])), (3, some (.arr .fr (.i .i64) (cardsD dc))), (4, some (.arr .fr gT (isL (cardsD dc) v)))], nx := 5 }) (fun v => (cardsD dc).length - v) (fun v => Ok (v ≤ (cardsD dc).length)),
        loopI.start 0 [2003] [1, 2, 3, 5] [(1, []), (2, []), (3, []), (3, [0]), (3, [1])] .fr (by (repeat' first | apply And.intro | rfl) <;> first | exact hcs.symm | exact ⟨Nat.zero_le _⟩), ?_⟩
      clear hlt hql hqs hcs d1 d2
      obtain ⟨c1, c2, c3⟩ := cardsD_ok dc
      obtain ⟨cs, hcs⟩ : ∃ cs, cs = cardsD dc := ⟨_, rfl⟩
      rintro _ _ ⟨v, rfl, rfl, ⟨hv⟩⟩
      rw [← hcs] at c1 c2 c3 hv
      have hgd : gatesD dc dg big = gatesQ (unitQ big) (isL cs cs.length) (dg.take 30) := by rw [gatesD, ← hcs]
      rw [hgd, ← hcs]
      have hil := isL_len c3 v hv
      by_cases hvl : v < cs.length
      · have hcv := c3 _ (getD_mem (d := 0) hvl)
        repeat' first | apply And.intro | (intro h; (cases h; done)) | (intro h; exfalso; simp only [decT, decF, beq_iff_eq, beq_eq_false_iff_ne, ne_eq, Int.toNat_natCast] at h; (try dsimp only [D, IK, dz, gT] at h); first | omega | exact absurd h (by assumption) | exact h (by assumption)) | intro _ | exact True.intro | (show Region.lexB _ _ = true; kernel_rfl)
        (all_goals try ((first | (show (_ : Int) ≤ _) | (show (_ : Int) < _) | (show (_ : Nat) ≤ _) | (show (_ : Nat) < _)); (try simp only [Int.toNat_natCast, List.length_cons, List.length_nil, umax64]); (try dsimp only [D, IK, dz, gT]); omega))
        refine ⟨loopI (fun x : Nat => { n := 140, t := [(1, .ptr 0 0), (2, .ptr 1 0), (3, .ptr 2 0), (5, .val (.int .i64 v)), (6, .val (.int .i64 x))], h := [(0, some (.cells [.dat .old (.i .u8) dc, .dat .old a4T dg, .val (.bool big)])), (1, some (.cells [.nil (.i .i64), .nil gT])), (2, some (.cells [.own 3, .own 4])), (3, some (.arr .fr (.i .i64) cs)), (4, some (.arr .fr gT (isL cs v ++ isR v x)))], nx := 5 }) (fun x => (cs.getD v 0).toNat - x) (fun x => Ok (x ≤ (cs.getD v 0).toNat)),
          loopI.start 0 [] [1, 2, 3, 5, 6] [(1, []), (2, []), (3, []), (3, [0]), (3, [1])] .fr (by rw [hcs]; (repeat' first | apply And.intro | rfl) <;> first | exact (List.append_nil _).symm | exact ⟨Nat.zero_le _⟩), ?_⟩
        rintro _ _ ⟨x, rfl, rfl, ⟨hx⟩⟩
        have hrl := isR_len v x
        by_cases hxl : x < (cs.getD v 0).toNat
        · have hrs := isR_succ v x
          repeat' first | apply And.intro | (intro h; (cases h; done)) | (intro h; exfalso; simp only [decT, decF, beq_iff_eq, beq_eq_false_iff_ne, ne_eq, Int.toNat_natCast] at h; (try dsimp only [D, IK, dz, gT] at h); first | omega | exact absurd h (by assumption) | exact h (by assumption)) | intro _ | exact True.intro | (show Region.lexB _ _ = true; kernel_rfl) | refine loopI.next (x + 1) [] [1, 2, 3, 5, 6] [(1, []), (2, []), (3, []), (3, [0]), (3, [1])] .fr ?_
          all_goals (try simp only [decT, decF, beq_iff_eq, bne_iff_ne, ne_eq, beq_eq_false_iff_ne, bne_eq_false_iff_eq, Decidable.not_not, Int.toNat_natCast, Bool.not_eq_true', Bool.not_eq_false', Bool.not_eq_true, Bool.not_eq_false, Int.not_lt, Int.not_le] at *; try dsimp only [D, IK, dz] at *)
          all_goals try simp only [hrl, List.length_append, List.length_cons, List.length_nil]
          all_goals first | omega | rfl | exact ⟨by omega⟩ | (rw [hrs, ← List.append_assoc]; done) | skip
        · have hxe : x = (cs.getD v 0).toNat := by omega
          repeat' first | apply And.intro | (intro h; (cases h; done)) | (intro h; exfalso; simp only [decT, decF, beq_iff_eq, beq_eq_false_iff_ne, ne_eq, Int.toNat_natCast] at h; (try dsimp only [D, IK, dz, gT] at h); first | omega | exact absurd h (by assumption) | exact h (by assumption)) | intro _ | exact True.intro | (show Region.lexB _ _ = true; kernel_rfl) | refine loopI.next (v + 1) [] [1, 2, 3, 5] [(1, []), (2, []), (3, []), (3, [0]), (3, [1])] .fr ?_
          all_goals (try simp only [decT, decF, beq_iff_eq, bne_iff_ne, ne_eq, beq_eq_false_iff_ne, bne_eq_false_iff_eq, Decidable.not_not, Int.toNat_natCast, Bool.not_eq_true', Bool.not_eq_false', Bool.not_eq_true, Bool.not_eq_false, Int.not_lt, Int.not_le] at *; try dsimp only [D, IK, dz] at *)
          all_goals first | omega | rfl | exact ⟨by omega⟩ | (rw [isL, hxe]; done) | skip
      · have hve : v = cs.length := by omega
        repeat' first | apply And.intro | (intro h; (cases h; done)) | (intro h; exfalso; simp only [decT, decF, beq_iff_eq, beq_eq_false_iff_ne, ne_eq, Int.toNat_natCast] at h; (try dsimp only [D, IK, dz, gT] at h); first | omega | exact absurd h (by assumption) | exact h (by assumption)) | intro _ | exact True.intro | (show Region.lexB _ _ = true; kernel_rfl)
        (all_goals try ((first | (show (_ : Int) ≤ _) | (show (_ : Int) < _) | (show (_ : Nat) ≤ _) | (show (_ : Nat) < _)); (try simp only [Int.toNat_natCast, List.length_cons, List.length_nil, umax64]); (try dsimp only [D, IK, dz, gT]); omega))
        clear hvl hv hil
        all_goals refine ⟨loopI (fun k : Nat => { n := 140, t := [(1, .ptr 0 0), (2, .ptr 1 0), (3, .ptr 2 0), (7, .val (.int .i64 (unitQ big))), (8, .val (.int .i64 k))], h := [(0, some (.cells [.dat .old (.i .u8) dc, .dat .old a4T dg, .val (.bool big)])), (1, some (.cells [.nil (.i .i64), .nil gT])), (2, some (.cells [.own 3, .own 4])), (3, some (.arr .fr (.i .i64) cs)), (4, some (.arr .fr gT (gatesQ (unitQ big) (isL cs cs.length) (dg.take k))))], nx := 5 }) (fun k => 30 - k) (fun k => Ok (k ≤ 30 ∧ k ≤ dg.length)),
          loopI.start 0 [] [1, 2, 3, 7, 8] [(1, []), (2, []), (3, []), (3, [0]), (3, [1])] .fr (by rw [hve]; (repeat' first | apply And.intro | rfl) <;> first | (rw [unitQ, if_pos (by assumption)]; done) | (rw [unitQ, if_neg (by simp_all)]; done) | exact ⟨Nat.zero_le _, Nat.zero_le _⟩), ?_⟩
        all_goals rintro _ _ ⟨k, rfl, rfl, ⟨hk, hk2⟩⟩
        all_goals have hil := isL_len c3 cs.length (Nat.le_refl _)
        all_goals have hgl := gatesQ_len (unitQ big) (isL cs cs.length) (dg.take k)
        all_goals rw [List.length_take, Nat.min_eq_left hk2] at hgl
        all_goals have hub : unitQ big = 1 ∨ unitQ big = 100000000000 := by cases big <;> simp [unitQ]
        all_goals (
          by_cases hkl : k < 30 ∧ k < dg.length
          · have hq := hdg _ (getD_mem (d := qz) hkl.2)
            have hgs : gatesQ (unitQ big) (isL cs cs.length) (dg.take (k + 1)) = gatesQ (unitQ big) (isL cs cs.length) (dg.take k) ++ [gateQ (unitQ big) (gatesQ (unitQ big) (isL cs cs.length) (dg.take k)).length (dg.getD k qz)] := by
              rw [take_step hkl.2, gatesQ_snoc, getD_lt hkl.2]
            repeat' first | apply And.intro | (intro h; (cases h; done)) | (intro h; exfalso; simp only [decT, decF, beq_iff_eq, beq_eq_false_iff_ne, ne_eq, Int.toNat_natCast] at h; (try dsimp only [D, IK, dz, gT] at h); first | omega | exact absurd h (by assumption) | exact h (by assumption)) | intro _ | exact True.intro | (show Region.lexB _ _ = true; kernel_rfl) | refine loopI.next (k + 1) [] [1, 2, 3, 7, 8] [(1, []), (2, []), (3, []), (3, [0]), (3, [1])] .fr ?_
            all_goals (try simp only [decT, decF, beq_iff_eq, bne_iff_ne, ne_eq, beq_eq_false_iff_ne, bne_eq_false_iff_eq, Decidable.not_not, Int.toNat_natCast, Bool.not_eq_true', Bool.not_eq_false', Bool.not_eq_true, Bool.not_eq_false, Int.not_lt, Int.not_le] at *; try dsimp only [D, IK, dz] at *)
            all_goals try dsimp only [qz] at *
            all_goals generalize hqq : dg.getD k (0, 0, 0, 0) = q at *
            all_goals generalize hgg : gatesQ (unitQ big) (isL cs cs.length) (dg.take k) = G at *
            all_goals try simp only [show Int.toNat 0 = 0 from rfl, show Int.toNat 1 = 1 from rfl, show Int.toNat 2 = 2 from rfl, List.getD_cons_zero, List.getD_cons_succ, List.length_cons, List.length_nil, List.length_replicate] at *
            all_goals try omega
            all_goals try rfl
            all_goals try simp only [tmodN] at *
            all_goals try exact ⟨by omega, by omega⟩
            all_goals try (rcases hub with h | h <;> rw [h] <;> omega)
            · rw [hgs, gateQ, if_pos (by assumption)]
            · rw [hgs, gateQ, if_neg (by assumption), argsQ, if_pos (eqN (by assumption))]
            · rw [hgs, gateQ, if_neg (by assumption), argsQ, if_neg (fun e => absurd (congrArg Int.ofNat e) (by assumption)), minN, maxN']
          · have hke : dg.take 30 = dg.take k := by
              by_cases h : k < 30
              · rw [List.take_of_length_le (by omega), List.take_of_length_le (by omega)]
              · rw [show k = 30 by omega]
            have hcase : (k = dg.length ∧ k ≤ 30) ∨ (k < dg.length ∧ k = 30) := by omega
            rw [hke]
            rcases hcase with ⟨e1, e2⟩ | ⟨e1, e2⟩
            · repeat' first | apply And.intro | (intro h; (cases h; done)) | (intro h; exfalso; simp only [decT, decF, beq_iff_eq, beq_eq_false_iff_ne, ne_eq, Int.toNat_natCast] at h; (try dsimp only [D, IK, dz, gT] at h); first | omega | exact absurd h (by assumption) | exact h (by assumption)) | intro _ | exact True.intro | (show Region.lexB _ _ = true; kernel_rfl)
              all_goals rfl
            · repeat' first | apply And.intro | (intro h; (cases h; done)) | (intro h; exfalso; simp only [decT, decF, beq_iff_eq, beq_eq_false_iff_ne, ne_eq, Int.toNat_natCast] at h; (try dsimp only [D, IK, dz, gT] at h); first | omega | exact absurd h (by assumption) | exact h (by assumption)) | intro _ | exact True.intro | (show Region.lexB _ _ = true; kernel_rfl)
              (all_goals try ((first | (show (_ : Int) ≤ _) | (show (_ : Int) < _) | (show (_ : Nat) ≤ _) | (show (_ : Nat) < _)); (try simp only [Int.toNat_natCast, List.length_cons, List.length_nil, umax64]); (try dsimp only [D, IK, dz, gT]); omega))
              all_goals rfl)
    · have hcs : cardsD dc = cardsQ dc j := by rw [cardsD, if_neg (by omega), d2]
      repeat' first | apply And.intro | (intro h; (cases h; done)) | (intro h; exfalso; simp only [decT, decF, beq_iff_eq, beq_eq_false_iff_ne, ne_eq, Int.toNat_natCast] at h; (try dsimp only [D, IK, dz, gT] at h); first | omega | exact absurd h (by assumption) | exact h (by assumption)) | intro _ | exact True.intro | (show Region.lexB _ _ = true; kernel_rfl)
      (all_goals try ((first | (show (_ : Int) ≤ _) | (show (_ : Int) < _) | (show (_ : Nat) ≤ _) | (show (_ : Nat) < _)); (try simp only [Int.toNat_natCast, List.length_cons, List.length_nil, umax64]); (try dsimp only [D, IK, dz, gT]); omega))
      refine ⟨loopI (fun v : Nat => { n := 140, t := [(1, .ptr 0 0), (2, .ptr 1 0), (3, .ptr 2 0), (5, .val (.int .i64 v))], h := [(0, some (.cells [.dat .old (.i .u8) dc, .dat .old a4T dg, .val (.bool big)])), (1, some (.cells [.nil (.i .i64), .nil gT])), (2, some (.cells [.own 3, .own 4])), (3, some (.arr .fr (.i .i64) (cardsD dc))), (4, some (.arr .fr gT (isL (cardsD dc) v)))], nx := 5 }) (fun v => (cardsD dc).length - v) (fun v => Ok (v ≤ (cardsD dc).length)),
        loopI.start 0 [2003] [1, 2, 3, 5] [(1, []), (2, []), (3, []), (3, [0]), (3, [1])] .fr (by (repeat' first | apply And.intro | rfl) <;> first | exact hcs.symm | exact ⟨Nat.zero_le _⟩), ?_⟩
      clear hlt hql hqs hcs d1 d2
      obtain ⟨c1, c2, c3⟩ := cardsD_ok dc
      obtain ⟨cs, hcs⟩ : ∃ cs, cs = cardsD dc := ⟨_, rfl⟩
      rintro _ _ ⟨v, rfl, rfl, ⟨hv⟩⟩
      rw [← hcs] at c1 c2 c3 hv
      have hgd : gatesD dc dg big = gatesQ (unitQ big) (isL cs cs.length) (dg.take 30) := by rw [gatesD, ← hcs]
      rw [hgd, ← hcs]
      have hil := isL_len c3 v hv
      by_cases hvl : v < cs.length
      · have hcv := c3 _ (getD_mem (d := 0) hvl)
        repeat' first | apply And.intro | (intro h; (cases h; done)) | (intro h; exfalso; simp only [decT, decF, beq_iff_eq, beq_eq_false_iff_ne, ne_eq, Int.toNat_natCast] at h; (try dsimp only [D, IK, dz, gT] at h); first | omega | exact absurd h (by assumption) | exact h (by assumption)) | intro _ | exact True.intro | (show Region.lexB _ _ = true; kernel_rfl)
        (all_goals try ((first | (show (_ : Int) ≤ _) | (show (_ : Int) < _) | (show (_ : Nat) ≤ _) | (show (_ : Nat) < _)); (try simp only [Int.toNat_natCast, List.length_cons, List.length_nil, umax64]); (try dsimp only [D, IK, dz, gT]); omega))
        refine ⟨loopI (fun x : Nat => { n := 140, t := [(1, .ptr 0 0), (2, .ptr 1 0), (3, .ptr 2 0), (5, .val (.int .i64 v)), (6, .val (.int .i64 x))], h := [(0, some (.cells [.dat .old (.i .u8) dc, .dat .old a4T dg, .val (.bool big)])), (1, some (.cells [.nil (.i .i64), .nil gT])), (2, some (.cells [.own 3, .own 4])), (3, some (.arr .fr (.i .i64) cs)), (4, some (.arr .fr gT (isL cs v ++ isR v x)))], nx := 5 }) (fun x => (cs.getD v 0).toNat - x) (fun x => Ok (x ≤ (cs.getD v 0).toNat)),
          loopI.start 0 [] [1, 2, 3, 5, 6] [(1, []), (2, []), (3, []), (3, [0]), (3, [1])] .fr (by rw [hcs]; (repeat' first | apply And.intro | rfl) <;> first | exact (List.append_nil _).symm | exact ⟨Nat.zero_le _⟩), ?_⟩
        rintro _ _ ⟨x, rfl, rfl, ⟨hx⟩⟩
        have hrl := isR_len v x
        by_cases hxl : x < (cs.getD v 0).toNat
        · have hrs := isR_succ v x
          repeat' first | apply And.intro | (intro h; (cases h; done)) | (intro h; exfalso; simp only [decT, decF, beq_iff_eq, beq_eq_false_iff_ne, ne_eq, Int.toNat_natCast] at h; (try dsimp only [D, IK, dz, gT] at h); first | omega | exact absurd h (by assumption) | exact h (by assumption)) | intro _ | exact True.intro | (show Region.lexB _ _ = true; kernel_rfl) | refine loopI.next (x + 1) [] [1, 2, 3, 5, 6] [(1, []), (2, []), (3, []), (3, [0]), (3, [1])] .fr ?_
          all_goals (try simp only [decT, decF, beq_iff_eq, bne_iff_ne, ne_eq, beq_eq_false_iff_ne, bne_eq_false_iff_eq, Decidable.not_not, Int.toNat_natCast, Bool.not_eq_true', Bool.not_eq_false', Bool.not_eq_true, Bool.not_eq_false, Int.not_lt, Int.not_le] at *; try dsimp only [D, IK, dz] at *)
          all_goals try simp only [hrl, List.length_append, List.length_cons, List.length_nil]
          all_goals first | omega | rfl | exact ⟨by omega⟩ | (rw [hrs, ← List.append_assoc]; done) | skip
        · have hxe : x = (cs.getD v 0).toNat := by omega
          repeat' first | apply And.intro | (intro h; (cases h; done)) | (intro h; exfalso; simp only [decT, decF, beq_iff_eq, beq_eq_false_iff_ne, ne_eq, Int.toNat_natCast] at h; (try dsimp only [D, IK, dz, gT] at h); first | omega | exact absurd h (by assumption) | exact h (by assumption)) | intro _ | exact True.intro | (show Region.lexB _ _ = true; kernel_rfl) | refine loopI.next (v + 1) [] [1, 2, 3, 5] [(1, []), (2, []), (3, []), (3, [0]), (3, [1])] .fr ?_
          all_goals (try simp only [decT, decF, beq_iff_eq, bne_iff_ne, ne_eq, beq_eq_false_iff_ne, bne_eq_false_iff_eq, Decidable.not_not, Int.toNat_natCast, Bool.not_eq_true', Bool.not_eq_false', Bool.not_eq_true, Bool.not_eq_false, Int.not_lt, Int.not_le] at *; try dsimp only [D, IK, dz] at *)
          all_goals first | omega | rfl | exact ⟨by omega⟩ | (rw [isL, hxe]; done) | skip
      · have hve : v = cs.length := by omega
        repeat' first | apply And.intro | (intro h; (cases h; done)) | (intro h; exfalso; simp only [decT, decF, beq_iff_eq, beq_eq_false_iff_ne, ne_eq, Int.toNat_natCast] at h; (try dsimp only [D, IK, dz, gT] at h); first | omega | exact absurd h (by assumption) | exact h (by assumption)) | intro _ | exact True.intro | (show Region.lexB _ _ = true; kernel_rfl)
        (all_goals try ((first | (show (_ : Int) ≤ _) | (show (_ : Int) < _) | (show (_ : Nat) ≤ _) | (show (_ : Nat) < _)); (try simp only [Int.toNat_natCast, List.length_cons, List.length_nil, umax64]); (try dsimp only [D, IK, dz, gT]); omega))
        clear hvl hv hil
        all_goals refine ⟨loopI (fun k : Nat => { n := 140, t := [(1, .ptr 0 0), (2, .ptr 1 0), (3, .ptr 2 0), (7, .val (.int .i64 (unitQ big))), (8, .val (.int .i64 k))], h := [(0, some (.cells [.dat .old (.i .u8) dc, .dat .old a4T dg, .val (.bool big)])), (1, some (.cells [.nil (.i .i64), .nil gT])), (2, some (.cells [.own 3, .own 4])), (3, some (.arr .fr (.i .i64) cs)), (4, some (.arr .fr gT (gatesQ (unitQ big) (isL cs cs.length) (dg.take k))))], nx := 5 }) (fun k => 30 - k) (fun k => Ok (k ≤ 30 ∧ k ≤ dg.length)),
          loopI.start 0 [] [1, 2, 3, 7, 8] [(1, []), (2, []), (3, []), (3, [0]), (3, [1])] .fr (by rw [hve]; (repeat' first | apply And.intro | rfl) <;> first | (rw [unitQ, if_pos (by assumption)]; done) | (rw [unitQ, if_neg (by simp_all)]; done) | exact ⟨Nat.zero_le _, Nat.zero_le _⟩), ?_⟩
        all_goals rintro _ _ ⟨k, rfl, rfl, ⟨hk, hk2⟩⟩
        all_goals have hil := isL_len c3 cs.length (Nat.le_refl _)
        all_goals have hgl := gatesQ_len (unitQ big) (isL cs cs.length) (dg.take k)
        all_goals rw [List.length_take, Nat.min_eq_left hk2] at hgl
        all_goals have hub : unitQ big = 1 ∨ unitQ big = 100000000000 := by cases big <;> simp [unitQ]
        all_goals (
          by_cases hkl : k < 30 ∧ k < dg.length
          · have hq := hdg _ (getD_mem (d := qz) hkl.2)
            have hgs : gatesQ (unitQ big) (isL cs cs.length) (dg.take (k + 1)) = gatesQ (unitQ big) (isL cs cs.length) (dg.take k) ++ [gateQ (unitQ big) (gatesQ (unitQ big) (isL cs cs.length) (dg.take k)).length (dg.getD k qz)] := by
              rw [take_step hkl.2, gatesQ_snoc, getD_lt hkl.2]
            repeat' first | apply And.intro | (intro h; (cases h; done)) | (intro h; exfalso; simp only [decT, decF, beq_iff_eq, beq_eq_false_iff_ne, ne_eq, Int.toNat_natCast] at h; (try dsimp only [D, IK, dz, gT] at h); first | omega | exact absurd h (by assumption) | exact h (by assumption)) | intro _ | exact True.intro | (show Region.lexB _ _ = true; kernel_rfl) | refine loopI.next (k + 1) [] [1, 2, 3, 7, 8] [(1, []), (2, []), (3, []), (3, [0]), (3, [1])] .fr ?_
            all_goals (try simp only [decT, decF, beq_iff_eq, bne_iff_ne, ne_eq, beq_eq_false_iff_ne, bne_eq_false_iff_eq, Decidable.not_not, Int.toNat_natCast, Bool.not_eq_true', Bool.not_eq_false', Bool.not_eq_true, Bool.not_eq_false, Int.not_lt, Int.not_le] at *; try dsimp only [D, IK, dz] at *)
            all_goals try dsimp only [qz] at *
            all_goals generalize hqq : dg.getD k (0, 0, 0, 0) = q at *
            all_goals generalize hgg : gatesQ (unitQ big) (isL cs cs.length) (dg.take k) = G at *
            all_goals try simp only [show Int.toNat 0 = 0 from rfl, show Int.toNat 1 = 1 from rfl, show Int.toNat 2 = 2 from rfl, List.getD_cons_zero, List.getD_cons_succ, List.length_cons, List.length_nil, List.length_replicate] at *
            all_goals try omega
            all_goals try rfl
            all_goals try simp only [tmodN] at *
            all_goals try exact ⟨by omega, by omega⟩
            all_goals try (rcases hub with h | h <;> rw [h] <;> omega)
            · rw [hgs, gateQ, if_pos (by assumption)]
            · rw [hgs, gateQ, if_neg (by assumption), argsQ, if_pos (eqN (by assumption))]
            · rw [hgs, gateQ, if_neg (by assumption), argsQ, if_neg (fun e => absurd (congrArg Int.ofNat e) (by assumption)), minN, maxN']
          · have hke : dg.take 30 = dg.take k := by
              by_cases h : k < 30
              · rw [List.take_of_length_le (by omega), List.take_of_length_le (by omega)]
              · rw [show k = 30 by omega]
            have hcase : (k = dg.length ∧ k ≤ 30) ∨ (k < dg.length ∧ k = 30) := by omega
            rw [hke]
            rcases hcase with ⟨e1, e2⟩ | ⟨e1, e2⟩
            · repeat' first | apply And.intro | (intro h; (cases h; done)) | (intro h; exfalso; simp only [decT, decF, beq_iff_eq, beq_eq_false_iff_ne, ne_eq, Int.toNat_natCast] at h; (try dsimp only [D, IK, dz, gT] at h); first | omega | exact absurd h (by assumption) | exact h (by assumption)) | intro _ | exact True.intro | (show Region.lexB _ _ = true; kernel_rfl)
              all_goals rfl
            · repeat' first | apply And.intro | (intro h; (cases h; done)) | (intro h; exfalso; simp only [decT, decF, beq_iff_eq, beq_eq_false_iff_ne, ne_eq, Int.toNat_natCast] at h; (try dsimp only [D, IK, dz, gT] at h); first | omega | exact absurd h (by assumption) | exact h (by assumption)) | intro _ | exact True.intro | (show Region.lexB _ _ = true; kernel_rfl)
              (all_goals try ((first | (show (_ : Int) ≤ _) | (show (_ : Int) < _) | (show (_ : Nat) ≤ _) | (show (_ : Nat) < _)); (try simp only [Int.toNat_natCast, List.length_cons, List.length_nil, umax64]); (try dsimp only [D, IK, dz, gT]); omega))
              all_goals rfl)
end Go.Proofs.Ytbgnnpbcifgckaa
namespace Go.Proofs.Ytbgnnpbcifgckaa
open Go Go.Fw Go.RowKit
set_option maxRecDepth 100000
set_option maxHeartbeats 4000000
def inpV (cards : List Int) (l : List Nat) (v : Nat) : Int := ((l.getD (v % 8) 0 : Nat) : Int).tmod (max (cards.getD v 0) 0 + 1) - 1
def inpF (cards : List Int) (l : List Nat) (j : Nat) : List Int := (List.range j).map (inpV cards l)
theorem inpF_len (cards : List Int) (l : List Nat) (j : Nat) : (inpF cards l j).length = j := by rw [inpF, List.length_map, List.length_range]
theorem inpF_succ (cards : List Int) (l : List Nat) (j : Nat) : inpF cards l (j + 1) = inpF cards l j ++ [inpV cards l j] := by rw [inpF, List.range_succ, List.map_append]; rfl
theorem inputs15_fn (cards : List Int) (l : List Nat) (hl : l.length = 8) (hlb : ∀ x ∈ l, x ≤ 255) (hc : ∀ k ∈ cards, k ≤ 4611686018427387903) (hcl : cards.length ≤ 1000000) :
    Fw.Fn Try.prog 18 [.dat .old (.i .i64) cards, .av .old (.i .u8) l] [] (.own 0) [(0, some (.arr .fr (.i .i64) (inpF cards l cards.length)))] := by
  refine fn_go env_ok mixed Try.func18 (c := Try.f18.body.get rfl) rfl (by kernel_rfl) [(4, [])] rfl ?_
  repeat' first | apply And.intro | (intro h; (cases h; done)) | (intro h; exfalso; simp only [decT, decF, beq_iff_eq, beq_eq_false_iff_ne, ne_eq, Int.toNat_natCast] at h; (try dsimp only [D, IK, dz, gT] at h); first | omega | exact absurd h (by assumption) | exact h (by assumption)) | intro _ | exact True.intro | (show Region.lexB _ _ = true; kernel_rfl)
  (all_goals try ((first | (show (_ : Int) ≤ _) | (show (_ : Int) < _) | (show (_ : Nat) ≤ _) | (show (_ : Nat) < _)); (try simp only [Int.toNat_natCast, List.length_cons, List.length_nil, umax64]); (try dsimp only [D, IK, dz, gT]); omega))
  refine ⟨loopI (fun j : Nat => { n := 30, t := [(3, .ptr 0 0), (5, .own 1), (8, .dat .old (.i .i64) cards), (9, .val (.int .i64 (↑(List.length cards)))), (10, .val (.int .i64 j))], h := [(0, some (.arr .old (.i .u8) l)), (1, some (.arr .fr (.i .i64) (inpF cards l j)))], nx := 2 }) (fun j => cards.length - j) (fun j => Ok (j ≤ cards.length)),
    loopI.start 0 [5] [3, 5, 8, 9, 10] [(3, []), (5, [])] .fr (by (repeat' first | apply And.intro | rfl); exact ⟨Nat.zero_le _⟩), ?_⟩
  rintro _ _ ⟨j, rfl, rfl, ⟨hj⟩⟩
  have hil := inpF_len cards l j
  have his := inpF_succ cards l j
  by_cases hlt : j < cards.length
  · have hk := hc _ (getD_mem (d := 0) hlt)
    have hx : ((j : Int).tmod 8).toNat = j % 8 := rfl
    have hx2 : (j : Int).tmod 8 = ((j % 8 : Nat) : Int) := rfl
    have hb := hlb _ (getD_mem (l := l) (v := j % 8) (d := 0) (by omega))
    have ht1 := Int.tmod_nonneg (max (cards.getD j 0) 0 + 1) (show (0 : Int) ≤ ((l.getD (j % 8) 0 : Nat) : Int) by omega)
    have ht2 := Int.tmod_lt_of_pos ((l.getD (j % 8) 0 : Nat) : Int) (show (0 : Int) < max (cards.getD j 0) 0 + 1 by omega)
    repeat' first | apply And.intro | (intro h; (cases h; done)) | (intro h; exfalso; simp only [decT, decF, beq_iff_eq, beq_eq_false_iff_ne, ne_eq, Int.toNat_natCast] at h; (try dsimp only [D, IK, dz, gT] at h); first | omega | exact absurd h (by assumption) | exact h (by assumption)) | intro _ | exact True.intro | (show Region.lexB _ _ = true; kernel_rfl) | refine loopI.next (j + 1) [] [3, 5, 8, 9, 10] [(3, []), (5, [])] .fr ?_
    all_goals (try simp only [decT, decF, beq_iff_eq, bne_iff_ne, ne_eq, beq_eq_false_iff_ne, bne_eq_false_iff_eq, Decidable.not_not, Int.toNat_natCast, Bool.not_eq_true', Bool.not_eq_false', Bool.not_eq_true, Bool.not_eq_false, Int.not_lt, Int.not_le] at *; try dsimp only [D, IK, dz] at *)
    all_goals try simp only [hx, hx2, Int.toNat_natCast]
    all_goals try simp only [hil, List.length_cons, List.length_nil]
    all_goals first | omega | rfl | exact ⟨by omega⟩ | exact his.symm | exact hl
  · have hje : j = cards.length := by omega
    repeat' first | apply And.intro | (intro h; (cases h; done)) | (intro h; exfalso; simp only [decT, decF, beq_iff_eq, beq_eq_false_iff_ne, ne_eq, Int.toNat_natCast] at h; (try dsimp only [D, IK, dz, gT] at h); first | omega | exact absurd h (by assumption) | exact h (by assumption)) | intro _ | exact True.intro | (show Region.lexB _ _ = true; kernel_rfl)
    (all_goals try ((first | (show (_ : Int) ≤ _) | (show (_ : Int) < _) | (show (_ : Nat) ≤ _) | (show (_ : Nat) < _)); (try simp only [Int.toNat_natCast, List.length_cons, List.length_nil, umax64]); (try dsimp only [D, IK, dz, gT]); omega))
    all_goals first | rfl | rw [hje]
theorem clone_fn (l : List Int) (hl : l.length ≤ 1000000) (hne : l ≠ []) : Fw.Fn Try.prog 26 [.dat .old (.i .i64) l] [] (.own 0) [(0, some (.arr .fr (.i .i64) l))] := by
  refine Fn.fl (hs := [(0, some (.arr .old (.i .i64) l))]) ?_
  refine fnR_go env_ok mixed Try.func26 (c := Try.f26.body.get rfl) rfl (by kernel_rfl) [] [2] [(2, [])] rfl ?_
  repeat' first | apply And.intro | (intro h; (cases h; done)) | (intro h; exfalso; simp only [decT, decF, beq_iff_eq, beq_eq_false_iff_ne, ne_eq, Int.toNat_natCast] at h; (try dsimp only [D, IK, dz, gT] at h); first | omega | exact absurd h (by assumption) | exact h (by assumption)) | intro _ | exact True.intro | (show Region.lexB _ _ = true; kernel_rfl) | (exfalso; apply hne; assumption)
  (all_goals try ((first | (show (_ : Int) ≤ _) | (show (_ : Int) < _) | (show (_ : Nat) ≤ _) | (show (_ : Nat) < _)); (try simp only [Int.toNat_natCast, List.length_cons, List.length_nil, umax64]); (try dsimp only [D, IK, dz, gT]); omega))
  all_goals rfl
end Go.Proofs.Ytbgnnpbcifgckaa
