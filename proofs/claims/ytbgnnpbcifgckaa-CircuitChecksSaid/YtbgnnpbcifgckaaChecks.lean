/- Proved here: the statement CircuitChecks of the seat, whole, under no condition: Check, Kinds and Size agree with the definitions for all circuits. (The function returns true for all drafts, changes and circuits, in every world that the statement speaks of.) -/
import Derived.Test.YtbgnnpbcifgckaaChecks5
set_option linter.all false
namespace Go.Proofs.Ytbgnnpbcifgckaa
open Go Go.Fw Go.RowKit
set_option maxRecDepth 100000
set_option maxHeartbeats 4000000
theorem ref_smooth_in (cards : List Int) (gates : List Gate) (vars : List Nat) (B : Bool) (hv : vars.length = gates.length) (h4 : gates.length ≤ 4000) (hap : ∀ i, i < gates.length → ∀ a ∈ (gates.getD i gz).2.2.2.2, 0 ≤ a ∧ a < i) (hargs : ∀ g ∈ gates, g.2.2.2.2.length ≤ 1000000)
  (hb : ∀ i k, i < gates.length → k < (gates.getD i gz).2.2.2.2.length → (gates.getD i gz).1 = 3 → ¬ vars.getD ((gates.getD i gz).2.2.2.2.getD k 0).toNat 0 = vars.getD i 0 → B = false)
  (hgd : (∀ i k, i < gates.length → k < (gates.getD i gz).2.2.2.2.length → (gates.getD i gz).1 = 3 → vars.getD ((gates.getD i gz).2.2.2.2.getD k 0).toNat 0 = vars.getD i 0) → B = true)
  (hV : Fw.Fn Try.prog 25 [.agg [.dat .old (.i .i64) cards, .dat .old gT gates]] [] (.dat .fr (.i .u64) vars) []) :
    Fw.Fn Try.prog 15 [.agg [.dat .old (.i .i64) cards, .dat .old gT gates]] [] (.val (.bool B)) [] := by
  refine fn_go env_ok mixed Try.func15 (c := Try.f15.body.get rfl) rfl (by kernel_rfl) [] rfl ?_
  repeat' first | apply And.intro | (intro h; (cases h; done)) | (intro h; exfalso; simp only [decT, decF, beq_iff_eq, beq_eq_false_iff_ne, ne_eq, Int.toNat_natCast] at h; (try dsimp only [D, IK, dz, gT] at h); first | omega | exact absurd h (by assumption) | exact h (by assumption)) | intro _ | exact True.intro | (show Region.lexB _ _ = true; kernel_rfl) | refine CallK.fn [] hV rfl rfl rfl rfl rfl trivial ?_
  (all_goals try ((first | (show (_ : Int) ≤ _) | (show (_ : Int) < _) | (show (_ : Nat) ≤ _) | (show (_ : Nat) < _)); (try simp only [Int.toNat_natCast, List.length_cons, List.length_nil, umax64]); (try dsimp only [D, IK, dz, gT]); omega))
  refine ⟨loopI (fun i : Nat => { n := 52, t := [(1, .ptr 0 0), (3, .dat .fr (.i .u64) vars), (4, .val (.int .i64 i))], h := [(0, some (.cells [.dat .old (.i .i64) cards, .dat .old gT gates]))], nx := 1 }) (fun i => gates.length - i) (fun i => Ok (i ≤ gates.length ∧ ∀ i' k, i' < i → k < (gates.getD i' gz).2.2.2.2.length → (gates.getD i' gz).1 = 3 → vars.getD ((gates.getD i' gz).2.2.2.2.getD k 0).toNat 0 = vars.getD i' 0)),
    loopI.start 0 [] [1, 3, 4] [(1, [])] .fr (by (repeat' first | apply And.intro | rfl); exact ⟨Nat.zero_le _, fun i k h => absurd h (Nat.not_lt_zero i)⟩), ?_⟩
  rintro _ _ ⟨i, rfl, rfl, ⟨hi, ho⟩⟩
  by_cases hlt : i < gates.length
  · have hal := hargs _ (getD_mem (d := gz) hlt)
    have hai := hap i hlt
    have hbi := fun k => hb i k hlt
    repeat' first | apply And.intro | (intro h; (cases h; done)) | (intro h; exfalso; simp only [decT, decF, beq_iff_eq, beq_eq_false_iff_ne, ne_eq, Int.toNat_natCast] at h; (try dsimp only [D, IK, dz, gT] at h); first | omega | exact absurd h (by assumption) | exact h (by assumption)) | intro _ | exact True.intro | (show Region.lexB _ _ = true; kernel_rfl)
    (all_goals try (show Fw.xRun _ _ _ _ _ _ _ _; exfalso; (try simp only [decT, decF, beq_iff_eq, bne_iff_ne, ne_eq, beq_eq_false_iff_ne, bne_eq_false_iff_eq, Decidable.not_not, Int.toNat_natCast, Bool.not_eq_true', Bool.not_eq_false', Bool.not_eq_true, Bool.not_eq_false, Int.not_lt, Int.not_le] at *); omega))
    (all_goals try ((first | (show (_ : Int) ≤ _) | (show (_ : Int) < _) | (show (_ : Nat) ≤ _) | (show (_ : Nat) < _)); (try simp only [Int.toNat_natCast, List.length_cons, List.length_nil, umax64]); (try dsimp only [D, IK, dz, gT]); omega))
    refine ⟨loopI (fun k : Nat => { n := 52, t := [(1, .ptr 0 0), (3, .dat .fr (.i .u64) vars), (4, .val (.int .i64 i)), (5, .val (.int .i64 k))], h := [(0, some (.cells [.dat .old (.i .i64) cards, .dat .old gT gates]))], nx := 1 }) (fun k => (gates.getD i gz).2.2.2.2.length - k) (fun k => Ok (k ≤ (gates.getD i gz).2.2.2.2.length ∧ ∀ k', k' < k → (gates.getD i gz).1 = 3 → vars.getD ((gates.getD i gz).2.2.2.2.getD k' 0).toNat 0 = vars.getD i 0)),
      loopI.start 0 [] [1, 3, 4, 5] [(1, [])] .fr (by (repeat' first | apply And.intro | rfl); exact ⟨Nat.zero_le _, fun k h => absurd h (Nat.not_lt_zero k)⟩), ?_⟩
    rintro _ _ ⟨k, rfl, rfl, ⟨hk, hko⟩⟩
    by_cases hkl : k < (gates.getD i gz).2.2.2.2.length
    · have hak := hai _ (getD_mem (d := 0) hkl)
      have hbk := hbi k hkl
      have hso := all_step (P := fun k => (gates.getD i gz).1 = 3 → vars.getD ((gates.getD i gz).2.2.2.2.getD k 0).toNat 0 = vars.getD i 0) hko
      dsimp only [gz] at hak hbk hso hkl hal
      repeat' first | apply And.intro | (intro h; (cases h; done)) | (intro h; exfalso; simp only [decT, decF, beq_iff_eq, beq_eq_false_iff_ne, ne_eq, Int.toNat_natCast] at h; (try dsimp only [D, IK, dz, gT] at h); first | omega | exact absurd h (by assumption) | exact h (by assumption)) | intro _ | exact True.intro | (show Region.lexB _ _ = true; kernel_rfl) | refine loopI.next (k + 1) [] [1, 3, 4, 5] [(1, [])] .fr ?_
      (all_goals try ((first | (show (_ : Int) ≤ _) | (show (_ : Int) < _) | (show (_ : Nat) ≤ _) | (show (_ : Nat) < _)); (try simp only [Int.toNat_natCast, List.length_cons, List.length_nil, umax64]); (try dsimp only [D, IK, dz, gT]); omega))
      all_goals (try simp only [decT, decF, beq_iff_eq, bne_iff_ne, ne_eq, beq_eq_false_iff_ne, bne_eq_false_iff_eq, Decidable.not_not, Int.toNat_natCast, Bool.not_eq_true', Bool.not_eq_false', Bool.not_eq_true, Bool.not_eq_false, Int.not_lt, Int.not_le] at *; try dsimp only [D, IK, dz] at *)
      all_goals try dsimp only [gz] at *
      all_goals first | omega | rfl | exact ⟨by omega, hso fun h => absurd h (by assumption)⟩ | exact ⟨by omega, hso fun _ => by assumption⟩ | exact (hbk (by assumption) (by assumption)).symm | skip
    · have hke : k = (gates.getD i gz).2.2.2.2.length := by omega
      dsimp only [gz] at hke hko ho
      repeat' first | apply And.intro | (intro h; (cases h; done)) | (intro h; exfalso; simp only [decT, decF, beq_iff_eq, beq_eq_false_iff_ne, ne_eq, Int.toNat_natCast] at h; (try dsimp only [D, IK, dz, gT] at h); first | omega | exact absurd h (by assumption) | exact h (by assumption)) | intro _ | exact True.intro | (show Region.lexB _ _ = true; kernel_rfl) | refine loopI.next (i + 1) [] [1, 3, 4] [(1, [])] .fr ?_
      (all_goals try (show Fw.xRun _ _ _ _ _ _ _ _; exfalso; (try simp only [decT, decF, beq_iff_eq, bne_iff_ne, ne_eq, beq_eq_false_iff_ne, bne_eq_false_iff_eq, Decidable.not_not, Int.toNat_natCast, Bool.not_eq_true', Bool.not_eq_false', Bool.not_eq_true, Bool.not_eq_false, Int.not_lt, Int.not_le] at *); omega))
      (all_goals try ((first | (show (_ : Int) ≤ _) | (show (_ : Int) < _) | (show (_ : Nat) ≤ _) | (show (_ : Nat) < _)); (try simp only [Int.toNat_natCast, List.length_cons, List.length_nil, umax64]); (try dsimp only [D, IK, dz, gT]); omega))
      all_goals (try simp only [decT, decF, beq_iff_eq, bne_iff_ne, ne_eq, beq_eq_false_iff_ne, bne_eq_false_iff_eq, Decidable.not_not, Int.toNat_natCast, Bool.not_eq_true', Bool.not_eq_false', Bool.not_eq_true, Bool.not_eq_false, Int.not_lt, Int.not_le] at *; try dsimp only [D, IK, dz] at *)
      all_goals first | omega | rfl | skip
      · refine ⟨by omega, fun i' k' h1 h2 h3 => ?_⟩
        by_cases e : i' = i
        · subst e; exact hko k' (by omega) h3
        · exact ho i' k' (by omega) h2 h3
  · have hB := hgd fun i' k h1 => ho i' k (by omega)
    repeat' first | apply And.intro | (intro h; (cases h; done)) | (intro h; exfalso; simp only [decT, decF, beq_iff_eq, beq_eq_false_iff_ne, ne_eq, Int.toNat_natCast] at h; (try dsimp only [D, IK, dz, gT] at h); first | omega | exact absurd h (by assumption) | exact h (by assumption)) | intro _ | exact True.intro | (show Region.lexB _ _ = true; kernel_rfl)
    (all_goals try (show Fw.xRun _ _ _ _ _ _ _ _; exfalso; (try simp only [decT, decF, beq_iff_eq, bne_iff_ne, ne_eq, beq_eq_false_iff_ne, bne_eq_false_iff_eq, Decidable.not_not, Int.toNat_natCast, Bool.not_eq_true', Bool.not_eq_false', Bool.not_eq_true, Bool.not_eq_false, Int.not_lt, Int.not_le] at *); omega))
    (all_goals try ((first | (show (_ : Int) ≤ _) | (show (_ : Int) < _) | (show (_ : Nat) ≤ _) | (show (_ : Nat) < _)); (try simp only [Int.toNat_natCast, List.length_cons, List.length_nil, umax64]); (try dsimp only [D, IK, dz, gT]); omega))
    all_goals exact hB.symm
theorem ref_decomp_in (cards : List Int) (gates : List Gate) (vars : List Nat) (B : Bool) (hv : vars.length = gates.length) (hvl : ∀ x ∈ vars, x < 256) (h4 : gates.length ≤ 4000) (hap : ∀ i, i < gates.length → ∀ a ∈ (gates.getD i gz).2.2.2.2, 0 ≤ a ∧ a < i) (hargs : ∀ g ∈ gates, g.2.2.2.2.length ≤ 1000000)
  (hb : ∀ i k j, i < gates.length → k < (gates.getD i gz).2.2.2.2.length → j < k → (gates.getD i gz).1 = 4 → ¬ (vars.getD ((gates.getD i gz).2.2.2.2.getD k 0).toNat 0 &&& vars.getD ((gates.getD i gz).2.2.2.2.getD j 0).toNat 0) = 0 → B = false)
  (hgd : (∀ i k j, i < gates.length → k < (gates.getD i gz).2.2.2.2.length → j < k → (gates.getD i gz).1 = 4 → (vars.getD ((gates.getD i gz).2.2.2.2.getD k 0).toNat 0 &&& vars.getD ((gates.getD i gz).2.2.2.2.getD j 0).toNat 0) = 0) → B = true)
  (hV : Fw.Fn Try.prog 25 [.agg [.dat .old (.i .i64) cards, .dat .old gT gates]] [] (.dat .fr (.i .u64) vars) []) :
    Fw.Fn Try.prog 16 [.agg [.dat .old (.i .i64) cards, .dat .old gT gates]] [] (.val (.bool B)) [] := by
  refine fn_go env_ok mixed Try.func16 (c := Try.f16.body.get rfl) rfl (by kernel_rfl) [] rfl ?_
  repeat' first | apply And.intro | (intro h; (cases h; done)) | (intro h; exfalso; simp only [decT, decF, beq_iff_eq, beq_eq_false_iff_ne, ne_eq, Int.toNat_natCast] at h; (try dsimp only [D, IK, dz, gT] at h); first | omega | exact absurd h (by assumption) | exact h (by assumption)) | intro _ | exact True.intro | (show Region.lexB _ _ = true; kernel_rfl) | refine CallK.fn [] hV rfl rfl rfl rfl rfl trivial ?_
  (all_goals try ((first | (show (_ : Int) ≤ _) | (show (_ : Int) < _) | (show (_ : Nat) ≤ _) | (show (_ : Nat) < _)); (try simp only [Int.toNat_natCast, List.length_cons, List.length_nil, umax64]); (try dsimp only [D, IK, dz, gT]); omega))
  refine ⟨loopI (fun i : Nat => { n := 59, t := [(1, .ptr 0 0), (3, .dat .fr (.i .u64) vars), (4, .val (.int .i64 i))], h := [(0, some (.cells [.dat .old (.i .i64) cards, .dat .old gT gates]))], nx := 1 }) (fun i => gates.length - i) (fun i => Ok (i ≤ gates.length ∧ ∀ i' k j, i' < i → k < (gates.getD i' gz).2.2.2.2.length → j < k → (gates.getD i' gz).1 = 4 → (vars.getD ((gates.getD i' gz).2.2.2.2.getD k 0).toNat 0 &&& vars.getD ((gates.getD i' gz).2.2.2.2.getD j 0).toNat 0) = 0)),
    loopI.start 0 [] [1, 3, 4] [(1, [])] .fr (by (repeat' first | apply And.intro | rfl); exact ⟨Nat.zero_le _, fun i k j h => absurd h (Nat.not_lt_zero i)⟩), ?_⟩
  rintro _ _ ⟨i, rfl, rfl, ⟨hi, ho⟩⟩
  by_cases hlt : i < gates.length
  · have hal := hargs _ (getD_mem (d := gz) hlt)
    have hai := hap i hlt
    have hbi := fun k j => hb i k j hlt
    repeat' first | apply And.intro | (intro h; (cases h; done)) | (intro h; exfalso; simp only [decT, decF, beq_iff_eq, beq_eq_false_iff_ne, ne_eq, Int.toNat_natCast] at h; (try dsimp only [D, IK, dz, gT] at h); first | omega | exact absurd h (by assumption) | exact h (by assumption)) | intro _ | exact True.intro | (show Region.lexB _ _ = true; kernel_rfl)
    (all_goals try (show Fw.xRun _ _ _ _ _ _ _ _; exfalso; (try simp only [decT, decF, beq_iff_eq, bne_iff_ne, ne_eq, beq_eq_false_iff_ne, bne_eq_false_iff_eq, Decidable.not_not, Int.toNat_natCast, Bool.not_eq_true', Bool.not_eq_false', Bool.not_eq_true, Bool.not_eq_false, Int.not_lt, Int.not_le] at *); omega))
    (all_goals try ((first | (show (_ : Int) ≤ _) | (show (_ : Int) < _) | (show (_ : Nat) ≤ _) | (show (_ : Nat) < _)); (try simp only [Int.toNat_natCast, List.length_cons, List.length_nil, umax64]); (try dsimp only [D, IK, dz, gT]); omega))
    obtain ⟨g, hg⟩ : ∃ g, g = gates.getD i gz := ⟨_, rfl⟩
    refine ⟨loopI (fun k : Nat => { n := 59, t := [(1, .ptr 0 0), (3, .dat .fr (.i .u64) vars), (4, .val (.int .i64 i)), (5, .dat .old (.i .i64) g.2.2.2.2), (6, .val (.int .i64 k))], h := [(0, some (.cells [.dat .old (.i .i64) cards, .dat .old gT gates]))], nx := 1 }) (fun k => g.2.2.2.2.length - k) (fun k => Ok (k ≤ g.2.2.2.2.length ∧ ∀ k', k' < k → ∀ j, j < k' → g.1 = 4 → (vars.getD (g.2.2.2.2.getD k' 0).toNat 0 &&& vars.getD (g.2.2.2.2.getD j 0).toNat 0) = 0)),
      loopI.start 0 [] [1, 3, 4, 5, 6] [(1, [])] .fr (by rw [hg]; (repeat' first | apply And.intro | rfl); exact ⟨Nat.zero_le _, fun k h => absurd h (Nat.not_lt_zero k)⟩), ?_⟩
    rw [← hg] at hal hai hbi
    have hg1 : ∀ z, z = (gates.getD i gz).1 → z = g.1 := fun z h => by rw [hg, h]
    rintro _ _ ⟨k, rfl, rfl, ⟨hk, hko⟩⟩
    by_cases hkl : k < g.2.2.2.2.length
    · have hak := hai _ (getD_mem (d := 0) hkl)
      have hbk := fun j => hbi k j hkl
      have hso := all_step (P := fun k => ∀ j, j < k → g.1 = 4 → (vars.getD (g.2.2.2.2.getD k 0).toNat 0 &&& vars.getD (g.2.2.2.2.getD j 0).toNat 0) = 0) hko
      repeat' first | apply And.intro | (intro h; (cases h; done)) | (intro h; exfalso; simp only [decT, decF, beq_iff_eq, beq_eq_false_iff_ne, ne_eq, Int.toNat_natCast] at h; (try dsimp only [D, IK, dz, gT] at h); first | omega | exact absurd h (by assumption) | exact h (by assumption)) | intro _ | exact True.intro | (show Region.lexB _ _ = true; kernel_rfl)
      (all_goals try (show Fw.xRun _ _ _ _ _ _ _ _; exfalso; (try simp only [decT, decF, beq_iff_eq, bne_iff_ne, ne_eq, beq_eq_false_iff_ne, bne_eq_false_iff_eq, Decidable.not_not, Int.toNat_natCast, Bool.not_eq_true', Bool.not_eq_false', Bool.not_eq_true, Bool.not_eq_false, Int.not_lt, Int.not_le] at *); omega))
      (all_goals try ((first | (show (_ : Int) ≤ _) | (show (_ : Int) < _) | (show (_ : Nat) ≤ _) | (show (_ : Nat) < _)); (try simp only [Int.toNat_natCast, List.length_cons, List.length_nil, umax64]); (try dsimp only [D, IK, dz, gT]); omega))
      refine ⟨loopI (fun j : Nat => { n := 59, t := [(1, .ptr 0 0), (3, .dat .fr (.i .u64) vars), (4, .val (.int .i64 i)), (5, .dat .old (.i .i64) g.2.2.2.2), (6, .val (.int .i64 k)), (7, .val (.int .i64 j))], h := [(0, some (.cells [.dat .old (.i .i64) cards, .dat .old gT gates]))], nx := 1 }) (fun j => k - j) (fun j => Ok (j ≤ k ∧ ∀ j', j' < j → g.1 = 4 → (vars.getD (g.2.2.2.2.getD k 0).toNat 0 &&& vars.getD (g.2.2.2.2.getD j' 0).toNat 0) = 0)),
        loopI.start 0 [] [1, 3, 4, 5, 6, 7] [(1, [])] .fr (by (repeat' first | apply And.intro | rfl); exact ⟨Nat.zero_le _, fun j h => absurd h (Nat.not_lt_zero j)⟩), ?_⟩
      rintro _ _ ⟨j, rfl, rfl, ⟨hj, hjo⟩⟩
      by_cases hjl : j < k
      · have haj := hai _ (getD_mem (l := g.2.2.2.2) (v := j) (d := 0) (by omega))
        have hbj := hbk j hjl
        have hsj := all_step (P := fun j => g.1 = 4 → (vars.getD (g.2.2.2.2.getD k 0).toNat 0 &&& vars.getD (g.2.2.2.2.getD j 0).toNat 0) = 0) hjo
        have hu1 := umax_ok (getD_lt256 hvl (g.2.2.2.2.getD k 0).toNat)
        rw [hg] at hsj hbj
        dsimp only [gz] at hbj hsj hlt
        repeat' first | apply And.intro | (intro h; (cases h; done)) | (intro h; exfalso; simp only [decT, decF, beq_iff_eq, beq_eq_false_iff_ne, ne_eq, Int.toNat_natCast] at h; (try dsimp only [D, IK, dz, gT] at h); first | omega | exact absurd h (by assumption) | exact h (by assumption)) | intro _ | exact True.intro | (show Region.lexB _ _ = true; kernel_rfl) | refine loopI.next (j + 1) [] [1, 3, 4, 5, 6, 7] [(1, [])] .fr ?_
        (all_goals try ((first | (show (_ : Int) ≤ _) | (show (_ : Int) < _) | (show (_ : Nat) ≤ _) | (show (_ : Nat) < _)); (try simp only [Int.toNat_natCast, List.length_cons, List.length_nil, umax64]); (try dsimp only [D, IK, dz, gT]); omega))
        all_goals (try simp only [decT, decF, beq_iff_eq, bne_iff_ne, ne_eq, beq_eq_false_iff_ne, bne_eq_false_iff_eq, Decidable.not_not, Int.toNat_natCast, Bool.not_eq_true', Bool.not_eq_false', Bool.not_eq_true, Bool.not_eq_false, Int.not_lt, Int.not_le] at *; try dsimp only [D, IK, dz] at *)
        all_goals try dsimp only [gz] at *
        all_goals try rw [← hg] at *
        all_goals first | omega | rfl | exact hu1 | exact ⟨by omega, hsj fun h => absurd h (by assumption)⟩ | exact ⟨by omega, hsj fun _ => by assumption⟩ | exact (hbj (by assumption) (by assumption)).symm | skip
      · have hje : j = k := by omega
        repeat' first | apply And.intro | (intro h; (cases h; done)) | (intro h; exfalso; simp only [decT, decF, beq_iff_eq, beq_eq_false_iff_ne, ne_eq, Int.toNat_natCast] at h; (try dsimp only [D, IK, dz, gT] at h); first | omega | exact absurd h (by assumption) | exact h (by assumption)) | intro _ | exact True.intro | (show Region.lexB _ _ = true; kernel_rfl) | refine loopI.next (k + 1) [] [1, 3, 4, 5, 6] [(1, [])] .fr ?_
        (all_goals try (show Fw.xRun _ _ _ _ _ _ _ _; exfalso; (try simp only [decT, decF, beq_iff_eq, bne_iff_ne, ne_eq, beq_eq_false_iff_ne, bne_eq_false_iff_eq, Decidable.not_not, Int.toNat_natCast, Bool.not_eq_true', Bool.not_eq_false', Bool.not_eq_true, Bool.not_eq_false, Int.not_lt, Int.not_le] at *); omega))
        (all_goals try ((first | (show (_ : Int) ≤ _) | (show (_ : Int) < _) | (show (_ : Nat) ≤ _) | (show (_ : Nat) < _)); (try simp only [Int.toNat_natCast, List.length_cons, List.length_nil, umax64]); (try dsimp only [D, IK, dz, gT]); omega))
        all_goals (try simp only [decT, decF, beq_iff_eq, bne_iff_ne, ne_eq, beq_eq_false_iff_ne, bne_eq_false_iff_eq, Decidable.not_not, Int.toNat_natCast, Bool.not_eq_true', Bool.not_eq_false', Bool.not_eq_true, Bool.not_eq_false, Int.not_lt, Int.not_le] at *; try dsimp only [D, IK, dz] at *)
        all_goals first | omega | rfl | exact ⟨by omega, hso (hje ▸ hjo)⟩ | skip
    · have hke : k = g.2.2.2.2.length := by omega
      repeat' first | apply And.intro | (intro h; (cases h; done)) | (intro h; exfalso; simp only [decT, decF, beq_iff_eq, beq_eq_false_iff_ne, ne_eq, Int.toNat_natCast] at h; (try dsimp only [D, IK, dz, gT] at h); first | omega | exact absurd h (by assumption) | exact h (by assumption)) | intro _ | exact True.intro | (show Region.lexB _ _ = true; kernel_rfl) | refine loopI.next (i + 1) [] [1, 3, 4] [(1, [])] .fr ?_
      (all_goals try (show Fw.xRun _ _ _ _ _ _ _ _; exfalso; (try simp only [decT, decF, beq_iff_eq, bne_iff_ne, ne_eq, beq_eq_false_iff_ne, bne_eq_false_iff_eq, Decidable.not_not, Int.toNat_natCast, Bool.not_eq_true', Bool.not_eq_false', Bool.not_eq_true, Bool.not_eq_false, Int.not_lt, Int.not_le] at *); omega))
      (all_goals try ((first | (show (_ : Int) ≤ _) | (show (_ : Int) < _) | (show (_ : Nat) ≤ _) | (show (_ : Nat) < _)); (try simp only [Int.toNat_natCast, List.length_cons, List.length_nil, umax64]); (try dsimp only [D, IK, dz, gT]); omega))
      all_goals (try simp only [decT, decF, beq_iff_eq, bne_iff_ne, ne_eq, beq_eq_false_iff_ne, bne_eq_false_iff_eq, Decidable.not_not, Int.toNat_natCast, Bool.not_eq_true', Bool.not_eq_false', Bool.not_eq_true, Bool.not_eq_false, Int.not_lt, Int.not_le] at *; try dsimp only [D, IK, dz] at *)
      all_goals first | omega | rfl | skip
      · refine ⟨by omega, fun i' k' j' h1 h2 h3 h4 => ?_⟩
        by_cases e : i' = i
        · subst e
          rw [← hg] at h2 h4 ⊢
          exact hko k' (by omega) j' h3 h4
        · exact ho i' k' j' (by omega) h2 h3 h4
  · have hB := hgd fun i' k j h1 => ho i' k j (by omega)
    repeat' first | apply And.intro | (intro h; (cases h; done)) | (intro h; exfalso; simp only [decT, decF, beq_iff_eq, beq_eq_false_iff_ne, ne_eq, Int.toNat_natCast] at h; (try dsimp only [D, IK, dz, gT] at h); first | omega | exact absurd h (by assumption) | exact h (by assumption)) | intro _ | exact True.intro | (show Region.lexB _ _ = true; kernel_rfl)
    (all_goals try (show Fw.xRun _ _ _ _ _ _ _ _; exfalso; (try simp only [decT, decF, beq_iff_eq, bne_iff_ne, ne_eq, beq_eq_false_iff_ne, bne_eq_false_iff_eq, Decidable.not_not, Int.toNat_natCast, Bool.not_eq_true', Bool.not_eq_false', Bool.not_eq_true, Bool.not_eq_false, Int.not_lt, Int.not_le] at *); omega))
    (all_goals try ((first | (show (_ : Int) ≤ _) | (show (_ : Int) < _) | (show (_ : Nat) ≤ _) | (show (_ : Nat) < _)); (try simp only [Int.toNat_natCast, List.length_cons, List.length_nil, umax64]); (try dsimp only [D, IK, dz, gT]); omega))
    all_goals exact hB.symm
end Go.Proofs.Ytbgnnpbcifgckaa
namespace Go.Proofs.Ytbgnnpbcifgckaa
open Go Go.Fw Go.RowKit
set_option maxRecDepth 100000
set_option maxHeartbeats 4000000
theorem vpre : ∀ (gs : List Gate) (o : List Nat), ∃ r, gs.foldl (fun out g => out ++ [setG out g]) o = o ++ r
  | [], o => ⟨[], (List.append_nil o).symm⟩
  | g :: gs, o => by
    obtain ⟨r, h⟩ := vpre gs (o ++ [setG o g])
    exact ⟨[setG o g] ++ r, by rw [List.foldl_cons, h, List.append_assoc]⟩
theorem varsF_split {gates : List Gate} {i : Nat} (h : i < gates.length) : ∃ r, varsF gates = varsF (gates.take i) ++ setG (varsF (gates.take i)) (gates.getD i gz) :: r := by
  obtain ⟨r, hr⟩ := vpre (gates.drop (i + 1)) (varsF (gates.take (i + 1)))
  refine ⟨r, ?_⟩
  have e : varsF gates = (gates.drop (i + 1)).foldl (fun out g => out ++ [setG out g]) (varsF (gates.take (i + 1))) := by
    conv => lhs; rw [varsF, ← List.take_append_drop (i + 1) gates, List.foldl_append]
    rfl
  rw [e, hr, varsF_take h, List.append_assoc]; rfl
/-- A gate's variables are those of its arguments, and its own. -/
theorem varsF_at {gates : List Gate} {i : Nat} (h : i < gates.length) (hap : ∀ a ∈ (gates.getD i gz).2.2.2.2, 0 ≤ a ∧ a < i) : (varsF gates).getD i 0 = setG (varsF gates) (gates.getD i gz) := by
  obtain ⟨r, e⟩ := varsF_split h
  have hl : (varsF (gates.take i)).length = i := by rw [varsF_len, List.length_take]; omega
  have h1 : (varsF gates).getD i 0 = setG (varsF (gates.take i)) (gates.getD i gz) := by
    rw [e, List.getD_eq_getElem?_getD, List.getElem?_append_right (by omega), hl, Nat.sub_self]; rfl
  rw [h1, setG, setG]
  congr 2
  refine List.map_congr_left fun a ha => ?_
  have := hap a ha
  rw [e, List.getD_eq_getElem?_getD, List.getD_eq_getElem?_getD, List.getElem?_append_left (by omega)]
theorem orU_same {l : List Nat} {x : Nat} (h : ∀ y ∈ l, y = x) (hne : l ≠ []) : orU l = x := by
  induction l with
  | nil => exact absurd rfl hne
  | cons y l ih =>
    rw [orU_cons, h y List.mem_cons_self]
    cases l with
    | nil => exact Nat.or_zero _
    | cons z l =>
      rw [ih (fun w hw => h w (List.mem_cons_of_mem _ hw)) (by simp), Nat.or_self]
theorem and_orU {x : Nat} : ∀ {l : List Nat}, (x &&& orU l) = 0 ↔ ∀ y ∈ l, (x &&& y) = 0
  | [] => by simp [orU]
  | z :: l => by
    rw [orU_cons, Nat.and_or_distrib_left]
    constructor
    · intro h y hy
      have h1 : (x &&& z) = 0 := by
        apply Nat.eq_of_testBit_eq
        intro i
        have := congrArg (fun n => n.testBit i) h
        simp only [Nat.testBit_or, Nat.zero_testBit, Bool.or_eq_false_iff] at this
        rw [this.1, Nat.zero_testBit]
      have h2 : (x &&& orU l) = 0 := by
        apply Nat.eq_of_testBit_eq
        intro i
        have := congrArg (fun n => n.testBit i) h
        simp only [Nat.testBit_or, Nat.zero_testBit, Bool.or_eq_false_iff] at this
        rw [this.2, Nat.zero_testBit]
      rcases List.mem_cons.1 hy with rfl | hy
      · exact h1
      · exact and_orU.1 h2 y hy
    · intro h
      rw [h z List.mem_cons_self, and_orU.2 fun y hy => h y (List.mem_cons_of_mem _ hy)]; rfl
section
variable {cards : List Int} {gates : List Gate}
theorem sm_iff (hr : rightB cards gates = true) {i : Nat} (hi : i < gates.length) : smA (varsF gates) (gates.getD i gz) (gates.getD i gz).2.2.2.2.length = true ↔ ((gates.getD i gz).1 = 3 → ∀ k, k < (gates.getD i gz).2.2.2.2.length → (varsF gates).getD ((gates.getD i gz).2.2.2.2.getD k 0).toNat 0 = (varsF gates).getD i 0) := by
  have hgk := (right_all hr).2 i hi
  have hap := gate_args hgk
  have hat := varsF_at hi hap
  rw [smA, List.take_length, List.all_eq_true]
  by_cases h3 : (gates.getD i gz).1 = 3
  · have hne : (gates.getD i gz).2.2.2.2 ≠ [] := by
      rcases gate_ok hgk with h | h | h
      · omega
      · omega
      · intro e
        have := h.2.1
        rw [e] at this
        exact this rfl
    have hU : (varsF gates).getD i 0 = orU ((gates.getD i gz).2.2.2.2.map fun a => (varsF gates).getD a.toNat 0) := by
      rw [hat, setG, if_neg (by omega), List.nil_append]
    have hl0 : 0 < (gates.getD i gz).2.2.2.2.length := List.length_pos_iff.2 hne
    simp only [h3, decide_true, Bool.true_and, Bool.not_eq_true', bne_eq_false_iff_eq, true_implies]
    constructor
    · intro h
      have hs : (varsF gates).getD i 0 = (varsF gates).getD ((gates.getD i gz).2.2.2.2.getD 0 0).toNat 0 := by
        rw [hU]
        refine orU_same (fun y hy => ?_) (by simpa using hne)
        obtain ⟨a, ha, rfl⟩ := List.mem_map.1 hy
        exact h a ha
      intro k hk
      rw [hs]
      exact h _ (getD_mem hk)
    · intro h a ha
      obtain ⟨k, hk, rfl⟩ := List.getElem_of_mem ha
      have h1 := h k hk
      rw [getD_lt hk] at h1
      rw [h1, ← h 0 hl0]
  · simp only [h3, decide_false, Bool.false_and, Bool.not_false, implies_true, false_implies]
theorem smooth_bad (hr : rightB cards gates = true) {i k : Nat} (hi : i < gates.length) (hk : k < (gates.getD i gz).2.2.2.2.length) (h3 : (gates.getD i gz).1 = 3) (h : ¬ (varsF gates).getD ((gates.getD i gz).2.2.2.2.getD k 0).toNat 0 = (varsF gates).getD i 0) : smF (varsF gates) gates gates.length = false := by
  rw [smF, List.all_eq_false]
  refine ⟨i, List.mem_range.2 hi, fun e => h ?_⟩
  exact (sm_iff hr hi).1 e h3 k hk
theorem smooth_good (hr : rightB cards gates = true) (h : ∀ i k, i < gates.length → k < (gates.getD i gz).2.2.2.2.length → (gates.getD i gz).1 = 3 → (varsF gates).getD ((gates.getD i gz).2.2.2.2.getD k 0).toNat 0 = (varsF gates).getD i 0) : smF (varsF gates) gates gates.length = true := by
  rw [smF, List.all_eq_true]
  intro i hi
  have hi := List.mem_range.1 hi
  exact (sm_iff hr hi).2 fun h3 k hk => h i k hi hk h3
theorem dc_iff (vars : List Nat) (g : Gate) : dcA vars g g.2.2.2.2.length = true ↔ (g.1 = 4 → ∀ k j, k < g.2.2.2.2.length → j < k → (vars.getD (g.2.2.2.2.getD k 0).toNat 0 &&& vars.getD (g.2.2.2.2.getD j 0).toNat 0) = 0) := by
  rw [dcA, List.all_eq_true]
  by_cases h4 : g.1 = 4
  · simp only [h4, decide_true, Bool.true_and, Bool.not_eq_true', bne_eq_false_iff_eq, true_implies, seenA, and_orU]
    constructor
    · intro h k j hk hj
      refine h k (List.mem_range.2 hk) _ (List.mem_map.2 ⟨g.2.2.2.2.getD j 0, ?_, rfl⟩)
      rw [getD_lt (by omega)]
      exact List.mem_take_iff_getElem.2 ⟨j, by omega, rfl⟩
    · intro h k hk y hy
      have hk := List.mem_range.1 hk
      obtain ⟨a, ha, rfl⟩ := List.mem_map.1 hy
      obtain ⟨j, hj, rfl⟩ := List.mem_take_iff_getElem.1 ha
      have := h k j hk (by omega)
      rwa [getD_lt (l := g.2.2.2.2) (v := j) (by omega)] at this
  · simp only [h4, decide_false, Bool.false_and, Bool.not_false, implies_true, false_implies]
theorem decomp_bad {vars : List Nat} {i k j : Nat} (hi : i < gates.length) (hk : k < (gates.getD i gz).2.2.2.2.length) (hj : j < k) (h4 : (gates.getD i gz).1 = 4) (h : ¬ (vars.getD ((gates.getD i gz).2.2.2.2.getD k 0).toNat 0 &&& vars.getD ((gates.getD i gz).2.2.2.2.getD j 0).toNat 0) = 0) : dcF vars gates gates.length = false := by
  rw [dcF, List.all_eq_false]
  exact ⟨i, List.mem_range.2 hi, fun e => h ((dc_iff vars _).1 e h4 k j hk hj)⟩
theorem decomp_good {vars : List Nat} (h : ∀ i k j, i < gates.length → k < (gates.getD i gz).2.2.2.2.length → j < k → (gates.getD i gz).1 = 4 → (vars.getD ((gates.getD i gz).2.2.2.2.getD k 0).toNat 0 &&& vars.getD ((gates.getD i gz).2.2.2.2.getD j 0).toNat 0) = 0) : dcF vars gates gates.length = true := by
  rw [dcF, List.all_eq_true]
  intro i hi
  exact (dc_iff vars _).2 fun h4 k j hk hj => h i k j (List.mem_range.1 hi) hk hj h4
end
theorem ref_smooth_fn (cards : List Int) (gates : List Gate) (hr : rightB cards gates = true) (hargs : ∀ g ∈ gates, g.2.2.2.2.length ≤ 1000000) : Fw.Fn Try.prog 15 [.agg [.dat .old (.i .i64) cards, .dat .old gT gates]] [] (.val (.bool (smF (varsF gates) gates gates.length))) [] :=
  ref_smooth_in cards gates (varsF gates) _ (varsF_len gates) (right_all hr).1 (fun i hi => gate_args ((right_all hr).2 i hi)) hargs (fun _ _ hi hk h3 h => smooth_bad hr hi hk h3 h) (smooth_good hr) (ref_variables_fn cards gates hr hargs)
theorem ref_decomp_fn (cards : List Int) (gates : List Gate) (hr : rightB cards gates = true) (hargs : ∀ g ∈ gates, g.2.2.2.2.length ≤ 1000000) : Fw.Fn Try.prog 16 [.agg [.dat .old (.i .i64) cards, .dat .old gT gates]] [] (.val (.bool (dcF (varsF gates) gates gates.length))) [] :=
  ref_decomp_in cards gates (varsF gates) _ (varsF_len gates) (varsF_lt hr) (right_all hr).1 (fun i hi => gate_args ((right_all hr).2 i hi)) hargs (fun _ _ _ hi hk hj h4 h => decomp_bad hi hk hj h4 h) decomp_good (ref_variables_fn cards gates hr hargs)
end Go.Proofs.Ytbgnnpbcifgckaa
namespace Go.Proofs.Ytbgnnpbcifgckaa
open Go Go.Fw Go.RowKit
set_option maxRecDepth 100000
set_option maxHeartbeats 4000000
theorem rank_zero : ∀ (cs : List Int) (n : Nat), rankA cs (List.replicate n 0) = 0
  | [], n => by cases n <;> rfl
  | c :: cs, 0 => rfl
  | c :: cs, n + 1 => by rw [List.replicate_succ, rankA, rank_zero cs n]; simp
theorem all_fn (cards : List Int) (h8 : cards.length ≤ 8) (hc : ∀ v, v < cards.length → 1 ≤ cards.getD v 0 ∧ cards.getD v 0 ≤ 4) (hp : prodN cards.reverse ≤ 100000) :
    Fw.Fn Try.prog 41 [.dat .old (.i .i64) cards] [] (.dat .fr (.sl (.i .i64)) (allF cards)) [] := by
  have hc1 : ∀ v, v < cards.length → 1 ≤ cards.getD v 0 := fun v hv => (hc v hv).1
  refine fn_go env_ok mixed Try.func41 (c := Try.f41.body.get rfl) rfl (by kernel_rfl) [] rfl ?_
  repeat' first | apply And.intro | (intro h; (cases h; done)) | (intro h; exfalso; simp only [decT, decF, beq_iff_eq, beq_eq_false_iff_ne, ne_eq, Int.toNat_natCast] at h; (try dsimp only [D, IK, dz, gT] at h); first | omega | exact absurd h (by assumption) | exact h (by assumption)) | intro _ | exact True.intro | (show Region.lexB _ _ = true; kernel_rfl)
  (all_goals try ((first | (show (_ : Int) ≤ _) | (show (_ : Int) < _) | (show (_ : Nat) ≤ _) | (show (_ : Nat) < _)); (try simp only [Int.toNat_natCast, List.length_cons, List.length_nil, umax64]); (try dsimp only [D, IK, dz, gT]); omega))
  refine ⟨loopI (fun x : List (List Int) × List Int × Bool => { n := 21, t := [(0, .dat .old (.i .i64) cards), (3, .own 0), (4, .dat .fr (.i .i64) x.2.1), (5, .val (.bool x.2.2))], h := [(0, some (.arr .fr (.sl (.i .i64)) x.1))], nx := 1 }) (fun x => if x.2.2 = true then prodN cards.reverse - rankA cards.reverse x.2.1.reverse + 1 else 0)
      (fun x => Ok ((x.2.2 = true → x.1 ++ allI cards (prodN cards.reverse - rankA cards.reverse x.2.1.reverse) x.2.1 = allF cards ∧ okR cards x.2.1 ∧ x.1.length = rankA cards.reverse x.2.1.reverse) ∧ (x.2.2 = false → x.1 = allF cards))),
    loopI.start ([], List.replicate cards.length 0, true) [3] [0, 3, 4, 5] [(3, [])] .fr (by (repeat' first | apply And.intro | rfl) <;> first | exact ⟨fun _ => ⟨by rw [List.reverse_replicate, rank_zero]; rfl, okR_zero hc1, by rw [List.reverse_replicate, rank_zero]; rfl⟩, fun h => by cases h⟩ | skip), ?_⟩
  rintro _ _ ⟨⟨out, pos, more⟩, rfl, rfl, ⟨h1, h2⟩⟩
  dsimp only at h1 h2 ⊢
  cases more with
  | true =>
    obtain ⟨e, ho, hr⟩ := h1 rfl
    have hlt := rankA_lt ho
    have hlen := okA_len ho
    rw [List.length_reverse, List.length_reverse] at hlen
    have hpb : ∀ y ∈ pos, 0 ≤ y ∧ y ≤ 4611686018427387903 := by
      intro y hy
      obtain ⟨i, hi, rfl⟩ := List.getElem_of_mem hy
      have h3 := okA_at (okR_okA.1 ho) i (by omega)
      have h4 := hc i (by omega)
      rw [getD_lt hi] at h3
      omega
    have hn := next_fn cards pos hlen (by omega) hpb
    obtain ⟨k, hk⟩ : ∃ k, prodN cards.reverse - rankA cards.reverse pos.reverse = k + 1 := ⟨prodN cards.reverse - rankA cards.reverse pos.reverse - 1, by omega⟩
    rw [hk, allI] at e
    have hsp := nextF_spec ho
    generalize hN : nextF cards pos = N at *
    obtain ⟨np, nm⟩ := N
    dsimp only at hn e hsp
    repeat' first | apply And.intro | (intro h; (cases h; done)) | (intro h; exfalso; simp only [decT, decF, beq_iff_eq, beq_eq_false_iff_ne, ne_eq, Int.toNat_natCast] at h; (try dsimp only [D, IK, dz, gT] at h); first | omega | exact absurd h (by assumption) | exact h (by assumption)) | intro _ | exact True.intro | (show Region.lexB _ _ = true; kernel_rfl) | refine CallK.fn [] hn rfl rfl rfl rfl rfl ?_ ?_ | refine loopI.next (out ++ [pos], np, nm) [] [0, 3, 4, 5] [(3, [])] .fr ?_
    (all_goals try ((first | (show (_ : Int) ≤ _) | (show (_ : Int) < _) | (show (_ : Nat) ≤ _) | (show (_ : Nat) < _)); (try simp only [Int.toNat_natCast, List.length_cons, List.length_nil, umax64]); (try dsimp only [D, IK, dz, gT]); omega))
    all_goals try (simp only [List.length_cons, List.length_nil]; omega)
    all_goals try rfl
    · dsimp only
      rw [if_pos rfl]
      rcases hsp with ⟨rfl, h4, _, h5⟩ | ⟨rfl, _⟩
      · rw [if_pos rfl]; omega
      · rw [if_neg (by decide)]; omega
    · dsimp only
      rcases hsp with ⟨rfl, h4, _, h5⟩ | ⟨rfl, _⟩
      · refine ⟨⟨fun _ => ⟨?_, h4, ?_⟩, fun h => absurd h (by decide)⟩⟩
        · rw [if_pos rfl] at e
          rw [h5, show prodN cards.reverse - (rankA cards.reverse pos.reverse + 1) = k by omega, List.append_assoc]
          exact e
        · rw [List.length_append, List.length_singleton, h5, hr]
      · refine ⟨⟨fun h => absurd h (by decide), fun _ => ?_⟩⟩
        rw [if_neg (by decide)] at e
        exact e
  | false =>
    have h3 := h2 rfl
    repeat' first | apply And.intro | (intro h; (cases h; done)) | (intro h; exfalso; simp only [decT, decF, beq_iff_eq, beq_eq_false_iff_ne, ne_eq, Int.toNat_natCast] at h; (try dsimp only [D, IK, dz, gT] at h); first | omega | exact absurd h (by assumption) | exact h (by assumption)) | intro _ | exact True.intro | (show Region.lexB _ _ = true; kernel_rfl)
    all_goals exact h3
theorem npre (input : List Int) : ∀ (gs : List Gate) (o : List Bool), ∃ r, gs.foldl (fun out g => out ++ [nzG input out g]) o = o ++ r
  | [], o => ⟨[], (List.append_nil o).symm⟩
  | g :: gs, o => by
    obtain ⟨r, h⟩ := npre input gs (o ++ [nzG input o g])
    exact ⟨[nzG input o g] ++ r, by rw [List.foldl_cons, h, List.append_assoc]⟩
theorem nzF_split {input : List Int} {gates : List Gate} {i : Nat} (h : i ≤ gates.length) : ∃ r, nzF input gates = nzF input (gates.take i) ++ r := by
  obtain ⟨r, hr⟩ := npre input (gates.drop i) (nzF input (gates.take i))
  refine ⟨r, ?_⟩
  have e : nzF input gates = (gates.drop i).foldl (fun out g => out ++ [nzG input out g]) (nzF input (gates.take i)) := by
    conv => lhs; rw [nzF, ← List.take_append_drop i gates, List.foldl_append]
    rfl
  rw [e, hr]
theorem nzF_pre {input : List Int} {gates : List Gate} {i : Nat} (h : i ≤ gates.length) : (nzF input gates).take i = nzF input (gates.take i) := by
  obtain ⟨r, e⟩ := nzF_split (input := input) h
  have hl : (nzF input (gates.take i)).length = i := by rw [nzF_len, List.length_take]; omega
  rw [e, List.take_append_of_le_length (by omega), List.take_of_length_le (by omega)]
theorem nzG_congr {input : List Int} {o o' : List Bool} {g : Gate} (h : ∀ a ∈ g.2.2.2.2, o.getD a.toNat false = o'.getD a.toNat false) : nzG input o g = nzG input o' g := by
  unfold nzG
  have h1 : g.2.2.2.2.all (fun a => o.getD a.toNat false) = g.2.2.2.2.all (fun a => o'.getD a.toNat false) := by
    rw [Bool.eq_iff_iff, List.all_eq_true, List.all_eq_true]
    exact ⟨fun k a ha => h a ha ▸ k a ha, fun k a ha => (h a ha).symm ▸ k a ha⟩
  have h2 : g.2.2.2.2.any (fun a => o.getD a.toNat false) = g.2.2.2.2.any (fun a => o'.getD a.toNat false) := by
    rw [Bool.eq_iff_iff, List.any_eq_true, List.any_eq_true]
    exact ⟨fun ⟨a, ha, k⟩ => ⟨a, ha, h a ha ▸ k⟩, fun ⟨a, ha, k⟩ => ⟨a, ha, (h a ha).symm ▸ k⟩⟩
  rw [h1, h2]
theorem nz_take_at {nz : List Bool} {i a : Nat} (h : a < i) : (nz.take i).getD a false = nz.getD a false := by
  rw [List.getD_eq_getElem?_getD, List.getElem?_take, if_pos h, List.getD_eq_getElem?_getD]
/-- One gate more. -/
theorem nz_step {input : List Int} {gates : List Gate} {i : Nat} (h : i < gates.length) (hap : ∀ a ∈ (gates.getD i gz).2.2.2.2, 0 ≤ a ∧ a < i) : (nzF input gates).take (i + 1) = (nzF input gates).take i ++ [nzG input (nzF input gates) (gates.getD i gz)] := by
  rw [nzF_pre (by omega), nzF_take h, nzF_pre (by omega)]
  congr 2
  refine nzG_congr fun a ha => ?_
  have := hap a ha
  rw [← nzF_pre (by omega), nz_take_at (by omega)]
def b2i (b : Bool) : Int := if b then 1 else 0
theorem b2i_at {nz : List Bool} {i a : Nat} (h : a < i) : ((nz.take i).map b2i).getD a 0 = b2i (nz.getD a false) := by
  rw [← nz_take_at h, List.getD_eq_getElem?_getD, List.getElem?_map, List.getD_eq_getElem?_getD]
  cases (nz.take i)[a]? <;> rfl
theorem b2i_prod (f : Int → Bool) (l : List Int) : prodI (l.map fun a => b2i (f a)) = b2i (l.all f) := by
  induction l with
  | nil => rfl
  | cons a l ih =>
    rw [List.map_cons, prodI_cons, ih, List.all_cons]
    cases f a <;> cases l.all f <;> rfl
theorem b2i_atF {nz : List Bool} {i : Nat} {args : List Int} (h : ∀ a ∈ args, 0 ≤ a ∧ a < i) : atF ((nz.take i).map b2i) args = args.map fun a => b2i (nz.getD a.toNat false) := by
  refine List.map_congr_left fun a ha => ?_
  have := h a ha
  exact b2i_at (by omega)
theorem onesK_any {nz : List Bool} {g : Gate} (h3 : g.1 = 3) (h : onesK nz g g.2.2.2.2.length ≤ 1) : ((onesK nz g g.2.2.2.2.length : Nat) : Int) = b2i (g.2.2.2.2.any fun a => nz.getD a.toNat false) := by
  rw [onesK, if_pos h3, List.take_length] at h ⊢
  cases hf : g.2.2.2.2.any fun a => nz.getD a.toNat false with
  | false =>
    rw [List.filter_eq_nil_iff.2 (fun a ha => by
      rw [List.any_eq_false] at hf
      exact hf a ha)]
    rfl
  | true =>
    obtain ⟨a, ha, hb⟩ := List.any_eq_true.1 hf
    have : 0 < (g.2.2.2.2.filter fun a => nz.getD a.toNat false).length := List.length_pos_iff.2 fun e => by
      have := (List.mem_filter (p := fun a : Int => nz.getD a.toNat false)).2 ⟨ha, hb⟩
      rw [e] at this
      cases this
    show _ = (1 : Int)
    omega
theorem nz_three {input : List Int} {nz : List Bool} {g : Gate} (h : g.1 = 3) : nzG input nz g = g.2.2.2.2.any fun a => nz.getD a.toNat false := by
  rw [nzG, if_neg (by omega), if_neg (by omega), if_neg (by omega)]
theorem ref_apart_in (cards : List Int) (gates : List Gate) (L : List (List Int)) (B : Bool) (hr : rightB cards gates = true) (hargs : ∀ g ∈ gates, g.2.2.2.2.length ≤ 1000000) (hL : L.length ≤ 100000) (hLo : ∀ x ∈ L, okA cards x)
  (hb : ∀ x ∈ L, ∀ i, i < gates.length → 1 < onesK (nzF x gates) (gates.getD i gz) (gates.getD i gz).2.2.2.2.length → B = false) (hgd : (∀ x ∈ L, oneOK gates x) → B = true)
  (hA : Fw.Fn Try.prog 41 [.dat .old (.i .i64) cards] [] (.dat .fr (.sl (.i .i64)) L) []) :
    Fw.Fn Try.prog 17 [.agg [.dat .old (.i .i64) cards, .dat .old gT gates]] [] (.val (.bool B)) [] := by
  have hgl := (right_all hr).1
  refine fn_go env_ok mixed Try.func17 (c := Try.f17.body.get rfl) rfl (by kernel_rfl) [] rfl ?_
  repeat' first | apply And.intro | (intro h; (cases h; done)) | (intro h; exfalso; simp only [decT, decF, beq_iff_eq, beq_eq_false_iff_ne, ne_eq, Int.toNat_natCast] at h; (try dsimp only [D, IK, dz, gT] at h); first | omega | exact absurd h (by assumption) | exact h (by assumption)) | intro _ | exact True.intro | (show Region.lexB _ _ = true; kernel_rfl) | refine CallK.fn [] hA rfl rfl rfl rfl rfl trivial ?_
  (all_goals try ((first | (show (_ : Int) ≤ _) | (show (_ : Int) < _) | (show (_ : Nat) ≤ _) | (show (_ : Nat) < _)); (try simp only [Int.toNat_natCast, List.length_cons, List.length_nil, umax64]); (try dsimp only [D, IK, dz, gT]); omega))
  refine ⟨loopI (fun a : Nat => { n := 86, t := [(1, .ptr 0 0), (3, .dat .fr (.sl (.i .i64)) L), (4, .val (.int .i64 a))], h := [(0, some (.cells [.dat .old (.i .i64) cards, .dat .old gT gates]))], nx := 1 }) (fun a => L.length - a) (fun a => Ok (a ≤ L.length ∧ ∀ a', a' < a → oneOK gates (L.getD a' []))),
    loopI.start 0 [] [1, 3, 4] [(1, [])] .fr (by (repeat' first | apply And.intro | rfl); exact ⟨Nat.zero_le _, fun a h => absurd h (Nat.not_lt_zero a)⟩), ?_⟩
  rintro _ _ ⟨a, rfl, rfl, ⟨ha, hao⟩⟩
  by_cases hal : a < L.length
  · have hxL := getD_mem (d := ([] : List Int)) hal
    have hxo := hLo _ hxL
    have hxl := okA_len hxo
    have hbx := hb _ hxL
    have hlx : ∀ (hx2 : oneOK gates (L.getD a [])), ∀ a', a' < a + 1 → oneOK gates (L.getD a' []) := fun hx2 => all_step (P := fun a => oneOK gates (L.getD a [])) hao hx2
    repeat' first | apply And.intro | (intro h; (cases h; done)) | (intro h; exfalso; simp only [decT, decF, beq_iff_eq, beq_eq_false_iff_ne, ne_eq, Int.toNat_natCast] at h; (try dsimp only [D, IK, dz, gT] at h); first | omega | exact absurd h (by assumption) | exact h (by assumption)) | intro _ | exact True.intro | (show Region.lexB _ _ = true; kernel_rfl)
    (all_goals try (show Fw.xRun _ _ _ _ _ _ _ _; exfalso; (try simp only [decT, decF, beq_iff_eq, bne_iff_ne, ne_eq, beq_eq_false_iff_ne, bne_eq_false_iff_eq, Decidable.not_not, Int.toNat_natCast, Bool.not_eq_true', Bool.not_eq_false', Bool.not_eq_true, Bool.not_eq_false, Int.not_lt, Int.not_le] at *); omega))
    (all_goals try ((first | (show (_ : Int) ≤ _) | (show (_ : Int) < _) | (show (_ : Nat) ≤ _) | (show (_ : Nat) < _)); (try simp only [Int.toNat_natCast, List.length_cons, List.length_nil, umax64]); (try dsimp only [D, IK, dz, gT]); omega))
    obtain ⟨x, hx⟩ : ∃ x, x = L.getD a [] := ⟨_, rfl⟩
    rw [← hx] at hxL hxo hxl hbx hlx
    obtain ⟨nz, hnz⟩ : ∃ nz, nz = nzF x gates := ⟨_, rfl⟩
    have hnl : nz.length = gates.length := by rw [hnz, nzF_len]
    refine ⟨loopI (fun i : Nat => { n := 86, t := [(1, .ptr 0 0), (3, .dat .fr (.sl (.i .i64)) L), (4, .val (.int .i64 a)), (5, .own 1), (6, .val (.int .i64 i))], h := [(0, some (.cells [.dat .old (.i .i64) cards, .dat .old gT gates])), (1, some (.arr .fr (.i .i64) ((nz.take i).map b2i)))], nx := 2 }) (fun i => gates.length - i) (fun i => Ok (i ≤ gates.length ∧ ∀ i', i' < i → onesK nz (gates.getD i' gz) (gates.getD i' gz).2.2.2.2.length ≤ 1)),
      loopI.start 0 [5] [1, 3, 4, 5, 6] [(1, []), (5, [])] .fr (by (repeat' first | apply And.intro | rfl); exact ⟨Nat.zero_le _, fun i h => absurd h (Nat.not_lt_zero i)⟩), ?_⟩
    rintro _ _ ⟨i, rfl, rfl, ⟨hi, hio⟩⟩
    by_cases hil : i < gates.length
    · have hgk := (right_all hr).2 i hil
      have hal2 := hargs _ (getD_mem (d := gz) hil)
      have hap := gate_args hgk
      have hst := nz_step (input := x) hil hap
      rw [← hnz] at hst
      have hml : ((nz.take i).map b2i).length = i := by rw [List.length_map, List.length_take]; omega
      have hbi := hbx i hil
      have hsi := all_step (P := fun i => onesK nz (gates.getD i gz) (gates.getD i gz).2.2.2.2.length ≤ 1) hio
      rcases gate_ok hgk with hk | hk | hk
      · have h1k := hk.1
        have hz := onesK_le nz (gates.getD i gz) (gates.getD i gz).2.2.2.2.length
        rw [hk.2.2.2, List.length_nil] at hz
        have hsj := hsi (by rw [hk.2.2.2, List.length_nil]; omega)
        have hnv : nzG x nz (gates.getD i gz) = decide (0 < (gates.getD i gz).2.2.2.1) := by rw [nzG, if_pos h1k]
        have hmv : min (gates.getD i gz).2.2.2.1 1 = b2i (decide (0 < (gates.getD i gz).2.2.2.1)) := by
          by_cases h : 0 < (gates.getD i gz).2.2.2.1
          · rw [decide_eq_true h]; show _ = (1 : Int); omega
          · rw [decide_eq_false h]; show _ = (0 : Int); have := hk.2.1; omega
        have hfin : (nz.take i).map b2i ++ [min (gates.getD i gz).2.2.2.1 1] = (nz.take (i + 1)).map b2i := by rw [hst, List.map_append, hnv, hmv]; rfl
        repeat' first | apply And.intro | (intro h; (cases h; done)) | (intro h; exfalso; simp only [decT, decF, beq_iff_eq, beq_eq_false_iff_ne, ne_eq, Int.toNat_natCast] at h; (try dsimp only [D, IK, dz, gT] at h); first | omega | exact absurd h (by assumption) | exact h (by assumption)) | intro _ | exact True.intro | (show Region.lexB _ _ = true; kernel_rfl) | refine loopI.next (i + 1) [] [1, 3, 4, 5, 6] [(1, []), (5, [])] .fr ?_
        (all_goals try (show Fw.xRun _ _ _ _ _ _ _ _; exfalso; (try simp only [decT, decF, beq_iff_eq, bne_iff_ne, ne_eq, beq_eq_false_iff_ne, bne_eq_false_iff_eq, Decidable.not_not, Int.toNat_natCast, Bool.not_eq_true', Bool.not_eq_false', Bool.not_eq_true, Bool.not_eq_false, Int.not_lt, Int.not_le] at *); omega))
        (all_goals try ((first | (show (_ : Int) ≤ _) | (show (_ : Int) < _) | (show (_ : Nat) ≤ _) | (show (_ : Nat) < _)); (try simp only [Int.toNat_natCast, List.length_cons, List.length_nil, umax64]); (try dsimp only [D, IK, dz, gT]); omega))
        all_goals (try simp only [decT, decF, beq_iff_eq, bne_iff_ne, ne_eq, beq_eq_false_iff_ne, bne_eq_false_iff_eq, Decidable.not_not, Int.toNat_natCast, Bool.not_eq_true', Bool.not_eq_false', Bool.not_eq_true, Bool.not_eq_false, Int.not_lt, Int.not_le] at *; try dsimp only [D, IK, dz] at *)
        all_goals try simp only [hml, List.length_cons, List.length_nil]
        all_goals first | omega | rfl | exact hfin | exact ⟨by omega, hsj⟩ | skip
      · have h2k := hk.1
        have hz := onesK_le nz (gates.getD i gz) (gates.getD i gz).2.2.2.2.length
        rw [hk.2.2.2.2.2, List.length_nil] at hz
        have hsj := hsi (by rw [hk.2.2.2.2.2, List.length_nil]; omega)
        have hv0 := hk.2.1
        have hv1 := hk.2.2.1
        have hxl2 := hxl
        rw [hx] at hxl2
        have hnv : nzG x nz (gates.getD i gz) = decide ((L.getD a []).getD (gates.getD i gz).2.1.toNat 0 = (gates.getD i gz).2.2.1) := by rw [nzG, if_neg (by omega), if_pos h2k, hx]
        by_cases hq : (L.getD a []).getD (gates.getD i gz).2.1.toNat 0 = (gates.getD i gz).2.2.1
        · have hfin : (nz.take i).map b2i ++ [(1 : Int)] = (nz.take (i + 1)).map b2i := by rw [hst, List.map_append, hnv, decide_eq_true hq]; rfl
          dsimp only [gz] at h2k hv0 hv1 hq hal2
          repeat' first | apply And.intro | (intro h; (cases h; done)) | (intro h; exfalso; simp only [decT, decF, beq_iff_eq, beq_eq_false_iff_ne, ne_eq, Int.toNat_natCast] at h; (try dsimp only [D, IK, dz, gT] at h); first | omega | exact absurd h (by assumption) | exact h (by assumption)) | intro _ | exact True.intro | (show Region.lexB _ _ = true; kernel_rfl) | refine loopI.next (i + 1) [] [1, 3, 4, 5, 6] [(1, []), (5, [])] .fr ?_
          (all_goals try (show Fw.xRun _ _ _ _ _ _ _ _; exfalso; (try simp only [decT, decF, beq_iff_eq, bne_iff_ne, ne_eq, beq_eq_false_iff_ne, bne_eq_false_iff_eq, Decidable.not_not, Int.toNat_natCast, Bool.not_eq_true', Bool.not_eq_false', Bool.not_eq_true, Bool.not_eq_false, Int.not_lt, Int.not_le] at *); omega))
          (all_goals try ((first | (show (_ : Int) ≤ _) | (show (_ : Int) < _) | (show (_ : Nat) ≤ _) | (show (_ : Nat) < _)); (try simp only [Int.toNat_natCast, List.length_cons, List.length_nil, umax64]); (try dsimp only [D, IK, dz, gT]); omega))
          all_goals (try simp only [decT, decF, beq_iff_eq, bne_iff_ne, ne_eq, beq_eq_false_iff_ne, bne_eq_false_iff_eq, Decidable.not_not, Int.toNat_natCast, Bool.not_eq_true', Bool.not_eq_false', Bool.not_eq_true, Bool.not_eq_false, Int.not_lt, Int.not_le] at *; try dsimp only [D, IK, dz] at *)
          all_goals try simp only [hml, List.length_cons, List.length_nil]
          all_goals first | omega | rfl | exact hfin | exact ⟨by omega, hsj⟩ | skip
        · have hfin : (nz.take i).map b2i ++ [(0 : Int)] = (nz.take (i + 1)).map b2i := by rw [hst, List.map_append, hnv, decide_eq_false hq]; rfl
          dsimp only [gz] at h2k hv0 hv1 hq hal2
          repeat' first | apply And.intro | (intro h; (cases h; done)) | (intro h; exfalso; simp only [decT, decF, beq_iff_eq, beq_eq_false_iff_ne, ne_eq, Int.toNat_natCast] at h; (try dsimp only [D, IK, dz, gT] at h); first | omega | exact absurd h (by assumption) | exact h (by assumption)) | intro _ | exact True.intro | (show Region.lexB _ _ = true; kernel_rfl) | refine loopI.next (i + 1) [] [1, 3, 4, 5, 6] [(1, []), (5, [])] .fr ?_
          (all_goals try (show Fw.xRun _ _ _ _ _ _ _ _; exfalso; (try simp only [decT, decF, beq_iff_eq, bne_iff_ne, ne_eq, beq_eq_false_iff_ne, bne_eq_false_iff_eq, Decidable.not_not, Int.toNat_natCast, Bool.not_eq_true', Bool.not_eq_false', Bool.not_eq_true, Bool.not_eq_false, Int.not_lt, Int.not_le] at *); omega))
          (all_goals try ((first | (show (_ : Int) ≤ _) | (show (_ : Int) < _) | (show (_ : Nat) ≤ _) | (show (_ : Nat) < _)); (try simp only [Int.toNat_natCast, List.length_cons, List.length_nil, umax64]); (try dsimp only [D, IK, dz, gT]); omega))
          all_goals (try simp only [decT, decF, beq_iff_eq, bne_iff_ne, ne_eq, beq_eq_false_iff_ne, bne_eq_false_iff_eq, Decidable.not_not, Int.toNat_natCast, Bool.not_eq_true', Bool.not_eq_false', Bool.not_eq_true, Bool.not_eq_false, Int.not_lt, Int.not_le] at *; try dsimp only [D, IK, dz] at *)
          all_goals try simp only [hml, List.length_cons, List.length_nil]
          all_goals first | omega | rfl | exact hfin | exact ⟨by omega, hsj⟩ | skip
      · obtain ⟨hk1, hk2, hk3⟩ := hk
        by_cases h3k : (gates.getD i gz).1 = 3
        · dsimp only [gz] at h3k
          repeat' first | apply And.intro | (intro h; (cases h; done)) | (intro h; exfalso; simp only [decT, decF, beq_iff_eq, beq_eq_false_iff_ne, ne_eq, Int.toNat_natCast] at h; (try dsimp only [D, IK, dz, gT] at h); first | omega | exact absurd h (by assumption) | exact h (by assumption)) | intro _ | exact True.intro | (show Region.lexB _ _ = true; kernel_rfl)
          (all_goals try (show Fw.xRun _ _ _ _ _ _ _ _; exfalso; (try simp only [decT, decF, beq_iff_eq, bne_iff_ne, ne_eq, beq_eq_false_iff_ne, bne_eq_false_iff_eq, Decidable.not_not, Int.toNat_natCast, Bool.not_eq_true', Bool.not_eq_false', Bool.not_eq_true, Bool.not_eq_false, Int.not_lt, Int.not_le] at *); omega))
          (all_goals try ((first | (show (_ : Int) ≤ _) | (show (_ : Int) < _) | (show (_ : Nat) ≤ _) | (show (_ : Nat) < _)); (try simp only [Int.toNat_natCast, List.length_cons, List.length_nil, umax64]); (try dsimp only [D, IK, dz, gT]); omega))
          obtain ⟨g, hg⟩ : ∃ g, g = gates.getD i gz := ⟨_, rfl⟩
          refine ⟨loopI (fun k : Nat => { n := 86, t := [(1, .ptr 0 0), (3, .dat .fr (.sl (.i .i64)) L), (4, .val (.int .i64 a)), (5, .own 1), (6, .val (.int .i64 i)), (7, .ptr 2 0), (8, .val (.int .i64 (onesK nz g k : Nat))), (9, .val (.int .i64 k))], h := [(0, some (.cells [.dat .old (.i .i64) cards, .dat .old gT gates])), (1, some (.arr .fr (.i .i64) ((nz.take i).map b2i))), (2, some (.cells [.val (.int .i64 g.1), .val (.int .i64 g.2.1), .val (.int .i64 g.2.2.1), .val (.int .i64 g.2.2.2.1), .dat .old (.i .i64) g.2.2.2.2]))], nx := 3 }) (fun k => g.2.2.2.2.length - k) (fun k => Ok (k ≤ g.2.2.2.2.length)),
            loopI.start 0 [] [1, 3, 4, 5, 6, 7, 8, 9] [(1, []), (5, []), (7, [])] .fr (by rw [hg]; (repeat' first | apply And.intro | rfl) <;> first | exact (onesK_zero _ _).symm | exact ⟨Nat.zero_le _⟩), ?_⟩
          have h3g : g.1 = 3 := hg ▸ h3k
          rw [← hg] at hal2 hap hst hbi hsi
          clear hg h3k
          rintro _ _ ⟨k, rfl, rfl, ⟨hkl⟩⟩
          have hob := onesK_le nz g k
          by_cases hkt : k < g.2.2.2.2.length
          · have hak := hap _ (getD_mem (d := 0) hkt)
            have hos := onesK_step nz g hkt
            have hbv := b2i_at (nz := nz) (i := i) (a := (g.2.2.2.2.getD k 0).toNat) (by omega)
            have hbv2 : b2i (nz.getD (g.2.2.2.2.getD k 0).toNat false) = 0 ∨ b2i (nz.getD (g.2.2.2.2.getD k 0).toNat false) = 1 := by
              cases nz.getD (g.2.2.2.2.getD k 0).toNat false
              · exact Or.inl rfl
              · exact Or.inr rfl
            have hsum : ((onesK nz g k : Nat) : Int) + b2i (nz.getD (g.2.2.2.2.getD k 0).toNat false) = ((onesK nz g (k + 1) : Nat) : Int) := by
              rw [hos]
              cases hq : nz.getD (g.2.2.2.2.getD k 0).toNat false
              · rw [if_neg (fun h => absurd h.2 (by decide))]; exact Int.add_zero _
              · rw [if_pos ⟨h3g, rfl⟩]; rfl
            repeat' first | apply And.intro | (intro h; (cases h; done)) | (intro h; exfalso; simp only [decT, decF, beq_iff_eq, beq_eq_false_iff_ne, ne_eq, Int.toNat_natCast] at h; (try dsimp only [D, IK, dz, gT] at h); first | omega | exact absurd h (by assumption) | exact h (by assumption)) | intro _ | exact True.intro | (show Region.lexB _ _ = true; kernel_rfl) | refine loopI.next (k + 1) [] [1, 3, 4, 5, 6, 7, 8, 9] [(1, []), (5, []), (7, [])] .fr ?_
            (all_goals try ((first | (show (_ : Int) ≤ _) | (show (_ : Int) < _) | (show (_ : Nat) ≤ _) | (show (_ : Nat) < _)); (try simp only [Int.toNat_natCast, List.length_cons, List.length_nil, umax64]); (try dsimp only [D, IK, dz, gT]); omega))
            all_goals (try simp only [decT, decF, beq_iff_eq, bne_iff_ne, ne_eq, beq_eq_false_iff_ne, bne_eq_false_iff_eq, Decidable.not_not, Int.toNat_natCast, Bool.not_eq_true', Bool.not_eq_false', Bool.not_eq_true, Bool.not_eq_false, Int.not_lt, Int.not_le] at *; try dsimp only [D, IK, dz] at *)
            all_goals try simp only [hbv, hml]
            all_goals first | omega | rfl | exact ⟨by omega⟩ | exact hsum | skip
          · have hke : k = g.2.2.2.2.length := by omega
            rw [← hke] at hbi hsi
            by_cases h1 : onesK nz g k ≤ 1
            · have hsj := hsi (hke ▸ h1)
              have hany := onesK_any h3g (hke ▸ h1)
              rw [← hke, ← nz_three (input := x) h3g] at hany
              have hfin : (nz.take i).map b2i ++ [((onesK nz g k : Nat) : Int)] = (nz.take (i + 1)).map b2i := by rw [hst, List.map_append, hany]; rfl
              repeat' first | apply And.intro | (intro h; (cases h; done)) | (intro h; exfalso; simp only [decT, decF, beq_iff_eq, beq_eq_false_iff_ne, ne_eq, Int.toNat_natCast] at h; (try dsimp only [D, IK, dz, gT] at h); first | omega | exact absurd h (by assumption) | exact h (by assumption)) | intro _ | exact True.intro | (show Region.lexB _ _ = true; kernel_rfl) | refine loopI.next (i + 1) [] [1, 3, 4, 5, 6] [(1, []), (5, [])] .fr ?_
              (all_goals try (show Fw.xRun _ _ _ _ _ _ _ _; exfalso; (try simp only [decT, decF, beq_iff_eq, bne_iff_ne, ne_eq, beq_eq_false_iff_ne, bne_eq_false_iff_eq, Decidable.not_not, Int.toNat_natCast, Bool.not_eq_true', Bool.not_eq_false', Bool.not_eq_true, Bool.not_eq_false, Int.not_lt, Int.not_le] at *); omega))
              (all_goals try ((first | (show (_ : Int) ≤ _) | (show (_ : Int) < _) | (show (_ : Nat) ≤ _) | (show (_ : Nat) < _)); (try simp only [Int.toNat_natCast, List.length_cons, List.length_nil, umax64]); (try dsimp only [D, IK, dz, gT]); omega))
              all_goals (try simp only [decT, decF, beq_iff_eq, bne_iff_ne, ne_eq, beq_eq_false_iff_ne, bne_eq_false_iff_eq, Decidable.not_not, Int.toNat_natCast, Bool.not_eq_true', Bool.not_eq_false', Bool.not_eq_true, Bool.not_eq_false, Int.not_lt, Int.not_le] at *; try dsimp only [D, IK, dz] at *)
              all_goals try simp only [hml, List.length_cons, List.length_nil]
              all_goals first | omega | rfl | exact hfin | exact ⟨by omega, hsj⟩ | skip
            · have hB := hbi (by rw [← hnz]; omega)
              repeat' first | apply And.intro | (intro h; (cases h; done)) | (intro h; exfalso; simp only [decT, decF, beq_iff_eq, beq_eq_false_iff_ne, ne_eq, Int.toNat_natCast] at h; (try dsimp only [D, IK, dz, gT] at h); first | omega | exact absurd h (by assumption) | exact h (by assumption)) | intro _ | exact True.intro | (show Region.lexB _ _ = true; kernel_rfl)
              (all_goals try (show Fw.xRun _ _ _ _ _ _ _ _; exfalso; (try simp only [decT, decF, beq_iff_eq, bne_iff_ne, ne_eq, beq_eq_false_iff_ne, bne_eq_false_iff_eq, Decidable.not_not, Int.toNat_natCast, Bool.not_eq_true', Bool.not_eq_false', Bool.not_eq_true, Bool.not_eq_false, Int.not_lt, Int.not_le] at *); omega))
              (all_goals try ((first | (show (_ : Int) ≤ _) | (show (_ : Int) < _) | (show (_ : Nat) ≤ _) | (show (_ : Nat) < _)); (try simp only [Int.toNat_natCast, List.length_cons, List.length_nil, umax64]); (try dsimp only [D, IK, dz, gT]); omega))
              all_goals exact hB.symm
        · have h4k : (gates.getD i gz).1 = 4 := by omega
          have hz : onesK nz (gates.getD i gz) (gates.getD i gz).2.2.2.2.length = 0 := if_neg h3k
          have hsj := hsi (by omega)
          have hpl2 : ∀ a ∈ (gates.getD i gz).2.2.2.2, 0 ≤ a ∧ a < ((nz.take i).map b2i).length := fun a ha => by
            have := hap a ha
            omega
          have hat := at_fn ((nz.take i).map b2i) (gates.getD i gz).2.2.2.2 hpl2 (by omega)
          have hb01 : numsOK ((nz.take i).map b2i) := fun y hy => by
            obtain ⟨b, _, rfl⟩ := List.mem_map.1 hy
            cases b <;> decide
          have hll := atF_len ((nz.take i).map b2i) (gates.getD i gz).2.2.2.2
          have hpf := ref_product_fn (atF ((nz.take i).map b2i) (gates.getD i gz).2.2.2.2) (by omega) (atF_nums hb01 hpl2)
          have hpe : prodI (atF ((nz.take i).map b2i) (gates.getD i gz).2.2.2.2) = b2i (nzG x nz (gates.getD i gz)) := by
            rw [b2i_atF hap, b2i_prod (fun a => nz.getD a.toNat false), nzG, if_neg (by omega), if_neg (by omega), if_pos h4k]
          have hple : b2i (nzG x nz (gates.getD i gz)) ≤ 4611686018427387903 := by cases nzG x nz (gates.getD i gz) <;> decide
          rw [hpe, if_pos hple, decide_eq_true hple] at hpf
          have hfin : (nz.take i).map b2i ++ [b2i (nzG x nz (gates.getD i gz))] = (nz.take (i + 1)).map b2i := by rw [hst, List.map_append]; rfl
          generalize b2i (nzG x nz (gates.getD i gz)) = V at *
          dsimp only [gz] at h4k
          repeat' first | apply And.intro | (intro h; (cases h; done)) | (intro h; exfalso; simp only [decT, decF, beq_iff_eq, beq_eq_false_iff_ne, ne_eq, Int.toNat_natCast] at h; (try dsimp only [D, IK, dz, gT] at h); first | omega | exact absurd h (by assumption) | exact h (by assumption)) | intro _ | exact True.intro | (show Region.lexB _ _ = true; kernel_rfl) | refine CallK.fn [] hat rfl rfl rfl rfl rfl trivial ?_ | refine CallK.fn [] hpf rfl rfl rfl rfl rfl trivial ?_ | refine loopI.next (i + 1) [] [1, 3, 4, 5, 6] [(1, []), (5, [])] .fr ?_
          (all_goals try (show Fw.xRun _ _ _ _ _ _ _ _; exfalso; (try simp only [decT, decF, beq_iff_eq, bne_iff_ne, ne_eq, beq_eq_false_iff_ne, bne_eq_false_iff_eq, Decidable.not_not, Int.toNat_natCast, Bool.not_eq_true', Bool.not_eq_false', Bool.not_eq_true, Bool.not_eq_false, Int.not_lt, Int.not_le] at *); omega))
          (all_goals try ((first | (show (_ : Int) ≤ _) | (show (_ : Int) < _) | (show (_ : Nat) ≤ _) | (show (_ : Nat) < _)); (try simp only [Int.toNat_natCast, List.length_cons, List.length_nil, umax64]); (try dsimp only [D, IK, dz, gT]); omega))
          all_goals (try simp only [decT, decF, beq_iff_eq, bne_iff_ne, ne_eq, beq_eq_false_iff_ne, bne_eq_false_iff_eq, Decidable.not_not, Int.toNat_natCast, Bool.not_eq_true', Bool.not_eq_false', Bool.not_eq_true, Bool.not_eq_false, Int.not_lt, Int.not_le] at *; try dsimp only [D, IK, dz] at *)
          all_goals try simp only [hml, List.length_cons, List.length_nil]
          all_goals first | omega | rfl | exact hfin | exact ⟨by omega, hsj⟩ | skip
    · have hone : oneOK gates x := fun i' hi' => hnz ▸ hio i' (by omega)
      repeat' first | apply And.intro | (intro h; (cases h; done)) | (intro h; exfalso; simp only [decT, decF, beq_iff_eq, beq_eq_false_iff_ne, ne_eq, Int.toNat_natCast] at h; (try dsimp only [D, IK, dz, gT] at h); first | omega | exact absurd h (by assumption) | exact h (by assumption)) | intro _ | exact True.intro | (show Region.lexB _ _ = true; kernel_rfl) | refine loopI.next (a + 1) [] [1, 3, 4] [(1, [])] .fr ?_
      (all_goals try (show Fw.xRun _ _ _ _ _ _ _ _; exfalso; (try simp only [decT, decF, beq_iff_eq, bne_iff_ne, ne_eq, beq_eq_false_iff_ne, bne_eq_false_iff_eq, Decidable.not_not, Int.toNat_natCast, Bool.not_eq_true', Bool.not_eq_false', Bool.not_eq_true, Bool.not_eq_false, Int.not_lt, Int.not_le] at *); omega))
      (all_goals try ((first | (show (_ : Int) ≤ _) | (show (_ : Int) < _) | (show (_ : Nat) ≤ _) | (show (_ : Nat) < _)); (try simp only [Int.toNat_natCast, List.length_cons, List.length_nil, umax64]); (try dsimp only [D, IK, dz, gT]); omega))
      all_goals (try simp only [decT, decF, beq_iff_eq, bne_iff_ne, ne_eq, beq_eq_false_iff_ne, bne_eq_false_iff_eq, Decidable.not_not, Int.toNat_natCast, Bool.not_eq_true', Bool.not_eq_false', Bool.not_eq_true, Bool.not_eq_false, Int.not_lt, Int.not_le] at *; try dsimp only [D, IK, dz] at *)
      all_goals first | omega | rfl | exact ⟨by omega, hlx hone⟩ | skip
  · have hB := hgd fun x hx => by
      obtain ⟨i, hi, rfl⟩ := List.getElem_of_mem hx
      have := hao i (by omega)
      rwa [getD_lt hi] at this
    repeat' first | apply And.intro | (intro h; (cases h; done)) | (intro h; exfalso; simp only [decT, decF, beq_iff_eq, beq_eq_false_iff_ne, ne_eq, Int.toNat_natCast] at h; (try dsimp only [D, IK, dz, gT] at h); first | omega | exact absurd h (by assumption) | exact h (by assumption)) | intro _ | exact True.intro | (show Region.lexB _ _ = true; kernel_rfl)
    (all_goals try (show Fw.xRun _ _ _ _ _ _ _ _; exfalso; (try simp only [decT, decF, beq_iff_eq, bne_iff_ne, ne_eq, beq_eq_false_iff_ne, bne_eq_false_iff_eq, Decidable.not_not, Int.toNat_natCast, Bool.not_eq_true', Bool.not_eq_false', Bool.not_eq_true, Bool.not_eq_false, Int.not_lt, Int.not_le] at *); omega))
    (all_goals try ((first | (show (_ : Int) ≤ _) | (show (_ : Int) < _) | (show (_ : Nat) ≤ _) | (show (_ : Nat) < _)); (try simp only [Int.toNat_natCast, List.length_cons, List.length_nil, umax64]); (try dsimp only [D, IK, dz, gT]); omega))
    all_goals exact hB.symm
theorem prodN_le : ∀ {cs : List Int}, (∀ c ∈ cs, c ≤ 4) → prodN cs ≤ 4 ^ cs.length
  | [], _ => Nat.le_refl _
  | c :: cs, h => by
    have h1 := prodN_le (cs := cs) fun d hd => h d (List.mem_cons_of_mem _ hd)
    have h2 := h c List.mem_cons_self
    rw [prodN, List.length_cons, Nat.pow_succ, Nat.mul_comm]
    exact Nat.mul_le_mul h1 (by omega)
theorem allI_len (cards : List Int) : ∀ (k : Nat) (x : List Int), (allI cards k x).length ≤ k
  | 0, _ => Nat.le_refl _
  | k + 1, x => by
    rw [allI, List.length_cons]
    split
    · exact Nat.succ_le_succ (allI_len cards k _)
    · exact Nat.succ_le_succ (Nat.zero_le _)
theorem ref_apart_fn (cards : List Int) (gates : List Gate) (hr : rightB cards gates = true) (hargs : ∀ g ∈ gates, g.2.2.2.2.length ≤ 1000000) : Fw.Fn Try.prog 17 [.agg [.dat .old (.i .i64) cards, .dat .old gT gates]] [] (.val (.bool (apartB cards gates))) [] := by
  obtain ⟨h8, hc⟩ := cards_ok hr
  have hc1 : ∀ v, v < cards.length → 1 ≤ cards.getD v 0 := fun v hv => (hc v hv).1
  have hp : prodN cards.reverse ≤ 100000 := by
    refine Nat.le_trans (prodN_le fun c hm => ?_) (Nat.le_trans (Nat.pow_le_pow_right (by decide) (show cards.reverse.length ≤ 8 by rw [List.length_reverse]; exact h8)) (by decide))
    obtain ⟨v, hv, rfl⟩ := List.getElem_of_mem (List.mem_reverse.1 hm)
    have := hc v hv
    rw [getD_lt hv] at this
    exact this.2
  exact ref_apart_in cards gates (allF cards) _ hr hargs (Nat.le_trans (allI_len ..) hp) (fun x hx => (allF_mem hc1 x).1 hx)
    (fun x hx i hi h => apartB_false ((allF_mem hc1 x).1 hx) hi h) (fun h => apartB_true fun a ha => h a ((allF_mem hc1 a).2 ha)) (all_fn cards h8 hc hp)
end Go.Proofs.Ytbgnnpbcifgckaa
namespace Go.Proofs.Ytbgnnpbcifgckaa
open Go Go.Fw Go.RowKit
set_option maxRecDepth 100000
set_option maxHeartbeats 4000000
theorem checks_fn (dc : List Nat) (dg : List Q4) (big : Bool) (bs : List Bd) (cards : List Int) (gates : List Gate)
    (hdc : ∀ c ∈ dc, c ≤ 255) (hdg : ∀ q ∈ dg, q.1 ≤ 255 ∧ q.2.1 ≤ 255 ∧ q.2.2.1 ≤ 255 ∧ q.2.2.2 ≤ 255) (hl : dc.length ≤ 9223372036854775807) (hl2 : dg.length ≤ 9223372036854775807)
    (h2 : bs.length = 2) (hb : ∀ b ∈ bs, b.1 ≤ 255 ∧ b.2.1 ≤ 255 ∧ b.2.2 ≤ 9223372036854775807) (hlc : cards.length ≤ 9223372036854775807) (hlg : gates.length ≤ 9223372036854775807) (hargs : ∀ g ∈ gates, g.2.2.2.2.length ≤ 9223372036854775807) (hk : ∀ k ∈ cards, k ≤ 9223372036854775807) :
    Fw.Fn Try.prog 3 [.agg [.dat .old (.i .u8) dc, .dat .old a4T dg, .val (.bool big)], .av .old bendT bs, .agg [.dat .old (.i .i64) cards, .dat .old gT gates]] [] (.val (.bool true)) [] := by
  have hcf := circuits_fn dc dg big bs cards gates hdc hdg hl hl2 h2 hb hlc hlg hargs
  have hcok := circ_ok dc dg big bs cards gates h2 (fun b h => (hb b h).2.2) hk
  have hcl : (circF dc dg big bs cards gates).length = 4 := rfl
  refine fn_go env_ok mixed Try.func3 (c := Try.f3.body.get rfl) rfl (by kernel_rfl) [] rfl ?_
  repeat' first | apply And.intro | (intro h; (cases h; done)) | (intro h; exfalso; simp only [decT, decF, beq_iff_eq, beq_eq_false_iff_ne, ne_eq, Int.toNat_natCast] at h; (try dsimp only [D, IK, dz, gT] at h); first | omega | exact absurd h (by assumption) | exact h (by assumption)) | intro _ | exact True.intro | (show Region.lexB _ _ = true; kernel_rfl) | refine CallK.fn [] wakes_fn rfl rfl rfl rfl rfl trivial ?_ | refine CallK.fn [] hcf rfl rfl rfl rfl rfl trivial ?_
  · show bs.length * 3 = 6
    omega
  generalize circF dc dg big bs cards gates = C at *
  clear hcf
  refine ⟨loopI (fun j : Nat => { n := 124, t := [(26, .av .old cT C), (27, .val (.int .i64 j))], h := [], nx := 0 }) (fun j => 4 - j) (fun j => Ok (j ≤ 4)),
    loopI.start 0 [] [26, 27] [] .fr (by (repeat' first | apply And.intro | rfl); exact ⟨Nat.zero_le _⟩), ?_⟩
  rintro _ _ ⟨j, rfl, rfl, ⟨hj⟩⟩
  by_cases hlt : j < 4
  · have hc := hcok _ (getD_mem (d := (([], []) : Cc)) (show j < C.length by omega))
    have ha : ∀ {n : Nat}, 10 ≤ n → ∀ g ∈ (C.getD j (([], []) : Cc)).2, g.2.2.2.2.length ≤ n := fun h g hg => Nat.le_trans (hc.la g hg) h
    have f1 := ref_right_fn (C.getD j (([], []) : Cc)).1 (C.getD j (([], []) : Cc)).2 (ha (by decide))
    have f2 := check_fn (C.getD j (([], []) : Cc)).1 (C.getD j (([], []) : Cc)).2 (Nat.le_trans hc.lc (by decide)) (Nat.le_trans hc.lg (by decide)) (ha (by decide))
    cases hr : rightB (C.getD j (([], []) : Cc)).1 (C.getD j (([], []) : Cc)).2 with
    | false =>
      have f3 := kinds_no (C.getD j (([], []) : Cc)).1 (C.getD j (([], []) : Cc)).2 (Nat.le_trans hc.lg (by decide)) (Nat.le_trans hc.lc (by decide)) (ha (by decide)) hr
      have f4 := size_no (C.getD j (([], []) : Cc)).1 (C.getD j (([], []) : Cc)).2 (Nat.le_trans hc.lg (by decide)) (Nat.le_trans hc.lc (by decide)) (ha (by decide)) hr
      rw [hr] at f1 f2
      rw [if_neg (by decide)] at f2
      repeat' first | apply And.intro | (intro h; (cases h; done)) | (intro h; exfalso; simp only [decT, decF, beq_iff_eq, beq_eq_false_iff_ne, ne_eq, Int.toNat_natCast] at h; (try dsimp only [D, IK, dz, gT] at h); first | omega | exact absurd h (by assumption) | exact h (by assumption)) | intro _ | exact True.intro | (show Region.lexB _ _ = true; kernel_rfl) | refine CallK.fn [] f1 rfl rfl rfl rfl rfl trivial ?_ | refine CallK.fn [] f2 rfl rfl rfl rfl rfl trivial ?_ | refine CallK.fn [] f3 rfl rfl rfl rfl rfl trivial ?_ | refine CallK.fn [] f4 rfl rfl rfl rfl rfl trivial ?_ | refine loopI.next (j + 1) [] [26, 27] [] .fr ?_
      all_goals try exact hcl
      (all_goals try (show Fw.xRun _ _ _ _ _ _ _ _; exfalso; (try simp only [decT, decF, beq_iff_eq, bne_iff_ne, ne_eq, beq_eq_false_iff_ne, bne_eq_false_iff_eq, Decidable.not_not, Int.toNat_natCast, Bool.not_eq_true', Bool.not_eq_false', Bool.not_eq_true, Bool.not_eq_false, Int.not_lt, Int.not_le] at *); omega))
      (all_goals try ((first | (show (_ : Int) ≤ _) | (show (_ : Int) < _) | (show (_ : Nat) ≤ _) | (show (_ : Nat) < _)); (try simp only [Int.toNat_natCast, List.length_cons, List.length_nil, umax64]); (try dsimp only [D, IK, dz, gT]); omega))
      all_goals (try simp only [decT, decF, beq_iff_eq, bne_iff_ne, ne_eq, beq_eq_false_iff_ne, bne_eq_false_iff_eq, Decidable.not_not, Int.toNat_natCast, Bool.not_eq_true', Bool.not_eq_false', Bool.not_eq_true, Bool.not_eq_false, Int.not_lt, Int.not_le] at *; try dsimp only [D, IK, dz] at *)
      all_goals first | omega | rfl | exact ⟨by omega⟩ | skip
    | true =>
      have f3 := kinds_fn (C.getD j (([], []) : Cc)).1 (C.getD j (([], []) : Cc)).2 (Nat.le_trans hc.lg (by decide)) (Nat.le_trans hc.lc (by decide)) (ha (by decide)) hr
      have f4 := size_fn (C.getD j (([], []) : Cc)).1 (C.getD j (([], []) : Cc)).2 (Nat.le_trans hc.lg (by decide)) (Nat.le_trans hc.lc (by decide)) (ha (by decide)) hr
      rw [hr] at f1 f2
      rw [if_pos rfl] at f2
      repeat' first | apply And.intro | (intro h; (cases h; done)) | (intro h; exfalso; simp only [decT, decF, beq_iff_eq, beq_eq_false_iff_ne, ne_eq, Int.toNat_natCast] at h; (try dsimp only [D, IK, dz, gT] at h); first | omega | exact absurd h (by assumption) | exact h (by assumption)) | intro _ | exact True.intro | (show Region.lexB _ _ = true; kernel_rfl) | refine CallK.fn [] f1 rfl rfl rfl rfl rfl trivial ?_ | refine CallK.fn [] f2 rfl rfl rfl rfl rfl trivial ?_ | refine CallK.fn [] f3 rfl rfl rfl rfl rfl trivial ?_ | refine CallK.fn [] f4 rfl rfl rfl rfl rfl trivial ?_
      all_goals try exact hcl
      (all_goals try (show Fw.xRun _ _ _ _ _ _ _ _; exfalso; (try simp only [decT, decF, beq_iff_eq, bne_iff_ne, ne_eq, beq_eq_false_iff_ne, bne_eq_false_iff_eq, Decidable.not_not, Int.toNat_natCast, Bool.not_eq_true', Bool.not_eq_false', Bool.not_eq_true, Bool.not_eq_false, Int.not_lt, Int.not_le] at *); omega))
      (all_goals try ((first | (show (_ : Int) ≤ _) | (show (_ : Int) < _) | (show (_ : Nat) ≤ _) | (show (_ : Nat) < _)); (try simp only [Int.toNat_natCast, List.length_cons, List.length_nil, umax64]); (try dsimp only [D, IK, dz, gT]); omega))
      have f5 := ref_smooth_fn (C.getD j (([], []) : Cc)).1 (C.getD j (([], []) : Cc)).2 hr (ha (by decide))
      have f6 := ref_decomp_fn (C.getD j (([], []) : Cc)).1 (C.getD j (([], []) : Cc)).2 hr (ha (by decide))
      have f7 := ref_apart_fn (C.getD j (([], []) : Cc)).1 (C.getD j (([], []) : Cc)).2 hr (ha (by decide))
      have hel := edgesF_le (gates := (C.getD j (([], []) : Cc)).2) (ha (Nat.le_refl _))
      obtain ⟨c, hcc⟩ : ∃ c, c = C.getD j (([], []) : Cc) := ⟨_, rfl⟩
      refine ⟨loopI (fun i : Nat => { n := 124, t := [(8, .ptr 0 0), (11, .val (.bool (smF (varsF c.2) c.2 c.2.length))), (12, .val (.bool (dcF (varsF c.2) c.2 c.2.length))), (13, .val (.bool (apartB c.1 c.2))), (15, .val (.int .i64 (↑(List.length c.2)))), (16, .val (.int .i64 (↑(edgesF c.2 c.2.length)))), (18, .val (.int .i64 (edgesF c.2 i : Nat))), (26, .av .old cT C), (27, .val (.int .i64 j)), (83, .dat .old gT c.2), (84, .val (.int .i64 (↑(List.length c.2)))), (85, .val (.int .i64 i))], h := [(0, some (.cells [.dat .old (.i .i64) c.1, .dat .old gT c.2]))], nx := 1 }) (fun i => c.2.length - i) (fun i => Ok (i ≤ c.2.length)),
        loopI.start 0 [] [8, 11, 12, 13, 15, 16, 18, 26, 27, 83, 84, 85] [(8, [])] .fr (by rw [hcc]; (repeat' first | apply And.intro | rfl); exact ⟨Nat.zero_le _⟩), ?_⟩
      rw [← hcc] at f5 f6 f7 hc ha hel
      clear f1 f2 f3 f4 hcc hr
      have hcg := hc.lg
      generalize smF (varsF c.2) c.2 c.2.length = S at *
      generalize dcF (varsF c.2) c.2 c.2.length = D' at *
      generalize apartB c.1 c.2 = A at *
      rintro _ _ ⟨i, rfl, rfl, ⟨hi⟩⟩
      have hei := hel i hi
      by_cases hil : i < c.2.length
      · have hai := ha (Nat.le_refl 10) _ (getD_mem (d := gz) hil)
        have hes : edgesF c.2 (i + 1) = edgesF c.2 i + (c.2.getD i gz).2.2.2.2.length := rfl
        dsimp only [gz] at hai hes
        repeat' first | apply And.intro | (intro h; (cases h; done)) | (intro h; exfalso; simp only [decT, decF, beq_iff_eq, beq_eq_false_iff_ne, ne_eq, Int.toNat_natCast] at h; (try dsimp only [D, IK, dz, gT] at h); first | omega | exact absurd h (by assumption) | exact h (by assumption)) | intro _ | exact True.intro | (show Region.lexB _ _ = true; kernel_rfl) | refine loopI.next (i + 1) [] [8, 11, 12, 13, 15, 16, 18, 26, 27, 83, 84, 85] [(8, [])] .fr ?_
        (all_goals try (show Fw.xRun _ _ _ _ _ _ _ _; exfalso; (try simp only [decT, decF, beq_iff_eq, bne_iff_ne, ne_eq, beq_eq_false_iff_ne, bne_eq_false_iff_eq, Decidable.not_not, Int.toNat_natCast, Bool.not_eq_true', Bool.not_eq_false', Bool.not_eq_true, Bool.not_eq_false, Int.not_lt, Int.not_le] at *); omega))
        (all_goals try ((first | (show (_ : Int) ≤ _) | (show (_ : Int) < _) | (show (_ : Nat) ≤ _) | (show (_ : Nat) < _)); (try simp only [Int.toNat_natCast, List.length_cons, List.length_nil, umax64]); (try dsimp only [D, IK, dz, gT]); omega))
        all_goals (try simp only [decT, decF, beq_iff_eq, bne_iff_ne, ne_eq, beq_eq_false_iff_ne, bne_eq_false_iff_eq, Decidable.not_not, Int.toNat_natCast, Bool.not_eq_true', Bool.not_eq_false', Bool.not_eq_true, Bool.not_eq_false, Int.not_lt, Int.not_le] at *; try dsimp only [D, IK, dz] at *)
        all_goals first | omega | rfl | exact ⟨by omega⟩ | (rw [hes]; done) | skip
      · have hie : i = c.2.length := by omega
        repeat' first | apply And.intro | (intro h; (cases h; done)) | (intro h; exfalso; simp only [decT, decF, beq_iff_eq, beq_eq_false_iff_ne, ne_eq, Int.toNat_natCast] at h; (try dsimp only [D, IK, dz, gT] at h); first | omega | exact absurd h (by assumption) | exact h (by assumption)) | intro _ | exact True.intro | (show Region.lexB _ _ = true; kernel_rfl) | refine CallK.fn [] f5 rfl rfl rfl rfl rfl trivial ?_ | refine CallK.fn [] f6 rfl rfl rfl rfl rfl trivial ?_ | refine CallK.fn [] f7 rfl rfl rfl rfl rfl trivial ?_ | refine loopI.next (j + 1) [] [26, 27] [] .fr ?_
        (all_goals try (show Fw.xRun _ _ _ _ _ _ _ _; exfalso; (try simp only [decT, decF, beq_iff_eq, bne_iff_ne, ne_eq, beq_eq_false_iff_ne, bne_eq_false_iff_eq, Decidable.not_not, Int.toNat_natCast, Bool.not_eq_true', Bool.not_eq_false', Bool.not_eq_true, Bool.not_eq_false, Int.not_lt, Int.not_le] at *); omega))
        (all_goals try ((first | (show (_ : Int) ≤ _) | (show (_ : Int) < _) | (show (_ : Nat) ≤ _) | (show (_ : Nat) < _)); (try simp only [Int.toNat_natCast, List.length_cons, List.length_nil, umax64]); (try dsimp only [D, IK, dz, gT]); omega))
        all_goals (try simp only [decT, decF, beq_iff_eq, bne_iff_ne, ne_eq, beq_eq_false_iff_ne, bne_eq_false_iff_eq, Decidable.not_not, Int.toNat_natCast, Bool.not_eq_true', Bool.not_eq_false', Bool.not_eq_true, Bool.not_eq_false, Int.not_lt, Int.not_le] at *; try dsimp only [D, IK, dz] at *)
        all_goals first | omega | rfl | exact ⟨by omega⟩ | (exfalso; simp_all; done) | skip
  · repeat' first | apply And.intro | (intro h; (cases h; done)) | (intro h; exfalso; simp only [decT, decF, beq_iff_eq, beq_eq_false_iff_ne, ne_eq, Int.toNat_natCast] at h; (try dsimp only [D, IK, dz, gT] at h); first | omega | exact absurd h (by assumption) | exact h (by assumption)) | intro _ | exact True.intro | (show Region.lexB _ _ = true; kernel_rfl)
    (all_goals try (show Fw.xRun _ _ _ _ _ _ _ _; exfalso; (try simp only [decT, decF, beq_iff_eq, bne_iff_ne, ne_eq, beq_eq_false_iff_ne, bne_eq_false_iff_eq, Decidable.not_not, Int.toNat_natCast, Bool.not_eq_true', Bool.not_eq_false', Bool.not_eq_true, Bool.not_eq_false, Int.not_lt, Int.not_le] at *); omega))
    all_goals rfl
end Go.Proofs.Ytbgnnpbcifgckaa
namespace Go.Proofs.Ytbgnnpbcifgckaa
open Go Go.Fw Go.RowKit Go.ChangeShapes Go.WideShapes Go.ChangeAt
set_option maxRecDepth 100000 in
theorem checks_lifted (os : Os) (started : os.Started) (H : Type) (enc : TypeId × Value → H) :
    ReturnsInHanded {} Try.checked os 3 .any (Rows.circuitChecksSpec.pre6 enc Try.prog Try.f3 Rows.circuitChecksRow.domain false) (Rows.circuitChecksSpec.post enc Try.prog Try.f3 false true false false) := by
  refine law_lifted (C := Try.checked) (T := 4) own started (by kernel_rfl) Try.func3
    (ChangeSpec.witness6 (enc := enc) (C := Try.checked) false ⟨#[], #[.agg #[.slice none 0 0, .slice none 0 0, .bool false], .agg #[.int .u8 0, .int .u8 0, .int .i64 0, .int .u8 0, .int .u8 0, .int .i64 0], .agg #[.slice none 0 0, .slice none 0 0]], []⟩ 8 (by kernel_rfl) (by kernel_rfl) (by kernel_rfl) (by kernel_rfl))
    laid (by kernel_rfl) rfl (fun ds hd => ?_) rfl rfl ?_
  · match ds, hd with
    | [d1, d2, d3], _ => exact ⟨rfl, rfl, rfl⟩
  · intro W base args ds ps hval hA
    obtain ⟨v0, v1, v2, d0, d1, d2, p0, p1, p2, rfl, rfl, rfl, ⟨n0, h0⟩, ⟨n1, h1⟩, ⟨n2, h2⟩⟩ := trodAll_three (t := 25) (t' := 28) (t'' := 32) hA
    have e0 := hval 0 25 v0 rfl rfl
    have e1 := hval 1 28 v1 rfl rfl
    have e2 := hval 2 32 v2 rfl rfl
    obtain ⟨x0, w0, r0⟩ := trod_RD 9 ty25 h0
    obtain ⟨x1, w1, r1⟩ := trod_RD 9 ty28 h1
    obtain ⟨x2, w2, r2⟩ := trod_RD 9 ty32 h2
    obtain ⟨cs0, rfl, _⟩ := okWide_struct (P := Try.prog) (t := 25) rfl e0
    obtain ⟨cs1, rfl, _⟩ := okWide_array (P := Try.prog) (t := 28) rfl e1
    obtain ⟨cs2, rfl, _⟩ := okWide_struct (P := Try.prog) (t := 32) rfl e2
    obtain ⟨a1, a2, a3, a4⟩ := read_draft w0
    obtain ⟨b1, b2, b3, b4⟩ := read_cc w2
    have g := checks_fn (x0.1 : List Nat) (x0.2.1 : List Q4) (x0.2.2 : Bool) (list2 x1) (x2.1 : List Int) (x2.2 : List Gate) a1 a2 a3 a4 rfl (wf2 w1) b1 b2 b3 b4
    refine Fn.law (w := W) g (vs := [.agg cs0, .agg cs1, .agg cs2]) (.cons ?_ (.cons ?_ (.cons ?_ .nil)))
    · exact .agg (RD.cells (c := cx0 W) (o := .old) (t := draftT) (x := x0) (r0.imp fun b hb => ok0 hb))
    · exact av2 (c := cx0 W) (fun b hb => ok0 hb) r1
    · exact .agg (RD.cells (c := cx0 W) (o := .old) (t := cT) (x := x2) (r2.imp fun b hb => ok0 hb))
theorem checks_over : Rows.circuitChecksRow.holds Try.pinned (OpenSpec.ofChange Rows.circuitChecksSpec) :=
  OpenClaim.holds_of_wide 3 Try.f3 rfl rfl rfl rfl rfl rfl rfl ⟨rfl, rfl, rfl, rfl, rfl⟩ rfl rfl rfl rfl rfl (by kernel_rfl) Try.func3 (by kernel_rfl)
    (of_decide_eq_true (by kernel_rfl)) (by unfold Func.isWrapper; first | (rw [if_pos (by decide +kernel)]; kernel_rfl) | (rw [if_neg (by decide +kernel)]; exact ⟨rfl, rfl⟩))
    (fun os started H enc _ => checks_lifted os started H enc)
/-- The statement. -/
theorem circuitChecks_proved : Rows.CircuitChecksSaid := checks_over
end Go.Proofs.Ytbgnnpbcifgckaa
