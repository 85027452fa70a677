/- Proved here: the statement CircuitDerives of the seat, whole, under no condition: Derive returns the defined derivatives, or the defined error, for all circuits and inputs. (The function returns true for all drafts, changes, circuits, bytes and lists, in every world that the statement speaks of.) -/
import Derived.Test.YtbgnnpbcifgckaaDerives5
set_option linter.all false
namespace Go.Proofs.Ytbgnnpbcifgckaa
open Go Go.Fw Go.RowKit
set_option maxRecDepth 100000
set_option maxHeartbeats 4000000
theorem argsB_of {cards : List Int} {i : Int} {g : Gate} (hg : gOK cards i g = true) : argsB i g.2.2.2.2 = true := by
  rcases gate_ok hg with h | h | h
  · rw [h.2.2.2]; rfl
  · rw [h.2.2.2.2.2]; rfl
  · exact h.2.2
theorem ref_derive_in (cards : List Int) (gates : List Gate) (input vs : List Int) (R : List (List Int) × Int) (hg : allG cards gates) (hvl : vs.length = gates.length) (hn : numsOK vs) (h1 : 1 ≤ gates.length) (h4 : gates.length ≤ 4000) (hargs : ∀ g ∈ gates, g.2.2.2.2.length ≤ 1048576)
  (hc8 : cards.length ≤ 8) (hc : ∀ v, v < cards.length → 1 ≤ cards.getD v 0 ∧ cards.getD v 0 ≤ 4)
  (hb1 : ∀ i, 4611686018427387903 < (sF vs gates).getD i 0 → R = ([], 6)) (hb2 : ∀ v x : Nat, v < cards.length → (x : Int) < cards.getD v 0 → 4611686018427387903 < sumI (outP vs gates v x gates.length) → R = ([], 6))
  (hgd : (∀ i, i < gates.length → (sF vs gates).getD i 0 ≤ 4611686018427387903) → (∀ v x : Nat, v < cards.length → (x : Int) < cards.getD v 0 → sumI (outP vs gates v x gates.length) ≤ 4611686018427387903) → R = (outS cards vs gates gates.length, 0))
  (x0 : Int) (hE : Fw.Fn Try.prog 20 [.agg [.dat .old (.i .i64) cards, .dat .old gT gates], .dat .old (.i .i64) input] [] (.tup [.val (.int .i64 x0), .val (.int .i64 0)]) [])
  (hV : Fw.Fn Try.prog 46 [.agg [.dat .old (.i .i64) cards, .dat .old gT gates], .dat .old (.i .i64) input] [] (.tup [.dat .fr (.i .i64) vs, .val (.bool true)]) []) :
    Fw.Fn Try.prog 22 [.agg [.dat .old (.i .i64) cards, .dat .old gT gates], .dat .old (.i .i64) input] [] (.tup [.dat .fr (.sl (.i .i64)) R.1, .val (.int .i64 R.2)]) [] := by
  have hnn := nn_of hn
  have hS0 : ∀ j, gates.length - 1 - 0 ≤ j → (sF vs gates).getD j 0 ≤ 4611686018427387903 := by
    intro j hj
    by_cases e : j = gates.length - 1
    · rw [e, sF_last hg h1]; decide
    · rw [List.getD_eq_getElem?_getD, List.getElem?_eq_none (by rw [sF_len]; omega)]; decide
  refine fn_go env_ok mixed Try.func22 (c := Try.f22.body.get rfl) rfl (by kernel_rfl) [] rfl ?_
  repeat' first | apply And.intro | (intro h; (cases h; done)) | (intro h; exfalso; simp only [decT, decF, beq_iff_eq, beq_eq_false_iff_ne, ne_eq, Int.toNat_natCast] at h; (try dsimp only [D, IK, dz, gT] at h); first | omega | exact absurd h (by assumption) | exact h (by assumption)) | intro _ | exact True.intro | (show Region.lexB _ _ = true; kernel_rfl) | refine CallK.fn [] hE rfl rfl rfl rfl rfl trivial ?_ | refine CallK.fn [] hV rfl rfl rfl rfl rfl trivial ?_
  all_goals try omega
  · show (gates.length : Int) * 8 ≤ _; omega
  · rw [List.length_replicate]; omega
  · rw [List.length_replicate]; omega
  refine ⟨loopI (fun k : Nat => { n := 183, t := [(2, .ptr 0 0), (8, .dat .fr (.i .i64) vs), (10, .val (.int .i64 (↑(List.length gates)))), (11, .own 1), (12, .val (.int .i64 (↑(List.length gates) - 2 - k)))], h := [(0, some (.cells [.dat .old (.i .i64) cards, .dat .old gT gates])), (1, some (.arr .fr (.i .i64) (dK vs gates k)))], nx := 2 }) (fun k => gates.length - k) (fun k => Ok (k + 1 ≤ gates.length ∧ ∀ j, gates.length - 1 - k ≤ j → (sF vs gates).getD j 0 ≤ 4611686018427387903)),
    loopI.start 0 [] [2, 8, 10, 11, 12] [(2, []), (11, [])] .fr (by (repeat' first | apply And.intro | rfl) <;> first | (rw [← dK_zero hg h1]; congr 1; omega) | (show (_ : Int) = _; omega) | exact ⟨h1, hS0⟩), ?_⟩
  rintro _ _ ⟨k, rfl, rfl, ⟨hk, hd⟩⟩
  have hdl := dK_len vs gates k
  by_cases hk2 : k + 2 ≤ gates.length
  · have hi : ((gates.length : Int) - 2 - k).toNat = gates.length - 2 - k := by omega
    repeat' first | apply And.intro | (intro h; (cases h; done)) | (intro h; exfalso; simp only [decT, decF, beq_iff_eq, beq_eq_false_iff_ne, ne_eq, Int.toNat_natCast] at h; (try dsimp only [D, IK, dz, gT] at h); first | omega | exact absurd h (by assumption) | exact h (by assumption)) | intro _ | exact True.intro | (show Region.lexB _ _ = true; kernel_rfl)
    (all_goals try ((first | (show (_ : Int) ≤ _) | (show (_ : Int) < _) | (show (_ : Nat) ≤ _) | (show (_ : Nat) < _)); (try simp only [Int.toNat_natCast, List.length_cons, List.length_nil, umax64]); (try dsimp only [D, IK, dz, gT]); omega))
    refine ⟨loopI (fun t : Nat => { n := 183, t := [(2, .ptr 0 0), (8, .dat .fr (.i .i64) vs), (10, .val (.int .i64 (↑(List.length gates)))), (11, .own 1), (12, .val (.int .i64 (↑(List.length gates) - 2 - ↑k))), (13, .own 2), (14, .val (.int .i64 (↑(List.length gates) - 2 - ↑k + 1 + t)))], h := [(0, some (.cells [.dat .old (.i .i64) cards, .dat .old gT gates])), (1, some (.arr .fr (.i .i64) (dK vs gates k))), (2, some (.arr .fr (.i .i64) (parD vs gates (gates.length - 2 - k) t)))], nx := 3 }) (fun t => k + 1 - t) (fun t => Ok (t ≤ k + 1 ∧ (∀ x ∈ parD vs gates (gates.length - 2 - k) t, x ≤ 4611686018427387903) ∧ (parD vs gates (gates.length - 2 - k) t).length ≤ t)),
      loopI.start 0 [13] [2, 8, 10, 11, 12, 13, 14] [(2, []), (11, []), (13, [])] .fr (by (repeat' first | apply And.intro | rfl) <;> first | (show (_ : Int) = _; omega) | exact ⟨Nat.zero_le _, fun x hx => (by cases hx), Nat.le_refl _⟩), ?_⟩
    rintro _ _ ⟨t, rfl, rfl, ⟨ht, hp, hpl⟩⟩
    have hpn := parD_nn (gates := gates) hnn (gates.length - 2 - k) t
    by_cases hlt : t < k + 1
    · have hix : ((gates.length : Int) - 2 - k + 1 + t).toNat = gates.length - 2 - k + 1 + t := by omega
      have hiz : ((gates.length - 2 - k : Nat) : Int) = (gates.length : Int) - 2 - k := by omega
      have hjl : gates.length - 2 - k + 1 + t < gates.length := by omega
      have hal := hargs _ (getD_mem (d := gz) hjl)
      have hw := without_len (gates.getD (gates.length - 2 - k + 1 + t) gz).2.2.2.2 ((gates.length : Int) - 2 - k)
      have hsn := parD_snoc vs gates (gates.length - 2 - k) t
      have hdj := dK_get vs gates (k := k) (j := gates.length - 2 - k + 1 + t) (by omega)
      have hdb := hd (gates.length - 2 - k + 1 + t) (by omega)
      rw [hiz] at hsn
      rw [← hix] at hal hw hsn hdj hdb hjl
      have hwo := without_fn (gates.getD ((gates.length : Int) - 2 - k + 1 + t).toNat gz).2.2.2.2 ((gates.length : Int) - 2 - k) hal
      dsimp only [gz] at hal hw hsn hwo
      by_cases hm : ((gates.length : Int) - 2 - k) ∈ (gates.getD ((gates.length : Int) - 2 - k + 1 + t).toNat (0, 0, 0, 0, [])).2.2.2.2
      · rw [if_pos hm] at hsn
        have hw : ¬ _ := fun e => hw.1 e hm
        have hj0 := hg _ hjl
        have har : argsB (((gates.length : Int) - 2 - k + 1 + t).toNat : Nat) (gates.getD ((gates.length : Int) - 2 - k + 1 + t).toNat (0, 0, 0, 0, [])).2.2.2.2 = true := argsB_of hj0
        have hal2 := adD_le hg hnn (i := gates.length - 2 - k) (t := t) (by omega) (by rw [hiz, ← hix]; exact hm)
        have hsj := sF_nn (gates := gates) hnn (((gates.length : Int) - 2 - k + 1 + t).toNat)
        have hA : adD vs gates (gates.length - 2 - k) ((gates.length : Int) - 2 - k + 1 + t).toNat = (sF vs gates).getD ((gates.length : Int) - 2 - k + 1 + t).toNat 0 * byD vs (gates.getD ((gates.length : Int) - 2 - k + 1 + t).toNat (0, 0, 0, 0, [])) ((gates.length : Int) - 2 - k) := by rw [adD, hiz]
        rw [← hix] at hal2
        have hab : 4611686018427387903 < adD vs gates (gates.length - 2 - k) ((gates.length : Int) - 2 - k + 1 + t).toNat → R = ([], 6) := fun h => hb1 _ (Int.lt_of_lt_of_le h hal2)
        generalize hAA : adD vs gates (gates.length - 2 - k) ((gates.length : Int) - 2 - k + 1 + t).toNat = A at *
        have hpa : 0 ≤ A := by rw [← hAA]; exact adD_nn hnn _ _
        by_cases h4k : (gates.getD ((gates.length : Int) - 2 - k + 1 + t).toNat (0, 0, 0, 0, [])).1 = 4
        · have hby : byD vs (gates.getD ((gates.length : Int) - 2 - k + 1 + t).toNat (0, 0, 0, 0, [])) ((gates.length : Int) - 2 - k) = prodI (atF vs ((gates.getD ((gates.length : Int) - 2 - k + 1 + t).toNat (0, 0, 0, 0, [])).2.2.2.2.filter fun a => a != (gates.length : Int) - 2 - k)) := if_pos h4k
          have hfl := List.length_filter_le (fun a => a != (gates.length : Int) - 2 - k) (gates.getD ((gates.length : Int) - 2 - k + 1 + t).toNat (0, 0, 0, 0, [])).2.2.2.2
          have hpl2 : ∀ a ∈ (gates.getD ((gates.length : Int) - 2 - k + 1 + t).toNat (0, 0, 0, 0, [])).2.2.2.2.filter (fun a => a != (gates.length : Int) - 2 - k), 0 ≤ a ∧ a < vs.length := fun a ha => by
            have := args_mem har a (List.mem_filter.1 ha).1
            omega
          have hat := at_fn vs ((gates.getD ((gates.length : Int) - 2 - k + 1 + t).toNat (0, 0, 0, 0, [])).2.2.2.2.filter fun a => a != (gates.length : Int) - 2 - k) hpl2 (by omega)
          have hnu := atF_nums hn hpl2
          have hll := atF_len vs ((gates.getD ((gates.length : Int) - 2 - k + 1 + t).toNat (0, 0, 0, 0, [])).2.2.2.2.filter fun a => a != (gates.length : Int) - 2 - k)
          have hpf := ref_product_fn ([(dK vs gates k).getD ((gates.length : Int) - 2 - k + 1 + t).toNat 0] ++ atF vs ((gates.getD ((gates.length : Int) - 2 - k + 1 + t).toNat (0, 0, 0, 0, [])).2.2.2.2.filter fun a => a != (gates.length : Int) - 2 - k)) (by rw [List.length_append, hll, List.length_singleton]; omega) (fun x hx => by
            rcases List.mem_append.1 hx with h | h
            · rw [List.mem_singleton.1 h, hdj]; exact ⟨hsj, hdb⟩
            · exact hnu x h)
          have hpe : prodI ([(dK vs gates k).getD ((gates.length : Int) - 2 - k + 1 + t).toNat 0] ++ atF vs ((gates.getD ((gates.length : Int) - 2 - k + 1 + t).toNat (0, 0, 0, 0, [])).2.2.2.2.filter fun a => a != (gates.length : Int) - 2 - k)) = A := by
            rw [List.singleton_append, prodI_cons, hdj, hA, hby]
          rw [hpe] at hpf
          by_cases hAM : A ≤ 4611686018427387903
          · rw [if_pos hAM, decide_eq_true hAM] at hpf
            repeat' first | apply And.intro | (intro h; (cases h; done)) | (intro h; exfalso; simp only [decT, decF, beq_iff_eq, beq_eq_false_iff_ne, ne_eq, Int.toNat_natCast] at h; (try dsimp only [D, IK, dz, gT] at h); first | omega | exact absurd h (by assumption) | exact h (by assumption)) | intro _ | exact True.intro | (show Region.lexB _ _ = true; kernel_rfl) | refine CallK.fn [] hwo rfl rfl rfl rfl rfl trivial ?_ | refine CallK.fn [] hat rfl rfl rfl rfl rfl trivial ?_ | refine CallK.fn [] hpf rfl rfl rfl rfl rfl trivial ?_ | refine loopI.next (t + 1) [] [2, 8, 10, 11, 12, 13, 14] [(2, []), (11, []), (13, [])] .fr ?_
            (all_goals try (show Fw.xRun _ _ _ _ _ _ _ _; exfalso; (try simp only [decT, decF, beq_iff_eq, bne_iff_ne, ne_eq, beq_eq_false_iff_ne, bne_eq_false_iff_eq, Decidable.not_not, Int.toNat_natCast, Bool.not_eq_true', Bool.not_eq_false', Bool.not_eq_true, Bool.not_eq_false, Int.not_lt, Int.not_le] at *); omega))
            (all_goals try ((first | (show (_ : Int) ≤ _) | (show (_ : Int) < _) | (show (_ : Nat) ≤ _) | (show (_ : Nat) < _)); (try simp only [Int.toNat_natCast, List.length_cons, List.length_nil, umax64]); (try dsimp only [D, IK, dz, gT]); omega))
            all_goals (try simp only [decT, decF, beq_iff_eq, bne_iff_ne, ne_eq, beq_eq_false_iff_ne, bne_eq_false_iff_eq, Decidable.not_not, Int.toNat_natCast, Bool.not_eq_true', Bool.not_eq_false', Bool.not_eq_true, Bool.not_eq_false, Int.not_lt, Int.not_le] at *; try dsimp only [D, IK, dz] at *)
            all_goals try simp only [hll, List.length_cons, List.length_nil, List.length_append]
            all_goals first | omega | rfl | exact hsn.symm | exact ⟨by omega, by rw [hsn]; exact fun x hx => (List.mem_append.1 hx).elim (hp x) (fun h => by rw [List.mem_singleton.1 h]; exact hAM), by rw [hsn, List.length_append, List.length_singleton]; omega⟩ | skip
          · rw [if_neg hAM, decide_eq_false hAM] at hpf
            have hRR := hab (by omega)
            repeat' first | apply And.intro | (intro h; (cases h; done)) | (intro h; exfalso; simp only [decT, decF, beq_iff_eq, beq_eq_false_iff_ne, ne_eq, Int.toNat_natCast] at h; (try dsimp only [D, IK, dz, gT] at h); first | omega | exact absurd h (by assumption) | exact h (by assumption)) | intro _ | exact True.intro | (show Region.lexB _ _ = true; kernel_rfl) | refine CallK.fn [] hwo rfl rfl rfl rfl rfl trivial ?_ | refine CallK.fn [] hat rfl rfl rfl rfl rfl trivial ?_ | refine CallK.fn [] hpf rfl rfl rfl rfl rfl trivial ?_
            (all_goals try (show Fw.xRun _ _ _ _ _ _ _ _; exfalso; (try simp only [decT, decF, beq_iff_eq, bne_iff_ne, ne_eq, beq_eq_false_iff_ne, bne_eq_false_iff_eq, Decidable.not_not, Int.toNat_natCast, Bool.not_eq_true', Bool.not_eq_false', Bool.not_eq_true, Bool.not_eq_false, Int.not_lt, Int.not_le] at *); omega))
            (all_goals try ((first | (show (_ : Int) ≤ _) | (show (_ : Int) < _) | (show (_ : Nat) ≤ _) | (show (_ : Nat) < _)); (try simp only [Int.toNat_natCast, List.length_cons, List.length_nil, umax64]); (try dsimp only [D, IK, dz, gT]); omega))
            all_goals (try simp only [decT, decF, beq_iff_eq, bne_iff_ne, ne_eq, beq_eq_false_iff_ne, bne_eq_false_iff_eq, Decidable.not_not, Int.toNat_natCast, Bool.not_eq_true', Bool.not_eq_false', Bool.not_eq_true, Bool.not_eq_false, Int.not_lt, Int.not_le] at *; try dsimp only [D, IK, dz] at *)
            all_goals try simp only [hll, List.length_cons, List.length_nil, List.length_append]
            all_goals first | omega | (rw [hRR]; done) | skip
        · have hby : byD vs (gates.getD ((gates.length : Int) - 2 - k + 1 + t).toNat (0, 0, 0, 0, [])) ((gates.length : Int) - 2 - k) = 1 := if_neg h4k
          rw [hby, Int.mul_one] at hA
          have hpf := ref_product_fn [(dK vs gates k).getD ((gates.length : Int) - 2 - k + 1 + t).toNat 0] (by rw [List.length_singleton]; omega) (fun x hx => by rw [List.mem_singleton.1 hx, hdj]; exact ⟨hsj, hdb⟩)
          have hpe : prodI [(dK vs gates k).getD ((gates.length : Int) - 2 - k + 1 + t).toNat 0] = A := by
            rw [prodI_cons, prodI_nil, Int.mul_one, hdj, hA]
          have hAM : A ≤ 4611686018427387903 := by omega
          rw [hpe, if_pos hAM, decide_eq_true hAM] at hpf
          repeat' first | apply And.intro | (intro h; (cases h; done)) | (intro h; exfalso; simp only [decT, decF, beq_iff_eq, beq_eq_false_iff_ne, ne_eq, Int.toNat_natCast] at h; (try dsimp only [D, IK, dz, gT] at h); first | omega | exact absurd h (by assumption) | exact h (by assumption)) | intro _ | exact True.intro | (show Region.lexB _ _ = true; kernel_rfl) | refine CallK.fn [] hwo rfl rfl rfl rfl rfl trivial ?_ | refine CallK.fn [] hpf rfl rfl rfl rfl rfl trivial ?_ | refine loopI.next (t + 1) [] [2, 8, 10, 11, 12, 13, 14] [(2, []), (11, []), (13, [])] .fr ?_
          (all_goals try (show Fw.xRun _ _ _ _ _ _ _ _; exfalso; (try simp only [decT, decF, beq_iff_eq, bne_iff_ne, ne_eq, beq_eq_false_iff_ne, bne_eq_false_iff_eq, Decidable.not_not, Int.toNat_natCast, Bool.not_eq_true', Bool.not_eq_false', Bool.not_eq_true, Bool.not_eq_false, Int.not_lt, Int.not_le] at *); omega))
          (all_goals try ((first | (show (_ : Int) ≤ _) | (show (_ : Int) < _) | (show (_ : Nat) ≤ _) | (show (_ : Nat) < _)); (try simp only [Int.toNat_natCast, List.length_cons, List.length_nil, umax64]); (try dsimp only [D, IK, dz, gT]); omega))
          all_goals (try simp only [decT, decF, beq_iff_eq, bne_iff_ne, ne_eq, beq_eq_false_iff_ne, bne_eq_false_iff_eq, Decidable.not_not, Int.toNat_natCast, Bool.not_eq_true', Bool.not_eq_false', Bool.not_eq_true, Bool.not_eq_false, Int.not_lt, Int.not_le] at *; try dsimp only [D, IK, dz] at *)
          all_goals try simp only [List.length_cons, List.length_nil, List.length_append]
          all_goals first | omega | rfl | exact hsn.symm | exact ⟨by omega, by rw [hsn]; exact fun x hx => (List.mem_append.1 hx).elim (hp x) (fun h => by rw [List.mem_singleton.1 h]; exact hAM), by rw [hsn, List.length_append, List.length_singleton]; omega⟩ | skip
      · rw [if_neg hm] at hsn
        have hw := hw.2 hm
        repeat' first | apply And.intro | (intro h; (cases h; done)) | (intro h; exfalso; simp only [decT, decF, beq_iff_eq, beq_eq_false_iff_ne, ne_eq, Int.toNat_natCast] at h; (try dsimp only [D, IK, dz, gT] at h); first | omega | exact absurd h (by assumption) | exact h (by assumption)) | intro _ | exact True.intro | (show Region.lexB _ _ = true; kernel_rfl) | refine CallK.fn [] hwo rfl rfl rfl rfl rfl trivial ?_ | refine loopI.next (t + 1) [] [2, 8, 10, 11, 12, 13, 14] [(2, []), (11, []), (13, [])] .fr ?_
        (all_goals try (show Fw.xRun _ _ _ _ _ _ _ _; exfalso; (try simp only [decT, decF, beq_iff_eq, bne_iff_ne, ne_eq, beq_eq_false_iff_ne, bne_eq_false_iff_eq, Decidable.not_not, Int.toNat_natCast, Bool.not_eq_true', Bool.not_eq_false', Bool.not_eq_true, Bool.not_eq_false, Int.not_lt, Int.not_le] at *); omega))
        (all_goals try ((first | (show (_ : Int) ≤ _) | (show (_ : Int) < _) | (show (_ : Nat) ≤ _) | (show (_ : Nat) < _)); (try simp only [Int.toNat_natCast, List.length_cons, List.length_nil, umax64]); (try dsimp only [D, IK, dz, gT]); omega))
        all_goals (try simp only [decT, decF, beq_iff_eq, bne_iff_ne, ne_eq, beq_eq_false_iff_ne, bne_eq_false_iff_eq, Decidable.not_not, Int.toNat_natCast, Bool.not_eq_true', Bool.not_eq_false', Bool.not_eq_true, Bool.not_eq_false, Int.not_lt, Int.not_le] at *; try dsimp only [D, IK, dz] at *)
        all_goals first | omega | rfl | exact hsn.symm | exact ⟨by omega, by rw [hsn]; exact hp, by rw [hsn]; omega⟩ | skip
    · have hte : t = gates.length - 1 - (gates.length - 2 - k) := by omega
      have hsf := sF_sum (vs := vs) hg (i := gates.length - 2 - k) (by omega)
      rw [← hte] at hsf
      have hsu := ref_sum_fn (parD vs gates (gates.length - 2 - k) t) (by omega) (fun x hx => ⟨hpn x hx, hp x hx⟩)
      rw [← hsf] at hsu
      have hset := dK_set (vs := vs) (gates := gates) hk2
      have hbb := hb1 (gates.length - 2 - k)
      by_cases hS : (sF vs gates).getD (gates.length - 2 - k) 0 ≤ 4611686018427387903
      · rw [if_pos hS, decide_eq_true hS] at hsu
        repeat' first | apply And.intro | (intro h; (cases h; done)) | (intro h; exfalso; simp only [decT, decF, beq_iff_eq, beq_eq_false_iff_ne, ne_eq, Int.toNat_natCast] at h; (try dsimp only [D, IK, dz, gT] at h); first | omega | exact absurd h (by assumption) | exact h (by assumption)) | intro _ | exact True.intro | (show Region.lexB _ _ = true; kernel_rfl) | refine CallK.fn [] hsu rfl rfl rfl rfl rfl trivial ?_ | refine loopI.next (k + 1) [] [2, 8, 10, 11, 12] [(2, []), (11, [])] .fr ?_
        (all_goals try (show Fw.xRun _ _ _ _ _ _ _ _; exfalso; (try simp only [decT, decF, beq_iff_eq, bne_iff_ne, ne_eq, beq_eq_false_iff_ne, bne_eq_false_iff_eq, Decidable.not_not, Int.toNat_natCast, Bool.not_eq_true', Bool.not_eq_false', Bool.not_eq_true, Bool.not_eq_false, Int.not_lt, Int.not_le] at *); omega))
        (all_goals try ((first | (show (_ : Int) ≤ _) | (show (_ : Int) < _) | (show (_ : Nat) ≤ _) | (show (_ : Nat) < _)); (try simp only [Int.toNat_natCast, List.length_cons, List.length_nil, umax64]); (try dsimp only [D, IK, dz, gT]); omega))
        all_goals (try simp only [decT, decF, beq_iff_eq, bne_iff_ne, ne_eq, beq_eq_false_iff_ne, bne_eq_false_iff_eq, Decidable.not_not, Int.toNat_natCast, Bool.not_eq_true', Bool.not_eq_false', Bool.not_eq_true, Bool.not_eq_false, Int.not_lt, Int.not_le] at *; try dsimp only [D, IK, dz] at *)
        all_goals try simp only [hi]
        all_goals first | omega | rfl | exact hset | skip
        · refine ⟨by omega, fun j hj => ?_⟩
          by_cases e : j = gates.length - 2 - k
          · rw [e]; exact hS
          · exact hd j (by omega)
      · rw [if_neg hS, decide_eq_false hS] at hsu
        have hRR := hbb (by omega)
        repeat' first | apply And.intro | (intro h; (cases h; done)) | (intro h; exfalso; simp only [decT, decF, beq_iff_eq, beq_eq_false_iff_ne, ne_eq, Int.toNat_natCast] at h; (try dsimp only [D, IK, dz, gT] at h); first | omega | exact absurd h (by assumption) | exact h (by assumption)) | intro _ | exact True.intro | (show Region.lexB _ _ = true; kernel_rfl) | refine CallK.fn [] hsu rfl rfl rfl rfl rfl trivial ?_
        (all_goals try (show Fw.xRun _ _ _ _ _ _ _ _; exfalso; (try simp only [decT, decF, beq_iff_eq, bne_iff_ne, ne_eq, beq_eq_false_iff_ne, bne_eq_false_iff_eq, Decidable.not_not, Int.toNat_natCast, Bool.not_eq_true', Bool.not_eq_false', Bool.not_eq_true, Bool.not_eq_false, Int.not_lt, Int.not_le] at *); omega))
        (all_goals try ((first | (show (_ : Int) ≤ _) | (show (_ : Int) < _) | (show (_ : Nat) ≤ _) | (show (_ : Nat) < _)); (try simp only [Int.toNat_natCast, List.length_cons, List.length_nil, umax64]); (try dsimp only [D, IK, dz, gT]); omega))
        all_goals (try simp only [decT, decF, beq_iff_eq, bne_iff_ne, ne_eq, beq_eq_false_iff_ne, bne_eq_false_iff_eq, Decidable.not_not, Int.toNat_natCast, Bool.not_eq_true', Bool.not_eq_false', Bool.not_eq_true, Bool.not_eq_false, Int.not_lt, Int.not_le] at *; try dsimp only [D, IK, dz] at *)
        all_goals first | omega | (rw [hRR]; done) | skip
  · have hke : k + 1 = gates.length := by omega
    have hde : dK vs gates k = sF vs gates := by rw [dK, show gates.length - 1 - k = 0 by omega]; rfl
    have hSn := sF_len vs gates
    have hd2 : ∀ i, i < gates.length → (sF vs gates).getD i 0 ≤ 4611686018427387903 := fun i _ => hd i (by omega)
    have hgd2 := hgd hd2
    have hol := outS_len cards vs gates gates.length
    repeat' first | apply And.intro | (intro h; (cases h; done)) | (intro h; exfalso; simp only [decT, decF, beq_iff_eq, beq_eq_false_iff_ne, ne_eq, Int.toNat_natCast] at h; (try dsimp only [D, IK, dz, gT] at h); first | omega | exact absurd h (by assumption) | exact h (by assumption)) | intro _ | exact True.intro | (show Region.lexB _ _ = true; kernel_rfl)
    (all_goals try (show Fw.xRun _ _ _ _ _ _ _ _; exfalso; (try simp only [decT, decF, beq_iff_eq, bne_iff_ne, ne_eq, beq_eq_false_iff_ne, bne_eq_false_iff_eq, Decidable.not_not, Int.toNat_natCast, Bool.not_eq_true', Bool.not_eq_false', Bool.not_eq_true, Bool.not_eq_false, Int.not_lt, Int.not_le] at *); omega))
    (all_goals try ((first | (show (_ : Int) ≤ _) | (show (_ : Int) < _) | (show (_ : Nat) ≤ _) | (show (_ : Nat) < _)); (try simp only [Int.toNat_natCast, List.length_cons, List.length_nil, umax64]); (try dsimp only [D, IK, dz, gT]); omega))
    refine ⟨loopI (fun v : Nat => { n := 183, t := [(2, .ptr 0 0), (10, .val (.int .i64 (↑(List.length gates)))), (11, .own 1), (21, .own 2), (22, .val (.int .i64 v))], h := [(0, some (.cells [.dat .old (.i .i64) cards, .dat .old gT gates])), (1, some (.arr .fr (.i .i64) (sF vs gates))), (2, some (.arr .fr (.sl (.i .i64)) ((outS cards vs gates gates.length).take v)))], nx := 3 }) (fun v => cards.length - v) (fun v => Ok (v ≤ cards.length ∧ ∀ v' x : Nat, v' < v → (x : Int) < cards.getD v' 0 → sumI (outP vs gates v' x gates.length) ≤ 4611686018427387903)),
      loopI.start 0 [21] [2, 10, 11, 21, 22] [(2, []), (11, []), (21, [])] .fr (by rw [← hde]; (repeat' first | apply And.intro | rfl); exact ⟨Nat.zero_le _, fun v x h => absurd h (Nat.not_lt_zero v)⟩), ?_⟩
    clear hde hgd hd hdl
    rintro _ _ ⟨v, rfl, rfl, ⟨hv, hvo⟩⟩
    by_cases hvl : v < cards.length
    · have hcv := hc v hvl
      have hrl := outS_row cards vs gates v gates.length
      have hso : ∀ x : Nat, (x : Int) < cards.getD v 0 → ((outS cards vs gates gates.length).getD v []).getD x 0 = sumI (outP vs gates v x gates.length) := fun x hx => outS_out hg hvl hx
      have hto : (outS cards vs gates gates.length).take (v + 1) = (outS cards vs gates gates.length).take v ++ [(outS cards vs gates gates.length).getD v []] := by rw [take_step (by omega), getD_lt (by omega)]
      repeat' first | apply And.intro | (intro h; (cases h; done)) | (intro h; exfalso; simp only [decT, decF, beq_iff_eq, beq_eq_false_iff_ne, ne_eq, Int.toNat_natCast] at h; (try dsimp only [D, IK, dz, gT] at h); first | omega | exact absurd h (by assumption) | exact h (by assumption)) | intro _ | exact True.intro | (show Region.lexB _ _ = true; kernel_rfl)
      (all_goals try (show Fw.xRun _ _ _ _ _ _ _ _; exfalso; (try simp only [decT, decF, beq_iff_eq, bne_iff_ne, ne_eq, beq_eq_false_iff_ne, bne_eq_false_iff_eq, Decidable.not_not, Int.toNat_natCast, Bool.not_eq_true', Bool.not_eq_false', Bool.not_eq_true, Bool.not_eq_false, Int.not_lt, Int.not_le] at *); omega))
      (all_goals try ((first | (show (_ : Int) ≤ _) | (show (_ : Int) < _) | (show (_ : Nat) ≤ _) | (show (_ : Nat) < _)); (try simp only [Int.toNat_natCast, List.length_cons, List.length_nil, umax64]); (try dsimp only [D, IK, dz, gT]); omega))
      generalize hrow : (outS cards vs gates gates.length).getD v [] = row at *
      refine ⟨loopI (fun x : Nat => { n := 183, t := [(2, .ptr 0 0), (10, .val (.int .i64 (↑(List.length gates)))), (11, .own 1), (21, .own 2), (22, .val (.int .i64 v)), (23, .own 3), (24, .val (.int .i64 x))], h := [(0, some (.cells [.dat .old (.i .i64) cards, .dat .old gT gates])), (1, some (.arr .fr (.i .i64) (sF vs gates))), (2, some (.arr .fr (.sl (.i .i64)) ((outS cards vs gates gates.length).take v))), (3, some (.arr .fr (.i .i64) (row.take x)))], nx := 4 }) (fun x => (cards.getD v 0).toNat - x) (fun x => Ok ((x : Int) ≤ cards.getD v 0 ∧ ∀ x' : Nat, x' < x → sumI (outP vs gates v x' gates.length) ≤ 4611686018427387903)),
        loopI.start 0 [23] [2, 10, 11, 21, 22, 23, 24] [(2, []), (11, []), (21, []), (23, [])] .fr (by (repeat' first | apply And.intro | rfl); exact ⟨by show (0 : Int) ≤ _; omega, fun x h => absurd h (Nat.not_lt_zero x)⟩), ?_⟩
      rintro _ _ ⟨x, rfl, rfl, ⟨hx, hxo⟩⟩
      by_cases hxl : (x : Int) < cards.getD v 0
      · have hsx := hso x hxl
        have htx : row.take (x + 1) = row.take x ++ [row.getD x 0] := by rw [take_step (by omega), getD_lt (by omega)]
        have hrt : (row.take x).length ≤ 4 := by rw [List.length_take]; omega
        repeat' first | apply And.intro | (intro h; (cases h; done)) | (intro h; exfalso; simp only [decT, decF, beq_iff_eq, beq_eq_false_iff_ne, ne_eq, Int.toNat_natCast] at h; (try dsimp only [D, IK, dz, gT] at h); first | omega | exact absurd h (by assumption) | exact h (by assumption)) | intro _ | exact True.intro | (show Region.lexB _ _ = true; kernel_rfl)
        (all_goals try (show Fw.xRun _ _ _ _ _ _ _ _; exfalso; (try simp only [decT, decF, beq_iff_eq, bne_iff_ne, ne_eq, beq_eq_false_iff_ne, bne_eq_false_iff_eq, Decidable.not_not, Int.toNat_natCast, Bool.not_eq_true', Bool.not_eq_false', Bool.not_eq_true, Bool.not_eq_false, Int.not_lt, Int.not_le] at *); omega))
        (all_goals try ((first | (show (_ : Int) ≤ _) | (show (_ : Int) < _) | (show (_ : Nat) ≤ _) | (show (_ : Nat) < _)); (try simp only [Int.toNat_natCast, List.length_cons, List.length_nil, umax64]); (try dsimp only [D, IK, dz, gT]); omega))
        refine ⟨loopI (fun i : Nat => { n := 183, t := [(2, .ptr 0 0), (10, .val (.int .i64 (↑(List.length gates)))), (11, .own 1), (21, .own 2), (22, .val (.int .i64 v)), (23, .own 3), (24, .val (.int .i64 x)), (25, .own 4), (26, .val (.int .i64 i))], h := [(0, some (.cells [.dat .old (.i .i64) cards, .dat .old gT gates])), (1, some (.arr .fr (.i .i64) (sF vs gates))), (2, some (.arr .fr (.sl (.i .i64)) ((outS cards vs gates gates.length).take v))), (3, some (.arr .fr (.i .i64) (row.take x))), (4, some (.arr .fr (.i .i64) (outP vs gates v x i)))], nx := 5 }) (fun i => gates.length - i) (fun i => Ok (i ≤ gates.length ∧ (outP vs gates v x i).length ≤ i)),
          loopI.start 0 [25] [2, 10, 11, 21, 22, 23, 24, 25, 26] [(2, []), (11, []), (21, []), (23, []), (25, [])] .fr (by (repeat' first | apply And.intro | rfl); exact ⟨Nat.zero_le _, Nat.le_refl _⟩), ?_⟩
        rintro _ _ ⟨i, rfl, rfl, ⟨hi, hpl⟩⟩
        by_cases hil : i < gates.length
        · have hal := hargs _ (getD_mem (d := gz) hil)
          have hsn := outP_snoc vs gates v x i
          dsimp only [gz] at hal hsn
          by_cases hcd : (gates.getD i (0, 0, 0, 0, [])).1 = 2 ∧ (gates.getD i (0, 0, 0, 0, [])).2.1 = v ∧ (gates.getD i (0, 0, 0, 0, [])).2.2.1 = x
          · rw [if_pos hcd] at hsn
            obtain ⟨q1, q2, q3⟩ := hcd
            repeat' first | apply And.intro | (intro h; (cases h; done)) | (intro h; exfalso; simp only [decT, decF, beq_iff_eq, beq_eq_false_iff_ne, ne_eq, Int.toNat_natCast] at h; (try dsimp only [D, IK, dz, gT] at h); first | omega | exact absurd h (by assumption) | exact h (by assumption)) | intro _ | exact True.intro | (show Region.lexB _ _ = true; kernel_rfl) | refine loopI.next (i + 1) [] [2, 10, 11, 21, 22, 23, 24, 25, 26] [(2, []), (11, []), (21, []), (23, []), (25, [])] .fr ?_
            (all_goals try (show Fw.xRun _ _ _ _ _ _ _ _; exfalso; (try simp only [decT, decF, beq_iff_eq, bne_iff_ne, ne_eq, beq_eq_false_iff_ne, bne_eq_false_iff_eq, Decidable.not_not, Int.toNat_natCast, Bool.not_eq_true', Bool.not_eq_false', Bool.not_eq_true, Bool.not_eq_false, Int.not_lt, Int.not_le] at *); omega))
            (all_goals try ((first | (show (_ : Int) ≤ _) | (show (_ : Int) < _) | (show (_ : Nat) ≤ _) | (show (_ : Nat) < _)); (try simp only [Int.toNat_natCast, List.length_cons, List.length_nil, umax64]); (try dsimp only [D, IK, dz, gT]); omega))
            all_goals (try simp only [decT, decF, beq_iff_eq, bne_iff_ne, ne_eq, beq_eq_false_iff_ne, bne_eq_false_iff_eq, Decidable.not_not, Int.toNat_natCast, Bool.not_eq_true', Bool.not_eq_false', Bool.not_eq_true, Bool.not_eq_false, Int.not_lt, Int.not_le] at *; try dsimp only [D, IK, dz] at *)
            all_goals try simp only [List.length_cons, List.length_nil]
            all_goals first | omega | rfl | exact hsn.symm | exact ⟨by omega, by rw [hsn, List.length_append, List.length_singleton]; omega⟩ | skip
          · rw [if_neg hcd] at hsn
            repeat' first | apply And.intro | (intro h; (cases h; done)) | (intro h; exfalso; simp only [decT, decF, beq_iff_eq, beq_eq_false_iff_ne, ne_eq, Int.toNat_natCast] at h; (try dsimp only [D, IK, dz, gT] at h); first | omega | exact absurd h (by assumption) | exact h (by assumption)) | intro _ | exact True.intro | (show Region.lexB _ _ = true; kernel_rfl) | refine loopI.next (i + 1) [] [2, 10, 11, 21, 22, 23, 24, 25, 26] [(2, []), (11, []), (21, []), (23, []), (25, [])] .fr ?_
            (all_goals try (show Fw.xRun _ _ _ _ _ _ _ _; exfalso; (try simp only [decT, decF, beq_iff_eq, bne_iff_ne, ne_eq, beq_eq_false_iff_ne, bne_eq_false_iff_eq, Decidable.not_not, Int.toNat_natCast, Bool.not_eq_true', Bool.not_eq_false', Bool.not_eq_true, Bool.not_eq_false, Int.not_lt, Int.not_le] at *); omega))
            (all_goals try ((first | (show (_ : Int) ≤ _) | (show (_ : Int) < _) | (show (_ : Nat) ≤ _) | (show (_ : Nat) < _)); (try simp only [Int.toNat_natCast, List.length_cons, List.length_nil, umax64]); (try dsimp only [D, IK, dz, gT]); omega))
            all_goals (try simp only [decT, decF, beq_iff_eq, bne_iff_ne, ne_eq, beq_eq_false_iff_ne, bne_eq_false_iff_eq, Decidable.not_not, Int.toNat_natCast, Bool.not_eq_true', Bool.not_eq_false', Bool.not_eq_true, Bool.not_eq_false, Int.not_lt, Int.not_le] at *; try dsimp only [D, IK, dz] at *)
            all_goals first | omega | rfl | exact hsn.symm | exact ⟨by omega, by rw [hsn]; omega⟩ | (exfalso; simp_all; done) | skip
        · have hie : i = gates.length := by omega
          have hbb := hb2 v x hvl hxl
          have hpn : ∀ y ∈ outP vs gates v x i, 0 ≤ y ∧ y ≤ 4611686018427387903 := by
            intro y hy
            obtain ⟨j, hj, rfl⟩ := List.mem_map.1 hy
            have := List.mem_range.1 (List.mem_filter.1 hj).1
            exact ⟨sF_nn hnn j, hd2 j (by omega)⟩
          have hsu := ref_sum_fn (outP vs gates v x i) (by omega) hpn
          rw [show sumI (outP vs gates v x i) = sumI (outP vs gates v x gates.length) by rw [hie]] at hsu
          by_cases hS : sumI (outP vs gates v x gates.length) ≤ 4611686018427387903
          · rw [if_pos hS, decide_eq_true hS] at hsu
            repeat' first | apply And.intro | (intro h; (cases h; done)) | (intro h; exfalso; simp only [decT, decF, beq_iff_eq, beq_eq_false_iff_ne, ne_eq, Int.toNat_natCast] at h; (try dsimp only [D, IK, dz, gT] at h); first | omega | exact absurd h (by assumption) | exact h (by assumption)) | intro _ | exact True.intro | (show Region.lexB _ _ = true; kernel_rfl) | refine CallK.fn [] hsu rfl rfl rfl rfl rfl trivial ?_ | refine loopI.next (x + 1) [] [2, 10, 11, 21, 22, 23, 24] [(2, []), (11, []), (21, []), (23, [])] .fr ?_
            (all_goals try (show Fw.xRun _ _ _ _ _ _ _ _; exfalso; (try simp only [decT, decF, beq_iff_eq, bne_iff_ne, ne_eq, beq_eq_false_iff_ne, bne_eq_false_iff_eq, Decidable.not_not, Int.toNat_natCast, Bool.not_eq_true', Bool.not_eq_false', Bool.not_eq_true, Bool.not_eq_false, Int.not_lt, Int.not_le] at *); omega))
            (all_goals try ((first | (show (_ : Int) ≤ _) | (show (_ : Int) < _) | (show (_ : Nat) ≤ _) | (show (_ : Nat) < _)); (try simp only [Int.toNat_natCast, List.length_cons, List.length_nil, umax64]); (try dsimp only [D, IK, dz, gT]); omega))
            all_goals (try simp only [decT, decF, beq_iff_eq, bne_iff_ne, ne_eq, beq_eq_false_iff_ne, bne_eq_false_iff_eq, Decidable.not_not, Int.toNat_natCast, Bool.not_eq_true', Bool.not_eq_false', Bool.not_eq_true, Bool.not_eq_false, Int.not_lt, Int.not_le] at *; try dsimp only [D, IK, dz] at *)
            all_goals try simp only [List.length_cons, List.length_nil]
            all_goals first | omega | rfl | (rw [htx, hsx]; done) | skip
            · refine ⟨by omega, fun x' hx' => ?_⟩
              by_cases e : x' = x
              · rw [e]; exact hS
              · exact hxo x' (by omega)
          · rw [if_neg hS, decide_eq_false hS] at hsu
            have hRR := hbb (by omega)
            repeat' first | apply And.intro | (intro h; (cases h; done)) | (intro h; exfalso; simp only [decT, decF, beq_iff_eq, beq_eq_false_iff_ne, ne_eq, Int.toNat_natCast] at h; (try dsimp only [D, IK, dz, gT] at h); first | omega | exact absurd h (by assumption) | exact h (by assumption)) | intro _ | exact True.intro | (show Region.lexB _ _ = true; kernel_rfl) | refine CallK.fn [] hsu rfl rfl rfl rfl rfl trivial ?_
            (all_goals try (show Fw.xRun _ _ _ _ _ _ _ _; exfalso; (try simp only [decT, decF, beq_iff_eq, bne_iff_ne, ne_eq, beq_eq_false_iff_ne, bne_eq_false_iff_eq, Decidable.not_not, Int.toNat_natCast, Bool.not_eq_true', Bool.not_eq_false', Bool.not_eq_true, Bool.not_eq_false, Int.not_lt, Int.not_le] at *); omega))
            (all_goals try ((first | (show (_ : Int) ≤ _) | (show (_ : Int) < _) | (show (_ : Nat) ≤ _) | (show (_ : Nat) < _)); (try simp only [Int.toNat_natCast, List.length_cons, List.length_nil, umax64]); (try dsimp only [D, IK, dz, gT]); omega))
            all_goals (try simp only [decT, decF, beq_iff_eq, bne_iff_ne, ne_eq, beq_eq_false_iff_ne, bne_eq_false_iff_eq, Decidable.not_not, Int.toNat_natCast, Bool.not_eq_true', Bool.not_eq_false', Bool.not_eq_true, Bool.not_eq_false, Int.not_lt, Int.not_le] at *; try dsimp only [D, IK, dz] at *)
            all_goals first | omega | (rw [hRR]; done) | skip
      · have hxe : row.take x = row := List.take_of_length_le (by omega)
        repeat' first | apply And.intro | (intro h; (cases h; done)) | (intro h; exfalso; simp only [decT, decF, beq_iff_eq, beq_eq_false_iff_ne, ne_eq, Int.toNat_natCast] at h; (try dsimp only [D, IK, dz, gT] at h); first | omega | exact absurd h (by assumption) | exact h (by assumption)) | intro _ | exact True.intro | (show Region.lexB _ _ = true; kernel_rfl) | refine loopI.next (v + 1) [] [2, 10, 11, 21, 22] [(2, []), (11, []), (21, [])] .fr ?_
        (all_goals try (show Fw.xRun _ _ _ _ _ _ _ _; exfalso; (try simp only [decT, decF, beq_iff_eq, bne_iff_ne, ne_eq, beq_eq_false_iff_ne, bne_eq_false_iff_eq, Decidable.not_not, Int.toNat_natCast, Bool.not_eq_true', Bool.not_eq_false', Bool.not_eq_true, Bool.not_eq_false, Int.not_lt, Int.not_le] at *); omega))
        (all_goals try ((first | (show (_ : Int) ≤ _) | (show (_ : Int) < _) | (show (_ : Nat) ≤ _) | (show (_ : Nat) < _)); (try simp only [Int.toNat_natCast, List.length_cons, List.length_nil, umax64]); (try dsimp only [D, IK, dz, gT]); omega))
        all_goals (try simp only [decT, decF, beq_iff_eq, bne_iff_ne, ne_eq, beq_eq_false_iff_ne, bne_eq_false_iff_eq, Decidable.not_not, Int.toNat_natCast, Bool.not_eq_true', Bool.not_eq_false', Bool.not_eq_true, Bool.not_eq_false, Int.not_lt, Int.not_le] at *; try dsimp only [D, IK, dz] at *)
        all_goals first | omega | rfl | (rw [hto, hxe]; done) | skip
        · rw [List.length_take, List.length_singleton]; omega
        · refine ⟨by omega, fun v' x' h1 h2 => ?_⟩
          by_cases e : v' = v
          · subst e; exact hxo x' (by omega)
          · exact hvo v' x' (by omega) h2
    · have hve : v = cards.length := by omega
      have hRR := hgd2 (fun v' x h => hvo v' x (by omega))
      repeat' first | apply And.intro | (intro h; (cases h; done)) | (intro h; exfalso; simp only [decT, decF, beq_iff_eq, beq_eq_false_iff_ne, ne_eq, Int.toNat_natCast] at h; (try dsimp only [D, IK, dz, gT] at h); first | omega | exact absurd h (by assumption) | exact h (by assumption)) | intro _ | exact True.intro | (show Region.lexB _ _ = true; kernel_rfl)
      (all_goals try (show Fw.xRun _ _ _ _ _ _ _ _; exfalso; (try simp only [decT, decF, beq_iff_eq, bne_iff_ne, ne_eq, beq_eq_false_iff_ne, bne_eq_false_iff_eq, Decidable.not_not, Int.toNat_natCast, Bool.not_eq_true', Bool.not_eq_false', Bool.not_eq_true, Bool.not_eq_false, Int.not_lt, Int.not_le] at *); omega))
      (all_goals try ((first | (show (_ : Int) ≤ _) | (show (_ : Int) < _) | (show (_ : Nat) ≤ _) | (show (_ : Nat) < _)); (try simp only [Int.toNat_natCast, List.length_cons, List.length_nil, umax64]); (try dsimp only [D, IK, dz, gT]); omega))
      all_goals rw [hRR]
      all_goals exact List.take_of_length_le (by omega)
theorem ref_derive_fn (cards : List Int) (gates : List Gate) (input : List Int) (hl : gates.length ≤ 4611686018427387903) (hc : cards.length ≤ 4611686018427387903) (hin : input.length ≤ 4611686018427387903) (hargs : ∀ g ∈ gates, g.2.2.2.2.length ≤ 1048576) :
    Fw.Fn Try.prog 22 [.agg [.dat .old (.i .i64) cards, .dat .old gT gates], .dat .old (.i .i64) input] [] (.tup [.dat .fr (.sl (.i .i64)) (derF cards gates input).1, .val (.int .i64 (derF cards gates input).2)]) [] := by
  have hE := ref_eval_fn cards gates input (fun g h => Nat.le_trans (hargs g h) (by decide)) hin
  unfold derF
  unfold evalF at hE
  by_cases h : rightB cards gates = false
  · rw [if_pos h] at hE ⊢
    refine fn_go env_ok mixed Try.func22 (c := Try.f22.body.get rfl) rfl (by kernel_rfl) [] rfl ?_
    repeat' first | apply And.intro | (intro h; (cases h; done)) | (intro h; exfalso; simp only [decT, decF, beq_iff_eq, beq_eq_false_iff_ne, ne_eq, Int.toNat_natCast] at h; (try dsimp only [D, IK, dz, gT] at h); first | omega | exact absurd h (by assumption) | exact h (by assumption)) | intro _ | exact True.intro | (show Region.lexB _ _ = true; kernel_rfl) | refine CallK.fn [] hE rfl rfl rfl rfl rfl trivial ?_
    all_goals first | rfl | skip
  rw [if_neg h] at hE ⊢
  have h : rightB cards gates = true := by cases e : rightB cards gates <;> simp_all
  by_cases hi : inputB cards input = false
  · rw [if_pos hi] at hE ⊢
    refine fn_go env_ok mixed Try.func22 (c := Try.f22.body.get rfl) rfl (by kernel_rfl) [] rfl ?_
    repeat' first | apply And.intro | (intro h; (cases h; done)) | (intro h; exfalso; simp only [decT, decF, beq_iff_eq, beq_eq_false_iff_ne, ne_eq, Int.toNat_natCast] at h; (try dsimp only [D, IK, dz, gT] at h); first | omega | exact absurd h (by assumption) | exact h (by assumption)) | intro _ | exact True.intro | (show Region.lexB _ _ = true; kernel_rfl) | refine CallK.fn [] hE rfl rfl rfl rfl rfl trivial ?_
    all_goals first | rfl | skip
  rw [if_neg hi] at hE ⊢
  have hi : inputB cards input = true := by cases e : inputB cards input <;> simp_all
  obtain ⟨h4, hg⟩ := right_all h
  have hV := ref_values_fn cards gates input h4 hg hi
  obtain ⟨hc8, hcv⟩ := cards_ok h
  have h1 : 1 ≤ gates.length := by
    simp only [rightB, Bool.and_eq_true, decide_eq_true_eq] at h
    exact h.1.1.2
  cases hvs : valsO input gates [] with
  | none =>
    rw [hvs] at hE
    refine fn_go env_ok mixed Try.func22 (c := Try.f22.body.get rfl) rfl (by kernel_rfl) [] rfl ?_
    repeat' first | apply And.intro | (intro h; (cases h; done)) | (intro h; exfalso; simp only [decT, decF, beq_iff_eq, beq_eq_false_iff_ne, ne_eq, Int.toNat_natCast] at h; (try dsimp only [D, IK, dz, gT] at h); first | omega | exact absurd h (by assumption) | exact h (by assumption)) | intro _ | exact True.intro | (show Region.lexB _ _ = true; kernel_rfl) | refine CallK.fn [] hE rfl rfl rfl rfl rfl trivial ?_
    all_goals first | rfl | skip
  | some vs =>
    rw [hvs] at hE hV
    have hn := numsOK_vals (cards := cards) (out := []) (fun j hj => by rw [List.length_nil, Nat.zero_add]; exact hg j hj) (fun x hx => by cases hx) hvs
    have hvl := valsO_len hvs
    rw [List.length_nil, Nat.zero_add] at hvl
    refine ref_derive_in cards gates input vs _ hg hvl hn h1 h4 hargs hc8 hcv (fun i hi => if_neg fun hok => ?_) (fun v x hv hx hi => if_neg fun hok => ?_) (fun ha hb => if_pos ⟨fun i => ?_, fun v x => ?_⟩) _ hE hV
    · have := hok.1 i
      unfold sF at hi
      omega
    · have := hok.2 v x
      rw [outS_out hg hv hx] at this
      omega
    · by_cases hi : i < gates.length
      · exact ha i hi
      · rw [List.getD_eq_getElem?_getD, List.getElem?_eq_none (by rw [scat_len]; omega)]; decide
    · by_cases hv : v < cards.length
      · by_cases hx : (x : Int) < cards.getD v 0
        · rw [outS_out hg hv hx]; exact hb v x hv hx
        · rw [List.getD_eq_getElem?_getD, List.getElem?_eq_none (by rw [outS_row]; omega)]; decide
      · have : (outS cards vs gates gates.length).getD v [] = [] := by rw [List.getD_eq_getElem?_getD, List.getElem?_eq_none (by rw [outS_len]; omega)]; rfl
        rw [this]; show (0 : Int) ≤ _; decide
end Go.Proofs.Ytbgnnpbcifgckaa
namespace Go.Proofs.Ytbgnnpbcifgckaa
open Go Go.Fw Go.RowKit
set_option maxRecDepth 100000
set_option maxHeartbeats 4000000
theorem derF_small (cards : List Int) (gates : List Gate) (input : List Int) : (derF cards gates input).1.length ≤ 8 ∧ ∀ r ∈ (derF cards gates input).1, r.length ≤ 4 := by
  unfold derF
  by_cases h : rightB cards gates = false
  · rw [if_pos h]; exact ⟨by decide, fun r hr => by cases hr⟩
  rw [if_neg h]
  have h : rightB cards gates = true := by cases e : rightB cards gates <;> simp_all
  obtain ⟨hc8, hcv⟩ := cards_ok h
  by_cases hi : inputB cards input = false
  · rw [if_pos hi]; exact ⟨by decide, fun r hr => by cases hr⟩
  rw [if_neg hi]
  cases valsO input gates [] with
  | none => exact ⟨Nat.zero_le _, fun r hr => by cases hr⟩
  | some vs =>
    dsimp only
    split
    · have hl := outS_len cards vs gates gates.length
      refine ⟨by show (outS cards vs gates gates.length).length ≤ 8; omega, fun r hr => ?_⟩
      have hr : r ∈ outS cards vs gates gates.length := hr
      obtain ⟨v, hv, rfl⟩ := List.getElem_of_mem hr
      have := outS_row cards vs gates v gates.length
      rw [getD_lt hv] at this
      rw [this]
      have := hcv v (by omega)
      omega
    · exact ⟨by decide, fun r hr => by cases hr⟩
theorem derives_fn (dc : List Nat) (dg : List Q4) (big : Bool) (bs : List Bd) (cards : List Int) (gates : List Gate) (l : List Nat) (odd : List Int)
    (hdc : ∀ c ∈ dc, c ≤ 255) (hdg : ∀ q ∈ dg, q.1 ≤ 255 ∧ q.2.1 ≤ 255 ∧ q.2.2.1 ≤ 255 ∧ q.2.2.2 ≤ 255) (hl : dc.length ≤ 9223372036854775807) (hl2 : dg.length ≤ 9223372036854775807)
    (h2 : bs.length = 2) (hb : ∀ b ∈ bs, b.1 ≤ 255 ∧ b.2.1 ≤ 255 ∧ b.2.2 ≤ 9223372036854775807) (hlc : cards.length ≤ 9223372036854775807) (hlg : gates.length ≤ 9223372036854775807) (hargs : ∀ g ∈ gates, g.2.2.2.2.length ≤ 9223372036854775807) (hk : ∀ k ∈ cards, k ≤ 9223372036854775807)
    (hl8 : l.length = 8) (hlb : ∀ x ∈ l, x ≤ 255) (ho : odd.length ≤ 9223372036854775807) :
    Fw.Fn Try.prog 5 [.agg [.dat .old (.i .u8) dc, .dat .old a4T dg, .val (.bool big)], .av .old bendT bs, .agg [.dat .old (.i .i64) cards, .dat .old gT gates], .av .old (.i .u8) l, .dat .old (.i .i64) odd] [] (.val (.bool true)) [] := by
  have hcf := circuits_fn dc dg big bs cards gates hdc hdg hl hl2 h2 hb hlc hlg hargs
  have hcok := circ_ok dc dg big bs cards gates h2 (fun b h => (hb b h).2.2) hk
  have hcl : (circF dc dg big bs cards gates).length = 4 := rfl
  refine fn_go env_ok mixed Try.func5 (c := Try.f5.body.get rfl) rfl (by kernel_rfl) [] rfl ?_
  repeat' first | apply And.intro | (intro h; (cases h; done)) | (intro h; exfalso; simp only [decT, decF, beq_iff_eq, beq_eq_false_iff_ne, ne_eq, Int.toNat_natCast] at h; (try dsimp only [D, IK, dz, gT] at h); first | omega | exact absurd h (by assumption) | exact h (by assumption)) | intro _ | exact True.intro | (show Region.lexB _ _ = true; kernel_rfl) | refine CallK.fn [] wakes_fn rfl rfl rfl rfl rfl trivial ?_ | refine CallK.fn [] hcf rfl rfl rfl rfl rfl trivial ?_
  · show bs.length * 3 = 6
    omega
  generalize circF dc dg big bs cards gates = C at *
  clear hcf
  have hol : (List.take (Int.toNat (min (↑(List.length odd)) 10)) odd).length ≤ 10 := by rw [List.length_take]; omega
  refine ⟨loopI (fun j : Nat => { n := 69, t := [(4, .dat .old (.i .i64) odd), (8, .ptr 0 0), (24, .av .old cT C), (25, .val (.int .i64 j))], h := [(0, some (.arr .old (.i .u8) l))], nx := 1 }) (fun j => 4 - j) (fun j => Ok (j ≤ 4)),
    loopI.start 0 [] [4, 8, 24, 25] [(8, [])] .fr (by (repeat' first | apply And.intro | rfl); exact ⟨Nat.zero_le _⟩), ?_⟩
  rintro _ _ ⟨j, rfl, rfl, ⟨hj⟩⟩
  by_cases hlt : j < 4
  · have hc := hcok _ (getD_mem (d := (([], []) : Cc)) (show j < C.length by omega))
    have hil : (List.take (Int.toNat (min (↑(List.length (C.getD j (([], []) : Cc)).1)) 10)) (C.getD j (([], []) : Cc)).1).length ≤ 10 := by rw [List.length_take]; omega
    have hif := inputsW_fn (List.take (Int.toNat (min (↑(List.length (C.getD j (([], []) : Cc)).1)) 10)) (C.getD j (([], []) : Cc)).1) l hl8 hlb (fun k h => hc.lk k (List.mem_of_mem_take h)) (by omega)
    have hal := inwF_len (List.take (Int.toNat (min (↑(List.length (C.getD j (([], []) : Cc)).1)) 10)) (C.getD j (([], []) : Cc)).1) l (List.take (Int.toNat (min (↑(List.length (C.getD j (([], []) : Cc)).1)) 10)) (C.getD j (([], []) : Cc)).1).length
    repeat' first | apply And.intro | (intro h; (cases h; done)) | (intro h; exfalso; simp only [decT, decF, beq_iff_eq, beq_eq_false_iff_ne, ne_eq, Int.toNat_natCast] at h; (try dsimp only [D, IK, dz, gT] at h); first | omega | exact absurd h (by assumption) | exact h (by assumption)) | intro _ | exact True.intro | (show Region.lexB _ _ = true; kernel_rfl) | refine CallK.fn [] hif rfl rfl rfl rfl rfl trivial ?_
    all_goals try exact hcl
    all_goals try (show l.length * 1 = 8; omega)
    (all_goals try ((first | (show (_ : Int) ≤ _) | (show (_ : Int) < _) | (show (_ : Nat) ≤ _) | (show (_ : Nat) < _)); (try simp only [Int.toNat_natCast, List.length_cons, List.length_nil, umax64]); (try dsimp only [D, IK, dz, gT]); omega))
    obtain ⟨c, hcc⟩ : ∃ c, c = C.getD j (([], []) : Cc) := ⟨_, rfl⟩
    obtain ⟨L, hL⟩ : ∃ L, L = [inwF (List.take (Int.toNat (min (↑(List.length (C.getD j (([], []) : Cc)).1)) 10)) (C.getD j (([], []) : Cc)).1) l (List.take (Int.toNat (min (↑(List.length (C.getD j (([], []) : Cc)).1)) 10)) (C.getD j (([], []) : Cc)).1).length, List.take (Int.toNat (min (↑(List.length odd)) 10)) odd] := ⟨_, rfl⟩
    have hLl : L.length = 2 := by rw [hL]; rfl
    have hLs : ∀ x ∈ L, x.length ≤ 10 := by
      intro x hx
      rw [hL] at hx
      rcases List.mem_cons.1 hx with e | hx
      · rw [e, hal]; exact hil
      · rw [List.mem_singleton.1 hx]; exact hol
    refine ⟨loopI (fun k : Nat => { n := 69, t := [(4, .dat .old (.i .i64) odd), (8, .ptr 0 0), (12, .ptr 1 0), (24, .av .old cT C), (25, .val (.int .i64 j)), (42, .av .old (.sl (.i .i64)) L), (43, .val (.int .i64 k))], h := [(0, some (.arr .old (.i .u8) l)), (1, some (.cells [.dat .old (.i .i64) c.1, .dat .old gT c.2]))], nx := 2 }) (fun k => 2 - k) (fun k => Ok (k ≤ 2)),
      loopI.start 0 [] [4, 8, 12, 24, 25, 42, 43] [(8, []), (12, [])] .fr (by rw [hL, hcc]; (repeat' first | apply And.intro | rfl); exact ⟨Nat.zero_le _⟩), ?_⟩
    rw [← hcc] at hc
    clear hL hif hal hil hol hcc
    rintro _ _ ⟨k, rfl, rfl, ⟨hk2⟩⟩
    by_cases hlk : k < 2
    · have hx := hLs _ (getD_mem (d := ([] : List Int)) (show k < L.length by omega))
      have e1 := Derive_fn c.1 c.2 (L.getD k ([] : List Int)) (Nat.le_trans hc.lg (by decide)) (Nat.le_trans hc.lc (by decide)) (by omega) (fun g h => Nat.le_trans (hc.la g h) (by decide))
      have e2 := ref_derive_fn c.1 c.2 (L.getD k ([] : List Int)) (Nat.le_trans hc.lg (by decide)) (Nat.le_trans hc.lc (by decide)) (by omega) (fun g h => Nat.le_trans (hc.la g h) (by decide))
      have hds := derF_small c.1 c.2 (L.getD k ([] : List Int))
      have e3 := sametable_fn (derF c.1 c.2 (L.getD k ([] : List Int))).1 (derF c.1 c.2 (L.getD k ([] : List Int))).1 (by omega) (fun r h => by have := hds.2 r h; omega)
      rw [decide_eq_true rfl] at e3
      generalize derF c.1 c.2 (L.getD k ([] : List Int)) = D0 at *
      repeat' first | apply And.intro | (intro h; (cases h; done)) | (intro h; exfalso; simp only [decT, decF, beq_iff_eq, beq_eq_false_iff_ne, ne_eq, Int.toNat_natCast] at h; (try dsimp only [D, IK, dz, gT] at h); first | omega | exact absurd h (by assumption) | exact h (by assumption)) | intro _ | exact True.intro | (show Region.lexB _ _ = true; kernel_rfl) | refine CallK.fn [] e1 rfl rfl rfl rfl rfl trivial ?_ | refine CallK.fn [] e2 rfl rfl rfl rfl rfl trivial ?_ | refine CallK.fn [] e3 rfl rfl rfl rfl rfl trivial ?_ | refine loopI.next (k + 1) [] [4, 8, 12, 24, 25, 42, 43] [(8, []), (12, [])] .fr ?_
      all_goals try exact hLl
      all_goals (try simp only [decT, decF, beq_iff_eq, bne_iff_ne, ne_eq, beq_eq_false_iff_ne, bne_eq_false_iff_eq, Decidable.not_not, Int.toNat_natCast, Bool.not_eq_true', Bool.not_eq_false', Bool.not_eq_true, Bool.not_eq_false, Int.not_lt, Int.not_le] at *; try dsimp only [D, IK, dz] at *)
      all_goals first | rfl | omega | exact ⟨by omega⟩ | (exfalso; simp_all; done)
    · repeat' first | apply And.intro | (intro h; (cases h; done)) | (intro h; exfalso; simp only [decT, decF, beq_iff_eq, beq_eq_false_iff_ne, ne_eq, Int.toNat_natCast] at h; (try dsimp only [D, IK, dz, gT] at h); first | omega | exact absurd h (by assumption) | exact h (by assumption)) | intro _ | exact True.intro | (show Region.lexB _ _ = true; kernel_rfl) | refine loopI.next (j + 1) [] [4, 8, 24, 25] [(8, [])] .fr ?_
      (all_goals try (show Fw.xRun _ _ _ _ _ _ _ _; exfalso; (try simp only [decT, decF, beq_iff_eq, bne_iff_ne, ne_eq, beq_eq_false_iff_ne, bne_eq_false_iff_eq, Decidable.not_not, Int.toNat_natCast, Bool.not_eq_true', Bool.not_eq_false', Bool.not_eq_true, Bool.not_eq_false, Int.not_lt, Int.not_le] at *); omega))
      all_goals (try simp only [decT, decF, beq_iff_eq, bne_iff_ne, ne_eq, beq_eq_false_iff_ne, bne_eq_false_iff_eq, Decidable.not_not, Int.toNat_natCast, Bool.not_eq_true', Bool.not_eq_false', Bool.not_eq_true, Bool.not_eq_false, Int.not_lt, Int.not_le] at *; try dsimp only [D, IK, dz] at *)
      all_goals first | rfl | omega | exact ⟨by omega⟩
  · repeat' first | apply And.intro | (intro h; (cases h; done)) | (intro h; exfalso; simp only [decT, decF, beq_iff_eq, beq_eq_false_iff_ne, ne_eq, Int.toNat_natCast] at h; (try dsimp only [D, IK, dz, gT] at h); first | omega | exact absurd h (by assumption) | exact h (by assumption)) | intro _ | exact True.intro | (show Region.lexB _ _ = true; kernel_rfl)
    (all_goals try (show Fw.xRun _ _ _ _ _ _ _ _; exfalso; (try simp only [decT, decF, beq_iff_eq, bne_iff_ne, ne_eq, beq_eq_false_iff_ne, bne_eq_false_iff_eq, Decidable.not_not, Int.toNat_natCast, Bool.not_eq_true', Bool.not_eq_false', Bool.not_eq_true, Bool.not_eq_false, Int.not_lt, Int.not_le] at *); omega))
    all_goals rfl
end Go.Proofs.Ytbgnnpbcifgckaa
namespace Go.Proofs.Ytbgnnpbcifgckaa
open Go Go.Fw Go.RowKit Go.ChangeShapes Go.WideShapes Go.ChangeAt
set_option maxRecDepth 100000 in
theorem derives_lifted (os : Os) (started : os.Started) (H : Type) (enc : TypeId × Value → H) :
    ReturnsInHanded {} Try.checked os 5 .any (Rows.circuitDerivesSpec.pre6 enc Try.prog Try.f5 Rows.circuitDerivesRow.domain false) (Rows.circuitDerivesSpec.post enc Try.prog Try.f5 false true false false) := by
  refine law_lifted (C := Try.checked) (T := 4) own started (by kernel_rfl) Try.func5
    (ChangeSpec.witness6 (enc := enc) (C := Try.checked) false ⟨#[], #[.agg #[.slice none 0 0, .slice none 0 0, .bool false], .agg #[.int .u8 0, .int .u8 0, .int .i64 0, .int .u8 0, .int .u8 0, .int .i64 0], .agg #[.slice none 0 0, .slice none 0 0], .agg #[.int .u8 0, .int .u8 0, .int .u8 0, .int .u8 0, .int .u8 0, .int .u8 0, .int .u8 0, .int .u8 0], .slice none 0 0], []⟩ 8 (by kernel_rfl) (by kernel_rfl) (by kernel_rfl) (by kernel_rfl))
    laid (by kernel_rfl) rfl (fun ds hd => ?_) rfl rfl ?_
  · match ds, hd with
    | [d1, d2, d3, d4, d5], _ => exact ⟨rfl, rfl, rfl⟩
  · intro W base args ds ps hval hA
    obtain ⟨v0, v1, v2, v3, v4, d0, d1, d2, d3, d4, p0, p1, p2, p3, p4, rfl, rfl, ⟨n0, h0⟩, ⟨n1, h1⟩, ⟨n2, h2⟩, ⟨n3, h3⟩, ⟨n4, h4⟩⟩ := trodAll_five (t0 := 25) (t1 := 28) (t2 := 32) (t3 := 46) (t4 := 29) hA
    have e0 := hval 0 25 v0 rfl rfl
    have e1 := hval 1 28 v1 rfl rfl
    have e2 := hval 2 32 v2 rfl rfl
    have e3 := hval 3 46 v3 rfl rfl
    have e4 := hval 4 29 v4 rfl rfl
    obtain ⟨x0, w0, r0⟩ := trod_RD 9 ty25 h0
    obtain ⟨x1, w1, r1⟩ := trod_RD 9 ty28 h1
    obtain ⟨x2, w2, r2⟩ := trod_RD 9 ty32 h2
    obtain ⟨x3, w3, r3⟩ := trod_RD 9 ty46 h3
    obtain ⟨x4, w4, r4⟩ := trod_RD (t := .sl (.i .i64)) 9 ty29 h4
    obtain ⟨cs0, rfl, _⟩ := okWide_struct (P := Try.prog) (t := 25) rfl e0
    obtain ⟨cs1, rfl, _⟩ := okWide_array (P := Try.prog) (t := 28) rfl e1
    obtain ⟨cs2, rfl, _⟩ := okWide_struct (P := Try.prog) (t := 32) rfl e2
    obtain ⟨cs3, rfl, _⟩ := okWide_array (P := Try.prog) (t := 46) rfl e3
    obtain ⟨a4, l4, k4, rfl⟩ := okWide_slice (P := Try.prog) (t := 29) rfl e4
    obtain ⟨a1, a2, a3, a4⟩ := read_draft w0
    obtain ⟨b1, b2, b3, b4⟩ := read_cc w2
    have ho : List.length (x4 : List Int) ≤ 9223372036854775807 := by
      simp only [wfD] at w4
      exact w4.1
    have g := derives_fn (x0.1 : List Nat) (x0.2.1 : List Q4) (x0.2.2 : Bool) (list2 x1) (x2.1 : List Int) (x2.2 : List Gate) (list8 x3) x4 a1 a2 a3 a4 rfl (wf2 w1) b1 b2 b3 b4 rfl (wf8 w3) ho
    refine Fn.law (w := W) g (vs := [.agg cs0, .agg cs1, .agg cs2, .agg cs3, .slice _ _ _]) (.cons ?_ (.cons ?_ (.cons ?_ (.cons ?_ (.cons ?_ .nil)))))
    · exact .agg (RD.cells (c := cx0 W) (o := .old) (t := draftT) (x := x0) (r0.imp fun b hb => ok0 hb))
    · exact av2 (c := cx0 W) (fun b hb => ok0 hb) r1
    · exact .agg (RD.cells (c := cx0 W) (o := .old) (t := cT) (x := x2) (r2.imp fun b hb => ok0 hb))
    · exact av8 (r3.imp fun b hb => ok0 hb)
    · exact rd_sl (c := cx0 W) (o := .old) (r4.imp fun b hb => ok0 hb)
theorem derives_over : Rows.circuitDerivesRow.holds Try.pinned (OpenSpec.ofChange Rows.circuitDerivesSpec) :=
  OpenClaim.holds_of_wide 5 Try.f5 rfl rfl rfl rfl rfl rfl rfl ⟨rfl, rfl, rfl, rfl, rfl⟩ rfl rfl rfl rfl rfl (by kernel_rfl) Try.func5 (by kernel_rfl)
    (of_decide_eq_true (by kernel_rfl)) (by unfold Func.isWrapper; first | (rw [if_pos (by decide +kernel)]; kernel_rfl) | (rw [if_neg (by decide +kernel)]; exact ⟨rfl, rfl⟩))
    (fun os started H enc _ => derives_lifted os started H enc)
/-- The statement. -/
theorem circuitDerives_proved : Rows.CircuitDerivesSaid := derives_over
end Go.Proofs.Ytbgnnpbcifgckaa
