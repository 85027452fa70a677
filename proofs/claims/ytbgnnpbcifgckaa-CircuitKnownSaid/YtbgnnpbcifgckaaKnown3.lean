/- Helpers of Known, part 3: the executor and contracts of functions. No statement of the seat is proved here, under no condition. -/
import Derived.Test.YtbgnnpbcifgckaaKnown2
import Derived.Scope
import Derived.Test.YtbgnnpbcifgckaaChecked
set_option linter.all false
namespace Go.Fw
open Go Go.RowKit

section
variable {P : Program} {E : Env} {hp hp' : Nat → Option Blk} {id : Nat}

def Out.rd : Out → List Nat
  | .ok _ _ rd => rd
  | .panic _ _ rd => rd

theorem frz_congr {ρ : List Nat} : ∀ n,
    (∀ {x x' : AV} {p : Bool} {l : List Nat}, frz hp ρ n x = some (x', p, l) → (∀ i ∈ l, hp' i = hp i) → frz hp' ρ n x = some (x', p, l)) ∧
    (∀ {x x' : List AV} {p : Bool} {l : List Nat}, frzs hp ρ n x = some (x', p, l) → (∀ i ∈ l, hp' i = hp i) → frzs hp' ρ n x = some (x', p, l))
  | 0 => ⟨fun h => by simp [frz] at h, fun h => by simp [frzs] at h⟩
  | n + 1 => by
    obtain ⟨ih1, ih2⟩ := frz_congr (ρ := ρ) n
    refine ⟨fun {x x' p l} h hl' => ?_, fun {x x' p l} h hl' => ?_⟩
    · cases x with
      | junk => simp [frz] at h
      | val y => exact h
      | un k m => exact h
      | tt => exact h
      | ff => exact h
      | nil t => exact h
      | dat o t xs => exact h
      | av o t xs => exact h
      | ip o cs k =>
        simp only [frz] at h ⊢
        split at h
        · rename_i cs' p' l' heq
          simp only [Option.some.injEq, Prod.mk.injEq] at h; obtain ⟨rfl, rfl, rfl⟩ := h
          rw [ih2 heq hl']
        · cases h
      | ptr j off =>
        simp only [frz] at h ⊢
        split at h
        · exact h
        · split at h
          · rename_i cs hb
            split at h
            · rename_i cs' p' l' heq
              simp only [Option.some.injEq, Prod.mk.injEq] at h; obtain ⟨rfl, rfl, rfl⟩ := h
              simp only [hl' j (by simp), hb, ih2 heq fun i hi => hl' i (by simp [hi])]
            · cases h
          · cases h
      | pa j k o =>
        simp only [frz] at h ⊢
        split at h
        · exact h
        · cases h
      | own j =>
        simp only [frz] at h ⊢
        split at h
        · exact h
        · split at h
          · rename_i o t xs hb
            simp only [Option.some.injEq, Prod.mk.injEq] at h; obtain ⟨rfl, rfl, rfl⟩ := h
            simp only [hl' j (by simp), hb]
          · rename_i t xs hb
            simp only [Option.some.injEq, Prod.mk.injEq] at h; obtain ⟨rfl, rfl, rfl⟩ := h
            simp only [hl' j (by simp), hb]
          · cases h
      | sl j lo len =>
        simp only [frz] at h ⊢
        split at h
        · exact h
        · split at h
          · rename_i o t xs hb
            simp only [Option.some.injEq, Prod.mk.injEq] at h; obtain ⟨rfl, rfl, rfl⟩ := h
            simp only [hl' j (by simp), hb]
          · rename_i t xs hb
            simp only [Option.some.injEq, Prod.mk.injEq] at h; obtain ⟨rfl, rfl, rfl⟩ := h
            simp only [hl' j (by simp), hb]
          · cases h
      | agg cs =>
        simp only [frz] at h ⊢
        split at h
        · rename_i cs' p' l' heq
          simp only [Option.some.injEq, Prod.mk.injEq] at h; obtain ⟨rfl, rfl, rfl⟩ := h
          rw [ih2 heq hl']
        · cases h
      | tup cs =>
        simp only [frz] at h ⊢
        split at h
        · rename_i cs' p' l' heq
          simp only [Option.some.injEq, Prod.mk.injEq] at h; obtain ⟨rfl, rfl, rfl⟩ := h
          rw [ih2 heq hl']
        · cases h
      | clo f a b =>
        simp only [frz] at h ⊢
        split at h
        · rename_i a' p' l' heq
          split at h
          · rename_i b' q' l2 heq2
            simp only [Option.some.injEq, Prod.mk.injEq] at h; obtain ⟨rfl, rfl, rfl⟩ := h
            simp only [ih2 heq fun i hi => hl' i (by simp [hi]), ih2 heq2 fun i hi => hl' i (by simp [hi])]
          · cases h
        · cases h
      | ifc t y =>
        simp only [frz] at h ⊢
        split at h
        · rename_i y' p' l' heq
          simp only [Option.some.injEq, Prod.mk.injEq] at h; obtain ⟨rfl, rfl, rfl⟩ := h
          rw [ih1 heq hl']
        · cases h
    · cases x with
      | nil => exact h
      | cons y r =>
        simp only [frzs] at h ⊢
        split at h
        · rename_i y' p' l' heq
          split at h
          · rename_i r' q' l2 heq2
            simp only [Option.some.injEq, Prod.mk.injEq] at h; obtain ⟨rfl, rfl, rfl⟩ := h
            simp only [ih1 heq fun i hi => hl' i (by simp [hi]), ih2 heq2 fun i hi => hl' i (by simp [hi])]
          · cases h
        · cases h

theorem frzH_congr {ρ : List Nat} : ∀ {r : List Nat} {hin : List Blk} {q : Bool} {l : List Nat}, frzH hp ρ r = some (hin, q, l) → (∀ i ∈ l, hp' i = hp i) → frzH hp' ρ r = some (hin, q, l)
  | [], _, _, _, h, _ => h
  | x :: r, hin, q, l, h, hl' => by
    simp only [frzH] at h ⊢
    split at h
    · rename_i b hb
      split at h
      · rename_i b' p l' hb'
        split at h
        · rename_i bs q' l2 hr
          simp only [Option.some.injEq, Prod.mk.injEq] at h
          obtain ⟨rfl, rfl, rfl⟩ := h
          have e1 : frzB hp' ρ b = some (b', p, l') := by
            cases b with
            | arr o t xs => exact hb'
            | deep t xs => exact hb'
            | seg t xs q row => exact hb'
            | cells c =>
              simp only [frzB] at hb' ⊢
              split at hb'
              · rename_i c' p' l3 heq
                simp only [Option.some.injEq, Prod.mk.injEq] at hb'; obtain ⟨rfl, rfl, rfl⟩ := hb'
                rw [(frz_congr 100).2 heq fun i hi => hl' i (by simp [hi])]
              · cases hb'
          simp only [hl' x (by simp), hb, e1, frzH_congr hr fun i hi => hl' i (by simp [hi])]
        · cases h
      · cases h
    · cases h

theorem To.sub {tr : Tr} {log : List Nat} {out : Out} (h : To P hp id tr log out) : ∀ i ∈ log, i ∈ out.rd := by
  induction h with
  | ret v hs log => exact fun i hi => hi
  | rd _ ih => exact fun i hi => ih i (by simp [hi])
  | vc _ _ ih => exact ih
  | cs _ _ _ _ ih => exact ih
  | panic v log => exact fun i hi => hi
  | fn ρ _ _ _ _ _ _ _ => exact fun i hi => by simp [Out.rd, hi]
  | pn ρ _ _ _ _ _ _ _ => exact fun i hi => by simp [Out.rd, hi]

theorem To.congr {tr : Tr} {log : List Nat} {out : Out} (h : To P hp id tr log out) (hr : ∀ i ∈ out.rd, hp' i = hp i) : To P hp' id tr log out := by
  induction h with
  | ret v hs log => exact .ret v hs log
  | @rd i k log o h ih =>
    refine .rd ?_
    rw [hr i (h.sub i (by simp))]
    exact ih hr
  | vc h1 _ ih => exact .vc h1 (ih hr)
  | cs i h1 h2 _ ih => exact .cs i h1 h2 (ih hr)
  | panic v log => exact .panic v log
  | fn ρ hf ha hb hn ho hk hs => exact .fn ρ hf ((frz_congr 100).2 ha fun i hi => hr i (by simp [Out.rd, hi])) (frzH_congr hb fun i hi => hr i (by simp [Out.rd, hi])) hn ho hk hs
  | pn ρ hf ha hb hn ho hk hs => exact .pn ρ hf ((frz_congr 100).2 ha fun i hi => hr i (by simp [Out.rd, hi])) (frzH_congr hb fun i hi => hr i (by simp [Out.rd, hi])) hn ho hk hs

theorem opnds_sub {op : Op} {x : Operand} (h : x ∈ opnds op) : x ∈ op.operands := by
  cases op <;> simp only [opnds, Op.operands] at h ⊢ <;> try (simpa using h)
  all_goals first
    | (rename_i c; obtain ⟨callee, args, ats⟩ := c; cases callee <;> simp [Call.operands] at h ⊢ <;> exact h)
    | (simp at h ⊢; exact h)
    | (simp at h ⊢; rcases h with h | h | h <;> simp [h])
    | (simp at h ⊢; rcases h with h | h | h | h <;> simp [h])
    | (cases h)

theorem ev_congr {t t' : List (Nat × AV)} {x : Operand} (h : ∀ d, x = .tmp d → look d t' = look d t) : ev t' x = ev t x := by
  cases x with
  | tmp d => exact h d rfl
  | _ => rfl

theorem OpTo.congr {m : Nat} {ops : Array Oper} {o : Oper} {t t' : List (Nat × AV)} {out : Out} (h : OpTo P hp m E id o t out) (hr : ∀ i ∈ out.rd, hp' i = hp i) (ht : ∀ d ∈ o.looksAt ops, look d t' = look d t) :
    OpTo P hp' m E id o t' out := by
  have hx : ∀ x ∈ opnds o.op, ev t' x = ev t x := fun x hx => ev_congr fun d e => ht d (by
    subst e
    exact List.mem_append_left _ (List.mem_filterMap.2 ⟨.tmp d, by simpa using opnds_sub hx, rfl⟩))
  rcases h with ⟨h1, h2⟩ | ⟨c, a, b, x, ho, hc, rfl⟩
  · refine Or.inl ⟨h1, ?_⟩
    rw [show (opnds o.op).map (ev t') = (opnds o.op).map (ev t) from List.map_congr_left hx]
    exact h2.congr hr
  · have hm : ∀ y, y = .tmp c ∨ y = a ∨ y = b → y ∈ opnds o.op := fun y hy => by rw [ho]; simpa [opnds] using hy
    have e1 := hx (.tmp c) (hm _ (Or.inl rfl))
    have e2 := hx a (hm _ (Or.inr (Or.inl rfl)))
    have e3 := hx b (hm _ (Or.inr (Or.inr rfl)))
    exact Or.inr ⟨c, a, b, x, ho, (show look c t' = look c t from e1).trans hc, by rw [e2, e3]⟩

theorem GuardV.congr {ops : Array Oper} {o : Oper} {t t' : List (Nat × AV)} {b : Bool} (h : GuardV ops.toList t o.guard b) (ht : ∀ d ∈ o.looksAt ops, look d t' = look d t) : GuardV ops.toList t' o.guard b := by
  unfold GuardV at h ⊢
  split at h
  · exact h
  · rename_i j want hg
    obtain ⟨d, hd, h⟩ := h
    refine ⟨d, hd, ?_⟩
    rw [ht d ?_]; exact h
    have hd' : (ops[j]?).bind (·.dst) = some d := by simpa [dstOf] using hd
    refine List.mem_append_right _ ?_
    rw [hg]
    simp [hd']
end
end Go.Fw
namespace Go.Fw
open Go Go.RowKit

/-- What one operation of a region does. -/
structure Ef where
  run : Bool
  v : AV
  hs : List (Nat × Option Blk)
  rd : List Nat

/-- The slots after the operations of a set. -/
def effT (n : Nat) (D : Nat → Bool) : List Oper → List Ef → Nat → List (Nat × AV) → List (Nat × AV)
  | o :: os, e :: efs, k, t => match D k with
    | true => effT n D os efs (k + 1) (putT n o.dst e.v t)
    | false => effT n D os efs (k + 1) t
  | _, _, _, t => t

def effH (D : Nat → Bool) : List Ef → Nat → List (Nat × Option Blk) → List (Nat × Option Blk)
  | e :: efs, k, h => match D k with
    | true => effH D efs (k + 1) (e.hs ++ h)
    | false => effH D efs (k + 1) h
  | [], _, h => h

theorem look_putT_ne {n : Nat} {d : Option Nat} {v : AV} {t : List (Nat × AV)} {x : Nat} (h : d ≠ some x) : look x (putT n d v t) = look x t := by
  unfold putT
  cases d with
  | none => rfl
  | some d =>
    dsimp only
    split
    · rw [look_cons, if_neg fun e => h (by rw [e])]
    · rfl

theorem look_putT_eq {n : Nat} {v : AV} {t : List (Nat × AV)} {x : Nat} (h : x < n) : look x (putT n (some x) v t) = v := by
  unfold putT
  dsimp only
  have : Nat.blt x n = true := Nat.ble_eq_true_of_le h
  rw [this]
  dsimp only
  rw [look_cons, if_pos rfl]

theorem look_putT_ge {n : Nat} {v : AV} {d : Option Nat} {t : List (Nat × AV)} {x : Nat} (h : ¬ x < n) : look x (putT n d v t) = look x t := by
  unfold putT
  cases d with
  | none => rfl
  | some d =>
    dsimp only
    split
    · rename_i hb
      have : d < n := Nat.le_of_ble_eq_true hb
      rw [look_cons, if_neg fun e => h (by omega)]
    · rfl

theorem effT_none {n : Nat} {D : Nat → Bool} : ∀ {l : List Oper} {efs : List Ef} {k : Nat} {t : List (Nat × AV)}, (∀ j, k ≤ j → D j = false) → effT n D l efs k t = t
  | [], _, _, _, _ => by simp [effT]
  | _ :: _, [], _, _, _ => by simp [effT]
  | o :: l, e :: efs, k, t, h => by
    simp only [effT, h k (Nat.le_refl _)]
    exact effT_none fun j hj => h j (by omega)

theorem effH_none {D : Nat → Bool} : ∀ {efs : List Ef} {k : Nat} {t : List (Nat × Option Blk)}, (∀ j, k ≤ j → D j = false) → effH D efs k t = t
  | [], _, _, _ => by simp [effH]
  | e :: efs, k, t, h => by
    simp only [effH, h k (Nat.le_refl _)]
    exact effH_none fun j hj => h j (by omega)

theorem effT_look {n : Nat} {D D' : Nat → Bool} {x : Nat} : ∀ {l : List Oper} {efs : List Ef} {k : Nat} {t t' : List (Nat × AV)}, (∀ (j : Nat) (o : Oper), l[j]? = some o → o.dst = some x → D (k + j) = D' (k + j)) → look x t = look x t' →
    look x (effT n D l efs k t) = look x (effT n D' l efs k t')
  | [], _, _, _, _, _, h => by simpa [effT] using h
  | _ :: _, [], _, _, _, _, h => by simpa [effT] using h
  | o :: l, e :: efs, k, t, t', hD, h => by
    have hr : ∀ (j : Nat) (o : Oper), l[j]? = some o → o.dst = some x → D (k + 1 + j) = D' (k + 1 + j) := fun j o ho hd => by
      have := hD (j + 1) o (by simpa using ho) hd
      rw [show k + 1 + j = k + (j + 1) by omega]; exact this
    by_cases hd : o.dst = some x
    · have h0 := hD 0 o rfl hd
      simp only [Nat.add_zero] at h0
      simp only [effT, h0]
      cases D' k with
      | false => exact effT_look hr h
      | true =>
        refine effT_look hr ?_
        by_cases hx : x < n
        · rw [hd, look_putT_eq hx, look_putT_eq hx]
        · rw [look_putT_ge hx, look_putT_ge hx]; exact h
    · simp only [effT]
      cases D k <;> cases D' k <;> refine effT_look hr ?_ <;> (try simp only [look_putT_ne hd]) <;> exact h

theorem mem_keys {hs : List (Nat × Option Blk)} {x : Nat} : x ∈ keys hs ↔ ∃ y, (x, y) ∈ hs := by
  induction hs with
  | nil => simp [keys]
  | cons p hs ih =>
    obtain ⟨i, y⟩ := p
    simp only [keys, List.mem_cons, ih, Prod.mk.injEq]
    constructor
    · rintro (h | ⟨z, h⟩)
      · exact ⟨y, Or.inl ⟨h, rfl⟩⟩
      · exact ⟨z, Or.inr h⟩
    · rintro ⟨z, ⟨h, _⟩ | h⟩
      · exact Or.inl h
      · exact Or.inr ⟨z, h⟩

theorem hl_app_ne {x : Nat} {hs h : List (Nat × Option Blk)} (hx : x ∉ keys hs) : hl x (hs ++ h) = hl x h := hl_app fun y hy => hx (mem_keys.2 ⟨y, hy⟩)
theorem hl_app_key {x : Nat} {hs h : List (Nat × Option Blk)} (hx : x ∈ keys hs) : hl x (hs ++ h) = hl x hs := by
  obtain ⟨y, hy⟩ := mem_keys.1 hx
  exact hl_app_mem hy

theorem effH_look {D D' : Nat → Bool} {x : Nat} : ∀ {efs : List Ef} {k : Nat} {h h' : List (Nat × Option Blk)}, (∀ (j : Nat) (e : Ef), efs[j]? = some e → x ∈ keys e.hs → D (k + j) = D' (k + j)) → hl x h = hl x h' →
    hl x (effH D efs k h) = hl x (effH D' efs k h')
  | [], _, _, _, _, h => by simpa [effH] using h
  | e :: efs, k, t, t', hD, h => by
    have hr : ∀ (j : Nat) (e : Ef), efs[j]? = some e → x ∈ keys e.hs → D (k + 1 + j) = D' (k + 1 + j) := fun j o ho hd => by
      have := hD (j + 1) o (by simpa using ho) hd
      rw [show k + 1 + j = k + (j + 1) by omega]; exact this
    by_cases hd : x ∈ keys e.hs
    · have h0 := hD 0 e rfl hd
      simp only [Nat.add_zero] at h0
      simp only [effH, h0]
      cases D' k with
      | false => exact effH_look hr h
      | true => exact effH_look hr (by rw [hl_app_key hd, hl_app_key hd])
    · simp only [effH]
      cases D k <;> cases D' k <;> refine effH_look hr ?_ <;> (try simp only [hl_app_ne hd]) <;> exact h

theorem effT_ge {n : Nat} {D : Nat → Bool} {x : Nat} (hx : ¬ x < n) : ∀ {l : List Oper} {efs : List Ef} {k : Nat} {t : List (Nat × AV)}, look x (effT n D l efs k t) = look x t
  | [], _, _, _ => by simp [effT]
  | _ :: _, [], _, _ => by simp [effT]
  | o :: l, e :: efs, k, t => by
    simp only [effT]
    cases D k <;> dsimp only <;> rw [effT_ge hx]
    exact look_putT_ge hx

theorem effT_last {n : Nat} {D : Nat → Bool} {x : Nat} (hx : x < n) {o : Oper} {e : Ef} (hd : o.dst = some x) : ∀ {l : List Oper} {efs : List Ef} {k i : Nat} {t : List (Nat × AV)}, l[i]? = some o → efs[i]? = some e → D (k + i) = true →
    (∀ (j : Nat) (oj : Oper), i < j → l[j]? = some oj → D (k + j) = true → oj.dst ≠ some x) → look x (effT n D l efs k t) = e.v
  | [], _, _, _, _, h, _, _, _ => by simp at h
  | _ :: _, [], _, _, _, _, h, _, _ => by simp at h
  | o' :: l, e' :: efs, k, 0, t, ho, he, hD, hj => by
    simp only [List.getElem?_cons_zero, Option.some.injEq] at ho he
    subst ho he
    simp only [Nat.add_zero] at hD
    simp only [effT, hD]
    have := effT_look (n := n) (D := D) (D' := fun _ => false) (x := x) (l := l) (efs := efs) (k := k + 1) (t := putT n o'.dst e'.v t) (t' := putT n o'.dst e'.v t) (fun j oj ho' hd' => by
      cases hc : D (k + 1 + j) with
      | false => rfl
      | true => exact absurd hd' (hj (j + 1) oj (by omega) (by simpa using ho') (by rw [show k + (j + 1) = k + 1 + j by omega]; exact hc))) rfl
    rw [this, effT_none fun _ _ => rfl, hd, look_putT_eq hx]
  | o' :: l, e' :: efs, k, i + 1, t, ho, he, hD, hj => by
    have hr := fun (t : List (Nat × AV)) => effT_last (D := D) hx hd (l := l) (efs := efs) (k := k + 1) (i := i) (t := t) (by simpa using ho) (by simpa using he) (by rw [show k + 1 + i = k + (i + 1) by omega]; exact hD) fun j oj h1 h2 h3 =>
      hj (j + 1) oj (by omega) (by simpa using h2) (by rw [show k + (j + 1) = k + 1 + j by omega]; exact h3)
    simp only [effT]
    cases D k <;> exact hr _

theorem effH_last {D : Nat → Bool} {x : Nat} {e : Ef} (hd : x ∈ keys e.hs) : ∀ {efs : List Ef} {k i : Nat} {h : List (Nat × Option Blk)}, efs[i]? = some e → D (k + i) = true →
    (∀ (j : Nat) (ej : Ef), i < j → efs[j]? = some ej → D (k + j) = true → x ∉ keys ej.hs) → hl x (effH D efs k h) = hl x e.hs
  | [], _, _, _, h, _, _ => by simp at h
  | e' :: efs, k, 0, t, he, hD, hj => by
    simp only [List.getElem?_cons_zero, Option.some.injEq] at he
    subst he
    simp only [Nat.add_zero] at hD
    simp only [effH, hD]
    have := effH_look (D := D) (D' := fun _ => false) (x := x) (efs := efs) (k := k + 1) (h := e'.hs ++ t) (h' := e'.hs ++ t) (fun j ej ho' hd' => by
      cases hc : D (k + 1 + j) with
      | false => rfl
      | true => exact absurd hd' (hj (j + 1) ej (by omega) (by simpa using ho') (by rw [show k + (j + 1) = k + 1 + j by omega]; exact hc))) rfl
    rw [this, effH_none fun _ _ => rfl, hl_app_key hd]
  | e' :: efs, k, i + 1, t, he, hD, hj => by
    have hr := fun (t : List (Nat × Option Blk)) => effH_last (D := D) hd (efs := efs) (k := k + 1) (i := i) (h := t) (by simpa using he) (by rw [show k + 1 + i = k + (i + 1) by omega]; exact hD) fun j oj h1 h2 h3 =>
      hj (j + 1) oj (by omega) (by simpa using h2) (by rw [show k + (j + 1) = k + 1 + j by omega]; exact h3)
    simp only [effH]
    cases D k <;> exact hr _

theorem effH_al {D : Nat → Bool} {x : Nat} : ∀ {efs : List Ef} {k : Nat} {h : List (Nat × Option Blk)}, x ∈ keys (effH D efs k h) ↔ x ∈ keys h ∨ ∃ (j : Nat) (e : Ef), efs[j]? = some e ∧ D (k + j) = true ∧ x ∈ keys e.hs
  | [], k, h => by simp [effH]
  | e :: efs, k, h => by
    have hk : ∀ {a b : List (Nat × Option Blk)}, x ∈ keys (a ++ b) ↔ x ∈ keys a ∨ x ∈ keys b := by
      intro a b
      simp only [mem_keys, List.mem_append]
      constructor
      · rintro ⟨y, h | h⟩
        · exact Or.inl ⟨y, h⟩
        · exact Or.inr ⟨y, h⟩
      · rintro (⟨y, h⟩ | ⟨y, h⟩)
        · exact ⟨y, Or.inl h⟩
        · exact ⟨y, Or.inr h⟩
    have hs : (∃ (j : Nat) (e' : Ef), (e :: efs)[j]? = some e' ∧ D (k + j) = true ∧ x ∈ keys e'.hs) ↔ (D k = true ∧ x ∈ keys e.hs) ∨ ∃ (j : Nat) (e' : Ef), efs[j]? = some e' ∧ D (k + 1 + j) = true ∧ x ∈ keys e'.hs := by
      constructor
      · rintro ⟨j, e', h1, h2, h3⟩
        cases j with
        | zero =>
          simp only [List.getElem?_cons_zero, Option.some.injEq] at h1
          subst h1
          exact Or.inl ⟨h2, h3⟩
        | succ j => exact Or.inr ⟨j, e', by simpa using h1, by rw [show k + 1 + j = k + (j + 1) by omega]; exact h2, h3⟩
      · rintro (⟨h1, h2⟩ | ⟨j, e', h1, h2, h3⟩)
        · exact ⟨0, e, rfl, h1, h2⟩
        · exact ⟨j + 1, e', by simpa using h1, by rw [show k + (j + 1) = k + 1 + j by omega]; exact h2, h3⟩
    rw [hs]
    simp only [effH]
    cases hD : D k with
    | true =>
      dsimp only
      rw [effH_al, hk]
      constructor
      · rintro ((h | h) | h)
        · exact Or.inr (Or.inl ⟨rfl, h⟩)
        · exact Or.inl h
        · exact Or.inr (Or.inr h)
      · rintro (h | ⟨_, h⟩ | h)
        · exact Or.inl (Or.inr h)
        · exact Or.inl (Or.inl h)
        · exact Or.inr h
    | false =>
      dsimp only
      rw [effH_al]
      constructor
      · rintro (h | h)
        · exact Or.inl h
        · exact Or.inr (Or.inr h)
      · rintro (h | ⟨h, _⟩ | h)
        · exact Or.inl h
        · cases h
        · exact Or.inr h

section
variable {P : Program} {E : Env}

/-- What the walk of the text order shows. -/
inductive Wk (P : Program) (E : Env) (ops : List Oper) (n m : Nat) (pn : Option (Nat × AV)) : List Oper → Nat → Nat → List (Nat × AV) → List (Nat × Option Blk) → List Ef → Prop
  | nil {q id : Nat} {t : List (Nat × AV)} {h : List (Nat × Option Blk)} : Wk P E ops n m pn [] q id t h []
  | skip {o : Oper} {os : List Oper} {q id : Nat} {t : List (Nat × AV)} {h : List (Nat × Option Blk)} {efs : List Ef} (hq : ∀ v, pn ≠ some (q, v)) (hg : GuardV ops t o.guard false) (hr : Wk P E ops n m pn os (q + 1) (id + 16) (putT n o.dst (.val undef) t) h efs) :
      Wk P E ops n m pn (o :: os) q id t h (⟨false, .val undef, [], []⟩ :: efs)
  | run {o : Oper} {os : List Oper} {q id : Nat} {t : List (Nat × AV)} {h : List (Nat × Option Blk)} {efs : List Ef} {v : AV} {hs : List (Nat × Option Blk)} {rd : List Nat} (hq : ∀ v, pn ≠ some (q, v)) (hg : GuardV ops t o.guard true)
      (hop : OpTo P (hl · h) m E id o t (.ok v hs rd)) (hr : Wk P E ops n m pn os (q + 1) (id + 16) (putT n o.dst v t) (hs ++ h) efs) : Wk P E ops n m pn (o :: os) q id t h (⟨true, v, hs, rd⟩ :: efs)
  | pan {o : Oper} {os : List Oper} {q id : Nat} {t : List (Nat × AV)} {h : List (Nat × Option Blk)} {efs : List Ef} {v : AV} {hs : List (Nat × Option Blk)} {rd : List Nat} (hg : GuardV ops t o.guard true) (hp : pn = some (q, v))
      (hop : OpTo P (hl · h) m E id o t (.panic v hs rd)) (hr : Wk P E ops n m pn os (q + 1) (id + 16) (putT n o.dst .junk t) (hs ++ h) efs) : Wk P E ops n m pn (o :: os) q id t h (⟨true, .junk, hs, rd⟩ :: efs)
  | dead {o : Oper} {os : List Oper} {q id : Nat} {t : List (Nat × AV)} {h : List (Nat × Option Blk)} {efs : List Ef} (p : Nat) (u : AV) (hp : pn = some (p, u)) (hb : ((waitL ops []).getD q 0).testBit p = true)
      (hr : Wk P E ops n m pn os (q + 1) (id + 16) (putT n o.dst .junk t) h efs) : Wk P E ops n m pn (o :: os) q id t h (⟨true, .junk, [], []⟩ :: efs)

def Ef.eff (e : Ef) : Eff := ⟨e.rd, keys e.hs⟩

theorem effT_shift {n : Nat} : ∀ (l : List Oper) (efs : List Ef) (k k' : Nat) (t : List (Nat × AV)), effT n (fun _ => true) l efs k t = effT n (fun _ => true) l efs k' t := by
  intro l
  induction l with
  | nil => intros; simp [effT]
  | cons o l ih => intro efs k k' t; cases efs with | nil => simp [effT] | cons e efs => simp only [effT]; exact ih efs _ _ _
theorem effH_shift : ∀ (efs : List Ef) (k k' : Nat) (t : List (Nat × Option Blk)), effH (fun _ => true) efs k t = effH (fun _ => true) efs k' t := by
  intro efs
  induction efs with
  | nil => intros; simp [effH]
  | cons o l ih => intro k k' t; simp only [effH]; exact ih _ _ _

theorem xRest_wk {ops : List Oper} {n m p : Nat} {u : AV} {K : List Eff → Nat → Prop} : ∀ (l : List Oper) (q id : Nat) (tr : List Eff) (t : List (Nat × AV)) (h : List (Nat × Option Blk)), p < q → xRest P E ops n m p (waitL ops []) l q id tr t h K →
    ∃ efs, Wk P E ops n m (some (p, u)) l q id t h efs ∧ efs.length = l.length ∧ (∀ e ∈ efs, e.hs = []) ∧ K ((efs.map Ef.eff).reverse ++ tr) (id + 16 * l.length)
  | [], q, id, tr, t, h, hpq, hx => ⟨[], .nil, rfl, by simp, by simpa [xRest] using hx⟩
  | o :: l, q, id, tr, t, h, hpq, hx => by
    have hne : ∀ v, some (p, u) ≠ some (q, v) := fun v e => by cases e; omega
    have hlen : id + 16 * (o :: l).length = id + 16 + 16 * l.length := by simp; omega
    simp only [xRest] at hx
    split at hx
    · rename_i hb
      simp only [putK_iff, forceN_iff] at hx
      obtain ⟨efs, w1, w2, w4, w3⟩ := xRest_wk (u := u) l (q + 1) (id + 16) _ _ _ (by omega) hx
      refine ⟨_, .dead p u rfl hb w1, by simp [w2], fun e he => ?_, ?_⟩
      · rcases List.mem_cons.1 he with rfl | he
        · rfl
        · exact w4 e he
      · rw [hlen]; simpa [Ef.eff, keys] using w3
    · obtain ⟨b, kn', hkn', hx, hg⟩ := guard_to (kn := []) (fun d b hd => by simp [known] at hd) hx
      cases b with
      | false =>
        simp only [putK_iff, forceN_iff] at hx
        obtain ⟨efs, w1, w2, w4, w3⟩ := xRest_wk (u := u) l (q + 1) (id + 16) _ _ _ (by omega) hx
        refine ⟨_, .skip hne hg w1, by simp [w2], fun e he => ?_, ?_⟩
        · rcases List.mem_cons.1 he with rfl | he
          · rfl
          · exact w4 e he
        · rw [hlen]; simpa [Ef.eff, keys] using w3
      | true =>
        obtain ⟨out, hop, hx⟩ := opTr_to hkn' hx
        cases out with
        | panic y hs rd => exact hx.elim
        | ok y hs rd =>
          dsimp only at hx
          split at hx
          · simp only [force_iff, putK_iff, forceN_iff] at hx
            obtain ⟨efs, w1, w2, w4, w3⟩ := xRest_wk (u := u) l (q + 1) (id + 16) _ _ _ (by omega) hx
            refine ⟨_, .run hne hg hop (by simpa using w1), by simp [w2], fun e he => ?_, ?_⟩
            · rcases List.mem_cons.1 he with rfl | he
              · rfl
              · exact w4 e he
            · rw [hlen]; simpa [Ef.eff, keys] using w3
          · exact hx.elim

theorem xOps_wk {ops : Array Oper} {n m : Nat} {Kx : Ex → List Eff → List (Nat × AV) → List (Nat × Option Blk) → Nat → Prop} {Kp : AV → List Eff → List Eff → List (Nat × AV) → List (Nat × Option Blk) → Nat → Prop}
    (hnp : ∀ v e tr t h id, Kx (.panic v) (e :: tr) t h id → xRest P E ops.toList n m tr.length (waitL ops.toList []) (ops.toList.drop (tr.length + 1)) (tr.length + 1) id (e :: tr) (putT n (dstOf ops.toList tr.length) .junk t) h fun tr' nx => Kp v tr tr' (putT n (dstOf ops.toList tr.length) .junk t) h nx) :
    ∀ (l : List Oper) (id : Nat) (kn : List (Nat × Bool)) (tr : List Eff) (t : List (Nat × AV)) (h : List (Nat × Option Blk)), l = ops.toList.drop tr.length → xOps P E ops.toList n m l id kn tr t h Kx → KnOK kn t →
      (∃ efs, Wk P E ops.toList n m none l tr.length id t h efs ∧ efs.length = l.length ∧ Kx .normal ((efs.map Ef.eff).reverse ++ tr) (effT n (fun _ => true) l efs 0 t) (effH (fun _ => true) efs 0 h) (id + 16 * l.length)) ∨
      (∃ (i : Nat) (v : AV) (t1 : List (Nat × AV)) (efs : List Ef), i < l.length ∧ Wk P E ops.toList n m (some (tr.length + i, v)) l tr.length id t h efs ∧ efs.length = l.length ∧ (∀ j e', i < j → efs[j]? = some e' → e'.hs = []) ∧
        (∀ d, (∀ o ∈ l, o.dst ≠ some d) → look d t1 = look d t) ∧ Kp v (((efs.take i).map Ef.eff).reverse ++ tr) ((efs.map Ef.eff).reverse ++ tr) t1 (effH (fun _ => true) efs 0 h) (id + 16 * l.length))
  | [], id, kn, tr, t, h, _, hx, _ => Or.inl ⟨[], .nil, rfl, by simpa [effT, effH, xOps] using hx⟩
  | o :: l, id, kn, tr, t, h, hl', hx, hkn => by
    have hlen : id + 16 * (o :: l).length = id + 16 + 16 * l.length := by simp; omega
    have hl2 : ∀ e : Eff, l = ops.toList.drop (e :: tr).length := fun e => by
      rw [List.length_cons, ← List.drop_drop, ← hl']; rfl
    simp only [xOps] at hx
    obtain ⟨b, kn', hkn', hx, hg⟩ := guard_to hkn hx
    cases b with
    | false =>
      simp only [putK_iff, forceN_iff] at hx
      rcases xOps_wk hnp l (id + 16) _ _ _ _ (hl2 _) hx (hkn'.put n o.dst (.val undef)) with ⟨efs, w1, w2, w3⟩ | ⟨i, v, t1, efs, v1, v2, v3, v5, v6, v7⟩
      · refine Or.inl ⟨_, .skip (by simp) hg w1, by simp [w2], ?_⟩
        rw [hlen]
        simp only [effT, effH, List.nil_append, List.map_cons, List.reverse_cons, List.append_assoc, List.singleton_append]
        rw [effT_shift l efs (0 + 1) 0, effH_shift efs (0 + 1) 0]
        exact w3
      · refine Or.inr ⟨i + 1, v, t1, _, by simpa using v1, .skip (fun v e => by simp only [Option.some.injEq, Prod.mk.injEq] at e; omega) hg (by rw [show tr.length + (i + 1) = (⟨[], []⟩ :: tr : List Eff).length + i by simp; omega]; exact v2), by simp [v3], fun j e' hj he => ?_, fun d hd => ?_, ?_⟩
        · obtain ⟨j, rfl⟩ : ∃ j', j = j' + 1 := ⟨j - 1, by omega⟩
          exact v5 j e' (by omega) (by simpa using he)
        · rw [v6 d fun o' ho' => hd o' (by simp [ho'])]
          exact look_putT_ne (hd o (by simp))
        · rw [hlen]
          simp only [effH, List.nil_append, List.map_cons, List.reverse_cons, List.append_assoc, List.singleton_append, List.take_succ_cons]
          rw [effH_shift efs (0 + 1) 0]
          exact v7
    | true =>
      obtain ⟨out, hop, hx⟩ := opTr_to hkn' hx
      cases out with
      | panic u hs rd =>
        simp only [appK_iff, forceN_iff] at hx
        have := hnp _ _ _ _ _ _ hx
        have h2 := hl2 ⟨[], []⟩
        simp only [List.length_cons] at h2
        rw [← h2] at this
        obtain ⟨efs, w1, w2, w4, w3⟩ := xRest_wk (u := u) l _ _ _ _ _ (by omega) this
        have hdst : dstOf ops.toList tr.length = o.dst := by
          have : ops.toList[tr.length]? = some o := by
            have h3 : (ops.toList.drop tr.length)[0]? = some o := by rw [← hl']; rfl
            simpa using h3
          simp only [dstOf, this, Option.bind_some]
        rw [hdst] at w1 w3
        refine Or.inr ⟨0, u, putT n o.dst .junk t, _, by simp, .pan hg rfl hop w1, by simp [w2], fun j e' hj he => ?_, fun d hd => ?_, ?_⟩
        · obtain ⟨j, rfl⟩ : ∃ j', j = j' + 1 := ⟨j - 1, by omega⟩
          exact w4 e' (List.mem_of_getElem? (by simpa using he))
        · exact look_putT_ne (hd o (by simp))
        · have he : ∀ (efs : List Ef) (k : Nat) (h : List (Nat × Option Blk)), (∀ e ∈ efs, e.hs = []) → effH (fun _ => true) efs k h = h := by
            intro efs
            induction efs with
            | nil => intros; rfl
            | cons e efs ih => intro k h hh; simp only [effH, hh e (by simp), List.nil_append]; exact ih _ _ fun e he => hh e (by simp [he])
          rw [hlen]
          simp only [effH, List.map_cons, List.reverse_cons, List.append_assoc, List.singleton_append, List.take_zero, List.map_nil, List.reverse_nil, List.nil_append]
          rw [he efs _ _ w4]
          exact w3
      | ok u hs rd =>
        simp only [force_iff, putK_iff, appK_iff, forceN_iff] at hx
        rcases xOps_wk hnp l (id + 16) _ _ _ _ (hl2 _) hx (hkn'.put n o.dst u) with ⟨efs, w1, w2, w3⟩ | ⟨i, v, t1, efs, v1, v2, v3, v5, v6, v7⟩
        · refine Or.inl ⟨_, .run (by simp) hg hop w1, by simp [w2], ?_⟩
          rw [hlen]
          simp only [effT, effH, List.map_cons, List.reverse_cons, List.append_assoc, List.singleton_append]
          rw [effT_shift l efs (0 + 1) 0, effH_shift efs (0 + 1) 0]
          exact w3
        · refine Or.inr ⟨i + 1, v, t1, _, by simpa using v1, .run (fun v e => by simp only [Option.some.injEq, Prod.mk.injEq] at e; omega) hg hop (by rw [show tr.length + (i + 1) = (⟨rd, keys hs⟩ :: tr : List Eff).length + i by simp; omega]; exact v2), by simp [v3], fun j e' hj he => ?_, fun d hd => ?_, ?_⟩
          · obtain ⟨j, rfl⟩ : ∃ j', j = j' + 1 := ⟨j - 1, by omega⟩
            exact v5 j e' (by omega) (by simpa using he)
          · rw [v6 d fun o' ho' => hd o' (by simp [ho'])]
            exact look_putT_ne (hd o (by simp))
          · rw [hlen]
            simp only [effH, List.map_cons, List.reverse_cons, List.append_assoc, List.singleton_append, List.take_succ_cons]
            rw [effH_shift efs (0 + 1) 0]
            exact v7

theorem Wk.get {ops : List Oper} {n m : Nat} {pn : Option (Nat × AV)} {l : List Oper} {q id : Nat} {t : List (Nat × AV)} {h : List (Nat × Option Blk)} {efs : List Ef} (hw : Wk P E ops n m pn l q id t h efs) :
    ∀ (k i : Nat) (o : Oper) (e : Ef), l[i]? = some o → efs[i]? = some e →
      ((∀ v, pn ≠ some (q + i, v)) ∧ e.run = false ∧ e.v = .val undef ∧ e.hs = [] ∧ GuardV ops (effT n (fun j => decide (j < k + i)) l efs k t) o.guard false) ∨
      ((∀ v, pn ≠ some (q + i, v)) ∧ e.run = true ∧ GuardV ops (effT n (fun j => decide (j < k + i)) l efs k t) o.guard true ∧ OpTo P (hl · (effH (fun j => decide (j < k + i)) efs k h)) m E (id + 16 * i) o (effT n (fun j => decide (j < k + i)) l efs k t) (.ok e.v e.hs e.rd)) ∨
      (∃ v, pn = some (q + i, v) ∧ GuardV ops (effT n (fun j => decide (j < k + i)) l efs k t) o.guard true ∧ OpTo P (hl · (effH (fun j => decide (j < k + i)) efs k h)) m E (id + 16 * i) o (effT n (fun j => decide (j < k + i)) l efs k t) (.panic v e.hs e.rd)) ∨
      (∃ p v, pn = some (p, v) ∧ ((waitL ops []).getD (q + i) 0).testBit p = true) := by
  induction hw with
  | nil => intro k i o e h; simp at h
  | @skip o os q id t h efs hq hg hr ih =>
    intro k i o' e' ho he
    cases i with
    | zero =>
      simp only [List.getElem?_cons_zero, Option.some.injEq] at ho he
      subst ho he
      left
      refine ⟨hq, rfl, rfl, rfl, ?_⟩
      rw [effT_none fun j hj => by simp; omega]
      exact hg
    | succ i =>
      have := ih (k + 1) i o' e' (by simpa using ho) (by simpa using he)
      have hd : decide (k < k + (i + 1)) = true := by simp
      simp only [effT, effH, hd, List.nil_append]
      rw [show k + 1 + i = k + (i + 1) by omega, show id + 16 + 16 * i = id + 16 * (i + 1) by omega, show q + 1 + i = q + (i + 1) by omega] at this
      exact this
  | @run o os q id t h efs v hs rd hq hg hop hr ih =>
    intro k i o' e' ho he
    cases i with
    | zero =>
      simp only [List.getElem?_cons_zero, Option.some.injEq] at ho he
      subst ho he
      right; left
      refine ⟨hq, rfl, ?_, ?_⟩
      · rw [effT_none fun j hj => by simp; omega]
        exact hg
      · rw [effT_none fun j hj => by simp; omega, effH_none fun j hj => by simp; omega]
        exact hop
    | succ i =>
      have := ih (k + 1) i o' e' (by simpa using ho) (by simpa using he)
      have hd : decide (k < k + (i + 1)) = true := by simp
      simp only [effT, effH, hd]
      rw [show k + 1 + i = k + (i + 1) by omega, show id + 16 + 16 * i = id + 16 * (i + 1) by omega, show q + 1 + i = q + (i + 1) by omega] at this
      exact this
  | @pan o os q id t h efs v hs rd hg hp hop hr ih =>
    intro k i o' e' ho he
    cases i with
    | zero =>
      simp only [List.getElem?_cons_zero, Option.some.injEq] at ho he
      subst ho he
      right; right; left
      refine ⟨v, hp, ?_, ?_⟩
      · rw [effT_none fun j hj => by simp; omega]
        exact hg
      · rw [effT_none fun j hj => by simp; omega, effH_none fun j hj => by simp; omega]
        exact hop
    | succ i =>
      have := ih (k + 1) i o' e' (by simpa using ho) (by simpa using he)
      have hd : decide (k < k + (i + 1)) = true := by simp
      simp only [effT, effH, hd]
      rw [show k + 1 + i = k + (i + 1) by omega, show id + 16 + 16 * i = id + 16 * (i + 1) by omega, show q + 1 + i = q + (i + 1) by omega] at this
      exact this
  | @dead o os q id t h efs p u hp hb hr ih =>
    intro k i o' e' ho he
    cases i with
    | zero => exact Or.inr (Or.inr (Or.inr ⟨p, u, hp, hb⟩))
    | succ i =>
      have := ih (k + 1) i o' e' (by simpa using ho) (by simpa using he)
      have hd : decide (k < k + (i + 1)) = true := by simp
      simp only [effT, effH, hd, List.nil_append]
      rw [show k + 1 + i = k + (i + 1) by omega, show id + 16 + 16 * i = id + 16 * (i + 1) by omega, show q + 1 + i = q + (i + 1) by omega] at this
      exact this
end
end Go.Fw
namespace Go.Fw
open Go Go.RowKit

/-- A set of operations that holds what its members wait for. -/
def Closed (ops : List Oper) (D : Nat → Bool) : Prop := ∀ (j : Nat) (o : Oper), ops[j]? = some o → D j = true → ∀ e ∈ o.after.toList, Region.binds .any e = true → D e.on = true

theorem waitB_spec {acc : List Nat} : ∀ {es : List Edge} {i : Nat}, (waitB acc es).testBit i = true → ∃ e ∈ es, Region.binds .any e = true ∧ (i = e.on ∨ (acc.getD e.on 0).testBit i = true)
  | [], i, h => by simp [waitB] at h
  | e :: es, i, h => by
    simp only [waitB] at h
    split at h
    · rename_i hb
      rw [Nat.testBit_or, Nat.testBit_or] at h
      simp only [Bool.or_eq_true] at h
      rcases h with h | h | h
      · exact ⟨e, by simp, hb, Or.inl (by rw [Nat.testBit_two_pow] at h; simpa using (of_decide_eq_true h).symm)⟩
      · exact ⟨e, by simp, hb, Or.inr h⟩
      · obtain ⟨e', h1, h2⟩ := waitB_spec h; exact ⟨e', by simp [h1], h2⟩
    · obtain ⟨e', h1, h2⟩ := waitB_spec h; exact ⟨e', by simp [h1], h2⟩

theorem waitL_spec {ops : List Oper} {D : Nat → Bool} (hD : Closed ops D) : ∀ {l : List Oper} {acc : List Nat}, (∀ j, l[j]? = ops[acc.length + j]?) →
    (∀ j, j < acc.length → ∀ i, (acc.getD j 0).testBit i = true → ∀ o, ops[j]? = some o → (∀ e ∈ o.after.toList, Region.binds .any e = true → D e.on = true) → D i = true) →
    ∀ j i, ((waitL l acc).getD j 0).testBit i = true → ∀ o, ops[j]? = some o → (∀ e ∈ o.after.toList, Region.binds .any e = true → D e.on = true) → D i = true
  | [], acc, hl', ha, j, i, h, o, ho, hp => by
    rcases Nat.lt_or_ge j acc.length with hj | hj
    · exact ha j hj i h o ho hp
    · rw [waitL] at h
      rw [List.getD_eq_getElem?_getD, List.getElem?_eq_none hj] at h
      simp at h
  | o0 :: l, acc, hl', ha, j, i, h, o, ho, hp => by
    rw [waitL_cons] at h
    refine waitL_spec hD (l := l) (acc := acc ++ [waitB acc o0.after.toList]) (fun j => ?_) (fun j hj i hi o ho hp => ?_) j i h o ho hp
    · have := hl' (j + 1)
      rw [List.length_append, List.length_singleton, Nat.add_assoc, Nat.add_comm 1 j, ← this]; simp
    · rw [List.getD_eq_getElem?_getD] at hi
      rcases Nat.lt_or_ge j acc.length with hj' | hj'
      · rw [List.getElem?_append_left hj'] at hi
        exact ha j hj' i (by rw [List.getD_eq_getElem?_getD]; exact hi) o ho hp
      · have hj2 : j = acc.length := by simp at hj; omega
        subst hj2
        rw [List.getElem?_append_right (Nat.le_refl _)] at hi
        simp only [Nat.sub_self, List.getElem?_cons_zero, Option.getD_some] at hi
        have ho' := hl' 0
        simp only [List.getElem?_cons_zero, Nat.add_zero] at ho'
        rw [ho] at ho'
        cases ho'
        obtain ⟨e, he, hb, hi⟩ := waitB_spec hi
        have hDe := hp e he hb
        rcases hi with rfl | hi
        · exact hDe
        · have hlt : e.on < acc.length := by
            rcases Nat.lt_or_ge e.on acc.length with h | h
            · exact h
            · rw [List.getD_eq_getElem?_getD, List.getElem?_eq_none h] at hi
              simp at hi
          have h0 := hl' 0
          have hlen : acc.length < ops.length := (List.getElem?_eq_some_iff.1 ho).1
          have hoe : ops[e.on]? = some (ops[e.on]'(by omega)) := List.getElem?_eq_getElem (by omega)
          exact ha e.on hlt i hi _ hoe fun e' he' hb' => hD e.on _ hoe hDe e' he' hb'

theorem meets_spec {a b : List Nat} (h : meets a b = false) : ∀ x ∈ a, x ∉ b := by
  intro x hx hb
  simp only [meets, List.any_eq_false, Bool.not_eq_true] at h
  have := h x hx x hb
  simp at this

theorem clash_spec {b : Nat} {e : Eff} : ∀ {tr : List Eff} {j : Nat} {x : Eff}, clash b e tr = false → tr.reverse[j]? = some x → b.testBit j = false → meets e.wr x.rd = false ∧ meets e.wr x.wr = false ∧ meets e.rd x.wr = false
  | [], j, x, _, h, _ => by simp at h
  | y :: tr, j, x, h, hx, hb => by
    simp only [clash, Bool.or_eq_false_iff] at h
    rw [List.reverse_cons] at hx
    rcases Nat.lt_or_ge j tr.reverse.length with hj | hj
    · rw [List.getElem?_append_left hj] at hx
      exact clash_spec h.2 hx hb
    · rw [List.getElem?_append_right hj] at hx
      have hj0 : j - tr.reverse.length = 0 := by
        rcases Nat.eq_zero_or_pos (j - tr.reverse.length) with h | h
        · exact h
        · rw [List.getElem?_eq_none (by simp at h ⊢; omega)] at hx; cases hx
      rw [hj0] at hx
      cases hx
      have hj2 : j = tr.length := by simp at hj hj0; omega
      rw [hj2] at hb
      have := h.1
      rw [hb] at this
      simpa [Bool.or_eq_false_iff, and_assoc] using this

theorem heapApart_spec {nx : Nat} {bf : List Nat} : ∀ {tr : List Eff}, heapApart nx bf tr = true → ∀ (i : Nat) (e : Eff), tr.reverse[i]? = some e →
    (∀ (j : Nat) (x : Eff), j < i → tr.reverse[j]? = some x → (bf.getD i 0).testBit j = false → meets e.wr x.rd = false ∧ meets e.wr x.wr = false ∧ meets e.rd x.wr = false) ∧
    ∀ x ∈ e.wr, x < nx ∨ (x - nx) / 16 = i ∨ (bf.getD i 0).testBit ((x - nx) / 16) = true
  | [], _, i, e, h => by simp at h
  | y :: tr, h, i, e, he => by
    simp only [heapApart, Bool.and_eq_true, Bool.not_eq_true'] at h
    obtain ⟨⟨h1, h2⟩, h3⟩ := h
    rw [List.reverse_cons] at he
    rcases Nat.lt_or_ge i tr.reverse.length with hi | hi
    · rw [List.getElem?_append_left hi] at he
      obtain ⟨a, b⟩ := heapApart_spec h3 i e he
      refine ⟨fun j x hj hx hb => a j x hj ?_ hb, b⟩
      rw [List.reverse_cons, List.getElem?_append_left (by omega)] at hx
      exact hx
    · rw [List.getElem?_append_right hi] at he
      have hi0 : i - tr.reverse.length = 0 := by
        rcases Nat.eq_zero_or_pos (i - tr.reverse.length) with h | h
        · exact h
        · rw [List.getElem?_eq_none (by simp at h ⊢; omega)] at he; cases he
      rw [hi0] at he
      cases he
      have hi2 : i = tr.length := by simp at hi hi0; omega
      subst hi2
      refine ⟨fun j x hj hx hb => ?_, fun x hx => ?_⟩
      · rw [List.reverse_cons, List.getElem?_append_left (by simpa using hj)] at hx
        exact clash_spec h1 hx hb
      · have := List.all_eq_true.1 h2 x hx
        simp only [keyOK, Bool.or_eq_true] at this
        rcases this with (h | h) | h
        · exact Or.inl (Nat.le_of_ble_eq_true h)
        · exact Or.inr (Or.inl (Nat.eq_of_beq_eq_true h))
        · exact Or.inr (Or.inr h)

/-- What the Bool over a region says of each pair of its operations. -/
theorem lex_spec {ops : Array Oper} : ∀ (fuel k : Nat) (listed : Array Bool), Region.lexFrom .any ops fuel k listed = true → listed.size = ops.size → (∀ j, j < ops.size → listed.getD j true = decide (j < k)) → fuel + k = ops.size →
    ∀ i, k ≤ i → ∀ oi, ops[i]? = some oi → (∀ e ∈ oi.after, Region.binds .any e = true → e.on < i) ∧
      ∀ (j : Nat) (oj : Oper), i < j → ops[j]? = some oj → (∀ e ∈ oj.after, Region.binds .any e = true → e.on ≠ i) → oi.apart ops oj = true
  | 0, k, listed, _, _, _, hk, i, hi, oi, ho => by
    have := (Array.getElem?_eq_some_iff.1 ho).1
    omega
  | fuel + 1, k, listed, h, hsz, hl', hk, i, hi, oi, ho => by
    simp only [Region.lexFrom, Bool.and_eq_true] at h
    obtain ⟨⟨h1, h2⟩, h3⟩ := h
    by_cases hik : i = k
    · subst hik
      have hr := mem_ready.1 (show i ∈ Region.ready .any ops listed by simpa using h1)
      obtain ⟨_, o', ho', hall⟩ := hr
      rw [ho] at ho'
      cases ho'
      refine ⟨fun e he hb => ?_, fun j oj hj hoj hno => ?_⟩
      · have h4 := hall e he hb
        have hlt : e.on < ops.size := by
          rcases Nat.lt_or_ge e.on ops.size with h | h
          · exact h
          · rw [Array.getD_eq_getD_getElem?, Array.getElem?_eq_none (by omega)] at h4; cases h4
        have h5 := hl' e.on hlt
        have h6 : listed.getD e.on true = listed.getD e.on false := by
          rw [Array.getD_eq_getD_getElem?, Array.getD_eq_getD_getElem?, Array.getElem?_eq_getElem (by omega)]; rfl
        rw [h6, h4] at h5
        simpa using h5.symm
      · refine Region.free_spec ho h2 j oj hoj (by omega) ?_ hno
        rw [hl' j (Array.getElem?_eq_some_iff.1 hoj).1]
        simp; omega
    · refine lex_spec fuel (k + 1) (listed.setIfInBounds k true) h3 (by simpa using hsz) (fun j hj => ?_) (by omega) i (by omega) oi ho
      by_cases hjk : j = k
      · subst hjk
        rw [Array.getD_eq_getD_getElem?, Array.getElem?_setIfInBounds_self_of_lt (by omega)]
        simp
      · rw [getD_set_ne true (Ne.symm hjk), hl' j hj]
        have : (j < k) = (j < k + 1) := by apply propext; omega
        simp [this]
end Go.Fw
namespace Go.Fw
open Go Go.RowKit

section
variable {P : Program} {E : Env} {bs : Bs}

theorem Mod.ext {φ : Ph} {s s' : St} {a : Act} {w : World} (h : Mod bs φ s a w) (ht : ∀ d, look d s.t = look d s'.t) (hh : ∀ x, hl x s.h = hl x s'.h) (hal : ∀ x, s.al x ↔ s'.al x)
    (hn : s.n = s'.n) (hnx : s.nx ≤ s'.nx) (hm : s.m = s'.m) (hdf : s.df = s'.df) : Mod bs φ s' a w := by
  have hc := cx_ext (bs := bs) (φ := φ) (w := w) hh hal
  refine ⟨h.toHM.ext hh hal hnx hm, hn ▸ h.n, fun i => ?_, ?_⟩
  · rw [← ht i, ← hc]; exact h.t i
  · rw [← hdf, ← hc]; exact h.df

theorem al_iff {s : St} {x : Nat} : s.al x ↔ x ∈ keys s.h := mem_keys.symm

theorem countP_zero {l : List Bool} (h : l.countP (fun b => !b) = 0) : ∀ b ∈ l, b = true := by
  intro b hb
  have := List.countP_eq_zero.1 h b hb
  simpa using this

/-- The sets of operations that may have been carried out. -/
def inD (listed : Array Bool) (j : Nat) : Bool := listed.getD j false

theorem draw_sound (hE : EnvOK P E) {ops : Array Oper} {n m id0 : Nat} {df : List AV} {t0 : List (Nat × AV)} {h0 : List (Nat × Option Blk)} {efs : List Ef} {Q : Exit → Act → World → Prop} {pn : Option (Nat × AV)}
    (hlen : efs.length = ops.size) (hw : Wk P E ops.toList n m pn ops.toList 0 id0 t0 h0 efs) (hlex : Region.lexFrom .any ops ops.size 0 (Array.replicate ops.size false) = true)
    (hap : heapApart id0 (waitL ops.toList []) (efs.map Ef.eff).reverse = true) (hal0 : ∀ x ∈ keys h0, x < id0)
    (hQ : pn = none → ∀ φ a w, Mod bs φ ⟨n, effT n (fun _ => true) ops.toList efs 0 t0, effH (fun _ => true) efs 0 h0, id0 + 16 * ops.size, m, df⟩ a w → Q .normal a w)
    (hQp : ∀ (p : Nat) (v : AV) (e : Ef) (D : Nat → Bool), pn = some (p, v) → efs[p]? = some e → D p = false → (∀ i, ((waitL ops.toList []).getD p 0).testBit i = true → D i = true) →
      (∀ i, ((waitL ops.toList []).getD i 0).testBit p = true → i < ops.size → D i = false) → ∀ φ a w u, Mod bs φ ⟨n, effT n D ops.toList efs 0 t0, e.hs ++ effH D efs 0 h0, id0 + 16 * ops.size, m, df⟩ a w →
      R (cx bs φ ⟨n, effT n D ops.toList efs 0 t0, e.hs ++ effH D efs 0 h0, id0 + 16 * ops.size, m, df⟩ w) v u → Q (.panic [{ v := u, recovered := false }]) a w) :
    ∀ (fuel : Nat) (listed : Array Bool) (φ : Ph) (a : Act) (w : World), listed.size = ops.size → listed.toList.countP (fun b => !b) ≤ fuel → Closed ops.toList (inD listed) → (∀ p v, pn = some (p, v) → inD listed p = false ∧ p < ops.size) →
      Mod bs φ ⟨n, effT n (inD listed) ops.toList efs 0 t0, effH (inD listed) efs 0 h0, id0 + 16 * ops.size, m, df⟩ a w → wpAny P .any ops Q fuel listed a w := by
  have hlx := fun i oi ho => lex_spec (ops := ops) ops.size 0 _ hlex (by simp) (fun j hj => by simp [hj]) (by omega) i (Nat.zero_le _) oi ho
  have hget := hw.get
  -- pairs
  have hpair : ∀ (i j : Nat) (oi oj : Oper), i < j → ops[i]? = some oi → ops[j]? = some oj → (∀ e ∈ oj.after, Region.binds .any e = true → e.on ≠ i) → oi.apart ops oj = true := fun i j oi oj hij hi hj => (hlx i oi hi).2 j oj hij hj
  have hheap : ∀ (i j : Nat) (ei ej : Ef), i < j → efs[i]? = some ei → efs[j]? = some ej → ((waitL ops.toList []).getD j 0).testBit i = false →
      (∀ x ∈ keys ej.hs, x ∉ ei.rd) ∧ (∀ x ∈ keys ej.hs, x ∉ keys ei.hs) ∧ ∀ x ∈ ej.rd, x ∉ keys ei.hs := by
    intro i j ei ej hij hi hj hb
    obtain ⟨h1, _⟩ := heapApart_spec hap j ej.eff (by rw [List.reverse_reverse, List.getElem?_map, hj]; rfl)
    obtain ⟨a, b, c⟩ := h1 i ei.eff hij (by rw [List.reverse_reverse, List.getElem?_map, hi]; rfl) hb
    exact ⟨meets_spec a, meets_spec b, meets_spec c⟩
  have hkey : ∀ (j : Nat) (ej : Ef) (x : Nat), efs[j]? = some ej → x ∈ keys ej.hs → x < id0 ∨ (x - id0) / 16 = j ∨ ((waitL ops.toList []).getD j 0).testBit ((x - id0) / 16) = true := by
    intro j ej x hj hx
    exact (heapApart_spec hap j ej.eff (by rw [List.reverse_reverse, List.getElem?_map, hj]; rfl)).2 x hx
  have hbf : ∀ {D : Nat → Bool}, Closed ops.toList D → ∀ j i, ((waitL ops.toList []).getD j 0).testBit i = true → ∀ o, ops[j]? = some o → (∀ e ∈ o.after.toList, Region.binds .any e = true → D e.on = true) → D i = true := fun hD j i hb o ho hp =>
    waitL_spec hD (l := ops.toList) (acc := []) (fun j => by simp) (fun j hj => absurd hj (Nat.not_lt_zero _)) j i hb o (by simpa using ho) hp
  intro fuel
  induction fuel with
  | zero =>
    intro listed φ a w hsz hcnt hcl hpd hM
    have hall := countP_zero (Nat.le_zero.1 hcnt)
    have hin : ∀ j, j < ops.size → listed.getD j true = true := fun j hj => by
      rw [Array.getD_eq_getD_getElem?, Array.getElem?_eq_getElem (by omega)]
      exact hall _ (by simp)
    refine ⟨?_, hQ ?_ φ a w ?_⟩
    rotate_left
    · cases hpn : pn with
      | none => rfl
      | some x =>
        obtain ⟨p, v⟩ := x
        obtain ⟨h1, h2⟩ := hpd p v hpn
        have := hin p h2
        simp only [inD, Array.getD_eq_getD_getElem?, Array.getElem?_eq_getElem (show p < listed.size by omega)] at h1 this
        rw [show listed[p] = true from this] at h1
        cases h1
    rotate_right
    · rw [List.eq_nil_iff_forall_not_mem]
      intro j hj
      obtain ⟨h1, o, ho, _⟩ := mem_ready.1 hj
      rw [hin j (Array.getElem?_eq_some_iff.1 ho).1] at h1
      cases h1
    · refine hM.ext (fun d => ?_) (fun x => ?_) (fun x => ?_) rfl (Nat.le_refl _) rfl rfl
      · refine effT_look (fun j o ho _ => ?_) rfl
        have hj : j < ops.size := by simpa using (List.getElem?_eq_some_iff.1 ho).1
        have := hin j hj
        rw [Array.getD_eq_getD_getElem?, Array.getElem?_eq_getElem (by omega)] at this
        simp only [inD, Nat.zero_add, Array.getD_eq_getD_getElem?, Array.getElem?_eq_getElem (show j < listed.size by omega)]
        exact this
      · refine effH_look (fun j e he _ => ?_) rfl
        have hj : j < ops.size := by rw [← hlen]; exact (List.getElem?_eq_some_iff.1 he).1
        have := hin j hj
        rw [Array.getD_eq_getD_getElem?, Array.getElem?_eq_getElem (by omega)] at this
        simp only [inD, Nat.zero_add, Array.getD_eq_getD_getElem?, Array.getElem?_eq_getElem (show j < listed.size by omega)]
        exact this
      · rw [al_iff, al_iff]
        show x ∈ keys (effH _ _ _ _) ↔ x ∈ keys (effH _ _ _ _)
        rw [effH_al, effH_al]
        refine or_congr Iff.rfl ⟨fun ⟨j, e, h1, _, h3⟩ => ⟨j, e, h1, rfl, h3⟩, fun ⟨j, e, h1, _, h3⟩ => ⟨j, e, h1, ?_, h3⟩⟩
        have hj : j < ops.size := by rw [← hlen]; exact (List.getElem?_eq_some_iff.1 h1).1
        have := hin j hj
        rw [Array.getD_eq_getD_getElem?, Array.getElem?_eq_getElem (by omega)] at this
        simp only [inD, Nat.zero_add, Array.getD_eq_getD_getElem?, Array.getElem?_eq_getElem (show j < listed.size by omega)]
        exact this
  | succ fuel ih =>
    intro listed φ a w hsz hcnt hcl hpd hM
    have hunl : ∀ j, j < ops.size → listed.getD j true = inD listed j := fun j hj => by
      simp only [inD, Array.getD_eq_getD_getElem?, Array.getElem?_eq_getElem (show j < listed.size by omega)]; rfl
    refine ⟨fun hnil => ?_, fun i hi => ?_⟩
    · -- nothing is ready: all are done
      have hall : ∀ j, j < ops.size → inD listed j = true := by
        intro j
        induction j using Nat.strongRecOn with
        | _ j ihj =>
          intro hj
          cases hd : inD listed j with
          | true => rfl
          | false =>
            have ho : ops[j]? = some ops[j] := Array.getElem?_eq_getElem hj
            have : j ∈ Region.ready .any ops listed := mem_ready.2 ⟨by rw [hunl j hj]; exact hd, _, ho, fun e he hb => by
              have h1 := (hlx j _ ho).1 e he hb
              exact ihj e.on h1 (by omega)⟩
            rw [hnil] at this
            cases this
      have hc0 : listed.toList.countP (fun b => !b) = 0 := List.countP_eq_zero.2 fun b hb => by
        obtain ⟨j, hj, rfl⟩ := List.getElem_of_mem hb
        have hj' : j < listed.size := by simpa using hj
        have := hall j (by omega)
        simp only [inD, Array.getD_eq_getD_getElem?, Array.getElem?_eq_getElem hj', Option.getD_some] at this
        simp [this]
      have hpn : pn = none := by
        cases hpn : pn with
        | none => rfl
        | some x =>
          obtain ⟨p, v⟩ := x
          obtain ⟨h1, h2⟩ := hpd p v hpn
          rw [hall p h2] at h1; cases h1
      refine hQ hpn φ a w (hM.ext (fun d => ?_) (fun x => ?_) (fun x => ?_) rfl (Nat.le_refl _) rfl rfl)
      · refine effT_look (fun j o ho _ => ?_) rfl
        have hj : j < ops.size := by simpa using (List.getElem?_eq_some_iff.1 ho).1
        rw [Nat.zero_add, hall j hj]
      · refine effH_look (fun j e he _ => ?_) rfl
        have hj : j < ops.size := by rw [← hlen]; exact (List.getElem?_eq_some_iff.1 he).1
        rw [Nat.zero_add, hall j hj]
      · rw [al_iff, al_iff]
        show x ∈ keys (effH _ _ _ _) ↔ x ∈ keys (effH _ _ _ _)
        rw [effH_al, effH_al]
        refine or_congr Iff.rfl ⟨fun ⟨j, e, h1, _, h3⟩ => ⟨j, e, h1, rfl, h3⟩, fun ⟨j, e, h1, _, h3⟩ => ⟨j, e, h1, ?_, h3⟩⟩
        have hj : j < ops.size := by rw [← hlen]; exact (List.getElem?_eq_some_iff.1 h1).1
        rw [Nat.zero_add, hall j hj]
    · -- operation i comes up
      obtain ⟨hiu, o, ho, hafter⟩ := mem_ready.1 hi
      have hin : i < ops.size := (Array.getElem?_eq_some_iff.1 ho).1
      have hiD : inD listed i = false := by rw [← hunl i hin]; exact hiu
      have hil : i < listed.size := by omega
      obtain ⟨e, he⟩ : ∃ e, efs[i]? = some e := ⟨_, List.getElem?_eq_getElem (by omega)⟩
      have hoL : ops.toList[i]? = some o := by simpa using ho
      have hD' : ∀ j, inD (listed.setIfInBounds i true) j = (inD listed j || decide (j = i)) := by
        intro j
        unfold inD
        by_cases e1 : i = j
        · subst e1
          rw [Array.getD_eq_getD_getElem?, Array.getElem?_setIfInBounds_self_of_lt hil]
          simp
        · rw [getD_set_ne false e1]
          simp [Ne.symm e1]
      have hcl' : Closed ops.toList (inD (listed.setIfInBounds i true)) := by
        intro j oj hj hDj e' he' hb'
        rw [hD'] at hDj ⊢
        simp only [Bool.or_eq_true, decide_eq_true_eq] at hDj ⊢
        left
        rcases hDj with h | rfl
        · exact hcl j oj hj h e' he' hb'
        · rw [hoL] at hj
          cases hj
          exact hafter e' (by simpa using he') hb'
      -- later members of the set do not wait for i; earlier ones that are no members: i does not wait for them
      have hlater : ∀ (j : Nat) (oj : Oper), i < j → ops[j]? = some oj → inD listed j = true → o.apart ops oj = true := fun j oj hij hj hDj =>
        hpair i j o oj hij ho hj fun e' he' hb' h => by
          have := hcl j oj (by simpa using hj) hDj e' (by simpa using he') hb'
          rw [h, hiD] at this; cases this
      have hearly : ∀ (j : Nat) (oj : Oper), j < i → ops[j]? = some oj → inD listed j = false → oj.apart ops o = true := fun j oj hij hj hDj =>
        hpair j i oj o hij hj ho fun e' he' hb' h => by
          have := hafter e' he' hb'
          rw [h] at this
          have h2 : inD listed j = true := this
          rw [hDj] at h2; cases h2
      have hlaterH : ∀ (j : Nat) (ej : Ef), i < j → efs[j]? = some ej → inD listed j = true → (∀ x ∈ keys ej.hs, x ∉ e.rd) ∧ (∀ x ∈ keys ej.hs, x ∉ keys e.hs) := fun j ej hij hj hDj => by
        have hoj : ops[j]? = some (ops[j]'(by rw [← hlen]; exact (List.getElem?_eq_some_iff.1 hj).1)) := Array.getElem?_eq_getElem _
        obtain ⟨a, b, _⟩ := hheap i j e ej hij he hj (by
          cases hb : ((waitL ops.toList []).getD j 0).testBit i with
          | false => rfl
          | true =>
            have := hbf hcl j i hb _ hoj fun e' he' hb' => hcl j _ (by simpa using hoj) hDj e' he' hb'
            rw [hiD] at this; cases this)
        exact ⟨a, b⟩
      have hearlyH : ∀ (j : Nat) (ej : Ef), j < i → efs[j]? = some ej → inD listed j = false → ∀ x ∈ e.rd, x ∉ keys ej.hs := fun j ej hij hj hDj => by
        obtain ⟨_, _, c⟩ := hheap j i ej e hij hj he (by
          cases hb : ((waitL ops.toList []).getD i 0).testBit j with
          | false => rfl
          | true =>
            have := hbf hcl i j hb o ho fun e' he' hb' => hafter e' (by simpa using he') hb'
            rw [hDj] at this; cases this)
        exact c
      have hrt : ∀ d ∈ o.looksAt ops, look d (effT n (inD listed) ops.toList efs 0 t0) = look d (effT n (fun j => decide (j < 0 + i)) ops.toList efs 0 t0) := by
        intro d hd
        refine effT_look (fun j oj hj hdst => ?_) rfl
        have hj' : ops[j]? = some oj := by simpa using hj
        simp only [Nat.zero_add]
        rcases Nat.lt_trichotomy j i with h | rfl | h
        · cases hDj : inD listed j with
          | true => simp [h]
          | false => exact absurd hd ((Oper.apart_spec (hearly j oj h hj' hDj)).1 d hdst)
        · rw [hiD]; simp
        · cases hDj : inD listed j with
          | false => simp; omega
          | true => exact absurd hd ((Oper.apart_spec (hlater j oj h hj' hDj)).2.2 d hdst)
      have hrh : ∀ x ∈ e.rd, hl x (effH (inD listed) efs 0 h0) = hl x (effH (fun j => decide (j < 0 + i)) efs 0 h0) := by
        intro x hx
        refine effH_look (fun j ej hj hk => ?_) rfl
        simp only [Nat.zero_add]
        rcases Nat.lt_trichotomy j i with h | rfl | h
        · cases hDj : inD listed j with
          | true => simp [h]
          | false => exact absurd hk (hearlyH j ej h hj hDj x hx)
        · rw [hiD]; simp
        · cases hDj : inD listed j with
          | false => simp; omega
          | true => exact absurd hx ((hlaterH j ej h hj hDj).1 x hk)
      have hfresh : ∀ k, k < 16 → ¬ St.al ⟨n, effT n (inD listed) ops.toList efs 0 t0, effH (inD listed) efs 0 h0, id0 + 16 * ops.size, m, df⟩ (id0 + 16 * i + k) := by
        intro k hk hal
        rw [al_iff] at hal
        have hal : id0 + 16 * i + k ∈ keys (effH (inD listed) efs 0 h0) := hal
        rw [effH_al] at hal
        rcases hal with h | ⟨j, ej, h1, h2, h3⟩
        · have := hal0 _ h; omega
        · rw [Nat.zero_add] at h2
          have hq : (id0 + 16 * i + k - id0) / 16 = i := by omega
          rcases hkey j ej _ h1 h3 with h | h | h
          · omega
          · rw [hq] at h; subst h; rw [hiD] at h2; cases h2
          · rw [hq] at h
            have hoj : ops[j]? = some (ops[j]'(by rw [← hlen]; exact (List.getElem?_eq_some_iff.1 h1).1)) := Array.getElem?_eq_getElem _
            have := hbf hcl j i h _ hoj fun e' he' hb' => hcl j _ (by simpa using hoj) h2 e' he' hb'
            rw [hiD] at this; cases this
      have hnext : (∀ v, pn ≠ some (i, v)) → ∀ φ' a' w', Mod bs φ' (St.done ⟨n, effT n (inD listed) ops.toList efs 0 t0, effH (inD listed) efs 0 h0, id0 + 16 * ops.size, m, df⟩ o.dst e.v e.hs) a' w' →
          wpAny P .any ops Q fuel (listed.setIfInBounds i true) a' w' := by
        intro hni φ' a' w' hM'
        refine ih _ φ' a' w' (by simpa using hsz) ?_ hcl' (fun p v hpv => ⟨by rw [hD', (hpd p v hpv).1]; simp; rintro rfl; exact hni v hpv, (hpd p v hpv).2⟩) (hM'.ext (fun d => ?_) (fun x => ?_) (fun x => ?_) rfl (Nat.le_refl _) rfl rfl)
        · have h1 : (listed.setIfInBounds i true).toList = listed.toList.set i true := by simp
          have h2 : listed.toList[i]'(by simpa using hil) = false := by
            have : listed[i] = false := by
              have := hiD
              simpa [inD, Array.getD_eq_getD_getElem?, Array.getElem?_eq_getElem hil] using this
            simpa using this
          have h3 : 0 < listed.toList.countP (fun b => !b) := List.countP_pos_iff.2 ⟨false, h2 ▸ List.getElem_mem _, rfl⟩
          rw [h1, List.countP_set (by simpa using hil), h2]
          simp only [Bool.not_false, if_true, Bool.not_true, Bool.false_eq_true, if_false]
          omega
        · show look d (putT n o.dst e.v (effT n (inD listed) ops.toList efs 0 t0)) = look d (effT n (inD (listed.setIfInBounds i true)) ops.toList efs 0 t0)
          by_cases hd : o.dst = some d
          · by_cases hdn : d < n
            · rw [hd, look_putT_eq hdn]
              refine (effT_last hdn hd hoL he (by rw [Nat.zero_add, hD']; simp) fun j oj hij hj hDj hdj => ?_).symm
              rw [Nat.zero_add, hD'] at hDj
              have hDj : inD listed j = true := by simpa [show j ≠ i by omega] using hDj
              exact (Oper.apart_spec (hlater j oj hij (by simpa using hj) hDj)).2.1 d hd hdj
            · rw [look_putT_ge hdn, effT_ge hdn, effT_ge hdn]
          · rw [look_putT_ne hd]
            refine effT_look (fun j oj hj hdj => ?_) rfl
            rw [Nat.zero_add, hD']
            by_cases hji : j = i
            · subst hji
              rw [hoL] at hj
              cases hj
              exact absurd hdj hd
            · simp [hji]
        · show hl x (e.hs ++ effH (inD listed) efs 0 h0) = hl x (effH (inD (listed.setIfInBounds i true)) efs 0 h0)
          by_cases hx : x ∈ keys e.hs
          · rw [hl_app_key hx]
            refine (effH_last hx he (by rw [Nat.zero_add, hD']; simp) fun j ej hij hj hDj hxj => ?_).symm
            rw [Nat.zero_add, hD'] at hDj
            have hDj : inD listed j = true := by simpa [show j ≠ i by omega] using hDj
            exact (hlaterH j ej hij hj hDj).2 x hxj hx
          · rw [hl_app_ne hx]
            refine effH_look (fun j ej hj hxj => ?_) rfl
            rw [Nat.zero_add, hD']
            by_cases hji : j = i
            · subst hji
              rw [he] at hj
              cases hj
              exact absurd hxj hx
            · simp [hji]
        · rw [al_iff, al_iff]
          show x ∈ keys (e.hs ++ effH (inD listed) efs 0 h0) ↔ x ∈ keys (effH (inD (listed.setIfInBounds i true)) efs 0 h0)
          have hk : x ∈ keys (e.hs ++ effH (inD listed) efs 0 h0) ↔ x ∈ keys e.hs ∨ x ∈ keys (effH (inD listed) efs 0 h0) := by
            simp only [mem_keys, List.mem_append]
            constructor
            · rintro ⟨y, h | h⟩
              · exact Or.inl ⟨y, h⟩
              · exact Or.inr ⟨y, h⟩
            · rintro (⟨y, h⟩ | ⟨y, h⟩)
              · exact ⟨y, Or.inl h⟩
              · exact ⟨y, Or.inr h⟩
          rw [hk, effH_al, effH_al]
          constructor
          · rintro (h | h | ⟨j, ej, h1, h2, h3⟩)
            · exact Or.inr ⟨i, e, he, by rw [Nat.zero_add, hD']; simp, h⟩
            · exact Or.inl h
            · exact Or.inr ⟨j, ej, h1, by rw [Nat.zero_add] at h2 ⊢; rw [hD', h2]; rfl, h3⟩
          · rintro (h | ⟨j, ej, h1, h2, h3⟩)
            · exact Or.inr (Or.inl h)
            · by_cases hji : j = i
              · subst hji
                rw [he] at h1
                cases h1
                exact Or.inl h3
              · exact Or.inr (Or.inr ⟨j, ej, h1, by rw [Nat.zero_add, hD'] at h2; rw [Nat.zero_add]; simpa [hji] using h2, h3⟩)
      unfold wpOp
      rw [ho]
      dsimp only
      rcases hget 0 i o e hoL he with ⟨hni, _, g2, g3, g4⟩ | ⟨hni, _, g2, g3⟩ | ⟨v, hpv, g2, g3⟩ | ⟨p, v, hpv, hbit⟩
      · have hwt := wanted_of (ops := ops) (o := o) hM (g4.congr hrt)
        rw [if_neg (by rw [hwt]; simp)]
        refine hnext (by simpa using hni) φ _ w ?_
        rw [g2, g3]
        exact hM.put (φ' := φ) (hs := []) o.dst hM.toHM (Cx.Le.refl _) (.val undef)
      · have hwt := wanted_of (ops := ops) (o := o) hM (g2.congr hrt)
        rw [if_pos hwt]
        refine Or.inl (op_wp hE hM (id := id0 + 16 * i) hfresh (by show _ ≤ id0 + 16 * ops.size; omega) (g3.congr (ops := ops) hrh hrt) (fun u hs rd h v w' hres => ?_) fun u hs rd h => by cases h)
        cases h
        obtain ⟨φ', r1, r2, r3⟩ := hres
        exact hnext (by simpa using hni) φ' _ w' (hM.put o.dst r1 r2 r3)
      · have hwt := wanted_of (ops := ops) (o := o) hM (g2.congr hrt)
        rw [if_pos hwt]
        refine Or.inl (op_wp hE hM (id := id0 + 16 * i) hfresh (by show _ ≤ id0 + 16 * ops.size; omega) (g3.congr (ops := ops) hrh hrt) (fun u hs rd h v w' hres => by cases h) fun u hs rd h v' w' hres => ?_)
        cases h
        obtain ⟨φ', r1, r2, r3⟩ := hres
        have hM2 := hM.put (u := .junk) (v := undef) none r1 r2 (.junk _)
        refine hQp i v e (inD listed) (by simpa using hpv) he hiD (fun j hb => hbf hcl i j hb o ho fun e' he' hb' => hafter e' (by simpa using he') hb') (fun j hb hj => ?_) φ' a w' v' hM2 r3
        cases hDj : inD listed j with
        | false => rfl
        | true =>
          have hoj : ops[j]? = some ops[j] := Array.getElem?_eq_getElem hj
          have := hbf hcl j i hb _ hoj fun e' he' hb' => hcl j _ (by simpa using hoj) hDj e' he' hb'
          rw [hiD] at this; cases this
      · have := hbf hcl i p (by simpa using hbit) o ho fun e' he' hb' => hafter e' (by simpa using he') hb'
        rw [(hpd p v hpv).1] at this; cases this
end
end Go.Fw
namespace Go.Fw
open Go Go.RowKit

theorem least_exists {p : Nat → Prop} (h : ∃ n, p n) : ∃ n, p n ∧ ∀ m, p m → n ≤ m := by
  obtain ⟨n, hn⟩ := h
  induction n using Nat.strongRecOn with
  | _ n ih =>
    by_cases hx : ∃ m, m < n ∧ p m
    · obtain ⟨m, h1, h2⟩ := hx
      exact ih m h1 h2
    · refine ⟨n, hn, fun m hm => ?_⟩
      rcases Nat.lt_or_ge m n with h | h
      · exact absurd ⟨m, h, hm⟩ hx
      · exact h

theorem allB_mono : ∀ {n k : Nat} {p q : Nat → Prop}, (∀ i, p i → q i) → allB k n p → allB k n q
  | 0, _, _, _, _, _ => trivial
  | n + 1, k, _, _, h, hp => ⟨h k hp.1, allB_mono h hp.2⟩

theorem guardK_mono {ops : List Oper} {t : List (Nat × AV)} {kn : List (Nat × Bool)} {g : Option (Nat × Bool)} {K1 K2 : Bool → List (Nat × Bool) → Prop} (hk : ∀ b kn, K1 b kn → K2 b kn) (hg : guardK ops t kn g K1) : guardK ops t kn g K2 := by
  unfold guardK at hg ⊢
  split at hg
  · exact hk _ _ hg
  · split at hg
    · exact hg.elim
    · split at hg
      · split at hg <;> exact hk _ _ hg
      · split at hg
        · split at hg <;> exact hk _ _ hg
        · split at hg <;> exact hk _ _ hg
        · split at hg <;> exact ⟨fun hb => hk _ _ (hg.1 hb), fun hb => hk _ _ (hg.2 hb)⟩
        · exact hk _ _ hg
        · exact hg.elim

theorem run_mono {P : Program} {id : Nat} : ∀ {tr : Tr} {log : List Nat} {hp : Nat → Option Blk} {K1 K2 : Out → Prop}, (∀ o, K1 o → K2 o) → tr.run P hp id log K1 → tr.run P hp id log K2 := by
  intro tr
  induction tr with
  | ret v hs => intro log hp K1 K2 hk hr; exact hk _ hr
  | rd i k ihk => intro log hp K1 K2 hk hr; exact ihk _ hk hr
  | vc p k ihk => intro log hp K1 K2 hk hr; exact ⟨hr.1, ihk hk hr.2⟩
  | cs z n k ihk =>
    intro log hp K1 K2 hk hr
    exact ⟨hr.1, allB_mono (fun i hi hz => ihk i hk (hi hz)) hr.2⟩
  | call f args =>
    intro log hp K1 K2 hk hr
    cases hr with
    | fn ρ hf ha hb hn ho hkk hs k => exact .fn ρ hf ha hb hn ho hkk hs (hk _ k)
    | pn ρ hf ha hb hn ho hkk hs k => exact .pn ρ hf ha hb hn ho hkk hs (hk _ k)
  | panic v => intro log hp K1 K2 hk hr; exact hk _ hr
  | bad => intro log hp K1 K2 hk hr; exact hr.elim

section
variable {P : Program} {E : Env} {bs : Bs}

theorem Mod.drew {φ : Ph} {s : St} {a : Act} {w : World} (h : Mod bs φ s a w) : Mod bs φ s a { w with drawn := w.drawn + 1 } := by
  obtain ⟨h1, h2⟩ := h.toHM.drew (w' := { w with drawn := w.drawn + 1 }) rfl ⟨rfl, rfl, rfl, Nat.le_refl _, fun _ _ _ => rfl, fun _ _ cs e fz h => ⟨cs, e, fz, h, rfl⟩⟩
  obtain ⟨ds, d1, d2⟩ := h.df
  exact ⟨h1, h.n, fun i => R.le h2 (h.t i), ds, RL.le h2 d1, d2⟩

theorem Mod.weak {φ : Ph} {s : St} {a : Act} {w : World} (h : Mod bs φ s a w) {t : List (Nat × AV)} (ht : ∀ d, look d t = look d s.t ∨ look d t = .junk) : Mod bs φ { s with t := t } a w := by
  refine ⟨⟨h.kb, h.toHM.h, h.inj, h.lo, h.ps, h.bd, h.kp, h.inc⟩, h.n, fun i => ?_, h.df⟩
  rcases ht i with e | e
  · rw [show look i ({ s with t := t } : St).t = look i s.t from e]; exact h.t i
  · rw [show look i ({ s with t := t } : St).t = .junk from e]; exact .junk _

theorem look_jk : ∀ (ops : List Oper) (t : List (Nat × AV)) (d : Nat), (∃ o ∈ ops, o.dst = some d) ∧ look d (jk ops t) = .junk ∨ (∀ o ∈ ops, o.dst ≠ some d) ∧ look d (jk ops t) = look d t
  | [], t, d => Or.inr ⟨by simp, rfl⟩
  | o :: ops, t, d => by
    have ih := look_jk ops t d
    simp only [jk]
    cases ho : o.dst with
    | none =>
      dsimp only
      rcases ih with ⟨⟨o', h1, h2⟩, h3⟩ | ⟨h1, h2⟩
      · exact Or.inl ⟨⟨o', by simp [h1], h2⟩, h3⟩
      · refine Or.inr ⟨fun o' h => ?_, h2⟩
        rcases List.mem_cons.1 h with rfl | h
        · rw [ho]; simp
        · exact h1 o' h
    | some x =>
      dsimp only
      by_cases e : x = d
      · subst e
        exact Or.inl ⟨⟨o, by simp, ho⟩, by rw [look_cons, if_pos rfl]⟩
      · rw [look_cons, if_neg e]
        rcases ih with ⟨⟨o', h1, h2⟩, h3⟩ | ⟨h1, h2⟩
        · exact Or.inl ⟨⟨o', by simp [h1], h2⟩, h3⟩
        · refine Or.inr ⟨fun o' h => ?_, h2⟩
          rcases List.mem_cons.1 h with rfl | h
          · rw [ho]; simpa using e
          · exact h1 o' h

theorem effH_congr {D D' : Nat → Bool} : ∀ (efs : List Ef) (k : Nat) (h : List (Nat × Option Blk)), (∀ (j : Nat) (e : Ef), efs[j]? = some e → e.hs = [] ∨ D (k + j) = D' (k + j)) → effH D efs k h = effH D' efs k h
  | [], _, _, _ => rfl
  | e :: efs, k, h, hh => by
    have h0 := hh 0 e rfl
    have ih := fun h => effH_congr (D := D) (D' := D') efs (k + 1) h fun j e he => by
      have := hh (j + 1) e (by simpa using he)
      rwa [show k + (j + 1) = k + 1 + j by omega] at this
    simp only [effH]
    rcases h0 with h0 | h0
    · rw [h0]
      simp only [List.nil_append]
      cases D k <;> cases D' k <;> exact ih _
    · rw [Nat.add_zero] at h0
      rw [h0]
      cases D' k <;> exact ih _

theorem effH_split : ∀ (efs : List Ef) (k i : Nat) (e : Ef) (h : List (Nat × Option Blk)), efs[i]? = some e → (∀ (j : Nat) (e' : Ef), i < j → efs[j]? = some e' → e'.hs = []) →
    effH (fun _ => true) efs k h = e.hs ++ effH (fun j => decide (j < k + i)) efs k h
  | [], _, _, _, _, h, _ => by simp at h
  | x :: efs, k, 0, e, h, he, hr => by
    simp only [List.getElem?_cons_zero, Option.some.injEq] at he
    subst he
    rw [effH_none (D := fun j => decide (j < k + 0)) fun j hj => by simp; omega]
    simp only [effH]
    rw [effH_congr (D' := fun _ => false) efs (k + 1) _ fun j e' he' => Or.inl (hr (j + 1) e' (by omega) (by simpa using he')), effH_none fun _ _ => rfl]
  | x :: efs, k, i + 1, e, h, he, hr => by
    have hd : decide (k < k + (i + 1)) = true := by simp
    simp only [effH, hd]
    rw [effH_split efs (k + 1) i e _ (by simpa using he) fun j e' hj he' => hr (j + 1) e' (by omega) (by simpa using he'), show k + 1 + i = k + (i + 1) by omega]

theorem preOK_spec {b : Nat} : ∀ {tr : List Eff} {j : Nat} {x : Eff}, preOK b tr = true → tr.reverse[j]? = some x → x.wr = [] ∨ b.testBit j = true
  | [], j, x, _, h => by simp at h
  | e :: tr, j, x, hp, h => by
    simp only [preOK, Bool.and_eq_true] at hp
    rw [List.reverse_cons] at h
    by_cases hj : j < tr.length
    · rw [List.getElem?_append_left (by simpa using hj)] at h
      exact preOK_spec hp.2 h
    · rw [List.getElem?_append_right (by simp; omega)] at h
      have hj2 : j = tr.length := by
        have := (List.getElem?_eq_some_iff.1 h).1
        simp at this; omega
      subst hj2
      simp at h
      subst h
      have h1 := hp.1
      split at h1
      · rename_i hw; exact Or.inl hw
      · exact Or.inr h1

theorem xRest_mono {ops : List Oper} {n m p : Nat} {wl : List Nat} {K K' : List Eff → Nat → Prop} (hk : ∀ tr nx, K tr nx → K' tr nx) : ∀ (l : List Oper) (q id : Nat) (tr : List Eff) (t : List (Nat × AV)) (h : List (Nat × Option Blk)), xRest P E ops n m p wl l q id tr t h K → xRest P E ops n m p wl l q id tr t h K'
  | [], _, _, _, _, _, hx => hk _ _ hx
  | o :: l, q, id, tr, t, h, hx => by
    simp only [xRest] at hx ⊢
    split at hx
    · simp only [putK_iff, forceN_iff] at hx ⊢
      exact xRest_mono hk l _ _ _ _ _ hx
    · refine guardK_mono (fun b kn hb => ?_) hx
      cases b with
      | false =>
        simp only [putK_iff, forceN_iff] at hb ⊢
        exact xRest_mono hk l _ _ _ _ _ hb
      | true =>
        refine run_mono (fun out hout => ?_) hb
        cases out with
        | panic v hs rd => exact hout.elim
        | ok v hs rd =>
          dsimp only at hout ⊢
          split at hout
          · simp only [force_iff, putK_iff, forceN_iff] at hout ⊢
            exact xRest_mono hk l _ _ _ _ _ hout
          · exact hout.elim

theorem panicK_mono {ops : List Oper} {n m nx0 : Nat} {tr : List Eff} {t : List (Nat × AV)} {h : List (Nat × Option Blk)} {nx : Nat} {K K' : List (Nat × AV) → List (Nat × Option Blk) → Nat → Prop} (hk : ∀ t h nx, K t h nx → K' t h nx)
    (hx : panicK P E ops n m nx0 tr t h nx K) : panicK P E ops n m nx0 tr t h nx K' := by
  unfold panicK at hx ⊢
  split at hx
  · exact hx.elim
  · rw [forceL_eq] at hx ⊢
    split at hx
    · simp only [putK_iff] at hx ⊢
      refine xRest_mono (fun tr nx h => ?_) _ _ _ _ _ _ hx
      split at h
      · exact hk _ _ _ h
      · exact h.elim
    · exact hx.elim

theorem splitD_spec : ∀ {ops l : List Oper} {f : Operand}, splitD ops = some (l, f) → ∃ o c, ops = l ++ [o] ∧ o.op = .defer c ∧ c.callee = .value f ∧ c.args = #[] ∧ o.guard = none ∧ o.dst = none
  | [], l, f, h => by simp [splitD] at h
  | [o], l, f, h => by
    unfold splitD at h
    dsimp only at h
    split at h
    · rename_i c hop
      split at h
      · rename_i f' hc ha hg hd
        simp only [Option.some.injEq, Prod.mk.injEq] at h
        obtain ⟨rfl, rfl⟩ := h
        exact ⟨o, c, rfl, hop, hc, by rw [← Array.toList_eq_nil_iff]; exact ha, hg, hd⟩
      · cases h
    · cases h
  | o :: o' :: os, l, f, h => by
    have h : (match splitD (o' :: os) with
      | some (l, f) => some (o :: l, f)
      | none => none) = some (l, f) := h
    split at h
    · rename_i l' f' hs
      simp only [Option.some.injEq, Prod.mk.injEq] at h
      obtain ⟨rfl, rfl⟩ := h
      obtain ⟨o2, c, h1, h2⟩ := splitD_spec hs
      exact ⟨o2, c, by rw [h1]; rfl, h2⟩
    · cases h

theorem wpOps_mono' {ops : Array Oper} {Q Q' : Exit → Act → World → Prop} (hq : ∀ e a w, Q e a w → Q' e a w) : ∀ (l : List Nat) (a : Act) (w : World), wpOps P ops Q l a w → wpOps P ops Q' l a w
  | [], a, w, h => hq _ _ _ h
  | i :: l, a, w, h => by
    simp only [wpOps] at h ⊢
    cases ho : ops[i]? with
    | none => rw [ho] at h; exact wpOps_mono' hq l a w h
    | some o =>
      rw [ho] at h
      dsimp only at h ⊢
      have hlo : LetsOut Q → LetsOut Q' := fun ⟨a, w, h⟩ => ⟨a, w, hq _ _ _ h⟩
      by_cases hw : Region.wanted o (yielded ops a.tmps) = true
      · rw [if_pos hw] at h ⊢
        rcases h with h | ⟨h1, h2⟩
        · left
          unfold Oper.wp Oper.upon at h ⊢
          split at h
          · exact wpOps_mono' hq l _ _ h
          · exact wpOps_mono' hq l _ _ h
          · exact wpOps_mono' hq l _ _ h
          · refine Calls.mono h fun e w' he => ?_
            cases e with
            | returned v => exact wpOps_mono' hq l _ _ he
            | panicked ch => exact hq _ _ _ he
            | outgrown => exact hlo he
          · exact Rows.mono h fun v w' he => wpOps_mono' hq l _ _ he
          · exact hq _ _ _ h
          · exact h.elim
        · exact Or.inr ⟨h1, hlo h2⟩
      · rw [if_neg hw] at h ⊢
        exact wpOps_mono' hq l _ _ h

theorem wpOps_append {ops : Array Oper} {Q : Exit → Act → World → Prop} {l2 : List Nat} : ∀ (l1 : List Nat) (a : Act) (w : World), wpOps P ops (fun e a w => match e with
    | .normal => wpOps P ops Q l2 a w
    | e => Q e a w) l1 a w → wpOps P ops Q (l1 ++ l2) a w
  | [], a, w, h => h
  | i :: l1, a, w, h => by
    simp only [wpOps, List.cons_append] at h ⊢
    cases ho : ops[i]? with
    | none => rw [ho] at h; exact wpOps_append l1 a w h
    | some o =>
      rw [ho] at h
      dsimp only at h ⊢
      by_cases hw : Region.wanted o (yielded ops a.tmps) = true
      · rw [if_pos hw] at h ⊢
        rcases h with h | ⟨h1, a2, w2, h2⟩
        · left
          unfold Oper.wp Oper.upon at h ⊢
          split at h
          · exact wpOps_append l1 _ _ h
          · exact wpOps_append l1 _ _ h
          · exact wpOps_append l1 _ _ h
          · refine Calls.mono h fun e w' he => ?_
            cases e with
            | returned v => exact wpOps_append l1 _ _ he
            | panicked ch => exact he
            | outgrown => exact he
          · exact Rows.mono h fun v w' he => wpOps_append l1 _ _ he
          · exact h
          · exact h.elim
        · exact Or.inr ⟨h1, a2, w2, h2⟩
      · rw [if_neg hw] at h ⊢
        exact wpOps_append l1 _ _ h

theorem xCode_sound (hE : EnvOK P E) (hmix : P.follows .mixedOrders = true) : ∀ (c : Code) (s : St) (K : Ex → St → Prop) (φ : Ph) (a : Act) (w : World), xCode P E c s K → Mod bs φ s a w → c.wp P (Post bs K) a w
  | .skip, s, K, φ, a, w, h, hM => wp_skip ⟨.normal, s, φ, h, hM, rfl⟩
  | .label _, s, K, φ, a, w, h, hM => wp_label ⟨.normal, s, φ, h, hM, rfl⟩
  | .region id ops draw, s0, K, φ, a, w, h, hM => by
    obtain ⟨⟨n, t, h0, nx0, m, df⟩, hent, h⟩ := h
    obtain ⟨φ, hM⟩ := hent _ _ _ _ hM
    simp only [xRegion] at h
    cases draw with
    | false =>
      dsimp only at h
      split at h
      · have := xOps_sound hE ops.toList 0 nx0 [] [] t h0 φ a w (fun j _ => by simp) h (fun d b hd => by simp [known] at hd) hM
        refine wp_mono (wp_region (by rw [List.range_eq_range', ← Array.length_toList]; exact this)) ?_
        rintro e a w ⟨ex, s, φ, ⟨tr, t, h, nx, hk, rfl⟩, hM, he⟩
        exact ⟨ex, _, φ, hk, hM, he⟩
      · rename_i l f hs
        obtain ⟨o, c, hl, ho, hc, ha, hg, hd⟩ := splitD_spec hs
        have hget : ∀ j : Nat, ops[j]? = (l ++ [o])[j]? := fun j => by rw [← hl, Array.getElem?_toList]
        have hlast : ops[l.length]? = some o := by rw [hget]; simp
        have := xOps_sound hE (bs := bs) (df := df) l 0 nx0 [] [] t h0 φ a w (fun j hj => by rw [Nat.zero_add, hget, List.getElem?_append_left hj]) h (fun d b hd => by simp [known] at hd) hM
        refine wp_region ?_
        rw [List.range_eq_range', ← Array.length_toList, hl, List.length_append, List.length_singleton, ← List.range'_append_1]
        refine wpOps_append _ _ _ (wpOps_mono' ?_ _ _ _ this)
        rintro e a w ⟨ex, s, φ, ⟨tr, t, h, nx, hk, rfl⟩, hM, he⟩
        cases ex with
        | exit i => subst he; exact ⟨.exit i, _, φ, hk, hM, rfl⟩
        | ret => subst he; exact ⟨.ret, _, φ, hk, hM, rfl⟩
        | panic u =>
          obtain ⟨v, rfl, hr⟩ := he
          exact ⟨.panic u, _, φ, hk, hM, v, rfl, hr⟩
        | normal =>
          subst he
          dsimp only at hk ⊢
          unfold dfrK at hk
          split at hk
          · rename_i g c1 c2 hev
            simp only [Nat.zero_add, List.range'_one, wpOps, hlast]
            have hwt : Region.wanted o (yielded ops a.tmps) = true := by simp [Region.wanted, hg]
            rw [if_pos hwt]
            left
            have hfo := hM.ev f
            have hfo : R (cx bs φ _ w) (ev t f) (a.eval f) := hfo
            rw [hev] at hfo
            obtain ⟨d1, d2, hval, r1, r2⟩ := R.clo_inv hfo
            have hrun : (execOp a.eval o).run P w = .ok (.defer { target := .fn (.func g) d2, args := d1 }) w := by
              simp only [execOp, ho, resolve, hc, ha, Deferred.ofValue, hval, Sem.run_bind, Sem.run_pure, Result.andThen_ok]
              simp
            unfold Oper.wp
            rw [hrun, Oper.upon_defer, hd]
            obtain ⟨ds, e1, e2⟩ := hM.df
            exact ⟨.normal, _, φ, hk, ⟨⟨hM.kb, hM.toHM.h, hM.inj, hM.lo, hM.ps, hM.bd, hM.kp, hM.inc⟩, hM.n, hM.t, .func (.func g) d1 d2 :: ds, .cons (by rw [← hval]; have := hM.ev f; rw [show ev _ f = _ from hev] at this; exact this) e1, by simp [Act.put, e2]⟩, rfl⟩
          · exact hk.elim
    | true =>
      dsimp only at h
      obtain ⟨hlex, h⟩ := h
      have hno : ∀ j, inD (Array.replicate ops.size false) j = false := by
        intro j
        simp only [inD, Array.getD_eq_getD_getElem?, Array.getElem?_replicate]
        split <;> rfl
      have hinit : Mod bs φ ⟨n, t, h0, nx0 + 16 * ops.size, m, df⟩ a { w with drawn := w.drawn + 1 } := hM.drew.widen (nx := nx0 + 16 * ops.size) (by simp)
      rcases xOps_wk (Kp := fun v tr tr' t h nx => preOK ((waitL ops.toList []).getD tr.length 0) tr = true ∧ heapApart nx0 (waitL ops.toList []) tr' = true ∧ K (.panic v) ⟨n, jk ops.toList t, h, nx, m, df⟩)
        (fun v e tr t h id h' => by
          simp only [panicK, forceL_eq] at h'
          split at h'
          · rename_i hpre
            simp only [putK_iff] at h'
            refine xRest_mono (fun tr' nx h2 => ?_) _ _ _ _ _ _ h'
            split at h2
            · rename_i hap; exact ⟨hpre, hap, h2⟩
            · exact h2.elim
          · exact h'.elim) ops.toList nx0 [] [] t h0 rfl h (fun d b hd => by simp [known] at hd) with ⟨efs, w1, w2, w3⟩ | ⟨i, v, t1, efs, v1, w1, w2, v5, v6, v7, v8, v9⟩
      rotate_left
      · simp only [Region.lexB, Bool.and_eq_true] at hlex
        refine wp_region_any hmix ?_
        have hsz : efs.length = ops.size := by simpa using w2
        simp only [List.length_nil, Nat.zero_add] at w1
        refine draw_sound hE (bs := bs) (n := n) (m := m) (df := df) hsz w1 hlex.2 (by simpa using v8) (fun x hx => hM.kb x (al_iff.2 hx)) (fun hp => by cases hp) (fun p v' e D hp he hDp hbits _ φ a w u hM' hR => ?_) ops.size _ φ a _ (by simp) ?_ ?_ ?_ ?_
        · simp only [Option.some.injEq, Prod.mk.injEq] at hp
          obtain ⟨rfl, rfl⟩ := hp
          have hheap : effH (fun _ => true) efs 0 h0 = e.hs ++ effH D efs 0 h0 := by
            rw [effH_split efs 0 i e h0 he v5]
            congr 1
            refine effH_congr efs 0 h0 fun j e' he' => ?_
            rw [Nat.zero_add]
            by_cases hji : j < i
            · have h1 : ((efs.take i).map Ef.eff).reverse.reverse[j]? = some e'.eff := by
                rw [List.reverse_reverse, List.getElem?_map, List.getElem?_take_of_lt hji, he']; rfl
              have hlen : (((efs.take i).map Ef.eff).reverse ++ []).length = i := by
                have : i < efs.length := (List.getElem?_eq_some_iff.1 he).1
                simp; omega
              rw [List.append_nil] at v7 hlen
              rw [hlen] at v7
              rcases preOK_spec v7 h1 with h2 | h2
              · left
                cases hh : e'.hs with
                | nil => rfl
                | cons x r => simp [Ef.eff, hh, keys] at h2
              · right
                rw [hbits j h2]; simp [hji]
            · by_cases hje : j = i
              · subst hje
                right; rw [hDp]; simp
              · left; exact v5 j e' (by omega) he'
          refine ⟨.panic v, _, φ, v9, ?_, u, rfl, ?_⟩
          · rw [hheap]
            have hM2 := hM'.weak (t := jk ops.toList t1) fun d => by
              rcases look_jk ops.toList t1 d with ⟨_, h2⟩ | ⟨h1, h2⟩
              · exact Or.inr h2
              · left
                rw [h2, v6 d h1]
                have e1 : look d (effT n D ops.toList efs 0 t) = look d (effT n (fun _ => false) ops.toList efs 0 t) := effT_look (fun j o ho hd => absurd hd (h1 o (List.mem_of_getElem? ho))) rfl
                rw [effT_none fun _ _ => rfl] at e1
                exact e1.symm
            simpa using hM2
          · rw [hheap]
            have hcx : ∀ (t2 : List (Nat × AV)) (nx2 : Nat), cx bs φ ⟨n, t2, e.hs ++ effH D efs 0 h0, nx2, m, df⟩ w = cx bs φ ⟨n, effT n D ops.toList efs 0 t, e.hs ++ effH D efs 0 h0, nx0 + 16 * ops.size, m, df⟩ w := fun t2 nx2 => rfl
            rw [hcx]
            exact hR
        · refine Nat.le_trans List.countP_le_length ?_
          simp
        · intro j o _ hD
          rw [hno] at hD; cases hD
        · intro p v' hp
          simp only [Option.some.injEq, Prod.mk.injEq] at hp
          exact ⟨hno p, by simp at v1; omega⟩
        · rw [effT_none fun j _ => hno j, effH_none fun j _ => hno j]
          exact hinit
      dsimp only at w3
      split at w3
      · rename_i hap
        simp only [Region.lexB, Bool.and_eq_true] at hlex
        refine wp_region_any hmix ?_
        have hsz : efs.length = ops.size := by simpa using w2
        refine draw_sound hE (bs := bs) (n := n) (m := m) (df := df) hsz w1 hlex.2 (by simpa using hap) (fun x hx => hM.kb x (al_iff.2 hx)) (fun _ φ a w hM' => ?_) (fun p v e D hp => by cases hp) ops.size _ φ a _ (by simp) ?_ ?_ (fun p v hp => by cases hp) ?_
        · exact ⟨.normal, _, φ, w3, by simpa using hM', rfl⟩
        · refine Nat.le_trans List.countP_le_length ?_
          simp
        · intro j o _ hD
          simp only [inD, Array.getD_eq_getD_getElem?] at hD
          rw [Array.getElem?_replicate] at hD
          split at hD <;> cases hD
        · have hno : ∀ j, inD (Array.replicate ops.size false) j = false := by
            intro j
            simp only [inD, Array.getD_eq_getD_getElem?, Array.getElem?_replicate]
            split <;> rfl
          rw [effT_none fun j _ => hno j, effH_none fun j _ => hno j]
          exact (hM.drew.widen (nx := nx0 + 16 * ops.size) (by simp))
      · exact w3.elim
  | .seq x y, s, K, φ, a, w, h, hM => by
    simp only [xCode] at h
    refine wp_seq (wp_mono (xCode_sound hE hmix x s _ φ a w h hM) ?_)
    rintro e a w ⟨ex, s', φ', hk, hM', he⟩
    cases ex with
    | normal => subst he; exact xCode_sound hE hmix y s' K φ' a w hk hM'
    | exit i => subst he; exact ⟨.exit i, s', φ', hk, hM', rfl⟩
    | ret => subst he; exact ⟨.ret, s', φ', hk, hM', rfl⟩
    | panic u => obtain ⟨v, rfl, hr⟩ := he; exact ⟨.panic u, s', φ', hk, hM', v, rfl, hr⟩
  | .cond c x y, ⟨n, t, h0, nx0, m, df⟩, K, φ, a, w, h, hM => by
    simp only [xCode] at h
    have hc := hM.ev c
    split at h
    · rename_i e
      have hc : R (cx bs φ _ w) (ev t c) (a.eval c) := hc
      rw [e] at hc
      exact wp_cond_true (R.tt_inv hc) (xCode_sound hE hmix x _ K φ a w h hM)
    · rename_i e
      have hc : R (cx bs φ _ w) (ev t c) (a.eval c) := hc
      rw [e] at hc
      exact wp_cond_false (R.ff_inv hc) (xCode_sound hE hmix y _ K φ a w h hM)
    · rename_i b e
      have hc : R (cx bs φ _ w) (ev t c) (a.eval c) := hc
      rw [e] at hc
      exact wp_cond_split (R.val_inv hc) (fun hb => xCode_sound hE hmix x _ K φ a w (h.1 hb) hM) fun hb => xCode_sound hE hmix y _ K φ a w (h.2 hb) hM
    · exact h.elim
  | .block id c, s, K, φ, a, w, h, hM => by
    simp only [xCode] at h
    refine wp_block (wp_mono (xCode_sound hE hmix c s _ φ a w h hM) ?_)
    rintro e a w ⟨ex, s', φ', hk, hM', he⟩
    cases ex with
    | normal => subst he; exact ⟨.normal, s', φ', hk, hM', rfl⟩
    | exit i =>
      subst he
      simp only [Exit.inBlock]
      dsimp only at hk
      split at hk
      · rename_i hb
        rw [if_pos (Nat.eq_of_beq_eq_true hb)]
        exact ⟨.normal, s', φ', hk, hM', rfl⟩
      · rename_i hb
        rw [if_neg (Nat.ne_of_beq_eq_false hb)]
        exact ⟨.exit i, s', φ', hk, hM', rfl⟩
    | ret => subst he; exact ⟨.ret, s', φ', hk, hM', rfl⟩
    | panic u => obtain ⟨v, rfl, hr⟩ := he; exact ⟨.panic u, s', φ', hk, hM', v, rfl, hr⟩
  | .loop c, s, K, φ, a, w, h, hM => by
    simp only [xCode] at h
    obtain ⟨I, ⟨n0, s0, he0, hi0⟩, hround⟩ := h
    let T : Nat → Act → World → Prop := fun n a w => ∃ s φ, I n s ∧ Mod bs φ s a w
    have hleast : ∀ a w, ∃ n, (∃ k, T k a w) → T n a w ∧ ∀ m, T m a w → n ≤ m := fun a w => by
      by_cases hx : ∃ k, T k a w
      · obtain ⟨n, h1, h2⟩ := least_exists hx; exact ⟨n, fun _ => ⟨h1, h2⟩⟩
      · exact ⟨0, fun h => absurd h hx⟩
    have hch := fun a w => Classical.choose_spec (hleast a w)
    obtain ⟨φ1, hM1⟩ := he0 bs φ a w hM
    refine wp_loop (fun a w => ∃ k, T k a w) (fun a w => Classical.choose (hleast a w)) ⟨n0, s0, φ1, hi0, hM1⟩ fun a w hI => ?_
    obtain ⟨⟨s1, φ2, hi, hM2⟩, hmin⟩ := hch a w hI
    refine wp_mono (xCode_sound hE hmix c s1 _ φ2 a w (hround _ s1 hi) hM2) ?_
    rintro e a' w' ⟨ex, s', φ', hk, hM', he⟩
    cases ex with
    | normal =>
      subst he
      obtain ⟨n', s'', hlt, hent, hi'⟩ := hk
      obtain ⟨φ3, hM3⟩ := hent bs φ' a' w' hM'
      have hT : T n' a' w' := ⟨s'', φ3, hi', hM3⟩
      exact ⟨⟨n', hT⟩, Nat.lt_of_le_of_lt ((hch a' w' ⟨n', hT⟩).2 n' hT) hlt⟩
    | exit i => subst he; exact ⟨.exit i, s', φ', hk, hM', rfl⟩
    | ret => subst he; exact ⟨.ret, s', φ', hk, hM', rfl⟩
    | panic u => obtain ⟨v, rfl, hr⟩ := he; exact ⟨.panic u, s', φ', hk, hM', v, rfl, hr⟩
  | .scope c, s, K, φ, a, w, h, hM => by
    simp only [xCode] at h
    refine wp_scope_straight (wp_mono (xCode_sound hE hmix c s K φ a w h hM) ?_)
    rintro e a w ⟨ex, s', φ', hk, hM', he⟩
    cases ex with
    | normal => subst he; exact ⟨.normal, s', φ', hk, hM', rfl⟩
    | exit i => subst he; exact ⟨.exit i, s', φ', hk, hM', rfl⟩
    | ret => subst he; exact ⟨.ret, s', φ', hk, hM', rfl⟩
    | panic u => obtain ⟨v, rfl, hr⟩ := he; exact ⟨.panic u, s', φ', hk, hM', v, rfl, hr⟩
  | .exit id, s, K, φ, a, w, h, hM => wp_exit ⟨.exit id, s, φ, h, hM, rfl⟩
  | .ret, s, K, φ, a, w, h, hM => wp_ret ⟨.ret, s, φ, h, hM, rfl⟩
  | .rangeFunc .., s, K, φ, a, w, h, hM => h.elim
  | .goto _, s, K, φ, a, w, h, hM => h.elim
  | .refuse _, s, K, φ, a, w, h, hM => h.elim
end
end Go.Fw
namespace Go.Fw
open Go Go.RowKit

mutual
/-- A value as it is handed back: blocks that are handed back (ρ) by their positions, other blocks of the function's own as data. -/
def xfz (hp : Nat → Option Blk) (ρ : List Nat) (m : Nat) : Nat → AV → Option AV
  | 0, _ => none
  | _ + 1, .junk => none
  | _ + 1, .val v => some (.val v)
  | _ + 1, .un k n => some (.un k n)
  | _ + 1, .tt => some (.val (.bool true))
  | _ + 1, .ff => some (.val (.bool false))
  | _ + 1, .nil t => some (.dat .fr t [])
  | _ + 1, .dat o t xs => some (.dat o t xs)
  | _ + 1, .av o t xs => some (.av o t xs)
  | n + 1, .ip o cs k => match xfzs hp ρ m n cs with
    | some cs => some (.ip o cs k)
    | none => none
  | n + 1, .ptr id off => match idx ρ id 0 with
    | some i => some (.ptr i off)
    | none => match Nat.ble m id with
      | true => match hp id with
        | some (.cells cs) => match xfzs hp ρ m n cs with
          | some cs => some (.ip .fr cs off)
          | none => none
        | _ => none
      | false => none
  | _ + 1, .pa id j k => match idx ρ id 0 with
    | some i => some (.pa i j k)
    | none => none
  | _ + 1, .own id => match idx ρ id 0 with
    | some i => some (.own i)
    | none => match Nat.ble m id with
      | true => match hp id with
        | some (.arr o t xs) => some (.dat o t xs)
        | some (.deep t xs) => some (.dat .fr t xs)
        | _ => none
      | false => none
  | _ + 1, .sl id lo len => match idx ρ id 0 with
    | some i => some (.sl i lo len)
    | none => match Nat.ble m id with
      | true => match hp id with
        | some (.arr o t xs) => some (.dat o t ((xs.drop lo).take len))
        | some (.deep t xs) => some (.dat .fr t ((xs.drop lo).take len))
        | _ => none
      | false => none
  | n + 1, .agg cs => match xfzs hp ρ m n cs with
    | some cs => some (.agg cs)
    | none => none
  | n + 1, .tup cs => match xfzs hp ρ m n cs with
    | some cs => some (.tup cs)
    | none => none
  | n + 1, .clo f a b => match xfzs hp ρ m n a with
    | some a => match xfzs hp ρ m n b with
      | some b => some (.clo f a b)
      | none => none
    | none => none
  | n + 1, .ifc t x => match xfz hp ρ m n x with
    | some x => some (.ifc t x)
    | none => none
def xfzs (hp : Nat → Option Blk) (ρ : List Nat) (m : Nat) : Nat → List AV → Option (List AV)
  | 0, _ => none
  | _ + 1, [] => some []
  | n + 1, x :: r => match xfz hp ρ m n x with
    | some x => match xfzs hp ρ m n r with
      | some r => some (x :: r)
      | none => none
    | none => none
end

def xfzB (hp : Nat → Option Blk) (ρ : List Nat) (m : Nat) : Blk → Option Blk
  | .cells l => match xfzs hp ρ m 100 l with
    | some l' => some (.cells (reNil l l'))
    | none => none
  | .arr o t xs => some (.arr o t xs)
  | .deep t xs => some (.deep t xs)
  | .seg _ _ _ _ => none

def xfzH (hp : Nat → Option Blk) (ρ : List Nat) (m : Nat) : List Nat → Nat → Option (List (Nat × Option Blk))
  | [], _ => some []
  | id :: r, i => match hp id with
    | none => match xfzH hp ρ m r (i + 1) with
      | some hs => some ((i, none) :: hs)
      | none => none
    | some b => match xfzB hp ρ m b with
      | some b => match xfzH hp ρ m r (i + 1) with
        | some hs => some ((i, some b) :: hs)
        | none => none
      | none => none

def rng : Nat → Nat → List Nat
  | _, 0 => []
  | k, n + 1 => k :: rng (k + 1) n

def resT (t : List (Nat × AV)) : List ResultVar → Option (List AV)
  | [] => some []
  | .tmp i :: r => match resT t r with
    | some l => some (look i t :: l)
    | none => none
  | _ => none

def resV : List AV → AV
  | [x] => x
  | l => .tup l

def enumT : List AV → Nat → List (Nat × AV)
  | [], _ => []
  | x :: r, i => (i, x) :: enumT r (i + 1)

/-- How a function starts. -/
def initS (nt : Nat) (args : List AV) (hin : List Blk) : St := { n := nt, t := enumT args 0, h := enum hin 0, nx := hin.length, m := hin.length }

/-- How a function ends. -/
def Fin (rs : List ResultVar) (m : Nat) (r : AV) (hs : List (Nat × Option Blk)) (pn : Bool) : Ex → St → Prop := fun e s => s.df = [] ∧ match pn with
  | false => (match e with | .normal => True | .ret => True | _ => False) ∧ ∃ σ l r' hs', resT s.t rs = some l ∧ xfz (hl · s.h) (rng 0 m ++ σ) m 100 (resV l) = some r' ∧ xfzH (hl · s.h) (rng 0 m ++ σ) m (rng 0 m ++ σ) 0 = some hs' ∧
      nodup (rng 0 m ++ σ) = true ∧ Nat.ble (List.length σ) 16 = true ∧ r' = r ∧ hs' = hs
  | true => ∃ v σ r' hs', e = .panic v ∧ xfz (hl · s.h) (rng 0 m ++ σ) m 100 v = some r' ∧ xfzH (hl · s.h) (rng 0 m ++ σ) m (rng 0 m ++ σ) 0 = some hs' ∧
      nodup (rng 0 m ++ σ) = true ∧ Nat.ble (List.length σ) 16 = true ∧ r' = r ∧ hs' = hs

/-- How a context of a function's end lies in the context that its caller sees. -/
structure Xz (c cc : Cx) (ρ : List Nat) (m : Nat) : Prop where
  w : cc.w = c.w
  al : ∀ i id : Nat, ρ[i]? = some id → cc.al i
  φ : ∀ i id : Nat, ρ[i]? = some id → cc.φ i = c.φ id
  h : ∀ i id : Nat, ρ[i]? = some id → ∀ t n, shp (cc.h i) = some (t, n) → shp (c.h id) = some (t, n)
  ok : ∀ (o : Org) (b : Nat), c.ok o b → cc.ok o b
  own : ∀ (id b : Nat), (∀ j : Nat, ρ[j]? ≠ some id) → c.h id ≠ none → c.own id b → m ≤ id → ∀ o, cc.ok o b

section
variable {bs : Bs} {φ : Ph} {s : St} {w : World} {cc : Cx} {ρ : List Nat} {m : Nat}

theorem slAt_xz {c : Cx} (hz : Xz c cc ρ m) {i id lo len cap : Nat} {ad : Option Addr} (hi : ρ[i]? = some id) (h : slAt c id lo len cap ad) : slAt cc i lo len cap ad := by
  rcases h with ⟨b, off, off', h1, h2, h3⟩ | ⟨h1, h2⟩
  · exact Or.inl ⟨b, off, off', (hz.φ i id hi).trans h1, h2, fun t n hx => h3 t n (hz.h i id hi t n hx)⟩
  · exact Or.inr ⟨(hz.φ i id hi).trans h1, h2⟩

theorem capOk_xz {c : Cx} (hz : Xz c cc ρ m) {i id lo cap : Nat} (hi : ρ[i]? = some id) (h : capOk c id lo cap) : capOk cc i lo cap := by
  intro t n hx b off hp
  rw [hz.φ i id hi] at hp
  rw [hz.w]
  exact h t n (hz.h i id hi t n hx) b off hp

theorem own_xz (hM : HM bs φ s w) (hz : Xz (cx bs φ s w) cc ρ m) {id lo len cap : Nat} {ad : Option Addr} {o : Org} {t : Ty} {xs : List (D t)} (hb : hl id s.h = some (.arr o t xs) ∨ (hl id s.h = some (.deep t xs) ∧ o = .fr)) (hn : ∀ j : Nat, ρ[j]? ≠ some id) (hm : m ≤ id)
    (hs : slAt (cx bs φ s w) id lo len cap ad ∨ (len = 0 ∧ cap = 0)) (hle : lo + len ≤ xs.length) (hc : len ≤ cap) : RD cc.w (cc.ok o) (.sl t) ((xs.drop lo).take len) [.slice ad len cap] := by
  simp only [RD]
  have hsh : shp (hl id s.h) = some (t, xs.length) := by rcases hb with h | ⟨h, _⟩ <;> rw [h] <;> rfl
  have hnn : hl id s.h ≠ none := by intro e; rw [e] at hsh; cases hsh
  have hlen : ((xs.drop lo).take len).length = len := by simp; omega
  refine ⟨ad, cap, by rw [hlen], by rw [hlen]; exact hc, fun hne => ?_⟩
  have hpos : 0 < len := by
    rcases Nat.eq_zero_or_pos len with h | h
    · subst h; simp at hne
    · exact h
  rcases hs with hs | ⟨h0, _⟩
  · rcases hs with ⟨b, off, off', h1, h2, h3⟩ | ⟨_, _, h0, _⟩
    · have h1 : φ id = some (b, off) := h1
      have hoff := h3 _ _ hsh
      have hrows : RDs w (cc.ok o) t b off xs := by
        rcases hb with hb | ⟨hb, rfl⟩
        · rcases hM.h id _ hb with ⟨b', off2, cs, e, g1, g2, g3, g4⟩ | ⟨g1, _⟩
          · have g1 : φ id = some (b', off2) := g1
            rw [h1] at g1
            cases g1
            exact g4.imp fun b' hb' => hz.ok o b' hb'
          · have g1 : φ id = none := g1
            rw [h1] at g1; cases g1
        · rcases hM.h id _ hb with ⟨b', off2, cs, e, g1, g2, g3, g4, g5⟩ | ⟨g1, _⟩
          · have g1 : φ id = some (b', off2) := g1
            rw [h1] at g1
            cases g1
            exact g5.data fun b' hb' _ => hz.own id b' hn hnn (Or.inr hb') hm .fr
          · have g1 : φ id = none := g1
            rw [h1] at g1; cases g1
      refine ⟨b, off', h2, hz.own id b hn hnn (Or.inl ⟨off, h1⟩) hm o, fun j hj => ?_⟩
      have hj' : lo + j < xs.length := by rw [hlen] at hj; omega
      obtain ⟨rc, r1, r2⟩ := hrows (lo + j) hj'
      refine ⟨rc, ?_, ?_⟩
      · rw [hz.w]
        have : off' + j * sz t = off + (lo + j) * sz t := by rw [hoff, Nat.add_mul]; omega
        rw [this]; exact r1
      · rw [hz.w]
        have e : ((xs.drop lo).take len)[j]'hj = xs[lo + j] := by simp
        simpa [cx, e] using r2
    · omega
  · omega

theorem xfz_sound (hM : HM bs φ s w) (hz : Xz (cx bs φ s w) cc ρ m) : ∀ n,
    (∀ {x x' : AV} {v : Value}, xfz (hl · s.h) ρ m n x = some x' → R (cx bs φ s w) x v → R cc x' v) ∧
    (∀ {x x' : List AV} {v : List Value}, xfzs (hl · s.h) ρ m n x = some x' → RL (cx bs φ s w) x v → RL cc x' v)
  | 0 => ⟨fun h => by simp [xfz] at h, fun h => by simp [xfzs] at h⟩
  | n + 1 => by
    obtain ⟨ih1, ih2⟩ := xfz_sound hM hz n
    refine ⟨fun {x x' v} h hx => ?_, fun {x x' v} h hx => ?_⟩
    · cases x with
      | junk => simp [xfz] at h
      | val y => simp only [xfz, Option.some.injEq] at h; subst h; rw [R.val_inv hx]; exact .val _
      | un k m => simp only [xfz, Option.some.injEq] at h; subst h; rw [R.un_inv hx]; exact .un _ _
      | tt => simp only [xfz, Option.some.injEq] at h; subst h; rw [R.tt_inv hx]; exact .val _
      | ff => simp only [xfz, Option.some.injEq] at h; subst h; rw [R.ff_inv hx]; exact .val _
      | nil t =>
        simp only [xfz, Option.some.injEq] at h; subst h; rw [R.nil_inv hx]
        exact .dat (by simp only [RD]; exact ⟨none, 0, rfl, Nat.le_refl _, fun h => absurd rfl h⟩)
      | dat o t xs =>
        simp only [xfz, Option.some.injEq] at h; subst h
        cases hx with
        | dat hr => exact .dat (by rw [hz.w]; exact hr.imp fun b hb => hz.ok o b hb)
      | av o t xs =>
        simp only [xfz, Option.some.injEq] at h; subst h
        cases hx with
        | av css h1 h2 h3 => exact .av css h1 h2 fun j hj => by rw [hz.w]; exact (h3 j hj).imp fun b hb => hz.ok o b hb
      | ip o cs k =>
        simp only [xfz] at h
        split at h
        · rename_i cs' heq
          simp only [Option.some.injEq] at h; subst h
          cases hx with
          | ip h0 h1 h2 h3 => exact .ip (by rw [hz.w]; exact h0) (hz.ok o _ h1) (by rw [hz.w]; exact h2) (ih2 heq h3)
        · cases h
      | ptr id off =>
        simp only [xfz] at h
        cases hx with
        | ptr q1 q2 =>
          rename_i b off0
          split at h
          · rename_i i hi
            simp only [Option.some.injEq] at h; subst h
            obtain ⟨j, rfl, hj⟩ := idx_some hi
            rw [Nat.zero_add]
            exact .ptr (hz.al j id hj) ((hz.φ j id hj).trans q2)
          · rename_i hi
            split at h
            · rename_i hmb
              split at h
              · rename_i cs hb
                split at h
                · rename_i cs' heq
                  simp only [Option.some.injEq] at h; subst h
                  obtain ⟨b', rc, e, g1, g2, g3⟩ := blk_cells hM hb
                  have q2 : φ id = some (b, off0) := q2
                  rw [g1] at q2
                  cases q2
                  have hr := rowAt_of g2
                  refine .ip (rc := rc.toList) ?_ (hz.own id _ (idx_none hi) (by show hl id s.h ≠ none; rw [hb]; simp) (Or.inl ⟨_, g1⟩) (Nat.le_of_ble_eq_true hmb) .fr) (by rw [hz.w]; exact hr) (ih2 heq g3)
                  rw [hz.w]
                  rcases Nat.lt_or_ge b w.heap.size with h | h
                  · exact h
                  · rw [Array.getElem?_eq_none h] at g2; cases g2
                · cases h
              · cases h
            · cases h
      | pa id j k =>
        simp only [xfz] at h
        cases hx with
        | pa q1 q2 q3 =>
          split at h
          · rename_i i hi
            simp only [Option.some.injEq] at h; subst h
            obtain ⟨j', rfl, hj⟩ := idx_some hi
            rw [Nat.zero_add]
            exact .pa (hz.al j' id hj) ((hz.φ j' id hj).trans q2) fun t n hx => q3 t n (hz.h j' id hj t n hx)
          · cases h
      | own id =>
        simp only [xfz] at h
        cases hx with
        | own q1 q2 q3 q4 q5 =>
          rename_i len cap ad
          split at h
          · rename_i i hi
            simp only [Option.some.injEq] at h; subst h
            obtain ⟨j', rfl, hj⟩ := idx_some hi
            rw [Nat.zero_add]
            exact .own (hz.al j' id hj) (fun t n hx => q2 t n (hz.h j' id hj t n hx)) (q3.imp (slAt_xz hz hj) fun h => h) (capOk_xz hz hj q4) q5
          · rename_i hi
            split at h
            · rename_i hmb
              split at h
              · rename_i o t xs hb
                simp only [Option.some.injEq] at h; subst h
                have hlen := q2 _ _ (shp_arr hb)
                subst hlen
                have := own_xz hM hz (Or.inl hb) (idx_none hi) (Nat.le_of_ble_eq_true hmb) q3 (by omega) q5
                rw [List.drop_zero, List.take_length] at this
                exact .dat this
              · rename_i t xs hb
                simp only [Option.some.injEq] at h; subst h
                have hlen := q2 _ _ (shp_deep hb)
                subst hlen
                have := own_xz hM hz (o := .fr) (Or.inr ⟨hb, rfl⟩) (idx_none hi) (Nat.le_of_ble_eq_true hmb) q3 (by omega) q5
                rw [List.drop_zero, List.take_length] at this
                exact .dat this
              · cases h
            · cases h
      | sl id lo len =>
        simp only [xfz] at h
        cases hx with
        | sl q1 q2 q3 q4 q5 =>
          rename_i cap ad
          split at h
          · rename_i i hi
            simp only [Option.some.injEq] at h; subst h
            obtain ⟨j', rfl, hj⟩ := idx_some hi
            rw [Nat.zero_add]
            exact .sl (hz.al j' id hj) (fun t n hx => q2 t n (hz.h j' id hj t n hx)) (q3.imp (slAt_xz hz hj) fun h => h) (capOk_xz hz hj q4) q5
          · rename_i hi
            split at h
            · rename_i hmb
              split at h
              · rename_i o t xs hb
                simp only [Option.some.injEq] at h; subst h
                exact .dat (own_xz hM hz (Or.inl hb) (idx_none hi) (Nat.le_of_ble_eq_true hmb) q3 (q2 _ _ (shp_arr hb)) q5)
              · rename_i t xs hb
                simp only [Option.some.injEq] at h; subst h
                exact .dat (own_xz hM hz (o := .fr) (Or.inr ⟨hb, rfl⟩) (idx_none hi) (Nat.le_of_ble_eq_true hmb) q3 (q2 _ _ (shp_deep hb)) q5)
              · cases h
            · cases h
      | agg cs =>
        simp only [xfz] at h
        split at h
        · rename_i cs' heq
          simp only [Option.some.injEq] at h; subst h
          cases hx with | agg hr => exact .agg (ih2 heq hr)
        · cases h
      | tup cs =>
        simp only [xfz] at h
        split at h
        · rename_i cs' heq
          simp only [Option.some.injEq] at h; subst h
          cases hx with | tup hr => exact .tup (ih2 heq hr)
        · cases h
      | clo f a b =>
        simp only [xfz] at h
        split at h
        · rename_i a' heq
          split at h
          · rename_i b' heq2
            simp only [Option.some.injEq] at h; subst h
            cases hx with | clo h1 h2 => exact .clo (ih2 heq h1) (ih2 heq2 h2)
          · cases h
        · cases h
      | ifc t y =>
        simp only [xfz] at h
        split at h
        · rename_i y' heq
          simp only [Option.some.injEq] at h; subst h
          cases hx with | ifc hr => exact .ifc (ih1 heq hr)
        · cases h
    · cases x with
      | nil => simp only [xfzs, Option.some.injEq] at h; subst h; cases hx; exact .nil
      | cons y r =>
        simp only [xfzs] at h
        split at h
        · rename_i y' heq
          split at h
          · rename_i r' heq2
            simp only [Option.some.injEq] at h; subst h
            cases hx with | cons h1 h2 => exact .cons (ih1 heq h1) (ih2 heq2 h2)
          · cases h
        · cases h
end
end Go.Fw
namespace Go.Fw
open Go Go.RowKit

theorem rng_get : ∀ {n k i : Nat}, (rng k n)[i]? = if i < n then some (k + i) else none
  | 0, k, i => by simp [rng]
  | n + 1, k, i => by
    cases i with
    | zero => simp [rng]
    | succ i =>
      rw [rng, List.getElem?_cons_succ, rng_get]
      by_cases h : i < n
      · rw [if_pos h, if_pos (by omega)]; congr 1; omega
      · rw [if_neg h, if_neg (by omega)]

theorem rng_length : ∀ {n k : Nat}, (rng k n).length = n
  | 0, _ => rfl
  | n + 1, k => by rw [rng, List.length_cons, rng_length]

theorem xfzH_spec {hp : Nat → Option Blk} {ρ : List Nat} {m : Nat} : ∀ {l : List Nat} {k : Nat} {hs : List (Nat × Option Blk)}, xfzH hp ρ m l k = some hs →
    (∀ x, x ∈ keys hs ↔ k ≤ x ∧ x < k + l.length) ∧ ∀ (i id : Nat), l[i]? = some id → (hp id = none ∧ hl (k + i) hs = none) ∨ ∃ b b', hp id = some b ∧ xfzB hp ρ m b = some b' ∧ hl (k + i) hs = some b'
  | [], k, hs, h => by simp [xfzH] at h; subst h; exact ⟨fun x => by simp [keys], by simp⟩
  | id :: l, k, hs, h => by
    have fin : ∀ {x : Option Blk} {hs' : List (Nat × Option Blk)}, xfzH hp ρ m l (k + 1) = some hs' → ((hp id = none ∧ x = none) ∨ ∃ b b', hp id = some b ∧ xfzB hp ρ m b = some b' ∧ x = some b') →
        (∀ y, y ∈ keys ((k, x) :: hs') ↔ k ≤ y ∧ y < k + (id :: l).length) ∧ ∀ (i id' : Nat), (id :: l)[i]? = some id' → (hp id' = none ∧ hl (k + i) ((k, x) :: hs') = none) ∨ ∃ b b', hp id' = some b ∧ xfzB hp ρ m b = some b' ∧ hl (k + i) ((k, x) :: hs') = some b' := by
      intro x hs' hr hx
      obtain ⟨h1, h2⟩ := xfzH_spec hr
      refine ⟨fun y => ?_, fun i id' hi => ?_⟩
      · simp only [keys, List.mem_cons, h1, List.length_cons]; omega
      · cases i with
        | zero =>
          simp at hi
          subst hi
          rw [Nat.add_zero, hl_cons, if_pos rfl]
          exact hx
        | succ i =>
          rw [hl_cons, if_neg (by omega), show k + (i + 1) = k + 1 + i by omega]
          exact h2 i id' (by simpa using hi)
    simp only [xfzH] at h
    split at h
    · rename_i hb
      split at h
      · rename_i hs' hr
        simp only [Option.some.injEq] at h; subst h
        exact fin hr (Or.inl ⟨hb, rfl⟩)
      · cases h
    · rename_i b hb
      split at h
      · rename_i b' hb'
        split at h
        · rename_i hs' hr
          simp only [Option.some.injEq] at h; subst h
          exact fin hr (Or.inr ⟨b, b', hb, hb', rfl⟩)
        · cases h
      · cases h

section
variable {P : Program} {E : Env}

theorem exit_gen {bs : Bs} {φ : Ph} {s s2 : St} {w : World} (hM : HM bs φ s w) {m : Nat} (hm : s.m = m) {σ : List Nat} {hs : List (Nat × Option Blk)}
    (hh : xfzH (hl · s.h) (rng 0 m ++ σ) m (rng 0 m ++ σ) 0 = some hs) (hnd : nodup (rng 0 m ++ σ) = true) (hnx : m + σ.length ≤ s2.nx) (hm2 : s2.m = m)
    (hh2 : ∀ i, i < m + σ.length → hl i s2.h = hl i hs) (hal2 : ∀ i, s2.al i ↔ i < m + σ.length) :
    ∃ φ', (∀ i, i < m → φ' i = bs.φ0 i) ∧ HM bs φ' s2 w ∧
      (∀ n x r v, xfz (hl · s.h) (rng 0 m ++ σ) m n x = some r → R (cx bs φ s w) x v → R (cx bs φ' s2 w) r v) ∧
      ∀ n x r v, xfzs (hl · s.h) (rng 0 m ++ σ) m n x = some r → RL (cx bs φ s w) x v → RL (cx bs φ' s2 w) r v := by
  obtain ⟨hkeys, hspec⟩ := xfzH_spec hh
  have hinj := nodup_inj hnd
  have hlow : ∀ i, i < m → (rng 0 m ++ σ)[i]? = some i := fun i hi => by
    rw [List.getElem?_append_left (by rw [rng_length]; exact hi), rng_get, if_pos hi, Nat.zero_add]
  have hlen : (rng 0 m ++ σ).length = m + σ.length := by rw [List.length_append, rng_length]
  generalize rng 0 m ++ σ = ρ at *
  let φ2 : Ph := ⟨fun i => (ρ[i]?).bind φ.f, fun i b => ∃ j, ρ[i]? = some j ∧ φ.ψ j b⟩
  have hφ2 : ∀ i j, ρ[i]? = some j → φ2 i = φ j := fun i j h => by simp [φ2, h]
  have hψ2 : ∀ i j b, ρ[i]? = some j → (φ2.ψ i b ↔ φ.ψ j b) := fun i j b h =>
    ⟨fun ⟨j', h1, h2⟩ => by rw [h] at h1; cases h1; exact h2, fun h2 => ⟨j, h, h2⟩⟩
  have ho2 : ∀ i j b, ρ[i]? = some j → (φ2.own i b ↔ φ.own j b) := fun i j b h => by
    unfold Ph.own
    rw [hφ2 i j h, hψ2 i j b h]
  have hget : ∀ i, i < ρ.length → ∃ j, ρ[i]? = some j := fun i hi => ⟨_, List.getElem?_eq_getElem hi⟩
  have hne : ∀ i, hl i s2.h ≠ none → ∃ j, ρ[i]? = some j ∧ hl j s.h ≠ none := by
    intro i hi
    have hil := (hal2 i).1 (al_of_ne hi)
    obtain ⟨j, hj⟩ := hget i (by omega)
    refine ⟨j, hj, ?_⟩
    rw [hh2 i hil] at hi
    rcases hspec i j hj with ⟨_, h2⟩ | ⟨b, b', h1, _, _⟩
    · rw [Nat.zero_add] at h2; exact absurd h2 hi
    · rw [h1]; simp
  have hlive : ∀ b, (cx bs φ2 s2 w).live b → ∃ i j : Nat, ρ[i]? = some j ∧ hl j s.h ≠ none ∧ φ.own j b := by
    rintro b ⟨i, h1, h2⟩
    obtain ⟨j, hj, hjn⟩ := hne i h1
    exact ⟨i, j, hj, hjn, (ho2 i j b hj).1 h2⟩
  have hz : Xz (cx bs φ s w) (cx bs φ2 s2 w) ρ m := by
    refine ⟨rfl, fun i j hj => (hal2 i).2 (by rw [← hlen]; exact (List.getElem?_eq_some_iff.1 hj).1), fun i j hj => hφ2 i j hj, fun i j hj t n hx => ?_, fun o b hb => ⟨fun hl' => ?_, hb.2⟩, fun j b hn hjn hp hmj o => ?_⟩
    · have hx : shp (hl i s2.h) = _ := hx
      show shp (hl j s.h) = _
      rw [hh2 i (by rw [← hlen]; exact (List.getElem?_eq_some_iff.1 hj).1)] at hx
      rcases hspec i j hj with ⟨_, h2⟩ | ⟨b, b', h1, h2, h3⟩
      · rw [Nat.zero_add] at h2; rw [h2] at hx; cases hx
      · rw [Nat.zero_add] at h3
        rw [h3] at hx
        rw [show hl j s.h = some b from h1, ← hx]
        cases b with
        | cells l =>
          simp only [xfzB] at h2
          split at h2
          · simp only [Option.some.injEq] at h2; rw [← h2]; rfl
          · cases h2
        | arr o' t' xs' => simp only [xfzB, Option.some.injEq] at h2; rw [← h2]
        | deep t' xs' => simp only [xfzB, Option.some.injEq] at h2; rw [← h2]
        | seg t' xs' q row => cases h2
    · obtain ⟨i, j, _, h2, h3⟩ := hlive b hl'
      exact hb.1 ⟨j, h2, h3⟩
    · have hnl : ¬ (cx bs φ2 s2 w).live b := by
        intro hl'
        obtain ⟨i, j', h1, h2, h3⟩ := hlive b hl'
        have := hM.inj j j' b hjn h2 hp h3
        exact hn i (this ▸ h1)
      have hB : bs.B ≤ b := by
        rcases hM.lo j b hjn hp with h | ⟨h, _⟩
        · exact h
        · omega
      exact ⟨hnl, by
        cases o with
        | fr => exact hB
        | old => exact Or.inr hB
        | tmp => trivial⟩
  have hxs := fun n => xfz_sound (m := m) hM hz n
  refine ⟨φ2, fun i hi => ?_, ⟨fun i hi => ?_, fun i b hb => ?_, fun i j b hi hj hp hq => ?_, fun i b hi hp => ?_, fun i b hi hp => ?_, hM.bd, hM.kp, fun i hi => ⟨(hal2 i).2 (by omega), ?_⟩⟩, fun n x r v h1 h2 => (hxs n).1 h1 h2, fun n x r v h1 h2 => (hxs n).2 h1 h2⟩
  · rw [hφ2 i i (hlow i hi)]; exact (hM.inc i (by rw [hm]; exact hi)).2
  · have := (hal2 i).1 hi
    omega
  · have hil := (hal2 i).1 (al_of_hl hb)
    obtain ⟨j, hj⟩ := hget i (by omega)
    rw [hh2 i hil] at hb
    rcases hspec i j hj with ⟨_, h2⟩ | ⟨b0, b', h1, h2, h3⟩
    · rw [Nat.zero_add, hb] at h2; cases h2
    · rw [Nat.zero_add, hb] at h3
      cases h3
      have hk0 := hM.h j b0 h1
      cases b0 with
      | cells l0 =>
        simp only [xfzB] at h2
        split at h2
        · rename_i l1 heq
          simp only [Option.some.injEq] at h2; subst h2
          obtain ⟨b1, cs, e, k1, k2, k3⟩ := hk0
          exact ⟨b1, cs, e, (hφ2 i j hj).trans k1, k2, reNil_sound k3 ((hxs 100).2 heq k3)⟩
        · cases h2
      | arr o' t xs =>
        simp only [xfzB, Option.some.injEq] at h2; subst h2
        rcases hk0 with ⟨b1, off, cs, e, k1, k2, k3, k4⟩ | ⟨k1, k2⟩
        · exact Or.inl ⟨b1, off, cs, e, (hφ2 i j hj).trans k1, k2, k3, k4.imp (hz.ok o')⟩
        · exact Or.inr ⟨(hφ2 i j hj).trans k1, k2⟩
      | deep t xs =>
        simp only [xfzB, Option.some.injEq] at h2; subst h2
        rcases hk0 with ⟨b1, off, cs, e, k1, k2, k3, k4, k5⟩ | ⟨k1, k2⟩
        · exact Or.inl ⟨b1, off, cs, e, (hφ2 i j hj).trans k1, k2, k3, fun h => k4 ((hψ2 i j b1 hj).1 h), k5.mono fun b hb => (hψ2 i j b hj).2 hb⟩
        · exact Or.inr ⟨(hφ2 i j hj).trans k1, k2⟩
      | seg t xs q row => cases h2
  · obtain ⟨x', hx1, hx2⟩ := hne i hi
    obtain ⟨y', hy1, hy2⟩ := hne j hj
    have := hM.inj x' y' b hx2 hy2 ((ho2 i x' b hx1).1 hp) ((ho2 j y' b hy1).1 hq)
    subst this
    exact hinj i j x' hx1 hy1
  · obtain ⟨x', hx1, hx2⟩ := hne i hi
    rcases hM.lo x' b hx2 ((ho2 i x' b hx1).1 hp) with h | ⟨h, hX⟩
    · exact Or.inl h
    · rw [hm] at h
      have e := hinj i x' x' hx1 (hlow x' h)
      subst e
      exact Or.inr ⟨by rw [hm2]; exact h, hX⟩
  · obtain ⟨x', hx1, hx2⟩ := hne i hi
    exact hM.ps x' b hx2 ((hψ2 i x' b hx1).1 hp)
  · have hi : i < m := by rw [← hm2]; exact hi
    rw [hφ2 i i (hlow i hi)]; exact (hM.inc i (by rw [hm]; exact hi)).2

theorem exit_sound {bs : Bs} {φ : Ph} {s : St} {w : World} (hM : HM bs φ s w) {hin : List Blk} (hm : s.m = hin.length) {σ : List Nat} {x r : AV} {v : Value} {hs : List (Nat × Option Blk)}
    (hx : xfz (hl · s.h) (rng 0 hin.length ++ σ) hin.length 100 x = some r) (hh : xfzH (hl · s.h) (rng 0 hin.length ++ σ) hin.length (rng 0 hin.length ++ σ) 0 = some hs)
    (hnd : nodup (rng 0 hin.length ++ σ) = true) (hle : σ.length ≤ 16) (hr : R (cx bs φ s w) x v) :
    ∃ φ', (∀ i, i < hin.length → φ' i = bs.φ0 i) ∧ HM bs φ' (postS hin hs) w ∧ R (cx bs φ' (postS hin hs) w) r v := by
  obtain ⟨hkeys, _⟩ := xfzH_spec hh
  have hlen : (rng 0 hin.length ++ σ).length = hin.length + σ.length := by rw [List.length_append, rng_length]
  have hkeys' : ∀ i, i ∈ keys hs ↔ i < hin.length + σ.length := fun i => by rw [hkeys]; omega
  obtain ⟨φ', h1, h2, h3, _⟩ := exit_gen (s2 := postS hin hs) hM hm hh hnd (by show _ ≤ hin.length + 16; omega) rfl (fun i hi => by
      obtain ⟨y, hy⟩ := mem_keys.1 ((hkeys' i).2 hi)
      exact hl_app_mem hy) (fun i => by
      constructor
      · rintro ⟨y, hy⟩
        rcases List.mem_append.1 hy with h | h
        · exact (hkeys' i).1 (mem_keys.2 ⟨y, h⟩)
        · have := (enum_al (hin := hin) (k := 0) (i := i)).1 ⟨y, h⟩; omega
      · intro hi
        obtain ⟨y, hy⟩ := mem_keys.1 ((hkeys' i).2 hi)
        exact ⟨y, List.mem_append_left _ hy⟩)
  exact ⟨φ', h1, h2, h3 100 x r v hx hr⟩

theorem look_enumT : ∀ {args : List AV} {k i : Nat}, look i (enumT args k) = if k ≤ i then args.getD (i - k) .junk else .junk
  | [], k, i => by simp [enumT, look]
  | x :: args, k, i => by
    rw [enumT, look_cons, look_enumT]
    by_cases e : k = i
    · subst e; simp
    · rw [if_neg e]
      by_cases h : k + 1 ≤ i
      · rw [if_pos h, if_pos (by omega), show i - k = (i - (k + 1)) + 1 by omega]; simp
      · rw [if_neg h, if_neg (by omega)]

def resS (tmps : Array Value) : ResultVar → Sem Value
  | .tmp t => pure (tmps.getD t undef)
  | .cell x t => do loadVar t (← asAddr (tmps.getD x undef))

theorem results_eq (fn : Func) (tmps : Array Value) : results fn tmps = (do let vs ← fn.results.mapM (resS tmps); pure (if h : vs.size = 1 then vs[0] else .tuple vs)) := rfl

theorem resT_run {bs : Bs} {φ : Ph} {s : St} {a : Act} {w : World} (hM : Mod bs φ s a w) : ∀ {rs : List ResultVar} {l : List AV}, resT s.t rs = some l →
    ∃ vs : List Value, (rs.mapM (resS a.tmps)).run P w = .ok vs w ∧ RL (cx bs φ s w) l vs
  | [], l, h => by simp [resT] at h; subst h; exact ⟨[], rfl, .nil⟩
  | .tmp i :: rs, l, h => by
    simp only [resT] at h
    split at h
    · rename_i l' hl'
      simp only [Option.some.injEq] at h; subst h
      obtain ⟨vs, h1, h2⟩ := resT_run hM hl'
      refine ⟨a.tmps.getD i undef :: vs, ?_, .cons (hM.t i) h2⟩
      rw [List.mapM_cons, Sem.run_bind]
      simp only [resS, Sem.run_pure, Result.andThen_ok, Sem.run_bind]
      rw [show (List.mapM (resS a.tmps) rs).run P w = .ok vs w from h1]
      simp only [Result.andThen_ok]
    · cases h
  | .cell _ _ :: _, l, h => by simp [resT] at h

theorem resV_R {c : Cx} {l : List AV} {vs : Array Value} (h : RL c l vs.toList) : R c (resV l) (if h : vs.size = 1 then vs[0] else .tuple vs) := by
  have hlen := h.length
  split
  · rename_i h1
    obtain ⟨x, rfl⟩ : ∃ x, l = [x] := by
      match l, (show l.length = 1 by simpa [h1] using hlen) with
      | [x], _ => exact ⟨x, rfl⟩
    obtain ⟨v, hv, hr⟩ := RL.one_inv h
    have := toList_one hv
    subst this
    exact hr
  · rename_i h1
    have : resV l = .tup l := by
      match l, (show l.length ≠ 1 by simpa [hlen] using h1) with
      | [], _ => rfl
      | _ :: _ :: _, _ => rfl
    rw [this]
    exact .tup h

theorem enter_of {f : FuncId} {fn : Func} (hf : P.funcs[f]? = some fn) (hb : fn.body.isSome = true) (hn : (fn.name == "runtime.NumGoroutine") = false) : Enter P f := by
  intro args w
  cases hbb : fn.body with
  | none => rw [hbb] at hb; cases hb
  | some c =>
    have hn' : ¬ fn.name = "runtime.NumGoroutine" := by simpa using hn
    simp [callFunc, hf, hn', hbb]

theorem mod_init {hin : List Blk} {args : List AV} {w : World} {A : Nat → Prop} {φ : Ph} {vs : List Value} {nt : Nat} (hM : HM (fnBs w A φ hin.length) φ (preS hin) w) (hR : RL (cx (fnBs w A φ hin.length) φ (preS hin) w) args vs) (hn : args.length ≤ nt) :
    Mod (fnBs w A φ hin.length) φ (initS nt args hin) { tmps := vs.toArray ++ Array.replicate (nt - vs.toArray.size) undef, defers := [] } w := by
  have hlen := hR.length
  refine ⟨⟨hM.kb, hM.h, hM.inj, hM.lo, hM.ps, hM.bd, hM.kp, hM.inc⟩, by simp [initS]; omega, fun i => ?_, [], .nil, rfl⟩
  show R (cx (fnBs w A φ hin.length) φ (preS hin) w) (look i (enumT args 0)) _
  rw [look_enumT, if_pos (Nat.zero_le _), Nat.sub_zero]
  rcases Nat.lt_or_ge i args.length with h | h
  · have h1 := hR.get i h
    have e1 : args.getD i .junk = args[i] := by simp [h]
    have e2 : (vs.toArray ++ Array.replicate (nt - vs.toArray.size) undef).getD i undef = vs[i]'(hlen ▸ h) := by
      rw [Array.getD_eq_getD_getElem?, Array.getElem?_append_left (by simp; omega)]
      simp [show i < vs.length by omega]
    rw [e1, e2]; exact h1
  · have e1 : args.getD i .junk = .junk := by rw [List.getD_eq_getElem?_getD, List.getElem?_eq_none h]; rfl
    rw [e1]; exact .junk _

theorem fn_of_code (hE : EnvOK P E) (hmix : P.follows .mixedOrders = true) {f : FuncId} {fn : Func} {c : Code} (hf : P.funcs[f]? = some fn) (hb : fn.body = some c) (hn : (fn.name == "runtime.NumGoroutine") = false)
    {args : List AV} {hin : List Blk} {r : AV} {hs : List (Nat × Option Blk)} (ha : args.length ≤ fn.ntmps) (h : xCode P E c (initS fn.ntmps args hin) (fun e s => s.m = hin.length ∧ Fin fn.results.toList hin.length r hs false e s)) : Fn P f args hin r hs := by
  refine ⟨enter_of hf (by rw [hb]; rfl) hn, fun w A φ vs hM hR => ?_⟩
  refine calls_of_wp hf hb (wp_mono (xCode_sound hE hmix c _ _ φ _ w h (mod_init hM hR ha)) ?_)
  rintro e a w' ⟨ex, s, φ', ⟨hm, hdf, hex, σ, l, r', hs', h1, h2, h3, h4, h5, rfl, rfl⟩, hM', he⟩
  have key : a.defers = [] ∧ ∃ v, (results fn a.tmps).run P w' = .ok v w' ∧ ∃ u φ', Ending.returned v = .returned u ∧ (∀ i, i < hin.length → φ' i = φ i) ∧
      HM (fnBs w A φ hin.length) φ' (postS hin hs') w' ∧ R (cx (fnBs w A φ hin.length) φ' (postS hin hs') w') r' u := by
    obtain ⟨ds, d1, d2⟩ := hM'.df
    rw [hdf] at d1
    cases d1
    refine ⟨d2, ?_⟩
    obtain ⟨us, g1, g2⟩ := resT_run (P := P) hM' h1
    have hres : (results fn a.tmps).run P w' = .ok (if h : us.toArray.size = 1 then us.toArray[0] else .tuple us.toArray) w' := by
      rw [results_eq, Sem.run_bind, Array.mapM_eq_mapM_toList, Sem.run_map, g1]
      simp
    obtain ⟨φ2, k1, k2, k3⟩ := exit_sound hM'.toHM hm h2 h3 h4 (Nat.le_of_ble_eq_true h5) (resV_R (vs := us.toArray) g2)
    exact ⟨_, hres, _, φ2, rfl, k1, k2, k3⟩
  cases ex with
  | normal => subst he; exact key
  | ret => subst he; exact key
  | exit i => exact hex.elim
  | panic u => exact hex.elim

theorem fnP_of_code (hE : EnvOK P E) (hmix : P.follows .mixedOrders = true) {f : FuncId} {fn : Func} {c : Code} (hf : P.funcs[f]? = some fn) (hb : fn.body = some c) (hn : (fn.name == "runtime.NumGoroutine") = false)
    {args : List AV} {hin : List Blk} {r : AV} {hs : List (Nat × Option Blk)} (ha : args.length ≤ fn.ntmps) (h : xCode P E c (initS fn.ntmps args hin) (fun e s => s.m = hin.length ∧ Fin fn.results.toList hin.length r hs true e s)) : FnP P f args hin r hs := by
  refine ⟨enter_of hf (by rw [hb]; rfl) hn, fun w A φ vs hM hR => ?_⟩
  refine calls_of_wp hf hb (wp_mono (xCode_sound hE hmix c _ _ φ _ w h (mod_init hM hR ha)) ?_)
  rintro e a w' ⟨ex, s, φ', ⟨hm, hdf, u, σ, r', hs', rfl, h2, h3, h4, h5, rfl, rfl⟩, hM', v, rfl, hr⟩
  obtain ⟨ds, d1, d2⟩ := hM'.df
  rw [hdf] at d1
  cases d1
  obtain ⟨φ2, k1, k2, k3⟩ := exit_sound hM'.toHM hm h2 h3 h4 (Nat.le_of_ble_eq_true h5) hr
  exact ⟨d2, v, φ2, rfl, k1, k2, k3⟩
end
end Go.Fw
namespace Go.Fw
open Go Go.RowKit

def ikB : IntKind → IntKind → Bool := ikEq

/-- One cell of a zero value. -/
def zR : AV → Value → Bool
  | .val (.bool b), .bool c => b == c
  | .val (.int k n), .int l m => ikB k l && decide (n = m)
  | .un k n, .int l m => ikB k l && decide ((n : Int) = m)
  | .nil _, .slice none n m => Nat.beq n 0 && Nat.beq m 0
  | .val (.pointer none), .pointer none => true
  | .val (.map none), .map none => true
  | .val .nilFunc, .nilFunc => true
  | .val .nilIface, .nilIface => true
  | _, _ => false

def zRL : List AV → List Value → Bool
  | [], [] => true
  | x :: l, v :: vs => zR x v && zRL l vs
  | _, _ => false

theorem zR_sound {c : Cx} {x : AV} {v : Value} (h : zR x v = true) : R c x v := by
  unfold zR at h
  split at h
  · rw [eq_of_beq h]; exact .val _
  · simp only [Bool.and_eq_true, decide_eq_true_eq] at h
    rw [ikEq_eq h.1, h.2]; exact .val _
  · simp only [Bool.and_eq_true, decide_eq_true_eq] at h
    rw [← ikEq_eq h.1, ← h.2]; exact .un _ _
  · simp only [Bool.and_eq_true] at h
    rw [Nat.eq_of_beq_eq_true h.1, Nat.eq_of_beq_eq_true h.2]; exact .nil _
  · exact .val _
  · exact .val _
  · exact .val _
  · exact .val _
  · cases h

theorem zRL_sound {c : Cx} : ∀ {l : List AV} {vs : List Value}, zRL l vs = true → RL c l vs
  | [], [], _ => .nil
  | x :: l, v :: vs, h => by
    simp only [zRL, Bool.and_eq_true] at h
    exact .cons (zR_sound h.1) (zRL_sound h.2)
  | [], _ :: _, h => by simp [zRL] at h
  | _ :: _, [], h => by simp [zRL] at h

/-- The cells of a zero datum. -/
def zD : Ty → List Value → Option (List Value)
  | .i k, .int l m :: r => match ikB k l && decide (m = 0) with
    | true => some r
    | false => none
  | .b, .bool false :: r => some r
  | .sl _, .slice none n m :: r => match Nat.beq n 0 && Nat.beq m 0 with
    | true => some r
    | false => none
  | .pr x y, l => match zD x l with
    | some r => zD y r
    | none => none
  | _, _ => none

theorem zD_ro {w : World} : ∀ {t : Ty} {l r : List Value} {F : Nat → Prop}, zD t l = some r → ∃ cs, l = cs ++ r ∧ RO w t (dz t) cs F
  | .i k, l, r, F, h => by
    unfold zD at h
    split at h
    · rename_i k0 k' m r' hk
      cases hk
      split at h
      · rename_i hb
        cases h
        simp only [Bool.and_eq_true, decide_eq_true_eq] at hb
        obtain ⟨h1, rfl⟩ := hb
        have := ikEq_eq h1
        subst this
        refine ⟨_, (List.singleton_append).symm, ?_⟩
        simp only [RO]
        cases k <;> rfl
      · cases h
    all_goals first | (rename_i hk; cases hk; done) | (rename_i hk _; cases hk; done) | (cases h; done)
  | .b, l, r, F, h => by
    unfold zD at h
    split at h
    all_goals first
      | (rename_i hk; cases hk; done)
      | (cases h; exact ⟨_, (List.singleton_append).symm, by simp only [RO]; rfl⟩)
      | cases h
  | .sl t, l, r, F, h => by
    unfold zD at h
    split at h
    · rename_i hk; cases hk
    · rename_i hk; cases hk
    · split at h
      · rename_i hb
        cases h
        simp only [Bool.and_eq_true] at hb
        rw [Nat.eq_of_beq_eq_true hb.1, Nat.eq_of_beq_eq_true hb.2]
        refine ⟨_, (List.singleton_append).symm, ?_⟩
        simp only [RO]
        exact ⟨none, 0, rfl, Nat.le_refl _, Or.inl ⟨rfl, rfl⟩⟩
      · cases h
    · rename_i hk; cases hk
    · cases h
  | .pr x y, l, r, F, h => by
    simp only [zD] at h
    split at h
    · rename_i r' hr
      obtain ⟨c1, e1, h1⟩ := zD_ro (F := fun _ => False) hr
      obtain ⟨c2, e2, h2⟩ := zD_ro (F := fun _ => False) h
      refine ⟨c1 ++ c2, by rw [e1, e2, List.append_assoc], ?_⟩
      simp only [RO]
      exact ⟨c1, c2, fun _ => False, fun _ => False, rfl, fun _ h => h.elim, fun _ h => h.elim, fun _ h => h.elim, h1, h2⟩
    · cases h

theorem zD_sound {w : World} {ok : Nat → Prop} {t : Ty} {l r : List Value} (h : zD t l = some r) : ∃ cs, l = cs ++ r ∧ RD w ok t (dz t) cs := by
  obtain ⟨cs, h1, h2⟩ := zD_ro (w := w) (F := fun _ => False) h
  exact ⟨cs, h1, h2.data fun _ h _ => h.elim⟩

def vEq : Value → Value → Bool
  | .bool b, .bool c => b == c
  | .int k n, .int l m => ikB k l && decide (n = m)
  | .slice none a b, .slice none c d => Nat.beq a c && Nat.beq b d
  | .pointer none, .pointer none => true
  | .map none, .map none => true
  | .nilFunc, .nilFunc => true
  | .nilIface, .nilIface => true
  | _, _ => false

theorem vEq_sound {u v : Value} (h : vEq u v = true) : u = v := by
  unfold vEq at h
  split at h
  · rw [eq_of_beq h]
  · simp only [Bool.and_eq_true, decide_eq_true_eq] at h
    rw [ikEq_eq h.1, h.2]
  · simp only [Bool.and_eq_true] at h
    rw [Nat.eq_of_beq_eq_true h.1, Nat.eq_of_beq_eq_true h.2]
  · rfl
  · rfl
  · rfl
  · rfl
  · cases h

def vEqL : List Value → List Value → Bool
  | [], [] => true
  | x :: l, v :: vs => vEq x v && vEqL l vs
  | _, _ => false

theorem vEqL_sound : ∀ {l m : List Value}, vEqL l m = true → l = m
  | [], [], _ => rfl
  | x :: l, v :: vs, h => by
    simp only [vEqL, Bool.and_eq_true] at h
    rw [vEq_sound h.1, vEqL_sound h.2]
  | [], _ :: _, h => by simp [vEqL] at h
  | _ :: _, [], h => by simp [vEqL] at h

def isSomeB {α : Type} : Option α → Bool
  | some _ => true
  | none => false

def plainB (i : TI) (kd : Nat) : Bool := Nat.beq i.kd kd && !i.agg && Nat.beq i.len 0 && !isSomeB i.ik && i.flds.isEmpty

def udB (E : Env) (P : Program) (i : TI) : TypeDesc → Bool
  | .struct fs => Nat.beq i.kd 4 && i.agg && Nat.beq i.len 0 && !isSomeB i.ik && decide (i.flds = fs.toList.map (fun f => (f.offset, f.type))) &&
      fs.toList.all fun f => match P.info? f.type with
        | some x => !Nat.beq x.size 0 && Nat.beq (ti f.type E).sz x.size
        | none => false
  | .array n e => Nat.beq i.kd 5 && i.agg && Nat.beq i.len n && Nat.beq i.el e && !isSomeB i.ik && i.flds.isEmpty && (!(ti e E).ok || Nat.beq i.sz (n * (ti e E).sz))
  | .slice e => plainB i 3 && Nat.beq i.el e
  | .int k => Nat.beq i.kd 2 && !i.agg && Nat.beq i.len 0 && (match i.ik with | some l => ikB l k | none => false) && i.flds.isEmpty
  | .bool => plainB i 1
  | .pointer _ => plainB i 6 && !isSomeB i.ty
  | .map _ _ => plainB i 7 && !isSomeB i.ty
  | .func _ _ _ => plainB i 8 && !isSomeB i.ty
  | .interface _ => plainB i 9 && !isSomeB i.ty
  | _ => false

theorem isSomeB_none {α : Type} {x : Option α} (h : (!isSomeB x) = true) : x = none := by cases x; rfl; cases h

theorem plainB_sound {i : TI} {kd : Nat} (h : plainB i kd = true) : i.kd = kd ∧ i.agg = false ∧ i.len = 0 ∧ i.ik = none ∧ i.flds = [] := by
  simp only [plainB, Bool.and_eq_true] at h
  obtain ⟨⟨⟨⟨h1, h2⟩, h3⟩, h4⟩, h5⟩ := h
  exact ⟨Nat.eq_of_beq_eq_true h1, by simpa using h2, Nat.eq_of_beq_eq_true h3, isSomeB_none h4, by simpa using h5⟩

theorem udB_sound {E : Env} {P : Program} {i : TI} {d : TypeDesc} (h : udB E P i d = true) : UD E P i d := by
  cases d <;> simp only [udB] at h <;> simp only [UD]
  case struct fs =>
    simp only [Bool.and_eq_true, decide_eq_true_eq] at h
    obtain ⟨⟨⟨⟨⟨h1, h2⟩, h3⟩, h4⟩, h5⟩, h6⟩ := h
    refine ⟨Nat.eq_of_beq_eq_true h1, h2, Nat.eq_of_beq_eq_true h3, isSomeB_none h4, h5, fun f hf => ?_⟩
    have := List.all_eq_true.1 h6 f hf
    split at this
    · rename_i x hx
      simp only [Bool.and_eq_true, Bool.not_eq_true'] at this
      exact ⟨x, hx, Nat.ne_of_beq_eq_false this.1, Nat.eq_of_beq_eq_true this.2⟩
    · cases this
  case array n e =>
    simp only [Bool.and_eq_true] at h
    obtain ⟨⟨⟨⟨⟨⟨h1, h2⟩, h3⟩, h4⟩, h5⟩, h6⟩, h7⟩ := h
    refine ⟨Nat.eq_of_beq_eq_true h1, h2, Nat.eq_of_beq_eq_true h3, Nat.eq_of_beq_eq_true h4, isSomeB_none h5, by simpa using h6, fun hk => ?_⟩
    rw [hk] at h7
    exact Nat.eq_of_beq_eq_true (by simpa using h7)
  case slice e =>
    simp only [Bool.and_eq_true] at h
    obtain ⟨a, b, c, d, f⟩ := plainB_sound h.1
    exact ⟨a, b, c, Nat.eq_of_beq_eq_true h.2, d, f⟩
  case int k =>
    simp only [Bool.and_eq_true] at h
    obtain ⟨⟨⟨⟨h1, h2⟩, h3⟩, h4⟩, h5⟩ := h
    refine ⟨Nat.eq_of_beq_eq_true h1, by simpa using h2, Nat.eq_of_beq_eq_true h3, ?_, by simpa using h5⟩
    split at h4
    · rename_i l hl'; rw [hl', ikEq_eq h4]
    · cases h4
  case bool => exact plainB_sound h
  case pointer e => 
    simp only [Bool.and_eq_true] at h
    obtain ⟨a, b, c, d, f⟩ := plainB_sound h.1
    exact ⟨a, b, c, d, f, isSomeB_none h.2⟩
  case map k e => 
    simp only [Bool.and_eq_true] at h
    obtain ⟨a, b, c, d, f⟩ := plainB_sound h.1
    exact ⟨a, b, c, d, f, isSomeB_none h.2⟩
  case func a b c => 
    simp only [Bool.and_eq_true] at h
    obtain ⟨a, b, c, d, f⟩ := plainB_sound h.1
    exact ⟨a, b, c, d, f, isSomeB_none h.2⟩
  case interface m => 
    simp only [Bool.and_eq_true] at h
    obtain ⟨a, b, c, d, f⟩ := plainB_sound h.1
    exact ⟨a, b, c, d, f, isSomeB_none h.2⟩
  all_goals cases h

def tiB (P : Program) (E : Env) (T : TypeId) (i : TI) : Bool :=
  match P.info? T with
  | some x => match P.underlying T with
    | some d => match x.zero with
      | some z => (i.agg || Nat.beq i.sz 1) && Nat.beq z.cells.size i.sz && udB E P i d && Nat.beq x.size i.sz && Nat.beq x.bytes i.bytes && zRL i.zero z.cells.toList &&
          (match i.ty with
            | some t => Nat.beq (sz t) i.sz && (match zD t z.cells.toList with | some [] => true | _ => false)
            | none => true) &&
          (match (ti i.el E).ty with
            | some _ => match i.len with
              | n + 1 => (match (P.info? i.el).bind (·.zero) with
                | some y => vEqL z.cells.toList (List.replicate (n + 1) y.cells.toList).flatten
                | none => false)
              | 0 => true
            | none => true)
      | none => false
    | none => false
  | none => false

theorem tiB_sound {P : Program} {E : Env} {T : TypeId} {i : TI} (h : tiB P E T i = true) : TIok P E T i := by
  unfold tiB at h
  split at h
  · rename_i x hx
    split at h
    · rename_i d hd
      split at h
      · rename_i z hz
        simp only [Bool.and_eq_true] at h
        obtain ⟨⟨⟨⟨⟨⟨⟨h1, h2⟩, h3⟩, h4⟩, h5⟩, h6⟩, h7⟩, h8⟩ := h
        refine ⟨fun ha => ?_, fun x' z' hx' hz' => ?_, ⟨d, hd, udB_sound h3⟩, ⟨x, z, hx, Nat.eq_of_beq_eq_true h4, Nat.eq_of_beq_eq_true h5, hz, fun c => zRL_sound h6, fun t ht => ?_, fun t ht hl' => ?_⟩, fun x' z' t hx' hz' ht w F => ?_⟩
        · rw [ha] at h1
          exact Nat.eq_of_beq_eq_true (by simpa using h1)
        · rw [hx] at hx'
          cases hx'
          rw [hz] at hz'
          cases hz'
          exact Nat.eq_of_beq_eq_true h2
        · rw [ht] at h7
          simp only [Bool.and_eq_true] at h7
          refine ⟨Nat.eq_of_beq_eq_true h7.1, fun w ok => ?_⟩
          have h9 := h7.2
          split at h9
          · rename_i hzd
            obtain ⟨cs, e, hr⟩ := zD_sound (w := w) (ok := ok) hzd
            rw [e, List.append_nil]; exact hr
          · cases h9
        · rw [ht] at h8
          dsimp only at h8
          split at h8
          · rename_i n hn
            split at h8
            · rename_i y hy
              refine ⟨y, hy, ?_⟩
              rw [hn]; exact vEqL_sound h8
            · cases h8
          · rename_i hn; exact absurd hn hl'
        · rw [hx] at hx'
          cases hx'
          rw [hz] at hz'
          cases hz'
          rw [ht] at h7
          simp only [Bool.and_eq_true] at h7
          have h9 := h7.2
          split at h9
          · rename_i hzd
            obtain ⟨cs, e, hr⟩ := zD_ro (w := w) (F := F) hzd
            rw [e, List.append_nil]; exact hr
          · cases h9
      · cases h
    · cases h
  · cases h

def allE (f : Nat → TI → Bool) : Env → Bool
  | .leaf => true
  | .own _ => false
  | .wr _ => false
  | .node k x l r => f k x && (allE f l && allE f r)

theorem allE_ti {f : Nat → TI → Bool} (T : Nat) : ∀ {E : Env}, allE f E = true → ti T E = TI.none ∨ f T (ti T E) = true
  | .leaf, _ => Or.inl rfl
  | .own _, h => by cases h
  | .wr _, h => by cases h
  | .node k x l r, h => by
    simp only [allE, Bool.and_eq_true] at h
    simp only [ti]
    cases hb : Nat.beq T k with
    | true =>
      have := Nat.eq_of_beq_eq_true hb
      subst this
      exact Or.inr h.1
    | false =>
      dsimp only
      cases Nat.blt T k with
      | true => exact allE_ti T h.2.1
      | false => exact allE_ti T h.2.2

theorem envOK_of {P : Program} {E : Env} (h : allE (tiB P E) E = true) : EnvOK P E := fun T => (allE_ti T h).imp id tiB_sound
/-- The same types; what is made is one's own. -/
theorem EnvOK.own {P : Program} {E : Env} (h : EnvOK P E) : EnvOK P (.own E) := by
  have key : ∀ T, ti T (.own E) = { ti T E with dp := (ti T E).ok } := fun T => by
    simp only [ti]
  have hud : ∀ {i : TI} {d : TypeDesc}, UD E P i d → UD (.own E) P { i with dp := i.ok } d := by
    intro i d h
    cases d <;> simp only [UD, key] at h ⊢ <;> exact h
  intro T
  rcases h T with h | h
  · left
    rw [key, h]; rfl
  · right
    obtain ⟨a, b, ⟨d, d1, d2⟩, ⟨x, z, e1, e2, e3, e4, e5, e6, e7⟩, g⟩ := h
    rw [key]
    refine ⟨a, b, ⟨d, d1, hud d2⟩, ⟨x, z, e1, e2, e3, e4, e5, e6, fun t ht => e7 t ?_⟩, g⟩
    rw [key] at ht; exact ht
/-- The same types; signed sums wrap. -/
theorem EnvOK.wr {P : Program} {E : Env} (h : EnvOK P E) : EnvOK P (.wr E) := by
  have key : ∀ T, ti T (.wr E) = ti T E := fun T => by simp only [ti]
  have hud : ∀ {i : TI} {d : TypeDesc}, UD E P i d → UD (.wr E) P i d := by
    intro i d h
    cases d <;> simp only [UD, key] at h ⊢ <;> exact h
  intro T
  rcases h T with h | h
  · left
    rw [key, h]
  · right
    obtain ⟨a, b, ⟨d, d1, d2⟩, ⟨x, z, e1, e2, e3, e4, e5, e6, e7⟩, g⟩ := h
    rw [key]
    exact ⟨a, b, ⟨d, d1, hud d2⟩, ⟨x, z, e1, e2, e3, e4, e5, e6, fun t ht => e7 t ht⟩, g⟩
end Go.Fw
namespace Go.Proofs.Ytbgnnpbcifgckaa
open Go Go.Fw Go.RowKit
def tI1 : TI := ⟨true, 8, 1, false, 8, none, none, [.val .nilFunc], [], 0, 0, false⟩
def tI2 : TI := ⟨true, 2, 1, false, 8, some (.i .i64), (some .i64), [.val (.int .i64 0)], [], 0, 0, false⟩
def tI3 : TI := ⟨true, 2, 1, false, 8, some (.i .i64), (some .i64), [.val (.int .i64 0)], [], 0, 0, false⟩
def tI4 : TI := ⟨true, 1, 1, false, 1, some .b, none, [.val (.bool false)], [], 0, 0, false⟩
def tI5 : TI := ⟨true, 2, 1, false, 1, some (.i .u8), (some .u8), [.un .u8 0], [], 0, 0, false⟩
def tI6 : TI := ⟨true, 2, 1, false, 1, some (.i .u8), (some .u8), [.un .u8 0], [], 0, 0, false⟩
def tI7 : TI := ⟨true, 4, 4, true, 24, some (.pr (.i .i64) (.pr (.i .i64) (.pr .b (.i .u8)))), none, [.val (.int .i64 0), .val (.int .i64 0), .val (.bool false), .un .u8 0], [(0, 2), (1, 3), (2, 4), (3, 6)], 0, 0, false⟩
def tI8 : TI := ⟨true, 4, 4, true, 24, some (.pr (.i .i64) (.pr (.i .i64) (.pr .b (.i .u8)))), none, [.val (.int .i64 0), .val (.int .i64 0), .val (.bool false), .un .u8 0], [(0, 2), (1, 3), (2, 4), (3, 6)], 0, 0, false⟩
def tI12 : TI := ⟨true, 2, 1, false, 8, some (.i .u64), (some .u64), [.un .u64 0], [], 0, 0, false⟩
def tI15 : TI := ⟨true, 6, 1, false, 8, none, none, [.val (.pointer none)], [], 0, 0, false⟩
def tI16 : TI := ⟨true, 6, 1, false, 8, none, none, [.val (.pointer none)], [], 0, 0, false⟩
def tI17 : TI := ⟨true, 6, 1, false, 8, none, none, [.val (.pointer none)], [], 0, 0, false⟩
def tI18 : TI := ⟨true, 4, 1, true, 8, none, none, [.val (.pointer none)], [(0, 17)], 0, 0, false⟩
def tI19 : TI := ⟨true, 4, 1, true, 8, none, none, [.val (.pointer none)], [(0, 17)], 0, 0, false⟩
def tI20 : TI := ⟨true, 9, 1, false, 16, none, none, [.val .nilIface], [], 0, 0, false⟩
def tI21 : TI := ⟨true, 2, 1, false, 4, some (.i .i32), (some .i32), [.val (.int .i32 0)], [], 0, 0, false⟩
def tI22 : TI := ⟨true, 3, 1, false, 24, some (.sl (.i .u8)), none, [.nil (.i .u8)], [], 5, 0, false⟩
def tI23 : TI := ⟨true, 3, 1, false, 24, some (.sl (.pr (.i .u8) (.pr (.i .u8) (.pr (.i .u8) (.i .u8))))), none, [.nil (.pr (.i .u8) (.pr (.i .u8) (.pr (.i .u8) (.i .u8))))], [], 86, 0, false⟩
def tI24 : TI := ⟨true, 4, 3, true, 56, some (.pr (.sl (.i .u8)) (.pr (.sl (.pr (.i .u8) (.pr (.i .u8) (.pr (.i .u8) (.i .u8))))) .b)), none, [.nil (.i .u8), .nil (.pr (.i .u8) (.pr (.i .u8) (.pr (.i .u8) (.i .u8)))), .val (.bool false)], [(0, 22), (1, 23), (2, 4)], 0, 0, false⟩
def tI25 : TI := ⟨true, 4, 3, true, 56, some (.pr (.sl (.i .u8)) (.pr (.sl (.pr (.i .u8) (.pr (.i .u8) (.pr (.i .u8) (.i .u8))))) .b)), none, [.nil (.i .u8), .nil (.pr (.i .u8) (.pr (.i .u8) (.pr (.i .u8) (.i .u8)))), .val (.bool false)], [(0, 22), (1, 23), (2, 4)], 0, 0, false⟩
def tI26 : TI := ⟨true, 4, 3, true, 16, some (.pr (.i .u8) (.pr (.i .u8) (.i .i64))), none, [.un .u8 0, .un .u8 0, .val (.int .i64 0)], [(0, 5), (1, 5), (2, 3)], 0, 0, false⟩
def tI27 : TI := ⟨true, 4, 3, true, 16, some (.pr (.i .u8) (.pr (.i .u8) (.i .i64))), none, [.un .u8 0, .un .u8 0, .val (.int .i64 0)], [(0, 5), (1, 5), (2, 3)], 0, 0, false⟩
def tI28 : TI := ⟨true, 5, 6, true, 32, some (.pr (.pr (.i .u8) (.pr (.i .u8) (.i .i64))) (.pr (.i .u8) (.pr (.i .u8) (.i .i64)))), none, [.un .u8 0, .un .u8 0, .val (.int .i64 0), .un .u8 0, .un .u8 0, .val (.int .i64 0)], [], 27, 2, false⟩
def tI29 : TI := ⟨true, 3, 1, false, 24, some (.sl (.i .i64)), none, [.nil (.i .i64)], [], 3, 0, false⟩
def tI30 : TI := ⟨true, 3, 1, false, 24, some (.sl (.pr (.i .i64) (.pr (.i .i64) (.pr (.i .i64) (.pr (.i .i64) (.sl (.i .i64))))))), none, [.nil (.pr (.i .i64) (.pr (.i .i64) (.pr (.i .i64) (.pr (.i .i64) (.sl (.i .i64))))))], [], 44, 0, false⟩
def tI31 : TI := ⟨true, 4, 2, true, 48, some (.pr (.sl (.i .i64)) (.sl (.pr (.i .i64) (.pr (.i .i64) (.pr (.i .i64) (.pr (.i .i64) (.sl (.i .i64)))))))), none, [.nil (.i .i64), .nil (.pr (.i .i64) (.pr (.i .i64) (.pr (.i .i64) (.pr (.i .i64) (.sl (.i .i64))))))], [(0, 29), (1, 30)], 0, 0, false⟩
def tI32 : TI := ⟨true, 4, 2, true, 48, some (.pr (.sl (.i .i64)) (.sl (.pr (.i .i64) (.pr (.i .i64) (.pr (.i .i64) (.pr (.i .i64) (.sl (.i .i64)))))))), none, [.nil (.i .i64), .nil (.pr (.i .i64) (.pr (.i .i64) (.pr (.i .i64) (.pr (.i .i64) (.sl (.i .i64))))))], [(0, 29), (1, 30)], 0, 0, false⟩
def tI33 : TI := ⟨true, 8, 1, false, 8, none, none, [.val .nilFunc], [], 0, 0, false⟩
def tI34 : TI := ⟨true, 5, 8, true, 192, some (.pr (.pr (.sl (.i .i64)) (.sl (.pr (.i .i64) (.pr (.i .i64) (.pr (.i .i64) (.pr (.i .i64) (.sl (.i .i64)))))))) (.pr (.pr (.sl (.i .i64)) (.sl (.pr (.i .i64) (.pr (.i .i64) (.pr (.i .i64) (.pr (.i .i64) (.sl (.i .i64)))))))) (.pr (.pr (.sl (.i .i64)) (.sl (.pr (.i .i64) (.pr (.i .i64) (.pr (.i .i64) (.pr (.i .i64) (.sl (.i .i64)))))))) (.pr (.sl (.i .i64)) (.sl (.pr (.i .i64) (.pr (.i .i64) (.pr (.i .i64) (.pr (.i .i64) (.sl (.i .i64))))))))))), none, [.nil (.i .i64), .nil (.pr (.i .i64) (.pr (.i .i64) (.pr (.i .i64) (.pr (.i .i64) (.sl (.i .i64)))))), .nil (.i .i64), .nil (.pr (.i .i64) (.pr (.i .i64) (.pr (.i .i64) (.pr (.i .i64) (.sl (.i .i64)))))), .nil (.i .i64), .nil (.pr (.i .i64) (.pr (.i .i64) (.pr (.i .i64) (.pr (.i .i64) (.sl (.i .i64)))))), .nil (.i .i64), .nil (.pr (.i .i64) (.pr (.i .i64) (.pr (.i .i64) (.pr (.i .i64) (.sl (.i .i64))))))], [], 32, 4, false⟩
def tI35 : TI := ⟨true, 8, 1, false, 8, none, none, [.val .nilFunc], [], 0, 0, false⟩
def tI36 : TI := ⟨true, 8, 1, false, 8, none, none, [.val .nilFunc], [], 0, 0, false⟩
def tI37 : TI := ⟨true, 2, 1, false, 8, some (.i .i64), (some .i64), [.val (.int .i64 0)], [], 0, 0, false⟩
def tI38 : TI := ⟨true, 8, 1, false, 8, none, none, [.val .nilFunc], [], 0, 0, false⟩
def tI40 : TI := ⟨true, 8, 1, false, 8, none, none, [.val .nilFunc], [], 0, 0, false⟩
def tI42 : TI := ⟨true, 8, 1, false, 8, none, none, [.val .nilFunc], [], 0, 0, false⟩
def tI43 : TI := ⟨true, 4, 5, true, 56, some (.pr (.i .i64) (.pr (.i .i64) (.pr (.i .i64) (.pr (.i .i64) (.sl (.i .i64)))))), none, [.val (.int .i64 0), .val (.int .i64 0), .val (.int .i64 0), .val (.int .i64 0), .nil (.i .i64)], [(0, 3), (1, 3), (2, 3), (3, 3), (4, 29)], 0, 0, false⟩
def tI44 : TI := ⟨true, 4, 5, true, 56, some (.pr (.i .i64) (.pr (.i .i64) (.pr (.i .i64) (.pr (.i .i64) (.sl (.i .i64)))))), none, [.val (.int .i64 0), .val (.int .i64 0), .val (.int .i64 0), .val (.int .i64 0), .nil (.i .i64)], [(0, 3), (1, 3), (2, 3), (3, 3), (4, 29)], 0, 0, false⟩
def tI45 : TI := ⟨true, 8, 1, false, 8, none, none, [.val .nilFunc], [], 0, 0, false⟩
def tI46 : TI := ⟨true, 5, 8, true, 8, some (.pr (.i .u8) (.pr (.i .u8) (.pr (.i .u8) (.pr (.i .u8) (.pr (.i .u8) (.pr (.i .u8) (.pr (.i .u8) (.i .u8)))))))), none, [.un .u8 0, .un .u8 0, .un .u8 0, .un .u8 0, .un .u8 0, .un .u8 0, .un .u8 0, .un .u8 0], [], 5, 8, false⟩
def tI47 : TI := ⟨true, 8, 1, false, 8, none, none, [.val .nilFunc], [], 0, 0, false⟩
def tI48 : TI := ⟨true, 5, 2, true, 48, some (.pr (.sl (.i .i64)) (.sl (.i .i64))), none, [.nil (.i .i64), .nil (.i .i64)], [], 29, 2, false⟩
def tI50 : TI := ⟨true, 8, 1, false, 8, none, none, [.val .nilFunc], [], 0, 0, false⟩
def tI51 : TI := ⟨true, 8, 1, false, 8, none, none, [.val .nilFunc], [], 0, 0, false⟩
def tI52 : TI := ⟨true, 3, 1, false, 24, some (.sl (.sl (.i .i64))), none, [.nil (.sl (.i .i64))], [], 29, 0, false⟩
def tI54 : TI := ⟨true, 8, 1, false, 8, none, none, [.val .nilFunc], [], 0, 0, false⟩
def tI55 : TI := ⟨true, 8, 1, false, 8, none, none, [.val .nilFunc], [], 0, 0, false⟩
def tI56 : TI := ⟨true, 8, 1, false, 8, none, none, [.val .nilFunc], [], 0, 0, false⟩
def tI57 : TI := ⟨true, 2, 1, false, 8, some (.i .u64), (some .u64), [.un .u64 0], [], 0, 0, false⟩
def tI58 : TI := ⟨true, 3, 1, false, 24, some (.sl (.i .u64)), none, [.nil (.i .u64)], [], 57, 0, false⟩
def tI59 : TI := ⟨true, 8, 1, false, 8, none, none, [.val .nilFunc], [], 0, 0, false⟩
def tI60 : TI := ⟨true, 8, 1, false, 8, none, none, [.val .nilFunc], [], 0, 0, false⟩
def tI61 : TI := ⟨true, 8, 1, false, 8, none, none, [.val .nilFunc], [], 0, 0, false⟩
def tI62 : TI := ⟨true, 8, 1, false, 8, none, none, [.val .nilFunc], [], 0, 0, false⟩
def tI63 : TI := ⟨true, 8, 1, false, 8, none, none, [.val .nilFunc], [], 0, 0, false⟩
def tI64 : TI := ⟨true, 8, 1, false, 8, none, none, [.val .nilFunc], [], 0, 0, false⟩
def tI65 : TI := ⟨true, 8, 1, false, 8, none, none, [.val .nilFunc], [], 0, 0, false⟩
def tI66 : TI := ⟨true, 3, 1, false, 24, some (.sl (.pr (.sl (.i .i64)) (.sl (.pr (.i .i64) (.pr (.i .i64) (.pr (.i .i64) (.pr (.i .i64) (.sl (.i .i64))))))))), none, [.nil (.pr (.sl (.i .i64)) (.sl (.pr (.i .i64) (.pr (.i .i64) (.pr (.i .i64) (.pr (.i .i64) (.sl (.i .i64))))))))], [], 32, 0, false⟩
def tI67 : TI := ⟨true, 8, 1, false, 8, none, none, [.val .nilFunc], [], 0, 0, false⟩
def tI68 : TI := ⟨true, 8, 1, false, 8, none, none, [.val .nilFunc], [], 0, 0, false⟩
def tI69 : TI := ⟨true, 8, 1, false, 8, none, none, [.val .nilFunc], [], 0, 0, false⟩
def tI70 : TI := ⟨true, 8, 1, false, 8, none, none, [.val .nilFunc], [], 0, 0, false⟩
def tI71 : TI := ⟨true, 8, 1, false, 8, none, none, [.val .nilFunc], [], 0, 0, false⟩
def tI73 : TI := ⟨true, 8, 1, false, 8, none, none, [.val .nilFunc], [], 0, 0, false⟩
def tI74 : TI := ⟨true, 8, 1, false, 8, none, none, [.val .nilFunc], [], 0, 0, false⟩
def tI75 : TI := ⟨true, 6, 1, false, 8, none, none, [.val (.pointer none)], [], 0, 0, false⟩
def tI77 : TI := ⟨true, 8, 1, false, 8, none, none, [.val .nilFunc], [], 0, 0, false⟩
def tI78 : TI := ⟨true, 4, 4, true, 96, some (.pr (.pr (.sl (.i .i64)) (.sl (.pr (.i .i64) (.pr (.i .i64) (.pr (.i .i64) (.pr (.i .i64) (.sl (.i .i64)))))))) (.pr (.sl (.i .i64)) (.sl (.i .i64)))), none, [.nil (.i .i64), .nil (.pr (.i .i64) (.pr (.i .i64) (.pr (.i .i64) (.pr (.i .i64) (.sl (.i .i64)))))), .nil (.i .i64), .nil (.i .i64)], [(0, 32), (2, 29), (3, 29)], 0, 0, false⟩
def tI79 : TI := ⟨true, 4, 4, true, 96, some (.pr (.pr (.sl (.i .i64)) (.sl (.pr (.i .i64) (.pr (.i .i64) (.pr (.i .i64) (.pr (.i .i64) (.sl (.i .i64)))))))) (.pr (.sl (.i .i64)) (.sl (.i .i64)))), none, [.nil (.i .i64), .nil (.pr (.i .i64) (.pr (.i .i64) (.pr (.i .i64) (.pr (.i .i64) (.sl (.i .i64)))))), .nil (.i .i64), .nil (.i .i64)], [(0, 32), (2, 29), (3, 29)], 0, 0, false⟩
def tI80 : TI := ⟨true, 8, 1, false, 8, none, none, [.val .nilFunc], [], 0, 0, false⟩
def tI82 : TI := ⟨true, 8, 1, false, 8, none, none, [.val .nilFunc], [], 0, 0, false⟩
def tI83 : TI := ⟨true, 8, 1, false, 8, none, none, [.val .nilFunc], [], 0, 0, false⟩
def tI84 : TI := ⟨true, 8, 1, false, 8, none, none, [.val .nilFunc], [], 0, 0, false⟩
def tI85 : TI := ⟨true, 8, 1, false, 8, none, none, [.val .nilFunc], [], 0, 0, false⟩
def tI86 : TI := ⟨true, 5, 4, true, 4, some (.pr (.i .u8) (.pr (.i .u8) (.pr (.i .u8) (.i .u8)))), none, [.un .u8 0, .un .u8 0, .un .u8 0, .un .u8 0], [], 5, 4, false⟩
def tI88 : TI := ⟨true, 8, 1, false, 8, none, none, [.val .nilFunc], [], 0, 0, false⟩
def tI89 : TI := ⟨true, 6, 1, false, 8, none, none, [.val (.pointer none)], [], 0, 0, false⟩
def tI90 : TI := ⟨true, 8, 1, false, 8, none, none, [.val .nilFunc], [], 0, 0, false⟩
def tI91 : TI := ⟨true, 8, 1, false, 8, none, none, [.val .nilFunc], [], 0, 0, false⟩
def tI92 : TI := ⟨true, 3, 1, false, 24, some (.sl .b), none, [.nil .b], [], 4, 0, false⟩
def tI93 : TI := ⟨true, 8, 1, false, 8, none, none, [.val .nilFunc], [], 0, 0, false⟩
def tI94 : TI := ⟨true, 8, 1, false, 8, none, none, [.val .nilFunc], [], 0, 0, false⟩
def tI95 : TI := ⟨true, 8, 1, false, 8, none, none, [.val .nilFunc], [], 0, 0, false⟩
def tI96 : TI := ⟨true, 8, 1, false, 8, none, none, [.val .nilFunc], [], 0, 0, false⟩
def tI97 : TI := ⟨true, 8, 1, false, 8, none, none, [.val .nilFunc], [], 0, 0, false⟩
def tI98 : TI := ⟨true, 2, 1, false, 4, some (.i .u32), (some .u32), [.un .u32 0], [], 0, 0, false⟩
def tI100 : TI := ⟨true, 8, 1, false, 8, none, none, [.val .nilFunc], [], 0, 0, false⟩
def tI101 : TI := ⟨true, 2, 1, false, 8, some (.i .u64), (some .u64), [.un .u64 0], [], 0, 0, false⟩
def tI103 : TI := ⟨true, 8, 1, false, 8, none, none, [.val .nilFunc], [], 0, 0, false⟩
def tI104 : TI := ⟨true, 8, 1, false, 8, none, none, [.val .nilFunc], [], 0, 0, false⟩
def tI105 : TI := ⟨true, 5, 5, true, 40, none, none, [.val .nilFunc, .val .nilFunc, .val .nilFunc, .val .nilFunc, .val .nilFunc], [], 104, 5, false⟩
def tI106 : TI := ⟨true, 4, 0, true, 0, none, none, [], [], 0, 0, false⟩
def tI107 : TI := ⟨true, 4, 0, true, 0, none, none, [], [], 0, 0, false⟩
def tI108 : TI := ⟨true, 8, 1, false, 8, none, none, [.val .nilFunc], [], 0, 0, false⟩
def tI114 : TI := ⟨true, 8, 1, false, 8, none, none, [.val .nilFunc], [], 0, 0, false⟩
def tI115 : TI := ⟨true, 2, 1, false, 1, some (.i .u8), (some .u8), [.un .u8 0], [], 0, 0, false⟩
def tI116 : TI := ⟨true, 2, 1, false, 1, some (.i .u8), (some .u8), [.un .u8 0], [], 0, 0, false⟩
def tI117 : TI := ⟨true, 8, 1, false, 8, none, none, [.val .nilFunc], [], 0, 0, false⟩
def tI118 : TI := ⟨true, 6, 1, false, 8, none, none, [.val (.pointer none)], [], 0, 0, false⟩
def tI119 : TI := ⟨true, 2, 1, false, 4, some (.i .i32), (some .i32), [.val (.int .i32 0)], [], 0, 0, false⟩
def tI120 : TI := ⟨true, 2, 1, false, 4, some (.i .i32), (some .i32), [.val (.int .i32 0)], [], 0, 0, false⟩
def tI121 : TI := ⟨true, 4, 11, true, 48, none, none, [.un .u64 0, .un .u64 0, .un .u32 0, .un .u8 0, .un .u8 0, .un .u8 0, .un .u8 0, .val .nilFunc, .val (.pointer none), .val (.int .i32 0), .val (.int .i32 0)], [(0, 12), (1, 12), (2, 98), (3, 115), (4, 5), (5, 5), (6, 116), (7, 117), (8, 118), (9, 119), (10, 120)], 0, 0, false⟩
def tI122 : TI := ⟨true, 4, 11, true, 48, none, none, [.un .u64 0, .un .u64 0, .un .u32 0, .un .u8 0, .un .u8 0, .un .u8 0, .un .u8 0, .val .nilFunc, .val (.pointer none), .val (.int .i32 0), .val (.int .i32 0)], [(0, 12), (1, 12), (2, 98), (3, 115), (4, 5), (5, 5), (6, 116), (7, 117), (8, 118), (9, 119), (10, 120)], 0, 0, false⟩
def env : Env := (.node 61 tI61 (.node 31 tI31 (.node 18 tI18 (.node 7 tI7 (.node 4 tI4 (.node 2 tI2 (.node 1 tI1 .leaf .leaf) (.node 3 tI3 .leaf .leaf)) (.node 6 tI6 (.node 5 tI5 .leaf .leaf) .leaf)) (.node 15 tI15 (.node 12 tI12 (.node 8 tI8 .leaf .leaf) .leaf) (.node 17 tI17 (.node 16 tI16 .leaf .leaf) .leaf))) (.node 25 tI25 (.node 22 tI22 (.node 20 tI20 (.node 19 tI19 .leaf .leaf) (.node 21 tI21 .leaf .leaf)) (.node 24 tI24 (.node 23 tI23 .leaf .leaf) .leaf)) (.node 28 tI28 (.node 27 tI27 (.node 26 tI26 .leaf .leaf) .leaf) (.node 30 tI30 (.node 29 tI29 .leaf .leaf) .leaf)))) (.node 46 tI46 (.node 38 tI38 (.node 35 tI35 (.node 33 tI33 (.node 32 tI32 .leaf .leaf) (.node 34 tI34 .leaf .leaf)) (.node 37 tI37 (.node 36 tI36 .leaf .leaf) .leaf)) (.node 43 tI43 (.node 42 tI42 (.node 40 tI40 .leaf .leaf) .leaf) (.node 45 tI45 (.node 44 tI44 .leaf .leaf) .leaf))) (.node 55 tI55 (.node 51 tI51 (.node 48 tI48 (.node 47 tI47 .leaf .leaf) (.node 50 tI50 .leaf .leaf)) (.node 54 tI54 (.node 52 tI52 .leaf .leaf) .leaf)) (.node 58 tI58 (.node 57 tI57 (.node 56 tI56 .leaf .leaf) .leaf) (.node 60 tI60 (.node 59 tI59 .leaf .leaf) .leaf))))) (.node 91 tI91 (.node 75 tI75 (.node 68 tI68 (.node 65 tI65 (.node 63 tI63 (.node 62 tI62 .leaf .leaf) (.node 64 tI64 .leaf .leaf)) (.node 67 tI67 (.node 66 tI66 .leaf .leaf) .leaf)) (.node 71 tI71 (.node 70 tI70 (.node 69 tI69 .leaf .leaf) .leaf) (.node 74 tI74 (.node 73 tI73 .leaf .leaf) .leaf))) (.node 84 tI84 (.node 80 tI80 (.node 78 tI78 (.node 77 tI77 .leaf .leaf) (.node 79 tI79 .leaf .leaf)) (.node 83 tI83 (.node 82 tI82 .leaf .leaf) .leaf)) (.node 88 tI88 (.node 86 tI86 (.node 85 tI85 .leaf .leaf) .leaf) (.node 90 tI90 (.node 89 tI89 .leaf .leaf) .leaf)))) (.node 106 tI106 (.node 98 tI98 (.node 95 tI95 (.node 93 tI93 (.node 92 tI92 .leaf .leaf) (.node 94 tI94 .leaf .leaf)) (.node 97 tI97 (.node 96 tI96 .leaf .leaf) .leaf)) (.node 103 tI103 (.node 101 tI101 (.node 100 tI100 .leaf .leaf) .leaf) (.node 105 tI105 (.node 104 tI104 .leaf .leaf) .leaf))) (.node 117 tI117 (.node 114 tI114 (.node 108 tI108 (.node 107 tI107 .leaf .leaf) .leaf) (.node 116 tI116 (.node 115 tI115 .leaf .leaf) .leaf)) (.node 120 tI120 (.node 119 tI119 (.node 118 tI118 .leaf .leaf) .leaf) (.node 122 tI122 (.node 121 tI121 .leaf .leaf) .leaf))))))
theorem env_ok : EnvOK Try.prog env := envOK_of (by kernel_rfl)
theorem env_own : EnvOK Try.prog (.own env) := env_ok.own
theorem env_wr : EnvOK Try.prog (.wr env) := env_ok.wr
theorem mixed : Try.prog.follows .mixedOrders = true := by kernel_rfl
end Go.Proofs.Ytbgnnpbcifgckaa
namespace Go.Fw
open Go Go.RowKit

def rebT (hp : Nat → Option Blk) (ρ : List Nat) (m : Nat) (t : List (Nat × AV)) : List Nat → Option (List (Nat × AV))
  | [] => some []
  | i :: r => match xfz hp ρ m 100 (look i t) with
    | some x => match rebT hp ρ m t r with
      | some l => some ((i, x) :: l)
      | none => none
    | none => none

mutual
/-- The same value, its memory said to lie anywhere in 'o'. -/
def jo (o : Org) : AV → AV
  | .dat p t xs => .dat (p.join o) t xs
  | .av p t xs => .av (p.join o) t xs
  | .ip p cs k => .ip (p.join o) (jos o cs) k
  | .agg cs => .agg (jos o cs)
  | .tup cs => .tup (jos o cs)
  | .clo f a b => .clo f (jos o a) (jos o b)
  | .ifc t x => .ifc t (jo o x)
  | .junk => .junk
  | .val v => .val v
  | .un k n => .un k n
  | .tt => .tt
  | .ff => .ff
  | .nil t => .nil t
  | .ptr id k => .ptr id k
  | .pa id j k => .pa id j k
  | .own id => .own id
  | .sl id lo len => .sl id lo len
def jos (o : Org) : List AV → List AV
  | [] => []
  | x :: r => jo o x :: jos o r
end

def joB (o : Org) : Blk → Blk
  | .cells l => .cells (jos o l)
  | .arr p t xs => .arr (p.join o) t xs
  | .deep t xs => .deep t xs
  | .seg t xs j row => .seg t xs j (jos o row)

def joH (o : Org) : List (Nat × Option Blk) → List (Nat × Option Blk)
  | [] => []
  | (i, some b) :: r => (i, some (joB o b)) :: joH o r
  | (i, none) :: r => (i, none) :: joH o r

def joT (o : Org) : List (Nat × AV) → List (Nat × AV)
  | [] => []
  | (i, x) :: r => (i, jo o x) :: joT o r

/-- The number of the block that a value stands on. -/
def idOf : AV → Option Nat
  | .own id => some id
  | .ptr id _ => some id
  | .pa id _ _ => some id
  | .sl id _ _ => some id
  | _ => none

/-- Along a path of fields: a value of a struct by its part, a place by what lies there. -/
def follow (hp : Nat → Option Blk) : AV → List Nat → AV
  | v, [] => v
  | .agg l, k :: r => follow hp (nth l k) r
  | .ptr id off, k :: r => match hp id with
    | some (.cells l) => follow hp (nth l (off + k)) r
    | _ => .junk
  | _, _ => .junk

def ids (s : St) : List (Nat × List Nat) → Option (List Nat)
  | [] => some []
  | (i, p) :: r => match idOf (follow (hl · s.h) (look i s.t) p) with
    | some j => match ids s r with
      | some l => some (j :: l)
      | none => none
    | none => none

def nilB (d : Bool) (t : Ty) : Blk :=
  match d with
  | true => .deep t []
  | false => .arr .fr t []

/-- A nil slice in a slot, or in a cell behind a pointer in a slot, becomes one's own. -/
def own1 (c k : Nat) (d : Bool) (s : St) : St :=
  match c with
  | 0 => match look k s.t with
    | .nil t => { s with t := (k, .own s.nx) :: s.t, h := (s.nx, some (nilB d t)) :: s.h, nx := s.nx + 1 }
    | _ => s
  | c + 1 => match look k s.t with
    | .ptr id off => match hl id s.h with
      | some (.cells l) => match nth l (off + c) with
        | .nil t => { s with h := (id, some (.cells (setAt l (off + c) [.own s.nx]))) :: (s.nx, some (nilB d t)) :: s.h, nx := s.nx + 1 }
        | _ => s
      | _ => s
    | _ => s

/-- Nil slices become slices of one's own, of nothing: 1000 * (cell + 1) + slot, or slot; 500 more for rows whose slices are one's own. -/
def own0 : List Nat → St → St
  | [], s => s
  | i :: r, s => own0 r (own1 (i / 1000) (i % 500) (Nat.ble 500 (i % 1000)) s)

def opnB (t : Ty) (xs : List (D t)) : Blk :=
  match hasSl t with
  | true => .deep t xs
  | false => .arr .fr t xs

/-- A row of one's own, opened: its cells, and a block for each of its slices. -/
def opn : (t : Ty) → D t → Nat → List AV × List (Nat × Option Blk) × Nat
  | .i k, n, nx => (cellsD .fr (.i k) n, [], nx)
  | .b, x, nx => (cellsD .fr .b x, [], nx)
  | .sl t, xs, nx => ([.own nx], [(nx, some (opnB t xs))], nx + 1)
  | .pr x y, p, nx => match opn x p.1 nx with
    | (a, h, n) => match opn y p.2 n with
      | (b, h', n') => (a ++ b, h ++ h', n')

def openAt (id : Nat) (t : Ty) (xs : List (D t)) (j : Nat) (s : St) : St :=
  match opn t (xs.getD j (dz t)) s.nx with
  | (row, hs, n) => { s with h := (id, some (.seg t xs j row)) :: (hs ++ s.h), nx := n }

def rdB : AV → Option Bool
  | .val (.bool x) => some x
  | .tt => some true
  | .ff => some false
  | _ => none

def castD (t u : Ty) (xs : List (D u)) : Option (List (D t)) :=
  match h : u.beq t with
  | true => some (Eq.rec (motive := fun t _ => List (D t)) xs (Ty.eq_of_beq h))
  | false => none

/-- Cells read back as a datum of one's own: the datum, the blocks that it takes up, the cells that are left. -/
def clO (hp : Nat → Option Blk) (m : Nat) : (t : Ty) → List AV → Option (D t × List Nat × List AV)
  | .i kd, l => match l with
    | x :: r => match rdI kd x with
      | some d => some (d, [], r)
      | none => none
    | [] => none
  | .b, l => match l with
    | x :: r => match rdB x with
      | some d => some (d, [], r)
      | none => none
    | [] => none
  | .sl t, l => match l with
    | .nil _ :: r => some ([], [], r)
    | .val (.slice .none 0 0) :: r => some ([], [], r)
    | .own id :: r => match Nat.ble m id with
      | true => match hp id with
        | some (.arr _ u xs) => match hasSl u with
          | false => match castD t u xs with
            | some ys => some (ys, [id], r)
            | none => none
          | true => none
        | some (.deep u xs) => match castD t u xs with
          | some ys => some (ys, [id], r)
          | none => none
        | _ => none
      | false => none
    | .sl id lo len :: r => match Nat.ble m id with
      | true => match hp id with
        | some (.arr _ u xs) => match hasSl u with
          | false => match castD t u xs with
            | some ys => some ((ys.drop lo).take len, [id], r)
            | none => none
          | true => none
        | some (.deep u xs) => match castD t u xs with
          | some ys => some ((ys.drop lo).take len, [id], r)
          | none => none
        | _ => none
      | false => none
    | _ => none
  | .pr x y, l => match clO hp m x l with
    | some (d, ids, r) => match clO hp m y r with
      | some (e, ids', r') => some ((d, e), ids ++ ids', r')
      | none => none
    | none => none

def closeOne (id : Nat) (s : St) : St :=
  match hl id s.h with
  | some (.seg t xs j row) => match clO (hl · s.h) s.m t row with
    | some (d, ids, []) => match nodup ids with
      | true => { s with h := (id, some (.deep t (xs.set j d))) :: kills ids s.h }
      | false => s
    | _ => s
  | _ => s

def closeL : List (Nat × Option Blk) → St → St
  | [], s => s
  | (i, some (.seg _ _ _ _)) :: r, s => closeL r (closeOne i s)
  | _ :: r, s => closeL r s

/-- Whatever is open is closed. -/
def closeAll (s : St) : St := closeL s.h s

def reb1 (slots : List Nat) (o : Org) (s : St) (σ : List Nat) : Option St :=
  match s.df with
  | [] => match nodup (rng 0 s.m ++ σ) with
    | true => match xfzH (hl · s.h) (rng 0 s.m ++ σ) s.m (rng 0 s.m ++ σ) 0 with
      | some hs => match rebT (hl · s.h) (rng 0 s.m ++ σ) s.m s.t slots with
        | some t => some ⟨s.n, joT o t, joH o hs, s.m + List.length σ, s.m, []⟩
        | none => none
      | none => none
    | false => none
  | _ => none

def reb2 (slots : List Nat) (σ : List (Nat × List Nat)) (o : Org) (s : St) : Option St :=
  match ids s σ with
  | some σ => reb1 slots o s σ
  | none => none

/-- G: nil slices to be made one's own · slots: which are kept · σ: which blocks (by a slot and a path from it) · o: where memory may lie. -/
def reb (G slots : List Nat) (σ : List (Nat × List Nat)) (o : Org) (s : St) : Option St := reb2 slots σ o (own0 G (closeAll s))

section
variable {bs : Bs}

structure Jz (c c' : Cx) (o : Org) : Prop where
  w : c'.w = c.w
  al : ∀ i : Nat, c.al i → c'.al i
  φ : ∀ i : Nat, c'.φ i = c.φ i
  h : ∀ i : Nat, ∀ t n, shp (c'.h i) = some (t, n) → shp (c.h i) = some (t, n)
  ok : ∀ (p : Org) (b : Nat), c.ok p b → c'.ok (p.join o) b

variable {c c' : Cx} {o : Org}

theorem slAt_jz (hz : Jz c c' o) {i lo len cap : Nat} {ad : Option Addr} (h : slAt c i lo len cap ad) : slAt c' i lo len cap ad := by
  rcases h with ⟨b, off, off', h1, h2, h3⟩ | ⟨h1, h2⟩
  · exact Or.inl ⟨b, off, off', (hz.φ i).trans h1, h2, fun t n hx => h3 t n (hz.h i t n hx)⟩
  · exact Or.inr ⟨(hz.φ i).trans h1, h2⟩

theorem capOk_jz (hz : Jz c c' o) {i lo cap : Nat} (h : capOk c i lo cap) : capOk c' i lo cap := by
  intro t n hx b off hp
  rw [hz.φ i] at hp
  rw [hz.w]
  exact h t n (hz.h i t n hx) b off hp

mutual
theorem jo_sound (hz : Jz c c' o) : ∀ {x : AV} {v : Value}, R c x v → R c' (jo o x) v
  | _, _, .junk v => .junk v
  | _, _, .val v => .val v
  | _, _, .un k n => .un k n
  | _, _, .tt => .tt
  | _, _, .ff => .ff
  | _, _, .nil t => .nil t
  | .dat p _ _, _, .dat hr => .dat (by rw [hz.w]; exact hr.imp (hz.ok p))
  | .av p _ _, _, .av css h1 h2 h3 => .av css h1 h2 fun j hj => by rw [hz.w]; exact (h3 j hj).imp (hz.ok p)
  | .ip p _ _, _, .ip h0 h1 h2 h3 => .ip (by rw [hz.w]; exact h0) (hz.ok p _ h1) (by rw [hz.w]; exact h2) (jos_sound hz h3)
  | _, _, .ptr hi h1 => .ptr (hz.al _ hi) ((hz.φ _).trans h1)
  | _, _, .pa hi h1 h2 => .pa (hz.al _ hi) ((hz.φ _).trans h1) fun t n hx => h2 t n (hz.h _ t n hx)
  | _, _, .own hi h1 h2 h3 h4 => .own (hz.al _ hi) (fun t n hx => h1 t n (hz.h _ t n hx)) (h2.imp (slAt_jz hz) fun x => x) (capOk_jz hz h3) h4
  | _, _, .sl hi h1 h2 h3 h4 => .sl (hz.al _ hi) (fun t n hx => h1 t n (hz.h _ t n hx)) (h2.imp (slAt_jz hz) fun x => x) (capOk_jz hz h3) h4
  | _, _, .agg hl => .agg (jos_sound hz hl)
  | _, _, .tup hl => .tup (jos_sound hz hl)
  | _, _, .clo h1 h2 => .clo (jos_sound hz h1) (jos_sound hz h2)
  | _, _, .ifc hr => .ifc (jo_sound hz hr)
theorem jos_sound (hz : Jz c c' o) : ∀ {l : List AV} {vs : List Value}, RL c l vs → RL c' (jos o l) vs
  | _, _, .nil => .nil
  | _, _, .cons h1 h2 => .cons (jo_sound hz h1) (jos_sound hz h2)
end

theorem hl_joH (i : Nat) : ∀ h : List (Nat × Option Blk), hl i (joH o h) = (hl i h).map (joB o)
  | [] => rfl
  | (k, some b) :: r => by
    simp only [joH, hl_cons]
    split
    · rfl
    · exact hl_joH i r
  | (k, none) :: r => by
    simp only [joH, hl_cons]
    split
    · rfl
    · exact hl_joH i r

theorem keys_joH : ∀ h : List (Nat × Option Blk), keys (joH o h) = keys h
  | [] => rfl
  | (k, some b) :: r => by simp only [joH, keys, keys_joH r]
  | (k, none) :: r => by simp only [joH, keys, keys_joH r]

theorem look_joT (i : Nat) : ∀ t : List (Nat × AV), look i (joT o t) = jo o (look i t)
  | [] => rfl
  | (k, x) :: r => by
    simp only [joT, look_cons]
    split
    · rfl
    · exact look_joT i r

theorem HM.jo {φ : Ph} {s : St} {w : World} (h : HM bs φ s w) (o : Org) : HM bs φ { s with h := joH o s.h } w ∧ Jz (cx bs φ s w) (cx bs φ { s with h := joH o s.h } w) o := by
  have hal : ∀ i, St.al { s with h := joH o s.h } i ↔ s.al i := fun i => by rw [al_iff, al_iff]; show i ∈ keys (joH o s.h) ↔ _; rw [keys_joH]
  have hh : ∀ i, hl i (joH o s.h) = (hl i s.h).map (joB o) := fun i => hl_joH i s.h
  have hne : ∀ i, hl i (joH o s.h) ≠ none ↔ hl i s.h ≠ none := fun i => by rw [hh]; cases hl i s.h <;> simp
  have hlive : ∀ b, (cx bs φ { s with h := joH o s.h } w).live b → (cx bs φ s w).live b := by
    rintro b ⟨i, h1, h2⟩
    exact ⟨i, (hne i).1 h1, h2⟩
  have hz : Jz (cx bs φ s w) (cx bs φ { s with h := joH o s.h } w) o := by
    refine ⟨rfl, fun i hi => (hal i).2 hi, fun i => rfl, fun i t n hx => ?_, fun p b hb => ⟨fun hl' => hb.1 (hlive b hl'), ?_⟩⟩
    · have hx : shp (hl i (joH o s.h)) = _ := hx
      rw [hh] at hx
      show shp (hl i s.h) = _
      cases hy : hl i s.h with
      | none => rw [hy] at hx; cases hx
      | some y =>
        rw [hy] at hx
        cases y <;> exact hx
    · have := hb.2
      cases p <;> cases o <;> simp only [Org.join] <;> first | exact this | exact Or.inr this | trivial
  refine ⟨⟨fun i hi => h.kb i ((hal i).1 hi), fun i b hb => ?_, fun i j b hi hj => h.inj i j b ((hne i).1 hi) ((hne j).1 hj), fun i b hi => h.lo i b ((hne i).1 hi), fun i b hi => h.ps i b ((hne i).1 hi), h.bd, h.kp, fun i hi => ⟨(hal i).2 (h.inc i hi).1, (h.inc i hi).2⟩⟩, hz⟩
  have hb : hl i (joH o s.h) = _ := hb
  rw [hh] at hb
  cases hy : hl i s.h with
  | none => rw [hy] at hb; cases hb
  | some y =>
    rw [hy] at hb
    have hk := h.h i y hy
    cases y with
    | cells l =>
      cases hb
      obtain ⟨b1, cs, e, k1, k2, k3⟩ := hk
      exact ⟨b1, cs, e, k1, k2, jos_sound hz k3⟩
    | arr p t xs =>
      cases hb
      rcases hk with ⟨b1, off, cs, e, k1, k2, k3, k4⟩ | k
      · exact Or.inl ⟨b1, off, cs, e, k1, k2, k3, k4.imp (hz.ok p)⟩
      · exact Or.inr k
    | deep t xs => cases hb; exact hk
    | seg t xs j row =>
      cases hb
      obtain ⟨b1, off, cs, e, k1, k2, k3, k4, k5, k6, k7, rc, k8, k9⟩ := hk
      refine ⟨b1, off, cs, e, k1, k2, k3, k4, k5, k6, ?_, rc, k8, jos_sound hz k9⟩
      rw [(jos_sound hz k9).length, ← k9.length, k7]

theorem Ent.refl (s : St) : Ent s s := fun _ φ _ _ h => ⟨φ, h⟩
theorem Ent.trans {a b c : St} (h : Ent a b) (k : Ent b c) : Ent a c := fun bs φ x w hM => by
  obtain ⟨φ', h'⟩ := h bs φ x w hM
  exact k bs φ' x w h'

/-- The same block, its cells described in another way. -/
theorem HM.recell {bs : Bs} {φ : Ph} {s : St} {w : World} (h : HM bs φ s w) {id : Nat} {l l' : List AV} (hb : hl id s.h = some (.cells l)) (hl' : ∀ cs : List Value, RL (cx bs φ s w) l cs → RL (cx bs φ s w) l' cs) :
    HM bs φ { s with h := (id, some (.cells l')) :: s.h } w ∧ (cx bs φ s w).Le (cx bs φ { s with h := (id, some (.cells l')) :: s.h } w) := by
  have hlk : ∀ j, hl j ((id, some (Blk.cells l')) :: s.h) = if id = j then some (.cells l') else hl j s.h := fun j => hl_cons j id _ s.h
  have hal : s.al id := al_of_hl hb
  have hlv : ∀ j, hl j ((id, some (Blk.cells l')) :: s.h) ≠ none → hl j s.h ≠ none := by
    intro j hj
    rw [hlk] at hj
    split at hj
    · rename_i e; subst e; rw [hb]; simp
    · exact hj
  refine h.shift (s' := { s with h := (id, some (.cells l')) :: s.h }) (fun j hj => al_cons.2 (Or.inr hj)) (fun j hj => ?_) rfl (fun _ _ => rfl) (fun j _ t' n hx => ?_) (fun j _ hn => hlv j hn) (fun _ _ _ _ _ _ cs e fz hc => ⟨cs, e, fz, hc, rfl⟩)
    (fun j b hj hp => Or.inl ⟨j, hlv j hj, hp⟩) (fun i j b hi hj => h.inj i j b (hlv i hi) (hlv j hj)) (fun i b hi => h.lo i b (hlv i hi)) (Nat.le_refl _) (fun _ _ _ => rfl) (Keeps.refl _ _ _) fun hle j x hx => ?_
  · rcases al_cons.1 hj with rfl | hj
    · exact h.kb _ hal
    · exact h.kb _ hj
  · have hx : shp (hl j ((id, some (Blk.cells l')) :: s.h)) = _ := hx
    rw [hlk] at hx
    by_cases e : id = j
    · rw [if_pos e] at hx; cases hx
    · rw [if_neg e] at hx; exact hx
  · rcases hl_cases hx with ⟨e, e2⟩ | ⟨e, hx⟩
    · subst e; cases e2
      obtain ⟨b, cs, e, h1, h2, h3⟩ := h.h _ _ hb
      exact ⟨b, cs, e, h1, h2, RL.le hle (hl' _ h3)⟩
    · exact BlkOK.le hle (al_of_hl hx) rfl (fun _ _ => rfl) (h.h j x hx)

theorem nilB_spec (d : Bool) (t : Ty) : ((∃ o t', nilB d t = .arr o t' []) ∨ ∃ t', nilB d t = .deep t' []) ∧ shp (some (nilB d t)) = some (t, 0) := by
  cases d
  · exact ⟨Or.inl ⟨_, _, rfl⟩, rfl⟩
  · exact ⟨Or.inr ⟨_, rfl⟩, rfl⟩

theorem own1_ent (c k : Nat) (d : Bool) (s : St) : Ent s (own1 c k d s) := by
  unfold own1
  have hR : ∀ {bs : Bs} {φ : Ph} {w : World} (t : Ty) (h' : List (Nat × Option Blk)) (hk : hl s.nx h' = some (nilB d t)) (s' : St), s'.h = h' → s'.al s.nx → R (cx bs (φ.put s.nx none noF) s' w) (.own s.nx) (.slice none 0 0) := by
    intro bs φ w t h' hk s' hs ha
    refine .own ha (fun t' n hx => ?_) (Or.inr ⟨rfl, rfl⟩) (fun t' n hx b off hb => ?_) (Nat.le_refl _)
    · have hx : shp (hl s.nx s'.h) = _ := hx
      rw [hs, hk, (nilB_spec d t).2] at hx
      cases hx; rfl
    · rw [show (cx bs (φ.put s.nx none noF) s' w).φ s.nx = none from if_pos rfl] at hb; cases hb
  split
  · split
    · rename_i t ht
      intro bs φ a w hM
      have hM' := hM.widen (nx := s.nx + 1) (by omega)
      have hnal : ¬ s.al s.nx := fun h => Nat.lt_irrefl _ (hM.kb _ h)
      obtain ⟨h1, h2⟩ := hM'.toHM.ghostB (id := s.nx) hnal (Nat.lt_succ_self _) (nilB_spec d t).1
      obtain ⟨ds, d1, d2⟩ := hM.df
      refine ⟨_, ⟨h1.kb, h1.h, h1.inj, h1.lo, h1.ps, h1.bd, h1.kp, h1.inc⟩, hM.n, fun j => ?_, ds, RL.le h2 d1, d2⟩
      show R _ (look j ((k, .own s.nx) :: s.t)) _
      rw [look_cons]
      split
      · rename_i e
        subst e
        have := hM.t k
        rw [ht] at this
        rw [R.nil_inv this]
        exact hR t _ (by rw [hl_cons, if_pos rfl]) _ rfl (al_cons (s := { s with nx := s.nx + 1 }).2 (Or.inl rfl))
      · exact R.le h2 (hM.t j)
    · exact Ent.refl s
  · rename_i c
    split
    · rename_i id off hp
      split
      · rename_i l hb
        split
        · rename_i t ht
          intro bs φ a w hM
          have hM' := hM.widen (nx := s.nx + 1) (by omega)
          have hnal : ¬ s.al s.nx := fun h => Nat.lt_irrefl _ (hM.kb _ h)
          obtain ⟨h1, h2⟩ := hM'.toHM.ghostB (id := s.nx) hnal (Nat.lt_succ_self _) (nilB_spec d t).1
          obtain ⟨ds, d1, d2⟩ := hM.df
          have hne : s.nx ≠ id := fun e => hnal (e ▸ al_of_hl hb)
          have hb' : hl id ((s.nx, some (nilB d t)) :: s.h) = some (.cells l) := by rw [hl_cons, if_neg hne]; exact hb
          have hlt : off + c < l.length := by
            rcases Nat.lt_or_ge (off + c) l.length with h | h
            · exact h
            · rw [nth_eq, List.getD_eq_getElem?_getD, List.getElem?_eq_none h] at ht; cases ht
          obtain ⟨g1, g2⟩ := h1.recell (l' := setAt l (off + c) [.own s.nx]) hb' fun cs hcs => by
            have hlen := hcs.length
            have hlt' : off + c < cs.length := hlen ▸ hlt
            have hv := hcs.get _ hlt
            rw [nth_eq, List.getD_eq_getElem?_getD, List.getElem?_eq_getElem hlt] at ht
            have ht : l[off + c] = .nil t := ht
            rw [ht] at hv
            have hv := R.nil_inv hv
            have := RL.setAt (cs := [.own s.nx]) (us := [.slice none 0 0]) hcs (.cons (hR t _ (by rw [hl_cons, if_pos rfl]) _ rfl (al_cons (s := { s with nx := s.nx + 1 }).2 (Or.inl rfl))) .nil) (k := off + c) (by simp; omega)
            have e : cs.take (off + c) ++ [Value.slice none 0 0] ++ cs.drop (off + c + 1) = cs := by
              rw [← hv]
              rw [List.append_assoc, List.singleton_append, List.getElem_cons_drop, List.take_append_drop]
            simpa [e] using this
          exact ⟨_, ⟨g1.kb, g1.h, g1.inj, g1.lo, g1.ps, g1.bd, g1.kp, g1.inc⟩, hM.n, fun j => R.le g2 (R.le h2 (hM.t j)), ds, RL.le g2 (RL.le h2 d1), d2⟩
        · exact Ent.refl s
      · exact Ent.refl s
    · exact Ent.refl s

theorem own0_ent : ∀ (G : List Nat) (s : St), Ent s (own0 G s)
  | [], s => Ent.refl s
  | _ :: r, s => (own1_ent _ _ _ s).trans (own0_ent r _)

theorem castD_some {t u : Ty} {xs : List (D u)} {ys : List (D t)} (h : castD t u xs = some ys) : ∃ e : u = t, ys = e ▸ xs := by
  unfold castD at h
  split at h
  · rename_i hb
    have e := Ty.eq_of_beq hb
    subst e
    simp only [Option.some.injEq] at h
    exact ⟨rfl, h.symm⟩
  · cases h

theorem rdB_R {c : Cx} {x : AV} {v : Value} {d : Bool} (hx : R c x v) (h : rdB x = some d) : v = .bool d := by
  cases hx with
  | val v => cases v <;> first | (cases h; rfl) | cases h
  | _ => first | (cases h; rfl) | cases h

/-- Cells read back as a datum of one's own. -/
theorem clO_sound {φ : Ph} {s : St} {w : World} (hM : HM bs φ s w) : ∀ (t : Ty) {l : List AV} {vs : List Value} {d : D t} {ids : List Nat} {rest : List AV}, RL (cx bs φ s w) l vs → clO (hl · s.h) s.m t l = some (d, ids, rest) →
    ∃ v1 v2, vs = v1 ++ v2 ∧ RL (cx bs φ s w) rest v2 ∧ (∀ i ∈ ids, s.m ≤ i ∧ hl i s.h ≠ none ∧ ∀ t xs j row, hl i s.h ≠ some (.seg t xs j row)) ∧ (nodup ids = true → RO w t d v1 (ownF φ ids))
  | .i kd, l, vs, d, ids, rest, hl, h => by
    simp only [clO] at h
    split at h
    · rename_i x r
      split at h
      · rename_i d' hd
        simp only [Option.some.injEq, Prod.mk.injEq] at h
        obtain ⟨rfl, rfl, rfl⟩ := h
        cases hl with
        | cons hx hl => exact ⟨[_], _, rfl, hl, (fun _ h => absurd h List.not_mem_nil), fun _ => by simp only [RO]; rw [rdI_R hx hd]⟩
      · cases h
    · cases h
  | .b, l, vs, d, ids, rest, hl, h => by
    simp only [clO] at h
    split at h
    · rename_i x r
      split at h
      · rename_i d' hd
        simp only [Option.some.injEq, Prod.mk.injEq] at h
        obtain ⟨rfl, rfl, rfl⟩ := h
        cases hl with
        | cons hx hl => exact ⟨[_], _, rfl, hl, (fun _ h => absurd h List.not_mem_nil), fun _ => by simp only [RO]; rw [rdB_R hx hd]⟩
      · cases h
    · cases h
  | .sl t, l, vs, d, ids, rest, hl, h => by
    have own1 : ∀ {i : Nat} {d : List (D t)} {cs : List Value}, RO w (.sl t) d cs (φ.own i) → nodup [i] = true → RO w (.sl t) d cs (ownF φ [i]) :=
      fun h _ => h.mono fun b hb => ⟨_, by simp, hb⟩
    simp only [clO] at h
    split at h
    · simp only [Option.some.injEq, Prod.mk.injEq] at h
      obtain ⟨rfl, rfl, rfl⟩ := h
      cases hl with
      | cons hx hl =>
        have e := R.nil_inv hx; subst e
        exact ⟨[_], _, rfl, hl, (fun _ h => absurd h List.not_mem_nil), fun _ => ⟨none, 0, rfl, Nat.le_refl _, Or.inl ⟨rfl, rfl⟩⟩⟩
    · simp only [Option.some.injEq, Prod.mk.injEq] at h
      obtain ⟨rfl, rfl, rfl⟩ := h
      cases hl with
      | cons hx hl =>
        have e := R.val_inv hx; subst e
        exact ⟨[_], _, rfl, hl, (fun _ h => absurd h List.not_mem_nil), fun _ => ⟨none, 0, rfl, Nat.le_refl _, Or.inl ⟨rfl, rfl⟩⟩⟩
    · rename_i id r
      split at h
      · rename_i hm
        have hm := Nat.le_of_ble_eq_true hm
        split at h
        · rename_i o u xs hb
          split at h
          · rename_i hns
            split at h
            · rename_i ys hy
              obtain ⟨e, hy⟩ := castD_some hy
              subst e
              subst hy
              simp only [Option.some.injEq, Prod.mk.injEq] at h
              obtain ⟨rfl, rfl, rfl⟩ := h
              cases hl with
              | cons hx hl =>
                cases hx with
                | own h1 h2 h3 h4 h5 =>
                  have := h2 _ _ (shp_arr hb)
                  subst this
                  refine ⟨[_], _, rfl, hl, (fun j hj => by simp at hj; subst hj; exact ⟨hm, by rw [hb]; simp, fun _ _ _ _ e => by rw [hb] at e; cases e⟩), own1 ?_⟩
                  have := own_ro hM (Or.inl ⟨o, hb, hns⟩) (lo := 0) (by omega) h3 h4 h5
                  simpa using this
            · cases h
          · cases h
        · rename_i u xs hb
          split at h
          · rename_i ys hy
            obtain ⟨e, hy⟩ := castD_some hy
            subst e
            subst hy
            simp only [Option.some.injEq, Prod.mk.injEq] at h
            obtain ⟨rfl, rfl, rfl⟩ := h
            cases hl with
            | cons hx hl =>
              cases hx with
              | own h1 h2 h3 h4 h5 =>
                have := h2 _ _ (shp_deep hb)
                subst this
                refine ⟨[_], _, rfl, hl, (fun j hj => by simp at hj; subst hj; exact ⟨hm, by rw [hb]; simp, fun _ _ _ _ e => by rw [hb] at e; cases e⟩), own1 ?_⟩
                have := own_ro hM (Or.inr hb) (lo := 0) (by omega) h3 h4 h5
                simpa using this
          · cases h
        · cases h
      · cases h
    · rename_i id lo len r
      split at h
      · rename_i hm
        have hm := Nat.le_of_ble_eq_true hm
        split at h
        · rename_i o u xs hb
          split at h
          · rename_i hns
            split at h
            · rename_i ys hy
              obtain ⟨e, hy⟩ := castD_some hy
              subst e
              subst hy
              simp only [Option.some.injEq, Prod.mk.injEq] at h
              obtain ⟨rfl, rfl, rfl⟩ := h
              cases hl with
              | cons hx hl =>
                cases hx with
                | sl h1 h2 h3 h4 h5 =>
                  refine ⟨[_], _, rfl, hl, (fun j hj => by simp at hj; subst hj; exact ⟨hm, by rw [hb]; simp, fun _ _ _ _ e => by rw [hb] at e; cases e⟩), own1 ?_⟩
                  exact own_ro hM (Or.inl ⟨o, hb, hns⟩) (h2 _ _ (shp_arr hb)) h3 h4 h5
            · cases h
          · cases h
        · rename_i u xs hb
          split at h
          · rename_i ys hy
            obtain ⟨e, hy⟩ := castD_some hy
            subst e
            subst hy
            simp only [Option.some.injEq, Prod.mk.injEq] at h
            obtain ⟨rfl, rfl, rfl⟩ := h
            cases hl with
            | cons hx hl =>
              cases hx with
              | sl h1 h2 h3 h4 h5 =>
                refine ⟨[_], _, rfl, hl, (fun j hj => by simp at hj; subst hj; exact ⟨hm, by rw [hb]; simp, fun _ _ _ _ e => by rw [hb] at e; cases e⟩), own1 ?_⟩
                exact own_ro hM (Or.inr hb) (h2 _ _ (shp_deep hb)) h3 h4 h5
          · cases h
        · cases h
      · cases h
    · cases h
  | .pr x y, l, vs, d, ids, rest, hl, h => by
    simp only [clO] at h
    split at h
    · rename_i d1 ids1 r1 h1
      split at h
      · rename_i d2 ids2 r2 h2
        simp only [Option.some.injEq, Prod.mk.injEq] at h
        obtain ⟨rfl, rfl, rfl⟩ := h
        obtain ⟨v1, v2, rfl, k1, k2, k3⟩ := clO_sound hM x hl h1
        obtain ⟨v3, v4, rfl, k4, k5, k6⟩ := clO_sound hM y k1 h2
        refine ⟨v1 ++ v3, v4, by simp, k4, fun i hi => ?_, fun hnd => ?_⟩
        · rcases List.mem_append.1 hi with hi | hi
          · exact k2 i hi
          · exact k5 i hi
        · obtain ⟨n1, n2, n3⟩ := nodup_append hnd
          simp only [RO]
          refine ⟨v1, v3, ownF φ ids1, ownF φ ids2, rfl, ?_, ?_, ?_, k3 n1, k6 n2⟩
          · rintro b ⟨i, hi, hb⟩; exact ⟨i, by simp [hi], hb⟩
          · rintro b ⟨i, hi, hb⟩; exact ⟨i, by simp [hi], hb⟩
          · rintro b ⟨i, hi, hb⟩ ⟨j, hj, hb'⟩
            have := hM.inj i j b (k2 i hi).2.1 (k5 j hj).2.1 hb hb'
            exact n3 i hi (this ▸ hj)
      · cases h
    · cases h

theorem closeOne_ent (id : Nat) (s : St) : Ent s (closeOne id s) := by
  unfold closeOne
  split
  rotate_left
  · exact Ent.refl s
  rename_i t xs j row hb
  split
  rotate_left
  · exact Ent.refl s
  rename_i d ids hc
  split
  rotate_left
  · exact Ent.refl s
  rename_i hnd
  intro bs φ a w hMo
  have hM := hMo.toHM
  obtain ⟨b, off, cs, e, h1, h2, h3, h4, ⟨G, g1, g2, g3⟩, h6, h7, rc, h8, h9⟩ := hM.h id _ hb
  obtain ⟨v1, v2, rfl, k1, k2, k3⟩ := clO_sound hM t h9 hc
  cases k1
  rw [List.append_nil] at h8
  have hro := k3 hnd
  have hidn : hl id s.h ≠ none := by rw [hb]; simp
  have hal : ∀ i ∈ ids, s.al i := fun i hi => hM.al_of (k2 i hi).2.1
  have hid : id ∉ ids := fun hi => (k2 id hi).2.2 _ _ _ _ hb
  have hida : s.al id := hM.al_of hidn
  have hlk : ∀ i, hl i ((id, some (Blk.deep t (xs.set j d))) :: kills ids s.h) = if id = i then some (.deep t (xs.set j d)) else if i ∈ ids then none else hl i s.h := fun i => by rw [hl_cons, hl_kills]
  have hlv : ∀ i, hl i ((id, some (Blk.deep t (xs.set j d))) :: kills ids s.h) ≠ none → i ∉ ids ∧ hl i s.h ≠ none := by
    intro i hx
    rw [hlk] at hx
    by_cases e : id = i
    · subst e; exact ⟨hid, hidn⟩
    · rw [if_neg e] at hx
      by_cases e : i ∈ ids
      · rw [if_pos e] at hx; exact absurd rfl hx
      · rw [if_neg e] at hx; exact ⟨e, hx⟩
  have hal' : ∀ i, St.al { s with h := (id, some (Blk.deep t (xs.set j d))) :: kills ids s.h } i ↔ i = id ∨ s.al i := fun i =>
    (al_cons (s := s.kills ids) (i := id)).trans (or_congr Iff.rfl (al_kills hal))
  let F : Nat → Prop := fun x => φ.ψ id x ∨ ownF φ ids x
  have hφ : ∀ i, (φ.put id (φ id) F) i = φ i := fun i => by
    by_cases e : i = id
    · subst e; exact Ph.put_f
    · exact Ph.put_f' e
  have how : ∀ i x, (φ.put id (φ id) F).own i x → φ.own i x ∨ (i = id ∧ ownF φ ids x) := by
    intro i x hx
    by_cases e : i = id
    · subst e
      rcases Ph.own_same.1 hx with h | h | h
      · exact Or.inl (Or.inl h)
      · exact Or.inl (Or.inr h)
      · exact Or.inr ⟨rfl, h⟩
    · exact Or.inl ((Ph.own_other e).1 hx)
  have hidx : ∀ x, ownF φ ids x → ¬ φ.own id x := fun x ⟨i, hi, hx⟩ hp => hid (hM.inj id i x hidn (k2 i hi).2.1 hp hx ▸ hi)
  obtain ⟨m1, m2⟩ := hM.shift (s' := { s with h := (id, some (Blk.deep t (xs.set j d))) :: kills ids s.h }) (φ' := φ.put id (φ id) F) (w' := w) (fun i hi => (hal' i).2 (Or.inr hi)) (fun i hi => by
      rcases (hal' i).1 hi with rfl | hi
      · exact hM.kb _ hida
      · exact hM.kb i hi) rfl (fun i _ => hφ i) (fun i _ t' n hx => by
      have hx : shp (hl i ((id, some (Blk.deep t (xs.set j d))) :: kills ids s.h)) = _ := hx
      rw [hlk] at hx
      by_cases e : id = i
      · rw [if_pos e] at hx
        rw [← e, hb, ← hx]
        simp [shp]
      · rw [if_neg e] at hx
        by_cases e : i ∈ ids
        · rw [if_pos e] at hx; cases hx
        · rw [if_neg e] at hx; exact hx) (fun i _ hx => (hlv i hx).2) (fun _ _ _ _ _ _ cs e fz hc => ⟨cs, e, fz, hc, rfl⟩) (fun i x hi hp => by
      rcases how i x hp with h | ⟨_, k, hk, hx⟩
      · exact Or.inl ⟨i, (hlv i hi).2, h⟩
      · exact Or.inl ⟨k, (k2 k hk).2.1, hx⟩) (fun i i' x hi hi' hp hq => by
      have cross : ∀ i, i ∉ ids → hl i s.h ≠ none → φ.own i x → ownF φ ids x → False := fun i hn hnn hp ⟨k, hk, hx⟩ => hn (hM.inj i k x hnn (k2 k hk).2.1 hp hx ▸ hk)
      rcases how i x hp with h | ⟨e, h⟩ <;> rcases how i' x hq with h' | ⟨e', h'⟩
      · exact hM.inj i i' x (hlv i hi).2 (hlv i' hi').2 h h'
      · exact (cross i (hlv i hi).1 (hlv i hi).2 h h').elim
      · exact (cross i' (hlv i' hi').1 (hlv i' hi').2 h' h).elim
      · exact e.trans e'.symm) (fun i x hi hp => by
      rcases how i x hp with h | ⟨e, k, hk, hx⟩
      · exact hM.lo i x (hlv i hi).2 h
      · rcases hM.lo k x (k2 k hk).2.1 hx with h | ⟨h, _⟩
        · exact Or.inl h
        · have := (k2 k hk).1; omega) (Nat.le_refl _) (fun _ _ _ => rfl) (Keeps.refl _ _ _) fun hle i x hx => by
      have hx : hl i ((id, some (Blk.deep t (xs.set j d))) :: kills ids s.h) = some x := hx
      rw [hlk] at hx
      by_cases e : id = i
      · subst e
        rw [if_pos rfl] at hx
        cases hx
        refine Or.inl ⟨b, off, cs, _, (hφ id).trans h1, h2, by simpa using h3, ?_, ?_⟩
        · show ¬ (φ.put id (φ id) F).ψ id b
          rw [Ph.put_ψ]
          rintro (hb' | hb')
          · exact h4 hb'
          · exact hidx b hb' (Or.inl ⟨off, h1⟩)
        · show ROs w t b off (xs.set j d) ((φ.put id (φ id) F).ψ id) none
          rw [Ph.put_ψ]
          refine ⟨fun i x => (i ≠ j ∧ G i x) ∨ (i = j ∧ ownF φ ids x), fun i x hx => hx.elim (fun h => Or.inl (g1 i x h.2)) fun h => Or.inr h.2, ?_, fun i hi _ => ?_⟩
          · rintro i i' x (⟨a1, a2⟩ | ⟨a1, a2⟩) (⟨a3, a4⟩ | ⟨a3, a4⟩)
            · exact g2 i i' x a2 a4
            · exact absurd (Or.inr (g1 i x a2)) (hidx x a4)
            · exact absurd (Or.inr (g1 i' x a4)) (hidx x a2)
            · exact a1.trans a3.symm
          · have hi' : i < xs.length := by simpa using hi
            by_cases ej : j = i
            · subst ej
              exact ⟨v1, h8, by rw [List.getElem_set_self]; exact hro.mono fun x hx => Or.inr ⟨rfl, hx⟩⟩
            · obtain ⟨rc', r1, r2⟩ := g3 i hi' (fun e => ej (by cases e; rfl))
              exact ⟨rc', r1, by rw [List.getElem_set_ne ej]; exact r2.mono fun x hx => Or.inl ⟨fun e => ej e.symm, hx⟩⟩
      · rw [if_neg e] at hx
        by_cases e' : i ∈ ids
        · rw [if_pos e'] at hx; cases hx
        · rw [if_neg e'] at hx
          exact BlkOK.le hle (al_of_hl hx) (if_neg fun e'' => e e''.symm) (fun _ _ => rfl) (hM.h i x hx)
  obtain ⟨ds, d1, d2⟩ := hMo.df
  exact ⟨_, ⟨m1.kb, m1.h, m1.inj, m1.lo, m1.ps, m1.bd, m1.kp, m1.inc⟩, hMo.n, fun i => R.le m2 (hMo.t i), ds, RL.le m2 d1, d2⟩

theorem closeL_ent : ∀ (l : List (Nat × Option Blk)) (s : St), Ent s (closeL l s)
  | [], s => Ent.refl s
  | (i, some (.seg _ _ _ _)) :: r, s => (closeOne_ent i s).trans (closeL_ent r _)
  | (_, none) :: r, s => closeL_ent r s
  | (_, some (.cells _)) :: r, s => closeL_ent r s
  | (_, some (.arr _ _ _)) :: r, s => closeL_ent r s
  | (_, some (.deep _ _)) :: r, s => closeL_ent r s

theorem closeAll_ent (s : St) : Ent s (closeAll s) := closeL_ent s.h s

theorem rebT_spec {hp : Nat → Option Blk} {ρ : List Nat} {m : Nat} {t : List (Nat × AV)} : ∀ {slots : List Nat} {t' : List (Nat × AV)}, rebT hp ρ m t slots = some t' → ∀ i, look i t' = .junk ∨ ∃ x, xfz hp ρ m 100 (look i t) = some x ∧ look i t' = x
  | [], t', h, i => by simp [rebT] at h; subst h; exact Or.inl rfl
  | k :: r, t', h, i => by
    simp only [rebT] at h
    split at h
    · rename_i x hx
      split at h
      · rename_i l hl'
        simp only [Option.some.injEq] at h
        subst h
        rw [look_cons]
        split
        · rename_i e; subst e; exact Or.inr ⟨x, hx, rfl⟩
        · exact rebT_spec hl' i
      · cases h
    · cases h

theorem reb1_ent {slots : List Nat} {o : Org} {s s' : St} {σ : List Nat} (h : reb1 slots o s σ = some s') : Ent s s' := by
  unfold reb1 at h
  split at h
  · rename_i hdf
    split at h
    · rename_i hnd
      split at h
      · rename_i hs hhs
        split at h
        · rename_i t ht
          simp only [Option.some.injEq] at h
          subst h
          intro bs φ a w hM
          obtain ⟨hkeys, _⟩ := xfzH_spec hhs
          have hlen : (rng 0 s.m ++ σ).length = s.m + σ.length := by rw [List.length_append, rng_length]
          obtain ⟨φ', h1, h2, h3, _⟩ := exit_gen (s2 := ⟨s.n, t, hs, s.m + List.length σ, s.m, []⟩) hM.toHM rfl hhs hnd (Nat.le_refl _) rfl (fun i _ => rfl) (fun i => by
            rw [al_iff]; show i ∈ keys hs ↔ _; rw [hkeys]; omega)
          obtain ⟨g1, g2⟩ := h2.jo o
          obtain ⟨ds, d1, d2⟩ := hM.df
          rw [hdf] at d1
          cases d1
          refine ⟨φ', ⟨g1.kb, g1.h, g1.inj, g1.lo, g1.ps, g1.bd, g1.kp, g1.inc⟩, hM.n, fun i => ?_, [], .nil, d2⟩
          show R _ (look i (joT o t)) _
          rw [look_joT]
          refine jo_sound g2 ?_
          rcases rebT_spec ht i with e | ⟨x, hx, e⟩
          · rw [e]; exact .junk _
          · rw [e]; exact h3 100 _ x _ hx (hM.t i)
        · cases h
      · cases h
    · cases h
  · cases h

/-- Keep these slots and blocks, forget the others. -/
theorem Ent.reb (G slots : List Nat) (σ : List (Nat × List Nat)) (o : Org) {s s' : St} (h : Fw.reb G slots σ o s = some s') : Ent s s' := by
  unfold Fw.reb reb2 at h
  split at h
  · exact ((closeAll_ent s).trans (own0_ent G _)).trans (reb1_ent h)
  · cases h
end
end Go.Fw
namespace Go.Fw
open Go Go.RowKit

theorem RD.noSl {w : World} {ok ok' : Nat → Prop} : ∀ {t : Ty} {x : D t} {cs : List Value}, hasSl t = false → RD w ok t x cs → RD w ok' t x cs
  | .i _, _, _, _, h => by simpa only [RD] using h
  | .b, _, _, _, h => by simpa only [RD] using h
  | .sl _, _, _, hn, _ => by cases hn
  | .pr x y, _, _, hn, h => by
    simp only [hasSl, Bool.or_eq_false_iff] at hn
    simp only [RD] at h ⊢
    obtain ⟨c1, c2, h, h1, h2⟩ := h
    exact ⟨c1, c2, h, RD.noSl hn.1 h1, RD.noSl hn.2 h2⟩

/-- What the blocks of an opened row say. -/
structure Opn (w : World) (F : Nat → Prop) (nx n : Nat) (t : Ty) (row : List AV) (hs : List (Nat × Option Blk)) (φ : Ph) : Prop where
  le : nx ≤ n
  ks : ∀ i, i ∈ keys hs ↔ nx ≤ i ∧ i < n
  ne : ∀ i, nx ≤ i → i < n → hl i hs ≠ none
  len : row.length = sz t
  F : ∀ i b, nx ≤ i → i < n → φ.own i b → F b
  inj : ∀ i j b, nx ≤ i → i < n → nx ≤ j → j < n → φ.own i b → φ.own j b → i = j
  ok : ∀ (c : Cx) (cs : List Value), c.w = w → (∀ i, nx ≤ i → i < n → c.φ i = φ i ∧ c.ψ i = φ.ψ i ∧ c.al i ∧ c.h i = hl i hs) → ∀ i b, nx ≤ i → i < n → hl i hs = some b → BlkOK c i b

def noPh : Ph := ⟨fun _ => none, fun _ _ => False⟩

theorem opn_sound {w : World} : ∀ (t : Ty) (d : D t) (cs : List Value) (F : Nat → Prop) (nx : Nat) (row : List AV) (hs : List (Nat × Option Blk)) (n : Nat), RO w t d cs F → opn t d nx = (row, hs, n) →
    ∃ φ : Ph, Opn w F nx n t row hs φ ∧ ∀ c : Cx, c.w = w → (∀ i, nx ≤ i → i < n → c.φ i = φ i ∧ c.ψ i = φ.ψ i ∧ c.al i ∧ c.h i = hl i hs) → RL c row cs
  | .i k, d, cs, F, nx, row, hs, n, h, e => by
    simp only [opn, Prod.mk.injEq] at e
    obtain ⟨rfl, rfl, rfl⟩ := e
    refine ⟨noPh, ⟨Nat.le_refl _, fun i => by simp only [keys, List.not_mem_nil, false_iff]; omega, fun i h1 h2 => by omega, by cases k <;> rfl, fun i b h1 h2 => by omega, fun i j b h1 h2 => by omega, fun c _ _ _ i b h1 h2 => by omega⟩, fun c hw _ => ?_⟩
    simp only [RO] at h
    subst h
    cases k <;> first | exact .cons (.un _ _) .nil | exact .cons (.val _) .nil
  | .b, d, cs, F, nx, row, hs, n, h, e => by
    simp only [opn, Prod.mk.injEq] at e
    obtain ⟨rfl, rfl, rfl⟩ := e
    refine ⟨noPh, ⟨Nat.le_refl _, fun i => by simp only [keys, List.not_mem_nil, false_iff]; omega, fun i h1 h2 => by omega, rfl, fun i b h1 h2 => by omega, fun i j b h1 h2 => by omega, fun c _ _ _ i b h1 h2 => by omega⟩, fun c hw _ => ?_⟩
    simp only [RO] at h
    subst h
    exact .cons (.val _) .nil
  | .sl t, xs, cs, F, nx, row, hs, n, h, e => by
    simp only [opn, Prod.mk.injEq] at e
    obtain ⟨rfl, rfl, rfl⟩ := e
    obtain ⟨B, hB⟩ : ∃ B, B = opnB t xs := ⟨_, rfl⟩
    rw [← hB]
    unfold opnB at hB
    have hsh : shp (some B) = some (t, List.length xs) := by rw [hB]; cases hasSl t <;> rfl
    have hlk : hl nx [(nx, some B)] = some B := by rw [hl_cons, if_pos rfl]
    have one : ∀ i, nx ≤ i → i < nx + 1 → i = nx := fun i h1 h2 => by omega
    simp only [RO] at h
    obtain ⟨a, cap, rfl, h2, h3⟩ := h
    have hR : ∀ (φ : Ph) (c : Cx), c.w = w → (∀ i, nx ≤ i → i < nx + 1 → c.φ i = φ i ∧ c.ψ i = φ.ψ i ∧ c.al i ∧ c.h i = hl i [(nx, some B)]) → (slAt c nx 0 (List.length xs) cap a ∨ (List.length xs = 0 ∧ cap = 0)) → capOk c nx 0 cap →
        RL c [.own nx] [.slice a (List.length xs) cap] := by
      intro φ c hw hc hs hcap
      obtain ⟨c1, c2, c3, c4⟩ := hc nx (Nat.le_refl _) (Nat.lt_succ_self _)
      refine .cons (.own c3 (fun t' n' hx => ?_) hs hcap h2) .nil
      rw [c4, hlk, hsh] at hx
      cases hx; rfl
    rcases h3 with ⟨h3, h4⟩ | ⟨bl, off, c, e, k1, k2, k3, k4, G, g1, g2, g3⟩
    · refine ⟨noPh, ⟨Nat.le_succ _, fun i => by simp only [keys, List.mem_singleton]; omega, fun i h1 h2 => by rw [one i h1 h2, hlk]; simp, rfl, ?_, ?_, fun c _ hw hc i b h1 h2 hb => ?_⟩, fun c hw hc => ?_⟩
      · rintro i b _ _ (⟨_, h⟩ | h)
        · cases h
        · exact h.elim
      · rintro i j b _ _ _ _ (⟨_, h⟩ | h)
        · cases h
        · exact h.elim
      · have := one i h1 h2
        subst this
        obtain ⟨c1, c2, c3, c4⟩ := hc i h1 h2
        rw [hlk] at hb
        cases hb
        rw [hB]
        have hx : xs = [] := List.eq_nil_of_length_eq_zero h3
        cases hasSl t
        · exact Or.inr ⟨c1, hx⟩
        · exact Or.inr ⟨c1, hx⟩
      · refine hR noPh c hw hc (Or.inr ⟨h3, h4⟩) fun t' n' hx b off hb => ?_
        rw [(hc nx (Nat.le_refl _) (Nat.lt_succ_self _)).1] at hb
        cases hb
    · let φ : Ph := ⟨fun _ => some (bl, off), fun _ b => ∃ j, G j b⟩
      refine ⟨φ, ⟨Nat.le_succ _, fun i => by simp only [keys, List.mem_singleton]; omega, fun i h1 h2 => by rw [one i h1 h2, hlk]; simp, rfl, ?_, ?_, fun c' _ hw hc i b h1 h2' hb => ?_⟩, fun c' hw hc => ?_⟩
      · rintro i b _ _ (⟨o, h⟩ | ⟨j, h⟩)
        · have h : some (bl, off) = some (b, o) := h
          cases h; exact k2
        · exact (g1 j b h).1
      · intro i j b h1 h2 h3 h4 _ _
        omega
      · have := one i h1 h2'
        subst this
        obtain ⟨c1, c2, c3, c4⟩ := hc i h1 h2'
        rw [hlk] at hb
        cases hb
        have hfit : off + List.length xs * sz t ≤ c.size := Nat.le_trans (Nat.add_le_add_left (Nat.mul_le_mul_right _ h2) _) k4
        rw [hB]
        cases hns : hasSl t
        · refine Or.inl ⟨bl, off, c, e, c1, hw ▸ k3, hfit, fun j hj => ?_⟩
          obtain ⟨rc, r1, r2⟩ := g3 j hj
          exact ⟨rc, hw ▸ r1, RD.noSl hns (hw ▸ r2.data (ok := fun _ => True) fun _ _ _ => trivial)⟩
        · refine Or.inl ⟨bl, off, c, e, c1, hw ▸ k3, hfit, ?_, ?_⟩
          · rw [c2]
            rintro ⟨j, hj⟩
            exact (g1 j bl hj).2 rfl
          · rw [c2, hw]
            exact ⟨G, fun j x hx => ⟨j, hx⟩, g2, fun j hj _ => g3 j hj⟩
      · have c1 := (hc nx (Nat.le_refl _) (Nat.lt_succ_self _)).1
        refine hR φ c' hw hc (Or.inl (Or.inl ⟨bl, off, off, c1, k1, fun t' n' hx => by omega⟩)) fun t' n' hx b o hb => ?_
        rw [(hc nx (Nat.le_refl _) (Nat.lt_succ_self _)).2.2.2, hlk, hsh] at hx
        cases hx
        rw [c1] at hb
        have hb : some (bl, off) = some (b, o) := hb
        cases hb
        exact ⟨c, e, _, hw ▸ k3, by simpa using k4⟩
  | .pr x y, d, cs, F, nx, row, hs, n, h, e => by
    simp only [RO] at h
    obtain ⟨c1, c2, F1, F2, rfl, f1, f2, f3, r1, r2⟩ := h
    obtain ⟨a, h1, n1, e1⟩ : ∃ a h n, opn x d.1 nx = (a, h, n) := ⟨_, _, _, rfl⟩
    obtain ⟨b, h2, n2, e2⟩ : ∃ b h n, opn y d.2 n1 = (b, h, n) := ⟨_, _, _, rfl⟩
    simp only [opn, e1, e2, Prod.mk.injEq] at e
    obtain ⟨rfl, rfl, rfl⟩ := e
    obtain ⟨φ1, o1, l1⟩ := opn_sound x d.1 c1 F1 nx a h1 n1 r1 e1
    obtain ⟨φ2, o2, l2⟩ := opn_sound y d.2 c2 F2 n1 b h2 n2 r2 e2
    let φ : Ph := ⟨fun i => if i < n1 then φ1 i else φ2 i, fun i => if i < n1 then φ1.ψ i else φ2.ψ i⟩
    have p1 : ∀ i, i < n1 → φ i = φ1 i ∧ φ.ψ i = φ1.ψ i := fun i hi => ⟨if_pos hi, if_pos hi⟩
    have p2 : ∀ i, n1 ≤ i → φ i = φ2 i ∧ φ.ψ i = φ2.ψ i := fun i hi => ⟨if_neg (Nat.not_lt.2 hi), if_neg (Nat.not_lt.2 hi)⟩
    have w1 : ∀ i b, i < n1 → φ.own i b → φ1.own i b := fun i b hi h => by unfold Ph.own at h ⊢; rw [(p1 i hi).1, (p1 i hi).2] at h; exact h
    have w2 : ∀ i b, n1 ≤ i → φ.own i b → φ2.own i b := fun i b hi h => by unfold Ph.own at h ⊢; rw [(p2 i hi).1, (p2 i hi).2] at h; exact h
    have q1 : ∀ i, nx ≤ i → i < n1 → hl i (h1 ++ h2) = hl i h1 := fun i h h' => hl_app_key ((o1.ks i).2 ⟨h, h'⟩)
    have q2 : ∀ i, n1 ≤ i → hl i (h1 ++ h2) = hl i h2 := fun i h => hl_app_ne fun hk => by have := (o1.ks i).1 hk; omega
    have kap : ∀ (l l' : List (Nat × Option Blk)) i, i ∈ keys (l ++ l') ↔ i ∈ keys l ∨ i ∈ keys l' := by
      intro l l' i
      simp only [mem_keys, List.mem_append]
      constructor
      · rintro ⟨y, h | h⟩
        · exact Or.inl ⟨y, h⟩
        · exact Or.inr ⟨y, h⟩
      · rintro (⟨y, h⟩ | ⟨y, h⟩)
        · exact ⟨y, Or.inl h⟩
        · exact ⟨y, Or.inr h⟩
    have hc1 : ∀ c : Cx, (∀ i, nx ≤ i → i < n2 → c.φ i = φ i ∧ c.ψ i = φ.ψ i ∧ c.al i ∧ c.h i = hl i (h1 ++ h2)) → ∀ i, nx ≤ i → i < n1 → c.φ i = φ1 i ∧ c.ψ i = φ1.ψ i ∧ c.al i ∧ c.h i = hl i h1 := by
      intro c hc i hi hi'
      obtain ⟨k1, k2, k3, k4⟩ := hc i hi (Nat.lt_of_lt_of_le hi' o2.le)
      exact ⟨k1.trans (p1 i hi').1, k2.trans (p1 i hi').2, k3, k4.trans (q1 i hi hi')⟩
    have hc2 : ∀ c : Cx, (∀ i, nx ≤ i → i < n2 → c.φ i = φ i ∧ c.ψ i = φ.ψ i ∧ c.al i ∧ c.h i = hl i (h1 ++ h2)) → ∀ i, n1 ≤ i → i < n2 → c.φ i = φ2 i ∧ c.ψ i = φ2.ψ i ∧ c.al i ∧ c.h i = hl i h2 := by
      intro c hc i hi hi'
      obtain ⟨k1, k2, k3, k4⟩ := hc i (Nat.le_trans o1.le hi) hi'
      exact ⟨k1.trans (p2 i hi).1, k2.trans (p2 i hi).2, k3, k4.trans (q2 i hi)⟩
    refine ⟨φ, ⟨Nat.le_trans o1.le o2.le, fun i => ?_, fun i h h' => ?_, by simp [o1.len, o2.len, sz], fun i b h h' ho => ?_, fun i j b h h' k k' ho ho' => ?_, fun c cs hw hc i b h h' hb => ?_⟩, fun c hw hc => ?_⟩
    · rw [kap, o1.ks, o2.ks]
      have := o1.le
      have := o2.le
      omega
    · by_cases hi : i < n1
      · rw [q1 i h hi]; exact o1.ne i h hi
      · rw [q2 i (Nat.not_lt.1 hi)]; exact o2.ne i (Nat.not_lt.1 hi) h'
    · by_cases hi : i < n1
      · exact f1 b (o1.F i b h hi (w1 i b hi ho))
      · exact f2 b (o2.F i b (Nat.not_lt.1 hi) h' (w2 i b (Nat.not_lt.1 hi) ho))
    · by_cases hi : i < n1 <;> by_cases hj : j < n1
      · exact o1.inj i j b h hi k hj (w1 i b hi ho) (w1 j b hj ho')
      · exact (f3 b (o1.F i b h hi (w1 i b hi ho)) (o2.F j b (Nat.not_lt.1 hj) k' (w2 j b (Nat.not_lt.1 hj) ho'))).elim
      · exact (f3 b (o1.F j b k hj (w1 j b hj ho')) (o2.F i b (Nat.not_lt.1 hi) h' (w2 i b (Nat.not_lt.1 hi) ho))).elim
      · exact o2.inj i j b (Nat.not_lt.1 hi) h' (Nat.not_lt.1 hj) k' (w2 i b (Nat.not_lt.1 hi) ho) (w2 j b (Nat.not_lt.1 hj) ho')
    · by_cases hi : i < n1
      · exact o1.ok c [] hw (hc1 c hc) i b h hi (by rw [← q1 i h hi]; exact hb)
      · exact o2.ok c [] hw (hc2 c hc) i b (Nat.not_lt.1 hi) h' (by rw [← q2 i (Nat.not_lt.1 hi)]; exact hb)
    · exact (l1 c hw (hc1 c hc)).append (l2 c hw (hc2 c hc))

variable {bs : Bs}

theorem openAt_ent {id j : Nat} {t : Ty} {xs : List (D t)} {s : St} (hb : hl id s.h = some (.deep t xs)) (hj : j < xs.length) (hm : s.m ≤ id) : Ent s (openAt id t xs j s) := by
  intro bs φ a w hMo
  have hM := hMo.toHM
  unfold openAt
  rw [List.getD_eq_getElem?_getD, List.getElem?_eq_getElem hj, Option.getD_some]
  obtain ⟨row, hs, n, he⟩ : ∃ row hs n, opn t xs[j] s.nx = (row, hs, n) := ⟨_, _, _, rfl⟩
  rw [he]
  dsimp only
  rcases hM.h id _ hb with ⟨b, off, cs, e, h1, h2, h3, h4, G, g1, g2, g3⟩ | ⟨_, hx⟩
  rotate_left
  · rw [hx] at hj; exact absurd hj (Nat.not_lt_zero _)
  obtain ⟨rc, r1, r2⟩ := g3 j hj (by simp)
  obtain ⟨φ2, o, ol⟩ := opn_sound t xs[j] rc (G j) s.nx row hs n r2 he
  have hidn : hl id s.h ≠ none := by rw [hb]; simp
  have hida : s.al id := hM.al_of hidn
  have hidx : id < s.nx := hM.kb _ hida
  obtain ⟨s', hs'⟩ : ∃ s' : St, s' = { s with h := (id, some (.seg t xs j row)) :: (hs ++ s.h), nx := n } := ⟨_, rfl⟩
  rw [← hs']
  have sh : s'.h = (id, some (.seg t xs j row)) :: (hs ++ s.h) := by rw [hs']
  let φ' : Ph := ⟨fun i => if i < s.nx then φ i else φ2 i, fun i => if i = id then (fun b => ∃ k, k ≠ j ∧ G k b) else if i < s.nx then φ.ψ i else φ2.ψ i⟩
  have p1 : ∀ i, i < s.nx → φ' i = φ i := fun i hi => if_pos hi
  have p2 : ∀ i, s.nx ≤ i → φ' i = φ2 i := fun i hi => if_neg (Nat.not_lt.2 hi)
  have pid : φ'.ψ id = fun b => ∃ k, k ≠ j ∧ G k b := if_pos rfl
  have p3 : ∀ i, i < s.nx → i ≠ id → φ'.ψ i = φ.ψ i := fun i hi hn => by show (if i = id then _ else if i < s.nx then _ else _) = _; rw [if_neg hn, if_pos hi]
  have p4 : ∀ i, s.nx ≤ i → φ'.ψ i = φ2.ψ i := fun i hi => by show (if i = id then _ else if i < s.nx then _ else _) = _; rw [if_neg (by omega), if_neg (Nat.not_lt.2 hi)]
  have w1 : ∀ i b, i < s.nx → φ'.own i b → φ.own i b ∧ (i = id → ¬ G j b) := by
    intro i x hi hx
    rcases hx with ⟨off', hx⟩ | hx
    · rw [p1 i hi] at hx
      refine ⟨Or.inl ⟨off', hx⟩, ?_⟩
      rintro rfl hg
      have h1 : φ i = some (b, off) := h1
      rw [h1] at hx
      cases hx
      exact h4 (g1 j b hg)
    · by_cases ei : i = id
      · subst ei
        rw [pid] at hx
        obtain ⟨k, hk, hg⟩ := hx
        exact ⟨Or.inr (g1 k x hg), fun _ hg' => hk (g2 k j x hg hg')⟩
      · rw [p3 i hi ei] at hx
        exact ⟨Or.inr hx, fun e => absurd e ei⟩
  have w2 : ∀ i b, s.nx ≤ i → φ'.own i b → φ2.own i b := fun i x hi hx => by unfold Ph.own at hx ⊢; rw [p2 i hi, p4 i hi] at hx; exact hx
  have q0 : hl id s'.h = some (.seg t xs j row) := by rw [sh, hl_cons, if_pos rfl]
  have q1 : ∀ i, i ≠ id → ¬ (s.nx ≤ i ∧ i < n) → hl i s'.h = hl i s.h := fun i hn hr => by
    rw [sh, hl_cons, if_neg (fun e => hn e.symm), hl_app_ne fun hk => hr ((o.ks i).1 hk)]
  have q2 : ∀ i, s.nx ≤ i → i < n → hl i s'.h = hl i hs := fun i hi hi' => by
    rw [sh, hl_cons, if_neg (by omega), hl_app_key ((o.ks i).2 ⟨hi, hi'⟩)]
  have alx : ∀ i, s'.al i ↔ i = id ∨ (s.nx ≤ i ∧ i < n) ∨ s.al i := by
    intro i
    rw [al_iff, al_iff, sh, ← o.ks]
    simp only [keys, List.mem_cons, mem_keys, List.mem_append]
    constructor
    · rintro (h | ⟨y, h | h⟩)
      · exact Or.inl h
      · exact Or.inr (Or.inl ⟨y, h⟩)
      · exact Or.inr (Or.inr ⟨y, h⟩)
    · rintro (h | ⟨y, h⟩ | ⟨y, h⟩)
      · exact Or.inl h
      · exact Or.inr ⟨y, Or.inl h⟩
      · exact Or.inr ⟨y, Or.inr h⟩
  have oldl : ∀ i, i < s.nx → hl i s'.h ≠ none → hl i s.h ≠ none := by
    intro i hi hx
    by_cases ei : i = id
    · rw [ei]; exact hidn
    · rw [q1 i ei (by omega)] at hx; exact hx
  have range : ∀ i, hl i s'.h ≠ none → i < s.nx ∨ (s.nx ≤ i ∧ i < n) := by
    intro i hx
    by_cases hi : i < s.nx
    · exact Or.inl hi
    · by_cases hi' : i < n
      · exact Or.inr ⟨Nat.not_lt.1 hi, hi'⟩
      · rw [q1 i (by omega) (by omega)] at hx
        exact absurd (hM.kb i (hM.al_of hx)) hi
  have newG : ∀ i b, s.nx ≤ i → i < n → φ'.own i b → G j b := fun i x hi hi' hx => o.F i x hi hi' (w2 i x hi hx)
  have ownG : ∀ b, G j b → φ.own id b := fun x hx => Or.inr (g1 j x hx)
  obtain ⟨m1, m2⟩ := hM.shift (s' := s') (φ' := φ') (w' := w) (fun i hi => (alx i).2 (Or.inr (Or.inr hi))) (fun i hi => by
      have hn : s'.nx = n := by rw [hs']
      rw [hn]
      have := o.le
      rcases (alx i).1 hi with rfl | h | h
      · omega
      · omega
      · have := hM.kb i h; omega) (by rw [hs']) (fun i hi => p1 i (hM.kb i hi)) (fun i hi t' n' hx => by
      by_cases ei : i = id
      · subst ei
        rw [q0] at hx
        rw [hb]
        exact hx
      · rw [q1 i ei (by have := hM.kb i hi; omega)] at hx; exact hx) (fun i hi hx => oldl i (hM.kb i hi) hx) (fun _ _ _ _ _ _ cs e fz hc => ⟨cs, e, fz, hc, rfl⟩) (fun i x hi hp => by
      rcases range i hi with h | ⟨h, h'⟩
      · exact Or.inl ⟨i, oldl i h hi, (w1 i x h hp).1⟩
      · exact Or.inl ⟨id, hidn, ownG x (newG i x h h' hp)⟩) (fun i i' x hi hi' hp hq => by
      rcases range i hi with h | ⟨h, h'⟩ <;> rcases range i' hi' with k | ⟨k, k'⟩
      · exact hM.inj i i' x (oldl i h hi) (oldl i' k hi') (w1 i x h hp).1 (w1 i' x k hq).1
      · have hg := newG i' x k k' hq
        have e := hM.inj i id x (oldl i h hi) hidn (w1 i x h hp).1 (ownG x hg)
        exact ((w1 i x h hp).2 e hg).elim
      · have hg := newG i x h h' hp
        have e := hM.inj i' id x (oldl i' k hi') hidn (w1 i' x k hq).1 (ownG x hg)
        exact ((w1 i' x k hq).2 e hg).elim
      · exact o.inj i i' x h h' k k' (w2 i x h hp) (w2 i' x k hq)) (fun i x hi hp => by
      rcases range i hi with h | ⟨h, h'⟩
      · exact hM.lo i x (oldl i h hi) (w1 i x h hp).1
      · rcases hM.lo id x hidn (ownG x (newG i x h h' hp)) with k | ⟨k, _⟩
        · exact Or.inl k
        · omega) (Nat.le_refl _) (fun _ _ _ => rfl) (Keeps.refl _ _ _) fun hle i x hx => by
      have hcn : ∀ i, s.nx ≤ i → i < n → (cx bs φ' s' w).φ i = φ2 i ∧ (cx bs φ' s' w).ψ i = φ2.ψ i ∧ (cx bs φ' s' w).al i ∧ (cx bs φ' s' w).h i = hl i hs := fun i hi hi' =>
        ⟨p2 i hi, p4 i hi, (alx i).2 (Or.inr (Or.inl ⟨hi, hi'⟩)), q2 i hi hi'⟩
      by_cases ei : i = id
      · subst ei
        rw [q0] at hx
        cases hx
        refine ⟨b, off, cs, e, (p1 i hidx).trans h1, h2, h3, ?_, ?_, hj, o.len, rc, r1, ol (cx bs φ' s' w) rfl hcn⟩
        · show ¬ φ'.ψ i b
          rw [pid]
          rintro ⟨k, _, hg⟩
          exact h4 (g1 k b hg)
        · show ROs w t b off xs (φ'.ψ i) (some j)
          rw [pid]
          refine ⟨fun k x => k ≠ j ∧ G k x, fun k x h => ⟨k, h⟩, fun i i' x h h' => g2 i i' x h.2 h'.2, fun k hk hne => ?_⟩
          obtain ⟨rc', r1', r2'⟩ := g3 k hk (by simp)
          exact ⟨rc', r1', r2'.mono fun x hx => ⟨fun e => hne (by rw [e]), hx⟩⟩
      · rcases range i (by rw [hx]; simp) with h | ⟨h, h'⟩
        · have hx' := hx
          rw [q1 i ei (by omega)] at hx'
          exact BlkOK.le hle (al_of_hl hx') (p3 i h ei) (fun _ _ => rfl) (hM.h i x hx')
        · rw [q2 i h h'] at hx
          exact o.ok (cx bs φ' s' w) [] rfl hcn i x h h' hx
  obtain ⟨ds, d1, d2⟩ := hMo.df
  have sn : s'.n = s.n := by rw [hs']
  have st : s'.t = s.t := by rw [hs']
  have sd : s'.df = s.df := by rw [hs']
  exact ⟨_, ⟨m1, hMo.n.trans sn.symm, fun i => by rw [st]; exact R.le m2 (hMo.t i), ds, by rw [sd]; exact RL.le m2 d1, d2⟩⟩
end Go.Fw
namespace Go.Fw
open Go Go.RowKit

def orgB : Org → Org → Bool
  | .fr, .fr | .old, .old | .tmp, .tmp => true
  | _, _ => false

theorem orgB_eq {o p : Org} (h : orgB o p = true) : o = p := by cases o <;> cases p <;> first | rfl | cases h

/-- One more condition. -/
def ck (b : Bool) (K : Prop) : Prop :=
  match b with
  | true => K
  | false => False

theorem ck_iff (b : Bool) (K : Prop) : ck b K ↔ b = true ∧ K := by cases b <;> simp [ck]

def eqDGo {t u : Ty} (h : u = t) (xs : List (D t)) (ys : List (D u)) (K : Prop) : Prop :=
  Eq.rec (motive := fun t _ => List (D t) → Prop) (fun xs => xs = ys ∧ K) h xs

def eqD (t u : Ty) (xs : List (D t)) (ys : List (D u)) (K : Prop) : Prop :=
  match h : u.beq t with
  | true => eqDGo (Ty.eq_of_beq h) xs ys K
  | false => False

theorem eqD_sound {t u : Ty} {xs : List (D t)} {ys : List (D u)} {K : Prop} (h : eqD t u xs ys K) : (∃ e : u = t, xs = e ▸ ys) ∧ K := by
  unfold eqD at h
  split at h
  · rename_i hb
    have e := Ty.eq_of_beq hb
    subst e
    exact ⟨⟨rfl, h.1⟩, h.2⟩
  · exact h.elim

def eqV (u v : Value) (K : Prop) : Prop :=
  match u, v with
  | .int k a, .int l b => ck (ikEq k l) (a = b ∧ K)
  | .bool a, .bool b => a = b ∧ K
  | u, v => u = v ∧ K

theorem eqV_sound {u v : Value} {K : Prop} (h : eqV u v K) : u = v ∧ K := by
  unfold eqV at h
  split at h
  · rw [ck_iff] at h
    obtain ⟨h1, h2, h3⟩ := h
    exact ⟨by rw [ikEq_eq h1, h2], h3⟩
  · exact ⟨by rw [h.1], h.2⟩
  · exact h

mutual
def eqA : AV → AV → Prop → Prop
  | .dat o t xs, .dat p u ys, K => ck (orgB o p) (eqD t u xs ys K)
  | .av o t xs, .av p u ys, K => ck (orgB o p) (eqD t u xs ys K)
  | .val u, .val v, K => eqV u v K
  | .un k a, .un l b, K => ck (ikEq k l) (a = b ∧ K)
  | .ptr i a, .ptr j b, K => ck (Nat.beq i j) (ck (Nat.beq a b) K)
  | .pa i a c, .pa j b d, K => ck (Nat.beq i j) (ck (Nat.beq c d) (a = b ∧ K))
  | .own i, .own j, K => ck (Nat.beq i j) K
  | .sl i a c, .sl j b d, K => ck (Nat.beq i j) (a = b ∧ c = d ∧ K)
  | .agg a, .agg b, K => eqAs a b K
  | .tup a, .tup b, K => eqAs a b K
  | .ip o a k, .ip p b l, K => ck (orgB o p) (ck (Nat.beq k l) (eqAs a b K))
  | .ifc t x, .ifc u y, K => ck (Nat.beq t u) (eqA x y K)
  | .clo (.func f) a b, .clo (.func g) c d, K => ck (Nat.beq f g) (eqAs a c (eqAs b d K))
  | x, y, K => x = y ∧ K
def eqAs : List AV → List AV → Prop → Prop
  | [], [], K => K
  | x :: l, y :: m, K => eqA x y (eqAs l m K)
  | _, _, _ => False
end

mutual
theorem eqA_sound : ∀ {x y : AV} {K : Prop}, eqA x y K → x = y ∧ K := fun {x y K} h => by
  unfold eqA at h
  split at h
  · rw [ck_iff] at h
    obtain ⟨h1, h2⟩ := h
    obtain ⟨⟨e, h2⟩, h3⟩ := eqD_sound h2
    subst e
    exact ⟨by rw [orgB_eq h1, h2], h3⟩
  · rw [ck_iff] at h
    obtain ⟨h1, h2⟩ := h
    obtain ⟨⟨e, h2⟩, h3⟩ := eqD_sound h2
    subst e
    exact ⟨by rw [orgB_eq h1, h2], h3⟩
  · obtain ⟨h1, h2⟩ := eqV_sound h
    exact ⟨by rw [h1], h2⟩
  · rw [ck_iff] at h
    obtain ⟨h1, h2, h3⟩ := h
    exact ⟨by rw [ikEq_eq h1, h2], h3⟩
  · rw [ck_iff, ck_iff] at h
    obtain ⟨h1, h2, h3⟩ := h
    exact ⟨by rw [Nat.eq_of_beq_eq_true h1, Nat.eq_of_beq_eq_true h2], h3⟩
  · rw [ck_iff, ck_iff] at h
    obtain ⟨h1, h2, h3, h4⟩ := h
    exact ⟨by rw [Nat.eq_of_beq_eq_true h1, Nat.eq_of_beq_eq_true h2, h3], h4⟩
  · rw [ck_iff] at h
    exact ⟨by rw [Nat.eq_of_beq_eq_true h.1], h.2⟩
  · rw [ck_iff] at h
    obtain ⟨h1, h2, h3, h4⟩ := h
    exact ⟨by rw [Nat.eq_of_beq_eq_true h1, h2, h3], h4⟩
  · obtain ⟨h1, h2⟩ := eqAs_sound h
    exact ⟨by rw [h1], h2⟩
  · obtain ⟨h1, h2⟩ := eqAs_sound h
    exact ⟨by rw [h1], h2⟩
  · rw [ck_iff, ck_iff] at h
    obtain ⟨h1, h2, h3⟩ := h
    obtain ⟨h4, h5⟩ := eqAs_sound h3
    exact ⟨by rw [orgB_eq h1, Nat.eq_of_beq_eq_true h2, h4], h5⟩
  · rw [ck_iff] at h
    obtain ⟨h1, h2⟩ := h
    obtain ⟨h3, h4⟩ := eqA_sound h2
    exact ⟨by rw [Nat.eq_of_beq_eq_true h1, h3], h4⟩
  · rw [ck_iff] at h
    obtain ⟨h1, h2⟩ := h
    obtain ⟨h3, h4⟩ := eqAs_sound h2
    obtain ⟨h5, h6⟩ := eqAs_sound h4
    exact ⟨by rw [Nat.eq_of_beq_eq_true h1, h3, h5], h6⟩
  · exact h
theorem eqAs_sound : ∀ {l m : List AV} {K : Prop}, eqAs l m K → l = m ∧ K := fun {l m K} h => by
  unfold eqAs at h
  split at h
  · exact ⟨rfl, h⟩
  · obtain ⟨h1, h2⟩ := eqA_sound h
    obtain ⟨h3, h4⟩ := eqAs_sound h2
    exact ⟨by rw [h1, h3], h4⟩
  · exact h.elim
end

def eqB : Option Blk → Option Blk → Prop → Prop
  | none, none, K => K
  | some (.cells l), some (.cells m), K => eqAs l m K
  | some (.arr o t xs), some (.arr p u ys), K => ck (orgB o p) (eqD t u xs ys K)
  | some (.deep t xs), some (.deep u ys), K => eqD t u xs ys K
  | _, _, _ => False

theorem eqB_sound {a b : Option Blk} {K : Prop} (h : eqB a b K) : a = b ∧ K := by
  unfold eqB at h
  split at h
  · exact ⟨rfl, h⟩
  · obtain ⟨h1, h2⟩ := eqAs_sound h
    exact ⟨by rw [h1], h2⟩
  · rw [ck_iff] at h
    obtain ⟨h1, h2⟩ := h
    obtain ⟨⟨e, h2⟩, h3⟩ := eqD_sound h2
    subst e
    exact ⟨by rw [orgB_eq h1, h2], h3⟩
  · obtain ⟨⟨e, h2⟩, h3⟩ := eqD_sound h
    subst e
    exact ⟨by rw [h2], h3⟩
  · exact h.elim

def eqT : List (Nat × AV) → List (Nat × AV) → Prop → Prop
  | [], [], K => K
  | (i, x) :: l, (j, y) :: m, K => ck (Nat.beq i j) (eqA x y (eqT l m K))
  | _, _, _ => False

theorem eqT_sound : ∀ {l m : List (Nat × AV)} {K : Prop}, eqT l m K → l = m ∧ K
  | [], [], _, h => ⟨rfl, h⟩
  | (i, x) :: l, (j, y) :: m, K, h => by
    simp only [eqT, ck_iff] at h
    obtain ⟨h1, h2⟩ := h
    obtain ⟨h3, h4⟩ := eqA_sound h2
    obtain ⟨h5, h6⟩ := eqT_sound h4
    exact ⟨by rw [Nat.eq_of_beq_eq_true h1, h3, h5], h6⟩
  | [], _ :: _, _, h => by simp [eqT] at h
  | _ :: _, [], _, h => by simp [eqT] at h

def eqH : List (Nat × Option Blk) → List (Nat × Option Blk) → Prop → Prop
  | [], [], K => K
  | (i, x) :: l, (j, y) :: m, K => ck (Nat.beq i j) (eqB x y (eqH l m K))
  | _, _, _ => False

theorem eqH_sound : ∀ {l m : List (Nat × Option Blk)} {K : Prop}, eqH l m K → l = m ∧ K
  | [], [], _, h => ⟨rfl, h⟩
  | (i, x) :: l, (j, y) :: m, K, h => by
    simp only [eqH, ck_iff] at h
    obtain ⟨h1, h2⟩ := h
    obtain ⟨h3, h4⟩ := eqB_sound h2
    obtain ⟨h5, h6⟩ := eqH_sound h4
    exact ⟨by rw [Nat.eq_of_beq_eq_true h1, h3, h5], h6⟩
  | [], _ :: _, _, h => by simp [eqH] at h
  | _ :: _, [], _, h => by simp [eqH] at h

def eqS (s s' : St) (K : Prop) : Prop :=
  ck (Nat.beq s.n s'.n) (ck (Nat.beq s.nx s'.nx) (ck (Nat.beq s.m s'.m) (eqAs s.df s'.df (eqT s.t s'.t (eqH s.h s'.h K)))))

theorem eqS_sound {s s' : St} {K : Prop} (h : eqS s s' K) : s = s' ∧ K := by
  simp only [eqS, ck_iff] at h
  obtain ⟨h1, h2, h3, h4⟩ := h
  obtain ⟨h5, h6⟩ := eqAs_sound h4
  obtain ⟨h7, h8⟩ := eqT_sound h6
  obtain ⟨h9, h10⟩ := eqH_sound h8
  cases s; cases s'
  simp only at *
  exact ⟨by rw [Nat.eq_of_beq_eq_true h1, Nat.eq_of_beq_eq_true h2, Nat.eq_of_beq_eq_true h3, h5, h7, h9], h10⟩

/-- The state is this one after some forgetting, once these equations hold. -/
def Keep (G slots : List Nat) (σ : List (Nat × List Nat)) (o : Org) (s s' : St) (K : Prop) : Prop :=
  match reb G slots σ o s with
  | some s2 => eqS s2 s' K
  | none => False

theorem Keep.ent {G slots : List Nat} {σ : List (Nat × List Nat)} {o : Org} {s s' : St} {K : Prop} (h : Keep G slots σ o s s' K) : Ent s s' ∧ K := by
  unfold Keep at h
  split at h
  · rename_i s2 hr
    obtain ⟨rfl, hk⟩ := eqS_sound h
    exact ⟨Ent.reb G slots σ o hr, hk⟩
  · exact h.elim

/-- An invariant: the state is 'S x', for some x of which 'Pre' holds; 'μ' falls. -/
def loopI {α : Type} (S : α → St) (μ : α → Nat) (Pre : α → Prop) : Nat → St → Prop := fun n s => ∃ x, n = μ x ∧ s = S x ∧ Pre x

theorem loopI.start {α : Type} {S : α → St} {μ : α → Nat} {Pre : α → Prop} (x : α) (G slots : List Nat) (σ : List (Nat × List Nat)) (o : Org) {s : St} (h : Keep G slots σ o s (S x) (Pre x)) :
    ∃ n s', Ent s s' ∧ loopI S μ Pre n s' := ⟨_, _, h.ent.1, x, rfl, rfl, h.ent.2⟩

theorem loopI.next {α : Type} {S : α → St} {μ : α → Nat} {Pre : α → Prop} (x : α) (G slots : List Nat) (σ : List (Nat × List Nat)) (o : Org) {s : St} {n : Nat} (h : Keep G slots σ o s (S x) (μ x < n ∧ Pre x)) :
    ∃ n' s'', n' < n ∧ Ent s s'' ∧ loopI S μ Pre n' s'' := ⟨_, _, h.ent.2.1, h.ent.1, x, rfl, rfl, h.ent.2.2⟩

/-- How a function ends, as equations. -/
def Ends (rs : List ResultVar) (m : Nat) (σ : List (Nat × List Nat)) (r : AV) (hs : List (Nat × Option Blk)) (s : St) : Prop :=
  match s.df with
  | [] => match ids s σ with
    | some σ => match resT s.t rs with
      | some l => match xfz (hl · s.h) (rng 0 m ++ σ) m 100 (resV l) with
        | some r' => match xfzH (hl · s.h) (rng 0 m ++ σ) m (rng 0 m ++ σ) 0 with
          | some hs' => ck (nodup (rng 0 m ++ σ) && Nat.ble (List.length σ) 16) (eqA r' r (eqH hs' hs True))
          | none => False
        | none => False
      | none => False
    | none => False
  | _ => False

theorem Ends.fin {rs : List ResultVar} {m : Nat} (σ : List (Nat × List Nat)) {r : AV} {hs : List (Nat × Option Blk)} {s : St} {e : Ex} (he : e = .normal ∨ e = .ret) (hm : s.m = m) (h : Ends rs m σ r hs s) : s.m = m ∧ Fin rs m r hs false e s := by
  unfold Ends at h
  split at h
  · rename_i hdf
    split at h
    · rename_i σ' _
      split at h
      · rename_i l hl'
        split at h
        · rename_i r' hr
          split at h
          · rename_i hs'' hh
            simp only [ck_iff, Bool.and_eq_true] at h
            obtain ⟨⟨h1, h2⟩, h3⟩ := h
            obtain ⟨h4, h5⟩ := eqA_sound h3
            obtain ⟨h6, _⟩ := eqH_sound h5
            exact ⟨hm, hdf, by rcases he with rfl | rfl <;> trivial, σ', l, r', hs'', hl', hr, hh, h1, h2, h4, h6⟩
          · exact h.elim
        · exact h.elim
      · exact h.elim
    · exact h.elim
  · exact h.elim

/-- How a function panics, as equations. -/
def EndsP (v : AV) (m : Nat) (σ : List (Nat × List Nat)) (r : AV) (hs : List (Nat × Option Blk)) (s : St) : Prop :=
  match s.df with
  | [] => match ids s σ with
    | some σ => match xfz (hl · s.h) (rng 0 m ++ σ) m 100 v with
        | some r' => match xfzH (hl · s.h) (rng 0 m ++ σ) m (rng 0 m ++ σ) 0 with
          | some hs' => ck (nodup (rng 0 m ++ σ) && Nat.ble (List.length σ) 16) (eqA r' r (eqH hs' hs True))
          | none => False
        | none => False
    | none => False
  | _ => False

theorem EndsP.fin {rs : List ResultVar} {m : Nat} (σ : List (Nat × List Nat)) {v r : AV} {hs : List (Nat × Option Blk)} {s : St} (hm : s.m = m) (h : EndsP v m σ r hs s) : s.m = m ∧ Fin rs m r hs true (.panic v) s := by
  unfold EndsP at h
  split at h
  · rename_i hdf
    split at h
    · rename_i σ' _
      split at h
      · rename_i r' hr
        split at h
        · rename_i hs'' hh
          simp only [ck_iff, Bool.and_eq_true] at h
          obtain ⟨⟨h1, h2⟩, h3⟩ := h
          obtain ⟨h4, h5⟩ := eqA_sound h3
          obtain ⟨h6, _⟩ := eqH_sound h5
          exact ⟨hm, hdf, v, σ', r', hs'', rfl, hr, hh, h1, h2, h4, h6⟩
        · exact h.elim
      · exact h.elim
    · exact h.elim
  · exact h.elim

/-- What is left to show where a function ends. -/
def endK (rs : List ResultVar) (m : Nat) (σ : List (Nat × List Nat)) (r : AV) (hs : List (Nat × Option Blk)) : Ex → St → Prop := fun e s => match e with
  | .normal => ck (Nat.beq s.m m) (Ends rs m σ r hs s)
  | .ret => ck (Nat.beq s.m m) (Ends rs m σ r hs s)
  | _ => False

def endKP (m : Nat) (σ : List (Nat × List Nat)) (r : AV) (hs : List (Nat × Option Blk)) : Ex → St → Prop := fun e s => match e with
  | .panic v => ck (Nat.beq s.m m) (EndsP v m σ r hs s)
  | _ => False

theorem xCode_mono {P : Program} {E : Env} : ∀ {c : Code} {s : St} {K K' : Ex → St → Prop}, (∀ e s, K e s → K' e s) → xCode P E c s K → xCode P E c s K'
  | .skip, s, K, K', h, hx => h _ _ hx
  | .label _, s, K, K', h, hx => h _ _ hx
  | .region _ ops draw, s0, K, K', h, hx => by
    obtain ⟨⟨n, t, h0, nx0, m, df⟩, hent, hx⟩ := hx
    refine ⟨⟨n, t, h0, nx0, m, df⟩, hent, ?_⟩
    have hops : ∀ {ops : List Oper} {n m : Nat} {l : List Oper} {id : Nat} {kn : List (Nat × Bool)} {tr : List Eff} {t : List (Nat × AV)} {h0 : List (Nat × Option Blk)} {Kx Kx' : Ex → List Eff → List (Nat × AV) → List (Nat × Option Blk) → Nat → Prop},
        (∀ e tr t h nx, Kx e tr t h nx → Kx' e tr t h nx) → xOps P E ops n m l id kn tr t h0 Kx → xOps P E ops n m l id kn tr t h0 Kx' := by
      intro ops n m l
      induction l with
      | nil => intro id kn tr t h0 Kx Kx' h hx; exact h _ _ _ _ _ hx
      | cons o l ih =>
        intro id kn tr t h0 Kx Kx' h hx
        have hg : ∀ {K1 K2 : Bool → List (Nat × Bool) → Prop}, (∀ b kn, K1 b kn → K2 b kn) → guardK ops t kn o.guard K1 → guardK ops t kn o.guard K2 := by
          intro K1 K2 hk hg
          unfold guardK at hg ⊢
          split at hg
          · exact hk _ _ hg
          · split at hg
            · exact hg.elim
            · split at hg
              · split at hg <;> exact hk _ _ hg
              · split at hg
                · split at hg <;> exact hk _ _ hg
                · split at hg <;> exact hk _ _ hg
                · split at hg <;> exact ⟨fun hb => hk _ _ (hg.1 hb), fun hb => hk _ _ (hg.2 hb)⟩
                · exact hk _ _ hg
                · exact hg.elim
        have hrun : ∀ {tr : Tr} {log : List Nat} {hp : Nat → Option Blk} {K1 K2 : Out → Prop}, (∀ o, K1 o → K2 o) → tr.run P hp id log K1 → tr.run P hp id log K2 := by
          intro tr
          induction tr with
          | ret v hs => intro log hp K1 K2 hk hr; exact hk _ hr
          | rd i k ihk => intro log hp K1 K2 hk hr; exact ihk _ hk hr
          | vc p k ihk => intro log hp K1 K2 hk hr; exact ⟨hr.1, ihk hk hr.2⟩
          | cs z n k ihk =>
            intro log hp K1 K2 hk hr
            exact ⟨hr.1, allB_mono (fun i hi hz => ihk i hk (hi hz)) hr.2⟩
          | call f args =>
            intro log hp K1 K2 hk hr
            cases hr with
            | fn ρ hf ha hb hn ho hkk hs k => exact .fn ρ hf ha hb hn ho hkk hs (hk _ k)
            | pn ρ hf ha hb hn ho hkk hs k => exact .pn ρ hf ha hb hn ho hkk hs (hk _ k)
          | panic v => intro log hp K1 K2 hk hr; exact hk _ hr
          | bad => intro log hp K1 K2 hk hr; exact hr.elim
        simp only [xOps] at hx ⊢
        refine hg (fun b kn hb => ?_) hx
        cases b with
        | false =>
          simp only [putK_iff, forceN_iff] at hb ⊢
          exact ih h hb
        | true =>
          refine hrun (fun out hout => ?_) hb
          cases out with
          | ok v hs rd =>
            simp only [force_iff, putK_iff, appK_iff, forceN_iff] at hout ⊢
            exact ih h hout
          | panic v hs rd =>
            simp only [appK_iff, forceN_iff] at hout ⊢
            exact h _ _ _ _ _ hout
    simp only [xRegion] at hx ⊢
    cases draw with
    | false =>
      dsimp only at hx ⊢
      split at hx
      · exact hops (fun e tr t h' nx hk => h _ _ hk) hx
      · refine hops (fun e tr t h' nx hk => ?_) hx
        cases e <;> dsimp only at hk ⊢
        · unfold dfrK at hk ⊢
          split at hk
          · exact h _ _ hk
          · exact hk.elim
        · exact h _ _ hk
        · exact h _ _ hk
        · exact h _ _ hk
    | true =>
      refine ⟨hx.1, hops (fun e tr t h' nx hk => ?_) hx.2⟩
      cases e <;> dsimp only at hk ⊢
      · split at hk
        · exact h _ _ hk
        · exact hk.elim
      · exact panicK_mono (fun _ _ _ hk => h _ _ hk) hk
  | .seq a b, s, K, K', h, hx => by
    simp only [xCode] at hx ⊢
    refine xCode_mono (fun e s hk => ?_) hx
    cases e with
    | normal => exact xCode_mono h hk
    | _ => exact h _ _ hk
  | .cond c a b, ⟨n, t, h0, nx0, m, df⟩, K, K', h, hx => by
    simp only [xCode] at hx ⊢
    split at hx
    · exact xCode_mono h hx
    · exact xCode_mono h hx
    · exact ⟨fun hb => xCode_mono h (hx.1 hb), fun hb => xCode_mono h (hx.2 hb)⟩
    · exact hx.elim
  | .block id c, s, K, K', h, hx => by
    simp only [xCode] at hx ⊢
    refine xCode_mono (fun e s hk => ?_) hx
    cases e with
    | exit i => dsimp only at hk ⊢; split at hk <;> exact h _ _ hk
    | _ => exact h _ _ hk
  | .loop c, s, K, K', h, hx => by
    simp only [xCode] at hx ⊢
    obtain ⟨I, h1, h2⟩ := hx
    refine ⟨I, h1, fun n s hi => xCode_mono (fun e s hk => ?_) (h2 n s hi)⟩
    cases e with
    | normal => exact hk
    | _ => exact h _ _ hk
  | .scope c, s, K, K', h, hx => by
    simp only [xCode] at hx ⊢
    exact xCode_mono h hx
  | .exit id, s, K, K', h, hx => h _ _ hx
  | .ret, s, K, K', h, hx => h _ _ hx
  | .rangeFunc .., s, K, K', h, hx => hx.elim
  | .goto _, s, K, K', h, hx => hx.elim
  | .refuse _, s, K, K', h, hx => hx.elim

/-- A contract, by walking the code: 'σ' says which new blocks are handed back. -/
theorem fn_intro {P : Program} {E : Env} (hE : EnvOK P E) (hmix : P.follows .mixedOrders = true) {f : FuncId} {fn : Func} {c : Code} (hf : P.funcs[f]? = some fn) (hb : fn.body = some c) (hn : (fn.name == "runtime.NumGoroutine") = false)
    (σ : List (Nat × List Nat)) {args : List AV} {hin : List Blk} {r : AV} {hs : List (Nat × Option Blk)} (ha : Nat.ble args.length fn.ntmps = true) (h : xCode P E c (initS fn.ntmps args hin) (endK fn.results.toList hin.length σ r hs)) : Fw.Fn P f args hin r hs :=
  fn_of_code hE hmix hf hb hn (Nat.le_of_ble_eq_true ha) (xCode_mono (fun e s hk => by
    cases e with
    | normal => simp only [endK, ck_iff] at hk; exact Ends.fin σ (Or.inl rfl) (Nat.eq_of_beq_eq_true hk.1) hk.2
    | ret => simp only [endK, ck_iff] at hk; exact Ends.fin σ (Or.inr rfl) (Nat.eq_of_beq_eq_true hk.1) hk.2
    | exit i => exact hk.elim
    | panic v => exact hk.elim) h)

theorem fnP_intro {P : Program} {E : Env} (hE : EnvOK P E) (hmix : P.follows .mixedOrders = true) {f : FuncId} {fn : Func} {c : Code} (hf : P.funcs[f]? = some fn) (hb : fn.body = some c) (hn : (fn.name == "runtime.NumGoroutine") = false)
    (σ : List (Nat × List Nat)) {args : List AV} {hin : List Blk} {r : AV} {hs : List (Nat × Option Blk)} (ha : Nat.ble args.length fn.ntmps = true) (h : xCode P E c (initS fn.ntmps args hin) (endKP hin.length σ r hs)) : Fw.FnP P f args hin r hs :=
  fnP_of_code hE hmix hf hb hn (Nat.le_of_ble_eq_true ha) (xCode_mono (fun e s hk => by
    cases e with
    | panic v => simp only [endKP, ck_iff] at hk; exact EndsP.fin σ (Nat.eq_of_beq_eq_true hk.1) hk.2
    | _ => exact hk.elim) h)

/-- A condition that is not taken apart. -/
structure Ok (p : Prop) : Prop where
  h : p
theorem decT {p : Prop} {i : Decidable p} : (@decide p i = true) = p := by simp
theorem decF {p : Prop} {i : Decidable p} : (@decide p i = false) = ¬ p := by simp
theorem dz_i64 : dz (.i .i64) = (0 : Int) := rfl
theorem dz_u64 : dz (.i .u64) = (0 : Nat) := rfl
theorem dz_u8 : dz (.i .u8) = (0 : Nat) := rfl
theorem dz_b : dz .b = false := rfl
theorem dz_sl (t : Ty) : dz (.sl t) = [] := rfl
theorem dz_pr (x y : Ty) : dz (.pr x y) = (dz x, dz y) := rfl
end Go.Fw
