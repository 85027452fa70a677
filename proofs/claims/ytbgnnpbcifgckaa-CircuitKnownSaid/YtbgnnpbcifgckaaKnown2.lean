/- Helpers of Known, part 2: the executor and contracts of functions. No statement of the seat is proved here, under no condition. -/
import Derived.Test.YtbgnnpbcifgckaaKnown1
import Derived.Laws.MakeOwn
import Derived.Deep.AppendSrc
import Derived.Laws.Slices
import Derived.Laws.Build
set_option linter.all false
namespace Go.Fw
open Go Go.RowKit

theorem fold_set : ∀ (vs : List Value) (j off : Nat) (cs : Array Value), off + j + vs.length ≤ cs.size →
    ((vs.zipIdx j).foldl (fun (cs : Array Value) (p : Value × Nat) => cs.setIfInBounds (off + p.2) p.1) cs).toList = cs.toList.take (off + j) ++ vs ++ cs.toList.drop (off + j + vs.length)
  | [], j, off, cs, _ => by simp
  | v :: vs, j, off, cs, h => by
    simp only [List.zipIdx_cons, List.foldl_cons]
    have h' : off + (j + 1) + vs.length ≤ (cs.setIfInBounds (off + j) v).size := by simp at h ⊢; omega
    rw [fold_set vs (j + 1) off _ h']
    have hlt : off + j < cs.toList.length := by simp at h ⊢; omega
    rw [Array.toList_setIfInBounds]
    apply List.ext_getElem?
    intro q
    have e1 := splice_get (cs.toList.set (off + j) v) vs (off + (j + 1)) q (by simp at h ⊢; omega)
    have e2 := splice_get cs.toList (v :: vs) (off + j) q (by simp at h ⊢; omega)
    rw [e1, e2, List.getElem?_set]
    have hL : (v :: vs).length = vs.length + 1 := rfl
    rw [hL]
    by_cases c1 : q < off + j
    · rw [if_pos (by omega), if_pos c1, if_neg (by omega)]
    · rw [if_neg c1]
      by_cases c2 : q = off + j
      · subst c2
        rw [if_pos (by omega), if_pos rfl, if_pos hlt, if_pos (by omega), Nat.sub_self]
        rfl
      · rw [if_neg (by omega)]
        by_cases c3 : q < off + (j + 1) + vs.length
        · rw [if_pos c3, if_pos (by omega), show q - (off + j) = (q - (off + (j + 1))) + 1 by omega, List.getElem?_cons_succ]
        · rw [if_neg c3, if_neg (by omega), if_neg (by omega)]

theorem fold_set_arr (vs : Array Value) (off : Nat) (cs : Array Value) (h : off + vs.size ≤ cs.size) :
    (vs.zipIdx.foldl (fun (cs : Array Value) (p : Value × Nat) => cs.setIfInBounds (off + p.2) p.1) cs).toList = cs.toList.take off ++ vs.toList ++ cs.toList.drop (off + vs.size) := by
  have := fold_set vs.toList 0 off cs (by simpa using h)
  simp only [Nat.add_zero, Array.length_toList] at this
  rw [← this, ← Array.foldl_toList]
  simp

/-- Filling a row of places, one behind the other. -/
theorem fill_dense (size n : Nat) : ∀ (ps : List (Nat × Value)) (i : Nat) (cells : Array Value), (∀ q (h : q < ps.length), ps[q].1 = i + q) → i + ps.length = n → (∀ p ∈ ps, p.2.cells.size = size) → cells.size = n * size →
    ∃ r, Instr.fill (fun i => some (i * size, size)) cells ps = some r ∧ r.toList = cells.toList.take (i * size) ++ ps.flatMap (·.2.cells.toList)
  | [], i, cells, _, hn, _, hs => ⟨cells, rfl, by
    simp only [List.length_nil, Nat.add_zero] at hn
    subst hn
    rw [List.take_of_length_le (by simp [hs])]; simp⟩
  | (j, v) :: ps, i, cells, hi, hn, hv, hs => by
    have hj : j = i := hi 0 (Nat.succ_pos _)
    subst hj
    have hvs : v.cells.size = size := hv (j, v) (by simp)
    have hle : j * size + v.cells.size ≤ cells.size := by
      have : (j + 1) * size ≤ n * size := Nat.mul_le_mul_right _ (by simp at hn; omega)
      rw [Nat.add_mul] at this; omega
    have hf := fold_set_arr v.cells (j * size) cells hle
    have hsz : (v.cells.zipIdx.foldl (fun (cs : Array Value) (p : Value × Nat) => cs.setIfInBounds (j * size + p.2) p.1) cells).size = n * size := by
      rw [← Array.length_toList, hf]
      simp; omega
    obtain ⟨r, r1, r2⟩ := fill_dense size n ps (j + 1) _ (fun q hq => by have := hi (q + 1) (by simpa using hq); simp at this; omega) (by simp at hn; omega) (fun p hp => hv p (by simp [hp])) hsz
    refine ⟨r, ?_, ?_⟩
    · simp only [Instr.fill]
      rw [if_neg (by simp [hvs] at hle ⊢; omega)]
      exact r1
    · rw [r2, hf]
      simp only [List.flatMap_cons]
      rw [List.take_append_of_le_length (by simp [hvs, Nat.add_mul] at hle ⊢; omega), List.take_of_length_le (by simp [hvs, Nat.add_mul] at hle ⊢; omega), List.append_assoc]

theorem dense_spec : ∀ {ps : List (Nat × Operand)} {i n : Nat}, dense ps i n = true → (∀ q (h : q < ps.length), ps[q].1 = i + q) ∧ i + ps.length = n
  | [], i, n, h => ⟨fun q hq => absurd hq (Nat.not_lt_zero _), by simpa using Nat.eq_of_beq_eq_true h⟩
  | (j, x) :: ps, i, n, h => by
    simp only [dense] at h
    split at h
    · rename_i hj
      have hj := Nat.eq_of_beq_eq_true hj
      obtain ⟨h1, h2⟩ := dense_spec h
      refine ⟨fun q hq => ?_, by simp; omega⟩
      cases q with
      | zero => simpa using hj
      | succ q => have := h1 q (by simpa using hq); simp; omega
    · cases h

theorem allLen_spec {c : Cx} {n : Nat} : ∀ {l : List AV} {vs : List Value}, RL c l vs → allLen n l = true → (∀ v ∈ vs, v.cells.size = n) ∧ RL c (catCells l) (vs.flatMap (·.cells.toList)) ∧ ∀ x ∈ vs.flatMap (·.cells.toList), x.oneCell' = true
  | [], _, .nil, _ => ⟨by simp, .nil, by simp⟩
  | x :: l, _, .cons hx hl, h => by
    simp only [allLen] at h
    split at h
    · rename_i hn
      split at h
      · rename_i h1
        obtain ⟨a1, a2⟩ := hx.cells1 h1
        obtain ⟨b1, b2, b3⟩ := allLen_spec hl h
        have hn := Nat.eq_of_beq_eq_true hn
        refine ⟨fun v hv => ?_, ?_, fun u hu => ?_⟩
        · rcases List.mem_cons.1 hv with rfl | hv
          · rw [← hn, a1.length]; simp
          · exact b1 v hv
        · simp only [catCells, List.flatMap_cons]
          exact a1.append b2
        · simp only [List.flatMap_cons] at hu
          rcases List.mem_append.1 hu with hu | hu
          · exact a2 u hu
          · exact b3 u hu
      · cases h
    · cases h

theorem alloc_new (w : World) (ob : Obj) : (w.alloc ob).heap[w.heap.size]? = some ob := by
  show (w.heap.push ob)[w.heap.size]? = _
  simp

section
variable {P : Program} {E : Env} {bs : Bs} {φ : Ph} {s : St} {w : World} {id : Nat} {log : List Nat} {o : Out}

theorem toDs_sound (hM : HM bs φ s w) {n : Nat} (t : Ty) : ∀ {l : List AV} {vs : List Value} {k : List (D t) → Org → List Nat → Tr} {log : List Nat}, RL (cx bs φ s w) l vs → allLen n l = true → To P (hl · s.h) id (toDs s.m t l k) log o →
    ∃ ds org ids log', To P (hl · s.h) id (k ds org ids) log' o ∧ ∃ hn : vs.length = ds.length, (∀ i ∈ ids, s.al i) ∧
      ∀ ids', (∀ i ∈ ids', s.al i) → (∀ i ∈ ids, i ∈ ids') → ∀ j (hj : j < ds.length), RD w ((cx bs φ (s.kills ids') w).ok org) t ds[j] (vs[j]'(hn ▸ hj)).cells.toList
  | [], _, _, _, .nil, _, h => ⟨[], .fr, [], _, h, rfl, by simp, fun _ _ _ j hj => absurd hj (Nat.not_lt_zero _)⟩
  | x :: l, _, k, log, .cons hx hl, ha, h => by
    simp only [allLen] at ha
    split at ha
    · split at ha
      · rename_i h1
        obtain ⟨a1, a2⟩ := hx.cells1 h1
        obtain ⟨d, org, ids, rest, log', v1, v2, t1, t2, t3, t4, t5⟩ := toD_sound hM t a1 h
        split at t1
        · cases t3
          rw [List.append_nil] at t2
          subst t2
          obtain ⟨ds, org', ids', log'', u1, hn, u2, u3⟩ := toDs_sound hM t hl ha t1
          refine ⟨_, _, _, log'', u1, by simp [hn], fun i hi => ?_, fun ids2 q1 q2 j hj => ?_⟩
          · rcases List.mem_append.1 hi with hi | hi
            · exact t4 i hi
            · exact u2 i hi
          · cases j with
            | zero => exact (t5 ids2 q1 fun i hi => q2 i (by simp [hi])).join1 _
            | succ j => exact (u3 ids2 q1 (fun i hi => q2 i (by simp [hi])) j (by simpa using hj)).join2 _
        · exact (To.bad_inv t1).elim
      · cases ha
    · cases ha

theorem toOs_sound (hM : HM bs φ s w) {n : Nat} (t : Ty) : ∀ {l : List AV} {vs : List Value} {k : List (D t) → List Nat → Tr} {log : List Nat}, RL (cx bs φ s w) l vs → allLen n l = true → To P (hl · s.h) id (toOs s.m t l k) log o →
    ∃ ds ids log', To P (hl · s.h) id (k ds ids) log' o ∧ ∃ hn : vs.length = ds.length, (∀ i ∈ ids, s.m ≤ i ∧ hl i s.h ≠ none) ∧
      (nodup ids = true → ∃ G : Nat → Nat → Prop, (∀ j x, G j x → ownF φ ids x) ∧ (∀ i j x, G i x → G j x → i = j) ∧ ∀ j (hj : j < ds.length), RO w t ds[j] (vs[j]'(hn ▸ hj)).cells.toList (G j))
  | [], _, _, _, .nil, _, h => ⟨[], [], _, h, rfl, by simp, fun _ => ⟨fun _ _ => False, fun _ _ h => h.elim, fun _ _ _ h => h.elim, fun j hj => absurd hj (Nat.not_lt_zero _)⟩⟩
  | x :: l, _, k, log, .cons hx hl, ha, h => by
    simp only [allLen] at ha
    split at ha
    · split at ha
      · rename_i h1
        obtain ⟨a1, a2⟩ := hx.cells1 h1
        obtain ⟨d, ids, rest, log', v1, v2, t1, t2, t3, t4, t5⟩ := toO_sound hM t a1 h
        split at t1
        · cases t3
          rw [List.append_nil] at t2
          subst t2
          obtain ⟨ds, ids', log'', u1, hn, u2, u3⟩ := toOs_sound hM t hl ha t1
          refine ⟨_, _, log'', u1, by simp [hn], fun i hi => ?_, fun hnd => ?_⟩
          · rcases List.mem_append.1 hi with hi | hi
            · exact t4 i hi
            · exact u2 i hi
          · obtain ⟨n1, n2, n3⟩ := nodup_append hnd
            obtain ⟨G, g1, g2, g3⟩ := u3 n2
            refine ⟨fun j x => match j with
              | 0 => ownF φ ids x
              | j + 1 => G j x, fun j x hx => ?_, fun i j x hi hj => ?_, fun j hj => ?_⟩
            · cases j with
              | zero => obtain ⟨i, hi, hx⟩ := hx; exact ⟨i, by simp [hi], hx⟩
              | succ j => obtain ⟨i, hi, hx⟩ := g1 j x hx; exact ⟨i, by simp [hi], hx⟩
            · have cross : ∀ j, ownF φ ids x → G j x → False := by
                rintro j ⟨a, ha, hx⟩ hg
                obtain ⟨b, hb, hy⟩ := g1 j x hg
                have := hM.inj a b x (t4 a ha).2 (u2 b hb).2 hx hy
                exact n3 a ha (this ▸ hb)
              cases i with
              | zero => cases j with
                | zero => rfl
                | succ j => exact (cross j hi hj).elim
              | succ i => cases j with
                | zero => exact (cross i hj hi).elim
                | succ j => rw [g2 i j x hi hj]
            · cases j with
              | zero => exact t5 n1
              | succ j => exact g3 j (by simpa using hj)
        · exact (To.bad_inv t1).elim
      · cases ha
    · cases ha

theorem alloc_cells (hM : HM bs φ s w) {id : Nat} (hn : ¬ s.al id) (hid : id < s.nx) {l : List AV} {cs : Array Value} (e : TypeId) (hl : RL (cx bs φ s w) l cs.toList) :
    Res bs φ s w [(id, some (.cells l))] (.ptr id 0) (.pointer (some ⟨w.heap.size, 0, none⟩)) (w.alloc (.cells cs e)) := by
  obtain ⟨h1, h2⟩ := hM.alloc id hn hid (.cells cs e) (.cells l) fun hle => ⟨w.heap.size, cs, e, if_pos rfl, alloc_new w _, RL.le hle hl⟩
  exact ⟨_, h1, h2, .ptr (b := w.heap.size) (off := 0) (al_cons.2 (Or.inl rfl)) (if_pos rfl)⟩

theorem alloc_arr (hM : HM bs φ s w) {id : Nat} (hn : ¬ s.al id) (hid : id < s.nx) {o' : Org} {t : Ty} {xs : List (D t)} {cs : Array Value} (e : TypeId) (hs : xs.length * sz t ≤ cs.size) {css : List (List Value)} (h2 : css.length = xs.length)
    (h3 : ∀ j (h : j < xs.length), RD w ((cx bs φ s w).ok o') t xs[j] (css[j]'(h2 ▸ h))) (hc : ∀ i, i < css.flatten.length → cs[i]? = css.flatten[i]?) {u : AV} {v : Value}
    (hr : ∀ c : Cx, c.al id → c.φ id = some (w.heap.size, 0) → c.h id = some (.arr o' t xs) → c.w.heap[w.heap.size]? = some (.cells cs e (0, 0)) → R c u v) :
    Res bs φ s w [(id, some (.arr o' t xs))] u v (w.alloc (.cells cs e)) := by
  have hnew : (w.alloc (.cells cs e)).heap[w.heap.size]? = some (.cells cs e (0, 0)) := alloc_new w _
  obtain ⟨h1, h2'⟩ := hM.alloc id hn hid (.cells cs e) (.arr o' t xs) fun hle => Or.inl ⟨w.heap.size, 0, cs, e, if_pos rfl, hnew, by simpa using hs,
    RDs.of_flat hnew h2 (fun j hj => RDs.le hle (h3 j hj)) fun i hi => by simpa using hc i hi⟩
  exact ⟨_, h1, h2', hr _ (al_cons.2 (Or.inl rfl)) (if_pos rfl) (by simp [cx, St.push, hl]) hnew⟩

/-- From one state to another, whatever it is: what is to be shown. -/
theorem HM.shift (h : HM bs φ s w) {s' : St} {φ' : Ph} {w' : World} (hal : ∀ i, s.al i → s'.al i) (hnx : ∀ i, s'.al i → i < s'.nx) (hm : s'.m = s.m) (hφ : ∀ i, s.al i → φ' i = φ i)
    (hshp : ∀ i, s.al i → ∀ t n, shp (hl i s'.h) = some (t, n) → shp (hl i s.h) = some (t, n)) (hliv : ∀ i, s.al i → hl i s'.h ≠ none → hl i s.h ≠ none)
    (hcap : ∀ i, s.al i → hl i s'.h ≠ none → ∀ b off, φ i = some (b, off) → ∀ cs e fz, w.heap[b]? = some (.cells cs e fz) → ∃ cs' e' fz', w'.heap[b]? = some (.cells cs' e' fz') ∧ cs'.size = cs.size)
    (how : ∀ i b, hl i s'.h ≠ none → φ'.own i b → (∃ j, hl j s.h ≠ none ∧ φ.own j b) ∨ (w.heap.size ≤ b ∧ b < w'.heap.size))
    (hinj : ∀ i j b, hl i s'.h ≠ none → hl j s'.h ≠ none → φ'.own i b → φ'.own j b → i = j) (hlo : ∀ i b, hl i s'.h ≠ none → φ'.own i b → bs.B ≤ b ∨ (i < s.m ∧ bs.Y i b))
    (hsz : w.heap.size ≤ w'.heap.size) (hmem : ∀ b, b < w.heap.size → ¬ (cx bs φ s w).live b → w'.heap[b]? = w.heap[b]?) (hkp : Keeps bs.X bs.B w w')
    (hB : (cx bs φ s w).Le (cx bs φ' s' w') → ∀ i b, hl i s'.h = some b → BlkOK (cx bs φ' s' w') i b) : HM bs φ' s' w' ∧ (cx bs φ s w).Le (cx bs φ' s' w') := by
  have hle : (cx bs φ s w).Le (cx bs φ' s' w') := by
    refine ⟨hal, hsz, hφ, hshp, hliv, hcap, fun o b hb hk => ⟨⟨?_, hk.2⟩, hmem b hb hk.1⟩⟩
    rintro ⟨i, hi, hp⟩
    rcases how i b hi hp with ⟨j, hj, hq⟩ | ⟨hge, _⟩
    · exact hk.1 ⟨j, hj, hq⟩
    · have hb : b < w.heap.size := hb
      omega
  refine ⟨⟨hnx, hB hle, hinj, fun i b hi hp => by rw [hm]; exact hlo i b hi hp, fun i b hi hp => ?_, Nat.le_trans h.bd hsz, h.kp.trans hkp, fun i hi => ⟨hal i (h.inc i (hm ▸ hi)).1, (hφ i (h.inc i (hm ▸ hi)).1).trans (h.inc i (hm ▸ hi)).2⟩⟩, hle⟩
  rcases how i b hi (Or.inr hp) with ⟨j, hj, hq⟩ | ⟨_, hlt⟩
  · exact Nat.lt_of_lt_of_le (h.lt hj hq) hsz
  · exact hlt

/-- A block whose possessions belonged to blocks that die, or are new. -/
theorem HM.take (h : HM bs φ s w) {id : Nat} (hn : ¬ s.al id) (hid : id < s.nx) {ids : List Nat} (hids : ∀ i ∈ ids, s.m ≤ i ∧ hl i s.h ≠ none) (p : Option (Nat × Nat)) (F : Nat → Prop) (b : Blk) {w' : World}
    (hF : ∀ x, ((∃ off, p = some (x, off)) ∨ F x) → ownF φ ids x ∨ (w.heap.size ≤ x ∧ x < w'.heap.size)) (hsz : w.heap.size ≤ w'.heap.size)
    (hoth : ∀ k, k < w.heap.size → ¬ ownF φ ids k → w'.heap[k]? = w.heap[k]?) (hos : w'.os = w.os ∧ w'.tape = w.tape ∧ w'.output = w.output)
    (hok : (cx bs φ s w).Le (cx bs (φ.put id p F) { s with h := (id, some b) :: Fw.kills ids s.h } w') → BlkOK (cx bs (φ.put id p F) { s with h := (id, some b) :: Fw.kills ids s.h } w') id b) :
    HM bs (φ.put id p F) { s with h := (id, some b) :: Fw.kills ids s.h } w' ∧ (cx bs φ s w).Le (cx bs (φ.put id p F) { s with h := (id, some b) :: Fw.kills ids s.h } w') := by
  have hal : ∀ i ∈ ids, s.al i := fun i hi => h.al_of (hids i hi).2
  have hne : ∀ i, s.al i → i ≠ id := fun i hi e => hn (e ▸ hi)
  have hal' : ∀ i, St.al { s with h := (id, some b) :: Fw.kills ids s.h } i ↔ i = id ∨ s.al i := fun i =>
    (al_cons (s := s.kills ids) (i := id) (x := some b)).trans (or_congr Iff.rfl (al_kills hal))
  have hlk : ∀ i, hl i ((id, some b) :: Fw.kills ids s.h) = if id = i then some b else if i ∈ ids then none else hl i s.h := fun i => by rw [hl_cons, hl_kills]
  have hlv : ∀ i, i ≠ id → hl i ((id, some b) :: Fw.kills ids s.h) ≠ none → i ∉ ids ∧ hl i s.h ≠ none := by
    intro i hi hx
    rw [hlk, if_neg fun e => hi e.symm] at hx
    by_cases e : i ∈ ids
    · rw [if_pos e] at hx; exact absurd rfl hx
    · rw [if_neg e] at hx; exact ⟨e, hx⟩
  have hold : ∀ i x, i ∉ ids → hl i s.h ≠ none → φ.own i x → ¬ ownF φ ids x := by
    rintro i x hi hx hp ⟨j, hj, hq⟩
    exact hi (h.inj i j x hx (hids j hj).2 hp hq ▸ hj)
  have hBo : ∀ x, ownF φ ids x → bs.B ≤ x := by
    rintro x ⟨j, hj, hq⟩
    rcases h.lo j x (hids j hj).2 hq with h1 | ⟨h1, _⟩
    · exact h1
    · have := (hids j hj).1; omega
  have hsame : ∀ i x, i ≠ id → hl i ((id, some b) :: Fw.kills ids s.h) ≠ none → φ.own i x → w'.heap[x]? = w.heap[x]? := by
    intro i x hi hx hp
    obtain ⟨h1, h2⟩ := hlv i hi hx
    exact hoth x (h.lt h2 hp) (hold i x h1 h2 hp)
  refine h.shift (fun i hi => (hal' i).2 (Or.inr hi)) (fun i hi => ?_) rfl (fun i hi => if_neg (hne i hi)) (fun i hi t n hx => ?_) (fun i hi hx => (hlv i (hne i hi) hx).2) (fun i hi hx b2 off hp cs e fz hc => ?_) (fun i x hi hp => ?_) (fun i j x hi hj hp hq => ?_) (fun i x hi hp => ?_) hsz (fun x hx hnl => hoth x hx ?_) ⟨hos.1, hos.2.1, hos.2.2, hsz, fun k hk _ => hoth k (by have := h.bd; omega) fun e => by have := hBo k e; omega, fun k hk cs e fz hc => ⟨cs, e, fz, (hoth k (by have := h.bd; omega) fun e => by have := hBo k e; omega).trans hc, rfl⟩⟩ (fun hle i x hx => ?_)
  · rcases (hal' i).1 hi with rfl | hi
    · exact hid
    · exact h.kb i hi
  · have hx : shp (hl i ((id, some b) :: Fw.kills ids s.h)) = _ := hx
    rw [hlk, if_neg fun e => hne i hi e.symm] at hx
    by_cases e : i ∈ ids
    · rw [if_pos e] at hx; cases hx
    · rw [if_neg e] at hx; exact hx
  · exact ⟨cs, e, fz, (hsame i b2 (hne i hi) hx (Or.inl ⟨off, hp⟩)).trans hc, rfl⟩
  · by_cases e : i = id
    · subst e
      rcases hF x (Ph.own_same.1 hp) with ⟨j, hj, hq⟩ | hx
      · exact Or.inl ⟨j, (hids j hj).2, hq⟩
      · exact Or.inr hx
    · exact Or.inl ⟨i, (hlv i e hi).2, (Ph.own_other e).1 hp⟩
  · have key : ∀ i, i ≠ id → hl i ((id, some b) :: Fw.kills ids s.h) ≠ none → φ.own i x → ¬ ((∃ off, p = some (x, off)) ∨ F x) := by
      intro i hi hx hp hq
      obtain ⟨h1, h2⟩ := hlv i hi hx
      rcases hF x hq with hf | ⟨hge, _⟩
      · exact hold i x h1 h2 hp hf
      · have := h.lt h2 hp; omega
    by_cases e1 : i = id
    · by_cases e2 : j = id
      · exact e1.trans e2.symm
      · exact absurd (Ph.own_same.1 (e1 ▸ hp)) (key j e2 hj ((Ph.own_other e2).1 hq))
    · by_cases e2 : j = id
      · exact absurd (Ph.own_same.1 (e2 ▸ hq)) (key i e1 hi ((Ph.own_other e1).1 hp))
      · exact h.inj i j x (hlv i e1 hi).2 (hlv j e2 hj).2 ((Ph.own_other e1).1 hp) ((Ph.own_other e2).1 hq)
  · by_cases e : i = id
    · subst e
      rcases hF x (Ph.own_same.1 hp) with hf | ⟨hge, _⟩
      · exact Or.inl (hBo x hf)
      · have := h.bd; exact Or.inl (by omega)
    · exact h.lo i x (hlv i e hi).2 ((Ph.own_other e).1 hp)
  · rintro ⟨j, hj, hq⟩
    exact hnl ⟨j, (hids j hj).2, hq⟩
  · have hx : hl i ((id, some b) :: Fw.kills ids s.h) = some x := hx
    by_cases e : i = id
    · subst e
      rw [hlk, if_pos rfl] at hx
      cases hx
      exact hok hle
    · have hn' : hl i ((id, some b) :: Fw.kills ids s.h) ≠ none := by rw [hx]; simp
      obtain ⟨h1, h2⟩ := hlv i e hn'
      have hx2 : hl i s.h = some x := by rw [hlk, if_neg fun e' => e e'.symm, if_neg h1] at hx; exact hx
      exact BlkOK.le hle (al_of_hl hx2) (if_neg e) (fun y hy => hsame i y e hn' hy) (h.h i x hx2)

/-- A new block of rows of one's own. -/
theorem alloc_deep (hM : HM bs φ s w) {id : Nat} (hn : ¬ s.al id) (hid : id < s.nx) {ids : List Nat} (hids : ∀ i ∈ ids, s.m ≤ i ∧ hl i s.h ≠ none) {t : Ty} {xs : List (D t)} {cs : Array Value} (e : TypeId) (hs : xs.length * sz t ≤ cs.size)
    {css : List (List Value)} (h2 : css.length = xs.length) {G : Nat → Nat → Prop} (hG1 : ∀ j x, G j x → ownF φ ids x) (hG2 : ∀ i j x, G i x → G j x → i = j)
    (h3 : ∀ j (h : j < xs.length), RO w t xs[j] (css[j]'(h2 ▸ h)) (G j)) (hc : ∀ i, i < css.flatten.length → cs[i]? = css.flatten[i]?) {u : AV} {v : Value}
    (hr : ∀ c : Cx, c.al id → c.φ id = some (w.heap.size, 0) → c.h id = some (.deep t xs) → c.w.heap[w.heap.size]? = some (.cells cs e (0, 0)) → R c u v) :
    Res bs φ s w ((id, some (.deep t xs)) :: Fw.kills ids []) u v (w.alloc (.cells cs e)) := by
  have hnew : (w.alloc (.cells cs e)).heap[w.heap.size]? = some (.cells cs e (0, 0)) := alloc_new w _
  have hold : ∀ k, k < w.heap.size → (w.alloc (.cells cs e)).heap[k]? = w.heap[k]? := fun k hk => Below.heap_alloc w _ k hk
  have hlt : ∀ x, ownF φ ids x → x < w.heap.size := fun x ⟨i, hi, hx⟩ => hM.lt (hids i hi).2 hx
  have hl1 : ∀ c ∈ css, c.length = sz t := by
    intro c hc
    obtain ⟨j, hj, rfl⟩ := List.getElem_of_mem hc
    exact (h3 j (h2 ▸ hj)).length
  have hrow : ∀ j (hj : j < xs.length), RowAt (w.alloc (.cells cs e)) w.heap.size (0 + j * sz t) (css[j]'(h2 ▸ hj)) := by
    intro j hj i hi
    have hi' : i < sz t := by rw [(h3 j hj).length] at hi; exact hi
    have hlt2 : j * sz t + i < css.flatten.length := by
      rw [flat_length hl1, h2]
      have : (j + 1) * sz t ≤ xs.length * sz t := Nat.mul_le_mul_right _ hj
      rw [Nat.add_mul] at this; omega
    have := hc (j * sz t + i) hlt2
    rw [flat_row hl1 j (h2 ▸ hj) i hi'] at this
    simp only [World.cell?, hnew]
    rw [Nat.zero_add, ← List.getElem?_eq_getElem hi, ← this]
    rfl
  obtain ⟨h1, h2'⟩ := hM.take hn hid hids (some (w.heap.size, 0)) (ownF φ ids) (.deep t xs) (w' := w.alloc (.cells cs e)) (fun x hx => by
      rcases hx with ⟨off, hx⟩ | hx
      · cases hx; exact Or.inr (by simp)
      · exact Or.inl hx) (by simp) (fun k hk _ => hold k hk) ⟨rfl, rfl, rfl⟩ fun hle => Or.inl ⟨w.heap.size, 0, cs, e, if_pos rfl, hnew, by simpa using hs, fun hx => by
        have hx : (φ.put id (some (w.heap.size, 0)) (ownF φ ids)).ψ id w.heap.size := hx
        rw [Ph.put_ψ] at hx
        exact absurd (hlt _ hx) (Nat.lt_irrefl _), G, fun j x hx => by
        show (φ.put id (some (w.heap.size, 0)) (ownF φ ids)).ψ id x
        rw [Ph.put_ψ]; exact hG1 j x hx, hG2, fun j hj _ => ⟨css[j]'(h2 ▸ hj), hrow j hj, (h3 j hj).keep fun x hx => hold x (hlt x (hG1 j x hx))⟩⟩
  have e1 : s.push ((id, some (.deep t xs)) :: Fw.kills ids []) = { s with h := (id, some (Blk.deep t xs)) :: Fw.kills ids s.h } := by
    simp only [St.push, List.cons_append, kills_push, List.nil_append]
  refine ⟨φ.put id (some (w.heap.size, 0)) (ownF φ ids), by rw [e1]; exact h1, by rw [e1]; exact h2', ?_⟩
  rw [e1]
  exact hr _ ((al_cons (s := s.kills ids)).2 (Or.inl rfl)) (if_pos rfl) (by simp [cx, hl]) hnew

theorem R.own_newS {c : Cx} {id : Nat} {t : Ty} {n b len cap : Nat} {cs : Array Value} {e : TypeId} (h1 : c.al id) (h2 : c.φ id = some (b, 0)) (h3 : shp (c.h id) = some (t, n)) (h4 : c.w.heap[b]? = some (.cells cs e (0, 0)))
    (hl : len = n) (hc : len ≤ cap) (hs : cap * sz t ≤ cs.size) : R c (.own id) (.slice (some ⟨b, 0, none⟩) len cap) :=
  .own h1 (fun t' n' hx => by rw [h3] at hx; cases hx; exact hl) (Or.inl (Or.inl ⟨b, 0, 0, h2, rfl, fun t' n' hx => by simp⟩))
    (fun t' n' hx b' off' hb => by rw [h2] at hb; cases hb; rw [h3] at hx; cases hx; exact ⟨cs, e, _, h4, by simpa using hs⟩) hc

theorem R.own_new {c : Cx} {id : Nat} {o' : Org} {t : Ty} {xs : List (D t)} {b len cap : Nat} {cs : Array Value} {e : TypeId} (h1 : c.al id) (h2 : c.φ id = some (b, 0)) (h3 : c.h id = some (.arr o' t xs)) (h4 : c.w.heap[b]? = some (.cells cs e (0, 0)))
    (hl : len = xs.length) (hc : len ≤ cap) (hs : cap * sz t ≤ cs.size) : R c (.own id) (.slice (some ⟨b, 0, none⟩) len cap) :=
  R.own_newS h1 h2 (shp_arr h3) h4 hl hc hs

theorem Res.kills {ids : List Nat} (hM : HM bs φ s w) (hal : ∀ i ∈ ids, s.al i) {hs : List (Nat × Option Blk)} {u : AV} {v : Value} {w' : World} (h : Res bs φ (s.kills ids) w hs u v w') : Res bs φ s w (hs ++ Fw.kills ids []) u v w' := by
  obtain ⟨φ', h1, h2, h3⟩ := h
  have e : s.push (hs ++ Fw.kills ids []) = (s.kills ids).push hs := by
    simp only [St.push, St.kills, List.append_assoc, kills_push, List.nil_append]
  exact ⟨φ', by rw [e]; exact h1, by rw [e]; exact (hM.kills ids hal).2.trans h2, by rw [e]; exact h3⟩
end
end Go.Fw
namespace Go.Fw
open Go Go.RowKit

section
variable {P : Program} {E : Env} {bs : Bs} {φ : Ph} {s : St} {w : World} {id : Nat} {log : List Nat} {o : Out}

theorem run_zero {T : TypeId} {i : TI} (hT : TIok P E T i) (w : World) : ∃ x z, P.info? T = some x ∧ x.zero = some z ∧ (zeroValue T).run P w = .ok z w ∧ (∀ c, RL c i.zero z.cells.toList) ∧ z.cells.size = i.zero.length := by
  obtain ⟨x, z, h1, h2, h3, h4, h5, _⟩ := hT.inf
  exact ⟨x, z, h1, h4, by simp [zeroValue, typeInfo, h1, h4], h5, by
    have := (h5 { φ := fun _ => none, ψ := fun _ _ => False, w := w, h := fun _ => none, al := fun _ => False, A := fun _ => False, B := 0 }).length
    simpa using this.symm⟩

theorem alloc_sound (hE : EnvOK P E) (hM : HM bs φ s w) (hn : ¬ s.al id) (hid : id < s.nx) {U : TypeId} {T : TypeId} {x : TypeId} (h : To P (hl · s.h) id (stepF s.m E id (.alloc U) T []) log o) :
    ∃ u hs rd, o = .ok u hs rd ∧ ∃ v w', (Instr.alloc U true (.tuple #[])).run P w = .ok v w' ∧ Res bs φ s w hs u v w' := by
  simp only [stepF] at h
  obtain ⟨hok, h⟩ := To.chk_inv h
  have hT := hE.ok hok
  obtain ⟨xi, z, i1, i2, i3, i4, i5⟩ := run_zero hT w
  have hrun : (Instr.alloc U true (.tuple #[])).run P w = .ok (.pointer (some ⟨w.heap.size, 0, none⟩)) (w.alloc (.cells z.cells U)) := by
    simp [Instr.alloc, i3, newVar, newRow]
  split at h
  · rename_i t n ht hlen
    obtain ⟨xi', z', j1, j2, j3, j4, j5, j6, j7⟩ := hT.inf
    obtain ⟨y, y1, y2⟩ := j7 t ht (by omega)
    rw [i1] at j1; cases j1
    rw [i2] at j4; cases j4
    have hTe := hE.ty (T := (ti U E).el) (by rw [ht]; simp)
    obtain ⟨xe, ze, k1, k2, k3, k4, k5, k6, _⟩ := hTe.inf
    rw [k1] at y1
    have y1 : xe.zero = some y := y1
    obtain rfl : ze = y := by rw [k4] at y1; cases y1; rfl
    obtain ⟨k7, k8⟩ := k6 t ht
    have y2' : z.cells.toList = (List.replicate (n + 1) ze.cells.toList).flatten := by rw [y2, hlen]
    refine ⟨_, _, _, To.ret_inv h, _, _, hrun, ?_⟩
    have hflat : ((List.replicate (n + 1) ze.cells.toList).flatten).length = (n + 1) * sz t := by
      rw [flat_length (n := sz t) (fun c hc => by rw [(List.mem_replicate.1 hc).2]; exact (k8 w (fun _ => True)).length)]; simp
    refine alloc_arr hM hn hid U ?_ (css := List.replicate (n + 1) ze.cells.toList) (by simp) (fun j hj => by simpa using k8 _ _) (fun i hi => ?_) fun c c1 c2 c3 c4 => ?_
    · rw [List.length_replicate, ← hflat, ← y2']; simp
    · rw [← y2']; simp
    · exact .ptr (b := w.heap.size) (off := 0) c1 c2
  · exact ⟨_, _, _, To.ret_inv h, _, _, hrun, alloc_cells hM hn hid U (i4 _)⟩

theorem box_sound (hM : HM bs φ s w) (hn : ¬ s.al id) (hid : id < s.nx) {U : TypeId} {x : AV} {v : Value} (hx : R (cx bs φ s w) x v) (h : To P (hl · s.h) id (boxT id x) log o) :
    ∃ u hs rd, o = .ok u hs rd ∧ ∃ v' w', (Instr.box U v).run P w = .ok v' w' ∧ Res bs φ s w hs u v' w' := by
  have hrun : (Instr.box U v).run P w = .ok (.pointer (some ⟨w.heap.size, 0, none⟩)) (w.alloc (.cells v.cells U)) := by
    simp [Instr.box, newVar, newRow]
  unfold boxT at h
  split at h
  · cases hx with
    | av css h1 h2 h3 =>
      rename_i cs
      refine ⟨_, _, _, To.ret_inv h, _, _, hrun, ?_⟩
      refine alloc_arr hM hn hid U ?_ (css := css) h2 h3 (fun i hi => ?_) fun c c1 c2 c3 c4 => .ptr (b := w.heap.size) (off := 0) c1 c2
      · rw [← h2, ← flat_length (fun c hc => by obtain ⟨j, hj, rfl⟩ := List.getElem_of_mem hc; exact (h3 j (h2 ▸ hj)).length), ← h1]
        simp [Value.cells]
      · rw [← h1]; simp [Value.cells]
  · obtain ⟨h1, h⟩ := To.chk_inv h
    exact ⟨_, _, _, To.ret_inv h, _, _, hrun, alloc_cells hM hn hid U (hx.cells1 h1).1⟩

theorem fill_rows {ps : List (Nat × Operand)} {n : Nat} {c : Cx} {l : List AV} {vs : List Value} (hd : dense ps 0 n = true) {size : Nat} (ha : allLen size l = true) (hl : RL c l vs) (hps : ps.length = vs.length) (cells : Array Value) (hc : cells.size = n * size) :
    ∃ r, Instr.fill (fun i => some (i * size, size)) cells ((ps.map (·.1)).zip vs) = some r ∧ r.toList = vs.flatMap (·.cells.toList) := by
  obtain ⟨d1, d2⟩ := dense_spec hd
  obtain ⟨a1, _, _⟩ := allLen_spec hl ha
  obtain ⟨r, r1, r2⟩ := fill_dense size n ((ps.map (·.1)).zip vs) 0 cells (fun q hq => by
      have := d1 q (by simp at hq; omega)
      simpa using this) (by simp [hps] at d2 ⊢; omega) (fun p hp => a1 p.2 (List.of_mem_zip hp).2) hc
  refine ⟨r, r1, ?_⟩
  rw [r2]
  simp only [Nat.zero_mul, List.take_zero, List.nil_append]
  have : ∀ (is : List Nat) (vs : List Value), is.length = vs.length → (is.zip vs).flatMap (·.2.cells.toList) = vs.flatMap (·.cells.toList) := by
    intro is
    induction is with
    | nil => intro vs h; cases vs <;> simp_all
    | cons i is ih => intro vs h; cases vs with | nil => simp at h | cons v vs => simp [ih vs (by simpa using h)]
  exact this _ _ (by simpa using hps)

theorem flat_of {vs : List Value} : vs.flatMap (·.cells.toList) = (vs.map (·.cells.toList)).flatten := by rw [List.flatMap_def]

theorem buildSlice_sound (hE : EnvOK P E) (hM : HM bs φ s w) (hn : ¬ s.al id) (hid : id < s.nx) {U : TypeId} {n : Nat} {ps : Array (Nat × Operand)} {T : TypeId} {l : List AV} {vs : List Value} (hl' : RL (cx bs φ s w) l vs) (hps : ps.toList.length = vs.length)
    (h : To P (hl · s.h) id (stepF s.m E id (.buildSlice U n ps) T l) log o) :
    ∃ u hs rd, o = .ok u hs rd ∧ ∃ v w', (Instr.buildSlice U n ((ps.toList.map (·.1)).zip vs).toArray).run P w = .ok v w' ∧ Res bs φ s w hs u v w' := by
  simp only [stepF] at h
  obtain ⟨hk, h⟩ := To.chk_inv h
  have hk := Nat.eq_of_beq_eq_true hk
  obtain ⟨hd, h⟩ := To.chk_inv h
  obtain ⟨ha, h⟩ := To.chk_inv h
  obtain ⟨hle, h⟩ := To.chk_inv h
  have hle := Nat.le_of_ble_eq_true hle
  split at h
  · rename_i t ht
    have hTe := hE.ty (T := (ti U E).el) (by rw [ht]; simp)
    obtain ⟨xe, ze, k1, k2, k3, k4, k5, k6, _⟩ := hTe.inf
    obtain ⟨k7, _⟩ := k6 t ht
    obtain ⟨d, hd1, hd2⟩ := (hE.kd (T := U) (by omega)).u
    have := hd2.slice hk
    subst this
    obtain ⟨a1, a2, a3⟩ := allLen_spec hl' ha
    have hlen := (dense_spec hd).2
    have hnl : l.length = n := by have := hl'.length; omega
    obtain ⟨r, hrun, r2⟩ : ∃ r : Array Value, (Instr.buildSlice U n ((ps.toList.map (·.1)).zip vs).toArray).run P w = .ok (.slice (some ⟨w.heap.size, 0, none⟩) n n) (w.alloc (.cells r (ti U E).el)) ∧ r.toList = vs.flatMap (·.cells.toList) := by
      unfold Instr.buildSlice
      simp only [Sem.run_bind, run_underlying hd1, Result.andThen_ok, run_size hTe]
      rw [if_neg (by omega)]
      by_cases hz : n * (ti (ti U E).el E).sz = 0
      · obtain ⟨r, r1, r2⟩ := fill_rows hd ha hl' hps ((Array.range (n * (ti (ti U E).el E).sz)).map fun q => (#[] : Array Value)[q % (#[] : Array Value).size]!) (by simp)
        refine ⟨r, ?_, r2⟩
        rw [if_pos hz]
        simp only [Sem.run_bind, Sem.run_pure, Result.andThen_ok, r1]
        simp [newRow]
      · obtain ⟨r, r1, r2⟩ := fill_rows hd ha hl' hps ((Array.range (n * (ti (ti U E).el E).sz)).map fun q => ze.cells[q % ze.cells.size]!) (by simp)
        refine ⟨r, ?_, r2⟩
        rw [if_neg hz]
        simp only [Sem.run_bind, Sem.run_pure, Result.andThen_ok, zeroValue, typeInfo, run_program, k1, k4, List.toList_toArray, r1]
        simp [newRow]
    have hfl : (vs.map (·.cells.toList)).flatten.length = n * sz t := by
      rw [flat_length (n := sz t) (fun c hc => by obtain ⟨v, hv, rfl⟩ := List.mem_map.1 hc; rw [k7]; simpa using a1 v hv), List.length_map]
      congr 1; omega
    have hrs : r.size = n * sz t := by rw [← Array.length_toList, r2, flat_of, hfl]
    have arrc : ∀ {log : List Nat}, To P (hl · s.h) id (toDs s.m t l fun ds o ids => .ret (.own id) ((id, some (.arr o t ds)) :: kills ids [])) log o →
        ∃ u hs rd, o = .ok u hs rd ∧ ∃ v w', (Instr.buildSlice U n ((ps.toList.map (·.1)).zip vs).toArray).run P w = .ok v w' ∧ Res bs φ s w hs u v w' := by
      intro log h
      obtain ⟨ds, org, ids, log', t1, t2, t3, t4⟩ := toDs_sound hM t hl' ha h
      have hdl : ds.length = n := by rw [← t2]; omega
      refine ⟨_, _, _, To.ret_inv t1, _, _, hrun, ?_⟩
      obtain ⟨m1, m2⟩ := hM.kills ids t3
      refine Res.kills hM t3 (hs := [(id, some (.arr org t ds))]) ?_
      refine alloc_arr m1 (fun hx => hn ((al_kills t3).1 hx)) hid (ti U E).el (by rw [hdl, hrs]; exact Nat.le_refl _) (css := vs.map (·.cells.toList)) (by simp [t2]) (fun j hj => by simpa using t4 ids t3 (fun _ h => h) j hj) (fun i hi => ?_) fun c c1 c2 c3 c4 => ?_
      · have := congrArg (·[i]?) r2
        simp only [flat_of] at this
        rw [← this]; simp
      · exact R.own_new c1 c2 c3 c4 hdl.symm (Nat.le_refl _) (by rw [hrs]; exact Nat.le_refl _)
    split at h
    · split at h
      · obtain ⟨ds, ids, log', t1, t2, t3, t4⟩ := toOs_sound hM t hl' ha h
        obtain ⟨hnd, t1⟩ := To.chk_inv t1
        obtain ⟨G, g1, g2, g3⟩ := t4 hnd
        have hdl : ds.length = n := by rw [← t2]; omega
        refine ⟨_, _, _, To.ret_inv t1, _, _, hrun, ?_⟩
        refine alloc_deep hM hn hid t3 (ti U E).el (by rw [hdl, hrs]; exact Nat.le_refl _) (css := vs.map (·.cells.toList)) (by simp [t2]) g1 g2 (fun j hj => by simpa using g3 j hj) (fun i hi => ?_) fun c c1 c2 c3 c4 => ?_
        · have := congrArg (·[i]?) r2
          simp only [flat_of] at this
          rw [← this]; simp
        · exact R.own_newS c1 c2 (shp_deep c3) c4 hdl.symm (Nat.le_refl _) (by rw [hrs]; exact Nat.le_refl _)
      · exact arrc h
    · exact arrc h
  · exact (To.bad_inv h).elim

theorem makeSlice_sound (hE : EnvOK P E) (hM : HM bs φ s w) (hn : ¬ s.al id) (hid : id < s.nx) {U : TypeId} {x y : Operand} {T : TypeId} {n c : AV} {vn vc : Value} (hn' : R (cx bs φ s w) n vn) (hc' : R (cx bs φ s w) c vc)
    (h : To P (hl · s.h) id (stepF s.m E id (.makeSlice U x y) T [n, c]) log o) :
    ∃ u hs rd, o = .ok u hs rd ∧ ∃ v w', (Instr.makeSlice U vn vc).run P w = .ok v w' ∧ Res bs φ s w hs u v w' := by
  simp only [stepF] at h
  obtain ⟨hk, h⟩ := To.chk_inv h
  have hk := Nat.eq_of_beq_eq_true hk
  split at h
  · rename_i t ht
    have asI_inv : ∀ {x : AV} {v : Value} {k : Int → Tr} {log : List Nat}, R (cx bs φ s w) x v → To P (hl · s.h) id (asI x k) log o → ∃ kd z, v = .int kd z ∧ To P (hl · s.h) id (k z) log o := by
      intro x v k log hx h
      unfold asI at h
      split at h
      · exact ⟨_, _, R.val_inv hx, h⟩
      · exact ⟨_, _, R.un_inv hx, h⟩
      · exact (To.bad_inv h).elim
    obtain ⟨k1, z1, rfl, h⟩ := asI_inv hn' h
    obtain ⟨k2, z2, rfl, h⟩ := asI_inv hc' h
    have h := To.forceT_inv h
    obtain ⟨⟨h0, h1, h2, h3⟩, hret⟩ := To.vc_inv h
    have hTe := hE.ty (T := (ti U E).el) (by rw [ht]; simp)
    obtain ⟨xe, ze, e1, e2, e3, e4, e5, e6, _⟩ := hTe.inf
    obtain ⟨e7, e8⟩ := e6 t ht
    obtain ⟨d, hd1, hd2⟩ := (hE.kd (T := U) (by omega)).u
    have := hd2.slice hk
    subst this
    obtain ⟨a, rfl⟩ := Int.eq_ofNat_of_zero_le h0
    obtain ⟨b, rfl⟩ := Int.eq_ofNat_of_zero_le (Int.le_trans h0 h1)
    rw [← e3] at h2
    have hb63 : (b : Int) ≤ 9223372036854775807 := Int.le_trans h3 (by omega)
    have hrun := run_make (P := P) w U (ti U E).el xe ze hd1 e1 e4 k1 k2 a b h0 h1 (by rw [Int.mul_comm]; omega) hb63
    have hzl : ze.cells.size = sz t := by rw [← Array.length_toList]; exact (e8 w fun _ => True).length
    have hab : a ≤ b := by omega
    have hsz : (List.replicate a (dz t)).length * sz t ≤ (madeCells ze.cells (b * xe.size)).size := by
      rw [size_madeCells, List.length_replicate, e2, ← e7]
      exact Nat.mul_le_mul_right _ hab
    have hcell : ∀ i, i < (List.replicate a ze.cells.toList).flatten.length → (madeCells ze.cells (b * xe.size))[i]? = (List.replicate a ze.cells.toList).flatten[i]? := fun i hi => by
      have hfl : (List.replicate a ze.cells.toList).flatten.length = a * sz t := by
        rw [flat_length (n := sz t) (fun c hc => by rw [(List.mem_replicate.1 hc).2]; simpa using hzl)]; simp
      rw [hfl] at hi
      have hpos := sz_pos t
      have hq : i / sz t < a := Nat.div_lt_of_lt_mul (by rw [Nat.mul_comm]; exact hi)
      have hr : i % sz t < sz t := Nat.mod_lt _ hpos
      have hi' : i = i / sz t * sz t + i % sz t := by rw [Nat.mul_comm]; exact (Nat.div_add_mod i (sz t)).symm
      have h1' : (List.replicate a ze.cells.toList).flatten[i]? = ze.cells[i % sz t]? := by
        have := flat_row (css := List.replicate a ze.cells.toList) (n := sz t) (fun c hc => by rw [(List.mem_replicate.1 hc).2]; simpa using hzl) (i / sz t) (by simpa using hq) (i % sz t) hr
        rw [← hi'] at this
        rw [this]; simp
      rw [h1']
      have hlt : i < b * xe.size := by
        rw [e2, ← e7]
        exact Nat.lt_of_lt_of_le hi (Nat.mul_le_mul_right _ hab)
      simp only [madeCells, Array.getElem?_map, Array.getElem?_range, hlt, if_true, Option.map_some, hzl]
      rw [getElem!_pos _ _ (by rw [hzl]; exact hr), Array.getElem?_eq_getElem (by rw [hzl]; exact hr)]
    have arrc : ∀ {log : List Nat}, To P (hl · s.h) id (.ret (.own id) [(id, some (.arr .fr t (List.replicate a (dz t))))]) log o →
        ∃ u hs rd, o = .ok u hs rd ∧ ∃ v w', (Instr.makeSlice U (.int k1 a) (.int k2 b)).run P w = .ok v w' ∧ Res bs φ s w hs u v w' := by
      intro log hret
      refine ⟨_, _, _, To.ret_inv hret, _, _, hrun, ?_⟩
      simp only [Int.toNat_natCast]
      refine alloc_arr hM hn hid (ti U E).el hsz (css := List.replicate a ze.cells.toList) (by simp) (fun j hj => by simpa using e8 _ _) hcell fun c c1 c2 c3 c4 => ?_
      exact R.own_new c1 c2 c3 c4 (by simp) hab (by rw [size_madeCells, e2, ← e7]; exact Nat.le_refl _)
    simp only [Int.toNat_natCast] at hret
    split at hret
    · split at hret
      · refine ⟨_, _, _, To.ret_inv hret, _, _, hrun, ?_⟩
        simp only [Int.toNat_natCast]
        refine alloc_deep hM hn hid (ids := []) (fun _ h => absurd h List.not_mem_nil) (ti U E).el hsz (css := List.replicate a ze.cells.toList) (by simp) (G := fun _ _ => False) (fun _ _ h => h.elim) (fun _ _ _ h => h.elim) (fun j hj => by simpa using hTe.ro xe ze t e1 e4 ht w _) hcell fun c c1 c2 c3 c4 => ?_
        exact R.own_newS c1 c2 (shp_deep c3) c4 (by simp) hab (by rw [size_madeCells, e2, ← e7]; exact Nat.le_refl _)
      · exact arrc hret
    · exact arrc hret
  · exact (To.bad_inv h).elim
end
end Go.Fw
namespace Go.Fw
open Go Go.RowKit

section
variable {P : Program} {E : Env} {bs : Bs} {φ : Ph} {s : St} {w : World} {id : Nat} {log : List Nat} {o : Out}

/-- A block that is none: an empty slice that one may append to. -/
theorem HM.ghostB (h : HM bs φ s w) {id : Nat} (hn : ¬ s.al id) (hid : id < s.nx) {b : Blk} (hb : (∃ o t, b = .arr o t []) ∨ ∃ t, b = .deep t []) :
    HM bs (φ.put id none noF) { s with h := (id, some b) :: s.h } w ∧ (cx bs φ s w).Le (cx bs (φ.put id none noF) { s with h := (id, some b) :: s.h } w) :=
  h.take hn hid (ids := []) (fun _ h => absurd h List.not_mem_nil) none noF b (w' := w) (fun x hx => by
    rcases hx with ⟨_, hx⟩ | hx
    · cases hx
    · exact hx.elim) (Nat.le_refl _) (fun _ _ _ => rfl) ⟨rfl, rfl, rfl⟩ fun _ => by
      rcases hb with ⟨o, t, rfl⟩ | ⟨t, rfl⟩
      · exact Or.inr ⟨if_pos rfl, rfl⟩
      · exact Or.inr ⟨if_pos rfl, rfl⟩

theorem HM.ghost (h : HM bs φ s w) {id : Nat} (hn : ¬ s.al id) (hid : id < s.nx) (o' : Org) (t : Ty) :
    HM bs (φ.put id none noF) { s with h := (id, some (.arr o' t [])) :: s.h } w ∧ (cx bs φ s w).Le (cx bs (φ.put id none noF) { s with h := (id, some (.arr o' t [])) :: s.h } w) :=
  h.ghostB hn hid (Or.inl ⟨_, _, rfl⟩)

/-- A block that is grown where it lies, under a new number. -/
theorem HM.regrow {w' : World} (h : HM bs φ s w) {id j : Nat} (hn : ¬ s.al id) (hid : id < s.nx) {b : Blk} {bl off : Nat} (hb : hl j s.h = some b) (hp : φ j = some (bl, off)) (hm : s.m ≤ j) (b' : Blk)
    (hsz : w'.heap.size = w.heap.size) (hoth : ∀ k, k ≠ bl → w'.heap[k]? = w.heap[k]?)
    (hos : w'.os = w.os ∧ w'.tape = w.tape ∧ w'.output = w.output)
    (hok : (cx bs φ s w).Le (cx bs (φ.put id (some (bl, off)) (φ.ψ j)) { s with h := (id, some b') :: (j, none) :: s.h } w') → BlkOK (cx bs (φ.put id (some (bl, off)) (φ.ψ j)) { s with h := (id, some b') :: (j, none) :: s.h } w') id b') :
    HM bs (φ.put id (some (bl, off)) (φ.ψ j)) { s with h := (id, some b') :: (j, none) :: s.h } w' ∧
      (cx bs φ s w).Le (cx bs (φ.put id (some (bl, off)) (φ.ψ j)) { s with h := (id, some b') :: (j, none) :: s.h } w') :=
  h.take hn hid (ids := [j]) (fun i hi => by rw [List.mem_singleton.1 hi]; exact ⟨hm, by rw [hb]; simp⟩) (some (bl, off)) (φ.ψ j) b' (fun x hx => by
    rcases hx with ⟨o2, hx⟩ | hx
    · cases hx; exact Or.inl ⟨j, by simp, Or.inl ⟨off, hp⟩⟩
    · exact Or.inl ⟨j, by simp, Or.inr hx⟩) (Nat.le_of_eq hsz.symm) (fun k _ hk => hoth k fun e => hk ⟨j, by simp, Or.inl ⟨off, by rw [e]; exact hp⟩⟩) hos hok

/-- The rows that a slice holds, in memory. -/
theorem rows_sound (hM : HM bs φ s w) {x : AV} {v : Value} (hx : R (cx bs φ s w) x v) {k : (o : Org) → (t : Ty) → List (D t) → Tr} (h : To P (hl · s.h) id (rows x k) log o) :
    ∃ o' t xs log', To P (hl · s.h) id (k o' t xs) log' o ∧ ∃ ad cap, v = .slice ad xs.length cap ∧ (xs ≠ [] → ∃ b off, ad = some ⟨b, off, none⟩ ∧ RDs w ((cx bs φ s w).ok o') t b off xs) := by
  unfold rows at h
  split at h
  · exact ⟨_, _, _, _, h, none, 0, R.nil_inv hx, fun hne => absurd rfl hne⟩
  · cases hx with
    | dat hr =>
      obtain ⟨a, cap, e, hc, hr⟩ := hr
      cases e
      refine ⟨_, _, _, _, h, a, cap, rfl, fun hne => ?_⟩
      obtain ⟨bl, off, e1, _, e2⟩ := hr hne
      exact ⟨bl, off, e1, e2⟩
  · have h := To.rd_inv h
    split at h
    · rename_i o' t xs hb
      cases hx with
      | own h1 h2 h3 h4 h5 =>
        have hlen := h2 _ _ (shp_arr hb)
        subst hlen
        refine ⟨_, _, _, _, h, _, _, rfl, fun hne => ?_⟩
        rcases h3 with (⟨b, off, off', e1, e2, e3⟩ | ⟨_, _, e3, _⟩) | ⟨e3, _⟩
        · obtain ⟨cs, e, f1, f2, f3⟩ := blk_arr hM hb e1
          have := e3 _ _ (shp_arr hb)
          simp at this
          subst this
          exact ⟨b, _, e2, f3⟩
        · exact absurd (List.eq_nil_of_length_eq_zero e3) hne
        · exact absurd (List.eq_nil_of_length_eq_zero e3) hne
    · exact (To.bad_inv h).elim
  · rename_i i lo len
    have h := To.rd_inv h
    split at h
    · rename_i o' t xs hb
      cases hx with
      | sl h1 h2 h3 h4 h5 =>
        have hle := h2 _ _ (shp_arr hb)
        have hlen : ((xs.drop lo).take len).length = len := by simp; omega
        refine ⟨_, _, _, _, h, _, _, by rw [hlen], fun hne => ?_⟩
        rcases h3 with (⟨b, off, off', e1, e2, e3⟩ | ⟨_, _, e3, _⟩) | ⟨e3, _⟩
        · obtain ⟨cs, e, f1, f2, f3⟩ := blk_arr hM hb e1
          have := e3 _ _ (shp_arr hb)
          subst this
          refine ⟨b, _, e2, fun j hj => ?_⟩
          rw [hlen] at hj
          obtain ⟨rc, g1, g2⟩ := f3 (lo + j) (by omega)
          refine ⟨rc, g1.sub (by rw [Nat.add_mul]; omega), ?_⟩
          simpa using g2
        · exact absurd (List.eq_nil_of_length_eq_zero (hlen.trans e3)) hne
        · exact absurd (List.eq_nil_of_length_eq_zero (hlen.trans e3)) hne
    · exact (To.bad_inv h).elim
  · exact (To.bad_inv h).elim

theorem rowsA_sound (hM : HM bs φ s w) {d x : AV} {v : Value} (hx : R (cx bs φ s w) x v) {k : (o : Org) → (t : Ty) → List (D t) → Tr} (h : To P (hl · s.h) id (rowsA d x k) log o) :
    ∃ o' t xs log', To P (hl · s.h) id (k o' t xs) log' o ∧ ∃ ad cap, v = .slice ad xs.length cap ∧ (xs ≠ [] → ∃ b off, ad = some ⟨b, off, none⟩ ∧ RDs w ((cx bs φ s w).ok o') t b off xs) := by
  unfold rowsA at h
  split at h
  · have := R.val_inv hx
    subst this
    split at h
    · exact ⟨_, _, [], _, h, _, _, rfl, fun hne => absurd rfl hne⟩
    · have h := To.rd_inv h
      split at h
      · exact ⟨_, _, [], _, h, _, _, rfl, fun hne => absurd rfl hne⟩
      · exact (To.bad_inv h).elim
    · exact (To.bad_inv h).elim
  · exact rows_sound hM hx h

theorem run_append_room_row (t tx ty e : TypeId) (i : TypeInfo) (ht : P.underlying t = some (.slice e)) (hi : P.info? e = some i) (b off sLen sCap : Nat) (x : Value) (n : Nat) (news : List Value) (hs : Src P i.size tx x n news w)
    (hroom : sLen + n ≤ sCap) {cs : Array Value} {et : TypeId} (hb : w.heap[b]? = some (.cells cs et (0, 0))) (hc : off + sLen * i.size + news.length ≤ cs.size) :
    (Builtin.append_ #[t, tx] ty #[.slice (some ⟨b, off, none⟩) sLen sCap, x]).run P w =
      .ok (.slice (some ⟨b, off, none⟩) (sLen + n) sCap) (w.setRow b (cs.toList.take (off + sLen * i.size) ++ news ++ cs.toList.drop (off + sLen * i.size + news.length)).toArray) := by
  have hst := run_storeCells_at (P := P) b (off + sLen * i.size) et news 0 cs w hb (by omega) hs.one
  simp only [Nat.add_zero] at hst
  rcases hs.kind with ⟨e', hk⟩ | hk <;> simp [Builtin.append_, run_underlying ht, run_underlying hk, sizeOf, typeInfo, hi, hs.len, hroom, hs.cells, Addr.add_lit, hst]

theorem src_of {tx e' : TypeId} (hk : P.underlying tx = some (.slice e')) {size : Nat} {ok : Nat → Prop} {t : Ty} (hsz : sz t = size) {xs : List (D t)} {ad : Option Addr} {cap : Nat} {css : List (List Value)} (h2 : css.length = xs.length)
    (h3 : ∀ j (h1 : j < xs.length) (h2 : j < css.length), RD w ok t xs[j] css[j]) (ha : xs ≠ [] → ∃ b off, ad = some ⟨b, off, none⟩ ∧ RowAt w b off css.flatten) :
    Src P size tx (.slice ad xs.length cap) xs.length css.flatten w := by
  have hl : ∀ c ∈ css, c.length = sz t := by
    intro c hc
    obtain ⟨j, hj, rfl⟩ := List.getElem_of_mem hc
    exact (h3 j (h2 ▸ hj) hj).length
  have hone : ∀ u ∈ css.flatten, u.oneCell' = true := by
    intro u hu
    obtain ⟨c, hc, hu⟩ := List.mem_flatten.1 hu
    obtain ⟨j, hj, rfl⟩ := List.getElem_of_mem hc
    exact (h3 j (h2 ▸ hj) hj).one u hu
  have hlen : css.flatten.length = xs.length * size := by rw [flat_length hl, h2, hsz]
  cases ad with
  | none =>
    have he : xs = [] := by
      by_cases he : xs = []
      · exact he
      · obtain ⟨_, _, e, _⟩ := ha he; cases e
    subst he
    have : css = [] := List.eq_nil_of_length_eq_zero h2
    subst this
    exact Src.ofNil w hk cap
  | some a =>
    refine Src.ofSlice w hk a xs.length cap css.flatten hlen (fun j u hu => ?_) hone
    obtain ⟨hj, e⟩ := List.getElem?_eq_some_iff.1 hu
    have hne : xs ≠ [] := by rintro rfl; rw [hlen] at hj; simp at hj
    obtain ⟨b, off, e1, e2⟩ := ha hne
    cases e1
    rw [add_none, e2 j hj, e]

theorem Res.regrow {w' : World} (hM : HM bs φ s w) {id j : Nat} (hn : ¬ s.al id) (hid : id < s.nx) {b : Blk} {bl off : Nat} (hb : hl j s.h = some b) (hp : φ j = some (bl, off)) (hm : s.m ≤ j) (o' : Org) (t : Ty) (xs : List (D t)) {u : AV} {v : Value}
    (hsz : w'.heap.size = w.heap.size) (hoth : ∀ k, k ≠ bl → w'.heap[k]? = w.heap[k]?)
    (hos : w'.os = w.os ∧ w'.tape = w.tape ∧ w'.output = w.output)
    (hok : (cx bs φ s w).Le (cx bs (φ.put id (some (bl, off)) (φ.ψ j)) { s with h := (id, some (.arr o' t xs)) :: (j, none) :: s.h } w') → BlkOK (cx bs (φ.put id (some (bl, off)) (φ.ψ j)) { s with h := (id, some (.arr o' t xs)) :: (j, none) :: s.h } w') id (.arr o' t xs))
    (hr : ∀ c : Cx, c.al id → c.φ id = some (bl, off) → c.h id = some (.arr o' t xs) → c.w = w' → R c u v) : Res bs φ s w [(id, some (.arr o' t xs)), (j, none)] u v w' := by
  obtain ⟨h1, h2⟩ := hM.regrow hn hid hb hp hm (.arr o' t xs) hsz hoth hos hok
  exact ⟨φ.put id (some (bl, off)) (φ.ψ j), h1, h2, hr _ ((al_cons (s := { s with h := (j, none) :: s.h })).2 (Or.inl rfl)) (if_pos rfl) (by simp [cx, St.push, hl]) rfl⟩

theorem appendA_sound (hE : EnvOK P E) (hM : HM bs φ s w) (hn : ¬ s.al id) (hid : id < s.nx) {T1 T2 T : TypeId} {x y : AV} {vx vy : Value} (hx : R (cx bs φ s w) x vx) (hy : R (cx bs φ s w) y vy)
    (hk1 : (ti T1 E).kd = 3) (hk2 : (ti T2 E).kd = 3)
    (h : To P (hl · s.h) id (appendA s.m (ti (ti T1 E).el E) id x y) log o) :
    ∃ u hs rd, o = .ok u hs rd ∧ ∃ v w', (Builtin.append_ #[T1, T2] T #[vx, vy]).run P w = .ok v w' ∧ Res bs φ s w hs u v w' := by
  unfold appendA at h
  obtain ⟨p, u, ys, log', h, ad2, cap2, rfl, hrows⟩ := rowsA_sound hM hy h
  obtain ⟨hsz, h⟩ := To.chk_inv h
  obtain ⟨hby, h⟩ := To.chk_inv h
  have h := To.forceT_inv h
  have hsz := Nat.eq_of_beq_eq_true hsz
  have hby := Nat.le_of_ble_eq_true hby
  have hpos := sz_pos u
  have hTe := hE.sz (T := (ti T1 E).el) (by omega)
  obtain ⟨xe, ze, e1, e2, e3, e4, e5, e6, _⟩ := hTe.inf
  obtain ⟨d1, hd1, hd1'⟩ := (hE.kd (T := T1) (by omega)).u
  have := hd1'.slice hk1
  subst this
  obtain ⟨d2, hd2, hd2'⟩ := (hE.kd (T := T2) (by omega)).u
  have := hd2'.slice hk2
  subst this
  obtain ⟨css, c1, c2, c3⟩ : ∃ css : List (List Value), css.length = ys.length ∧ (∀ j (h1 : j < ys.length) (h2 : j < css.length), RD w ((cx bs φ s w).ok p) u ys[j] css[j]) ∧ (ys ≠ [] → ∃ b off, ad2 = some ⟨b, off, none⟩ ∧ RowAt w b off css.flatten) := by
    by_cases he : ys = []
    · subst he; exact ⟨[], rfl, fun j h1 _ => absurd h1 (Nat.not_lt_zero _), fun h => absurd rfl h⟩
    · obtain ⟨b, off, r1, r2⟩ := hrows he
      obtain ⟨css, q1, q2, q3, _⟩ := rows_flat r2
      exact ⟨css, q1, q2, fun _ => ⟨b, off, r1, q3⟩⟩
  have hcl : ∀ c ∈ css, c.length = sz u := by
    intro c hc
    obtain ⟨j, hj, rfl⟩ := List.getElem_of_mem hc
    exact (c2 j (c1 ▸ hj) hj).length
  have hfl : css.flatten.length = ys.length * sz u := by rw [flat_length hcl, c1]
  have hsrc : Src P xe.size T2 (.slice ad2 ys.length cap2) ys.length css.flatten w := src_of hd2 (by rw [e2, hsz]) c1 c2 c3
  -- a new row
  have fresh : ∀ (xs : List (D u)) (o' : Org) (hb : (xs.length + ys.length) * (ti (ti T1 E).el E).bytes ≤ 70368744177664) (K : List (Nat × Option Blk)) (s' : St) (_ : HM bs φ s' w) (_ : ¬ s'.al id) (_ : id < s'.nx) (_ : (cx bs φ s w).Le (cx bs φ s' w))
      (_ : s'.h = K ++ s.h) (_ : s'.n = s.n ∧ s'.t = s.t ∧ s'.nx = s.nx ∧ s'.m = s.m ∧ s'.df = s.df) (base : Option Addr) (sCap : Nat) (olds : List (List Value)) (_ : olds.length = xs.length)
      (_ : ∀ j (h1 : j < xs.length) (h2 : j < olds.length), RD w ((cx bs φ s' w).ok o') u xs[j] olds[j]) (_ : (Builtin.firstCells xe.size xs.length (.slice base xs.length sCap)).run P w.drew = .ok olds.flatten.toArray w.drew) (_ : sCap < xs.length + ys.length),
      ∃ v w', (Builtin.append_ #[T1, T2] T #[.slice base xs.length sCap, .slice ad2 ys.length cap2]).run P w = .ok v w' ∧ Res bs φ s w ((id, some (.arr (o'.join p) u (xs ++ ys))) :: K) (.own id) v w' := by
    intro xs o' hb K s' m1 m2 m3 m4 m6 ⟨q1, q2, q3, q4, q5⟩ base sCap olds n1 n2 n3 n4
    have hpush : ∀ b', s.push ((id, some b') :: K) = { s' with h := (id, some b') :: s'.h } := by
      intro b'
      cases s'; cases s
      simp only at q1 q2 q3 q4 q5 m6
      subst q1 q2 q3 q4 q5 m6
      rfl
    have hrun := run_append_grow_src (P := P) w T1 T2 T (ti T1 E).el xe ze hd1 e1 e4 base xs.length sCap olds.flatten n3 (.slice ad2 ys.length cap2) ys.length css.flatten hsrc n4
      (by have : (xs.length + ys.length) * 1 ≤ (xs.length + ys.length) * (ti (ti T1 E).el E).bytes := Nat.mul_le_mul_left _ hby
          omega) (by
        have := nextslicecap_le (need := xs.length + ys.length) (old := sCap) n4
        have h2 : Builtin.nextslicecap (xs.length + ys.length) sCap * xe.bytes ≤ 2 * (xs.length + ys.length) * xe.bytes := Nat.mul_le_mul_right _ this
        rw [e3] at h2 ⊢
        rw [Nat.mul_assoc] at h2
        omega)
    have hol : ∀ c ∈ olds, c.length = sz u := by
      intro c hc
      obtain ⟨j, hj, rfl⟩ := List.getElem_of_mem hc
      exact (n2 j (n1 ▸ hj) hj).length
    have hall : ∀ c ∈ olds ++ css, c.length = sz u := fun c hc => by rcases List.mem_append.1 hc with hc | hc <;> first | exact hol c hc | exact hcl c hc
    have hge := grownCap_ge w (xs.length + ys.length) sCap (ti T1 E).el
    have hzs : ze.cells.size = sz u := by rw [hTe.zs xe ze e1 e4, hsz]
    obtain ⟨g1, g2⟩ := m1.drew (w' := w.drew) rfl ⟨rfl, rfl, rfl, Nat.le_refl _, fun _ _ _ => rfl, fun _ _ cs e fz h => ⟨cs, e, fz, h, rfl⟩⟩
    have hsize : ((olds.flatten ++ css.flatten).toArray ++ Builtin.zeroCells ze.cells (grownCap w (xs.length + ys.length) sCap (ti T1 E).el - (xs.length + ys.length))).size = grownCap w (xs.length + ys.length) sCap (ti T1 E).el * sz u := by
      simp only [Array.size_append, List.size_toArray, List.length_append, flat_length hol, flat_length hcl, size_zeroCells, hzs, n1, c1]
      rw [← Nat.add_mul, ← Nat.add_mul]
      congr 1; omega
    obtain ⟨φ', r1, r2, r3⟩ := alloc_arr g1 m2 m3 (o' := o'.join p) (xs := xs ++ ys) (cs := (olds.flatten ++ css.flatten).toArray ++ Builtin.zeroCells ze.cells (grownCap w (xs.length + ys.length) sCap (ti T1 E).el - (xs.length + ys.length))) (ti T1 E).el
      (by rw [hsize, List.length_append]; exact Nat.mul_le_mul_right _ hge) (css := olds ++ css) (by simp [n1, c1]) (fun j hj => by
        by_cases hlt : j < xs.length
        · rw [List.getElem_append_left hlt, List.getElem_append_left (n1 ▸ hlt)]
          exact (RDs.le g2 (n2 j hlt (n1 ▸ hlt))).join1 p
        · rw [List.getElem_append_right (by omega), List.getElem_append_right (by omega)]
          have hj1 : j - xs.length < ys.length := by rw [List.length_append] at hj; omega
          have hj2 : j - xs.length < css.length := by omega
          have := c2 (j - xs.length) hj1 hj2
          have h3 : RD w.drew ((cx bs φ s' w.drew).ok (o'.join p)) u ys[j - xs.length] css[j - xs.length] := (RDs.le g2 (RDs.le m4 this)).join2 o'
          simp only [n1]
          exact h3) (fun i hi => by
        rw [List.flatten_append] at hi ⊢
        rw [Array.getElem?_append_left (by simpa using hi)]
        simp) (u := .own id) (v := .slice (some ⟨w.heap.size, 0, none⟩) (xs.length + ys.length) (grownCap w (xs.length + ys.length) sCap (ti T1 E).el)) fun c c1' c2' c3' c4' =>
          R.own_new c1' c2' c3' c4' (by simp) hge (by rw [hsize]; exact Nat.le_refl _)
    exact ⟨_, _, hrun, φ', by rw [hpush]; exact r1, by rw [hpush]; exact m4.trans (g2.trans r2), by rw [hpush]; exact r3⟩
  -- a nil slice, to begin with
  have nilCase : ∀ (ad : Option Addr) (o' : Org) (hb : ys.length * (ti (ti T1 E).el E).bytes ≤ 70368744177664) (K : List (Nat × Option Blk)) (s' : St) (_ : HM bs φ s' w) (_ : ¬ s'.al id) (_ : id < s'.nx) (_ : (cx bs φ s w).Le (cx bs φ s' w))
      (_ : s'.h = K ++ s.h) (_ : s'.n = s.n ∧ s'.t = s.t ∧ s'.nx = s.nx ∧ s'.m = s.m ∧ s'.df = s.df),
      ∃ v w', (Builtin.append_ #[T1, T2] T #[.slice ad 0 0, .slice ad2 ys.length cap2]).run P w = .ok v w' ∧ Res bs φ s w ((id, some (.arr (o'.join p) u ys)) :: K) (.own id) v w' := by
    intro ad o' hb K s' m1 m2 m3 m4 m6 hq
    have hq2 := hq
    obtain ⟨q1, q2, q3, q4, q5⟩ := hq2
    by_cases he : ys.length = 0
    · have he' := List.eq_nil_of_length_eq_zero he
      refine ⟨.slice ad 0 0, w, ?_, ?_⟩
      · have h1 := hsrc.len w
        have h2 := hsrc.cells
        have h3 : css.flatten = [] := List.eq_nil_of_length_eq_zero (by rw [hfl, he, Nat.zero_mul])
        rw [h3] at h2
        simp only [he] at h1 h2 ⊢
        cases ad <;> simp [Builtin.append_, run_underlying hd1, run_underlying hd2, sizeOf, typeInfo, e1, h1, h2, storeCells]
      · obtain ⟨g1, g2⟩ := m1.ghost m2 m3 (o'.join p) u
        have hpush : s.push ((id, some (.arr (o'.join p) u ys)) :: K) = { s' with h := (id, some (.arr (o'.join p) u [])) :: s'.h } := by
          cases s'; cases s
          simp only at q1 q2 q3 q4 q5 m6
          subst q1 q2 q3 q4 q5 m6
          rw [he']; rfl
        refine ⟨_, by rw [hpush]; exact g1, by rw [hpush]; exact m4.trans g2, ?_⟩
        rw [hpush]
        exact .own ((al_cons (s := s')).2 (Or.inl rfl)) (fun t n hx => by simp [cx, hl, shp] at hx; exact hx.2) (Or.inr ⟨rfl, rfl⟩) (fun t n hx b off hb => by rw [show (cx bs (φ.put id none noF) { s' with h := (id, some (Blk.arr (o'.join p) u [])) :: s'.h } w).φ id = none from if_pos rfl] at hb; cases hb) (Nat.le_refl _)
    · have hz : (Builtin.firstCells xe.size 0 (.slice ad 0 0)).run P w.drew = .ok #[] w.drew := by
        cases ad with
        | none => exact run_firstCells_none w.drew _ _ _ _
        | some a => simp [Builtin.firstCells]; rfl
      have := fresh [] o' (by simpa using hb) K s' m1 m2 m3 m4 m6 hq ad 0 [] rfl (fun j h1 _ => absurd h1 (Nat.not_lt_zero _)) hz (by simp; omega)
      simpa using this
  cases x with
  | nil t =>
    obtain ⟨e, h⟩ := To.asTy_inv h
    subst e
    obtain ⟨hb, h⟩ := To.vc_inv h
    rw [R.nil_inv hx]
    obtain ⟨v, w', r1, r2⟩ := nilCase none .fr hb [] s hM hn hid (Cx.Le.refl _) rfl ⟨rfl, rfl, rfl, rfl, rfl⟩
    exact ⟨_, _, _, To.ret_inv h, v, w', r1, r2⟩
  | own j =>
    obtain ⟨hjm, h⟩ := To.chk_inv h
    have hjm := Nat.le_of_ble_eq_true hjm
    have h := To.rd_inv h
    split at h
    · rename_i o' t xs hb
      obtain ⟨e, h⟩ := To.asTy_inv h
      subst e
      obtain ⟨hbd, h⟩ := To.vc_inv h
      have hjal := al_of_hl hb
      obtain ⟨k1, k2⟩ := hM.kill j hjal
      have hnk : ¬ (s.kill j).al id := fun hx => by
        rcases al_cons.1 hx with e | hx
        · exact hn (e ▸ hjal)
        · exact hn hx
      cases hx with
      | own h1 h2 h3 h4 h5 =>
        rename_i len cap ad
        have hlen := h2 _ _ (shp_arr hb)
        subst hlen
        rcases h3 with (⟨b, off, off', f1, f2, f3⟩ | ⟨f1, f2, f3, f4, _⟩) | ⟨f3, f4⟩
        · have f3 := f3 _ _ (shp_arr hb)
          simp at f3
          subst f3
          have f1 : φ j = some (b, off') := f1
          subst f2
          obtain ⟨cs, et, b1, b2, b3⟩ := blk_arr hM hb f1
          obtain ⟨cs', et', fz', b4, b5⟩ := h4 _ _ (shp_arr hb) b off' f1
          have b4 : w.heap[b]? = some (.cells cs' et' fz') := b4
          rw [b1] at b4
          cases b4
          simp only [Nat.zero_add] at b5
          by_cases hroom : xs.length + ys.length ≤ cap
          · have hmul : (xs.length + ys.length) * sz u ≤ cap * sz u := Nat.mul_le_mul_right _ hroom
            rw [Nat.add_mul] at hmul
            have hxsz : xe.size = sz u := by rw [e2, hsz]
            have hbnd : off' + xs.length * xe.size + css.flatten.length ≤ cs.size := by rw [hxsz, hfl]; omega
            have hrun := run_append_room_row (P := P) (w := w) T1 T2 T (ti T1 E).el xe hd1 e1 b off' xs.length cap (.slice ad2 ys.length cap2) ys.length css.flatten hsrc hroom b1 hbnd
            rw [hxsz] at hrun hbnd
            generalize hcs' : (cs.toList.take (off' + xs.length * sz u) ++ css.flatten ++ cs.toList.drop (off' + xs.length * sz u + css.flatten.length)).toArray = cs' at hrun
            have hcsz : cs'.size = cs.size := by rw [← hcs']; simp only [List.size_toArray, List.length_append, List.length_take, List.length_drop, Array.length_toList]; omega
            have hget : ∀ q, cs'[q]? = if q < off' + xs.length * sz u then cs[q]? else if q < off' + xs.length * sz u + css.flatten.length then css.flatten[q - (off' + xs.length * sz u)]? else cs[q]? := by
              intro q
              rw [← hcs']
              simp only [List.getElem?_toArray]
              rw [splice_get _ _ _ _ (by rw [Array.length_toList]; exact hbnd)]
              simp
            obtain ⟨g1, g2, g3, g4, g5⟩ := setRow_facts b1 cs' hcsz
            have hcell : ∀ q, (w.setRow b cs').cell? ⟨b, q, none⟩ = cs'[q]? := by intro q; simp only [World.cell?, g5]; rfl
            have hold : ∀ q, w.cell? ⟨b, q, none⟩ = cs[q]? := by intro q; simp only [World.cell?, b1]; rfl
            refine ⟨_, _, _, To.ret_inv h, _, _, hrun, ?_⟩
            refine Res.regrow hM hn hid hb f1 hjm (o'.join p) u (xs ++ ys) g1 g2 g4 (fun hle => Or.inl ⟨b, off', cs', et, if_pos rfl, g5, by rw [List.length_append, Nat.add_mul, hcsz]; omega, ?_⟩) fun c c1' c2' c3' c4' => ?_
            · intro i hi
              by_cases hlt : i < xs.length
              · obtain ⟨rc, r1, r2⟩ := b3 i hlt
                have hrl := r2.length
                refine ⟨rc, fun q hq => ?_, ?_⟩
                · have h1 : (i + 1) * sz u ≤ xs.length * sz u := Nat.mul_le_mul_right _ hlt
                  rw [Nat.add_mul] at h1
                  refine (hcell _).trans ?_
                  rw [hget, if_pos (by omega), ← hold]
                  exact r1 q hq
                · rw [List.getElem_append_left hlt]
                  exact (RDs.le hle r2).join1 p
              · have hj1 : i - xs.length < ys.length := by rw [List.length_append] at hi; omega
                have hj2 : i - xs.length < css.length := by omega
                refine ⟨css[i - xs.length], fun q hq => ?_, ?_⟩
                · have hq' : q < sz u := by rw [hcl _ (List.getElem_mem hj2)] at hq; exact hq
                  have h1 : (i - xs.length + 1) * sz u ≤ ys.length * sz u := Nat.mul_le_mul_right _ hj1
                  rw [Nat.add_mul] at h1
                  have h2 : i * sz u = xs.length * sz u + (i - xs.length) * sz u := by rw [← Nat.add_mul]; congr 1; omega
                  refine (hcell _).trans ?_
                  rw [hget, if_neg (by omega), if_pos (by rw [hfl]; omega), show off' + i * sz u + q - (off' + xs.length * sz u) = (i - xs.length) * sz u + q by omega, flat_row hcl _ hj2 q hq', List.getElem?_eq_getElem hq]
                · rw [List.getElem_append_right (by omega)]
                  exact (RDs.le hle (c2 _ hj1 hj2)).join2 o'
            · refine .own c1' (fun t n hx2 => by rw [shp_arr c3'] at hx2; cases hx2; simp) (Or.inl (Or.inl ⟨b, off', off', c2', rfl, fun t n hx2 => by simp⟩)) (fun t n hx2 b2 off2 hb2 => ?_) hroom
              rw [c2'] at hb2; cases hb2
              rw [shp_arr c3'] at hx2; cases hx2
              exact ⟨cs', et, _, by rw [c4']; exact g5, by rw [hcsz, Nat.zero_add]; exact b5⟩
          · obtain ⟨olds, q1, q2, q3, q4⟩ := rows_flat b3
            have hfc : (Builtin.firstCells xe.size xs.length (.slice (some ⟨b, off', none⟩) xs.length cap)).run P w.drew = .ok olds.flatten.toArray w.drew :=
              run_firstCells_some w.drew _ _ _ _ _ _ (by rw [q4, e2, hsz]) fun i v hv => by
                rw [add_none]
                obtain ⟨hi, e⟩ := List.getElem?_eq_some_iff.1 hv
                rw [← e]
                exact q3 i hi
            obtain ⟨v, w', r1, r2⟩ := fresh xs o' hbd [(j, none)] (s.kill j) k1 hnk hid k2 rfl ⟨rfl, rfl, rfl, rfl, rfl⟩ _ cap olds q1 (fun i h1 h2 => RDs.le k2 (q2 i h1 h2)) hfc (by omega)
            exact ⟨_, _, _, To.ret_inv h, v, w', r1, r2⟩
        · subst f2
          subst f4
          have hx0 : xs = [] := List.eq_nil_of_length_eq_zero f3
          subst hx0
          obtain ⟨v, w', r1, r2⟩ := nilCase none o' (by simpa using hbd) [(j, none)] (s.kill j) k1 hnk hid k2 rfl ⟨rfl, rfl, rfl, rfl, rfl⟩
          exact ⟨_, _, _, To.ret_inv h, v, w', r1, r2⟩
        · subst f4
          have hx0 : xs = [] := List.eq_nil_of_length_eq_zero f3
          subst hx0
          obtain ⟨v, w', r1, r2⟩ := nilCase ad o' (by simpa using hbd) [(j, none)] (s.kill j) k1 hnk hid k2 rfl ⟨rfl, rfl, rfl, rfl, rfl⟩
          exact ⟨_, _, _, To.ret_inv h, v, w', r1, r2⟩
    · exact (To.bad_inv h).elim
  | _ => exact (To.bad_inv h).elim

theorem ROs.flat {w : World} {t : Ty} {b : Nat} : ∀ {xs : List (D t)} {off : Nat} {G : Nat → Nat → Prop}, (∀ j (hj : j < xs.length), ∃ rc, RowAt w b (off + j * sz t) rc ∧ RO w t xs[j] rc (G j)) →
    ∃ css : List (List Value), css.length = xs.length ∧ (∀ j (h1 : j < xs.length) (h2 : j < css.length), RO w t xs[j] css[j] (G j)) ∧ RowAt w b off css.flatten ∧ css.flatten.length = xs.length * sz t
  | [], _, _, _ => ⟨[], rfl, fun j h1 _ => absurd h1 (Nat.not_lt_zero _), fun i hi => absurd hi (Nat.not_lt_zero _), by simp⟩
  | x :: xs, off, G, h => by
    obtain ⟨rc, r1, r2⟩ := h 0 (by simp)
    obtain ⟨css, c1, c2, c3, c4⟩ := ROs.flat (xs := xs) (off := off + sz t) (G := fun j => G (j + 1)) fun j hj => by
      obtain ⟨rc, r3, r4⟩ := h (j + 1) (by simpa using hj)
      exact ⟨rc, r3.sub (by rw [Nat.add_mul]; omega), r4⟩
    have hlen := r2.length
    refine ⟨rc :: css, by simp [c1], fun j h1 h2 => ?_, fun i hi => ?_, by simp [c4, hlen, Nat.add_mul]; omega⟩
    · cases j with
      | zero => exact r2
      | succ j => exact c2 j (by simpa using h1) (by simpa using h2)
    · simp only [List.flatten_cons] at hi ⊢
      by_cases hlt : i < rc.length
      · rw [List.getElem_append_left hlt]
        have := r1 i hlt
        simpa using this
      · rw [List.getElem_append_right (by omega)]
        have := c3 (i - rc.length) (by rw [List.length_append] at hi; omega)
        rw [← this]
        congr 2
        omega

/-- Rows of one's own in a row of cells. -/
theorem ROs.of_flat {w : World} {t : Ty} {b off : Nat} {xs : List (D t)} {css : List (List Value)} (h2 : css.length = xs.length) {F : Nat → Prop} {G : Nat → Nat → Prop} (g1 : ∀ j x, G j x → F x) (g2 : ∀ i j x, G i x → G j x → i = j)
    (h3 : ∀ j (h : j < xs.length) (h' : j < css.length), RO w t xs[j] css[j] (G j)) (hr : RowAt w b off css.flatten) : ROs w t b off xs F none := by
  have hl : ∀ c ∈ css, c.length = sz t := by
    intro c hc
    obtain ⟨j, hj, rfl⟩ := List.getElem_of_mem hc
    exact (h3 j (h2 ▸ hj) hj).length
  refine ⟨G, g1, g2, fun j hj _ => ⟨css[j]'(h2 ▸ hj), fun i hi => ?_, h3 j hj (h2 ▸ hj)⟩⟩
  have hi' : i < sz t := by rw [(h3 j hj (h2 ▸ hj)).length] at hi; exact hi
  have hlt : j * sz t + i < css.flatten.length := by
    rw [flat_length hl, h2]
    have : (j + 1) * sz t ≤ xs.length * sz t := Nat.mul_le_mul_right _ hj
    rw [Nat.add_mul] at this; omega
  have h := hr (j * sz t + i) hlt
  rw [Nat.add_assoc, h]
  have := flat_row hl j (h2 ▸ hj) i hi'
  rw [List.getElem?_eq_getElem hlt, List.getElem?_eq_getElem hi] at this
  exact this

/-- What belongs to two lists of rows. -/
def G2 (n : Nat) (G H : Nat → Nat → Prop) (j x : Nat) : Prop := (j < n ∧ G j x) ∨ (n ≤ j ∧ H (j - n) x)
theorem G2.apart {n : Nat} {G H : Nat → Nat → Prop} (g : ∀ i j x, G i x → G j x → i = j) (h : ∀ i j x, H i x → H j x → i = j) (hd : ∀ i j x, G i x → ¬ H j x) : ∀ i j x, G2 n G H i x → G2 n G H j x → i = j := by
  rintro i j x (⟨h1, h2⟩ | ⟨h1, h2⟩) (⟨h3, h4⟩ | ⟨h3, h4⟩)
  · exact g i j x h2 h4
  · exact absurd h4 (hd _ _ _ h2)
  · exact absurd h2 (hd _ _ _ h4)
  · have := h _ _ x h2 h4; omega

/-- Two lists of rows of one's own, one behind the other. -/
theorem RO.two {w w' : World} {t : Ty} {xs ys : List (D t)} {olds css : List (List Value)} {G H : Nat → Nat → Prop} (n1 : olds.length = xs.length) (c1 : css.length = ys.length)
    (h1 : ∀ j (h1 : j < xs.length) (h2 : j < olds.length), RO w t xs[j] olds[j] (G j)) (h2 : ∀ j (h1 : j < ys.length) (h2 : j < css.length), RO w t ys[j] css[j] (H j))
    (hG : ∀ j x, G j x → w'.heap[x]? = w.heap[x]?) (hH : ∀ j x, H j x → w'.heap[x]? = w.heap[x]?) : ∀ j (h : j < (xs ++ ys).length) (h' : j < (olds ++ css).length), RO w' t (xs ++ ys)[j] (olds ++ css)[j] (G2 xs.length G H j) := by
  intro j h h'
  by_cases hlt : j < xs.length
  · rw [List.getElem_append_left hlt, List.getElem_append_left (n1 ▸ hlt)]
    exact ((h1 j hlt (n1 ▸ hlt)).keep (hG j)).mono fun x hx => Or.inl ⟨hlt, hx⟩
  · rw [List.getElem_append_right (by omega), List.getElem_append_right (by omega)]
    simp only [n1]
    exact ((h2 (j - xs.length) (by rw [List.length_append] at h; omega) (by rw [List.length_append] at h'; omega)).keep (hH _)).mono fun x hx => Or.inr ⟨by omega, hx⟩

/-- The rows that a slice over a block of rows of one's own holds. -/
theorem deep_rows (hM : HM bs φ s w) {q : Nat} {t : Ty} {ys : List (D t)} (hb : hl q s.h = some (.deep t ys)) {v : Value} (hy : R (cx bs φ s w) (.own q) v) :
    ∃ ad cap, v = .slice ad ys.length cap ∧ ∃ css : List (List Value), css.length = ys.length ∧ ∃ G : Nat → Nat → Prop, (∀ j x, G j x → φ.ψ q x) ∧ (∀ i j x, G i x → G j x → i = j) ∧
      (∀ j (h1 : j < ys.length) (h2 : j < css.length), RO w t ys[j] css[j] (G j)) ∧ (ys ≠ [] → ∃ b off, φ q = some (b, off) ∧ ad = some ⟨b, off, none⟩ ∧ RowAt w b off css.flatten) := by
  cases hy with
  | own h1 h2 h3 h4 h5 =>
    have hlen := h2 _ _ (shp_deep hb)
    subst hlen
    refine ⟨_, _, rfl, ?_⟩
    by_cases he : ys = []
    · subst he
      exact ⟨[], rfl, fun _ _ => False, fun _ _ h => h.elim, fun _ _ _ h => h.elim, fun j h1 _ => absurd h1 (Nat.not_lt_zero _), fun h => absurd rfl h⟩
    · have hne : ys.length ≠ 0 := fun e => he (List.eq_nil_of_length_eq_zero e)
      rcases h3 with (⟨b, off, off', e1, e2, e3⟩ | ⟨_, _, e3, _⟩) | ⟨e3, _⟩
      · have e3 := e3 _ _ (shp_deep hb)
        simp at e3
        subst e3
        obtain ⟨cs, e, f1, f2, f3, G, g1, g2, g3⟩ := blk_deep hM hb e1
        obtain ⟨css, q1, q2, q3, _⟩ := ROs.flat (fun j hj => g3 j hj (by simp))
        exact ⟨css, q1, G, g1, g2, q2, fun _ => ⟨b, _, e1, e2, q3⟩⟩
      · exact absurd e3 hne
      · exact absurd e3 hne

theorem append_sound (hE : EnvOK P E) (hM : HM bs φ s w) (hn : ¬ s.al id) (hid : id < s.nx) {T1 T2 T : TypeId} {x y : AV} {vx vy : Value} (hx : R (cx bs φ s w) x vx) (hy : R (cx bs φ s w) y vy)
    (hk1 : (ti T1 E).kd = 3) (hk2 : (ti T2 E).kd = 3)
    (h : To P (hl · s.h) id (append s.m (ti (ti T1 E).el E) id x y) log o) :
    ∃ u hs rd, o = .ok u hs rd ∧ ∃ v w', (Builtin.append_ #[T1, T2] T #[vx, vy]).run P w = .ok v w' ∧ Res bs φ s w hs u v w' := by
  have key : ∀ {q : Nat} {u : Ty} {ys : List (D u)}, y = .own q → hl q s.h = some (.deep u ys) → s.m ≤ q → sz u = (ti (ti T1 E).el E).sz → 1 ≤ (ti (ti T1 E).el E).bytes →
      ∀ (xs : List (D u)) (base : Option Addr) (sCap : Nat) (idd : List Nat) (pj : Option (Nat × Nat)) (Fj : Nat → Prop), vx = .slice base xs.length sCap → xs.length ≤ sCap → (xs.length + ys.length) * (ti (ti T1 E).el E).bytes ≤ 70368744177664 →
        (∀ i ∈ idd, s.m ≤ i ∧ hl i s.h ≠ none ∧ i ≠ q) → (∀ x, ((∃ off, pj = some (x, off)) ∨ Fj x) → ownF φ idd x) →
        (sCap = 0 ∧ pj = none ∨ ∃ b off cs e, pj = some (b, off) ∧ base = some ⟨b, off, none⟩ ∧ w.heap[b]? = some (.cells cs e (0, 0)) ∧ off + sCap * sz u ≤ cs.size ∧ ¬ Fj b) →
        (∃ olds : List (List Value), olds.length = xs.length ∧ ∃ G : Nat → Nat → Prop, (∀ j x, G j x → Fj x) ∧ (∀ i j x, G i x → G j x → i = j) ∧ (∀ j (h1 : j < xs.length) (h2 : j < olds.length), RO w u xs[j] olds[j] (G j)) ∧ (xs ≠ [] → ∃ b off, pj = some (b, off) ∧ RowAt w b off olds.flatten)) →
        ∃ v w', (Builtin.append_ #[T1, T2] T #[vx, vy]).run P w = .ok v w' ∧ Res bs φ s w ((id, some (.deep u (xs ++ ys))) :: kills (idd ++ [q]) []) (.own id) v w' := by
    rintro q u ys rfl hq hqm hsz hby xs base sCap idd pj Fj rfl hcap hbd hidd hFj hpj ⟨olds, n1, G, g1, g2, n2, n3⟩
    have hpos := sz_pos u
    have hTe := hE.sz (T := (ti T1 E).el) (by omega)
    obtain ⟨xe, ze, e1, e2, e3, e4, e5, e6, _⟩ := hTe.inf
    obtain ⟨d1, hd1, hd1'⟩ := (hE.kd (T := T1) (by omega)).u
    have := hd1'.slice hk1
    subst this
    obtain ⟨d2, hd2, hd2'⟩ := (hE.kd (T := T2) (by omega)).u
    have := hd2'.slice hk2
    subst this
    obtain ⟨ad2, cap2, rfl, css, c1, H, k1, k2, c2, c3⟩ := deep_rows hM hq hy
    have hsrc : Src P xe.size T2 (.slice ad2 ys.length cap2) ys.length css.flatten w :=
      src_of (ok := fun _ => True) hd2 (by rw [e2, hsz]) c1 (fun j h1 h2 => (c2 j h1 h2).data fun _ _ _ => trivial) fun hne => by
        obtain ⟨b, off, r1, r2, r3⟩ := c3 hne
        exact ⟨b, off, r2, r3⟩
    have hol : ∀ c ∈ olds, c.length = sz u := by
      intro c hc
      obtain ⟨j, hj, rfl⟩ := List.getElem_of_mem hc
      exact (n2 j (n1 ▸ hj) hj).length
    have hcl : ∀ c ∈ css, c.length = sz u := by
      intro c hc
      obtain ⟨j, hj, rfl⟩ := List.getElem_of_mem hc
      exact (c2 j (c1 ▸ hj) hj).length
    have hfl : css.flatten.length = ys.length * sz u := by rw [flat_length hcl, c1]
    have hfo : olds.flatten.length = xs.length * sz u := by rw [flat_length hol, n1]
    have hqn : hl q s.h ≠ none := by rw [hq]; simp
    have hids : ∀ i ∈ idd ++ [q], s.m ≤ i ∧ hl i s.h ≠ none := by
      intro i hi
      rcases List.mem_append.1 hi with hi | hi
      · exact ⟨(hidd i hi).1, (hidd i hi).2.1⟩
      · rw [List.mem_singleton.1 hi]; exact ⟨hqm, hqn⟩
    have hcross : ∀ x, ownF φ idd x → ¬ φ.own q x := by
      rintro x ⟨i, hi, hx⟩ hy
      exact (hidd i hi).2.2 (hM.inj i q x (hidd i hi).2.1 hqn hx hy)
    have hG2 := G2.apart (n := xs.length) g2 k2 fun i j x hx hy => hcross x (hFj x (Or.inr (g1 i x hx))) (Or.inr (k1 j x hy))
    have hown : ∀ x, ownF φ idd x ∨ φ.own q x → ownF φ (idd ++ [q]) x := by
      rintro x (⟨i, hi, hx⟩ | hx)
      · exact ⟨i, by simp [hi], hx⟩
      · exact ⟨q, by simp, hx⟩
    have hlt : ∀ x, ownF φ (idd ++ [q]) x → x < w.heap.size := fun x ⟨i, hi, hx⟩ => hM.lt (hids i hi).2 hx
    let F : Nat → Prop := fun x => Fj x ∨ φ.ψ q x
    have hFo : ∀ x, F x → ownF φ (idd ++ [q]) x := fun x hx => hx.elim (fun h => hown x (Or.inl (hFj x (Or.inr h)))) fun h => hown x (Or.inr (Or.inr h))
    have hgF : ∀ j x, G2 xs.length G H j x → F x := fun j x hx => hx.elim (fun h => Or.inl (g1 j x h.2)) fun h => Or.inr (k1 _ x h.2)
    have hxsz : xe.size = sz u := by rw [e2, hsz]
    have fin : ∀ {p : Option (Nat × Nat)} {v : Value} {w' : World}, (∀ x, ((∃ off, p = some (x, off)) ∨ F x) → ownF φ (idd ++ [q]) x ∨ (w.heap.size ≤ x ∧ x < w'.heap.size)) → w.heap.size ≤ w'.heap.size →
        (∀ k, k < w.heap.size → ¬ ownF φ (idd ++ [q]) k → w'.heap[k]? = w.heap[k]?) → (w'.os = w.os ∧ w'.tape = w.tape ∧ w'.output = w.output) →
        ((p = none ∧ xs ++ ys = []) ∨ ∃ b off cs e, p = some (b, off) ∧ w'.heap[b]? = some (.cells cs e (0, 0)) ∧ off + (xs ++ ys).length * sz u ≤ cs.size ∧ ¬ F b ∧ ROs w' u b off (xs ++ ys) F none) →
        (∀ c : Cx, c.al id → c.φ id = p → shp (c.h id) = some (u, (xs ++ ys).length) → c.w = w' → R c (.own id) v) → Res bs φ s w ((id, some (.deep u (xs ++ ys))) :: kills (idd ++ [q]) []) (.own id) v w' := by
      intro p v w' a1 a2 a3 a4 a5 a6
      obtain ⟨h1, h2⟩ := hM.take hn hid hids p F (.deep u (xs ++ ys)) a1 a2 a3 a4 fun hle => by
        rcases a5 with ⟨b1, b2⟩ | ⟨b, off, cs, e, b1, b2, b3, b4, b5⟩
        · exact Or.inr ⟨(if_pos rfl).trans b1, b2⟩
        · refine Or.inl ⟨b, off, cs, e, (if_pos rfl).trans b1, b2, b3, ?_, ?_⟩
          · show ¬ (φ.put id p F).ψ id b
            rw [Ph.put_ψ]; exact b4
          · show ROs w' u b off (xs ++ ys) ((φ.put id p F).ψ id) none
            rw [Ph.put_ψ]; exact b5
      have e1 : s.push ((id, some (.deep u (xs ++ ys))) :: kills (idd ++ [q]) []) = { s with h := (id, some (Blk.deep u (xs ++ ys))) :: kills (idd ++ [q]) s.h } := by
        simp only [St.push, List.cons_append, kills_push, List.nil_append]
      refine ⟨φ.put id p F, by rw [e1]; exact h1, by rw [e1]; exact h2, ?_⟩
      rw [e1]
      exact a6 _ ((al_cons (s := s.kills (idd ++ [q]))).2 (Or.inl rfl)) (if_pos rfl) (by simp [cx, hl, shp]) rfl
    by_cases hroom : xs.length + ys.length ≤ sCap
    · by_cases hz : ys = []
      · -- nothing to be appended
        subst hz
        have hcss : css = [] := List.eq_nil_of_length_eq_zero c1
        subst hcss
        have h1 := hsrc.len w
        have h2 := hsrc.cells
        refine ⟨.slice base xs.length sCap, w, ?_, ?_⟩
        · simp only [List.length_nil, List.flatten_nil] at h1 h2 ⊢
          cases base <;> simp [Builtin.append_, run_underlying hd1, run_underlying hd2, sizeOf, typeInfo, e1, h1, h2, storeCells, hcap]
        · refine fin (p := pj) (fun x hx => Or.inl ?_) (Nat.le_refl _) (fun _ _ _ => rfl) ⟨rfl, rfl, rfl⟩ ?_ fun c a1 a2 a3 a4 => ?_
          · rcases hx with hx | hx
            · exact hown x (Or.inl (hFj x (Or.inl hx)))
            · exact hFo x hx
          · rcases hpj with ⟨p1, p2⟩ | ⟨b, off, cs, e, p1, p2, p3, p4, p5⟩
            · refine Or.inl ⟨p2, ?_⟩
              have : xs = [] := List.eq_nil_of_length_eq_zero (by omega)
              subst this; rfl
            · refine Or.inr ⟨b, off, cs, e, p1, p3, ?_, ?_, ?_⟩
              · have : xs.length * sz u ≤ sCap * sz u := Nat.mul_le_mul_right _ hcap
                simp; omega
              · rintro (hb | hb)
                · exact p5 hb
                · exact hcross b (hFj b (Or.inl ⟨off, p1⟩)) (Or.inr hb)
              · rw [List.append_nil]
                by_cases hx0 : xs = []
                · subst hx0
                  exact ⟨fun _ _ => False, fun _ _ h => h.elim, fun _ _ _ h => h.elim, fun j hj => absurd hj (Nat.not_lt_zero _)⟩
                · obtain ⟨b', off', q1, q2⟩ := n3 hx0
                  rw [p1] at q1; cases q1
                  exact ROs.of_flat n1 (fun j x hx => Or.inl (g1 j x hx)) g2 n2 q2
          · rw [List.append_nil] at a3
            rcases hpj with ⟨p1, p2⟩ | ⟨b, off, cs, e, p1, p2, p3, p4, p5⟩
            · exact .own a1 (fun t n hx => by rw [a3] at hx; cases hx; rfl) (Or.inr ⟨by omega, p1⟩) (fun t n hx b off hb => by rw [a2, p2] at hb; cases hb) hcap
            · rw [p2]
              exact .own a1 (fun t n hx => by rw [a3] at hx; cases hx; rfl) (Or.inl (Or.inl ⟨b, off, off, a2.trans p1, rfl, fun t n hx => by simp⟩)) (fun t n hx b2 off2 hb => by
                rw [a2, p1] at hb; cases hb
                rw [a3] at hx; cases hx
                exact ⟨cs, e, _, by rw [a4]; exact p3, by simpa using p4⟩) hcap
      · -- in place
        have hyl : ys.length ≠ 0 := fun e => hz (List.eq_nil_of_length_eq_zero e)
        rcases hpj with ⟨p1, _⟩ | ⟨b, off, cs, et, p1, rfl, p3, p4, p5⟩
        · omega
        have hmul : (xs.length + ys.length) * sz u ≤ sCap * sz u := Nat.mul_le_mul_right _ hroom
        rw [Nat.add_mul] at hmul
        have hbnd : off + xs.length * xe.size + css.flatten.length ≤ cs.size := by rw [hxsz, hfl]; omega
        have hrun := run_append_room_row (P := P) (w := w) T1 T2 T (ti T1 E).el xe hd1 e1 b off xs.length sCap (.slice ad2 ys.length cap2) ys.length css.flatten hsrc hroom p3 hbnd
        rw [hxsz] at hrun hbnd
        have hbo : ownF φ idd b := hFj b (Or.inl ⟨off, p1⟩)
        have hbF : ¬ F b := by
          rintro (hb | hb)
          · exact p5 hb
          · exact hcross b hbo (Or.inr hb)
        obtain ⟨f1, f2, f3, f4, f5⟩ := setRow_facts p3 (cs.toList.take (off + xs.length * sz u) ++ css.flatten ++ cs.toList.drop (off + xs.length * sz u + css.flatten.length)).toArray (by simp only [List.size_toArray, List.length_append, List.length_take, List.length_drop, Array.length_toList]; omega)
        have hcs : (cs.toList.take (off + xs.length * sz u) ++ css.flatten ++ cs.toList.drop (off + xs.length * sz u + css.flatten.length)).toArray.size = cs.size := by simp only [List.size_toArray, List.length_append, List.length_take, List.length_drop, Array.length_toList]; omega
        have hkeep : ∀ x, F x → (w.setRow b (cs.toList.take (off + xs.length * sz u) ++ css.flatten ++ cs.toList.drop (off + xs.length * sz u + css.flatten.length)).toArray).heap[x]? = w.heap[x]? := fun x hx => f2 x fun e => hbF (e ▸ hx)
        refine ⟨_, _, hrun, fin (p := pj) (fun x hx => Or.inl ?_) (Nat.le_of_eq f1.symm) (fun k _ hk => f2 k fun e => hk (e ▸ hown b (Or.inl hbo))) f4 (Or.inr ⟨b, off, _, et, p1, f5, by rw [hcs, List.length_append, Nat.add_mul]; omega, hbF, ?_⟩) fun c a1 a2 a3 a4 => ?_⟩
        · rcases hx with hx | hx
          · exact hown x (Or.inl (hFj x (Or.inl hx)))
          · exact hFo x hx
        · refine ROs.of_flat (css := olds ++ css) (by simp [n1, c1]) hgF hG2 (RO.two n1 c1 n2 c2 (fun j x hx => hkeep x (Or.inl (g1 j x hx))) fun j x hx => hkeep x (Or.inr (k1 j x hx))) ?_
          rw [List.flatten_append]
          intro i hi
          rw [splice_cell p3 css.flatten (off + xs.length * sz u) hbnd]
          rw [List.length_append, hfo] at hi
          by_cases hlt : i < xs.length * sz u
          · rw [if_pos (by omega), List.getElem_append_left (by omega)]
            have hx0 : xs ≠ [] := by rintro rfl; simp at hlt
            obtain ⟨b', off', q1, q2⟩ := n3 hx0
            rw [p1] at q1; cases q1
            exact q2 i (by omega)
          · rw [if_neg (by omega), if_pos (by omega), List.getElem_append_right (by omega)]
            rw [show off + i - (off + xs.length * sz u) = i - olds.flatten.length by omega, List.getElem?_eq_getElem (by omega)]
        · exact .own a1 (fun t n hx => by rw [a3] at hx; cases hx; simp) (Or.inl (Or.inl ⟨b, off, off, a2.trans p1, rfl, fun t n hx => by simp⟩)) (fun t n hx b2 off2 hb => by
            rw [a2, p1] at hb; cases hb
            rw [a3] at hx; cases hx
            exact ⟨_, et, _, by rw [a4]; exact f5, by rw [hcs]; simpa using p4⟩) hroom
    · -- a new row
      have hfc : (Builtin.firstCells xe.size xs.length (.slice base xs.length sCap)).run P w.drew = .ok olds.flatten.toArray w.drew := by
        by_cases hx0 : xs = []
        · subst hx0
          have : olds = [] := List.eq_nil_of_length_eq_zero n1
          subst this
          cases base with
          | none => exact run_firstCells_none w.drew _ _ _ _
          | some a => simp [Builtin.firstCells]; rfl
        · obtain ⟨b, off, q1, q2⟩ := n3 hx0
          rcases hpj with ⟨_, p2⟩ | ⟨b', off', cs, et, p1, rfl, p3, p4, p5⟩
          · rw [p2] at q1; cases q1
          · rw [p1] at q1; cases q1
            exact run_firstCells_some w.drew _ _ _ _ _ _ (by rw [hfo, hxsz]) fun i v hv => by
              rw [add_none]
              obtain ⟨hi, e⟩ := List.getElem?_eq_some_iff.1 hv
              rw [← e]
              exact q2 i hi
      have hrun := run_append_grow_src (P := P) w T1 T2 T (ti T1 E).el xe ze hd1 e1 e4 base xs.length sCap olds.flatten hfc (.slice ad2 ys.length cap2) ys.length css.flatten hsrc (by omega)
        (by have : (xs.length + ys.length) * 1 ≤ (xs.length + ys.length) * (ti (ti T1 E).el E).bytes := Nat.mul_le_mul_left _ hby
            omega) (by
          have := nextslicecap_le (need := xs.length + ys.length) (old := sCap) (by omega)
          have h2 : Builtin.nextslicecap (xs.length + ys.length) sCap * xe.bytes ≤ 2 * (xs.length + ys.length) * xe.bytes := Nat.mul_le_mul_right _ this
          rw [e3] at h2 ⊢
          rw [Nat.mul_assoc] at h2
          omega)
      have hge := grownCap_ge w (xs.length + ys.length) sCap (ti T1 E).el
      have hzs : ze.cells.size = sz u := by rw [hTe.zs xe ze e1 e4, hsz]
      have hsize : ((olds.flatten ++ css.flatten).toArray ++ Builtin.zeroCells ze.cells (grownCap w (xs.length + ys.length) sCap (ti T1 E).el - (xs.length + ys.length))).size = grownCap w (xs.length + ys.length) sCap (ti T1 E).el * sz u := by
        simp only [Array.size_append, List.size_toArray, List.length_append, hfo, hfl, size_zeroCells, hzs]
        rw [← Nat.add_mul, ← Nat.add_mul]
        congr 1; omega
      refine ⟨_, _, hrun, ?_⟩
      generalize hcells : (olds.flatten ++ css.flatten).toArray ++ Builtin.zeroCells ze.cells (grownCap w (xs.length + ys.length) sCap (ti T1 E).el - (xs.length + ys.length)) = cells at *
      have hnew : (w.drew.alloc (.cells cells (ti T1 E).el)).heap[w.heap.size]? = some (.cells cells (ti T1 E).el (0, 0)) := alloc_new w.drew _
      have hold : ∀ k, k < w.heap.size → (w.drew.alloc (.cells cells (ti T1 E).el)).heap[k]? = w.heap[k]? := fun k hk => Below.heap_alloc w.drew _ k hk
      have hle : w.heap.size + 1 = (w.drew.alloc (.cells cells (ti T1 E).el)).heap.size := by
        show _ = (w.heap.push _).size
        simp
      refine fin (p := some (w.heap.size, 0)) (fun x hx => ?_) (by omega) (fun k hk _ => hold k hk) ⟨rfl, rfl, rfl⟩ (Or.inr ⟨w.heap.size, 0, cells, _, rfl, hnew, by rw [hsize, List.length_append, Nat.zero_add]; exact Nat.mul_le_mul_right _ hge, fun hb => absurd (hlt _ (hFo _ hb)) (Nat.lt_irrefl _), ?_⟩) fun c a1 a2 a3 a4 => ?_
      · rcases hx with ⟨off, hx⟩ | hx
        · cases hx; exact Or.inr ⟨Nat.le_refl _, by omega⟩
        · exact Or.inl (hFo x hx)
      · refine ROs.of_flat (css := olds ++ css) (by simp [n1, c1]) hgF hG2 (RO.two n1 c1 n2 c2 (fun j x hx => hold x (hlt x (hFo x (Or.inl (g1 j x hx))))) fun j x hx => hold x (hlt x (hFo x (Or.inr (k1 j x hx))))) ?_
        rw [List.flatten_append]
        intro i hi
        simp only [World.cell?, hnew]
        rw [← hcells, Nat.zero_add, Array.getElem?_append_left (by simpa using hi), ← List.getElem?_eq_getElem hi]
        simp
      · exact .own a1 (fun t n hx => by rw [a3] at hx; cases hx; simp) (Or.inl (Or.inl ⟨w.heap.size, 0, 0, a2, rfl, fun t n hx => by simp⟩)) (fun t n hx b2 off2 hb => by
          rw [a2] at hb; cases hb
          rw [a3] at hx; cases hx
          exact ⟨cells, _, _, by rw [a4]; exact hnew, by rw [hsize]; simp⟩) hge
  unfold append at h
  split at h
  · rename_i t q
    have h' := To.rd_inv h
    split at h'
    · rename_i u ys hq
      obtain ⟨hqm, h'⟩ := To.chk_inv h'
      obtain ⟨hsz, h'⟩ := To.chk_inv h'
      obtain ⟨hby, h'⟩ := To.chk_inv h'
      have h' := To.forceT_inv h'
      obtain ⟨e, h'⟩ := To.asTy_inv h'
      subst e
      obtain ⟨hbd, h'⟩ := To.vc_inv h'
      obtain ⟨v, w', r1, r2⟩ := key rfl hq (Nat.le_of_ble_eq_true hqm) (Nat.eq_of_beq_eq_true hsz) (Nat.le_of_ble_eq_true hby) [] none 0 [] none noF (R.nil_inv hx) (Nat.le_refl _) (by simpa using hbd) (fun _ h => absurd h List.not_mem_nil) (fun x hx => by
        rcases hx with ⟨_, hx⟩ | hx
        · cases hx
        · exact hx.elim) (Or.inl ⟨rfl, rfl⟩) ⟨[], rfl, fun _ _ => False, fun _ _ h => h.elim, fun _ _ _ h => h.elim, fun j h1 _ => absurd h1 (Nat.not_lt_zero _), fun h => absurd rfl h⟩
      exact ⟨_, _, _, To.ret_inv h', v, w', r1, by simpa [kills] using r2⟩
    · exact appendA_sound hE hM hn hid hx hy hk1 hk2 h'
  · rename_i j q
    have h' := To.rd_inv h
    split at h'
    · rename_i t xs hj
      have h' := To.rd_inv h'
      split at h'
      · rename_i u ys hq
        obtain ⟨hjm, h'⟩ := To.chk_inv h'
        obtain ⟨hqm, h'⟩ := To.chk_inv h'
        obtain ⟨hjq, h'⟩ := To.chk_inv h'
        obtain ⟨hsz, h'⟩ := To.chk_inv h'
        obtain ⟨hby, h'⟩ := To.chk_inv h'
        have h' := To.forceT_inv h'
        obtain ⟨e, h'⟩ := To.asTy_inv h'
        subst e
        obtain ⟨hbd, h'⟩ := To.vc_inv h'
        have hne : j ≠ q := by rintro rfl; simp at hjq
        obtain ⟨ad, cap, rfl, olds, n1, G, g1, g2, n2, n3⟩ := deep_rows hM hj hx
        have hown : ∀ x, φ.own j x → ownF φ [j] x := fun x hx => ⟨j, by simp, hx⟩
        have hjn : hl j s.h ≠ none := by rw [hj]; simp
        obtain ⟨v, w', r1, r2⟩ : ∃ v w', (Builtin.append_ #[T1, T2] T #[.slice ad xs.length cap, vy]).run P w = .ok v w' ∧ Res bs φ s w ((id, some (.deep u (xs ++ ys))) :: kills ([j] ++ [q]) []) (.own id) v w' := by
          cases hx with
          | own h1 h2 h3 h4 h5 =>
            have nilc : xs.length = 0 → cap = 0 → ∃ v w', (Builtin.append_ #[T1, T2] T #[.slice ad xs.length cap, vy]).run P w = .ok v w' ∧ Res bs φ s w ((id, some (.deep u (xs ++ ys))) :: kills ([j] ++ [q]) []) (.own id) v w' := fun hx0 hc0 => by
              have hx0 := List.eq_nil_of_length_eq_zero hx0
              subst hx0
              exact key rfl hq (Nat.le_of_ble_eq_true hqm) (Nat.eq_of_beq_eq_true hsz) (Nat.le_of_ble_eq_true hby) [] ad cap [j] none noF rfl h5 hbd (fun i hi => by rw [List.mem_singleton.1 hi]; exact ⟨Nat.le_of_ble_eq_true hjm, hjn, hne⟩) (fun x hx => by
                rcases hx with ⟨_, hx⟩ | hx
                · cases hx
                · exact hx.elim) (Or.inl ⟨hc0, rfl⟩) ⟨[], rfl, fun _ _ => False, fun _ _ h => h.elim, fun _ _ _ h => h.elim, fun j h1 _ => absurd h1 (Nat.not_lt_zero _), fun h => absurd rfl h⟩
            rcases h3 with (⟨b, off, off', f1, f2, f3⟩ | ⟨f1, f2, f3, f4, _⟩) | ⟨f3, f4⟩
            · have f3 := f3 _ _ (shp_deep hj)
              simp at f3
              subst f3
              have f1 : φ j = some (b, off') := f1
              obtain ⟨cs, et, b1, b2, b3, b4⟩ := blk_deep hM hj f1
              obtain ⟨cs', et', fz', b5, b6⟩ := h4 _ _ (shp_deep hj) b off' f1
              have b5 : w.heap[b]? = some (.cells cs' et' fz') := b5
              rw [b1] at b5
              cases b5
              exact key rfl hq (Nat.le_of_ble_eq_true hqm) (Nat.eq_of_beq_eq_true hsz) (Nat.le_of_ble_eq_true hby) xs ad cap [j] (φ j) (φ.ψ j) rfl h5 hbd (fun i hi => by rw [List.mem_singleton.1 hi]; exact ⟨Nat.le_of_ble_eq_true hjm, hjn, hne⟩) (fun x hx => hown x hx)
                (Or.inr ⟨b, off', cs, et, f1, f2, b1, by simpa using b6, b3⟩) ⟨olds, n1, G, g1, g2, n2, fun hne => by
                  obtain ⟨b', off2, q1, _, q3⟩ := n3 hne
                  exact ⟨b', off2, q1, q3⟩⟩
            · exact nilc f3 f4
            · exact nilc f3 f4
        exact ⟨_, _, _, To.ret_inv h', v, w', r1, by simpa [kills] using r2⟩
      · exact (To.bad_inv h').elim
    · exact appendA_sound hE hM hn hid hx hy hk1 hk2 h'
  · exact appendA_sound hE hM hn hid hx hy hk1 hk2 h

/-- The same block, its memory said to lie in more places. -/
theorem HM.org (h : HM bs φ s w) {id : Nat} {o' : Org} {t : Ty} {xs : List (D t)} (hb : hl id s.h = some (.arr o' t xs)) (p : Org) :
    HM bs φ { s with h := (id, some (.arr (o'.join p) t xs)) :: s.h } w ∧ (cx bs φ s w).Le (cx bs φ { s with h := (id, some (.arr (o'.join p) t xs)) :: s.h } w) := by
  have hlk : ∀ j, hl j ((id, some (Blk.arr (o'.join p) t xs)) :: s.h) = if id = j then some (.arr (o'.join p) t xs) else hl j s.h := fun j => hl_cons j id _ s.h
  have hal : s.al id := al_of_hl hb
  have hlv : ∀ j, hl j ((id, some (Blk.arr (o'.join p) t xs)) :: s.h) ≠ none → hl j s.h ≠ none := by
    intro j hj
    rw [hlk] at hj
    split at hj
    · rename_i e; subst e; rw [hb]; simp
    · exact hj
  refine h.shift (s' := { s with h := (id, some (.arr (o'.join p) t xs)) :: s.h }) (fun j hj => al_cons.2 (Or.inr hj)) (fun j hj => ?_) rfl (fun _ _ => rfl) (fun j _ t' n hx => ?_) (fun j _ hn => hlv j hn) (fun _ _ _ _ _ _ cs e fz hc => ⟨cs, e, fz, hc, rfl⟩)
    (fun j b hj hp => Or.inl ⟨j, hlv j hj, hp⟩) (fun i j b hi hj => h.inj i j b (hlv i hi) (hlv j hj)) (fun i b hi => h.lo i b (hlv i hi)) (Nat.le_refl _) (fun _ _ _ => rfl) (Keeps.refl _ _ _) fun hle j x hx => ?_
  · rcases al_cons.1 hj with rfl | hj
    · exact h.kb _ hal
    · exact h.kb _ hj
  · have hx : shp (hl j ((id, some (Blk.arr (o'.join p) t xs)) :: s.h)) = _ := hx
    rw [hlk] at hx
    by_cases e : id = j
    · rw [if_pos e] at hx; rw [← e, hb]; exact hx
    · rw [if_neg e] at hx; exact hx
  · rcases hl_cases hx with ⟨e, e2⟩ | ⟨e, hx⟩
    · subst e; cases e2
      rcases h.h _ _ hb with ⟨b, off, cs, e, h1, h2, h3, h4⟩ | ⟨h1, h2⟩
      · exact Or.inl ⟨b, off, cs, e, h1, h2, h3, fun j hj => by
          obtain ⟨rc, r1, r2⟩ := h4 j hj
          exact ⟨rc, r1, (RDs.le hle r2).join1 p⟩⟩
      · exact Or.inr ⟨h1, h2⟩
    · exact BlkOK.le hle (al_of_hl hx) rfl (fun _ _ => rfl) (h.h j x hx)

theorem flat_take {n : Nat} : ∀ {css : List (List Value)} {k : Nat}, (∀ c ∈ css, c.length = n) → (css.take k).flatten = css.flatten.take (k * n)
  | [], k, _ => by simp
  | c :: css, 0, _ => by simp
  | c :: css, k + 1, h => by
    have hc := h c (by simp)
    have e1 : c.take (k * n + n) = c := List.take_of_length_le (by omega)
    rw [List.take_succ_cons, List.flatten_cons, List.flatten_cons, flat_take (fun c hc => h c (by simp [hc])), List.take_append, hc, Nat.add_mul, Nat.one_mul, Nat.add_sub_cancel, e1]
theorem flat_drop {n : Nat} : ∀ {css : List (List Value)} {k : Nat}, (∀ c ∈ css, c.length = n) → (css.drop k).flatten = css.flatten.drop (k * n)
  | [], k, _ => by simp
  | c :: css, 0, _ => by simp
  | c :: css, k + 1, h => by
    have hc := h c (by simp)
    have e1 : c.drop (k * n + n) = [] := List.drop_of_length_le (by omega)
    rw [List.drop_succ_cons, List.flatten_cons, flat_drop (fun c hc => h c (by simp [hc])), List.drop_append, hc, Nat.add_mul, Nat.one_mul, Nat.add_sub_cancel, e1, List.nil_append]

theorem run_copy_flat {dT sT ty e : TypeId} {size : Nat} (hd : P.underlying dT = some (.slice e)) (hsz : ∀ w, (sizeOf e).run P w = .ok size w) (b off dLen dCap n sCap : Nat) (ad : Option Addr) (news : List Value) {cs : Array Value} {et : TypeId}
    (hsrc : (Builtin.firstCells size (Nat.min n dLen) (.slice ad n sCap)).run P w = .ok news.toArray w) (hb : w.heap[b]? = some (.cells cs et (0, 0))) (hfit : off + news.length ≤ cs.size) (h1 : ∀ v ∈ news, v.oneCell' = true) :
    (Builtin.copy_ #[dT, sT] ty #[.slice (some ⟨b, off, none⟩) dLen dCap, .slice ad n sCap]).run P w = .ok (.int .i64 (Nat.min n dLen : Nat)) (w.setRow b (cs.toList.take off ++ news ++ cs.toList.drop (off + news.length)).toArray) := by
  have hst := run_storeCells_at (P := P) b off et news 0 cs w hb (by omega) h1
  simp only [Nat.add_zero] at hst
  simp [Builtin.copy_, run_underlying hd, Builtin.lenOf, hsz, hsrc, hst]
  rfl
theorem run_copy_zero {dT sT ty e : TypeId} {size : Nat} (hd : P.underlying dT = some (.slice e)) (hsz : ∀ w, (sizeOf e).run P w = .ok size w) (base : Option Addr) (dLen dCap n sCap : Nat) (ad : Option Addr) (h : Nat.min n dLen = 0) :
    (Builtin.copy_ #[dT, sT] ty #[.slice base dLen dCap, .slice ad n sCap]).run P w = .ok (.int .i64 (Nat.min n dLen : Nat)) w := by
  have h0 : (Builtin.firstCells size 0 (.slice ad n sCap)).run P w = .ok #[] w := by
    cases ad with
    | none => rfl
    | some a => simp [Builtin.firstCells]; rfl
  cases base <;> simp [Builtin.copy_, run_underlying hd, Builtin.lenOf, hsz, h, h0] <;> rfl

/-- A row of one's own, a part of it written over by a copy. -/
theorem get3_l {α : Type} {a b c : List α} {i : Nat} (h : i < a.length) {hi : i < (a ++ b ++ c).length} : (a ++ b ++ c)[i] = a[i] := by
  rw [List.getElem_append_left (by simp; omega), List.getElem_append_left h]
theorem get3_m {α : Type} {a b c : List α} {i : Nat} (h : a.length ≤ i) (h2 : i < a.length + b.length) {hi : i < (a ++ b ++ c).length} : (a ++ b ++ c)[i] = b[i - a.length] := by
  rw [List.getElem_append_left (by simp; omega), List.getElem_append_right h]
theorem get3_r {α : Type} {a b c : List α} {i : Nat} (h : a.length + b.length ≤ i) {hi : i < (a ++ b ++ c).length} : (a ++ b ++ c)[i] = c[i - (a.length + b.length)]'(by simp at hi; omega) := by
  rw [List.getElem_append_right (by simp; omega)]
  congr 1; simp

theorem copy_at (hE : EnvOK P E) (hM : HM bs φ s w) {T1 T2 T : TypeId} (hk1 : (ti T1 E).kd = 3) {j : Nat} {o' p : Org} {t : Ty} {xs ys : List (D t)} (hb : hl j s.h = some (.arr o' t xs)) (hsz : sz t = (ti (ti T1 E).el E).sz)
    {lo len cap : Nat} {ad : Option Addr} (hle : lo + len ≤ xs.length) (hs : slAt (cx bs φ s w) j lo len cap ad ∨ (len = 0 ∧ cap = 0)) {ad2 : Option Addr} {cap2 : Nat}
    (hrows : ys ≠ [] → ∃ b off, ad2 = some ⟨b, off, none⟩ ∧ RDs w ((cx bs φ s w).ok p) t b off ys) :
    ∃ w', (Builtin.copy_ #[T1, T2] T #[.slice ad len cap, .slice ad2 ys.length cap2]).run P w = .ok (.int .i64 (min ys.length len : Nat)) w' ∧
      Res bs φ s w [(j, some (.arr (o'.join p) t (xs.take lo ++ ys.take len ++ xs.drop (lo + min ys.length len))))] (.val (.int .i64 (min ys.length len : Nat))) (.int .i64 (min ys.length len : Nat)) w' := by
  have hpos := sz_pos t
  have hTe := hE.sz (T := (ti T1 E).el) (by omega)
  obtain ⟨d1, hd1, hd1'⟩ := (hE.kd (T := T1) (by omega)).u
  have := hd1'.slice hk1
  subst this
  by_cases h0 : min ys.length len = 0
  · have e1 : xs.take lo ++ ys.take len ++ xs.drop (lo + min ys.length len) = xs := by
      have : ys.take len = [] := by
        apply List.eq_nil_of_length_eq_zero
        rw [List.length_take, Nat.min_comm]; exact h0
      rw [this, h0, List.append_nil, Nat.add_zero, List.take_append_drop]
    obtain ⟨g1, g2⟩ := hM.org hb p
    refine ⟨w, run_copy_zero hd1 (fun w => run_size hTe w) ad len cap ys.length cap2 ad2 h0, φ, ?_, ?_, .val _⟩
    · rw [e1]; exact g1
    · rw [e1]; exact g2
  · have hys : ys ≠ [] := by rintro rfl; simp at h0
    have hlen0 : len ≠ 0 := by omega
    obtain ⟨b2, off2, rfl, hrd⟩ := hrows hys
    rcases hs with (⟨b, off, off', f1, rfl, f3⟩ | ⟨_, _, f3, _⟩) | ⟨f3, _⟩
    · have f1 : φ j = some (b, off) := f1
      have f3 := f3 _ _ (shp_arr hb)
      subst f3
      obtain ⟨cs, e, e1, e2, e3⟩ := blk_arr hM hb f1
      obtain ⟨cx1, c1, c2, c3, c4⟩ := rows_flat e3
      obtain ⟨cy, d1, d2, d3, d4⟩ := rows_flat hrd
      have hlx : ∀ c ∈ cx1, c.length = sz t := by
        intro c hc
        obtain ⟨i, hi, rfl⟩ := List.getElem_of_mem hc
        exact (c2 i (c1 ▸ hi) hi).length
      have hly : ∀ c ∈ cy, c.length = sz t := by
        intro c hc
        obtain ⟨i, hi, rfl⟩ := List.getElem_of_mem hc
        exact (d2 i (d1 ▸ hi) hi).length
      have hmin : min ys.length len ≤ ys.length ∧ min ys.length len ≤ len := ⟨Nat.min_le_left _ _, Nat.min_le_right _ _⟩
      generalize hk : min ys.length len = k at *
      have hyk : ys.take len = ys.take k := by
        rw [List.take_eq_take_iff]; omega
      rw [hyk]
      have hL1 : (xs.take lo).length = lo := by rw [List.length_take]; omega
      have hL2 : (cx1.take lo).length = lo := by rw [List.length_take]; omega
      have hL3 : (ys.take k).length = k := by rw [List.length_take]; omega
      have hL4 : (cy.take k).length = k := by rw [List.length_take]; omega
      have hnl : (cy.take k).flatten.length = k * sz t := by
        rw [flat_length fun c hc => hly c (List.mem_of_mem_take hc), List.length_take, d1]
        congr 1; omega
      have hlok : (lo + k) * sz t ≤ xs.length * sz t := Nat.mul_le_mul_right _ (by omega)
      have hfit : off + lo * sz t + (cy.take k).flatten.length ≤ cs.size := by rw [hnl]; rw [Nat.add_mul] at hlok; omega
      have hone : ∀ v ∈ (cy.take k).flatten, v.oneCell' = true := by
        intro v hv
        obtain ⟨c, hc, hv⟩ := List.mem_flatten.1 hv
        obtain ⟨i, hi, rfl⟩ := List.getElem_of_mem (List.mem_of_mem_take hc)
        exact (d2 i (d1 ▸ hi) hi).one v hv
      have hsrc : (Builtin.firstCells (ti (ti T1 E).el E).sz (Nat.min ys.length len) (.slice (some ⟨b2, off2, none⟩) ys.length cap2)).run P w = .ok (cy.take k).flatten.toArray w := by
        rw [show Nat.min ys.length len = k from hk]
        refine run_firstCells_some w _ k _ ys.length cap2 _ (by rw [hnl, hsz]) fun i v hv => ?_
        rw [flat_take hly] at hv
        obtain ⟨hi, hv⟩ := List.getElem?_eq_some_iff.1 hv
        rw [List.getElem_take] at hv
        rw [add_none, ← hv]
        exact d3 i (by rw [List.length_take] at hi; omega)
      have hrun := run_copy_flat (ty := T) (P := P) (sT := T2) hd1 (fun w => run_size hTe w) b (off + lo * sz t) len cap ys.length cap2 (some ⟨b2, off2, none⟩) _ hsrc e1 hfit hone
      rw [show Nat.min ys.length len = k from hk] at hrun
      obtain ⟨g1, g2, g3, g4, g5⟩ := setRow_facts e1 (cs.toList.take (off + lo * sz t) ++ (cy.take k).flatten ++ cs.toList.drop (off + lo * sz t + (cy.take k).flatten.length)).toArray (by simp [hnl]; rw [Nat.add_mul] at hlok; omega)
      have hxl : (xs.take lo ++ ys.take k ++ xs.drop (lo + k)).length = xs.length := by simp; omega
      obtain ⟨r1, r2⟩ := hM.write j (b' := .arr (o'.join p) t (xs.take lo ++ ys.take k ++ xs.drop (lo + k))) hb f1 (fun t' n e => by rw [← e]; simp only [shp, hxl]) g1 g2 g3 g4 fun hle' =>
        Or.inl ⟨b, off, _, e, f1, g5, by rw [hxl]; simp [hnl]; rw [Nat.add_mul] at hlok; omega, by
          have hcss : ∀ i (hi : i < (cx1.take lo ++ cy.take k ++ cx1.drop (lo + k)).length) (hi' : i < (xs.take lo ++ ys.take k ++ xs.drop (lo + k)).length),
              RD (w.setRow b (cs.toList.take (off + lo * sz t) ++ (cy.take k).flatten ++ cs.toList.drop (off + lo * sz t + (cy.take k).flatten.length)).toArray) ((cx bs φ { s with h := (j, some (.arr (o'.join p) t (xs.take lo ++ ys.take k ++ xs.drop (lo + k)))) :: s.h } (w.setRow b (cs.toList.take (off + lo * sz t) ++ (cy.take k).flatten ++ cs.toList.drop (off + lo * sz t + (cy.take k).flatten.length)).toArray)).ok (o'.join p)) t
                ((xs.take lo ++ ys.take k ++ xs.drop (lo + k))[i]) ((cx1.take lo ++ cy.take k ++ cx1.drop (lo + k))[i]) := by
            intro i hi hi'
            by_cases h1 : i < lo
            · rw [get3_l (a := xs.take lo) (by omega), get3_l (a := cx1.take lo) (by omega), List.getElem_take, List.getElem_take]
              exact (RDs.le hle' (c2 i (by omega) (by omega))).join1 p
            · by_cases h2 : i < lo + k
              · rw [get3_m (a := xs.take lo) (by omega) (by omega), get3_m (a := cx1.take lo) (by omega) (by omega), List.getElem_take, List.getElem_take]
                simp only [hL1, hL2]
                exact (RDs.le hle' (d2 (i - lo) (by omega) (by omega))).join2 o'
              · have hlt : i < xs.length := by rw [hxl] at hi'; exact hi'
                rw [get3_r (a := xs.take lo) (by omega), get3_r (a := cx1.take lo) (by omega), List.getElem_drop, List.getElem_drop]
                have e1 : lo + k + (i - ((xs.take lo).length + (ys.take k).length)) = i := by omega
                have e2 : lo + k + (i - ((cx1.take lo).length + (cy.take k).length)) = i := by omega
                simp only [e1, e2]
                exact (RDs.le hle' (c2 i (by omega) (by omega))).join1 p
          have hcl : (cx1.take lo ++ cy.take k ++ cx1.drop (lo + k)).length = (xs.take lo ++ ys.take k ++ xs.drop (lo + k)).length := by simp [c1, d1]
          refine RDs.of_flat g5 hcl (fun i hi => hcss i (hcl ▸ hi) hi) fun q hq => ?_
          have hfl : (cx1.take lo ++ cy.take k ++ cx1.drop (lo + k)).flatten = cx1.flatten.take (lo * sz t) ++ (cy.take k).flatten ++ cx1.flatten.drop (lo * sz t + (cy.take k).flatten.length) := by
            rw [List.flatten_append, List.flatten_append, flat_take hlx, flat_drop hlx, hnl, Nat.add_mul]
          rw [hfl] at hq ⊢
          have hxq : q < cx1.flatten.length := by
            rw [List.length_append, List.length_append, List.length_take, List.length_drop, hnl, c4] at hq
            rw [c4]; rw [Nat.add_mul] at hlok; omega
          have hold : cs[off + q]? = cx1.flatten[q]? := by
            have := c3 q hxq
            simp only [World.cell?, e1] at this
            rw [List.getElem?_eq_getElem hxq]; exact this
          rw [splice_get cx1.flatten _ _ _ (by rw [hnl, c4]; rw [Nat.add_mul] at hlok; omega)]
          simp only [List.getElem?_toArray]
          rw [splice_get cs.toList _ _ _ (by rw [Array.length_toList]; exact hfit)]
          by_cases h1 : q < lo * sz t
          · rw [if_pos h1, if_pos (by omega), ← hold]; simp
          · rw [if_neg h1, if_neg (by omega)]
            by_cases h2 : q < lo * sz t + (cy.take k).flatten.length
            · rw [if_pos h2, if_pos (by omega)]; congr 1; omega
            · rw [if_neg h2, if_neg (by omega), ← hold]; simp⟩
      exact ⟨_, hrun, φ, r1, r2, .val _⟩
    · omega
    · omega

theorem copy_sound (hE : EnvOK P E) (hM : HM bs φ s w) {T1 T2 T : TypeId} {x y : AV} {vx vy : Value} (hx : R (cx bs φ s w) x vx) (hy : R (cx bs φ s w) y vy) (hk1 : (ti T1 E).kd = 3)
    (h : To P (hl · s.h) id (copyT (ti (ti T1 E).el E) x y) log o) :
    ∃ u hs rd, o = .ok u hs rd ∧ ∃ v w', (Builtin.copy_ #[T1, T2] T #[vx, vy]).run P w = .ok v w' ∧ Res bs φ s w hs u v w' := by
  unfold copyT at h
  obtain ⟨p, u, ys, log', h, ad2, cap2, rfl, hrows⟩ := rows_sound hM hy h
  obtain ⟨hsz, h⟩ := To.chk_inv h
  have hsz := Nat.eq_of_beq_eq_true hsz
  split at h
  · rename_i j
    have h := To.rd_inv h
    split at h
    · rename_i o' t xs hb
      obtain ⟨e, h⟩ := To.asTy_inv h
      subst e
      cases hx with
      | own h1 h2 h3 h4 h5 =>
        have hlen := h2 _ _ (shp_arr hb)
        subst hlen
        obtain ⟨w', r1, r2⟩ := copy_at (T := T) (T2 := T2) (cap2 := cap2) hE hM hk1 hb hsz (lo := 0) (by omega) h3 hrows
        exact ⟨_, _, _, To.ret_inv h, _, w', r1, by simpa using r2⟩
    · exact (To.bad_inv h).elim
  · rename_i j lo len
    have h := To.rd_inv h
    split at h
    · rename_i o' t xs hb
      obtain ⟨e, h⟩ := To.asTy_inv h
      subst e
      cases hx with
      | sl h1 h2 h3 h4 h5 =>
        obtain ⟨w', r1, r2⟩ := copy_at (T := T) (T2 := T2) (cap2 := cap2) hE hM hk1 hb hsz (h2 _ _ (shp_arr hb)) h3 hrows
        exact ⟨_, _, _, To.ret_inv h, _, w', r1, r2⟩
    · exact (To.bad_inv h).elim
  · exact (To.bad_inv h).elim
end
end Go.Fw
namespace Go.Fw
open Go Go.RowKit

section
variable {P : Program} {E : Env} {bs : Bs} {φ : Ph} {s : St} {w : World} {id : Nat} {log : List Nat} {o : Out}

theorem asI_sound {c : Cx} {hp : Nat → Option Blk} {x : AV} {v : Value} (hx : R c x v) {k : Int → Tr} (h : To P hp id (asI x k) log o) : ∃ kd z, v = .int kd z ∧ To P hp id (k z) log o := by
  unfold asI at h
  split at h
  · exact ⟨_, _, R.val_inv hx, h⟩
  · exact ⟨_, _, R.un_inv hx, h⟩
  · exact (To.bad_inv h).elim

theorem rowsOf_inv {hp : Nat → Option Blk} {b : Option Blk} {k : (t : Ty) → List (D t) → Tr} (h : To P hp id (rowsOf b k) log o) : ∃ t xs, shp b = some (t, xs.length) ∧ To P hp id (k t xs) log o := by
  unfold rowsOf at h
  split at h
  · exact ⟨_, _, rfl, h⟩
  · exact ⟨_, _, rfl, h⟩
  · exact ⟨_, _, rfl, h⟩
  · exact (To.bad_inv h).elim

theorem run_len_slice {T : TypeId} {e : TypeId} (h : P.underlying T = some (.slice e)) (T' : TypeId) (a : Option Addr) (n c : Nat) (w : World) : (Builtin.len_ #[T] T' #[.slice a n c]).run P w = .ok (.int .i64 n) w := by
  simp [Builtin.len_, run_underlying h, goInt]

theorem len_sound (hE : EnvOK P E) (hM : HM bs φ s w) {T T' : TypeId} (hk : (ti T E).kd = 3) {x : AV} {v : Value} (hx : R (cx bs φ s w) x v) (h : To P (hl · s.h) id (lenOf x) log o) :
    ∃ u rd, o = .ok u [] rd ∧ ∃ v', (Builtin.len_ #[T] T' #[v]).run P w = .ok v' w ∧ R (cx bs φ s w) u v' := by
  obtain ⟨d, hd, hd'⟩ := (hE.kd (T := T) (by omega)).u
  have := hd'.slice hk
  subst this
  have fin : ∀ {u : AV} {rd : List Nat} {a : Option Addr} {n c : Nat}, o = .ok u [] rd → v = .slice a n c → R (cx bs φ s w) u (.int .i64 n) →
      ∃ u rd, o = .ok u [] rd ∧ ∃ v', (Builtin.len_ #[T] T' #[v]).run P w = .ok v' w ∧ R (cx bs φ s w) u v' :=
    fun ho hv hr => ⟨_, _, ho, _, by rw [hv]; exact run_len_slice hd _ _ _ _ w, hr⟩
  unfold lenOf at h
  split at h
  · exact fin (To.ret_inv h) (R.nil_inv hx) (.val _)
  · cases hx with
    | dat hr => obtain ⟨a, cap, e, _⟩ := hr; cases e; exact fin (To.ret_inv h) rfl (.val _)
  · have h := To.rd_inv h
    obtain ⟨t, xs, hb, h⟩ := rowsOf_inv h
    cases hx with
    | own h1 h2 h3 h4 h5 => have := h2 _ _ hb; subst this; exact fin (To.ret_inv h) rfl (.val _)
  · cases hx with
    | sl h1 h2 h3 h4 h5 => exact fin (To.ret_inv h) rfl (.val _)
  · exact (To.bad_inv h).elim

theorem idxAddr_sound (hE : EnvOK P E) (hM : HM bs φ s w) {T : TypeId} {x i : AV} {vx vi : Value} (hx : R (cx bs φ s w) x vx) (hi : R (cx bs φ s w) i vi) (h : To P (hl · s.h) id (idxAddr E T x i) log o) :
    ∃ u rd, o = .ok u [] rd ∧ ∃ v, (Instr.indexAt T vx vi).run P w = .ok v w ∧ R (cx bs φ s w) u v := by
  unfold idxAddr at h
  obtain ⟨kd, z, rfl, h⟩ := asI_sound hi h
  have slc : (ti T E).kd = 3 → ∀ {b off len cap n : Nat}, (ti (ti T E).el E).sz ≠ 0 → n < len → (Instr.indexAt T (.slice (some ⟨b, off, none⟩) len cap) (.int kd (n : Int))).run P w = .ok (.pointer (some ⟨b, off + n * (ti (ti T E).el E).sz, none⟩)) w := by
    intro hk b off len cap n hsz hlt
    obtain ⟨d, hd, hd'⟩ := (hE.kd (T := T) (by omega)).u
    have := hd'.slice hk
    subst this
    have hTe := hE.sz hsz
    simp [Instr.indexAt, asIntOf, run_underlying hd, run_size hTe, hlt, add_none]
  split at h
  · rename_i o' t xs _
    obtain ⟨hk, h⟩ := To.chk_inv h
    obtain ⟨hsz, h⟩ := To.chk_inv h
    obtain ⟨⟨h0, h1⟩, h⟩ := To.vc_inv h
    have hk := Nat.eq_of_beq_eq_true hk
    have hsz := Nat.eq_of_beq_eq_true hsz
    have hpos := sz_pos t
    obtain ⟨n, rfl⟩ := Int.eq_ofNat_of_zero_le h0
    have hlt : n < xs.length := by omega
    cases hx with
    | dat hr =>
      obtain ⟨a, cap, e, hc, hr⟩ := hr
      cases e
      obtain ⟨bl, off, e1, hok, e2⟩ := hr (by rintro rfl; simp at hlt)
      subst e1
      obtain ⟨rc, r1, r2⟩ := e2 n hlt
      refine ⟨_, _, To.ret_inv h, _, slc hk (by omega) hlt, ?_⟩
      rw [Int.toNat_natCast, List.getD_eq_getElem?_getD, List.getElem?_eq_getElem hlt, ← hsz]
      have hne : rc ≠ [] := by intro e; have := r2.length; rw [e] at this; simp at this; omega
      exact .ip (k := 0) (r1.lt hne) hok r1 (RD.cells (c := cx bs φ s w) r2)
  · rename_i i' _
    have h := To.rd_inv h
    obtain ⟨t, xs, hb, h⟩ := rowsOf_inv h
    obtain ⟨hk, h⟩ := To.chk_inv h
    obtain ⟨hsz, h⟩ := To.chk_inv h
    obtain ⟨⟨h0, h1⟩, h⟩ := To.vc_inv h
    have hk := Nat.eq_of_beq_eq_true hk
    have hsz := Nat.eq_of_beq_eq_true hsz
    have hpos := sz_pos t
    obtain ⟨n, rfl⟩ := Int.eq_ofNat_of_zero_le h0
    have hlt : n < xs.length := by omega
    cases hx with
    | own q1 q2 q3 q4 q5 =>
      have := q2 _ _ hb
      subst this
      rcases q3 with (⟨b, off, off', f1, f2, f3⟩ | ⟨_, _, f3, _⟩) | ⟨f3, _⟩
      · have f3 := f3 _ _ hb
        simp at f3
        subst f3
        subst f2
        refine ⟨_, _, To.ret_inv h, _, slc hk (by omega) hlt, ?_⟩
        rw [Int.toNat_natCast]
        exact .pa q1 f1 fun t2 n2 hx2 => by
          have hx2 : shp (hl _ s.h) = _ := hx2
          rw [hb] at hx2; cases hx2; rw [← hsz]; rfl
      · omega
      · omega
  · rename_i i' lo len _
    have h := To.rd_inv h
    obtain ⟨t, xs, hb, h⟩ := rowsOf_inv h
    obtain ⟨hk, h⟩ := To.chk_inv h
    obtain ⟨hsz, h⟩ := To.chk_inv h
    obtain ⟨⟨h0, h1⟩, h⟩ := To.vc_inv h
    have hk := Nat.eq_of_beq_eq_true hk
    have hsz := Nat.eq_of_beq_eq_true hsz
    have hpos := sz_pos t
    obtain ⟨n, rfl⟩ := Int.eq_ofNat_of_zero_le h0
    have hlt : n < len := by omega
    cases hx with
    | sl q1 q2 q3 q4 q5 =>
      rcases q3 with (⟨b, off, off', f1, f2, f3⟩ | ⟨_, _, f3, _⟩) | ⟨f3, _⟩
      · have f3 := f3 _ _ hb
        subst f3
        subst f2
        refine ⟨_, _, To.ret_inv h, _, slc hk (by omega) hlt, ?_⟩
        rw [Int.toNat_natCast]
        exact .pa q1 f1 fun t2 n2 hx2 => by
          have hx2 : shp (hl _ s.h) = _ := hx2
          rw [hb] at hx2; cases hx2; rw [← hsz, Nat.add_mul]; omega
      · omega
      · omega
  · rename_i i' off0 _
    have h := To.rd_inv h
    have arrc : (ti T E).len ≠ 0 → (ti (ti T E).el E).ok = true ∨ (ti (ti T E).el E).sz ≠ 0 → ∀ {b off n : Nat}, n < (ti T E).len → (Instr.indexAt T (.pointer (some ⟨b, off, none⟩)) (.int kd (n : Int))).run P w = .ok (.pointer (some ⟨b, off + n * (ti (ti T E).el E).sz, none⟩)) w := by
      intro hl' hsz b off n hlt
      obtain ⟨d, hd, hd'⟩ := (hE.len hl').u
      have := hd'.array hl'
      subst this
      have hTe : TIok P E (ti T E).el (ti (ti T E).el E) := by
        rcases hsz with h | h
        · exact hE.ok h
        · exact hE.sz h
      simp [Instr.indexAt, asIntOf, run_underlying hd, run_size hTe, hlt, add_none, Instr.sureAddr]
    cases hx with
    | ptr q1 q2 =>
      rename_i b off
      have q2 : φ i' = some (b, off) := q2
      split at h
      · rename_i o' t xs hb
        split at h
        · obtain ⟨hsz, h⟩ := To.chk_inv h
          obtain ⟨⟨h0, h1, h2⟩, h⟩ := To.vc_inv h
          have hsz := Nat.eq_of_beq_eq_true hsz
          have hpos := sz_pos t
          obtain ⟨n, rfl⟩ := Int.eq_ofNat_of_zero_le h0
          refine ⟨_, _, To.ret_inv h, _, arrc (by omega) (Or.inr (by omega)) (by omega), ?_⟩
          rw [Int.toNat_natCast, Nat.add_zero]
          exact .pa q1 q2 fun t2 n2 hx2 => by
            have hx2 : shp (hl _ s.h) = _ := hx2
            rw [shp_arr hb] at hx2; cases hx2; rw [← hsz]; rfl
        · exact (To.bad_inv h).elim
      · obtain ⟨hok, h⟩ := To.chk_inv h
        obtain ⟨n, h1, hz, h'⟩ := To.cs_inv h
        subst hz
        refine ⟨_, _, To.ret_inv h', _, arrc (by omega) (Or.inl hok) (by omega), ?_⟩
        rw [Nat.add_assoc]
        exact .ptr q1 q2
      · exact (To.bad_inv h).elim
  · exact (To.bad_inv h).elim

theorem fldAddr_sound (hE : EnvOK P E) {c : Cx} {hp : Nat → Option Blk} {T : TypeId} {p : AV} {f : Nat} {vp : Value} (hx : R c p vp) (h : To P hp id (fldAddr E T p f) log o) (w : World) :
    ∃ u, o = .ok u [] log ∧ ∃ v, (Instr.fieldAt T vp f).run P w = .ok v w ∧ R c u v := by
  unfold fldAddr at h
  split at h
  · rename_i off U hf
    have hne : (ti T E).flds ≠ [] := by intro e; rw [e] at hf; simp at hf
    have hT := hE.flds hne
    obtain ⟨d, hd, hd'⟩ := hT.u
    have key : ∀ {b o0 : Nat}, (Instr.fieldAt T (.pointer (some ⟨b, o0, none⟩)) f).run P w = .ok (.pointer (some ⟨b, o0 + off, none⟩)) w := by
      intro b o0
      cases d with
      | struct fs =>
        simp only [UD] at hd'
        obtain ⟨_, _, _, _, e1, e2⟩ := hd'
        rw [e1, List.getElem?_map] at hf
        cases hg : fs.toList[f]? with
        | none => rw [hg] at hf; cases hf
        | some fl =>
          rw [hg] at hf
          simp at hf
          obtain ⟨hf1, hf2⟩ := hf
          obtain ⟨hlt, hgl⟩ := List.getElem?_eq_some_iff.1 hg
          obtain ⟨x, x1, x2, _⟩ := e2 fl (by rw [← hgl]; exact List.getElem_mem hlt)
          have hg' : fs[f]? = some fl := by simpa using hg
          simp [Instr.fieldAt, run_underlying hd, hg', Instr.sureAddr, fieldPlace, sizeOf, typeInfo, x1, x2, add_none, hf1]
      | _ => exact absurd (by simp [UD] at hd' <;> simp [hd']) hne
    split at h
    · cases hx with
      | ptr q1 q2 => exact ⟨_, To.ret_inv h, _, key, by rw [Nat.add_assoc]; exact .ptr q1 q2⟩
    · cases hx with
      | pa q1 q2 q3 => exact ⟨_, To.ret_inv h, _, key, .pa q1 q2 fun t n hx => by rw [q3 t n hx, Nat.add_assoc]⟩
    · cases hx with
      | ip q1 q2 q3 q4 => exact ⟨_, To.ret_inv h, _, key, by rw [Nat.add_assoc]; exact .ip q1 q2 q3 q4⟩
    · exact (To.bad_inv h).elim
  · exact (To.bad_inv h).elim

theorem part_run {c : Cx} {T : TypeId} {i : TI} (hT : TIok P E T i) {l : List AV} {cs : Array Value} (hl' : RL c l cs.toList) {k : Nat} (hk : k + i.sz ≤ l.length) (w : World) :
    ∃ v, (Go.part T cs k).run P w = .ok v w ∧ R c (part i l k) v := by
  unfold Go.part
  rw [Sem.run_bind, run_isAgg hT]
  simp only [Result.andThen_ok]
  have hlen := hl'.length
  cases ha : i.agg with
  | true =>
    refine ⟨.agg (cs.extract k (k + i.sz)), ?_, ?_⟩
    · simp [run_size hT]
    · simp only [part, ha, cut_eq]
      refine .agg ?_
      have : (cs.extract k (k + i.sz)).toList = (cs.toList.drop k).take i.sz := by
        rw [Array.toList_extract]; simp [List.extract_eq_take_drop]
      rw [this]
      exact (hl'.drop k).take i.sz
  | false =>
    have h1 := hT.s1 ha
    have hlt : k < l.length := by omega
    have hlt' : k < cs.size := by simp at hlen; omega
    refine ⟨cs[k], ?_, ?_⟩
    · simp [Array.getElem?_eq_getElem hlt']
    · simp only [part, ha, nth_eq]
      rw [List.getD_eq_getElem?_getD, List.getElem?_eq_getElem hlt]
      simpa using hl'.get k hlt

theorem partT_sound (hE : EnvOK P E) {c : Cx} {hp : Nat → Option Blk} {T : TypeId} {l : List AV} {cs : Array Value} (hl' : RL c l cs.toList) {k : Nat} (h : To P hp id (partT (ti T E) l k) log o) (w : World) :
    ∃ u, o = .ok u [] log ∧ ∃ v, (Go.part T cs k).run P w = .ok v w ∧ R c u v := by
  obtain ⟨hok, h⟩ := To.chk_inv h
  obtain ⟨hk, h⟩ := To.chk_inv h
  obtain ⟨v, v1, v2⟩ := part_run (c := c) (hE.ok hok) hl' (Nat.le_of_ble_eq_true hk) w
  exact ⟨_, To.ret_inv h, v, v1, v2⟩

theorem run_sub {T e : TypeId} {sz : Nat} (hT : P.underlying T = some (.slice e)) (hs : ∀ w, (sizeOf e).run P w = .ok sz w) (a : Option Addr) (len cap l h : Nat) (lo hi : Option Value)
    (hlo : (lo = none ∧ l = 0) ∨ ∃ k, lo = some (.int k l)) (hhi : (hi = none ∧ h = len) ∨ ∃ k, hi = some (.int k h)) (h1 : l ≤ h) (h2 : h ≤ cap) (w : World) :
    (Instr.sliceAt T (.slice a len cap) lo hi none).run P w = .ok (.slice (if cap = l then a else a.map (·.add (l * sz))) (h - l) (cap - l)) w := by
  have e1 : (0 : Int) ≤ h ∧ (h : Int) ≤ cap := by omega
  have e2 : (0 : Int) ≤ l ∧ (l : Int) ≤ h := by omega
  have b1 : ∀ k c, (Instr.sliceBound (.int k (h : Int)) cap c).run P w = .ok h w := fun k c => by simp only [Instr.sliceBound, asIntOf, Sem.run_bind, Sem.run_pure, Result.andThen_ok, if_pos e1, Int.toNat_natCast]
  have b2 : ∀ k c, (Instr.sliceBound (.int k (l : Int)) h c).run P w = .ok l w := fun k c => by simp only [Instr.sliceBound, asIntOf, Sem.run_bind, Sem.run_pure, Result.andThen_ok, if_pos e2, Int.toNat_natCast]
  have hb : (Instr.sliceBounds true len cap lo hi none).run P w = .ok (l, h, cap) w := by
    unfold Instr.sliceBounds
    rcases hlo with ⟨rfl, rfl⟩ | ⟨k, rfl⟩ <;> rcases hhi with ⟨rfl, rfl⟩ | ⟨k', rfl⟩ <;> simp [b1, b2]
  simp only [Instr.sliceAt, Sem.run_bind, run_underlying hT, Result.andThen_ok, Instr.slice, hb, hs, Sem.run_pure]

theorem slice3_sound {c : Cx} {hp : Nat → Option Blk} {t : Ty} {xs : List (D t)} {lo hi : Option AV} {vlo vhi : Option Value} {k : List (D t) → Nat → Nat → Tr} (hlo : (lo = none ∧ vlo = none) ∨ ∃ x v, lo = some x ∧ vlo = some v ∧ R c x v)
    (hhi : (hi = none ∧ vhi = none) ∨ ∃ x v, hi = some x ∧ vhi = some v ∧ R c x v) (h : To P hp id (slice3 t xs lo hi k) log o) :
    ∃ l h, To P hp id (k ((xs.take h).drop l) l (h - l)) log o ∧ l ≤ h ∧ h ≤ xs.length ∧ ((vlo = none ∧ l = 0) ∨ ∃ q, vlo = some (.int q (l : Nat))) ∧ ((vhi = none ∧ h = xs.length) ∨ ∃ q, vhi = some (.int q (h : Nat))) := by
  unfold slice3 at h
  rcases hlo with ⟨rfl, rfl⟩ | ⟨x, v, rfl, rfl, hx⟩ <;> rcases hhi with ⟨rfl, rfl⟩ | ⟨y, u, rfl, rfl, hy⟩
  · exact ⟨0, xs.length, by simpa using h, Nat.zero_le _, Nat.le_refl _, Or.inl ⟨rfl, rfl⟩, Or.inl ⟨rfl, rfl⟩⟩
  · obtain ⟨q, z, rfl, h⟩ := asI_sound hy h
    obtain ⟨⟨h0, h1⟩, hr⟩ := To.vc_inv h
    obtain ⟨n, rfl⟩ := Int.eq_ofNat_of_zero_le h0
    exact ⟨0, n, by simpa using hr, Nat.zero_le _, by omega, Or.inl ⟨rfl, rfl⟩, Or.inr ⟨q, rfl⟩⟩
  · obtain ⟨q, z, rfl, h⟩ := asI_sound hx h
    obtain ⟨⟨h0, h1⟩, hr⟩ := To.vc_inv h
    obtain ⟨n, rfl⟩ := Int.eq_ofNat_of_zero_le h0
    exact ⟨n, xs.length, by simpa using hr, by omega, Nat.le_refl _, Or.inr ⟨q, rfl⟩, Or.inl ⟨rfl, rfl⟩⟩
  · obtain ⟨q, z, rfl, h⟩ := asI_sound hx h
    obtain ⟨q', z', rfl, h⟩ := asI_sound hy h
    obtain ⟨⟨h0, h1, h2⟩, hr⟩ := To.vc_inv h
    obtain ⟨n, rfl⟩ := Int.eq_ofNat_of_zero_le h0
    obtain ⟨m, rfl⟩ := Int.eq_ofNat_of_zero_le (Int.le_trans h0 h1)
    exact ⟨n, m, hr, by omega, by omega, Or.inr ⟨q, rfl⟩, Or.inr ⟨q', rfl⟩⟩

theorem sliceOp_sound (hE : EnvOK P E) (hM : HM bs φ s w) {T : TypeId} {x : AV} {vx : Value} (hx : R (cx bs φ s w) x vx) {lo hi : Option AV} {vlo vhi : Option Value} (hlo : (lo = none ∧ vlo = none) ∨ ∃ y v, lo = some y ∧ vlo = some v ∧ R (cx bs φ s w) y v)
    (hhi : (hi = none ∧ vhi = none) ∨ ∃ y v, hi = some y ∧ vhi = some v ∧ R (cx bs φ s w) y v) (h : To P (hl · s.h) id (sliceOp E T x lo hi) log o) :
    ∃ u rd, o = .ok u [] rd ∧ ∃ v, (Instr.sliceAt T vx vlo vhi none).run P w = .ok v w ∧ R (cx bs φ s w) u v := by
  unfold sliceOp at h
  obtain ⟨hk, h⟩ := To.chk_inv h
  have hk := Nat.eq_of_beq_eq_true hk
  obtain ⟨d, hd, hd'⟩ := (hE.kd (T := T) (by omega)).u
  have := hd'.slice hk
  subst this
  split at h
  · rename_i o' t xs _
    obtain ⟨hsz, h⟩ := To.chk_inv h
    have hsz := Nat.eq_of_beq_eq_true hsz
    have hTe := hE.sz (T := (ti T E).el) (by have := sz_pos t; omega)
    obtain ⟨l, n, h, h1, h2, h3, h4⟩ := slice3_sound hlo hhi h
    cases hx with
    | dat hr =>
      obtain ⟨a, cap, e, hc, hr⟩ := hr
      cases e
      have hrun := run_sub (P := P) hd (fun w => run_size hTe w) a xs.length cap l n vlo vhi h3 h4 h1 (by omega) w
      refine ⟨_, _, To.ret_inv h, _, hrun, .dat ⟨_, _, by rw [List.length_drop, List.length_take, Nat.min_eq_left h2], by rw [List.length_drop, List.length_take, Nat.min_eq_left h2]; omega, fun hne => ?_⟩⟩
      have hlt : l < n := by
        rcases Nat.lt_or_ge l n with h | h
        · exact h
        · exact absurd (List.eq_nil_of_length_eq_zero (by simp; omega)) hne
      obtain ⟨bl, off, e1, e2, e3⟩ := hr (by rintro rfl; simp at h2; omega)
      subst e1
      refine ⟨bl, off + l * (ti (ti T E).el E).sz, ?_, e2, fun j hj => ?_⟩
      · rw [if_neg (by omega)]; simp [add_none]
      · have hj' : j < n - l := by simp at hj; omega
        obtain ⟨rc, r1, r2⟩ := e3 (l + j) (by omega)
        refine ⟨rc, r1.sub (by rw [Nat.add_mul, hsz]; omega), ?_⟩
        simpa using r2
  · rename_i i' _
    have h := To.rd_inv h
    obtain ⟨t, xs, hb, h⟩ := rowsOf_inv h
    obtain ⟨hsz, h⟩ := To.chk_inv h
    have hsz := Nat.eq_of_beq_eq_true hsz
    have hTe := hE.sz (T := (ti T E).el) (by have := sz_pos t; omega)
    obtain ⟨l, n, h, h1, h2, h3, h4⟩ := slice3_sound hlo hhi h
    cases hx with
    | own q1 q2 q3 q4 q5 =>
      rename_i len cap ad
      have := q2 _ _ hb
      subst this
      have hrun := run_sub (P := P) hd (fun w => run_size hTe w) ad xs.length cap l n vlo vhi h3 h4 h1 (by omega) w
      refine ⟨_, _, To.ret_inv h, _, hrun, ?_⟩
      refine .sl q1 (fun t2 n2 hx2 => ?_) ?_ (fun t2 n2 hx2 b off hp => ?_) (by omega)
      · have hx2 : shp (hl i' s.h) = _ := hx2
        rw [hb] at hx2; cases hx2; omega
      · by_cases hcl : cap = l
        · exact Or.inr ⟨by omega, by omega⟩
        · rw [if_neg hcl]
          rcases q3 with (⟨b, off, off', f1, f2, f3⟩ | ⟨f1, f2, f3, f4, _⟩) | ⟨f3, f4⟩
          · have f3 := f3 _ _ hb
            simp at f3
            subst f3
            subst f2
            refine Or.inl (Or.inl ⟨b, off', _, f1, by simp [add_none]; rfl, fun t2 n2 hx2 => ?_⟩)
            have hx2 : shp (hl i' s.h) = _ := hx2
            rw [hb] at hx2; cases hx2; rw [hsz]
          · omega
          · omega
      · obtain ⟨cs, e, fz, g1, g2⟩ := q4 t2 n2 hx2 b off hp
        refine ⟨cs, e, fz, g1, ?_⟩
        rw [Nat.zero_add] at g2
        have : l + (cap - l) = cap := by omega
        rw [this]; exact g2
  · exact (To.bad_inv h).elim

theorem run_sub3 {T e : TypeId} {sz : Nat} (hT : P.underlying T = some (.slice e)) (hs : ∀ w, (sizeOf e).run P w = .ok sz w) (a : Option Addr) (len cap h mx : Nat) (k k' : IntKind)
    (h1 : h ≤ mx) (h2 : mx ≤ cap) (h3 : 1 ≤ mx) (w : World) :
    (Instr.sliceAt T (.slice a len cap) none (some (.int k (h : Int))) (some (.int k' (mx : Int)))).run P w = .ok (.slice (a.map (·.add 0)) h mx) w := by
  have e1 : (0 : Int) ≤ h ∧ (h : Int) ≤ mx := by omega
  have e2 : (0 : Int) ≤ mx ∧ (mx : Int) ≤ cap := by omega
  have b1 : ∀ k c, (Instr.sliceBound (.int k (h : Int)) mx c).run P w = .ok h w := fun k c => by simp only [Instr.sliceBound, asIntOf, Sem.run_bind, Sem.run_pure, Result.andThen_ok, if_pos e1, Int.toNat_natCast]
  have b2 : ∀ k c, (Instr.sliceBound (.int k (mx : Int)) cap c).run P w = .ok mx w := fun k c => by simp only [Instr.sliceBound, asIntOf, Sem.run_bind, Sem.run_pure, Result.andThen_ok, if_pos e2, Int.toNat_natCast]
  have hb : (Instr.sliceBounds true len cap none (some (.int k (h : Int))) (some (.int k' (mx : Int)))).run P w = .ok (0, h, mx) w := by
    unfold Instr.sliceBounds
    simp [b1, b2]
  have hne : ¬ mx = 0 := by omega
  simp only [Instr.sliceAt, Sem.run_bind, run_underlying hT, Result.andThen_ok, Instr.slice, hb, hs, Sem.run_pure, if_neg hne, Nat.zero_mul, Nat.sub_zero]

theorem slice3x_sound (hE : EnvOK P E) (hM : HM bs φ s w) (hn : ¬ s.al id) (hid : id < s.nx) {T : TypeId} {x y z : AV} {vx vy vz : Value} (hx : R (cx bs φ s w) x vx) (hy : R (cx bs φ s w) y vy) (hz : R (cx bs φ s w) z vz)
    (h : To P (hl · s.h) id (slice3x s.m E T id x y z) log o) :
    ∃ u hs rd, o = .ok u hs rd ∧ ∃ v w', (Instr.sliceAt T vx none (some vy) (some vz)).run P w = .ok v w' ∧ Res bs φ s w hs u v w' := by
  unfold slice3x at h
  obtain ⟨hk, h⟩ := To.chk_inv h
  have hk := Nat.eq_of_beq_eq_true hk
  obtain ⟨d, hd, hd'⟩ := (hE.kd (T := T) (by omega)).u
  have := hd'.slice hk
  subst this
  split at h
  · rename_i j _
    obtain ⟨hjm, h⟩ := To.chk_inv h
    have hjm := Nat.le_of_ble_eq_true hjm
    have h := To.rd_inv h
    split at h
    · rename_i o' t xs hb
      obtain ⟨hsz, h⟩ := To.chk_inv h
      have hsz := Nat.eq_of_beq_eq_true hsz
      have hTe := hE.sz (T := (ti T E).el) (by have := sz_pos t; omega)
      obtain ⟨q, n, rfl, h⟩ := asI_sound hy h
      obtain ⟨q', n', rfl, h⟩ := asI_sound hz h
      obtain ⟨⟨h0, h1, h2, h3⟩, hr⟩ := To.vc_inv h
      obtain ⟨n, rfl⟩ := Int.eq_ofNat_of_zero_le h0
      obtain ⟨m, rfl⟩ := Int.eq_ofNat_of_zero_le (Int.le_trans h0 h1)
      cases hx with
      | own q1 q2 q3 q4 q5 =>
        rename_i len cap ad
        have hlen := q2 _ _ (shp_arr hb)
        subst hlen
        have hm1 : 1 ≤ m := by omega
        have hmx : m ≤ xs.length := by omega
        have hnm : n ≤ m := by omega
        rcases q3 with (⟨b, off, off', f1, f2, f3⟩ | ⟨f1, f2, f3, f4, _⟩) | ⟨f3, f4⟩
        · have f3 := f3 _ _ (shp_arr hb)
          simp at f3
          subst f3
          have f1 : φ j = some (b, off') := f1
          subst f2
          obtain ⟨cs, et, b1, b2, b3⟩ := blk_arr hM hb f1
          have hrun := run_sub3 (P := P) hd (fun w => run_size hTe w) (some ⟨b, off', none⟩) xs.length cap n m q q' hnm (by omega) hm1 w
          refine ⟨_, _, _, To.ret_inv hr, _, _, hrun, ?_⟩
          have htl : (xs.take n).length = n := by rw [List.length_take]; omega
          have hmul : n * sz t ≤ xs.length * sz t := Nat.mul_le_mul_right _ (by omega)
          have hmul2 : m * sz t ≤ xs.length * sz t := Nat.mul_le_mul_right _ hmx
          rw [Int.toNat_natCast]
          refine Res.regrow hM hn hid hb f1 hjm o' t (xs.take n) rfl (fun _ _ => rfl) ⟨rfl, rfl, rfl⟩ (fun hle => Or.inl ⟨b, off', cs, et, if_pos rfl, b1, by rw [htl]; omega, ?_⟩) fun c c1' c2' c3' c4' => ?_
          · intro i hi
            rw [htl] at hi
            obtain ⟨rc, r1, r2⟩ := b3 i (by omega)
            exact ⟨rc, r1, by rw [List.getElem_take]; exact RDs.le hle r2⟩
          · refine .own c1' (fun t n hx2 => by rw [shp_arr c3'] at hx2; cases hx2; exact htl.symm) (Or.inl (Or.inl ⟨b, off', off', c2', by simp [add_none], fun t n hx2 => by simp⟩)) (fun t2 n2 hx2 b2' off2 hb2 => ?_) hnm
            rw [c2'] at hb2; cases hb2
            rw [shp_arr c3'] at hx2; cases hx2
            exact ⟨cs, et, _, by rw [c4']; exact b1, by rw [Nat.zero_add]; omega⟩
        · omega
        · omega
    · exact (To.bad_inv h).elim
  · exact (To.bad_inv h).elim
end
end Go.Fw
namespace Go.Fw
open Go Go.RowKit

theorem fixNil_cells (E : Env) (T : TypeId) (x : AV) : (avCells (fixNil E T x)).length = (avCells x).length ∧ ones (avCells (fixNil E T x)) = ones (avCells x) := by
  unfold fixNil
  split
  · split <;> exact ⟨rfl, rfl⟩
  · exact ⟨rfl, rfl⟩

section
variable {P : Program} {E : Env} {bs : Bs} {φ : Ph} {s : St} {w : World} {id : Nat} {log : List Nat} {o : Out}

theorem fillS_sound {c : Cx} {flds : List (Nat × TypeId)} {tot : Nat} {place : Nat → Option (Nat × Nat)} (hpl : ∀ (i off : Nat) (T : TypeId), flds[i]? = some (off, T) → place i = some (off, (ti T E).sz)) :
    ∀ {ps : List (Nat × Operand)} {l : List AV} {vs : List Value} {cur : List AV} {cells : Array Value}, RL c l vs → ps.length = vs.length → fillOK tot flds E ps l = true → RL c cur cells.toList → cells.size = tot →
      ∃ r, Instr.fill place cells ((ps.map (·.1)).zip vs) = some r ∧ RL c (fillS flds E ps l cur) r.toList
  | [], _, _, cur, cells, .nil, _, _, hc, _ => ⟨cells, rfl, hc⟩
  | [], _, _, _, _, .cons _ _, h, _, _, _ => by simp at h
  | p :: ps, _, _, _, _, .nil, h, _, _, _ => by simp at h
  | (i, x) :: ps, v :: l, y :: vs, cur, cells, .cons hv hl, hlen, hok, hc, hs => by
    simp only [fillOK] at hok
    split at hok
    · rename_i off T hf
      split at hok
      · rename_i h1
        split at hok
        · rename_i h2
          split at hok
          · rename_i h3
            have h1 := Nat.eq_of_beq_eq_true h1
            have h3 := Nat.le_of_ble_eq_true h3
            obtain ⟨q1, q2⟩ := fixNil_cells E T v
            obtain ⟨a1, a2⟩ := (hv.fixNil (E := E) (T := T)).cells1 (q2.trans h2)
            have a3 := a1.length
            have hy : y.cells.size = (ti T E).sz := by rw [← h1, ← q1, a3]; simp
            have hcl := hc.length
            have hle : off + y.cells.size ≤ cells.size := by omega
            have hfold := fold_set_arr y.cells off cells hle
            obtain ⟨r, r1, r2⟩ := fillS_sound hpl (cur := setAt cur off (avCells (fixNil E T v))) (cells := y.cells.zipIdx.foldl (fun (cs : Array Value) (p : Value × Nat) => cs.setIfInBounds (off + p.2) p.1) cells) hl (by simpa using hlen) hok
              (by
                rw [hfold]
                have := RL.setAt hc a1 (k := off) (by rw [q1, h1]; simp at hcl; omega)
                simpa using this) (by
                rw [← Array.length_toList, hfold]; simp; omega)
            refine ⟨r, ?_, ?_⟩
            · simp only [List.map_cons, List.zip_cons_cons, Instr.fill, hpl i off T hf]
              rw [if_neg (by simp [hy] at hle ⊢; omega)]
              exact r1
            · simp only [fillS, hf]
              exact r2
          · cases hok
        · cases hok
      · cases hok
    · cases hok

theorem build_sound (hE : EnvOK P E) (hM : HM bs φ s w) {U : TypeId} {ps : Array (Nat × Operand)} {T : TypeId} {l : List AV} {vs : List Value} (hl' : RL (cx bs φ s w) l vs) (hps : ps.toList.length = vs.length)
    (h : To P (hl · s.h) id (stepF s.m E id (.build U ps) T l) log o) :
    ∃ u hs rd, o = .ok u hs rd ∧ ∃ v, (Instr.build U ((ps.toList.map (·.1)).zip vs).toArray).run P w = .ok v w ∧ Res bs φ s w hs u v w := by
  simp only [stepF] at h
  obtain ⟨hok, h⟩ := To.chk_inv h
  have hT := hE.ok hok
  obtain ⟨d, hd, hd'⟩ := hT.u
  obtain ⟨xi, z, i1, i2, i3, i4, i5, _⟩ := hT.inf
  have hzs := hT.zs xi z i1 i4
  split at h
  · obtain ⟨hk, h⟩ := To.chk_inv h
    obtain ⟨hf, h⟩ := To.chk_inv h
    have hk := Nat.eq_of_beq_eq_true hk
    cases d with
    | struct fs =>
      simp only [UD] at hd'
      obtain ⟨_, _, _, _, e1, e2⟩ := hd'
      have hmap : ∀ (fs : List Field), (∀ f ∈ fs, ∃ x, P.info? f.type = some x ∧ x.size ≠ 0 ∧ (ti f.type E).sz = x.size) → fs.mapM (fun f => (P.info? f.type).map fun i => (f.offset, i.size)) = some (fs.map fun f => (f.offset, (ti f.type E).sz)) := by
        intro fs
        induction fs with
        | nil => intro _; rfl
        | cons f fs ih =>
          intro hf
          obtain ⟨x, x1, x2, x3⟩ := hf f (by simp)
          simp [List.mapM_cons, x1, ih fun f' hf' => hf f' (by simp [hf']), x3]
      have hpl : ∀ (i off : Nat) (T : TypeId), (ti U E).flds[i]? = some (off, T) → (fs.toList.map fun f => (f.offset, (ti f.type E).sz)).toArray[i]? = some (off, (ti T E).sz) := by
        intro i off T hi
        rw [e1, List.getElem?_map] at hi
        simp only [List.getElem?_toArray, List.getElem?_map]
        cases hg : fs.toList[i]? with
        | none => rw [hg] at hi; cases hi
        | some f => rw [hg] at hi; simp at hi; obtain ⟨rfl, rfl⟩ := hi; rfl
      obtain ⟨r, r1, r2⟩ := fillS_sound (c := cx bs φ s w) (place := fun i => (fs.toList.map fun f => (f.offset, (ti f.type E).sz)).toArray[i]?) hpl hl' hps hf (i5 _) hzs
      have hb : P.built U (((ps.toList.map (·.1)).zip vs).toArray).toList = some r := by
        unfold Program.built
        simp only [i1, hd, i4, hmap fs.toList e2]
        exact r1
      exact ⟨_, _, _, To.ret_inv h, _, run_build w U _ r hb, Res.pure hM (.agg r2)⟩
    | _ => simp [UD, hk] at hd'
  · rename_i n hlen
    obtain ⟨hdn, h⟩ := To.chk_inv h
    obtain ⟨hek, h⟩ := To.chk_inv h
    obtain ⟨ha, h⟩ := To.chk_inv h
    have := hd'.array (by omega)
    subst this
    have hTe := hE.ok hek
    obtain ⟨xe, ze, k1, k2, k3, k4, k5, k6, _⟩ := hTe.inf
    simp only [UD] at hd'
    have hsz := hd'.2.2.2.2.2.2 hek
    obtain ⟨a1, a2, a3⟩ := allLen_spec hl' ha
    obtain ⟨r, r1, r2⟩ := fill_rows (n := n + 1) hdn ha hl' hps z.cells (by rw [hzs, hsz, hlen])
    have hb : P.built U (((ps.toList.map (·.1)).zip vs).toArray).toList = some r := by
      unfold Program.built
      simp only [i1, hd, i4, k1, k2]
      exact r1
    have hrun := run_build w U _ r hb
    split at h
    · rename_i t ht
      obtain ⟨k7, _⟩ := k6 t ht
      obtain ⟨ds, org, ids, log', t1, t2, t3, t4⟩ := toDs_sound hM t hl' ha h
      obtain ⟨m1, m2⟩ := hM.kills ids t3
      refine ⟨_, _, _, To.ret_inv t1, _, hrun, ?_⟩
      refine Res.kills hM t3 (hs := []) (Res.pure m1 ?_)
      exact .av (vs.map (·.cells.toList)) (by rw [r2, flat_of]) (by simp [t2]) fun j hj => by simpa [cx] using t4 ids t3 (fun _ h => h) j hj
    · exact ⟨_, _, _, To.ret_inv h, _, hrun, Res.pure hM (.agg (by rw [r2]; exact a2))⟩
end
end Go.Fw
namespace Go.Fw
open Go Go.RowKit

section
variable {P : Program} {E : Env} {bs : Bs} {φ : Ph} {s : St} {w : World} {id : Nat} {log : List Nat} {o : Out}

/-- What an operation without a call comes to. -/
def OpRes (bs : Bs) (φ : Ph) (s : St) (w : World) (o : Out) (r : Result Next) : Prop :=
  match o with
  | .ok u hs _ => ∃ v w', (r = .ok (.value v) w' ∨ (r = .ok .skip w' ∧ v = undef)) ∧ Res bs φ s w hs u v w'
  | .panic u hs _ => ∃ v, r = .halt (.panic v) w ∧ Res bs φ s w hs u v w

theorem OpRes.pure (hM : HM bs φ s w) {u : AV} {rd : List Nat} {r : Result Next} {v : Value} (h : r = .ok (.value v) w) (hr : R (cx bs φ s w) u v) : OpRes bs φ s w (.ok u [] rd) r :=
  ⟨v, w, Or.inl h, Res.pure hM hr⟩

theorem run_v {x : Sem Value} {v : Value} {w' : World} (h : x.run P w = .ok v w') : (do pure (.value (← x)) : Sem Next).run P w = .ok (.value v) w' := by
  rw [Sem.run_bind, h]; rfl

theorem minmax_sound {c : Cx} {hp : Nat → Option Blk} {op : Builtin} {x y : AV} {vx vy : Value} (hx : R c x vx) (hy : R c y vy) (h : To P hp id (minmax op x y) log o) (w : World) (ats : Array TypeId) (ty : TypeId) (cs : Array Bool) :
    ∃ u, o = .ok u [] log ∧ ∃ v, (builtin op ats ty cs #[vx, vy]).run P w = .ok (.value v) w ∧ R c u v := by
  unfold minmax at h
  split at h
  · rw [R.val_inv hx, R.val_inv hy]
    rename_i k a k' b
    refine ⟨_, To.ret_inv h, _, ?_, .val _⟩
    have : (if b < a then b else a) = min a b := by simp only [Int.min_def]; split <;> split <;> omega
    simp [builtin, Builtin.min_, Builtin.min2, this]
  · rw [R.val_inv hx, R.val_inv hy]
    rename_i k a k' b
    refine ⟨_, To.ret_inv h, _, ?_, .val _⟩
    have : (if b > a then b else a) = max a b := by simp only [Int.max_def]; split <;> split <;> omega
    simp only [gt_iff_lt] at this
    simp [builtin, Builtin.max_, Builtin.max2, this]
  · rw [R.un_inv hx, R.un_inv hy]
    rename_i k a k' b
    refine ⟨_, To.ret_inv h, _, ?_, .un _ _⟩
    have : (if (b : Int) < a then (b : Int) else a) = ((min a b : Nat) : Int) := by simp only [Nat.min_def]; split <;> split <;> omega
    simp only [builtin, Builtin.min_, Builtin.min2, List.foldlM_cons, List.foldlM_nil, this]
    simp
  · rw [R.un_inv hx, R.un_inv hy]
    rename_i k a k' b
    refine ⟨_, To.ret_inv h, _, ?_, .un _ _⟩
    have : (if (b : Int) > a then (b : Int) else a) = ((max a b : Nat) : Int) := by simp only [Nat.max_def]; split <;> split <;> omega
    simp only [builtin, Builtin.max_, Builtin.max2, List.foldlM_cons, List.foldlM_nil, this]
    simp
  · exact (To.bad_inv h).elim

theorem pnc_sound {c : Cx} {hp : Nat → Option Blk} {x : AV} {v : Value} (hx : R c x v) (h : To P hp id (pnc x) log o) (w : World) :
    ∃ u, o = .panic u [] log ∧ R c u v ∧ (Instr.panic v).run P w = .halt (.panic v) w := by
  unfold pnc at h
  split at h
  · cases h
    refine ⟨_, rfl, hx, ?_⟩
    cases hx
    rfl
  · exact (To.bad_inv h).elim

theorem toList_one {α : Type} {a : Array α} {x : α} (h : a.toList = [x]) : a = #[x] := by
  cases a; simp at h; simp [h]
theorem toList_two {α : Type} {a : Array α} {x y : α} (h : a.toList = [x, y]) : a = #[x, y] := by
  cases a; simp at h; simp [h]

theorem index_sound (hE : EnvOK P E) (hM : HM bs φ s w) {U T : TypeId} {y z : Operand} {x i : AV} {vx vi : Value} (hx : R (cx bs φ s w) x vx) (hi : R (cx bs φ s w) i vi) (h : To P (hl · s.h) id (stepF s.m E id (.index U y z) T [x, i]) log o) :
    ∃ u rd, o = .ok u [] rd ∧ ∃ v, (Instr.index U vx vi).run P w = .ok v w ∧ R (cx bs φ s w) u v := by
  simp only [stepF] at h
  obtain ⟨kd, z, rfl, h⟩ := asI_sound hi h
  split at h
  · rename_i org t xs _
    obtain ⟨hsz, h⟩ := To.chk_inv h
    have hsz := Nat.eq_of_beq_eq_true hsz
    obtain ⟨⟨h0, h1, h2⟩, h⟩ := To.vc_inv h
    have hpos := sz_pos t
    obtain ⟨d, hd, hd'⟩ := (hE.len (T := U) (by omega)).u
    have := hd'.array (by omega)
    subst this
    have hTe := hE.sz (T := (ti U E).el) (by omega)
    cases hx with
    | av css q1 q2 q3 =>
      rename_i cs
      have hcl : ∀ c ∈ css, c.length = sz t := by
        intro c hc
        obtain ⟨j, hj, rfl⟩ := List.getElem_of_mem hc
        exact (q3 j (q2 ▸ hj)).length
      unfold partT at h
      obtain ⟨hok, h⟩ := To.chk_inv h
      obtain ⟨hle, h⟩ := To.chk_inv h
      have hj : z.toNat < xs.length := by omega
      have hsplit : css.flatten = (css.take z.toNat).flatten ++ (css[z.toNat]'(q2 ▸ hj) ++ (css.drop (z.toNat + 1)).flatten) := by
        rw [← List.flatten_cons, ← List.flatten_append]
        congr 1
        rw [← List.drop_eq_getElem_cons, List.take_append_drop]
      have hl1 : (css.take z.toNat).flatten.length = z.toNat * sz t := by
        rw [flat_length (fun c hc => hcl c (List.mem_of_mem_take hc)), List.length_take, Nat.min_eq_left (by omega)]
      have hjunk : ∀ vs : List Value, RL (cx bs φ s w) (List.replicate vs.length .junk) vs := by
        intro vs
        induction vs with
        | nil => exact .nil
        | cons v vs ih => exact .cons (.junk v) ih
      have hrow := RD.cells (c := cx bs φ s w) (q3 z.toNat hj)
      have hRL : RL (cx bs φ s w) (List.replicate (z.toNat * sz t) .junk ++ (cellsD org t xs[z.toNat] ++ List.replicate (css.drop (z.toNat + 1)).flatten.length .junk)) cs.toList := by
        rw [q1, hsplit]
        refine RL.append ?_ (RL.append hrow (hjunk _))
        rw [← hl1]; exact hjunk _
      have hlc := length_cellsD org t xs[z.toNat]
      obtain ⟨v, v1, v2⟩ := part_run (P := P) hTe hRL (k := z.toNat * (ti (ti U E).el E).sz) (by simp [hlc, hsz]) w
      refine ⟨_, _, To.ret_inv h, v, ?_, ?_⟩
      · simp only [Instr.index, asIntOf, Sem.run_bind, Sem.run_pure, Result.andThen_ok, run_underlying hd]
        rw [if_pos ⟨h0, by omega⟩]
        simp only [Sem.run_bind, run_size hTe, Result.andThen_ok, v1]
      · have hg : xs.getD z.toNat (dz t) = xs[z.toNat] := by simp [hj]
        rw [hg]
        have e : part (ti (ti U E).el E) (List.replicate (z.toNat * sz t) .junk ++ (cellsD org t xs[z.toNat] ++ List.replicate (css.drop (z.toNat + 1)).flatten.length .junk)) (z.toNat * (ti (ti U E).el E).sz) = part (ti (ti U E).el E) (cellsD org t xs[z.toNat]) 0 := by
          unfold part
          rw [← hsz]
          cases ha : (ti (ti U E).el E).agg with
          | true =>
            simp only [cut_eq]
            rw [List.drop_left' (by simp), List.drop_zero, List.take_append_of_le_length (by omega)]
          | false =>
            simp only [nth_eq]
            rw [List.getD_eq_getElem?_getD, List.getD_eq_getElem?_getD, List.getElem?_append_right (by simp), List.getElem?_append_left (by simp; omega)]
            simp
        rw [e] at v2
        exact v2
  · exact (To.bad_inv h).elim

end
end Go.Fw
namespace Go.Fw
open Go Go.RowKit

section
variable {P : Program} {E : Env} {bs : Bs} {φ : Ph} {s : St} {w : World} {id : Nat} {log : List Nat} {o : Out}

theorem RL.map {c : Cx} {f : Operand → AV} {ρ : Operand → Value} (hρ : ∀ x, R c (f x) (ρ x)) : ∀ l : List Operand, RL c (l.map f) (l.map ρ)
  | [] => .nil
  | x :: l => .cons (hρ x) (RL.map hρ l)

/-- A call of a function, not of a built-in one. -/
def isCall : Op → Bool
  | .call c => match c.callee with
    | .builtin _ => false
    | _ => true
  | _ => false

theorem RL.one_inv {c : Cx} {x : AV} {vs : List Value} (h : RL c [x] vs) : ∃ v, vs = [v] ∧ R c x v := by
  cases h with | cons h hl => cases hl; exact ⟨_, rfl, h⟩
theorem RL.two_inv {c : Cx} {x y : AV} {vs : List Value} (h : RL c [x, y] vs) : ∃ v u, vs = [v, u] ∧ R c x v ∧ R c y u := by
  cases h with | cons h hl => cases hl with | cons h' hl => cases hl; exact ⟨_, _, rfl, h, h'⟩
theorem R.place {c : Cx} {x : AV} {v : Value} (h : R c x v) (hx : (∃ i k, x = .ptr i k) ∨ (∃ i j k, x = .pa i j k) ∨ (∃ o l k, x = .ip o l k)) : ∃ a, v = .pointer (some a) := by
  cases h <;> simp at hx <;> exact ⟨_, rfl⟩
theorem R.agg_inv {c : Cx} {l : List AV} {v : Value} (h : R c (.agg l) v) : ∃ cs, v = .agg cs ∧ RL c l cs.toList := by
  cases h with | agg h => exact ⟨_, rfl, h⟩
theorem R.tup_inv {c : Cx} {l : List AV} {v : Value} (h : R c (.tup l) v) : ∃ cs, v = .tuple cs ∧ RL c l cs.toList := by
  cases h with | tup h => exact ⟨_, rfl, h⟩

theorem OpRes.of_ret (hM : HM bs φ s w) {u : AV} {r : Result Next} {v : Value} (h : To P (hl · s.h) id (.ret u []) log o) (hr : r = .ok (.value v) w) (hu : R (cx bs φ s w) u v) : OpRes bs φ s w o r := by
  rw [To.ret_inv h]; exact OpRes.pure hM hr hu

theorem parts_eq (ρ : Operand → Value) (ps : Array (Nat × Operand)) : (ps.map fun (i, x) => (i, ρ x)) = ((ps.toList.map (·.1)).zip ((ps.toList.map (·.2)).map ρ)).toArray := by
  apply Array.toList_inj.1
  simp only [Array.toList_map, List.map_map]
  generalize ps.toList = l
  induction l with
  | nil => rfl
  | cons p l ih => simp [ih]

theorem toList_map {α β : Type} (f : α → β) (a : Array α) : (a.map f).toList = a.toList.map f := by simp

theorem builtin_sound (hE : EnvOK P E) (hM : HM bs φ s w) (hn : ¬ s.al id) (hid : id < s.nx) {b : Builtin} {ats : Array TypeId} {l : List AV} {vs : Array Value} {ty : TypeId} {cs : Array Bool} (hl' : RL (cx bs φ s w) l vs.toList)
    (h : To P (hl · s.h) id (stepB s.m E id b ats.toList l) log o) : OpRes bs φ s w o ((builtin b ats ty cs vs).run P w) := by
  unfold stepB at h
  split at h
  · rename_i U x hU
    have := toList_one hU
    subst this
    obtain ⟨v, hv, hx⟩ := RL.one_inv hl'
    have := toList_one hv
    subst this
    obtain ⟨hk, h⟩ := To.chk_inv h
    obtain ⟨u, rd, rfl, v, h1, h2⟩ := len_sound hE hM (T' := ty) (Nat.eq_of_beq_eq_true hk) hx h
    exact OpRes.pure hM (run_v h1) h2
  · rename_i U V x y hU
    have := toList_two hU
    subst this
    obtain ⟨v, v', hv, hx, hy⟩ := RL.two_inv hl'
    have := toList_two hv
    subst this
    obtain ⟨hk, h⟩ := To.chk_inv h
    obtain ⟨hk2, h⟩ := To.chk_inv h
    obtain ⟨u, hs, rd, rfl, v, w', h1, h2⟩ := append_sound hE hM hn hid (T := ty) hx hy (Nat.eq_of_beq_eq_true hk) (Nat.eq_of_beq_eq_true hk2) h
    exact ⟨v, w', Or.inl (run_v h1), h2⟩
  · rename_i U V x y hU
    have := toList_two hU
    subst this
    obtain ⟨v, v', hv, hx, hy⟩ := RL.two_inv hl'
    have := toList_two hv
    subst this
    obtain ⟨hk, h⟩ := To.chk_inv h
    obtain ⟨hk2, h⟩ := To.chk_inv h
    obtain ⟨u, hs, rd, rfl, v, w', h1, h2⟩ := copy_sound hE hM (T := ty) (T2 := V) hx hy (Nat.eq_of_beq_eq_true hk) h
    exact ⟨v, w', Or.inl (run_v h1), h2⟩
  · obtain ⟨v, v', hv, hx, hy⟩ := RL.two_inv hl'
    have := toList_two hv
    subst this
    obtain ⟨u, rfl, v, h1, h2⟩ := minmax_sound hx hy h w ats ty cs
    exact OpRes.pure hM h1 h2
  · obtain ⟨v, v', hv, hx, hy⟩ := RL.two_inv hl'
    have := toList_two hv
    subst this
    obtain ⟨u, rfl, v, h1, h2⟩ := minmax_sound hx hy h w ats ty cs
    exact OpRes.pure hM h1 h2
  · obtain ⟨v, hv, hx⟩ := RL.one_inv hl'
    have := toList_one hv
    subst this
    obtain ⟨u, rfl, h1, h2⟩ := pnc_sound hx h w
    refine ⟨_, ?_, Res.pure hM h1⟩
    simp [builtin, h2, Result.andThen]
  · exact (To.bad_inv h).elim

theorem op_sound (hE : EnvOK P E) (hM : HM bs φ s w) (hn : ¬ s.al id) (hid : id < s.nx) {ρ : Operand → Value} {f : Operand → AV} (hρ : ∀ x, R (cx bs φ s w) (f x) (ρ x)) (hcv : ∀ v, ρ (.const v) = v) (oper : Oper) {T : TypeId} (hc : isCall oper.op = false)
    (h : To P (hl · s.h) id (stepF s.m E id oper.op T ((opnds oper.op).map f)) log o) : OpRes bs φ s w o ((execOp ρ oper).run P w) := by
  obtain ⟨dst, op, ty, pos, after, guard⟩ := oper
  simp only at hc h
  cases op with
  | move x => exact OpRes.of_ret hM h rfl (hρ x).fixNil
  | assign x => exact OpRes.of_ret hM h rfl (hρ x).fixNil
  | pick c a b =>
    simp only [opnds, List.map_cons, List.map_nil, stepF] at h
    have hc := hρ c
    split at h
    · rename_i e
      rw [e] at hc
      have := R.tt_inv hc
      exact OpRes.of_ret hM h (v := ρ a) (by simp [execOp, this, asBool]) (hρ a)
    · rename_i e
      rw [e] at hc
      have := R.ff_inv hc
      exact OpRes.of_ret hM h (v := ρ b) (by simp [execOp, this, asBool]) (hρ b)
    · exact (To.bad_inv h).elim
  | alloc U =>
    obtain ⟨u, hs, rd, rfl, v, w', h1, h2⟩ := alloc_sound hE hM hn hid (x := 0) h
    exact ⟨v, w', Or.inl (run_v h1), h2⟩
  | box U x =>
    obtain ⟨u, hs, rd, rfl, v, w', h1, h2⟩ := box_sound hM hn hid (U := U) (hρ x).fixNil h
    exact ⟨v, w', Or.inl (run_v h1), h2⟩
  | build U ps =>
    obtain ⟨u, hs, rd, rfl, v, h1, h2⟩ := build_sound hE hM (ps := ps) (RL.map hρ _) (by simp [opnds]) h
    refine ⟨v, w, Or.inl (run_v ?_), h2⟩
    rw [← h1]
    congr 2
    exact parts_eq ρ ps
  | buildSlice U n ps =>
    obtain ⟨u, hs, rd, rfl, v, w', h1, h2⟩ := buildSlice_sound hE hM hn hid (ps := ps) (RL.map hρ _) (by simp [opnds]) h
    refine ⟨v, w', Or.inl (run_v ?_), h2⟩
    rw [← h1]
    congr 2
    exact parts_eq ρ ps
  | load U x =>
    obtain ⟨u, rd, rfl, v, h1, h2⟩ := load_sound hM hE (hρ x) h
    exact OpRes.pure hM (run_v h1) h2
  | store U a x =>
    obtain ⟨hs, rd, rfl, w', h1, h2⟩ := store_sound hM hE (hρ a) (hρ x).fixNil h
    refine ⟨undef, w', Or.inr ⟨?_, rfl⟩, h2⟩
    simp only [execOp, Sem.run_bind, h1, Result.andThen_ok]; rfl
  | nilCheck x =>
    simp only [opnds, List.map_cons, List.map_nil, stepF] at h
    have hx := hρ x
    split at h
    all_goals first
      | exact (To.bad_inv h).elim
      | (rename_i e
         rw [e] at hx
         obtain ⟨a, ha⟩ := hx.place (by simp)
         refine OpRes.of_ret hM h (v := ρ x) ?_ hx
         simp only [execOp, ha]; rfl)
  | binOp op U x y po =>
    obtain ⟨u, v, rfl, h1, h2⟩ : ∃ u v, o = .ok u [] log ∧ (do eqGuard op U x y (ρ x) (ρ y); Go.binOp op U (ρ x) (ρ y) : Sem Value).run P w = .ok v w ∧ R (cx bs φ s w) u v := by
      dsimp only [stepF, opnds, List.map] at h
      split at h
      · rw [hcv]; exact isNil_sound hE (hρ x) h w x
      · rw [hcv]; exact isNil_sound hE (hρ x) h w x
      · split at h
        · exact binopW_sound hE (hρ x) (hρ y) h w x y
        · exact binop_sound hE (hρ x) (hρ y) h w x y
    exact OpRes.pure hM (run_v h1) h2
  | unOp op U x =>
    simp only [opnds, List.map_cons, List.map_nil, stepF] at h
    have hx := (hρ x).nrm
    split at h
    · rename_i e
      rw [e] at hx
      refine OpRes.of_ret hM h ?_ (.val _)
      simp only [execOp, R.val_inv hx]; rfl
    · rename_i e
      rw [e] at hx
      obtain ⟨hv, h⟩ := To.vc_inv h
      refine OpRes.of_ret hM h ?_ (.val _)
      have hw := inr_wrap hv
      simp only [execOp, R.val_inv hx, Op.unary, Op.intArith]
      simp [hw]
    · exact (To.bad_inv h).elim
  | convert V U x =>
    simp only [opnds, List.map_cons, List.map_nil, stepF] at h
    obtain ⟨hk, h⟩ := To.chk_inv h
    obtain ⟨u, v, rfl, h1, h2⟩ := conv_sound hE (hρ x) hk h w
    exact OpRes.pure hM (run_v h1) h2
  | makeInterface U x =>
    simp only [opnds, List.map_cons, List.map_nil, stepF] at h
    obtain ⟨hk, h⟩ := To.chk_inv h
    obtain ⟨hk9, h⟩ := To.chk_inv h
    obtain ⟨d, hd, hd'⟩ := (hE.ok hk).u
    refine OpRes.of_ret hM h (run_v ?_) (.ifc (hρ x))
    rw [Instr.makeInterface, Sem.run_bind, run_underlying hd]
    cases d <;> first | rfl | (simp [UD] at hd'; simp [hd'] at hk9)
  | makeFunc fn first captured =>
    simp only [opnds, stepF] at h
    refine OpRes.of_ret hM h (v := .func fn (first.map ρ) (captured.map ρ)) rfl ?_
    refine .clo ?_ ?_
    · have := RL.map hρ first.toList
      simpa [List.take_append_of_le_length, List.take_of_length_le] using this
    · have := RL.map hρ captured.toList
      simpa [List.drop_append_of_le_length, List.drop_of_length_le] using this
  | makeSlice U l c =>
    obtain ⟨u, hs, rd, rfl, v, w', h1, h2⟩ := makeSlice_sound hE hM hn hid (hρ l) (hρ c) h
    exact ⟨v, w', Or.inl (run_v h1), h2⟩
  | slice U x lo hi mx =>
    cases mx with
    | some mx =>
      cases lo with
      | some _ => cases hi <;> exact (To.bad_inv h).elim
      | none =>
        cases hi with
        | none => exact (To.bad_inv h).elim
        | some hi =>
          obtain ⟨u, hs, rd, rfl, v, w', h1, h2⟩ := slice3x_sound hE hM hn hid (hρ x) (hρ hi) (hρ mx) h
          exact ⟨v, w', Or.inl (run_v h1), h2⟩
    | none =>
      cases lo <;> cases hi <;> simp [opnds, stepF] at h
      · obtain ⟨u, rd, rfl, v, h1, h2⟩ := sliceOp_sound hE hM (hρ x) (vlo := none) (vhi := none) (Or.inl ⟨rfl, rfl⟩) (Or.inl ⟨rfl, rfl⟩) h
        exact OpRes.pure hM (run_v h1) h2
      · obtain ⟨u, rd, rfl, v, h1, h2⟩ := sliceOp_sound hE hM (hρ x) (vlo := none) (Or.inl ⟨rfl, rfl⟩) (Or.inr ⟨_, _, rfl, rfl, hρ _⟩) h
        exact OpRes.pure hM (run_v h1) h2
      · obtain ⟨u, rd, rfl, v, h1, h2⟩ := sliceOp_sound hE hM (hρ x) (vhi := none) (Or.inr ⟨_, _, rfl, rfl, hρ _⟩) (Or.inl ⟨rfl, rfl⟩) h
        exact OpRes.pure hM (run_v h1) h2
      · obtain ⟨u, rd, rfl, v, h1, h2⟩ := sliceOp_sound hE hM (hρ x) (Or.inr ⟨_, _, rfl, rfl, hρ _⟩) (Or.inr ⟨_, _, rfl, rfl, hρ _⟩) h
        exact OpRes.pure hM (run_v h1) h2
  | fieldAddr U x f =>
    obtain ⟨u, rfl, v, h1, h2⟩ := fldAddr_sound hE (hρ x) h w
    exact OpRes.pure hM (run_v h1) h2
  | field U x f =>
    simp only [opnds, List.map_cons, List.map_nil, stepF] at h
    have hx := hρ x
    split at h
    · rename_i off V l hf e
      rw [e] at hx
      obtain ⟨cs, hcs, hl'⟩ := R.agg_inv hx
      obtain ⟨u, rfl, v, h1, h2⟩ := partT_sound hE hl' h w
      obtain ⟨d, hd, hd'⟩ := (hE.flds (T := U) (by intro e; rw [e] at hf; cases hf)).u
      refine OpRes.pure hM (run_v ?_) h2
      rw [hcs]
      cases d with
      | struct fs =>
        simp only [UD] at hd'
        obtain ⟨_, _, _, _, e1, e2⟩ := hd'
        rw [e1, List.getElem?_map] at hf
        cases hg : fs.toList[f]? with
        | none => rw [hg] at hf; cases hf
        | some fl =>
          rw [hg] at hf
          simp at hf
          obtain ⟨rfl, rfl⟩ := hf
          have hg' : fs[f]? = some fl := by simpa using hg
          simp [Instr.field, run_underlying hd, hg', asAgg, h1]
      | _ => simp [UD] at hd' <;> simp [hd'] at hf
    · exact (To.bad_inv h).elim
  | indexAddr U x i =>
    obtain ⟨u, rd, rfl, v, h1, h2⟩ := idxAddr_sound hE hM (hρ x) (hρ i) h
    exact OpRes.pure hM (run_v h1) h2
  | index U x i =>
    obtain ⟨u, rd, rfl, v, h1, h2⟩ := index_sound hE hM (hρ x) (hρ i) h
    exact OpRes.pure hM (run_v h1) h2
  | extract x i =>
    simp only [opnds, List.map_cons, List.map_nil, stepF] at h
    have hx := hρ x
    split at h
    · rename_i l e
      rw [e] at hx
      obtain ⟨hi, h⟩ := To.chk_inv h
      have hi := Nat.le_of_ble_eq_true hi
      obtain ⟨cs, hcs, hl'⟩ := R.tup_inv hx
      have hlen := hl'.length
      have hi' : i < cs.size := by simp at hlen; omega
      refine OpRes.of_ret hM h (v := cs[i]) ?_ ?_
      · simp [execOp, hcs, Instr.extract, hi']
      · have := hl'.get i hi
        rw [nth_eq, List.getD_eq_getElem?_getD, List.getElem?_eq_getElem hi]
        simpa using this
    · exact (To.bad_inv h).elim
  | call c =>
    obtain ⟨callee, args, ats⟩ := c
    cases callee with
    | builtin b =>
      have hrun : (execOp ρ ⟨dst, .call { callee := .builtin b, args, argTypes := ats }, ty, pos, after, guard⟩).run P w = (builtin b ats ty (args.map fun | .const _ => true | _ => false) (args.map ρ)).run P w := by
        rfl
      rw [hrun]
      refine builtin_sound (log := log) hE hM hn hid (l := args.toList.map f) ?_ ?_
      · rw [toList_map]; exact RL.map hρ _
      · simpa [opnds, stepF] using h
    | _ => simp [isCall] at hc
  | panic x =>
    obtain ⟨u, rfl, h1, h2⟩ := pnc_sound (hρ x) h w
    refine ⟨_, ?_, Res.pure hM h1⟩
    simp [execOp, h2, Result.andThen]
  | _ => exact (To.bad_inv h).elim
end
end Go.Fw
namespace Go.Fw
open Go Go.RowKit

theorem idx_some : ∀ {ρ : List Nat} {id k i : Nat}, idx ρ id k = some i → ∃ j, i = k + j ∧ ρ[j]? = some id
  | [], _, _, _, h => by simp [idx] at h
  | x :: ρ, id, k, i, h => by
    simp only [idx] at h
    split at h
    · rename_i hb
      cases h
      exact ⟨0, rfl, by rw [Nat.eq_of_beq_eq_true hb]; rfl⟩
    · obtain ⟨j, h1, h2⟩ := idx_some h
      exact ⟨j + 1, by omega, by simpa using h2⟩

theorem idx_none : ∀ {ρ : List Nat} {id k : Nat}, idx ρ id k = none → ∀ j : Nat, ρ[j]? ≠ some id
  | [], _, _, _, j => by simp
  | x :: ρ, id, k, h, j => by
    simp only [idx] at h
    split at h
    · cases h
    · rename_i hb
      cases j with
      | zero => simpa using Nat.ne_of_beq_eq_false hb
      | succ j => simpa using idx_none h j

/-- How a callee's context lies in its caller's. -/
structure Fz (c cc : Cx) (ρ : List Nat) (pure : Bool) : Prop where
  w : cc.w = c.w
  al : ∀ i id : Nat, ρ[i]? = some id → cc.al i
  φ : ∀ i id : Nat, ρ[i]? = some id → cc.φ i = c.φ id
  h : ∀ i id : Nat, ρ[i]? = some id → ∀ t n, shp (cc.h i) = some (t, n) → shp (c.h id) = some (t, n)
  live : ∀ b, cc.live b → ∃ i id : Nat, ρ[i]? = some id ∧ c.h id ≠ none ∧ c.own id b
  ok : ∀ (o : Org) (b : Nat), (pure = true → isTmp o = false) → c.ok o b → cc.ok .old b
  ok' : pure = false → ∀ b, ¬ cc.live b → cc.ok .old b

theorem RD.imp {w : World} {ok ok' : Nat → Prop} (hk : ∀ b, ok b → ok' b) : ∀ {t : Ty} {x : D t} {cs : List Value}, RD w ok t x cs → RD w ok' t x cs :=
  fun h => h.keep fun b _ hb => ⟨hk b hb, rfl⟩

theorem RDs.imp {w : World} {ok ok' : Nat → Prop} (hk : ∀ b, ok b → ok' b) {t : Ty} {b off : Nat} {xs : List (D t)} (h : RDs w ok t b off xs) : RDs w ok' t b off xs :=
  fun j hj => by obtain ⟨rc, h1, h2⟩ := h j hj; exact ⟨rc, h1, h2.imp hk⟩

section
variable {bs : Bs} {φ : Ph} {s : St} {w : World} {cc : Cx} {ρ : List Nat} {pure : Bool}

/-- A block of the caller's own that is not handed over is no block of the callee's. -/
theorem Fz.other (hM : HM bs φ s w) (hz : Fz (cx bs φ s w) cc ρ pure) {id b : Nat} (hn : ∀ j : Nat, ρ[j]? ≠ some id) (hl' : hl id s.h ≠ none) (hp : φ.own id b) : ¬ cc.live b := by
  intro hlv
  obtain ⟨i, id', h1, h2, h3⟩ := hz.live b hlv
  have := hM.inj id id' b hl' h2 hp h3
  exact hn i (this ▸ h1)

theorem slAt_fz {c : Cx} (hz : Fz c cc ρ pure) {i id lo len cap : Nat} {ad : Option Addr} (hi : ρ[i]? = some id) (h : slAt c id lo len cap ad) : slAt cc i lo len cap ad := by
  rcases h with ⟨b, off, off', h1, h2, h3⟩ | ⟨h1, h2⟩
  · exact Or.inl ⟨b, off, off', (hz.φ i id hi).trans h1, h2, fun t n hx => h3 t n (hz.h i id hi t n hx)⟩
  · exact Or.inr ⟨(hz.φ i id hi).trans h1, h2⟩

theorem capOk_fz {c : Cx} (hz : Fz c cc ρ pure) {i id lo cap : Nat} (hi : ρ[i]? = some id) (h : capOk c id lo cap) : capOk cc i lo cap := by
  intro t n hx b off hp
  rw [hz.φ i id hi] at hp
  rw [hz.w]
  exact h t n (hz.h i id hi t n hx) b off hp

/-- A block of rows, read as data. -/
theorem own_frozen (hM : HM bs φ s w) (hz : Fz (cx bs φ s w) cc ρ pure) (hp : pure = false) {id lo len cap : Nat} {ad : Option Addr} {t : Ty} {xs : List (D t)} (hb : (∃ o, hl id s.h = some (.arr o t xs)) ∨ hl id s.h = some (.deep t xs)) (hn : ∀ j : Nat, ρ[j]? ≠ some id)
    (hs : slAt (cx bs φ s w) id lo len cap ad ∨ (len = 0 ∧ cap = 0)) (hle : lo + len ≤ xs.length) (hc : len ≤ cap) : RD cc.w (cc.ok .old) (.sl t) ((xs.drop lo).take len) [.slice ad len cap] := by
  simp only [RD]
  have hsh : shp (hl id s.h) = some (t, xs.length) := by rcases hb with ⟨o, h⟩ | h <;> rw [h] <;> rfl
  have hnn : hl id s.h ≠ none := by intro e; rw [e] at hsh; cases hsh
  have hlen : ((xs.drop lo).take len).length = len := by simp; omega
  refine ⟨ad, cap, by rw [hlen], by rw [hlen]; exact hc, fun hne => ?_⟩
  have hpos : 0 < len := by
    rcases Nat.eq_zero_or_pos len with h | h
    · subst h; simp at hne
    · exact h
  rcases hs with hs | ⟨h0, _⟩
  · rcases hs with ⟨b, off, off', h1, h2, h3⟩ | ⟨_, _, h0, _⟩
    · have h1 : φ id = some (b, off) := h1
      have hoff := h3 _ _ hsh
      have hnl := hz.other hM hn hnn (Or.inl ⟨off, h1⟩)
      have hrows : RDs w (cc.ok .old) t b off xs := by
        rcases hb with ⟨o, hb⟩ | hb
        · rcases hM.h id _ hb with ⟨b', off2, cs, e, g1, g2, g3, g4⟩ | ⟨g1, _⟩
          · have g1 : φ id = some (b', off2) := g1
            rw [h1] at g1
            cases g1
            exact g4.imp fun b' hb' => hz.ok o b' (fun h => by rw [hp] at h; cases h) hb'
          · have g1 : φ id = none := g1
            rw [h1] at g1; cases g1
        · rcases hM.h id _ hb with ⟨b', off2, cs, e, g1, g2, g3, g4, g5⟩ | ⟨g1, _⟩
          · have g1 : φ id = some (b', off2) := g1
            rw [h1] at g1
            cases g1
            exact g5.data fun b' hb' _ => hz.ok' hp b' (hz.other hM hn hnn (Or.inr hb'))
          · have g1 : φ id = none := g1
            rw [h1] at g1; cases g1
      refine ⟨b, off', h2, hz.ok' hp b hnl, fun j hj => ?_⟩
      have hj' : lo + j < xs.length := by rw [hlen] at hj; omega
      obtain ⟨rc, r1, r2⟩ := hrows (lo + j) hj'
      refine ⟨rc, ?_, ?_⟩
      · rw [hz.w]
        have : off' + j * sz t = off + (lo + j) * sz t := by rw [hoff, Nat.add_mul]; omega
        rw [this]; exact r1
      · rw [hz.w]
        have e : ((xs.drop lo).take len)[j]'hj = xs[lo + j] := by simp
        simpa [cx, e] using r2
    · omega
  · omega

theorem frz_sound (hM : HM bs φ s w) (hz : Fz (cx bs φ s w) cc ρ pure) : ∀ n,
    (∀ {x x' : AV} {p : Bool} {l : List Nat} {v : Value}, frz (hl · s.h) ρ n x = some (x', p, l) → (pure = true → p = true) → R (cx bs φ s w) x v → R cc x' v) ∧
    (∀ {x x' : List AV} {p : Bool} {l : List Nat} {v : List Value}, frzs (hl · s.h) ρ n x = some (x', p, l) → (pure = true → p = true) → RL (cx bs φ s w) x v → RL cc x' v)
  | 0 => ⟨fun h => by simp [frz] at h, fun h => by simp [frzs] at h⟩
  | n + 1 => by
    obtain ⟨ih1, ih2⟩ := frz_sound hM hz n
    have hor : ∀ {p q : Bool}, (pure = true → (p && q) = true) → (pure = true → p = true) ∧ (pure = true → q = true) := fun h =>
      ⟨fun e => by have := h e; simp at this; exact this.1, fun e => by have := h e; simp at this; exact this.2⟩
    have htm : ∀ {o : Org}, (pure = true → (!isTmp o) = true) → pure = true → isTmp o = false := fun h e => by simpa using h e
    refine ⟨fun {x x' p l v} h hp hx => ?_, fun {x x' p l v} h hp hx => ?_⟩
    · cases x with
      | junk => simp [frz] at h
      | val y => simp only [frz, Option.some.injEq, Prod.mk.injEq] at h; obtain ⟨rfl, _⟩ := h; rw [R.val_inv hx]; exact .val _
      | un k m => simp only [frz, Option.some.injEq, Prod.mk.injEq] at h; obtain ⟨rfl, _⟩ := h; rw [R.un_inv hx]; exact .un _ _
      | tt => simp only [frz, Option.some.injEq, Prod.mk.injEq] at h; obtain ⟨rfl, _⟩ := h; rw [R.tt_inv hx]; exact .val _
      | ff => simp only [frz, Option.some.injEq, Prod.mk.injEq] at h; obtain ⟨rfl, _⟩ := h; rw [R.ff_inv hx]; exact .val _
      | nil t =>
        simp only [frz, Option.some.injEq, Prod.mk.injEq] at h; obtain ⟨rfl, _⟩ := h; rw [R.nil_inv hx]
        exact .dat (by simp only [RD]; exact ⟨none, 0, rfl, Nat.le_refl _, fun h => absurd rfl h⟩)
      | dat o t xs =>
        simp only [frz, Option.some.injEq, Prod.mk.injEq] at h; obtain ⟨rfl, rfl, _⟩ := h
        cases hx with
        | dat hr => exact .dat (by rw [hz.w]; exact hr.imp fun b hb => hz.ok o b (htm hp) hb)
      | av o t xs =>
        simp only [frz, Option.some.injEq, Prod.mk.injEq] at h; obtain ⟨rfl, rfl, _⟩ := h
        cases hx with
        | av css h1 h2 h3 => exact .av css h1 h2 fun j hj => by rw [hz.w]; exact (h3 j hj).imp fun b hb => hz.ok o b (htm hp) hb
      | ip o cs k =>
        simp only [frz] at h
        split at h
        · rename_i cs' p' l' heq
          simp only [Option.some.injEq, Prod.mk.injEq] at h; obtain ⟨rfl, rfl, _⟩ := h
          obtain ⟨p1, p2⟩ := hor hp
          cases hx with
          | ip h0 h1 h2 h3 => exact .ip (by rw [hz.w]; exact h0) (hz.ok o _ (htm p2) h1) (by rw [hz.w]; exact h2) (ih2 heq p1 h3)
        · cases h
      | ptr id off =>
        simp only [frz] at h
        cases hx with
        | ptr q1 q2 =>
          rename_i b off0
          split at h
          · rename_i i hi
            simp only [Option.some.injEq, Prod.mk.injEq] at h; obtain ⟨rfl, _⟩ := h
            obtain ⟨j, rfl, hj⟩ := idx_some hi
            rw [Nat.zero_add]
            exact .ptr (hz.al j id hj) ((hz.φ j id hj).trans q2)
          · rename_i hi
            split at h
            · rename_i cs hb
              split at h
              · rename_i cs' p' l' heq
                simp only [Option.some.injEq, Prod.mk.injEq] at h; obtain ⟨rfl, rfl, _⟩ := h
                have hpf : pure = false := by cases pure; rfl; exact absurd (hp rfl) (by simp)
                obtain ⟨b', rc, e, g1, g2, g3⟩ := blk_cells hM hb
                have q2 : φ id = some (b, off0) := q2
                rw [g1] at q2
                cases q2
                have hnl := hz.other hM (idx_none hi) (by rw [hb]; simp) (Or.inl ⟨_, g1⟩)
                have hr := rowAt_of g2
                refine .ip (rc := rc.toList) ?_ (hz.ok' hpf _ hnl) (by rw [hz.w]; exact hr) (ih2 heq (fun e => by rw [hpf] at e; cases e) g3)
                rw [hz.w]
                rcases Nat.lt_or_ge b w.heap.size with h | h
                · exact h
                · rw [Array.getElem?_eq_none h] at g2; cases g2
              · cases h
            · cases h
      | pa id j k =>
        simp only [frz] at h
        cases hx with
        | pa q1 q2 q3 =>
          split at h
          · rename_i i hi
            simp only [Option.some.injEq, Prod.mk.injEq] at h; obtain ⟨rfl, _⟩ := h
            obtain ⟨j', rfl, hj⟩ := idx_some hi
            rw [Nat.zero_add]
            exact .pa (hz.al j' id hj) ((hz.φ j' id hj).trans q2) fun t n hx => q3 t n (hz.h j' id hj t n hx)
          · cases h
      | own id =>
        simp only [frz] at h
        cases hx with
        | own q1 q2 q3 q4 q5 =>
          rename_i len cap ad
          split at h
          · rename_i i hi
            simp only [Option.some.injEq, Prod.mk.injEq] at h; obtain ⟨rfl, _⟩ := h
            obtain ⟨j', rfl, hj⟩ := idx_some hi
            rw [Nat.zero_add]
            exact .own (hz.al j' id hj) (fun t n hx => q2 t n (hz.h j' id hj t n hx)) (q3.imp (slAt_fz hz hj) fun h => h) (capOk_fz hz hj q4) q5
          · rename_i hi
            split at h
            · rename_i o t xs hb
              simp only [Option.some.injEq, Prod.mk.injEq] at h; obtain ⟨rfl, rfl, _⟩ := h
              have hpf : pure = false := by cases pure; rfl; exact absurd (hp rfl) (by simp)
              have hlen := q2 _ _ (shp_arr hb)
              subst hlen
              have := own_frozen hM hz hpf (Or.inl ⟨o, hb⟩) (idx_none hi) q3 (by omega) q5
              rw [List.drop_zero, List.take_length] at this
              exact .dat this
            · rename_i t xs hb
              simp only [Option.some.injEq, Prod.mk.injEq] at h; obtain ⟨rfl, rfl, _⟩ := h
              have hpf : pure = false := by cases pure; rfl; exact absurd (hp rfl) (by simp)
              have hlen := q2 _ _ (shp_deep hb)
              subst hlen
              have := own_frozen hM hz hpf (Or.inr hb) (idx_none hi) q3 (by omega) q5
              rw [List.drop_zero, List.take_length] at this
              exact .dat this
            · cases h
      | sl id lo len =>
        simp only [frz] at h
        cases hx with
        | sl q1 q2 q3 q4 q5 =>
          rename_i cap ad
          split at h
          · rename_i i hi
            simp only [Option.some.injEq, Prod.mk.injEq] at h; obtain ⟨rfl, _⟩ := h
            obtain ⟨j', rfl, hj⟩ := idx_some hi
            rw [Nat.zero_add]
            exact .sl (hz.al j' id hj) (fun t n hx => q2 t n (hz.h j' id hj t n hx)) (q3.imp (slAt_fz hz hj) fun h => h) (capOk_fz hz hj q4) q5
          · rename_i hi
            split at h
            · rename_i o t xs hb
              simp only [Option.some.injEq, Prod.mk.injEq] at h; obtain ⟨rfl, rfl, _⟩ := h
              have hpf : pure = false := by cases pure; rfl; exact absurd (hp rfl) (by simp)
              exact .dat (own_frozen hM hz hpf (Or.inl ⟨o, hb⟩) (idx_none hi) q3 (q2 _ _ (shp_arr hb)) q5)
            · rename_i t xs hb
              simp only [Option.some.injEq, Prod.mk.injEq] at h; obtain ⟨rfl, rfl, _⟩ := h
              have hpf : pure = false := by cases pure; rfl; exact absurd (hp rfl) (by simp)
              exact .dat (own_frozen hM hz hpf (Or.inr hb) (idx_none hi) q3 (q2 _ _ (shp_deep hb)) q5)
            · cases h
      | agg cs =>
        simp only [frz] at h
        split at h
        · rename_i cs' p' l' heq
          simp only [Option.some.injEq, Prod.mk.injEq] at h; obtain ⟨rfl, rfl, _⟩ := h
          cases hx with | agg hr => exact .agg (ih2 heq hp hr)
        · cases h
      | tup cs =>
        simp only [frz] at h
        split at h
        · rename_i cs' p' l' heq
          simp only [Option.some.injEq, Prod.mk.injEq] at h; obtain ⟨rfl, rfl, _⟩ := h
          cases hx with | tup hr => exact .tup (ih2 heq hp hr)
        · cases h
      | clo f a b =>
        simp only [frz] at h
        split at h
        · rename_i a' p' l' heq
          split at h
          · rename_i b' q' l2 heq2
            simp only [Option.some.injEq, Prod.mk.injEq] at h; obtain ⟨rfl, rfl, _⟩ := h
            obtain ⟨p1, p2⟩ := hor hp
            cases hx with | clo h1 h2 => exact .clo (ih2 heq p1 h1) (ih2 heq2 p2 h2)
          · cases h
        · cases h
      | ifc t y =>
        simp only [frz] at h
        split at h
        · rename_i y' p' l' heq
          simp only [Option.some.injEq, Prod.mk.injEq] at h; obtain ⟨rfl, rfl, _⟩ := h
          cases hx with | ifc hr => exact .ifc (ih1 heq hp hr)
        · cases h
    · cases x with
      | nil => simp only [frzs, Option.some.injEq, Prod.mk.injEq] at h; obtain ⟨rfl, _⟩ := h; cases hx; exact .nil
      | cons y r =>
        simp only [frzs] at h
        split at h
        · rename_i y' p' l' heq
          split at h
          · rename_i r' q' l2 heq2
            simp only [Option.some.injEq, Prod.mk.injEq] at h; obtain ⟨rfl, rfl, _⟩ := h
            obtain ⟨p1, p2⟩ := hor hp
            cases hx with | cons h1 h2 => exact .cons (ih1 heq p1 h1) (ih2 heq2 p2 h2)
          · cases h
        · cases h

end
end Go.Fw
namespace Go.Fw
open Go Go.RowKit

/-- How a callee's context lies in its caller's, after the call. -/
structure Tz (cc c : Cx) (g : Nat → Nat) (pure : Bool) : Prop where
  w : c.w = cc.w
  al : ∀ i : Nat, cc.al i → c.al (g i)
  φ : ∀ i : Nat, cc.al i → c.φ (g i) = cc.φ i
  h : ∀ i : Nat, cc.al i → ∀ t n, shp (c.h (g i)) = some (t, n) → shp (cc.h i) = some (t, n)
  fr : ∀ b : Nat, cc.ok .fr b → c.ok .fr b
  old : pure = true → ∀ b : Nat, cc.ok .old b → c.ok .old b

section
variable {cc c : Cx} {g : Nat → Nat} {pure : Bool}

theorem Tz.ok (hz : Tz cc c g pure) {o : Org} (h : (pure = true ∧ (!isTmp o) = true) ∨ (match o with | .fr => true | _ => false) = true) (b : Nat) (hb : cc.ok o b) : c.ok o b := by
  cases o with
  | fr => exact hz.fr b hb
  | old =>
    rcases h with ⟨h, _⟩ | h
    · exact hz.old h b hb
    · cases h
  | tmp => rcases h with ⟨_, h⟩ | h <;> cases h

theorem slAt_tz (hz : Tz cc c g pure) {i lo len cap : Nat} {ad : Option Addr} (hi : cc.al i) (h : slAt cc i lo len cap ad) : slAt c (g i) lo len cap ad := by
  rcases h with ⟨b, off, off', h1, h2, h3⟩ | ⟨h1, h2⟩
  · exact Or.inl ⟨b, off, off', (hz.φ i hi).trans h1, h2, fun t n hx => h3 t n (hz.h i hi t n hx)⟩
  · exact Or.inr ⟨(hz.φ i hi).trans h1, h2⟩

theorem capOk_tz (hz : Tz cc c g pure) {i lo cap : Nat} (hi : cc.al i) (h : capOk cc i lo cap) : capOk c (g i) lo cap := by
  intro t n hx b off hp
  rw [hz.φ i hi] at hp
  rw [hz.w]
  exact h t n (hz.h i hi t n hx) b off hp

theorem orand {p q r s : Bool} (h : (pure = true ∧ (p && q) = true) ∨ (r && s) = true) : ((pure = true ∧ p = true) ∨ r = true) ∧ ((pure = true ∧ q = true) ∨ s = true) := by
  cases p <;> cases q <;> cases r <;> cases s <;> simp_all

mutual
theorem ren_sound (hz : Tz cc c g pure) : ∀ {x : AV} {v : Value}, ((pure = true ∧ noTmp x = true) ∨ noOld x = true) → R cc x v → R c (ren g x) v
  | _, _, _, .junk v => .junk v
  | _, _, _, .val v => .val v
  | _, _, _, .un k n => .un k n
  | _, _, _, .tt => .tt
  | _, _, _, .ff => .ff
  | _, _, _, .nil t => .nil t
  | .dat o _ _, _, ho, .dat hr => .dat (by rw [hz.w]; exact hr.imp (hz.ok (o := o) ho))
  | .av o _ _, _, ho, .av css h1 h2 h3 => .av css h1 h2 fun j hj => by rw [hz.w]; exact (h3 j hj).imp (hz.ok (o := o) ho)
  | .ip o l _, _, ho, .ip h0 h1 h2 h3 => by
      have hp : pure = true ∧ (!isTmp o) = true ∧ noTmps l = true := by
        rcases ho with ⟨h1, h2⟩ | h
        · simp only [noTmp, Bool.and_eq_true] at h2; exact ⟨h1, h2.1, h2.2⟩
        · simp [noOld] at h
      exact .ip (by rw [hz.w]; exact h0) (hz.ok (Or.inl ⟨hp.1, hp.2.1⟩) _ h1) (by rw [hz.w]; exact h2) (rens_sound hz (Or.inl ⟨hp.1, hp.2.2⟩) h3)
  | _, _, _, .ptr hi h1 => .ptr (hz.al _ hi) ((hz.φ _ hi).trans h1)
  | _, _, _, .pa hi h1 h2 => .pa (hz.al _ hi) ((hz.φ _ hi).trans h1) fun t n hx => h2 t n (hz.h _ hi t n hx)
  | _, _, _, .own hi h1 h2 h3 h4 => .own (hz.al _ hi) (fun t n hx => h1 t n (hz.h _ hi t n hx)) (h2.imp (slAt_tz hz hi) fun x => x) (capOk_tz hz hi h3) h4
  | _, _, _, .sl hi h1 h2 h3 h4 => .sl (hz.al _ hi) (fun t n hx => h1 t n (hz.h _ hi t n hx)) (h2.imp (slAt_tz hz hi) fun x => x) (capOk_tz hz hi h3) h4
  | _, _, ho, .agg hl => .agg (rens_sound hz ho hl)
  | _, _, ho, .tup hl => .tup (rens_sound hz ho hl)
  | _, _, ho, .clo h1 h2 => .clo (rens_sound hz (orand ho).1 h1) (rens_sound hz (orand ho).2 h2)
  | _, _, ho, .ifc hr => .ifc (ren_sound hz ho hr)
theorem rens_sound (hz : Tz cc c g pure) : ∀ {l : List AV} {vs : List Value}, ((pure = true ∧ noTmps l = true) ∨ noOlds l = true) → RL cc l vs → RL c (rens g l) vs
  | _, _, _, .nil => .nil
  | _, _, ho, .cons h1 h2 => .cons (ren_sound hz (orand ho).1 h1) (rens_sound hz (orand ho).2 h2)
end

theorem hl_ren (hg : ∀ i j : Nat, cc.al i → cc.al j → g i = g j → i = j) : ∀ {hs : List (Nat × Option Blk)}, (∀ i x, (i, x) ∈ hs → cc.al i) → ∀ (i : Nat), cc.al i → hl (g i) (renH g hs) = renB g (hl i hs)
  | [], _, _, _ => rfl
  | (k, x) :: hs, hk, i, hi => by
    simp only [renH, hl_cons]
    have hka := hk k x (by simp)
    by_cases e : k = i
    · subst e; simp
    · rw [if_neg fun e' => e (hg k i hka hi e'), if_neg e]
      exact hl_ren hg (fun i x h => hk i x (by simp [h])) i hi

theorem hl_ren_none : ∀ {hs : List (Nat × Option Blk)} {j : Nat}, (∀ i x, (i, x) ∈ hs → g i ≠ j) → hl j (renH g hs) = none
  | [], _, _ => rfl
  | (k, x) :: hs, j, hk => by
    simp only [renH, hl_cons]
    rw [if_neg (hk k x (by simp))]
    exact hl_ren_none fun i x h => hk i x (by simp [h])

theorem hl_app {a b : List (Nat × Option Blk)} {j : Nat} : (∀ x, (j, x) ∉ a) → hl j (a ++ b) = hl j b := by
  intro h
  induction a with
  | nil => rfl
  | cons p a ih =>
    obtain ⟨k, x⟩ := p
    rw [List.cons_append, hl_cons, if_neg fun e => h x (by simp [e])]
    exact ih fun x hx => h x (by simp [hx])

theorem hl_app_mem {a b : List (Nat × Option Blk)} {j : Nat} {x : Option Blk} (h : (j, x) ∈ a) : hl j (a ++ b) = hl j a := by
  induction a with
  | nil => simp at h
  | cons p a ih =>
    obtain ⟨k, y⟩ := p
    rw [List.cons_append, hl_cons, hl_cons]
    by_cases e : k = j
    · rw [if_pos e, if_pos e]
    · rw [if_neg e, if_neg e]
      rcases List.mem_cons.1 h with h | h
      · cases h; exact absurd rfl e
      · exact ih h

theorem mem_renH {hs : List (Nat × Option Blk)} {j : Nat} {y : Option Blk} (h : (j, y) ∈ renH g hs) : ∃ i x, (i, x) ∈ hs ∧ j = g i ∧ y = renB g x := by
  induction hs with
  | nil => simp [renH] at h
  | cons p hs ih =>
    obtain ⟨k, x⟩ := p
    simp only [renH, List.mem_cons] at h
    rcases h with h | h
    · cases h; exact ⟨k, x, by simp, rfl, rfl⟩
    · obtain ⟨i, x, h1, h2⟩ := ih h; exact ⟨i, x, by simp [h1], h2⟩

theorem renH_mem {hs : List (Nat × Option Blk)} {i : Nat} {x : Option Blk} (h : (i, x) ∈ hs) : (g i, renB g x) ∈ renH g hs := by
  induction hs with
  | nil => simp at h
  | cons p hs ih =>
    obtain ⟨k, y⟩ := p
    simp only [renH, List.mem_cons]
    rcases List.mem_cons.1 h with h | h
    · cases h; exact Or.inl rfl
    · exact Or.inr (ih h)

theorem noOldH_mem {hs : List (Nat × Option Blk)} (h : (pure = true ∧ noTmpH hs = true) ∨ noOldH hs = true) : ∀ i b, (i, some b) ∈ hs → match b with
    | .cells l => (pure = true ∧ noTmps l = true) ∨ noOlds l = true
    | .arr o _ _ => (pure = true ∧ (!isTmp o) = true) ∨ (match o with | .fr => true | _ => false) = true
    | .deep _ _ => True
    | .seg _ _ _ _ => False := by
  induction hs with
  | nil => intro i b hb; simp at hb
  | cons p hs ih =>
    obtain ⟨k, y⟩ := p
    intro i b hb
    cases y with
    | none =>
      rcases List.mem_cons.1 hb with e | hb
      · cases e
      · exact ih h i b hb
    | some y =>
      cases y with
      | cells l =>
        obtain ⟨h1, h2⟩ := orand h
        rcases List.mem_cons.1 hb with e | hb
        · cases e; exact h1
        · exact ih h2 i b hb
      | arr o t xs =>
        obtain ⟨h1, h2⟩ := orand h
        rcases List.mem_cons.1 hb with e | hb
        · cases e; exact h1
        · exact ih h2 i b hb
      | deep t xs =>
        rcases List.mem_cons.1 hb with e | hb
        · cases e; trivial
        · exact ih h i b hb
      | seg t xs j row => rcases h with ⟨_, h⟩ | h <;> cases h

theorem hl_mem {hs : List (Nat × Option Blk)} {i : Nat} {b : Blk} (h : hl i hs = some b) : (i, some b) ∈ hs := by
  induction hs with
  | nil => cases h
  | cons p hs ih =>
    obtain ⟨k, y⟩ := p
    rcases hl_cases h with ⟨e, e2⟩ | ⟨_, h⟩
    · subst e; subst e2; simp
    · simp [ih h]

theorem hasKey_mem {n : Nat} {hs : List (Nat × Option Blk)} (h : hasKey n hs = true) : ∃ x, (n, x) ∈ hs := by
  induction hs with
  | nil => cases h
  | cons p hs ih =>
    obtain ⟨k, y⟩ := p
    simp only [hasKey, Bool.or_eq_true] at h
    rcases h with h | h
    · exact ⟨y, by simp [Nat.eq_of_beq_eq_true h]⟩
    · obtain ⟨x, hx⟩ := ih h; exact ⟨x, by simp [hx]⟩

theorem allIn_mem {n : Nat} {hs : List (Nat × Option Blk)} (h : allIn n hs = true) : ∀ i, i < n → ∃ x, (i, x) ∈ hs := by
  induction n with
  | zero => intro i hi; omega
  | succ n ih =>
    simp only [allIn, Bool.and_eq_true] at h
    intro i hi
    by_cases e : i = n
    · subst e; exact hasKey_mem h.1
    · exact ih h.2 i (by omega)

theorem shapes_mem {hin : List Blk} {hs : List (Nat × Option Blk)} (h : shapes hin hs) {i : Nat} {b : Blk} {t : Ty} {n : Nat} (hm : (i, some b) ∈ hs) (hi : i < hin.length) (hb : shp (some b) = some (t, n)) :
    ∃ b', hin[i]? = some b' ∧ shp (some b') = some (t, n) := by
  induction hs with
  | nil => simp at hm
  | cons p hs ih =>
    obtain ⟨k, y⟩ := p
    have one : ∀ {u : Ty} {ys : List (D u)} {hin : List Blk}, i < hin.length → shp (some b) = some (u, ys.length) → (match hin[i]? with
        | some (.arr _ u' zs) => u = u' ∧ ys.length = zs.length
        | some (.deep u' zs) => u = u' ∧ ys.length = zs.length
        | some _ => False
        | none => True) → ∃ b', hin[i]? = some b' ∧ shp (some b') = some (t, n) := by
      intro u ys hin hi hs h
      rw [hb] at hs
      split at h
      · rename_i hx
        obtain ⟨rfl, h⟩ := h
        exact ⟨_, hx, by rw [hs]; simp only [shp]; rw [h]⟩
      · rename_i hx
        obtain ⟨rfl, h⟩ := h
        exact ⟨_, hx, by rw [hs]; simp only [shp]; rw [h]⟩
      · exact h.elim
      · rename_i hx; simp at hx; omega
    rcases List.mem_cons.1 hm with e | hm
    · cases e
      cases b with
      | cells l => cases hb
      | arr o u ys => exact one hi rfl h.1
      | deep u ys => exact one hi rfl h.1
      | seg u ys j row => exact h.elim
    · refine ih ?_ hm
      cases y with
      | none => exact h
      | some y =>
        cases y with
        | cells l => exact h
        | arr o t xs => exact h.2
        | deep t xs => exact h.2
        | seg t xs j row => exact h.elim

theorem enum_get : ∀ {hin : List Blk} {k i : Nat}, hl i (enum hin k) = if k ≤ i then hin[i - k]? else none
  | [], k, i => by simp [enum, hl]
  | b :: hin, k, i => by
    rw [enum, hl_cons, enum_get]
    by_cases e : k = i
    · subst e; simp
    · rw [if_neg e]
      by_cases h : k + 1 ≤ i
      · rw [if_pos h, if_pos (by omega), show i - k = (i - (k + 1)) + 1 by omega, List.getElem?_cons_succ]
      · rw [if_neg h, if_neg (by omega)]

theorem enum_al : ∀ {hin : List Blk} {k i : Nat}, (∃ x, (i, x) ∈ enum hin k) ↔ k ≤ i ∧ i < k + hin.length
  | [], k, i => by simp [enum]
  | b :: hin, k, i => by
    simp only [enum, List.mem_cons, List.length_cons]
    constructor
    · rintro ⟨x, h | h⟩
      · cases h; omega
      · have := (enum_al (hin := hin) (k := k + 1) (i := i)).1 ⟨x, h⟩; omega
    · rintro ⟨h1, h2⟩
      by_cases e : i = k
      · subst e; exact ⟨some b, Or.inl rfl⟩
      · obtain ⟨x, hx⟩ := (enum_al (hin := hin) (k := k + 1) (i := i)).2 ⟨by omega, by omega⟩
        exact ⟨x, Or.inr hx⟩
end
end Go.Fw
namespace Go.Fw
open Go Go.RowKit

theorem nodup_inj : ∀ {ρ : List Nat}, nodup ρ = true → ∀ (i j x : Nat), ρ[i]? = some x → ρ[j]? = some x → i = j
  | [], _, _, _, _, h, _ => by simp at h
  | y :: ρ, h, i, j, x, hi, hj => by
    simp only [nodup, Bool.and_eq_true] at h
    have hy : y ∉ ρ := any_beq h.1
    cases i with
    | zero =>
      cases j with
      | zero => rfl
      | succ j =>
        simp at hi hj
        subst hi
        exact absurd (List.mem_of_getElem? hj) hy
    | succ i =>
      cases j with
      | zero =>
        simp at hi hj
        subst hj
        exact absurd (List.mem_of_getElem? hi) hy
      | succ j => rw [nodup_inj h.2 i j x (by simpa using hi) (by simpa using hj)]

theorem frzH_spec {hp : Nat → Option Blk} {ρ : List Nat} : ∀ {l : List Nat} {hin : List Blk} {q : Bool} {lg : List Nat}, frzH hp ρ l = some (hin, q, lg) →
    hin.length = l.length ∧ ∀ (i id : Nat), l[i]? = some id → ∃ b b' p l', hp id = some b ∧ frzB hp ρ b = some (b', p, l') ∧ hin[i]? = some b' ∧ (q = true → p = true)
  | [], hin, q, lg, h => by simp [frzH] at h; obtain ⟨rfl, _⟩ := h; exact ⟨rfl, by simp⟩
  | x :: l, hin, q, lg, h => by
    simp only [frzH] at h
    split at h
    · rename_i b hb
      split at h
      · rename_i b' p l' hb'
        split at h
        · rename_i bs q' l2 hr
          simp only [Option.some.injEq, Prod.mk.injEq] at h
          obtain ⟨rfl, rfl, _⟩ := h
          obtain ⟨h1, h2⟩ := frzH_spec hr
          refine ⟨by simp [h1], fun i id hi => ?_⟩
          cases i with
          | zero =>
            simp at hi
            subst hi
            exact ⟨b, b', p, l', hb, hb', rfl, fun h => by simp at h; exact h.1⟩
          | succ i =>
            obtain ⟨b1, b2, p2, l3, g1, g2, g3, g4⟩ := h2 i id (by simpa using hi)
            exact ⟨b1, b2, p2, l3, g1, g2, by simpa using g3, fun h => by simp at h; exact g4 h.2⟩
        · cases h
      · cases h
    · cases h

section
variable {P : Program} {E : Env} {bs : Bs} {φ : Ph} {s : St} {w : World} {id : Nat} {log : List Nat} {o : Out}

theorem al_of_ne {s : St} {i : Nat} (h : hl i s.h ≠ none) : s.al i := by
  cases hx : hl i s.h with
  | none => exact absurd hx h
  | some b => exact al_of_hl hx

/-- What is so before a call, and what it gives after it. -/
theorem reNil_sound {c cc : Cx} : ∀ {l l' : List AV} {vs : List Value}, RL c l vs → RL cc l' vs → RL cc (reNil l l') vs
  | [], l', vs, _, h => by cases l' <;> exact h
  | _ :: _, [], vs, _, h => h
  | x :: l, y :: l', vs, h, h' => by
    cases h with
    | cons h1 h2 => cases h' with
      | cons h1' h2' =>
        unfold reNil
        split
        · rename_i t
          rw [R.nil_inv h1]
          exact .cons (.nil t) (reNil_sound h2 h2')
        · exact .cons h1' (reNil_sound h2 h2')

theorem call_frame (hM : HM bs φ s w) (hn : ∀ k, k < 16 → ¬ s.al (id + k)) (hid : id + 16 ≤ s.nx) {args : List AV} {vs : List Value} (hx : RL (cx bs φ s w) args vs)
    {ρ : List Nat} {args' : List AV} {hin : List Blk} {r : AV} {hs : List (Nat × Option Blk)} {p q : Bool} {l l' : List Nat}
    (ha : frzs (hl · s.h) ρ 100 args = some (args', p, l)) (hb : frzH (hl · s.h) ρ ρ = some (hin, q, l'))
    (hnd : nodup ρ = true) (ho : (p && q && (noTmp r && noTmpH hs) || noOld r && noOldH hs) = true) (hk : allIn (List.length hin) hs = true) (hs' : shapes hin hs) :
    ∃ (A : Nat → Prop) (φc : Ph), HM (fnBs w A φc hin.length) φc (preS hin) w ∧ RL (cx (fnBs w A φc hin.length) φc (preS hin) w) args' vs ∧
      ∀ φ' w' v, (∀ i, i < hin.length → φ' i = φc i) → HM (fnBs w A φc hin.length) φ' (postS hin hs) w' → R (cx (fnBs w A φc hin.length) φ' (postS hin hs) w') r v →
        Res bs φ s w (renH (bk ρ id) hs) (ren (bk ρ id) r) v w' := by
  obtain ⟨hlen, hspec⟩ := frzH_spec hb
  have hinj := nodup_inj hnd
  obtain ⟨pure, hpure⟩ : ∃ pure : Bool, pure = (p && q && (noTmp r && noTmpH hs)) := ⟨_, rfl⟩
  have hpp : pure = true → p = true := fun h => by rw [h] at hpure; simp at hpure; exact hpure.1.1
  have hpq : pure = true → q = true := fun h => by rw [h] at hpure; simp at hpure; exact hpure.1.2
  let c := cx bs φ s w
  let A : Nat → Prop := fun b => pure = true → c.ok .old b
  let φc : Ph := ⟨fun i => (ρ[i]?).bind φ.f, fun i b => ∃ j, ρ[i]? = some j ∧ φ.ψ j b⟩
  have hφc : ∀ i j, ρ[i]? = some j → φc i = φ j := fun i j h => by simp [φc, h]
  have hψc : ∀ i j b, ρ[i]? = some j → (φc.ψ i b ↔ φ.ψ j b) := fun i j b h =>
    ⟨fun ⟨j', h1, h2⟩ => by rw [h] at h1; cases h1; exact h2, fun h2 => ⟨j, h, h2⟩⟩
  have hoc : ∀ i j b, ρ[i]? = some j → (φc.own i b ↔ φ.own j b) := fun i j b h => by
    unfold Ph.own
    rw [hφc i j h, hψc i j b h]
  have hρal : ∀ i j, ρ[i]? = some j → s.al j := fun i j h => by
    obtain ⟨b, _, _, _, h1, _⟩ := hspec i j h
    exact al_of_hl h1
  have hρlive : ∀ i j, ρ[i]? = some j → hl j s.h ≠ none := fun i j h => by
    obtain ⟨b, _, _, _, h1, _⟩ := hspec i j h
    rw [h1]; simp
  have hch : ∀ i, hl i (preS hin).h = hin[i]? := fun i => by simp [preS, enum_get]
  have hcal : ∀ i, (preS hin).al i ↔ i < hin.length := fun i => by
    have := enum_al (hin := hin) (k := 0) (i := i)
    simp at this
    exact this
  have hρget : ∀ i, i < hin.length → ∃ j, ρ[i]? = some j := fun i hi => ⟨_, List.getElem?_eq_getElem (hlen ▸ hi)⟩
  have hlivec : ∀ b, (cx (fnBs w A φc hin.length) φc (preS hin) w).live b → ∃ i id : Nat, ρ[i]? = some id ∧ hl id s.h ≠ none ∧ φ.own id b := by
    rintro b ⟨i, h1, h2⟩
    obtain ⟨j, hj⟩ := hρget i ((hcal i).1 (al_of_ne h1))
    exact ⟨i, j, hj, hρlive i j hj, (hoc i j b hj).1 h2⟩
  have hz : Fz (cx bs φ s w) (cx (fnBs w A φc hin.length) φc (preS hin) w) ρ pure := by
    refine ⟨rfl, fun i j h => ?_, fun i j h => hφc i j h, fun i j h t n hx => ?_, hlivec, fun o b h1 h2 => ⟨fun hlv => ?_, Or.inl fun hpt => ⟨h2.1, ?_⟩⟩, fun hp b hb => ⟨hb, Or.inl fun e => by rw [hp] at e; cases e⟩⟩
    · refine (hcal i).2 ?_
      rw [hlen]
      exact (List.getElem?_eq_some_iff.1 h).1
    · have hx : shp (hl i (preS hin).h) = _ := hx
      obtain ⟨b, b', p', l2, g1, g2, g3, _⟩ := hspec i j h
      rw [hch, g3] at hx
      show shp (hl j s.h) = _
      rw [show hl j s.h = some b from g1, ← hx]
      cases b with
      | cells l =>
        simp only [frzB] at g2
        split at g2
        · simp only [Option.some.injEq, Prod.mk.injEq] at g2
          rw [← g2.1]; rfl
        · cases g2
      | arr o' t' xs' =>
        simp only [frzB, Option.some.injEq, Prod.mk.injEq] at g2
        rw [← g2.1]; rfl
      | deep t' xs' =>
        simp only [frzB, Option.some.injEq, Prod.mk.injEq] at g2
        rw [← g2.1]
      | seg t' xs' j' row => cases g2
    · obtain ⟨i, j, _, g2, g3⟩ := hlivec b hlv
      exact h2.1 ⟨j, g2, g3⟩
    · have := h1 hpt
      cases o with
      | fr => exact Or.inr h2.2
      | old => exact h2.2
      | tmp => cases this
  refine ⟨A, φc, ?_, (frz_sound hM hz 100).2 ha hpp hx, fun φ' w' v hφ' hM' hr => ?_⟩
  · refine ⟨fun i hi => (hcal i).1 hi, fun i b hb => ?_, fun i j b hi hj hp hq => ?_, fun i b hi hp => Or.inr ⟨(hcal i).1 (al_of_ne hi), (hcal i).1 (al_of_ne hi), hp⟩, fun i b hi hp => ?_, Nat.le_refl _, Keeps.refl _ _ _, fun i hi => ⟨(hcal i).2 hi, rfl⟩⟩
    · have hi : i < hin.length := (hcal i).1 (al_of_hl hb)
      obtain ⟨j, hj⟩ := hρget i hi
      obtain ⟨b0, b', p', l2, g1, g2, g3, g4⟩ := hspec i j hj
      rw [hch, g3] at hb
      cases hb
      have hk0 := hM.h j b0 g1
      cases b0 with
      | cells l0 =>
        simp only [frzB] at g2
        split at g2
        · rename_i l1 p1 r1 heq
          simp only [Option.some.injEq, Prod.mk.injEq] at g2
          obtain ⟨rfl, rfl, _⟩ := g2
          obtain ⟨b1, cs, e, k1, k2, k3⟩ := hk0
          exact ⟨b1, cs, e, (hφc i j hj).trans k1, k2, reNil_sound k3 ((frz_sound hM hz 100).2 heq (fun h => g4 (hpq h)) k3)⟩
        · cases g2
      | arr o' t' xs' =>
        simp only [frzB, Option.some.injEq, Prod.mk.injEq] at g2
        obtain ⟨rfl, rfl, _⟩ := g2
        rcases hk0 with ⟨b1, off, cs, e, k1, k2, k3, k4⟩ | ⟨k1, k2⟩
        · exact Or.inl ⟨b1, off, cs, e, (hφc i j hj).trans k1, k2, k3, k4.imp fun b hb => hz.ok o' b (fun h => by simpa using g4 (hpq h)) hb⟩
        · exact Or.inr ⟨(hφc i j hj).trans k1, k2⟩
      | deep t' xs' =>
        simp only [frzB, Option.some.injEq, Prod.mk.injEq] at g2
        obtain ⟨rfl, rfl, _⟩ := g2
        rcases hk0 with ⟨b1, off, cs, e, k1, k2, k3, k4, k5⟩ | ⟨k1, k2⟩
        · exact Or.inl ⟨b1, off, cs, e, (hφc i j hj).trans k1, k2, k3, fun h => k4 ((hψc i j b1 hj).1 h), k5.mono fun b hb => (hψc i j b hj).2 hb⟩
        · exact Or.inr ⟨(hφc i j hj).trans k1, k2⟩
      | seg t' xs' j' row => cases g2
    · obtain ⟨x, hx1⟩ := hρget i ((hcal i).1 (al_of_ne hi))
      obtain ⟨y, hy1⟩ := hρget j ((hcal j).1 (al_of_ne hj))
      have := hM.inj x y b (hρlive i x hx1) (hρlive j y hy1) ((hoc i x b hx1).1 hp) ((hoc j y b hy1).1 hq)
      subst this
      exact hinj i j x hx1 hy1
    · obtain ⟨x, hx1⟩ := hρget i ((hcal i).1 (al_of_ne hi))
      exact hM.ps x b (hρlive i x hx1) ((hψc i x b hx1).1 hp)
  · have hpk : ∀ i x, (i, x) ∈ hs → i < hin.length + 16 := fun i x h => hM'.kb i ⟨x, List.mem_append_left _ h⟩
    let g := bk ρ id
    let cc' := cx (fnBs w A φc hin.length) φ' (postS hin hs) w'
    let φ2 : Ph := ⟨fun j => if id ≤ j ∧ j < id + 16 then φ' (hin.length + (j - id)) else φ j, fun j b => (∃ i, cc'.al i ∧ g i = j ∧ φ'.ψ i b) ∨ ((∀ i, cc'.al i → g i ≠ j) ∧ φ.ψ j b)⟩
    let s' := s.push (renH g hs)
    let c' := cx bs φ2 s' w'
    have hnal : ∀ j, s.al j → ¬ (id ≤ j ∧ j < id + 16) := fun j hj ⟨h1, h2⟩ => hn (j - id) (by omega) (by rw [show id + (j - id) = j by omega]; exact hj)
    have hφ2 : ∀ j, s.al j → φ2 j = φ j := fun j hj => if_neg (hnal j hj)
    have hg1 : ∀ i j, ρ[i]? = some j → g i = j := fun i j h => bk_some h
    have hg2 : ∀ i, hin.length ≤ i → g i = id + (i - hin.length) := fun i h => by
      have := bk_new (ρ := ρ) (id := id) (i := i) (by omega)
      simp only [g, this, hlen]
    have hmem : ∀ i, cc'.al i → ∃ x, (i, x) ∈ hs := by
      rintro i ⟨x, hx⟩
      rcases List.mem_append.1 hx with h | h
      · exact ⟨x, h⟩
      · have := (enum_al (hin := hin) (k := 0) (i := i)).1 ⟨x, h⟩
        exact allIn_mem hk i (by omega)
    have hal' : ∀ i, cc'.al i → i < hin.length + 16 := fun i h => by obtain ⟨x, hx⟩ := hmem i h; exact hpk i x hx
    have halm : ∀ i x, (i, x) ∈ hs → cc'.al i := fun i x h => ⟨x, List.mem_append_left _ h⟩
    have hcch : ∀ i, cc'.al i → cc'.h i = hl i hs := fun i h => by
      obtain ⟨x, hx⟩ := hmem i h
      exact hl_app_mem hx
    have hginj : ∀ i j : Nat, cc'.al i → cc'.al j → g i = g j → i = j := by
      intro i j hi hj e
      have hi' := hal' i hi
      have hj' := hal' j hj
      rcases Nat.lt_or_ge i hin.length with h1 | h1
      · obtain ⟨x, hx⟩ := hρget i h1
        rw [hg1 i x hx] at e
        rcases Nat.lt_or_ge j hin.length with h2 | h2
        · obtain ⟨y, hy⟩ := hρget j h2
          rw [hg1 j y hy] at e
          subst e
          exact hinj i j x hx hy
        · rw [hg2 j h2] at e
          exact absurd ⟨by omega, by omega⟩ (hnal x (hρal i x hx))
      · rw [hg2 i h1] at e
        rcases Nat.lt_or_ge j hin.length with h2 | h2
        · obtain ⟨y, hy⟩ := hρget j h2
          rw [hg1 j y hy] at e
          exact absurd ⟨by omega, by omega⟩ (hnal y (hρal j y hy))
        · rw [hg2 j h2] at e
          omega
    have hφg : ∀ i, cc'.al i → φ2 (g i) = φ' i := by
      intro i hi
      have hi' := hal' i hi
      rcases Nat.lt_or_ge i hin.length with h1 | h1
      · obtain ⟨x, hx⟩ := hρget i h1
        rw [hg1 i x hx, hφ2 x (hρal i x hx), hφ' i h1, hφc i x hx]
      · rw [hg2 i h1]
        show (if _ then _ else _) = _
        rw [if_pos ⟨by omega, by omega⟩, show hin.length + (id + (i - hin.length) - id) = i by omega]
    have hhg : ∀ i, cc'.al i → c'.h (g i) = renB g (hl i hs) := by
      intro i hi
      obtain ⟨x, hx⟩ := hmem i hi
      show hl (g i) (renH g hs ++ s.h) = _
      rw [hl_app_mem (renH_mem hx)]
      exact hl_ren hginj halm i hi
    have hψg : ∀ i b, cc'.al i → (φ2.ψ (g i) b ↔ φ'.ψ i b) := fun i b hi => by
      constructor
      · rintro (⟨i', h1, h2, h3⟩ | ⟨h1, _⟩)
        · rw [← hginj i' i h1 hi h2]; exact h3
        · exact absurd rfl (h1 i hi)
      · exact fun h => Or.inl ⟨i, hi, rfl, h⟩
    have hψo : ∀ j, (∀ i, cc'.al i → j ≠ g i) → φ2.ψ j = φ.ψ j := fun j hj => by
      funext b
      refine propext ⟨?_, fun h => Or.inr ⟨fun i hi e => hj i hi e.symm, h⟩⟩
      rintro (⟨i', h1, h2, _⟩ | ⟨_, h2⟩)
      · exact absurd h2.symm (hj i' h1)
      · exact h2
    have hog : ∀ i b, cc'.al i → (φ2.own (g i) b ↔ φ'.own i b) := fun i b hi => by
      unfold Ph.own
      rw [hφg i hi, hψg i b hi]
    have hoo : ∀ j b, s.al j → (∀ i, cc'.al i → j ≠ g i) → (φ2.own j b ↔ φ.own j b) := fun j b hj hn => by
      unfold Ph.own
      rw [hφ2 j hj, hψo j hn]
    -- every live block of the caller, after the call
    have hcase : ∀ j, c'.h j ≠ none → (∃ i, cc'.al i ∧ j = g i ∧ cc'.h i ≠ none) ∨ (c'.h j = hl j s.h ∧ s.al j ∧ (∀ i, cc'.al i → j ≠ g i) ∧ φ2 j = φ j) := by
      intro j hj
      by_cases hm : ∃ x, (j, x) ∈ renH g hs
      · obtain ⟨x, hx⟩ := hm
        obtain ⟨i, y, h1, rfl, _⟩ := mem_renH hx
        refine Or.inl ⟨i, halm i y h1, rfl, ?_⟩
        rw [hhg i (halm i y h1)] at hj
        rw [hcch i (halm i y h1)]
        intro e
        rw [e] at hj
        exact hj rfl
      · have e : c'.h j = hl j s.h := hl_app fun x hx => hm ⟨x, hx⟩
        have hja : s.al j := al_of_ne (by rw [← e]; exact hj)
        refine Or.inr ⟨e, hja, fun i hi e2 => ?_, hφ2 j hja⟩
        obtain ⟨y, hy⟩ := hmem i hi
        exact hm ⟨renB g y, by rw [e2]; exact renH_mem hy⟩
    have hXX : ∀ b, (fnBs w A φc hin.length).X b → ∃ j, (∃ i : Nat, ρ[i]? = some j) ∧ φ.own j b := by
      rintro b ⟨i, hi, h⟩
      obtain ⟨j, hj⟩ := hρget i hi
      exact ⟨j, ⟨i, hj⟩, (hoc i j b hj).1 h⟩
    have hstay : ∀ b, b < w.heap.size → (∀ j, (∃ i : Nat, ρ[i]? = some j) → ¬ φ.own j b) → w'.heap[b]? = w.heap[b]? := fun b hb hne =>
      hM'.kp.block b hb fun hX => by
        obtain ⟨j, h1, h2⟩ := hXX b hX
        exact hne j h1 h2
    have hnolive : ∀ b, ¬ cc'.live b → (w.heap.size ≤ b ∨ ¬ c.live b) → ¬ c'.live b := by
      rintro b h1 h2 ⟨j, hj, hp⟩
      have hp : φ2.own j b := hp
      rcases hcase j hj with ⟨i, hi, rfl, hne⟩ | ⟨e, hja, hng, _⟩
      · exact h1 ⟨i, hne, (hog i b hi).1 hp⟩
      · have hp := (hoo j b hja hng).1 hp
        rw [e] at hj
        rcases h2 with h2 | h2
        · exact absurd (hM.lt hj hp) (by omega)
        · exact h2 ⟨j, hj, hp⟩
    have hB := hM.bd
    have htz : Tz cc' c' g pure := by
      refine ⟨rfl, fun i hi => ?_, fun i hi => hφg i hi, fun i hi t n hx => ?_, fun b hb => ⟨hnolive b hb.1 (Or.inl hb.2), ?_⟩, fun hp b hb => ?_⟩
      · obtain ⟨x, hx⟩ := hmem i hi
        exact ⟨renB g x, List.mem_append_left _ (renH_mem hx)⟩
      · rw [hhg i hi] at hx
        rw [hcch i hi]
        cases hy : hl i hs with
        | none => rw [hy] at hx; cases hx
        | some y =>
          rw [hy] at hx
          cases y <;> exact hx
      · exact Nat.le_trans hB hb.2
      · rcases hb.2 with h | h
        · have h := h hp
          refine ⟨hnolive b hb.1 (Or.inr h.1), ?_⟩
          exact h.2
        · exact ⟨hnolive b hb.1 (Or.inl h), Or.inr (Nat.le_trans hB h)⟩
    have hor : (pure = true ∧ (noTmp r && noTmpH hs) = true) ∨ (noOld r && noOldH hs) = true := by
      rw [Bool.or_eq_true] at ho
      rcases ho with h | h
      · refine Or.inl ⟨hpure.trans h, ?_⟩
        rw [Bool.and_eq_true] at h
        exact h.2
      · exact Or.inr h
    have hnoH := noOldH_mem (pure := pure) (orand hor).2
    have hle : c.Le c' := by
      refine ⟨fun j ⟨x, hx⟩ => ⟨x, List.mem_append_right _ hx⟩, hM'.kp.size, fun j hj => hφ2 j hj, fun j hj t n hx => ?_, fun j hj hne => ?_, fun j hj hne b off hp cs e fz hc => ?_, fun o b hb hok => ?_⟩
      · have hx : shp (c'.h j) = some (t, n) := hx
        rcases hcase j (by intro e; rw [e] at hx; cases hx) with ⟨i, hi, rfl, hne⟩ | ⟨e, _, _, _⟩
        · have hi' := hal' i hi
          rcases Nat.lt_or_ge i hin.length with h1 | h1
          · obtain ⟨x, hx1⟩ := hρget i h1
            have hx2 := htz.h i hi t n hx
            rw [hcch i hi] at hx2
            cases hy : hl i hs with
            | none => rw [hy] at hx2; cases hx2
            | some y =>
              rw [hy] at hx2
              obtain ⟨b', q1, q2⟩ := shapes_mem hs' (hl_mem hy) h1 hx2
              have := hz.h i x hx1 t n (by show shp (hl i (preS hin).h) = _; rw [hch, q1]; exact q2)
              rw [hg1 i x hx1]; exact this
          · exact absurd (hg2 i h1) fun e => hnal _ hj ⟨by omega, by omega⟩
        · rw [e] at hx; exact hx
      · rcases hcase j hne with ⟨i, hi, rfl, _⟩ | ⟨e, _, _, _⟩
        · rcases Nat.lt_or_ge i hin.length with h1 | h1
          · obtain ⟨x, hx1⟩ := hρget i h1
            rw [hg1 i x hx1]
            exact hρlive i x hx1
          · have hi' := hal' i hi
            exact absurd (hg2 i h1) fun e => hnal _ hj ⟨by omega, by omega⟩
        · rw [e] at hne; exact hne
      · have hlt : b < w.heap.size := by
          rcases Nat.lt_or_ge b w.heap.size with h | h
          · exact h
          · have hc : w.heap[b]? = _ := hc
            rw [Array.getElem?_eq_none h] at hc; cases hc
        exact hM'.kp.cells b hlt cs e fz hc
      · refine ⟨⟨hnolive b ?_ (Or.inr hok.1), hok.2⟩, hstay b hb fun j ⟨i, hi⟩ hp => hok.1 ⟨j, hρlive i j hi, hp⟩⟩
        rintro ⟨i, h1, h2⟩
        rcases hM'.lo i b h1 h2 with h3 | ⟨h3, h4⟩
        · exact absurd hb (Nat.not_lt.2 h3)
        · obtain ⟨j, ⟨i', hi'⟩, hp⟩ := hXX b ⟨i, h4⟩
          exact hok.1 ⟨j, hρlive i' j hi', hp⟩
    refine ⟨φ2, ⟨fun j hj => ?_, fun j b hb => ?_, fun i j b hi hj hp hq => ?_, fun i b hi hp => ?_, fun i b hi hp => ?_, Nat.le_trans hB hM'.kp.size, ?_, fun i hi => ⟨hle.al i (hM.inc i hi).1, (hle.φ i (hM.inc i hi).1).trans (hM.inc i hi).2⟩⟩, hle, ?_⟩
    · obtain ⟨x, hx⟩ := hj
      rcases List.mem_append.1 hx with h | h
      · obtain ⟨i, y, h1, rfl, _⟩ := mem_renH h
        have hi := halm i y h1
        have hi' := hal' i hi
        show g i < s.nx
        rcases Nat.lt_or_ge i hin.length with h1 | h1
        · obtain ⟨z, hz1⟩ := hρget i h1
          rw [hg1 i z hz1]
          exact hM.kb _ (hρal i z hz1)
        · rw [hg2 i h1]; omega
      · exact hM.kb j ⟨x, h⟩
    · have hb' : c'.h j = some b := hb
      rcases hcase j (by rw [hb']; simp) with ⟨i, hi, rfl, hne⟩ | ⟨e, hja, hng, e2⟩
      · rw [hhg i hi] at hb'
        cases hy : hl i hs with
        | none => rw [hy] at hb'; cases hb'
        | some y =>
          have hk0 := hM'.h i y (by show cc'.h i = _; rw [hcch i hi]; exact hy)
          have hno := hnoH i y (hl_mem hy)
          rw [hy] at hb'
          cases y with
          | cells l0 =>
            cases hb'
            obtain ⟨b1, cs, e, k1, k2, k3⟩ := hk0
            exact ⟨b1, cs, e, (hφg i hi).trans k1, k2, rens_sound htz hno k3⟩
          | arr o' t xs =>
            cases hb'
            rcases hk0 with ⟨b1, off, cs, e, k1, k2, k3, k4⟩ | ⟨k1, k2⟩
            · exact Or.inl ⟨b1, off, cs, e, (hφg i hi).trans k1, k2, k3, k4.imp (htz.ok hno)⟩
            · exact Or.inr ⟨(hφg i hi).trans k1, k2⟩
          | deep t xs =>
            cases hb'
            rcases hk0 with ⟨b1, off, cs, e, k1, k2, k3, k4, k5⟩ | ⟨k1, k2⟩
            · exact Or.inl ⟨b1, off, cs, e, (hφg i hi).trans k1, k2, k3, fun h => k4 ((hψg i b1 hi).1 h), k5.mono fun b hb => (hψg i b hi).2 hb⟩
            · exact Or.inr ⟨(hφg i hi).trans k1, k2⟩
          | seg t xs j' row => exact hno.elim
      · rw [e] at hb'
        refine BlkOK.le hle hja (hψo j hng) (fun b0 hp => ?_) (hM.h j b hb')
        have hp : φ.own j b0 := hp
        refine hstay b0 (hM.lt (by rw [hb']; simp) hp) fun j' ⟨i', hi'⟩ hp' => ?_
        have := hM.inj j j' b0 (by rw [hb']; simp) (hρlive i' j' hi') hp hp'
        subst this
        have hi2 : i' < hin.length := by rw [hlen]; exact (List.getElem?_eq_some_iff.1 hi').1
        obtain ⟨x, hx⟩ := allIn_mem hk i' hi2
        exact hng i' (halm i' x hx) (hg1 i' j hi').symm
    · have hp : φ2.own i b := hp
      have hq : φ2.own j b := hq
      have mixed : ∀ i j, cc'.al i → cc'.h i ≠ none → φ'.own i b → hl j s.h ≠ none → (∀ i, cc'.al i → j ≠ g i) → φ.own j b → False := by
        intro i j hi hne hp hj hng hq
        rcases hM'.lo i b hne hp with h3 | ⟨h3, h4⟩
        · exact absurd (hM.lt hj hq) (Nat.not_lt.2 h3)
        · obtain ⟨x, hx⟩ := hρget i h3
          have := hM.inj j x b hj (hρlive i x hx) hq ((hoc i x b hx).1 h4.2)
          exact hng i hi (this.trans (hg1 i x hx).symm)
      rcases hcase i hi with ⟨i', hi', rfl, hne⟩ | ⟨e, hja, hng, e2⟩
      · have hp := (hog i' b hi').1 hp
        rcases hcase j hj with ⟨j', hj', rfl, hne'⟩ | ⟨e, hja, hng, e2⟩
        · have hq := (hog j' b hj').1 hq
          rw [hM'.inj i' j' b hne hne' hp hq]
        · exact (mixed i' j hi' hne hp (by rw [← e]; exact hj) hng ((hoo j b hja hng).1 hq)).elim
      · have hp := (hoo i b hja hng).1 hp
        rcases hcase j hj with ⟨j', hj', rfl, hne'⟩ | ⟨e', hja', hng', e2'⟩
        · exact (mixed j' i hj' hne' ((hog j' b hj').1 hq) (by rw [← e]; exact hi) hng hp).elim
        · exact hM.inj i j b (by rw [← e]; exact hi) (by rw [← e']; exact hj) hp ((hoo j b hja' hng').1 hq)
    · have hp : φ2.own i b := hp
      rcases hcase i hi with ⟨i', hi', rfl, hne⟩ | ⟨e, hja, hng, e2⟩
      · have hp := (hog i' b hi').1 hp
        rcases hM'.lo i' b hne hp with h3 | ⟨h3, h4⟩
        · exact Or.inl (Nat.le_trans hB h3)
        · obtain ⟨x, hx⟩ := hρget i' h3
          rw [hg1 i' x hx]
          exact hM.lo x b (hρlive i' x hx) ((hoc i' x b hx).1 h4.2)
      · exact hM.lo i b (by rw [← e]; exact hi) ((hoo i b hja hng).1 hp)
    · rcases hcase i hi with ⟨i', hi', rfl, hne⟩ | ⟨e, hja, hng, e2⟩
      · exact hM'.ps i' b hne ((hψg i' b hi').1 hp)
      · rw [hψo i hng] at hp
        exact Nat.lt_of_lt_of_le (hM.ps i b (by rw [← e]; exact hi) hp) hM'.kp.size
    · refine hM.kp.trans ⟨hM'.kp.os, hM'.kp.tape, hM'.kp.output, hM'.kp.size, fun b hb hX => hstay b (by omega) fun j ⟨i, hi⟩ hp => ?_, fun b hb => hM'.kp.cells b (by show b < w.heap.size; omega)⟩
      rcases hM.lo j b (hρlive i j hi) hp with h | ⟨_, h⟩
      · omega
      · exact hX ⟨_, h⟩
    · exact ren_sound htz (orand hor).1 hr

theorem call_sound (hM : HM bs φ s w) (hn : ∀ k, k < 16 → ¬ s.al (id + k)) (hid : id + 16 ≤ s.nx) {args : List AV} {vs : Array Value} (hx : RL (cx bs φ s w) args vs.toList)
    {ρ : List Nat} {f : FuncId} {args' : List AV} {hin : List Blk} {r : AV} {hs : List (Nat × Option Blk)} {p q : Bool} {l l' : List Nat} (hf : Fn P f args' hin r hs)
    (ha : frzs (hl · s.h) ρ 100 args = some (args', p, l)) (hb : frzH (hl · s.h) ρ ρ = some (hin, q, l'))
    (hnd : nodup ρ = true) (ho : (p && q && (noTmp r && noTmpH hs) || noOld r && noOldH hs) = true) (hk : allIn (List.length hin) hs = true) (hs' : shapes hin hs) :
    Calls P f vs w fun e w' => ∃ v, e = .returned v ∧ Res bs φ s w (renH (bk ρ id) hs) (ren (bk ρ id) r) v w' := by
  obtain ⟨A, φc, h1, h2, h3⟩ := call_frame hM hn hid hx ha hb hnd ho hk hs'
  have := hf.2 w A φc vs.toList h1 h2
  rw [Array.toArray_toList] at this
  exact Calls.mono this fun e w' ⟨v, φ', g1, g2, g3, g4⟩ => ⟨v, g1, h3 φ' w' v g2 g3 g4⟩

theorem call_sound_p (hM : HM bs φ s w) (hn : ∀ k, k < 16 → ¬ s.al (id + k)) (hid : id + 16 ≤ s.nx) {args : List AV} {vs : Array Value} (hx : RL (cx bs φ s w) args vs.toList)
    {ρ : List Nat} {f : FuncId} {args' : List AV} {hin : List Blk} {r : AV} {hs : List (Nat × Option Blk)} {p q : Bool} {l l' : List Nat} (hf : FnP P f args' hin r hs)
    (ha : frzs (hl · s.h) ρ 100 args = some (args', p, l)) (hb : frzH (hl · s.h) ρ ρ = some (hin, q, l'))
    (hnd : nodup ρ = true) (ho : (p && q && (noTmp r && noTmpH hs) || noOld r && noOldH hs) = true) (hk : allIn (List.length hin) hs = true) (hs' : shapes hin hs) :
    Calls P f vs w fun e w' => ∃ v, e = .panicked [{ v, recovered := false }] ∧ Res bs φ s w (renH (bk ρ id) hs) (ren (bk ρ id) r) v w' := by
  obtain ⟨A, φc, h1, h2, h3⟩ := call_frame hM hn hid hx ha hb hnd ho hk hs'
  have := hf.2 w A φc vs.toList h1 h2
  rw [Array.toArray_toList] at this
  exact Calls.mono this fun e w' ⟨v, φ', g1, g2, g3, g4⟩ => ⟨v, g1, h3 φ' w' v g2 g3 g4⟩
end
end Go.Fw
namespace Go.Fw
open Go Go.RowKit

section
variable {P : Program} {E : Env} {bs : Bs} {φ : Ph} {s : St} {a : Act} {w : World} {id : Nat} {log : List Nat} {o : Out}

theorem Mod.ev (h : Mod bs φ s a w) (x : Operand) : R (cx bs φ s w) (ev s.t x) (a.eval x) := by
  cases x with
  | tmp t => exact h.t t
  | const v => exact R.cst _ v
  | global g => exact .junk _
  | func f => exact .clo .nil .nil

def putT (n : Nat) (d : Option Nat) (v : AV) (t : List (Nat × AV)) : List (Nat × AV) :=
  match d with
  | some d => match Nat.blt d n with
    | true => (d, v) :: t
    | false => t
  | none => t

theorem putK_iff (n : Nat) (d : Option Nat) (v : AV) (t : List (Nat × AV)) (K : List (Nat × AV) → Prop) : putK n d v t K ↔ K (putT n d v t) := by
  unfold putK putT
  cases d with
  | none => exact Iff.rfl
  | some d =>
    dsimp only
    cases Nat.blt d n <;> exact Iff.rfl

/-- The state after an operation. -/
def St.done (s : St) (d : Option Nat) (v : AV) (hs : List (Nat × Option Blk)) : St := { s with t := putT s.n d v s.t, h := hs ++ s.h }

theorem Mod.put (h : Mod bs φ s a w) {φ' : Ph} {w' : World} {hs : List (Nat × Option Blk)} {u : AV} {v : Value} (d : Option Nat) (hM : HM bs φ' (s.push hs) w')
    (hle : (cx bs φ s w).Le (cx bs φ' (s.push hs) w')) (hr : R (cx bs φ' (s.push hs) w') u v) : Mod bs φ' (s.done d u hs) (a.put d v) w' := by
  have key : ∀ i, R (cx bs φ' (s.push hs) w') (look i (putT s.n d u s.t)) ((a.put d v).tmps.getD i undef) := by
    intro i
    cases d with
    | none => exact R.le hle (h.t i)
    | some d =>
      simp only [putT, Act.put]
      have hn := h.n
      cases hb : Nat.blt d s.n with
      | true =>
        have hd : d < s.n := Nat.le_of_ble_eq_true hb
        rw [look_cons]
        by_cases e : d = i
        · subst e
          rw [if_pos rfl]
          have : (a.tmps.setIfInBounds d v).getD d undef = v := by
            simp [Array.getD, hn, hd]
          rw [this]; exact hr
        · rw [if_neg e]
          have : (a.tmps.setIfInBounds d v).getD i undef = a.tmps.getD i undef := by
            simp [Array.getD_eq_getD_getElem?, Array.getElem?_setIfInBounds_ne e]
          rw [this]
          exact R.le hle (h.t i)
      | false =>
        have hd : ¬ d < s.n := fun hd => by
          have := Nat.ble_eq_true_of_le (show d + 1 ≤ s.n from hd)
          rw [show Nat.blt d s.n = Nat.ble (d + 1) s.n from rfl, this] at hb
          cases hb
        have : a.tmps.setIfInBounds d v = a.tmps := by
          apply Array.ext_getElem?
          intro j
          rw [Array.getElem?_setIfInBounds]
          split
          · rename_i e; subst e
            rw [if_neg (by rw [hn]; exact hd), Array.getElem?_eq_none (by rw [hn]; omega)]
          · rfl
        rw [this]
        exact R.le hle (h.t i)
  obtain ⟨ds, d1, d2⟩ := h.df
  refine ⟨⟨hM.kb, hM.h, hM.inj, hM.lo, hM.ps, hM.bd, hM.kp, hM.inc⟩, ?_, key, ds, RL.le hle d1, ?_⟩
  · cases d <;> simp [Act.put, St.done, h.n]
  · rw [← d2]; cases d <;> rfl

theorem R.clo_inv {c : Cx} {f : Go.Fn} {l1 l2 : List AV} {v : Value} (h : R c (.clo f l1 l2) v) : ∃ c1 c2 : Array Value, v = .func f c1 c2 ∧ RL c l1 c1.toList ∧ RL c l2 c2.toList := by
  cases h with | clo h1 h2 => exact ⟨_, _, rfl, h1, h2⟩

theorem RL.zipFix {c : Cx} : ∀ {l : List AV} {vs : List Value} {ts : List TypeId}, RL c l vs → ts.length = l.length → RL c (List.zipWith (fixNil E) ts l) vs
  | [], _, [], .nil, _ => .nil
  | [], _, _ :: _, .nil, h => by simp at h
  | _ :: _, _, [], .cons _ _, h => by simp at h
  | _ :: _, _, _ :: _, .cons h hl, hlen => .cons h.fixNil (RL.zipFix hl (by simpa using hlen))

/-- What an operation comes to: by its own step, or by what is known of a 'pick'. -/
def OpTo (P : Program) (hp : Nat → Option Blk) (m : Nat) (E : Env) (id : Nat) (o : Oper) (t : List (Nat × AV)) (out : Out) : Prop :=
  ((∀ c, o.op ≠ .defer c) ∧ To P hp id (stepF m E id o.op o.type ((opnds o.op).map (ev t))) [] out) ∨
  (∃ c a b x, o.op = .pick (.tmp c) a b ∧ look c t = .val (.bool x) ∧ out = .ok (if x then ev t a else ev t b) [] [])

theorem op_wp (hE : EnvOK P E) (h : Mod bs φ s a w) (hn : ∀ k, k < 16 → ¬ s.al (id + k)) (hid : id + 16 ≤ s.nx) {oper : Oper} {out : Out} (hop : OpTo P (hl · s.h) s.m E id oper s.t out)
    {K : Act → World → Prop} {Q : Exit → Act → World → Prop}
    (hok : ∀ u hs rd, out = .ok u hs rd → ∀ v w', Res bs φ s w hs u v w' → K (a.put oper.dst v) w')
    (hpn : ∀ u hs rd, out = .panic u hs rd → ∀ v w', Res bs φ s w hs u v w' → Q (.panic [{ v, recovered := false }]) a w') : oper.wp P a w K Q := by
  have hn0 : ¬ s.al id := by simpa using hn 0 (by omega)
  have hM := h.toHM
  unfold Oper.wp
  rcases hop with ⟨hnd, hop⟩ | ⟨c, x, y, b, ho, hc, rfl⟩
  · by_cases hc : isCall oper.op = false
    · have := op_sound hE hM hn0 (by omega) (fun x => h.ev x) (fun _ => rfl) oper hc hop
      cases out with
      | ok u hs rd =>
        obtain ⟨v, w', h1, h2⟩ := this
        rcases h1 with h1 | ⟨h1, rfl⟩
        · rw [h1]; exact hok u hs rd rfl v w' h2
        · rw [h1]; exact hok u hs rd rfl _ w' h2
      | panic u hs rd =>
        obtain ⟨v, h1, h2⟩ := this
        rw [h1]; exact hpn u hs rd rfl v w h2
    · obtain ⟨dst, op, ty, pos, after, guard⟩ := oper
      cases op <;> simp only [isCall, not_true_eq_false, Bool.not_eq_false] at hc
      rename_i c
      obtain ⟨callee, args, ats⟩ := c
      cases callee with
      | builtin b => simp at hc
      | invoke r m => exact (To.bad_inv hop).elim
      | value fo =>
        simp only [opnds, stepF, List.map_append, List.map_cons, List.map_nil, List.singleton_append] at hop
        have hfo := h.ev fo
        have hargs : RL (cx bs φ s w) (args.toList.map (ev s.t)) (args.map a.eval).toList := by
          rw [toList_map]; exact RL.map (fun x => h.ev x) _
        generalize ev s.t fo = vf at hfo hop
        split at hop
        · rename_i g fst cap args' heq
          injection heq with e1 e2
          subst e1 e2
          obtain ⟨hlen, hop⟩ := To.chk_inv hop
          have hlen := Nat.eq_of_beq_eq_true hlen
          obtain ⟨c1, c2, hval, r1, r2⟩ := R.clo_inv hfo
          have hRL : RL (cx bs φ s w) (fst ++ List.zipWith (fixNil E) ats.toList (args.toList.map (ev s.t)) ++ cap) (c1 ++ args.map a.eval ++ c2).toList := by
            rw [Array.toList_append, Array.toList_append]
            exact (r1.append (RL.zipFix hargs hlen)).append r2
          have hrun : Enter P g → (execOp a.eval ⟨dst, .call { callee := .value fo, args, argTypes := ats }, ty, pos, after, guard⟩).run P w = .ok (.enter g (c1 ++ args.map a.eval ++ c2)) w := by
            intro hent
            simp only [execOp, resolve, Deferred.ofValue, hval, Sem.run_bind, Sem.run_pure, Result.andThen_ok, invoke]
            exact hent _ _
          cases hop with
          | fn ρ hf ha hb hnd' ho hk hs' =>
            rw [hrun hf.1, Oper.upon_enter]
            refine Calls.mono (call_sound hM hn hid hRL hf ha hb hnd' ho hk hs') fun e w' hq => ?_
            obtain ⟨v, rfl, hres⟩ := hq
            exact hok _ _ _ rfl v w' hres
          | pn ρ hf ha hb hnd' ho hk hs' =>
            rw [hrun hf.1, Oper.upon_enter]
            refine Calls.mono (call_sound_p hM hn hid hRL hf ha hb hnd' ho hk hs') fun e w' hq => ?_
            obtain ⟨v, rfl, hres⟩ := hq
            exact hpn _ _ _ rfl v w' hres
        · exact (To.bad_inv hop).elim
  · have hr := h.t c
    rw [hc] at hr
    have hv : a.eval (.tmp c) = .bool b := R.val_inv hr
    have : (execOp a.eval oper).run P w = .ok (.value (if b then a.eval x else a.eval y)) w := by
      unfold execOp; rw [ho]
      simp [hv, asBool]
    rw [this]
    refine hok _ _ _ rfl _ _ (Res.pure hM ?_)
    cases b
    · exact h.ev y
    · exact h.ev x
end
end Go.Fw
namespace Go.Fw
open Go Go.RowKit

/-- What is known is so. -/
def KnOK (kn : List (Nat × Bool)) (t : List (Nat × AV)) : Prop := ∀ d b, known d kn = some b → look d t = .val (.bool b)

theorem known_forget : ∀ {kn : List (Nat × Bool)} {d e : Nat} {b : Bool}, known d (forget (some e) kn) = some b → d ≠ e ∧ known d kn = some b
  | [], d, e, b, h => by simp [forget, known] at h
  | (i, c) :: kn, d, e, b, h => by
    simp only [forget] at h
    split at h
    · rename_i hb
      have hi := Nat.eq_of_beq_eq_true hb
      obtain ⟨h1, h2⟩ := known_forget h
      refine ⟨h1, ?_⟩
      simp only [known]
      have : Nat.beq i d = false := by
        cases hx : Nat.beq i d with
        | false => rfl
        | true => exact absurd (hi ▸ (Nat.eq_of_beq_eq_true hx).symm) h1
      rw [this]; exact h2
    · rename_i hb
      simp only [known] at h ⊢
      cases hx : Nat.beq i d with
      | true =>
        rw [hx] at h
        exact ⟨fun e1 => Nat.ne_of_beq_eq_false hb ((Nat.eq_of_beq_eq_true hx).trans e1), h⟩
      | false => rw [hx] at h; exact known_forget h

theorem KnOK.put {kn : List (Nat × Bool)} {t : List (Nat × AV)} (h : KnOK kn t) (n : Nat) (d : Option Nat) (v : AV) : KnOK (forget d kn) (putT n d v t) := by
  cases d with
  | none =>
    have : forget none kn = kn := by unfold forget; rfl
    rw [this]; exact h
  | some d =>
    intro e b he
    obtain ⟨h1, h2⟩ := known_forget he
    have := h e b h2
    unfold putT
    dsimp only
    split
    · rw [look_cons, if_neg fun e' => h1 e'.symm]; exact this
    · exact this

/-- Whether a guard holds, by the slots. -/
def GuardV (ops : List Oper) (t : List (Nat × AV)) (g : Option (Nat × Bool)) (b : Bool) : Prop :=
  match g with
  | none => b = true
  | some (j, want) => ∃ d, dstOf ops j = some d ∧ ((∃ x, nrm (look d t) = .val (.bool x) ∧ b = (x == want)) ∨ ((∃ vs, look d t = .val (.tuple vs)) ∧ b = false))

theorem guard_to {ops : List Oper} {t : List (Nat × AV)} {kn : List (Nat × Bool)} {g : Option (Nat × Bool)} {K : Bool → List (Nat × Bool) → Prop} (hk : KnOK kn t) (h : guardK ops t kn g K) :
    ∃ b kn', KnOK kn' t ∧ K b kn' ∧ GuardV ops t g b := by
  unfold guardK at h
  split at h
  · exact ⟨true, kn, hk, h, rfl⟩
  · rename_i j want
    split at h
    · exact h.elim
    · rename_i d hd
      split at h
      · rename_i b hb
        have hv := hk d b hb
        cases b <;> cases want <;> exact ⟨_, kn, hk, h, d, hd, Or.inl ⟨_, by rw [hv]; rfl, rfl⟩⟩
      · rename_i hb
        have hext : ∀ b, look d t = .val (.bool b) → KnOK ((d, b) :: kn) t := by
          intro b hl' e c he
          simp only [known] at he
          cases hx : Nat.beq d e with
          | true => rw [hx] at he; cases he; rw [← Nat.eq_of_beq_eq_true hx]; exact hl'
          | false => rw [hx] at he; exact hk e c he
        split at h
        · rename_i hl'
          cases want <;> exact ⟨_, kn, hk, h, d, hd, Or.inl ⟨true, by rw [hl']; rfl, rfl⟩⟩
        · rename_i hl'
          cases want <;> exact ⟨_, kn, hk, h, d, hd, Or.inl ⟨false, by rw [hl']; rfl, rfl⟩⟩
        · rename_i b hl'
          cases want <;> cases b
          · exact ⟨_, _, hext false hl', h.2 rfl, d, hd, Or.inl ⟨false, by rw [hl']; rfl, rfl⟩⟩
          · exact ⟨_, _, hext true hl', h.1 rfl, d, hd, Or.inl ⟨true, by rw [hl']; rfl, rfl⟩⟩
          · exact ⟨_, _, hext false hl', h.2 rfl, d, hd, Or.inl ⟨false, by rw [hl']; rfl, rfl⟩⟩
          · exact ⟨_, _, hext true hl', h.1 rfl, d, hd, Or.inl ⟨true, by rw [hl']; rfl, rfl⟩⟩
        · rename_i vs hl'
          exact ⟨false, kn, hk, h, d, hd, Or.inr ⟨⟨vs, hl'⟩, rfl⟩⟩
        · exact h.elim

theorem opTr_to {P : Program} {E : Env} {m id : Nat} {o : Oper} {t : List (Nat × AV)} {kn : List (Nat × Bool)} {hp : Nat → Option Blk} {K : Out → Prop} (hk : KnOK kn t) (h : (opTr m E id o t kn).run P hp id [] K) :
    ∃ out, OpTo P hp m E id o t out ∧ K out := by
  unfold opTr at h
  split at h
  · rename_i c a b ho
    split at h
    · rename_i hb
      exact ⟨_, Or.inr ⟨c, a, b, true, ho, hk c true hb, rfl⟩, h⟩
    · rename_i hb
      exact ⟨_, Or.inr ⟨c, a, b, false, ho, hk c false hb, rfl⟩, h⟩
    · obtain ⟨out, h1, h2⟩ := run_to h
      refine ⟨out, Or.inl ⟨fun c => by rw [ho]; simp, ?_⟩, h2⟩
      rw [ho]
      exact h1
  · exact h.elim
  · rename_i hnp hnd
    obtain ⟨out, h1, h2⟩ := run_to h
    exact ⟨out, Or.inl ⟨fun c e => hnd c e, h1⟩, h2⟩

section
variable {P : Program} {E : Env} {bs : Bs} {φ : Ph} {s : St} {a : Act} {w : World}

theorem wanted_of {ops : Array Oper} {o : Oper} {b : Bool} (h : Mod bs φ s a w) (hg : GuardV ops.toList s.t o.guard b) : Region.wanted o (yielded ops a.tmps) = b := by
  unfold Region.wanted
  unfold GuardV at hg
  split at hg
  · rename_i hn; rw [hn]; exact hg.symm
  · rename_i j want hs
    obtain ⟨d, hd, hg⟩ := hg
    have hd' : (ops[j]?).bind (·.dst) = some d := by simpa [dstOf] using hd
    rw [hs]
    rcases hg with ⟨x, hl', rfl⟩ | ⟨⟨vs, hl'⟩, rfl⟩
    rotate_left
    · have hr := h.t d
      rw [hl'] at hr
      have hv := R.val_inv hr
      have : yielded ops a.tmps j = none := by
        simp only [yielded, hd', Option.bind_some]
        cases hx : a.tmps[d]? with
        | none => rfl
        | some y =>
          rw [Array.getD_eq_getD_getElem?, hx] at hv
          have hv : y = .tuple vs := by simpa using hv
          rw [hv]
      dsimp only
      rw [this]
      cases want <;> rfl
    have hr := (h.t d).nrm
    rw [hl'] at hr
    have hv := R.val_inv hr
    have : a.tmps[d]? = some (.bool x) := by
      cases hx : a.tmps[d]? with
      | none => rw [Array.getD_eq_getD_getElem?, hx] at hv; cases hv
      | some y => rw [Array.getD_eq_getD_getElem?, hx] at hv; simpa using hv
    simp only [yielded, hd', Option.bind_some, this]
    cases x <;> cases want <;> rfl

theorem Mod.widen (h : Mod bs φ s a w) {nx : Nat} (hn : s.nx ≤ nx) : Mod bs φ { s with nx := nx } a w :=
  ⟨⟨fun i hi => Nat.lt_of_lt_of_le (h.kb i hi) hn, h.h, h.inj, h.lo, h.ps, h.bd, h.kp, h.inc⟩, h.n, h.t, h.df⟩

/-- What a piece of code leaves. -/
def Post (bs : Bs) (K : Ex → St → Prop) : Exit → Act → World → Prop := fun e a w => ∃ ex s φ, K ex s ∧ Mod bs φ s a w ∧ match ex with
  | .normal => e = .normal
  | .exit i => e = .exit i
  | .ret => e = .ret
  | .panic u => ∃ v, e = .panic [{ v, recovered := false }] ∧ R (cx bs φ s w) u v

theorem xOps_sound (hE : EnvOK P E) {ops : Array Oper} {n m : Nat} {df : List AV} {Kx : Ex → List Eff → List (Nat × AV) → List (Nat × Option Blk) → Nat → Prop} :
    ∀ (l : List Oper) (k id : Nat) (kn : List (Nat × Bool)) (tr : List Eff) (t : List (Nat × AV)) (h : List (Nat × Option Blk)) (φ : Ph) (a : Act) (w : World), (∀ j, j < l.length → l[j]? = ops[k + j]?) →
      xOps P E ops.toList n m l id kn tr t h Kx → KnOK kn t → Mod bs φ ⟨n, t, h, id, m, df⟩ a w →
      wpOps P ops (Post bs fun e s => ∃ tr t h nx, Kx e tr t h nx ∧ s = ⟨n, t, h, nx, m, df⟩) (List.range' k l.length) a w
  | [], k, id, kn, tr, t, h, φ, a, w, _, hx, _, hM => by
    simp only [List.length_nil, List.range'_zero, wpOps]
    exact ⟨.normal, _, φ, ⟨tr, t, h, id, hx, rfl⟩, hM, rfl⟩
  | o :: l, k, id, kn, tr, t, h, φ, a, w, hl', hx, hkn, hM => by
    have h0 : ops[k]? = some o := by simpa using (hl' 0 (by simp)).symm
    have hl2 : ∀ j, j < l.length → l[j]? = ops[k + 1 + j]? := fun j hj => by have := hl' (j + 1) (by simpa using hj); simpa [Nat.add_assoc, Nat.add_comm 1 j] using this
    simp only [xOps] at hx
    obtain ⟨b, kn', hkn', hx, hg⟩ := guard_to hkn hx
    have hw := wanted_of hM hg
    simp only [List.length_cons, List.range'_succ, wpOps, h0]
    have hM16 := hM.widen (nx := id + 16) (by simp)
    cases b with
    | false =>
      rw [if_neg (by rw [hw]; simp)]
      simp only [putK_iff, forceN_iff] at hx
      exact xOps_sound hE l (k + 1) (id + 16) _ _ _ _ φ _ w hl2 hx (hkn'.put n o.dst (.val undef)) (hM16.put (φ' := φ) (hs := []) o.dst hM16.toHM (Cx.Le.refl _) (.val undef))
    | true =>
      rw [if_pos hw]
      obtain ⟨out, hop, hx⟩ := opTr_to hkn' hx
      refine Or.inl (op_wp hE hM16 (fun k _ hal => ?_) (Nat.le_refl _) hop (fun u hs rd e v w' hres => ?_) fun u hs rd e v w' hres => ?_)
      · have : id + k < id := hM.kb (id + k) hal
        omega
      · subst e
        obtain ⟨φ', r1, r2, r3⟩ := hres
        simp only [force_iff, putK_iff, appK_iff, forceN_iff] at hx
        exact xOps_sound hE l (k + 1) (id + 16) _ _ _ _ φ' _ w' hl2 hx (hkn'.put n o.dst u) (hM16.put o.dst r1 r2 r3)
      · subst e
        obtain ⟨φ', r1, r2, r3⟩ := hres
        simp only [appK_iff, forceN_iff] at hx
        have := hM16.put (u := .junk) (v := undef) none r1 r2 (.junk _)
        exact ⟨.panic u, _, φ', ⟨_, _, _, _, hx, rfl⟩, this, v, rfl, r3⟩
end
end Go.Fw
