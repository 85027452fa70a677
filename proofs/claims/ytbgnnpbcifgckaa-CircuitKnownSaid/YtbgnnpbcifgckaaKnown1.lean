/- Helpers of Known, part 1: the executor and contracts of functions. No statement of the seat is proved here, under no condition. -/
import Derived.Calls
import Derived.Below
import Derived.Laws.Cells
import Derived.Laws.NewBlocks
import Derived.Deep.Quiet
import Derived.Laws.Entries
import Derived.Laws.Tables
import Derived.Laws.CopyRow
set_option linter.all false
namespace Go.Fw
open Go Go.RowKit

/-- The types of pure data. -/
inductive Ty where
  | i (k : IntKind)
  | b
  | sl (t : Ty)
  | pr (x y : Ty)

abbrev IK : IntKind → Type
  | .u8 | .u16 | .u32 | .u64 => Nat
  | _ => Int

abbrev D : Ty → Type
  | .i k => IK k
  | .b => Bool
  | .sl t => List (D t)
  | .pr x y => D x × D y

def IK.z : (k : IntKind) → IK k → Int
  | .u8, n | .u16, n | .u32, n | .u64, n => ((n : Nat) : Int)
  | .i8, n | .i16, n | .i32, n | .i64, n => n

def IK.of : (k : IntKind) → Int → IK k
  | .u8, n | .u16, n | .u32, n | .u64, n => n.toNat
  | .i8, n | .i16, n | .i32, n | .i64, n => n

def dz : (t : Ty) → D t
  | .i .u8 | .i .u16 | .i .u32 | .i .u64 => (0 : Nat)
  | .i .i8 | .i .i16 | .i .i32 | .i .i64 => (0 : Int)
  | .b => false
  | .sl _ => []
  | .pr x y => (dz x, dz y)

/-- How many cells. -/
def sz : Ty → Nat
  | .pr x y => sz x + sz y
  | _ => 1

/-- Where immutable memory may lie: made by this call; or handed in; or lent for a round. -/
inductive Org where
  | fr | old | tmp

def Org.join : Org → Org → Org
  | .fr, x => x
  | .tmp, _ => .tmp
  | .old, .tmp => .tmp
  | .old, _ => .old

inductive AV where
  | junk
  | val (v : Value)
  | un (k : IntKind) (n : Nat)
  | tt
  | ff
  | nil (t : Ty)
  | dat (o : Org) (t : Ty) (xs : List (D t))
  | av (o : Org) (t : Ty) (xs : List (D t))
  | ip (o : Org) (cs : List AV) (k : Nat)
  | ptr (id off : Nat)
  | pa (id j k : Nat)
  | own (id : Nat)
  | sl (id lo len : Nat)
  | agg (cs : List AV)
  | tup (cs : List AV)
  | clo (fn : Fn) (fst cap : List AV)
  | ifc (t : TypeId) (x : AV)

/-- 'deep': rows whose slices lie each in memory of its own · 'seg': such rows, one of them open: its cells stand for themselves. -/
inductive Blk where
  | cells (l : List AV)
  | arr (o : Org) (t : Ty) (xs : List (D t))
  | deep (t : Ty) (xs : List (D t))
  | seg (t : Ty) (xs : List (D t)) (j : Nat) (row : List AV)

/-- What a block's rows are, and how many. -/
def shp : Option Blk → Option (Ty × Nat)
  | some (.arr _ t xs) => some (t, xs.length)
  | some (.deep t xs) => some (t, xs.length)
  | some (.seg t xs _ _) => some (t, xs.length)
  | _ => none

def hasSl : Ty → Bool
  | .i _ => false
  | .b => false
  | .sl _ => true
  | .pr x y => hasSl x || hasSl y

/-- Where one's own blocks lie, and which other blocks are theirs. -/
structure Ph where
  f : Nat → Option (Nat × Nat)
  ψ : Nat → Nat → Prop
instance : CoeFun Ph (fun _ => Nat → Option (Nat × Nat)) := ⟨Ph.f⟩
def Ph.put (φ : Ph) (id : Nat) (p : Option (Nat × Nat)) (F : Nat → Prop) : Ph := ⟨fun j => if j = id then p else φ.f j, fun j => if j = id then F else φ.ψ j⟩
def Ph.own (φ : Ph) (id b : Nat) : Prop := (∃ off, φ id = some (b, off)) ∨ φ.ψ id b

structure St where
  n : Nat
  t : List (Nat × AV)
  h : List (Nat × Option Blk)
  nx : Nat
  m : Nat := 0
  df : List AV := []

def St.al (s : St) (id : Nat) : Prop := ∃ x, (id, x) ∈ s.h

def look (k : Nat) : List (Nat × AV) → AV
  | [] => .junk
  | (i, v) :: r => match Nat.beq i k with
    | true => v
    | false => look k r

def hl (k : Nat) : List (Nat × Option Blk) → Option Blk
  | [] => none
  | (i, v) :: r => match Nat.beq i k with
    | true => v
    | false => hl k r

/-- The cells of a datum, as abstract values. -/
def cellsD (o : Org) : (t : Ty) → D t → List AV
  | .i .u8, n => [.un .u8 n]
  | .i .u16, n => [.un .u16 n]
  | .i .u32, n => [.un .u32 n]
  | .i .u64, n => [.un .u64 n]
  | .i .i8, n => [.val (.int .i8 n)]
  | .i .i16, n => [.val (.int .i16 n)]
  | .i .i32, n => [.val (.int .i32 n)]
  | .i .i64, n => [.val (.int .i64 n)]
  | .b, x => [.val (.bool x)]
  | .sl t, xs => [.dat o t xs]
  | .pr x y, p => cellsD o x p.1 ++ cellsD o y p.2

def RowAt (w : World) (b o : Nat) (rc : List Value) : Prop := ∀ i (h : i < rc.length), w.cell? ⟨b, o + i, none⟩ = some rc[i]

/-- A datum, and the cells that hold it. -/
def RD (w : World) (ok : Nat → Prop) : (t : Ty) → D t → List Value → Prop
  | .i k, n, cs => cs = [.int k (IK.z k n)]
  | .b, x, cs => cs = [.bool x]
  | .sl t, xs, cs => ∃ a cap, cs = [.slice a (List.length xs) cap] ∧ List.length xs ≤ cap ∧
      (xs ≠ [] → ∃ bl off, a = some ⟨bl, off, none⟩ ∧ ok bl ∧ ∀ (j : Nat) (hj : j < List.length xs), ∃ rc, RowAt w bl (off + j * sz t) rc ∧ RD w ok t (List.get xs ⟨j, hj⟩) rc)
  | .pr x y, p, cs => ∃ c1 c2, cs = c1 ++ c2 ∧ RD w ok x p.1 c1 ∧ RD w ok y p.2 c2

/-- Rows of data at a place. -/
def RDs (w : World) (ok : Nat → Prop) (t : Ty) (bl off : Nat) (xs : List (D t)) : Prop :=
  ∀ j (hj : j < xs.length), ∃ rc, RowAt w bl (off + j * sz t) rc ∧ RD w ok t xs[j] rc

/-- A datum all of whose slices lie each in memory of its own, within F. -/
def RO (w : World) : (t : Ty) → D t → List Value → (Nat → Prop) → Prop
  | .i k, n, cs, _ => cs = [.int k (IK.z k n)]
  | .b, x, cs, _ => cs = [.bool x]
  | .sl t, xs, cs, F => ∃ a cap, cs = [.slice a (List.length xs) cap] ∧ List.length xs ≤ cap ∧
      ((List.length xs = 0 ∧ cap = 0) ∨ ∃ bl off c e, a = some ⟨bl, off, none⟩ ∧ F bl ∧ w.heap[bl]? = some (.cells c e (0, 0)) ∧ off + cap * sz t ≤ c.size ∧
        ∃ G : Nat → Nat → Prop, (∀ j b, G j b → F b ∧ b ≠ bl) ∧ (∀ i j b, G i b → G j b → i = j) ∧
          ∀ (j : Nat) (hj : j < List.length xs), ∃ rc, RowAt w bl (off + j * sz t) rc ∧ RO w t (List.get xs ⟨j, hj⟩) rc (G j))
  | .pr x y, p, cs, F => ∃ c1 c2 F1 F2, cs = c1 ++ c2 ∧ (∀ b, F1 b → F b) ∧ (∀ b, F2 b → F b) ∧ (∀ b, F1 b → ¬ F2 b) ∧ RO w x p.1 c1 F1 ∧ RO w y p.2 c2 F2

/-- Such rows, but for one that is left out. -/
def ROs (w : World) (t : Ty) (b off : Nat) (xs : List (D t)) (F : Nat → Prop) (skip : Option Nat) : Prop :=
  ∃ G : Nat → Nat → Prop, (∀ j x, G j x → F x) ∧ (∀ i j x, G i x → G j x → i = j) ∧
    ∀ (j : Nat) (hj : j < xs.length), skip ≠ some j → ∃ rc, RowAt w b (off + j * sz t) rc ∧ RO w t xs[j] rc (G j)

structure Cx where
  φ : Nat → Option (Nat × Nat)
  ψ : Nat → Nat → Prop
  w : World
  h : Nat → Option Blk
  al : Nat → Prop
  A : Nat → Prop
  B : Nat

def Cx.own (c : Cx) (id b : Nat) : Prop := (∃ off, c.φ id = some (b, off)) ∨ c.ψ id b
def Cx.live (c : Cx) (b : Nat) : Prop := ∃ id, c.h id ≠ none ∧ c.own id b
def Cx.ok (c : Cx) (o : Org) (b : Nat) : Prop := ¬ c.live b ∧ match o with
  | .fr => c.B ≤ b
  | .old => c.A b ∨ c.B ≤ b
  | .tmp => True

/-- How much lies behind a place in a block of one's own. -/
def capOk (c : Cx) (id lo cap : Nat) : Prop := ∀ t n, shp (c.h id) = some (t, n) → ∀ b off, c.φ id = some (b, off) →
  ∃ cs e fz, c.w.heap[b]? = some (.cells cs e fz) ∧ off + (lo + cap) * sz t ≤ cs.size

/-- A slice's address in a block of one's own, 'lo' rows behind its head. -/
def slAt (c : Cx) (id lo len cap : Nat) (ad : Option Addr) : Prop :=
  (∃ b off off', c.φ id = some (b, off) ∧ ad = some ⟨b, off', none⟩ ∧ ∀ t n, shp (c.h id) = some (t, n) → off' = off + lo * sz t) ∨
  (c.φ id = none ∧ ad = none ∧ len = 0 ∧ cap = 0 ∧ lo = 0)

mutual
inductive R (c : Cx) : AV → Value → Prop
  | junk (v : Value) : R c .junk v
  | val (v : Value) : R c (.val v) v
  | un (k : IntKind) (n : Nat) : R c (.un k n) (.int k n)
  | tt : R c .tt (.bool true)
  | ff : R c .ff (.bool false)
  | nil (t : Ty) : R c (.nil t) (.slice none 0 0)
  | dat {o : Org} {t : Ty} {xs : List (D t)} {v : Value} (h : RD c.w (c.ok o) (.sl t) xs [v]) : R c (.dat o t xs) v
  | av {o : Org} {t : Ty} {xs : List (D t)} {cs : Array Value} (css : List (List Value)) (h1 : cs.toList = css.flatten) (h2 : css.length = xs.length)
      (h3 : ∀ j (h : j < xs.length), RD c.w (c.ok o) t xs[j] (css[j]'(h2 ▸ h))) : R c (.av o t xs) (.agg cs)
  | ip {o : Org} {l : List AV} {k : Nat} {b off : Nat} {rc : List Value} (h0 : b < c.w.heap.size) (h1 : c.ok o b) (h2 : RowAt c.w b off rc) (h3 : RL c l rc) :
      R c (.ip o l k) (.pointer (some ⟨b, off + k, none⟩))
  | ptr {id k b off : Nat} (h : c.al id) (h1 : c.φ id = some (b, off)) : R c (.ptr id k) (.pointer (some ⟨b, off + k, none⟩))
  | pa {id j k b off : Nat} {off' : Nat} (h : c.al id) (h1 : c.φ id = some (b, off)) (h2 : ∀ t n, shp (c.h id) = some (t, n) → off' = off + j * sz t + k) :
      R c (.pa id j k) (.pointer (some ⟨b, off', none⟩))
  | own {id len cap : Nat} {ad : Option Addr} (h : c.al id) (h1 : ∀ t n, shp (c.h id) = some (t, n) → len = n) (h2 : slAt c id 0 len cap ad ∨ (len = 0 ∧ cap = 0)) (h3 : capOk c id 0 cap)
      (h4 : len ≤ cap) : R c (.own id) (.slice ad len cap)
  | sl {id lo len cap : Nat} {ad : Option Addr} (h : c.al id) (h1 : ∀ t n, shp (c.h id) = some (t, n) → lo + len ≤ n) (h2 : slAt c id lo len cap ad ∨ (len = 0 ∧ cap = 0))
      (h3 : capOk c id lo cap) (h4 : len ≤ cap) : R c (.sl id lo len) (.slice ad len cap)
  | agg {l : List AV} {cs : Array Value} (h : RL c l cs.toList) : R c (.agg l) (.agg cs)
  | tup {l : List AV} {cs : Array Value} (h : RL c l cs.toList) : R c (.tup l) (.tuple cs)
  | clo {fn : Fn} {l1 l2 : List AV} {c1 c2 : Array Value} (h1 : RL c l1 c1.toList) (h2 : RL c l2 c2.toList) : R c (.clo fn l1 l2) (.func fn c1 c2)
  | ifc {t : TypeId} {x : AV} {v : Value} (h : R c x v) : R c (.ifc t x) (.iface t v)
inductive RL (c : Cx) : List AV → List Value → Prop
  | nil : RL c [] []
  | cons {x : AV} {v : Value} {l : List AV} {vs : List Value} (h : R c x v) (hl : RL c l vs) : RL c (x :: l) (v :: vs)
end

def BlkOK (c : Cx) (id : Nat) : Blk → Prop
  | .cells l => ∃ b cs e, c.φ id = some (b, 0) ∧ c.w.heap[b]? = some (.cells cs e (0, 0)) ∧ RL c l cs.toList
  | .arr o t xs => (∃ b off cs e, c.φ id = some (b, off) ∧ c.w.heap[b]? = some (.cells cs e (0, 0)) ∧ off + xs.length * sz t ≤ cs.size ∧ RDs c.w (c.ok o) t b off xs) ∨
      (c.φ id = none ∧ xs = [])
  | .deep t xs => (∃ b off cs e, c.φ id = some (b, off) ∧ c.w.heap[b]? = some (.cells cs e (0, 0)) ∧ off + xs.length * sz t ≤ cs.size ∧ ¬ c.ψ id b ∧ ROs c.w t b off xs (c.ψ id) none) ∨
      (c.φ id = none ∧ xs = [])
  | .seg t xs j row => ∃ b off cs e, c.φ id = some (b, off) ∧ c.w.heap[b]? = some (.cells cs e (0, 0)) ∧ off + xs.length * sz t ≤ cs.size ∧ ¬ c.ψ id b ∧ ROs c.w t b off xs (c.ψ id) (some j) ∧
      j < xs.length ∧ row.length = sz t ∧ ∃ rc, RowAt c.w b (off + j * sz t) rc ∧ RL c row rc

/-- What a call leaves of old memory. -/
structure Keeps (X : Nat → Prop) (B : Nat) (w w' : World) : Prop where
  os : w'.os = w.os
  tape : w'.tape = w.tape
  output : w'.output = w.output
  size : w.heap.size ≤ w'.heap.size
  block : ∀ k, k < B → ¬ X k → w'.heap[k]? = w.heap[k]?
  cells : ∀ k, k < B → ∀ cs e fz, w.heap[k]? = some (.cells cs e fz) → ∃ cs' e' fz', w'.heap[k]? = some (.cells cs' e' fz') ∧ cs'.size = cs.size

structure Bs where
  w0 : World
  A : Nat → Prop
  B : Nat
  Y : Nat → Nat → Prop
  φ0 : Nat → Option (Nat × Nat)
/-- Old memory that may be written: it belongs to a block that came in. -/
def Bs.X (bs : Bs) (b : Nat) : Prop := ∃ i, bs.Y i b

def cx (bs : Bs) (φ : Ph) (s : St) (w : World) : Cx := { φ := φ.f, ψ := φ.ψ, w, h := (hl · s.h), al := s.al, A := bs.A, B := bs.B }

/-- What an abstract heap says of a world. -/
structure HM (bs : Bs) (φ : Ph) (s : St) (w : World) : Prop where
  kb : ∀ id, s.al id → id < s.nx
  h : ∀ id b, hl id s.h = some b → BlkOK (cx bs φ s w) id b
  inj : ∀ i j b, hl i s.h ≠ none → hl j s.h ≠ none → φ.own i b → φ.own j b → i = j
  lo : ∀ i b, hl i s.h ≠ none → φ.own i b → bs.B ≤ b ∨ (i < s.m ∧ bs.Y i b)
  ps : ∀ i b, hl i s.h ≠ none → φ.ψ i b → b < w.heap.size
  bd : bs.B ≤ w.heap.size
  kp : Keeps bs.X bs.B bs.w0 w
  inc : ∀ i, i < s.m → s.al i ∧ φ i = bs.φ0 i

structure Mod (bs : Bs) (φ : Ph) (s : St) (a : Act) (w : World) : Prop extends HM bs φ s w where
  n : a.tmps.size = s.n
  t : ∀ i, R (cx bs φ s w) (look i s.t) (a.tmps.getD i undef)
  df : ∃ ds : List Value, RL (cx bs φ s w) s.df ds ∧ a.defers = ds.filterMap fun
    | .func fn f cap => some { target := .fn fn cap, args := f }
    | _ => none

theorem al_of_hl {s : St} {id : Nat} {b : Blk} (h : hl id s.h = some b) : s.al id := by
  unfold St.al
  generalize s.h = l at h
  induction l with
  | nil => simp [hl] at h
  | cons p r ih =>
    obtain ⟨i, v⟩ := p
    simp only [hl] at h
    cases hi : Nat.beq i id with
    | true => rw [Nat.eq_of_beq_eq_true hi]; exact ⟨v, by simp⟩
    | false => rw [hi] at h; obtain ⟨x, hx⟩ := ih h; exact ⟨x, by simp [hx]⟩

theorem HM.injp {bs : Bs} {φ : Ph} {s : St} {w : World} (h : HM bs φ s w) (i j b k l : Nat) (hi : hl i s.h ≠ none) (hj : hl j s.h ≠ none) (hp : φ i = some (b, k)) (hq : φ j = some (b, l)) : i = j :=
  h.inj i j b hi hj (Or.inl ⟨k, hp⟩) (Or.inl ⟨l, hq⟩)
theorem HM.lop {bs : Bs} {φ : Ph} {s : St} {w : World} (h : HM bs φ s w) (i b k : Nat) (hi : hl i s.h ≠ none) (hp : φ i = some (b, k)) : bs.B ≤ b ∨ (i < s.m ∧ bs.Y i b) :=
  h.lo i b hi (Or.inl ⟨k, hp⟩)
theorem Cx.own_p {c : Cx} {id b off : Nat} (h : c.φ id = some (b, off)) : c.own id b := Or.inl ⟨off, h⟩
theorem shp_arr {b : Option Blk} {o : Org} {t : Ty} {xs : List (D t)} (h : b = some (.arr o t xs)) : shp b = some (t, xs.length) := by rw [h]; rfl
theorem shp_deep {b : Option Blk} {t : Ty} {xs : List (D t)} (h : b = some (.deep t xs)) : shp b = some (t, xs.length) := by rw [h]; rfl
theorem shp_seg {b : Option Blk} {t : Ty} {xs : List (D t)} {j : Nat} {row : List AV} (h : b = some (.seg t xs j row)) : shp b = some (t, xs.length) := by rw [h]; rfl

theorem RL.length {c : Cx} {l : List AV} {vs : List Value} (h : RL c l vs) : l.length = vs.length := by
  induction l generalizing vs with
  | nil => cases h; rfl
  | cons x l ih => cases h with | cons h hl => simp [ih hl]

theorem RL.get {c : Cx} {l : List AV} {vs : List Value} (h : RL c l vs) : ∀ (i : Nat) (hi : i < l.length), R c l[i] (vs[i]'(h.length ▸ hi)) := by
  induction l generalizing vs with
  | nil => intro i hi; simp at hi
  | cons x l ih =>
    cases h with
    | cons h hl =>
      intro i hi
      cases i with
      | zero => exact h
      | succ i => exact ih hl i (by simpa using hi)

theorem RL.mk {c : Cx} {l : List AV} {vs : List Value} (hn : l.length = vs.length) (h : ∀ (i : Nat) (hi : i < l.length) (hv : i < vs.length), R c l[i] vs[i]) : RL c l vs := by
  induction l generalizing vs with
  | nil => cases vs with | nil => exact .nil | cons v vs => simp at hn
  | cons x l ih =>
    cases vs with
    | nil => simp at hn
    | cons v vs =>
      refine .cons (h 0 (by simp) (by simp)) (ih (by simpa using hn) fun i hi hv => ?_)
      exact h (i + 1) (by simpa using hi) (by simpa using hv)

theorem RL.append {c : Cx} {l l' : List AV} {vs vs' : List Value} (h : RL c l vs) (h' : RL c l' vs') : RL c (l ++ l') (vs ++ vs') := by
  induction l generalizing vs with
  | nil => cases h; exact h'
  | cons x l ih => cases h with | cons h hl => exact .cons h (ih hl)

theorem RL.split {c : Cx} {l l' : List AV} {vs : List Value} (h : RL c (l ++ l') vs) : ∃ v1 v2, vs = v1 ++ v2 ∧ RL c l v1 ∧ RL c l' v2 := by
  induction l generalizing vs with
  | nil => exact ⟨[], vs, rfl, .nil, h⟩
  | cons x l ih =>
    cases h with
    | cons h hl =>
      obtain ⟨v1, v2, rfl, a, b⟩ := ih hl
      exact ⟨_ :: v1, v2, rfl, .cons h a, b⟩

theorem RD.length {w : World} {ok : Nat → Prop} : ∀ {t : Ty} {x : D t} {cs : List Value}, RD w ok t x cs → cs.length = sz t
  | .i _, _, _, h => by simp only [RD] at h; simp [h, sz]
  | .b, _, _, h => by simp only [RD] at h; simp [h, sz]
  | .sl _, _, _, h => by simp only [RD] at h; obtain ⟨a, cap, h, _⟩ := h; simp [h, sz]
  | .pr _ _, _, _, h => by
    simp only [RD] at h
    obtain ⟨c1, c2, rfl, h1, h2⟩ := h
    simp [sz, RD.length h1, RD.length h2]

theorem RowAt.lt {w : World} {b o : Nat} {rc : List Value} (h : RowAt w b o rc) (hn : rc ≠ []) : b < w.heap.size := by
  have h0 : 0 < rc.length := by cases rc <;> simp_all
  exact World.block_lt_of_cell? _ _ (h 0 h0)

theorem sz_pos : ∀ t : Ty, 0 < sz t
  | .i _ | .b | .sl _ => by simp [sz]
  | .pr x y => by simp [sz]; have := sz_pos x; omega

theorem RowAt.keep {w w' : World} {b o : Nat} {rc : List Value} (h : RowAt w b o rc) (hb : w'.heap[b]? = w.heap[b]?) : RowAt w' b o rc :=
  fun i hi => by rw [← h i hi]; exact World.cell?_of_block (w := w) hb

/-- Data stay, where the memory stays in which they may lie. -/
theorem RD.keep {w w' : World} {ok ok' : Nat → Prop} (hb : ∀ b, b < w.heap.size → ok b → ok' b ∧ w'.heap[b]? = w.heap[b]?) :
    ∀ {t : Ty} {x : D t} {cs : List Value}, RD w ok t x cs → RD w' ok' t x cs
  | .i _, _, _, h => by simpa only [RD] using h
  | .b, _, _, h => by simpa only [RD] using h
  | .sl t, xs, _, h => by
    simp only [RD] at h ⊢
    obtain ⟨a, cap, h, hc, hr⟩ := h
    refine ⟨a, cap, h, hc, fun hne => ?_⟩
    obtain ⟨bl, off, ha, hok, hrows⟩ := hr hne
    have h0 : 0 < xs.length := by cases xs <;> simp_all
    have hlt : bl < w.heap.size := by
      obtain ⟨rc, h1, h2⟩ := hrows 0 h0
      refine h1.lt fun e => ?_
      have := h2.length
      rw [e] at this
      have := sz_pos t
      simp at *; omega
    obtain ⟨hok', hbb⟩ := hb bl hlt hok
    exact ⟨bl, off, ha, hok', fun j hj => by
      obtain ⟨rc, h1, h2⟩ := hrows j hj
      exact ⟨rc, h1.keep hbb, RD.keep hb h2⟩⟩
  | .pr _ _, _, _, h => by
    simp only [RD] at h ⊢
    obtain ⟨c1, c2, h, h1, h2⟩ := h
    exact ⟨c1, c2, h, RD.keep hb h1, RD.keep hb h2⟩

theorem RDs.keep {w w' : World} {ok ok' : Nat → Prop} {t : Ty} {bl off : Nat} {xs : List (D t)} (hb : ∀ b, b < w.heap.size → ok b → ok' b ∧ w'.heap[b]? = w.heap[b]?)
    (hbl : w'.heap[bl]? = w.heap[bl]?) (h : RDs w ok t bl off xs) : RDs w' ok' t bl off xs :=
  fun j hj => by obtain ⟨rc, h1, h2⟩ := h j hj; exact ⟨rc, h1.keep hbl, RD.keep hb h2⟩

theorem RO.mono {w : World} : ∀ {t : Ty} {x : D t} {cs : List Value} {F F' : Nat → Prop}, (∀ b, F b → F' b) → RO w t x cs F → RO w t x cs F'
  | .i _, _, _, _, _, _, h => by simpa only [RO] using h
  | .b, _, _, _, _, _, h => by simpa only [RO] using h
  | .sl _, _, _, _, _, hF, h => by
    simp only [RO] at h ⊢
    obtain ⟨a, cap, h1, h2, h3⟩ := h
    refine ⟨a, cap, h1, h2, h3.imp id ?_⟩
    rintro ⟨bl, off, c, e, k1, k2, k3, k4, G, g1, g2, g3⟩
    exact ⟨bl, off, c, e, k1, hF _ k2, k3, k4, G, fun j b hb => ⟨hF _ (g1 j b hb).1, (g1 j b hb).2⟩, g2, g3⟩
  | .pr _ _, _, _, _, _, hF, h => by
    simp only [RO] at h ⊢
    obtain ⟨c1, c2, F1, F2, h1, h2, h3, h4, h5, h6⟩ := h
    exact ⟨c1, c2, F1, F2, h1, fun b hb => hF b (h2 b hb), fun b hb => hF b (h3 b hb), h4, h5, h6⟩

theorem RO.keep {w w' : World} : ∀ {t : Ty} {x : D t} {cs : List Value} {F : Nat → Prop}, (∀ b, F b → w'.heap[b]? = w.heap[b]?) → RO w t x cs F → RO w' t x cs F
  | .i _, _, _, _, _, h => by simpa only [RO] using h
  | .b, _, _, _, _, h => by simpa only [RO] using h
  | .sl _, _, _, _, hF, h => by
    simp only [RO] at h ⊢
    obtain ⟨a, cap, h1, h2, h3⟩ := h
    refine ⟨a, cap, h1, h2, h3.imp id ?_⟩
    rintro ⟨bl, off, c, e, k1, k2, k3, k4, G, g1, g2, g3⟩
    refine ⟨bl, off, c, e, k1, k2, (hF _ k2).trans k3, k4, G, g1, g2, fun j hj => ?_⟩
    obtain ⟨rc, r1, r2⟩ := g3 j hj
    exact ⟨rc, r1.keep (hF _ k2), RO.keep (fun b hb => hF b (g1 j b hb).1) r2⟩
  | .pr _ _, _, _, _, hF, h => by
    simp only [RO] at h ⊢
    obtain ⟨c1, c2, F1, F2, h1, h2, h3, h4, h5, h6⟩ := h
    exact ⟨c1, c2, F1, F2, h1, h2, h3, h4, h5.keep (fun b hb => hF b (h2 b hb)), h6.keep (fun b hb => hF b (h3 b hb))⟩

/-- What is one's own reads as data. -/
theorem RO.data {w : World} {ok : Nat → Prop} : ∀ {t : Ty} {x : D t} {cs : List Value} {F : Nat → Prop}, (∀ b, F b → b < w.heap.size → ok b) → RO w t x cs F → RD w ok t x cs
  | .i _, _, _, _, _, h => by simpa only [RO, RD] using h
  | .b, _, _, _, _, h => by simpa only [RO, RD] using h
  | .sl _, _, _, _, hF, h => by
    simp only [RO] at h
    simp only [RD]
    obtain ⟨a, cap, h1, h2, h3⟩ := h
    refine ⟨a, cap, h1, h2, fun hne => ?_⟩
    rcases h3 with ⟨h3, _⟩ | ⟨bl, off, c, e, k1, k2, k3, k4, G, g1, g2, g3⟩
    · exact absurd (List.eq_nil_of_length_eq_zero h3) hne
    · have hlt : bl < w.heap.size := (Array.getElem?_eq_some_iff.1 k3).1
      refine ⟨bl, off, k1, hF _ k2 hlt, fun j hj => ?_⟩
      obtain ⟨rc, r1, r2⟩ := g3 j hj
      exact ⟨rc, r1, RO.data (fun b hb hl => hF b (g1 j b hb).1 hl) r2⟩
  | .pr _ _, _, _, _, hF, h => by
    simp only [RO] at h
    simp only [RD]
    obtain ⟨c1, c2, F1, F2, h1, h2, h3, h4, h5, h6⟩ := h
    exact ⟨c1, c2, h1, h5.data (fun b hb hl => hF b (h2 b hb) hl), h6.data (fun b hb hl => hF b (h3 b hb) hl)⟩

theorem ROs.keep {w w' : World} {t : Ty} {b off : Nat} {xs : List (D t)} {F : Nat → Prop} {sk : Option Nat} (hF : ∀ b, F b → w'.heap[b]? = w.heap[b]?) (hb : w'.heap[b]? = w.heap[b]?) (h : ROs w t b off xs F sk) : ROs w' t b off xs F sk := by
  obtain ⟨G, g1, g2, g3⟩ := h
  refine ⟨G, g1, g2, fun j hj hs => ?_⟩
  obtain ⟨rc, r1, r2⟩ := g3 j hj hs
  exact ⟨rc, r1.keep hb, r2.keep (fun b hb => hF b (g1 j b hb))⟩

theorem ROs.mono {w : World} {t : Ty} {b off : Nat} {xs : List (D t)} {F F' : Nat → Prop} {sk : Option Nat} (hF : ∀ b, F b → F' b) (h : ROs w t b off xs F sk) : ROs w t b off xs F' sk := by
  obtain ⟨G, g1, g2, g3⟩ := h
  exact ⟨G, fun j x hx => hF x (g1 j x hx), g2, g3⟩

theorem ROs.data {w : World} {ok : Nat → Prop} {t : Ty} {b off : Nat} {xs : List (D t)} {F : Nat → Prop} (hF : ∀ b, F b → b < w.heap.size → ok b) (h : ROs w t b off xs F none) : RDs w ok t b off xs := by
  obtain ⟨G, g1, g2, g3⟩ := h
  intro j hj
  obtain ⟨rc, r1, r2⟩ := g3 j hj (by simp)
  exact ⟨rc, r1, r2.data (fun b hb hl => hF b (g1 j b hb) hl)⟩

/-- From one context to a later one. -/
structure Cx.Le (c c' : Cx) : Prop where
  al : ∀ id, c.al id → c'.al id
  sz : c.w.heap.size ≤ c'.w.heap.size
  φ : ∀ id, c.al id → c'.φ id = c.φ id
  arr : ∀ id, c.al id → ∀ t n, shp (c'.h id) = some (t, n) → shp (c.h id) = some (t, n)
  liv : ∀ id, c.al id → c'.h id ≠ none → c.h id ≠ none
  cap : ∀ id, c.al id → c'.h id ≠ none → ∀ b off, c.φ id = some (b, off) → ∀ cs e fz, c.w.heap[b]? = some (.cells cs e fz) → ∃ cs' e' fz', c'.w.heap[b]? = some (.cells cs' e' fz') ∧ cs'.size = cs.size
  ok : ∀ o b, b < c.w.heap.size → c.ok o b → c'.ok o b ∧ c'.w.heap[b]? = c.w.heap[b]?

theorem capOk.le {c c' : Cx} (h : c.Le c') {id lo cap : Nat} (hi : c.al id) (hc : capOk c id lo cap) : capOk c' id lo cap := by
  intro t n hx b off hb
  rw [h.φ id hi] at hb
  obtain ⟨cs, e, fz, h3, h4⟩ := hc t n (h.arr id hi t n hx) b off hb
  obtain ⟨cs', e', fz', h5, h6⟩ := h.cap id hi (by intro e0; rw [e0] at hx; cases hx) b off hb cs e fz h3
  exact ⟨cs', e', fz', h5, by rw [h6]; exact h4⟩

theorem slAt.le {c c' : Cx} (h : c.Le c') {id lo len cap : Nat} {ad : Option Addr} (hi : c.al id) (hc : slAt c id lo len cap ad) : slAt c' id lo len cap ad := by
  rcases hc with ⟨b, off, off', h1, h2, h3⟩ | ⟨h1, h2⟩
  · exact Or.inl ⟨b, off, off', (h.φ id hi).trans h1, h2, fun t n hx => h3 t n (h.arr id hi t n hx)⟩
  · exact Or.inr ⟨(h.φ id hi).trans h1, h2⟩

theorem RowAt.le {c c' : Cx} (h : c.Le c') {o : Org} {b off : Nat} {rc : List Value} (hok : c.ok o b) (hr : RowAt c.w b off rc) : RowAt c'.w b off rc := by
  intro i hi
  have := World.block_lt_of_cell? _ _ (hr i hi)
  rw [← hr i hi]
  exact World.cell?_of_block (w := c.w) (h.ok o b this hok).2

theorem RDs.le {c c' : Cx} (h : c.Le c') {o : Org} {t : Ty} {x : D t} {cs : List Value} (hr : RD c.w (c.ok o) t x cs) : RD c'.w (c'.ok o) t x cs :=
  hr.keep (h.ok o)

mutual
theorem R.le {c c' : Cx} (h : c.Le c') : ∀ {x : AV} {v : Value}, R c x v → R c' x v
  | _, _, .junk v => .junk v
  | _, _, .val v => .val v
  | _, _, .un k n => .un k n
  | _, _, .tt => .tt
  | _, _, .ff => .ff
  | _, _, .nil t => .nil t
  | _, _, .dat hr => .dat (RDs.le h hr)
  | _, _, .av css h1 h2 h3 => .av css h1 h2 fun j hj => RDs.le h (h3 j hj)
  | _, _, .ip h0 h1 h2 h3 => .ip (Nat.lt_of_lt_of_le h0 h.sz) (h.ok _ _ h0 h1).1 (RowAt.le h h1 h2) (RL.le h h3)
  | _, _, .ptr hi h1 => .ptr (h.al _ hi) ((h.φ _ hi).trans h1)
  | _, _, .pa hi h1 h2 => .pa (h.al _ hi) ((h.φ _ hi).trans h1) fun t n hx => h2 t n (h.arr _ hi t n hx)
  | _, _, .own hi h1 h2 h3 h4 => .own (h.al _ hi) (fun t n hx => h1 t n (h.arr _ hi t n hx)) (h2.imp (slAt.le h hi) fun x => x) (capOk.le h hi h3) h4
  | _, _, .sl hi h1 h2 h3 h4 => .sl (h.al _ hi) (fun t n hx => h1 t n (h.arr _ hi t n hx)) (h2.imp (slAt.le h hi) fun x => x) (capOk.le h hi h3) h4
  | _, _, .agg hl => .agg (RL.le h hl)
  | _, _, .tup hl => .tup (RL.le h hl)
  | _, _, .clo h1 h2 => .clo (RL.le h h1) (RL.le h h2)
  | _, _, .ifc hr => .ifc (R.le h hr)
theorem RL.le {c c' : Cx} (h : c.Le c') : ∀ {l : List AV} {vs : List Value}, RL c l vs → RL c' l vs
  | _, _, .nil => .nil
  | _, _, .cons h1 h2 => .cons (R.le h h1) (RL.le h h2)
end
end Go.Fw
namespace Go.Fw
open Go Go.RowKit

/-- What the executor knows of a type. -/
structure TI where
  ok : Bool
  kd : Nat
  sz : Nat
  agg : Bool
  bytes : Nat
  ty : Option Ty
  ik : Option IntKind
  zero : List AV
  flds : List (Nat × TypeId)
  el : TypeId
  len : Nat
  dp : Bool

def TI.none : TI := ⟨false, 0, 0, false, 0, .none, .none, [], [], 0, 0, false⟩
/-- 'own': the same types; rows with slices that are made are 'deep'. -/
inductive Env where
  | leaf
  | node (k : Nat) (x : TI) (l r : Env)
  | own (E : Env)
  | wr (E : Env)
def ti (T : Nat) : Env → TI
  | .leaf => TI.none
  | .wr E => ti T E
  | .own E => match ti T E with
    | ⟨a, b, c, d, e, f, g, h, i, j, k, _⟩ => ⟨a, b, c, d, e, f, g, h, i, j, k, a⟩
  | .node k x l r => match Nat.beq T k with
    | true => x
    | false => match Nat.blt T k with
      | true => ti T l
      | false => ti T r

/-- Whether signed sums wrap. -/
def wrE : Env → Bool
  | .wr _ => true
  | _ => false

inductive Tr where
  | ret (v : AV) (hs : List (Nat × Option Blk))
  | rd (id : Nat) (k : Option Blk → Tr)
  | vc (p : Prop) (k : Tr)
  | cs (z : Int) (n : Nat) (k : Nat → Tr)
  | call (f : FuncId) (args : List AV)
  | panic (v : AV)
  | bad

/-- A check that is decided at once. -/
def chk (b : Bool) (k : Tr) : Tr :=
  match b with
  | true => k
  | false => .bad

def inr (k : IntKind) (n : Int) : Prop :=
  match k with
  | .i8 => -128 ≤ n ∧ n ≤ 127
  | .i16 => -32768 ≤ n ∧ n ≤ 32767
  | .i32 => -2147483648 ≤ n ∧ n ≤ 2147483647
  | .i64 => -9223372036854775808 ≤ n ∧ n ≤ 9223372036854775807
  | .u8 => 0 ≤ n ∧ n ≤ 255
  | .u16 => 0 ≤ n ∧ n ≤ 65535
  | .u32 => 0 ≤ n ∧ n ≤ 4294967295
  | .u64 => 0 ≤ n ∧ n ≤ 18446744073709551615
theorem inr_iff (k : IntKind) (n : Int) : inr k n ↔ k.min ≤ n ∧ n ≤ k.max := by cases k <;> exact Iff.rfl
def umax : IntKind → Nat
  | .u8 => 255
  | .u16 => 65535
  | .u32 => 4294967295
  | .u64 => 18446744073709551615
  | _ => 0

def isU : IntKind → Bool
  | .u8 | .u16 | .u32 | .u64 => true
  | _ => false

def ikEq : IntKind → IntKind → Bool
  | .i8, .i8 | .i16, .i16 | .i32, .i32 | .i64, .i64 | .u8, .u8 | .u16, .u16 | .u32, .u32 | .u64, .u64 => true
  | _, _ => false

def nrm : AV → AV
  | .tt => .val (.bool true)
  | .ff => .val (.bool false)
  | v => v

def cst : Value → AV
  | .bool true => .tt
  | .bool false => .ff
  | .int .u8 (.ofNat n) => .un .u8 n
  | .int .u16 (.ofNat n) => .un .u16 n
  | .int .u32 (.ofNat n) => .un .u32 n
  | .int .u64 (.ofNat n) => .un .u64 n
  | v => .val v

def ev (s : List (Nat × AV)) : Operand → AV
  | .tmp t => look t s
  | .const v => cst v
  | .global _ => .junk
  | .func f => .clo (.func f) [] []

/-- A nil slice, with its type. -/
def fixNil (E : Env) (T : TypeId) : AV → AV
  | .val (.slice .none 0 0) => match (ti (ti T E).el E).ty with
    | some t => .nil t
    | .none => .val (.slice .none 0 0)
  | v => v

def Ty.beq : Ty → Ty → Bool
  | .i .i8, .i .i8 | .i .i16, .i .i16 | .i .i32, .i .i32 | .i .i64, .i .i64 | .i .u8, .i .u8 | .i .u16, .i .u16 | .i .u32, .i .u32 | .i .u64, .i .u64 => true
  | .b, .b => true
  | .sl t, .sl u => t.beq u
  | .pr x1 x2, .pr y1 y2 => match x1.beq y1 with
    | true => x2.beq y2
    | false => false
  | _, _ => false

theorem Ty.eq_of_beq : ∀ {t u : Ty}, t.beq u = true → t = u
  | .i k, .i l, h => by cases k <;> cases l <;> simp_all [Ty.beq]
  | .b, .b, _ => rfl
  | .sl t, .sl u, h => by rw [Ty.eq_of_beq (t := t) (u := u) (by simpa [Ty.beq] using h)]
  | .pr x1 x2, .pr y1 y2, h => by
    simp only [Ty.beq] at h
    cases hx : x1.beq y1 with
    | false => simp [hx] at h
    | true => rw [hx] at h; rw [Ty.eq_of_beq hx, Ty.eq_of_beq (t := x2) (u := y2) h]
  | .i _, .b, h | .i _, .sl _, h | .i _, .pr _ _, h | .b, .i _, h | .b, .sl _, h | .b, .pr _ _, h | .sl _, .i _, h | .sl _, .b, h | .sl _, .pr _ _, h | .pr _ _, .i _, h | .pr _ _, .b, h | .pr _ _, .sl _, h => by
    simp [Ty.beq] at h

def asTyGo {t u : Ty} (h : u = t) (xs : List (D u)) (k : List (D t) → Tr) : Tr :=
  Eq.rec (motive := fun t _ => (List (D t) → Tr) → Tr) (fun k => k xs) h k

/-- Data of one type, taken as data of another that is the same. -/
def asTy (t u : Ty) (xs : List (D u)) (k : List (D t) → Tr) : Tr :=
  match h : u.beq t with
  | true => asTyGo (Ty.eq_of_beq h) xs k
  | false => .bad

def forceT (n : Nat) (k : Nat → Tr) : Tr :=
  match n with
  | 0 => k 0
  | m + 1 => k (m + 1)

def toDi (kd : IntKind) (l : List AV) (k : D (.i kd) → Org → List Nat → List AV → Tr) : Tr :=
  match kd, l, k with
  | .u8, .un .u8 n :: r, k => k n .fr [] r
  | .u16, .un .u16 n :: r, k => k n .fr [] r
  | .u32, .un .u32 n :: r, k => k n .fr [] r
  | .u64, .un .u64 n :: r, k => k n .fr [] r
  | .i8, .val (.int .i8 n) :: r, k => k n .fr [] r
  | .i16, .val (.int .i16 n) :: r, k => k n .fr [] r
  | .i32, .val (.int .i32 n) :: r, k => k n .fr [] r
  | .i64, .val (.int .i64 n) :: r, k => k n .fr [] r
  | _, _, _ => .bad

def toDb (l : List AV) (k : Bool → Org → List Nat → List AV → Tr) : Tr :=
  match l with
  | .val (.bool x) :: r => k x .fr [] r
  | .tt :: r => k true .fr [] r
  | .ff :: r => k false .fr [] r
  | _ => .bad

def toDsl (m : Nat) (t : Ty) (l : List AV) (k : List (D t) → Org → List Nat → List AV → Tr) : Tr :=
  match l with
  | .nil _ :: r => k [] .fr [] r
  | .val (.slice .none 0 0) :: r => k [] .fr [] r
  | .dat o u xs :: r => asTy t u xs fun ys => k ys o [] r
  | .own id :: r => chk (Nat.ble m id) (.rd id fun
    | some (.arr o u xs) => asTy t u xs fun ys => k ys o [id] r
    | some (.deep u xs) => asTy t u xs fun ys => k ys .fr [id] r
    | _ => .bad)
  | _ => .bad

/-- Cells as a datum: the datum, where its memory may lie, which blocks of one's own it takes up, and the cells that are left. -/
def toD (m : Nat) : (t : Ty) → List AV → (D t → Org → List Nat → List AV → Tr) → Tr
  | .i kd, l, k => toDi kd l k
  | .b, l, k => toDb l k
  | .sl t, l, k => toDsl m t l k
  | .pr x y, l, k => toD m x l fun d o ids r => toD m y r fun e p ids' r' => k (d, e) (o.join p) (ids ++ ids') r'

def kills (l : List Nat) (hs : List (Nat × Option Blk)) : List (Nat × Option Blk) :=
  match l with
  | [] => hs
  | i :: r => (i, .none) :: kills r hs

def avCells : AV → List AV
  | .agg l => l
  | .tt => [.val (.bool true)]
  | .ff => [.val (.bool false)]
  | v => [v]

/-- Values, each as a datum. -/
def toDs (m : Nat) (t : Ty) : List AV → (List (D t) → Org → List Nat → Tr) → Tr
  | [], k => k [] .fr []
  | c :: cs, k => toD m t (avCells c) fun
    | d, o, ids, [] => toDs m t cs fun ds p ids' => k (d :: ds) (o.join p) (ids ++ ids')
    | _, _, _, _ => .bad

/-- A slice as rows of one's own that may be mutated later. -/
def toOsl (m : Nat) (t : Ty) (l : List AV) (k : List (D t) → List Nat → List AV → Tr) : Tr :=
  match l with
  | .nil _ :: r => k [] [] r
  | .val (.slice .none 0 0) :: r => k [] [] r
  | .own id :: r => chk (Nat.ble m id) (.rd id fun
    | some (.arr _ u xs) => chk (!hasSl u) (asTy t u xs fun ys => k ys [id] r)
    | some (.deep u xs) => asTy t u xs fun ys => k ys [id] r
    | _ => .bad)
  | .sl id lo len :: r => chk (Nat.ble m id) (.rd id fun
    | some (.arr _ u xs) => chk (!hasSl u) (asTy t u xs fun ys => k ((ys.drop lo).take len) [id] r)
    | some (.deep u xs) => asTy t u xs fun ys => k ((ys.drop lo).take len) [id] r
    | _ => .bad)
  | _ => .bad

/-- Cells as a datum all of whose slices are one's own. -/
def toO (m : Nat) : (t : Ty) → List AV → (D t → List Nat → List AV → Tr) → Tr
  | .i kd, l, k => toDi kd l fun d _ ids r => k d ids r
  | .b, l, k => toDb l fun d _ ids r => k d ids r
  | .sl t, l, k => toOsl m t l k
  | .pr x y, l, k => toO m x l fun d ids r => toO m y r fun e ids' r' => k (d, e) (ids ++ ids') r'

def toOs (m : Nat) (t : Ty) : List AV → (List (D t) → List Nat → Tr) → Tr
  | [], k => k [] []
  | c :: cs, k => toO m t (avCells c) fun
    | d, ids, [] => toOs m t cs fun ds ids' => k (d :: ds) (ids ++ ids')
    | _, _, _ => .bad

def nodup : List Nat → Bool
  | [] => true
  | x :: r => !(r.any (Nat.beq x)) && nodup r

/-- The cells of a datum of one's own: nothing is said of its slices. -/
def cellsX : (t : Ty) → D t → List AV
  | .i kd, n => cellsD .fr (.i kd) n
  | .b, x => cellsD .fr .b x
  | .sl _, _ => [.junk]
  | .pr x y, p => cellsX x p.1 ++ cellsX y p.2

/-- A number or a Bool of a datum, set. -/
def putSc : (t : Ty) → D t → Nat → AV → (D t → Tr) → Tr
  | .i kd, _, 0, v, k => toDi kd [v] fun d _ _ _ => k d
  | .b, _, 0, v, k => toDb [v] fun d _ _ _ => k d
  | .pr x y, p, n, v, k => match Nat.blt n (sz x) with
    | true => putSc x p.1 n v fun a => k (a, p.2)
    | false => putSc y p.2 (n - sz x) v fun b => k (p.1, b)
  | _, _, _, _, _ => .bad

/-- The rows of a block, whoever they belong to. -/
def rowsOf (b : Option Blk) (k : (t : Ty) → List (D t) → Tr) : Tr :=
  match b with
  | some (.arr _ t xs) => k t xs
  | some (.deep t xs) => k t xs
  | some (.seg t xs _ _) => k t xs
  | _ => .bad

/-- Whether this stands for a value of one cell. -/
def one : AV → Bool
  | .val (.agg _) => false
  | .val (.tuple _) => false
  | .junk => false
  | .agg _ => false
  | .tup _ => false
  | .av _ _ _ => false
  | _ => true

def ones : List AV → Bool
  | [] => true
  | x :: r => match one x with
    | true => ones r
    | false => false

def setAt : List AV → Nat → List AV → List AV
  | l, _, [] => l
  | [], _, _ => []
  | _ :: l, 0, c :: cs => c :: setAt l 0 cs
  | x :: l, n + 1, cs => x :: setAt l n cs

def nth : List AV → Nat → AV
  | [], _ => .junk
  | x :: _, 0 => x
  | _ :: l, n + 1 => nth l n

def cut : List AV → Nat → Nat → List AV
  | _, _, 0 => []
  | [], _, _ => []
  | x :: l, 0, n + 1 => x :: cut l 0 n
  | _ :: l, m + 1, n + 1 => cut l m (n + 1)

/-- The value that lies in cells, at a type. -/
def part (i : TI) (l : List AV) (k : Nat) : AV :=
  match i.agg with
  | true => .agg (cut l k i.sz)
  | false => nth l k

/-- The value that lies in cells, if they are there. -/
def partT (i : TI) (l : List AV) (k : Nat) : Tr :=
  chk i.ok (chk (Nat.ble (k + i.sz) (List.length l)) (.ret (part i l k) []))

/-- A block for a value. -/
def boxT (id : Nat) (v : AV) : Tr :=
  match v with
  | .av o t xs => .ret (.ptr id 0) [(id, some (.arr o t xs))]
  | v => chk (ones (avCells v)) (.ret (.ptr id 0) [(id, some (.cells (avCells v)))])

def asI : AV → (Int → Tr) → Tr
  | .val (.int _ z), k => k z
  | .un _ n, k => k n
  | _, _ => .bad

def arith (op : BinOp) (k : IntKind) (a b : Int) : Tr :=
  match op with
  | .add => .vc (inr k (a + b)) (.ret (.val (.int k (a + b))) [])
  | .sub => .vc (inr k (a - b)) (.ret (.val (.int k (a - b))) [])
  | .mul => .vc (inr k (a * b)) (.ret (.val (.int k (a * b))) [])
  | .quo => .vc (b ≠ 0 ∧ inr k (a.tdiv b)) (.ret (.val (.int k (a.tdiv b))) [])
  | .rem => .vc (b ≠ 0) (.ret (.val (.int k (a.tmod b))) [])
  | .eql => .ret (.val (.bool (a == b))) []
  | .neq => .ret (.val (.bool (a != b))) []
  | .lss => .ret (.val (.bool (decide (a < b)))) []
  | .leq => .ret (.val (.bool (decide (a ≤ b)))) []
  | .gtr => .ret (.val (.bool (decide (b < a)))) []
  | .geq => .ret (.val (.bool (decide (b ≤ a)))) []
  | _ => .bad

def ndiff (a b : Nat) : Nat := a ^^^ (a &&& b)

def uarith (op : BinOp) (k : IntKind) (a b : Nat) : Tr :=
  match op with
  | .add => .vc (a + b ≤ umax k) (.ret (.un k (a + b)) [])
  | .sub => .vc (b ≤ a ∧ a ≤ umax k) (.ret (.un k (a - b)) [])
  | .mul => .ret (.un k (a * b % (umax k + 1))) []
  | .quo => .vc (b ≠ 0 ∧ a ≤ umax k) (.ret (.un k (a / b)) [])
  | .rem => .vc (b ≠ 0) (.ret (.un k (a % b)) [])
  | .and => .vc (a ≤ umax k) (.ret (.un k (a &&& b)) [])
  | .or => .vc (a ≤ umax k ∧ b ≤ umax k) (.ret (.un k (a ||| b)) [])
  | .xor => .vc (a ≤ umax k ∧ b ≤ umax k) (.ret (.un k (a ^^^ b)) [])
  | .andNot => .vc (a ≤ umax k) (.ret (.un k (ndiff a b)) [])
  | .eql => .ret (.val (.bool (a == b))) []
  | .neq => .ret (.val (.bool (a != b))) []
  | .lss => .ret (.val (.bool (decide (a < b)))) []
  | .leq => .ret (.val (.bool (decide (a ≤ b)))) []
  | .gtr => .ret (.val (.bool (decide (b < a)))) []
  | .geq => .ret (.val (.bool (decide (b ≤ a)))) []
  | _ => .bad

def binop (i : TI) (op : BinOp) (x y : AV) : Tr :=
  match nrm x, nrm y with
  | .val (.int k a), .val (.int k' b) => match op with
    | .shl => .bad
    | .shr => .bad
    | op => chk (ikEq k k') (arith op k a b)
  | .un k a, .un k' b => match op with
    | .shl => chk (isU k) (.vc (a <<< b ≤ umax k) (.ret (.un k (a <<< b)) []))
    | .shr => .vc (b ≤ k.bits ∨ a ≤ umax k) (.ret (.un k (a >>> b)) [])
    | op => chk (ikEq k k') (chk (isU k) (uarith op k a b))
  | .un k a, .val (.int _ z) => match op with
    | .shl => chk (isU k) (.vc (0 ≤ z ∧ a <<< z.toNat ≤ umax k) (.ret (.un k (a <<< z.toNat)) []))
    | .shr => .vc (0 ≤ z ∧ (z.toNat ≤ k.bits ∨ a ≤ umax k)) (.ret (.un k (a >>> z.toNat)) [])
    | _ => .bad
  | .val (.bool a), .val (.bool b) => chk (Nat.beq i.kd 1) <| match op with
    | .eql => .ret (.val (.bool (a == b))) []
    | .neq => .ret (.val (.bool (a != b))) []
    | _ => .bad
  | .nil _, .val (.slice .none 0 0) => chk (Nat.beq i.kd 3) <| match op with
    | .eql => .ret .tt []
    | .neq => .ret .ff []
    | _ => .bad
  | .dat _ _ xs, .val (.slice .none 0 0) => chk (Nat.beq i.kd 3) <| match op with
    | .eql => .vc (xs ≠ []) (.ret .ff [])
    | .neq => .vc (xs ≠ []) (.ret .tt [])
    | _ => .bad
  | .val (.slice (some _) _ _), .val (.slice .none 0 0) => chk (Nat.beq i.kd 3) <| match op with
    | .eql => .ret .ff []
    | .neq => .ret .tt []
    | _ => .bad
  | _, _ => .bad

/-- A test against nil, of interfaces and of pointers. -/
def isNil (op : BinOp) (i : TI) (v : Value) (x : AV) : Tr :=
  match v, x with
  | .nilIface, .ifc _ _ => chk (Nat.beq i.kd 9) <| match op with
    | .eql => .ret .ff []
    | .neq => .ret .tt []
    | _ => .bad
  | .nilIface, .val .nilIface => chk (Nat.beq i.kd 9) <| match op with
    | .eql => .ret .tt []
    | .neq => .ret .ff []
    | _ => .bad
  | .pointer none, .val (.pointer none) => chk (Nat.beq i.kd 6) <| match op with
    | .eql => .ret .tt []
    | .neq => .ret .ff []
    | _ => .bad
  | .pointer none, .ptr _ _ => chk (Nat.beq i.kd 6) <| match op with
    | .eql => .ret .ff []
    | .neq => .ret .tt []
    | _ => .bad
  | .pointer none, .ip _ _ _ => chk (Nat.beq i.kd 6) <| match op with
    | .eql => .ret .ff []
    | .neq => .ret .tt []
    | _ => .bad
  | _, _ => .bad

def conv (dst : TI) (x : AV) : Tr :=
  match dst.ik, x with
  | some .u8, .val (.int _ z) => .vc (0 ≤ z ∧ z ≤ 255) (.ret (.un .u8 z.toNat) [])
  | some .u16, .val (.int _ z) => .vc (0 ≤ z ∧ z ≤ 65535) (.ret (.un .u16 z.toNat) [])
  | some .u32, .val (.int _ z) => .vc (0 ≤ z ∧ z ≤ 4294967295) (.ret (.un .u32 z.toNat) [])
  | some .u64, .val (.int _ z) => .vc (0 ≤ z ∧ z ≤ 18446744073709551615) (.ret (.un .u64 z.toNat) [])
  | some k, .val (.int _ z) => .vc (inr k z) (.ret (.val (.int k z)) [])
  | some .u8, .un _ n => .vc (n ≤ 255) (.ret (.un .u8 n) [])
  | some .u16, .un _ n => .vc (n ≤ 65535) (.ret (.un .u16 n) [])
  | some .u32, .un _ n => .vc (n ≤ 4294967295) (.ret (.un .u32 n) [])
  | some .u64, .un _ n => .vc (n ≤ 18446744073709551615) (.ret (.un .u64 n) [])
  | some k, .un _ n => .vc (inr k n) (.ret (.val (.int k n)) [])
  | _, _ => .bad

def load (i : TI) (p : AV) : Tr :=
  chk i.ok <| match p with
  | .ptr id off => .rd id fun
    | some (.cells l) => partT i l off
    | some (.arr o t xs) => match off, i.agg with
      | 0, true => .vc (xs.length * sz t = i.sz) (.ret (.av o t xs) [])
      | _, _ => .bad
    | _ => .bad
  | .pa id j k => .rd id fun
    | some (.arr o t xs) => .vc (j < xs.length) (partT i (cellsD o t (xs.getD j (dz t))) k)
    | some (.deep t xs) => .vc (j < xs.length) (partT i (cellsX t (xs.getD j (dz t))) k)
    | some (.seg _ _ q row) => .vc (j = q) (partT i row k)
    | _ => .bad
  | .ip _ l k => partT i l k
  | _ => .bad

def rdI (kd : IntKind) (x : AV) : Option (D (.i kd)) :=
  match kd, x with
  | .u8, .un .u8 n => some n
  | .u16, .un .u16 n => some n
  | .u32, .un .u32 n => some n
  | .u64, .un .u64 n => some n
  | .i8, .val (.int .i8 n) => some n
  | .i16, .val (.int .i16 n) => some n
  | .i32, .val (.int .i32 n) => some n
  | .i64, .val (.int .i64 n) => some n
  | _, _ => none

def rdIs (kd : IntKind) : List AV → Option (List (D (.i kd)))
  | [] => some []
  | x :: r => match rdI kd x with
    | some d => match rdIs kd r with
      | some l => some (d :: l)
      | none => none
    | none => none

/-- The cells of an array of integers, as its elements. -/
def asAv (t : Ty) (v : AV) : AV :=
  match v with
  | .agg cs => match t with
    | .i kd => match rdIs kd cs with
      | some ys => .av .fr (.i kd) ys
      | none => v
    | _ => v
  | _ => v

def store (m : Nat) (i : TI) (p v : AV) : Tr :=
  chk i.ok <| match p with
  | .ptr id off => .rd id fun
    | some (.cells l) => chk (ones (avCells v)) <| chk (Nat.beq (List.length (avCells v)) i.sz) <| chk (Nat.ble (off + i.sz) (List.length l)) (.ret .junk [(id, some (.cells (setAt l off (avCells v))))])
    | some (.arr _ t xs) => match off, asAv t v with
      | 0, .av o u ys => asTy t u ys fun ys => .vc (ys.length = xs.length ∧ xs.length * sz t = i.sz) (.ret .junk [(id, some (.arr o t ys))])
      | _, _ => .bad
    | _ => .bad
  | .pa id j k => .rd id fun
    | some (.arr o t xs) => chk (ones (avCells v)) <| chk (Nat.beq (List.length (avCells v)) i.sz) <| chk (Nat.ble (k + i.sz) (sz t)) <| .vc (j < xs.length) (toD m t (setAt (cellsD o t (xs.getD j (dz t))) k (avCells v)) fun
      | d, p, ids, [] => chk (!(ids.any (Nat.beq id))) (.ret .junk (kills ids [(id, some (.arr (o.join p) t (xs.set j d)))]))
      | _, _, _, _ => .bad)
    | some (.deep t xs) => chk (one v) <| chk (Nat.beq 1 i.sz) <| .vc (j < xs.length) (putSc t (xs.getD j (dz t)) k v fun d => .ret .junk [(id, some (.deep t (xs.set j d)))])
    | some (.seg t xs q row) => chk (ones (avCells v)) <| chk (Nat.beq (List.length (avCells v)) i.sz) <| chk (Nat.ble (k + i.sz) (sz t)) <| .vc (j = q) (.ret .junk [(id, some (.seg t xs q (setAt row k (avCells v))))])
    | _ => .bad
  | _ => .bad

/-- The rows that a slice holds. -/
def rows (x : AV) (k : (o : Org) → (t : Ty) → List (D t) → Tr) : Tr :=
  match x with
  | .nil t => k .fr t []
  | .dat o t xs => k o t xs
  | .own id => .rd id fun
    | some (.arr o t xs) => k o t xs
    | _ => .bad
  | .sl id lo len => .rd id fun
    | some (.arr o t xs) => k o t ((xs.drop lo).take len)
    | _ => .bad
  | _ => .bad

def lenOf (x : AV) : Tr :=
  match x with
  | .nil _ => .ret (.val (.int .i64 0)) []
  | .dat _ _ xs => .ret (.val (.int .i64 xs.length)) []
  | .own id => .rd id fun b => rowsOf b fun _ xs => .ret (.val (.int .i64 xs.length)) []
  | .sl _ _ len => .ret (.val (.int .i64 len)) []
  | _ => .bad

/-- The rows to be appended to 's': also those of an empty slice. -/
def rowsA (s x : AV) (k : (o : Org) → (t : Ty) → List (D t) → Tr) : Tr :=
  match x with
  | .val (.slice _ 0 _) => match s with
    | .nil t => k .fr t []
    | .own j => .rd j fun
      | some (.arr _ t _) => k .fr t []
      | _ => .bad
    | _ => .bad
  | x => rows x k

/-- The builtin copy. -/
def copyT (i : TI) (d x : AV) : Tr :=
  rows x fun p u ys => chk (Nat.beq (sz u) i.sz) <| match d with
    | .own j => .rd j fun
      | some (.arr o t xs) => asTy t u ys fun ys => .ret (.val (.int .i64 ((min ys.length xs.length : Nat) : Int))) [(j, some (.arr (o.join p) t (ys.take xs.length ++ xs.drop (min ys.length xs.length))))]
      | _ => .bad
    | .sl j lo len => .rd j fun
      | some (.arr o t xs) => asTy t u ys fun ys => .ret (.val (.int .i64 ((min ys.length len : Nat) : Int))) [(j, some (.arr (o.join p) t (xs.take lo ++ ys.take len ++ xs.drop (lo + min ys.length len))))]
      | _ => .bad
    | _ => .bad

def appendA (m : Nat) (i : TI) (id : Nat) (s x : AV) : Tr :=
  rowsA s x fun p u ys => chk (Nat.beq (sz u) i.sz) <| chk (Nat.ble 1 i.bytes) <| forceT i.bytes fun bytes => match s with
    | .nil t => asTy t u ys fun ys => .vc (ys.length * bytes ≤ 70368744177664) (.ret (.own id) [(id, some (.arr p t ys))])
    | .own j => chk (Nat.ble m j) <| .rd j fun
      | some (.arr o t xs) => asTy t u ys fun ys => .vc ((xs.length + ys.length) * bytes ≤ 70368744177664) (.ret (.own id) [(id, some (.arr (o.join p) t (xs ++ ys))), (j, .none)])
      | _ => .bad
    | _ => .bad

/-- Rows of one's own, behind rows of one's own. -/
def append (m : Nat) (i : TI) (id : Nat) (s x : AV) : Tr :=
  match s, x with
  | .nil t, .own q => .rd q fun
    | some (.deep u ys) => chk (Nat.ble m q) <| chk (Nat.beq (sz u) i.sz) <| chk (Nat.ble 1 i.bytes) <| forceT i.bytes fun bytes => asTy t u ys fun ys => .vc (ys.length * bytes ≤ 70368744177664) (.ret (.own id) [(id, some (.deep t ys)), (q, .none)])
    | _ => appendA m i id s x
  | .own j, .own q => .rd j fun
    | some (.deep t xs) => .rd q fun
      | some (.deep u ys) => chk (Nat.ble m j) <| chk (Nat.ble m q) <| chk (!Nat.beq j q) <| chk (Nat.beq (sz u) i.sz) <| chk (Nat.ble 1 i.bytes) <| forceT i.bytes fun bytes => asTy t u ys fun ys =>
        .vc ((xs.length + ys.length) * bytes ≤ 70368744177664) (.ret (.own id) [(id, some (.deep t (xs ++ ys))), (j, .none), (q, .none)])
      | _ => .bad
    | _ => appendA m i id s x
  | _, _ => appendA m i id s x

def opnds : Op → List Operand
  | .alloc _ | .ready _ | .waits _ => []
  | .move x | .assign x | .box _ x | .load _ x | .nilCheck x | .unOp _ _ x | .convert _ _ x | .sliceToArrayPointer _ x | .makeInterface _ x
  | .makeChan _ x | .fieldAddr _ x _ | .field _ x _ | .range _ x | .next x _ | .entry x | .typeAssert x _ _ _ | .extract x _ | .panic x | .recv _ x _ => [x]
  | .pick c a b => [c, a, b]
  | .build _ ps | .buildSlice _ _ ps => ps.toList.map (·.2)
  | .store _ a v | .binOp _ _ a v _ | .makeSlice _ a v | .indexAddr _ a v | .index _ a v | .lookup _ a v _ | .mapEntry _ a v | .send a v => [a, v]
  | .makeFunc _ first captured => first.toList ++ captured.toList
  | .makeMap _ r => r.toList
  | .slice _ x l h m => x :: (l.toList ++ h.toList ++ m.toList)
  | .mapUpdate _ m k v | .entryStore _ m k v | .insert _ m k v => [m, k, v]
  | .call c | .go c | .defer c => (match c.callee with | .value f => [f] | .invoke r _ => [r] | .builtin _ => []) ++ c.args.toList
  | .select .. => []

/-- The parts of a literal, filled in. -/
def fillS (flds : List (Nat × TypeId)) (E : Env) : List (Nat × Operand) → List AV → List AV → List AV
  | (i, _) :: ps, v :: vs, l => match flds[i]? with
    | some (off, T) => fillS flds E ps vs (setAt l off (avCells (fixNil E T v)))
    | .none => fillS flds E ps vs l
  | _, _, l => l

/-- Whether a literal's parts are all there, in their order. -/
def dense : List (Nat × Operand) → Nat → Nat → Bool
  | [], i, n => Nat.beq i n
  | (j, _) :: r, i, n => match Nat.beq j i with
    | true => dense r (i + 1) n
    | false => false

def allLen (n : Nat) : List AV → Bool
  | [] => true
  | x :: r => match Nat.beq (List.length (avCells x)) n with
    | true => match ones (avCells x) with
      | true => allLen n r
      | false => false
    | false => false

def catCells : List AV → List AV
  | [] => []
  | x :: r => avCells x ++ catCells r

def fixNils (E : Env) (T : TypeId) : List AV → List AV
  | [] => []
  | x :: r => fixNil E T x :: fixNils E T r

/-- Whether each part of a literal has its field's size. -/
def fillOK (tot : Nat) (flds : List (Nat × TypeId)) (E : Env) : List (Nat × Operand) → List AV → Bool
  | (i, _) :: ps, v :: vs => match flds[i]? with
    | some (off, T) => match Nat.beq (List.length (avCells v)) (ti T E).sz with
      | true => match ones (avCells v) with
        | true => match Nat.ble (off + (ti T E).sz) tot with
          | true => fillOK tot flds E ps vs
          | false => false
        | false => false
      | false => false
    | .none => false
  | [], [] => true
  | _, _ => false

def slice3 (t : Ty) (xs : List (D t)) (lo hi : Option AV) (k : List (D t) → Nat → Nat → Tr) : Tr :=
  match lo, hi with
  | .none, .none => k xs 0 xs.length
  | .none, some h => asI h fun h => .vc (0 ≤ h ∧ h ≤ xs.length) (k (xs.take h.toNat) 0 h.toNat)
  | some l, .none => asI l fun l => .vc (0 ≤ l ∧ l ≤ xs.length) (k (xs.drop l.toNat) l.toNat (xs.length - l.toNat))
  | some l, some h => asI l fun l => asI h fun h => .vc (0 ≤ l ∧ l ≤ h ∧ h ≤ xs.length) (k ((xs.take h.toNat).drop l.toNat) l.toNat (h.toNat - l.toNat))

def sliceOp (E : Env) (T : TypeId) (x : AV) (lo hi : Option AV) : Tr :=
  chk (Nat.beq (ti T E).kd 3) <| match x with
  | .dat o t xs => chk (Nat.beq (sz t) (ti (ti T E).el E).sz) (slice3 t xs lo hi fun ys _ _ => .ret (.dat o t ys) [])
  | .own id => .rd id fun b => rowsOf b fun t xs => chk (Nat.beq (sz t) (ti (ti T E).el E).sz) (slice3 t xs lo hi fun _ l n => .ret (.sl id l n) [])
  | _ => .bad

/-- A slice of one's own, cut at its head's place and at a capacity: the old one is not used any more. -/
def slice3x (m : Nat) (E : Env) (T : TypeId) (id : Nat) (x h mx : AV) : Tr :=
  chk (Nat.beq (ti T E).kd 3) <| match x with
  | .own j => chk (Nat.ble m j) <| .rd j fun
    | some (.arr o t xs) => chk (Nat.beq (sz t) (ti (ti T E).el E).sz) <| asI h fun h => asI mx fun mx => .vc (0 ≤ h ∧ h ≤ mx ∧ mx ≤ xs.length ∧ 1 ≤ mx) (.ret (.own id) [(id, some (.arr o t (xs.take h.toNat))), (j, .none)])
    | _ => .bad
  | _ => .bad

def idxAddr (E : Env) (T : TypeId) (x i : AV) : Tr :=
  asI i fun z => match x with
  | .dat o t xs => chk (Nat.beq (ti T E).kd 3) <| chk (Nat.beq (sz t) (ti (ti T E).el E).sz) (.vc (0 ≤ z ∧ z < xs.length) (.ret (.ip o (cellsD o t (xs.getD z.toNat (dz t))) 0) []))
  | .own id => .rd id fun b => rowsOf b fun t xs => chk (Nat.beq (ti T E).kd 3) <| chk (Nat.beq (sz t) (ti (ti T E).el E).sz) (.vc (0 ≤ z ∧ z < xs.length) (.ret (.pa id z.toNat 0) []))
  | .sl id lo len => .rd id fun b => rowsOf b fun t _ => chk (Nat.beq (ti T E).kd 3) <| chk (Nat.beq (sz t) (ti (ti T E).el E).sz) (.vc (0 ≤ z ∧ z < len) (.ret (.pa id (lo + z.toNat) 0) []))
  | .ptr id off => .rd id fun
    | some (.arr _ t xs) => match off with
      | 0 => chk (Nat.beq (sz t) (ti (ti T E).el E).sz) (.vc (0 ≤ z ∧ z < xs.length ∧ xs.length = (ti T E).len) (.ret (.pa id z.toNat 0) []))
      | _ => .bad
    | some (.cells _) => chk (ti (ti T E).el E).ok (.cs z (ti T E).len fun n => .ret (.ptr id (off + n * (ti (ti T E).el E).sz)) [])
    | _ => .bad
  | _ => .bad

def fldAddr (E : Env) (T : TypeId) (p : AV) (f : Nat) : Tr :=
  match (ti T E).flds[f]? with
  | some (o, _) => match p with
    | .ptr id off => .ret (.ptr id (off + o)) []
    | .pa id j k => .ret (.pa id j (k + o)) []
    | .ip w cs k => .ret (.ip w cs (k + o)) []
    | _ => .bad
  | .none => .bad

def minmax (op : Builtin) (x y : AV) : Tr :=
  match op, x, y with
  | .min, .val (.int k a), .val (.int _ b) => .ret (.val (.int k (min a b))) []
  | .max, .val (.int k a), .val (.int _ b) => .ret (.val (.int k (max a b))) []
  | .min, .un k a, .un _ b => .ret (.un k (min a b)) []
  | .max, .un k a, .un _ b => .ret (.un k (max a b)) []
  | _, _, _ => .bad

def pnc (x : AV) : Tr :=
  match x with
  | .ifc t x => .panic (.ifc t x)
  | _ => .bad

def stepB (m : Nat) (E : Env) (id : Nat) (b : Builtin) (ats : List TypeId) (l : List AV) : Tr :=
  match b, ats, l with
  | .len, [U], [x] => chk (Nat.beq (ti U E).kd 3) (lenOf x)
  | .append, [U, V], [s, x] => chk (Nat.beq (ti U E).kd 3) <| chk (Nat.beq (ti V E).kd 3) <| append m (ti (ti U E).el E) id s x
  | .copy, [U, V], [d, x] => chk (Nat.beq (ti U E).kd 3) <| chk (Nat.beq (ti V E).kd 3) <| copyT (ti (ti U E).el E) d x
  | .min, _, [x, y] => minmax .min x y
  | .max, _, [x, y] => minmax .max x y
  | .panic, _, [x] => pnc x
  | _, _, _ => .bad

def binopW (i : TI) (op : BinOp) (x y : AV) : Tr :=
  match op with
  | .add => match nrm x, nrm y with
    | .val (.int k a), .val (.int k' b) => chk (ikEq k k') (.ret (.val (.int k (k.wrap (a + b)))) [])
    | _, _ => .bad
  | op => binop i op x y

def stepF (m : Nat) (E : Env) (id : Nat) (o : Op) (T : TypeId) (l : List AV) : Tr :=
  match o, l with
  | .move _, [x] => .ret (fixNil E T x) []
  | .assign _, [x] => .ret (fixNil E T x) []
  | .pick .., [c, a, b] => match c with
    | .tt => .ret a []
    | .ff => .ret b []
    | _ => .bad
  | .alloc U, [] => chk (ti U E).ok <| match (ti (ti U E).el E).ty, (ti U E).len with
    | some t, n + 1 => .ret (.ptr id 0) [(id, some (.arr .fr t (List.replicate (n + 1) (dz t))))]
    | _, _ => .ret (.ptr id 0) [(id, some (.cells (ti U E).zero))]
  | .box U _, [x] => boxT id (fixNil E U x)
  | .build U ps, l => chk (ti U E).ok <| match (ti U E).len with
    | 0 => chk (Nat.beq (ti U E).kd 4) <| chk (fillOK (ti U E).sz (ti U E).flds E ps.toList l) (.ret (.agg (fillS (ti U E).flds E ps.toList l (ti U E).zero)) [])
    | n + 1 => chk (dense ps.toList 0 (n + 1)) <| chk (ti (ti U E).el E).ok <| chk (allLen (ti (ti U E).el E).sz l) <| match (ti (ti U E).el E).ty with
      | some t => toDs m t l fun ds o ids => .ret (.av o t ds) (kills ids [])
      | .none => .ret (.agg (catCells l)) []
  | .buildSlice U n ps, l => chk (Nat.beq (ti U E).kd 3) <| chk (dense ps.toList 0 n) <| chk (allLen (ti (ti U E).el E).sz l) <| chk (Nat.ble (n * (ti (ti U E).el E).sz) 4096) <| match (ti (ti U E).el E).ty with
    | some t => match (ti U E).dp with
      | true => match hasSl t with
        | true => toOs m t l fun ds ids => chk (nodup ids) (.ret (.own id) ((id, some (.deep t ds)) :: kills ids []))
        | false => toDs m t l fun ds o ids => .ret (.own id) ((id, some (.arr o t ds)) :: kills ids [])
      | false => toDs m t l fun ds o ids => .ret (.own id) ((id, some (.arr o t ds)) :: kills ids [])
    | .none => .bad
  | .load U _, [p] => load (ti U E) p
  | .store U _ _, [p, v] => store m (ti U E) p (fixNil E U v)
  | .nilCheck _, [p] => match p with
    | .ptr id off => .ret (.ptr id off) []
    | .pa id j k => .ret (.pa id j k) []
    | .ip o cs k => .ret (.ip o cs k) []
    | _ => .bad
  | .binOp op U _ oy _, [x, y] => match oy with
    | .const .nilIface => isNil op (ti U E) .nilIface x
    | .const (.pointer none) => isNil op (ti U E) (.pointer none) x
    | _ => match wrE E with
      | true => binopW (ti U E) op x y
      | false => binop (ti U E) op x y
  | .unOp op _ _, [x] => match op, nrm x with
    | .not, .val (.bool b) => .ret (.val (.bool (!b))) []
    | .neg, .val (.int k a) => .vc (inr k (-a)) (.ret (.val (.int k (-a))) [])
    | _, _ => .bad
  | .convert V U _, [x] => chk (ti V E).ok (conv (ti U E) x)
  | .makeInterface U _, [x] => chk (ti U E).ok (chk (!Nat.beq (ti U E).kd 9) (.ret (.ifc U x) []))
  | .makeFunc fn f _, l => .ret (.clo fn (l.take f.size) (l.drop f.size)) []
  | .makeSlice U _ _, [n, c] => chk (Nat.beq (ti U E).kd 3) <| match (ti (ti U E).el E).ty with
    | some t => asI n fun n => asI c fun c => forceT (ti (ti U E).el E).bytes fun bytes => .vc (0 ≤ n ∧ n ≤ c ∧ c * bytes ≤ 70368744177664 ∧ c ≤ 70368744177664) (match (ti U E).dp with
      | true => match hasSl t with
        | true => .ret (.own id) [(id, some (.deep t (List.replicate n.toNat (dz t))))]
        | false => .ret (.own id) [(id, some (.arr .fr t (List.replicate n.toNat (dz t))))]
      | false => .ret (.own id) [(id, some (.arr .fr t (List.replicate n.toNat (dz t))))])
    | .none => .bad
  | .slice U _ lo hi .none, x :: r => match lo, hi, r with
    | .none, .none, [] => sliceOp E U x .none .none
    | some _, .none, [l] => sliceOp E U x (some l) .none
    | .none, some _, [h] => sliceOp E U x .none (some h)
    | some _, some _, [l, h] => sliceOp E U x (some l) (some h)
    | _, _, _ => .bad
  | .slice U _ .none (some _) (some _), [x, h, mx] => slice3x m E U id x h mx
  | .fieldAddr U _ f, [p] => fldAddr E U p f
  | .field U _ f, [x] => match (ti U E).flds[f]?, x with
    | some (o, V), .agg l => partT (ti V E) l o
    | _, _ => .bad
  | .indexAddr U _ _, [x, i] => idxAddr E U x i
  | .index U _ _, [x, i] => asI i fun z => match x with
    | .av o t xs => chk (Nat.beq (sz t) (ti (ti U E).el E).sz) <| .vc (0 ≤ z ∧ z < xs.length ∧ xs.length = (ti U E).len) (partT (ti (ti U E).el E) (cellsD o t (xs.getD z.toNat (dz t))) 0)
    | _ => .bad
  | .extract _ i, [t] => match t with
    | .tup l => chk (Nat.ble (i + 1) (List.length l)) (.ret (nth l i) [])
    | _ => .bad
  | .call c, l => match c.callee with
    | .builtin b => stepB m E id b c.argTypes.toList l
    | .value _ => match l with
      | .clo (.func g) fst cap :: args => chk (Nat.beq (List.length c.argTypes.toList) (List.length args)) <| .call g (fst ++ (List.zipWith (fixNil E) c.argTypes.toList args) ++ cap)
      | _ => .bad
    | _ => .bad
  | .panic _, [x] => pnc x
  | _, _ => .bad

end Go.Fw
namespace Go.Fw
open Go Go.RowKit

inductive Out where
  | ok (v : AV) (hs : List (Nat × Option Blk)) (rd : List Nat)
  | panic (v : AV) (hs : List (Nat × Option Blk)) (rd : List Nat)

def enum : List Blk → Nat → List (Nat × Option Blk)
  | [], _ => []
  | b :: r, i => (i, some b) :: enum r (i + 1)

def preS (hin : List Blk) : St := { n := 0, t := [], h := enum hin 0, nx := hin.length, m := hin.length }
def postS (hin : List Blk) (hs : List (Nat × Option Blk)) : St := { n := 0, t := [], h := hs ++ enum hin 0, nx := hin.length + 16, m := hin.length }
def fnBs (w : World) (A : Nat → Prop) (φ : Ph) (m : Nat) : Bs := { w0 := w, A, B := w.heap.size, Y := fun i b => i < m ∧ φ.own i b, φ0 := φ.f }

/-- Whether a function is entered when it is called. -/
def Enter (P : Program) (f : FuncId) : Prop := ∀ args w, (callFunc f args).run P w = .ok (.enter f args) w

/-- A function's contract: for these arguments, over these blocks that come in, it returns this, and leaves these blocks. -/
def Fn (P : Program) (f : FuncId) (args : List AV) (hin : List Blk) (r : AV) (hs : List (Nat × Option Blk)) : Prop :=
  Enter P f ∧ ∀ (w : World) (A : Nat → Prop) (φ : Ph) (vs : List Value),
    HM (fnBs w A φ hin.length) φ (preS hin) w → RL (cx (fnBs w A φ hin.length) φ (preS hin) w) args vs →
    Calls P f vs.toArray w fun e w' => ∃ v φ', e = .returned v ∧ (∀ i, i < hin.length → φ' i = φ i) ∧
      HM (fnBs w A φ hin.length) φ' (postS hin hs) w' ∧ R (cx (fnBs w A φ hin.length) φ' (postS hin hs) w') r v

/-- A contract that says: it panics. -/
def FnP (P : Program) (f : FuncId) (args : List AV) (hin : List Blk) (r : AV) (hs : List (Nat × Option Blk)) : Prop :=
  Enter P f ∧ ∀ (w : World) (A : Nat → Prop) (φ : Ph) (vs : List Value),
    HM (fnBs w A φ hin.length) φ (preS hin) w → RL (cx (fnBs w A φ hin.length) φ (preS hin) w) args vs →
    Calls P f vs.toArray w fun e w' => ∃ v φ', e = .panicked [{ v, recovered := false }] ∧ (∀ i, i < hin.length → φ' i = φ i) ∧
      HM (fnBs w A φ hin.length) φ' (postS hin hs) w' ∧ R (cx (fnBs w A φ hin.length) φ' (postS hin hs) w') r v

def idx : List Nat → Nat → Nat → Option Nat
  | [], _, _ => none
  | j :: r, id, i => match Nat.beq j id with
    | true => some i
    | false => idx r id (i + 1)

def isTmp : Org → Bool
  | .tmp => true
  | _ => false

mutual
/-- An abstract value as a callee sees it: blocks that are handed over (ρ) renamed, the others read as immutable data; whether nothing was lent; which blocks were looked at. -/
def frz (hp : Nat → Option Blk) (ρ : List Nat) : Nat → AV → Option (AV × Bool × List Nat)
  | 0, _ => none
  | _ + 1, .junk => none
  | _ + 1, .val v => some (.val v, true, [])
  | _ + 1, .un k n => some (.un k n, true, [])
  | _ + 1, .tt => some (.val (.bool true), true, [])
  | _ + 1, .ff => some (.val (.bool false), true, [])
  | _ + 1, .nil t => some (.dat .old t [], true, [])
  | _ + 1, .dat o t xs => some (.dat .old t xs, !isTmp o, [])
  | _ + 1, .av o t xs => some (.av .old t xs, !isTmp o, [])
  | n + 1, .ip o cs k => match frzs hp ρ n cs with
    | some (cs, p, l) => some (.ip .old cs k, p && !isTmp o, l)
    | none => none
  | n + 1, .ptr id off => match idx ρ id 0 with
    | some i => some (.ptr i off, true, [id])
    | none => match hp id with
      | some (.cells cs) => match frzs hp ρ n cs with
        | some (cs, _, l) => some (.ip .old cs off, false, id :: l)
        | none => none
      | _ => none
  | _ + 1, .pa id j k => match idx ρ id 0 with
    | some i => some (.pa i j k, true, [id])
    | none => none
  | _ + 1, .own id => match idx ρ id 0 with
    | some i => some (.own i, true, [id])
    | none => match hp id with
      | some (.arr _ t xs) => some (.dat .old t xs, false, [id])
      | some (.deep t xs) => some (.dat .old t xs, false, [id])
      | _ => none
  | _ + 1, .sl id lo len => match idx ρ id 0 with
    | some i => some (.sl i lo len, true, [id])
    | none => match hp id with
      | some (.arr _ t xs) => some (.dat .old t ((xs.drop lo).take len), false, [id])
      | some (.deep t xs) => some (.dat .old t ((xs.drop lo).take len), false, [id])
      | _ => none
  | n + 1, .agg cs => match frzs hp ρ n cs with
    | some (cs, p, l) => some (.agg cs, p, l)
    | none => none
  | n + 1, .tup cs => match frzs hp ρ n cs with
    | some (cs, p, l) => some (.tup cs, p, l)
    | none => none
  | n + 1, .clo f a b => match frzs hp ρ n a with
    | some (a, p, l) => match frzs hp ρ n b with
      | some (b, q, l') => some (.clo f a b, p && q, l ++ l')
      | none => none
    | none => none
  | n + 1, .ifc t x => match frz hp ρ n x with
    | some (x, p, l) => some (.ifc t x, p, l)
    | none => none
def frzs (hp : Nat → Option Blk) (ρ : List Nat) : Nat → List AV → Option (List AV × Bool × List Nat)
  | 0, _ => none
  | _ + 1, [] => some ([], true, [])
  | n + 1, x :: r => match frz hp ρ n x with
    | some (x, p, l) => match frzs hp ρ n r with
      | some (r, q, l') => some (x :: r, p && q, l ++ l')
      | none => none
    | none => none
end

/-- Nil slices in cells stay what they are. -/
def reNil : List AV → List AV → List AV
  | x :: r, y :: r' => match x with
    | .nil t => .nil t :: reNil r r'
    | _ => y :: reNil r r'
  | _, l => l

def frzB (hp : Nat → Option Blk) (ρ : List Nat) : Blk → Option (Blk × Bool × List Nat)
  | .cells l => match frzs hp ρ 100 l with
    | some (l', p, r) => some (.cells (reNil l l'), p, r)
    | none => none
  | .arr o t xs => some (.arr .old t xs, !isTmp o, [])
  | .deep t xs => some (.deep t xs, true, [])
  | .seg _ _ _ _ => none

def frzH (hp : Nat → Option Blk) (ρ : List Nat) : List Nat → Option (List Blk × Bool × List Nat)
  | [] => some ([], true, [])
  | id :: r => match hp id with
    | some b => match frzB hp ρ b with
      | some (b, p, l) => match frzH hp ρ r with
        | some (bs, q, l') => some (b :: bs, p && q, id :: (l ++ l'))
        | none => none
      | none => none
    | none => none

mutual
def ren (g : Nat → Nat) : AV → AV
  | .ptr id k => .ptr (g id) k
  | .pa id j k => .pa (g id) j k
  | .own id => .own (g id)
  | .sl id lo len => .sl (g id) lo len
  | .ip o cs k => .ip o (rens g cs) k
  | .agg cs => .agg (rens g cs)
  | .tup cs => .tup (rens g cs)
  | .clo f a b => .clo f (rens g a) (rens g b)
  | .ifc t x => .ifc t (ren g x)
  | .junk => .junk
  | .val v => .val v
  | .un k n => .un k n
  | .tt => .tt
  | .ff => .ff
  | .nil t => .nil t
  | .dat o t xs => .dat o t xs
  | .av o t xs => .av o t xs
def rens (g : Nat → Nat) : List AV → List AV
  | [] => []
  | x :: r => ren g x :: rens g r
end

def renB (g : Nat → Nat) : Option Blk → Option Blk
  | some (.cells l) => some (.cells (rens g l))
  | some (.arr o t xs) => some (.arr o t xs)
  | some (.deep t xs) => some (.deep t xs)
  | some (.seg t xs j row) => some (.seg t xs j (rens g row))
  | none => none

def renH (g : Nat → Nat) : List (Nat × Option Blk) → List (Nat × Option Blk)
  | [] => []
  | (i, b) :: r => (g i, renB g b) :: renH g r

/-- Where a block of a callee's lies: one that was handed over, or a new one. -/
def bk : List Nat → Nat → Nat → Nat
  | [], id, i => id + i
  | j :: _, _, 0 => j
  | _ :: r, id, i + 1 => bk r id i

theorem bk_some : ∀ {ρ : List Nat} {id i j : Nat}, ρ[i]? = some j → bk ρ id i = j
  | [], _, _, _, h => by simp at h
  | x :: _, _, 0, j, h => by simpa [bk] using h
  | _ :: r, id, i + 1, j, h => by rw [bk]; exact bk_some (by simpa using h)
theorem bk_new : ∀ {ρ : List Nat} {id i : Nat}, ρ.length ≤ i → bk ρ id i = id + (i - ρ.length)
  | [], _, _, _ => by simp [bk]
  | _ :: _, _, 0, h => by simp at h
  | _ :: r, id, i + 1, h => by rw [bk, bk_new (by simpa using h)]; simp

/-- How many: a number that is there at once. -/
def cnt {α : Type} : List α → Nat
  | [] => 0
  | [_] => 1
  | [_, _] => 2
  | [_, _, _] => 3
  | [_, _, _, _] => 4
  | [_, _, _, _, _] => 5
  | [_, _, _, _, _, _] => 6
  | l => l.length
theorem cnt_eq {α : Type} (l : List α) : cnt l = l.length := by unfold cnt; split <;> rfl

mutual
def noOld : AV → Bool
  | .dat o _ _ => match o with | .fr => true | _ => false
  | .av o _ _ => match o with | .fr => true | _ => false
  | .ip _ _ _ => false
  | .agg cs => noOlds cs
  | .tup cs => noOlds cs
  | .clo _ a b => noOlds a && noOlds b
  | .ifc _ x => noOld x
  | _ => true
def noOlds : List AV → Bool
  | [] => true
  | x :: r => noOld x && noOlds r
end

def noOldH : List (Nat × Option Blk) → Bool
  | [] => true
  | (_, some (.cells l)) :: r => noOlds l && noOldH r
  | (_, some (.arr o _ _)) :: r => (match o with | .fr => true | _ => false) && noOldH r
  | (_, some (.deep _ _)) :: r => noOldH r
  | (_, some (.seg _ _ _ _)) :: _ => false
  | (_, none) :: r => noOldH r

mutual
def noTmp : AV → Bool
  | .dat o _ _ => !isTmp o
  | .av o _ _ => !isTmp o
  | .ip o cs _ => !isTmp o && noTmps cs
  | .agg cs => noTmps cs
  | .tup cs => noTmps cs
  | .clo _ a b => noTmps a && noTmps b
  | .ifc _ x => noTmp x
  | _ => true
def noTmps : List AV → Bool
  | [] => true
  | x :: r => noTmp x && noTmps r
end

def noTmpH : List (Nat × Option Blk) → Bool
  | [] => true
  | (_, some (.cells l)) :: r => noTmps l && noTmpH r
  | (_, some (.arr o _ _)) :: r => !isTmp o && noTmpH r
  | (_, some (.deep _ _)) :: r => noTmpH r
  | (_, some (.seg _ _ _ _)) :: _ => false
  | (_, none) :: r => noTmpH r

def hasKey (n : Nat) : List (Nat × Option Blk) → Bool
  | [] => false
  | (i, _) :: r => Nat.beq i n || hasKey n r

def allIn : Nat → List (Nat × Option Blk) → Bool
  | 0, _ => true
  | n + 1, hs => hasKey n hs && allIn n hs

/-- Rows that came in stay as long as they are. -/
def shapes (hin : List Blk) : List (Nat × Option Blk) → Prop
  | [] => True
  | (i, some (.arr _ t xs)) :: r => (match hin[i]? with
    | some (.arr _ u ys) => t = u ∧ xs.length = ys.length
    | some (.deep u ys) => t = u ∧ xs.length = ys.length
    | some _ => False
    | none => True) ∧ shapes hin r
  | (i, some (.deep t xs)) :: r => (match hin[i]? with
    | some (.arr _ u ys) => t = u ∧ xs.length = ys.length
    | some (.deep u ys) => t = u ∧ xs.length = ys.length
    | some _ => False
    | none => True) ∧ shapes hin r
  | (_, some (.seg _ _ _ _)) :: _ => False
  | _ :: r => shapes hin r

inductive CallK (P : Program) (hp : Nat → Option Blk) (id : Nat) (f : FuncId) (args : List AV) (log : List Nat) (K : Out → Prop) : Prop
  | fn (ρ : List Nat) {args' : List AV} {hin : List Blk} {r : AV} {hs : List (Nat × Option Blk)} {p q : Bool} {l l' : List Nat}
      (hf : Fn P f args' hin r hs) (ha : frzs hp ρ 100 args = some (args', p, l)) (hb : frzH hp ρ ρ = some (hin, q, l'))
      (hn : nodup ρ = true) (ho : (p && q && (noTmp r && noTmpH hs) || noOld r && noOldH hs) = true) (hk : allIn (List.length hin) hs = true) (hs' : shapes hin hs) (k : K (.ok (ren (bk ρ id) r) (renH (bk ρ id) hs) (l ++ (l' ++ log))))
  | pn (ρ : List Nat) {args' : List AV} {hin : List Blk} {r : AV} {hs : List (Nat × Option Blk)} {p q : Bool} {l l' : List Nat}
      (hf : FnP P f args' hin r hs) (ha : frzs hp ρ 100 args = some (args', p, l)) (hb : frzH hp ρ ρ = some (hin, q, l'))
      (hn : nodup ρ = true) (ho : (p && q && (noTmp r && noTmpH hs) || noOld r && noOldH hs) = true) (hk : allIn (List.length hin) hs = true) (hs' : shapes hin hs) (k : K (.panic (ren (bk ρ id) r) (renH (bk ρ id) hs) (l ++ (l' ++ log))))

def allB : Nat → Nat → (Nat → Prop) → Prop
  | _, 0, _ => True
  | i, n + 1, p => p i ∧ allB (i + 1) n p

def Tr.run (P : Program) (hp : Nat → Option Blk) (id : Nat) : Tr → List Nat → (Out → Prop) → Prop
  | .ret v hs, log, K => K (.ok v hs log)
  | .rd i k, log, K => (k (hp i)).run P hp id (i :: log) K
  | .vc p k, log, K => p ∧ k.run P hp id log K
  | .cs z n k, log, K => (0 ≤ z ∧ z < n) ∧ allB 0 n fun i => z = i → (k i).run P hp id log K
  | .call f args, log, K => CallK P hp id f args log K
  | .panic v, log, K => K (.panic v [] log)
  | .bad, _, _ => False

/-- A value brought to its head before it goes on. -/
def force (v : AV) (K : AV → Prop) : Prop :=
  match v with
  | .junk => K .junk
  | .val v => K (.val v)
  | .un k n => K (.un k n)
  | .tt => K .tt
  | .ff => K .ff
  | .nil t => K (.nil t)
  | .dat o t xs => K (.dat o t xs)
  | .av o t xs => K (.av o t xs)
  | .ip o cs k => K (.ip o cs k)
  | .ptr id k => K (.ptr id k)
  | .pa id j k => K (.pa id j k)
  | .own id => K (.own id)
  | .sl id lo len => K (.sl id lo len)
  | .agg cs => K (.agg cs)
  | .tup cs => K (.tup cs)
  | .clo f a b => K (.clo f a b)
  | .ifc t x => K (.ifc t x)

theorem force_iff (v : AV) (K : AV → Prop) : force v K ↔ K v := by cases v <;> exact Iff.rfl

inductive Ex where
  | normal
  | exit (id : Nat)
  | ret
  | panic (v : AV)

def putK (n : Nat) (d : Option Nat) (v : AV) (t : List (Nat × AV)) (K : List (Nat × AV) → Prop) : Prop :=
  match d with
  | some d => match Nat.blt d n with
    | true => K ((d, v) :: t)
    | false => K t
  | none => K t

def forceN (n : Nat) (K : Nat → Prop) : Prop :=
  match n with
  | 0 => K 0
  | k + 1 => K (k + 1)

theorem forceN_iff (n : Nat) (K : Nat → Prop) : forceN n K ↔ K n := by cases n <;> exact Iff.rfl

def appK : List (Nat × Option Blk) → List (Nat × Option Blk) → (List (Nat × Option Blk) → Prop) → Prop
  | [], h, K => K h
  | (i, b) :: r, h, K => appK r h fun h => K ((i, b) :: h)

theorem appK_iff (hs h : List (Nat × Option Blk)) (K : List (Nat × Option Blk) → Prop) : appK hs h K ↔ K (hs ++ h) := by
  induction hs generalizing K with
  | nil => exact Iff.rfl
  | cons x r ih => exact ih _

/-- What is known of a guard's slot. -/
def known (d : Nat) : List (Nat × Bool) → Option Bool
  | [] => none
  | (i, b) :: r => match Nat.beq i d with
    | true => some b
    | false => known d r

/-- A slot is written: what was known of it is not known any more. -/
def forget (d : Option Nat) (kn : List (Nat × Bool)) : List (Nat × Bool) :=
  match d with
  | none => kn
  | some d => match kn with
    | [] => []
    | (i, b) :: r => match Nat.beq i d with
      | true => forget (some d) r
      | false => (i, b) :: forget (some d) r

def dstOf (ops : List Oper) (j : Nat) : Option Nat := (ops[j]?).bind (·.dst)

/-- Whether a guard holds: decided, or both ways. -/
def guardK (ops : List Oper) (t : List (Nat × AV)) (kn : List (Nat × Bool)) (g : Option (Nat × Bool)) (K : Bool → List (Nat × Bool) → Prop) : Prop :=
  match g with
  | none => K true kn
  | some (j, want) => match dstOf ops j with
    | none => False
    | some d => match known d kn with
      | some b => match b, want with
        | true, true => K true kn
        | false, false => K true kn
        | _, _ => K false kn
      | none => match look d t with
        | .tt => match want with
          | true => K true kn
          | false => K false kn
        | .ff => match want with
          | true => K false kn
          | false => K true kn
        | .val (.bool b) => match want with
          | true => (b = true → K true ((d, true) :: kn)) ∧ (b = false → K false ((d, false) :: kn))
          | false => (b = true → K false ((d, true) :: kn)) ∧ (b = false → K true ((d, false) :: kn))
        | .val (.tuple _) => K false kn
        | _ => False

/-- The operation itself: 'pick' by what is known, the others by 'stepF'. -/
def opTr (m : Nat) (E : Env) (id : Nat) (o : Oper) (t : List (Nat × AV)) (kn : List (Nat × Bool)) : Tr :=
  match o.op with
  | .pick (.tmp c) a b => match known c kn with
    | some true => .ret (ev t a) []
    | some false => .ret (ev t b) []
    | none => stepF m E id (.pick (.tmp c) a b) o.type [look c t, ev t a, ev t b]
  | .defer _ => .bad
  | op => stepF m E id op o.type ((opnds op).map (ev t))

structure Eff where
  rd : List Nat
  wr : List Nat

def keys : List (Nat × Option Blk) → List Nat
  | [] => []
  | (i, _) :: r => i :: keys r

/-- Operations, one behind the other, in the order of the text. -/
def xOps (P : Program) (E : Env) (ops : List Oper) (n m : Nat) : List Oper → Nat → List (Nat × Bool) → List Eff → List (Nat × AV) → List (Nat × Option Blk) →
    (Ex → List Eff → List (Nat × AV) → List (Nat × Option Blk) → Nat → Prop) → Prop
  | [], id, _, tr, t, h, K => K .normal tr t h id
  | o :: os, id, kn, tr, t, h, K => guardK ops t kn o.guard fun run kn => match run with
    | false => putK n o.dst (.val undef) t fun t => forceN (id + 16) fun id => xOps P E ops n m os id (forget o.dst kn) (⟨[], []⟩ :: tr) t h K
    | true => (opTr m E id o t kn).run P (hl · h) id [] fun
      | .ok v hs rd => force v fun v => putK n o.dst v t fun t => appK hs h fun h => forceN (id + 16) fun id =>
          xOps P E ops n m os id (forget o.dst kn) (⟨rd, keys hs⟩ :: tr) t h K
      | .panic v hs rd => appK hs h fun h => forceN (id + 16) fun id => K (.panic v) (⟨rd, keys hs⟩ :: tr) t h id

def meets (a b : List Nat) : Bool := a.any fun x => b.any (Nat.beq x)

/-- Which operations stand before each one, whatever the order (a number for each, bit i for operation i). -/
def waitB (acc : List Nat) : List Edge → Nat
  | [] => 0
  | e :: r => match Region.binds .any e with
    | true => 2 ^ e.on ||| (acc.getD e.on 0 ||| waitB acc r)
    | false => waitB acc r

def waitL : List Oper → List Nat → List Nat
  | [], acc => acc
  | o :: os, acc => match waitB acc o.after.toList with
    | 0 => waitL os (acc ++ [0])
    | k + 1 => waitL os (acc ++ [k + 1])

theorem waitL_cons (o : Oper) (os : List Oper) (acc : List Nat) : waitL (o :: os) acc = waitL os (acc ++ [waitB acc o.after.toList]) := by
  rw [waitL]; split <;> simp_all

/-- A list of numbers, brought to its end before it goes on. -/
def forceL {α : Type} : List Nat → (List Nat → α) → α
  | [], K => K []
  | x :: r, K => match x with
    | 0 => forceL r fun l => K (0 :: l)
    | n + 1 => forceL r fun l => K ((n + 1) :: l)

theorem forceL_eq {α : Type} : ∀ (l : List Nat) (K : List Nat → α), forceL l K = K l
  | [], _ => rfl
  | x :: r, K => by cases x <;> rw [forceL, forceL_eq r]

/-- Effects on the heap of operations whose order is open: none touches what another writes. 'tr': the last one first. -/
def clash (b : Nat) (e : Eff) : List Eff → Bool
  | [] => false
  | x :: r => (!b.testBit r.length && (meets e.wr x.rd || meets e.wr x.wr || meets e.rd x.wr)) || clash b e r

/-- Each block that an operation makes has a number of this operation's. -/
def keyOK (nx b i : Nat) (x : Nat) : Bool := Nat.blt x nx || Nat.beq ((x - nx) / 16) i || b.testBit ((x - nx) / 16)

def heapApart (nx : Nat) (bf : List Nat) : List Eff → Bool
  | [] => true
  | e :: r => !clash (bf.getD r.length 0) e r && e.wr.all (keyOK nx (bf.getD r.length 0) r.length) && heapApart nx bf r

/-- What is left of a region whose order is drawn, where operation p panics: those that wait for it are never carried out; the others touch nothing. -/
def xRest (P : Program) (E : Env) (ops : List Oper) (n m p : Nat) (wl : List Nat) : List Oper → Nat → Nat → List Eff → List (Nat × AV) → List (Nat × Option Blk) → (List Eff → Nat → Prop) → Prop
  | [], _, id, tr, _, _, K => K tr id
  | o :: os, j, id, tr, t, h, K => match (wl.getD j 0).testBit p with
    | true => putK n o.dst .junk t fun t => forceN (id + 16) fun id => xRest P E ops n m p wl os (j + 1) id (⟨[], []⟩ :: tr) t h K
    | false => guardK ops t [] o.guard fun run kn => match run with
      | false => putK n o.dst (.val undef) t fun t => forceN (id + 16) fun id => xRest P E ops n m p wl os (j + 1) id (⟨[], []⟩ :: tr) t h K
      | true => (opTr m E id o t kn).run P (hl · h) id [] fun
        | .ok v hs rd => match hs with
          | [] => force v fun v => putK n o.dst v t fun t => forceN (id + 16) fun id => xRest P E ops n m p wl os (j + 1) id (⟨rd, []⟩ :: tr) t h K
          | _ => False
        | .panic _ _ _ => False

/-- The slots that a region's operations write: nothing is known of them. -/
def jk : List Oper → List (Nat × AV) → List (Nat × AV)
  | [], t => t
  | o :: os, t => match o.dst with
    | some d => (d, .junk) :: jk os t
    | none => jk os t

/-- What stands before the operation that panics has touched nothing, or must stand before it. -/
def preOK (b : Nat) : List Eff → Bool
  | [] => true
  | e :: r => (match e.wr with | [] => true | _ => b.testBit r.length) && preOK b r

/-- How a region whose order is drawn panics. -/
def panicK (P : Program) (E : Env) (ops : List Oper) (n m nx0 : Nat) (tr : List Eff) (t : List (Nat × AV)) (h : List (Nat × Option Blk)) (nx : Nat) (K : List (Nat × AV) → List (Nat × Option Blk) → Nat → Prop) : Prop :=
  match tr with
  | [] => False
  | _ :: pre => forceL (waitL ops []) fun wl => match preOK (wl.getD (List.length pre) 0) pre with
    | true => putK n (dstOf ops (List.length pre)) .junk t fun t => xRest P E ops n m (List.length pre) wl (ops.drop (List.length tr)) (List.length tr) nx tr t h fun tr nx => match heapApart nx0 wl tr with
      | true => K (jk ops t) h nx
      | false => False
    | false => False

/-- From an abstract state to one that says less. -/
def Ent (s s' : St) : Prop := ∀ bs φ a w, Mod bs φ s a w → ∃ φ', Mod bs φ' s' a w

/-- A region's operations whose last one is 'defer f()': those ahead of it, and f. -/
def splitD : List Oper → Option (List Oper × Operand)
  | [] => none
  | o :: os => match os with
    | [] => match o.op with
      | .defer c => match c.callee, c.args.toList, o.guard, o.dst with
        | .value f, [], none, none => some ([], f)
        | _, _, _, _ => none
      | _ => none
    | _ :: _ => match splitD os with
      | some (l, f) => some (o :: l, f)
      | none => none

def dfrK (t : List (Nat × AV)) (f : Operand) (K : AV → Prop) : Prop :=
  match ev t f with
  | .clo (.func g) a b => K (.clo (.func g) a b)
  | _ => False

def xRegion (P : Program) (E : Env) (ops : Array Oper) (draw : Bool) : St → (Ex → St → Prop) → Prop
  | ⟨n, t, h, nx0, m, df⟩, K => match draw with
    | false => match splitD ops.toList with
      | none => xOps P E ops.toList n m ops.toList nx0 [] [] t h fun e _ t h nx => K e ⟨n, t, h, nx, m, df⟩
      | some (l, f) => xOps P E ops.toList n m l nx0 [] [] t h fun e _ t h nx => match e with
        | .normal => dfrK t f fun d => K .normal ⟨n, t, h, nx, m, d :: df⟩
        | e => K e ⟨n, t, h, nx, m, df⟩
    | true => Region.lexB .any ops = true ∧ xOps P E ops.toList n m ops.toList nx0 [] [] t h fun e tr t h nx => match e with
      | .normal => match heapApart nx0 (waitL ops.toList []) tr with
        | true => K .normal ⟨n, t, h, nx, m, df⟩
        | false => False
      | .panic v => panicK P E ops.toList n m nx0 tr t h nx fun t h nx => K (.panic v) ⟨n, t, h, nx, m, df⟩
      | _ => False

def xCode (P : Program) (E : Env) : Code → St → (Ex → St → Prop) → Prop
  | .skip, s, K => K .normal s
  | .label _, s, K => K .normal s
  | .region _ ops draw, s, K => ∃ s', Ent s s' ∧ xRegion P E ops draw s' K
  | .seq a b, s, K => xCode P E a s fun e s => match e with
    | .normal => xCode P E b s K
    | .exit i => K (.exit i) s
    | .ret => K .ret s
    | .panic v => K (.panic v) s
  | .cond c a b, ⟨n, t, h, nx, m, df⟩, K => match ev t c with
    | .tt => xCode P E a ⟨n, t, h, nx, m, df⟩ K
    | .ff => xCode P E b ⟨n, t, h, nx, m, df⟩ K
    | .val (.bool x) => (x = true → xCode P E a ⟨n, t, h, nx, m, df⟩ K) ∧ (x = false → xCode P E b ⟨n, t, h, nx, m, df⟩ K)
    | _ => False
  | .block id c, s, K => xCode P E c s fun e s => match e with
    | .exit i => match Nat.beq i id with
      | true => K .normal s
      | false => K (.exit i) s
    | .normal => K .normal s
    | .ret => K .ret s
    | .panic v => K (.panic v) s
  | .loop c, s, K => ∃ I : Nat → St → Prop, (∃ n s', Ent s s' ∧ I n s') ∧ ∀ n s, I n s → xCode P E c s fun e s' => match e with
    | .normal => ∃ n' s'', n' < n ∧ Ent s' s'' ∧ I n' s''
    | .exit i => K (.exit i) s'
    | .ret => K .ret s'
    | .panic v => K (.panic v) s'
  | .scope c, s, K => xCode P E c s K
  | .exit id, s, K => K (.exit id) s
  | .ret, s, K => K .ret s
  | _, _, _ => False

end Go.Fw
namespace Go.Fw
open Go Go.RowKit

theorem hl_cons (id i : Nat) (x : Option Blk) (h : List (Nat × Option Blk)) : hl id ((i, x) :: h) = if i = id then x else hl id h := by
  simp only [hl]
  cases hb : Nat.beq i id with
  | true => simp [Nat.eq_of_beq_eq_true hb]
  | false => simp [Nat.ne_of_beq_eq_false hb]

theorem hl_cases {j id : Nat} {x y : Option Blk} {h : List (Nat × Option Blk)} (hx : hl j ((id, x) :: h) = y) : (id = j ∧ x = y) ∨ (id ≠ j ∧ hl j h = y) := by
  rw [hl_cons] at hx
  by_cases e : id = j
  · rw [if_pos e] at hx; exact Or.inl ⟨e, hx⟩
  · rw [if_neg e] at hx; exact Or.inr ⟨e, hx⟩

theorem look_cons (k i : Nat) (x : AV) (t : List (Nat × AV)) : look k ((i, x) :: t) = if i = k then x else look k t := by
  simp only [look]
  cases hb : Nat.beq i k with
  | true => simp [Nat.eq_of_beq_eq_true hb]
  | false => simp [Nat.ne_of_beq_eq_false hb]

theorem Cx.Le.refl (c : Cx) : c.Le c :=
  ⟨fun _ h => h, Nat.le_refl _, fun _ _ => rfl, fun _ _ _ _ h => h, fun _ _ h => h, fun _ _ _ _ _ _ cs e fz h => ⟨cs, e, fz, h, rfl⟩, fun _ _ _ h => ⟨h, rfl⟩⟩

theorem Cx.Le.trans {a b c : Cx} (h : a.Le b) (k : b.Le c) : a.Le c where
  al id hi := k.al id (h.al id hi)
  sz := Nat.le_trans h.sz k.sz
  φ id hi := (k.φ id (h.al id hi)).trans (h.φ id hi)
  arr id hi t n hx := h.arr id hi t n (k.arr id (h.al id hi) t n hx)
  liv id hi hn := h.liv id hi (k.liv id (h.al id hi) hn)
  cap id hi hn bl off hb cs e fz hc := by
    obtain ⟨cs1, e1, fz1, h1, s1⟩ := h.cap id hi (k.liv id (h.al id hi) hn) bl off hb cs e fz hc
    obtain ⟨cs2, e2, fz2, h2, s2⟩ := k.cap id (h.al id hi) hn bl off ((h.φ id hi).trans hb) cs1 e1 fz1 h1
    exact ⟨cs2, e2, fz2, h2, s2.trans s1⟩
  ok o bl hb hk := by
    obtain ⟨h1, h2⟩ := h.ok o bl hb hk
    obtain ⟨h3, h4⟩ := k.ok o bl (Nat.lt_of_lt_of_le hb h.sz) h1
    exact ⟨h3, h4.trans h2⟩

theorem BlkOK.le {c c' : Cx} (h : c.Le c') {id : Nat} (hi : c.al id) (hψ : c'.ψ id = c.ψ id) (hb : ∀ b, c.own id b → c'.w.heap[b]? = c.w.heap[b]?) {b : Blk} (hk : BlkOK c id b) : BlkOK c' id b := by
  cases b with
  | cells l =>
    obtain ⟨bl, cs, e, h1, h2, h3⟩ := hk
    exact ⟨bl, cs, e, (h.φ id hi).trans h1, (hb bl (Cx.own_p h1)).trans h2, RL.le h h3⟩
  | arr o t xs =>
    rcases hk with ⟨bl, off, cs, e, h1, h2, h3, h4⟩ | ⟨h1, h2⟩
    · exact Or.inl ⟨bl, off, cs, e, (h.φ id hi).trans h1, (hb bl (Cx.own_p h1)).trans h2, h3, h4.keep (h.ok o) (hb bl (Cx.own_p h1))⟩
    · exact Or.inr ⟨(h.φ id hi).trans h1, h2⟩
  | deep t xs =>
    rcases hk with ⟨bl, off, cs, e, h1, h2, h3, h4, h5⟩ | ⟨h1, h2⟩
    · exact Or.inl ⟨bl, off, cs, e, (h.φ id hi).trans h1, (hb bl (Cx.own_p h1)).trans h2, h3, by rw [hψ]; exact h4, by rw [hψ]; exact h5.keep (fun b hx => hb b (Or.inr hx)) (hb bl (Cx.own_p h1))⟩
    · exact Or.inr ⟨(h.φ id hi).trans h1, h2⟩
  | seg t xs j row =>
    obtain ⟨bl, off, cs, e, h1, h2, h3, h4, h5, h6, h7, rc, h8, h9⟩ := hk
    exact ⟨bl, off, cs, e, (h.φ id hi).trans h1, (hb bl (Cx.own_p h1)).trans h2, h3, by rw [hψ]; exact h4, by rw [hψ]; exact h5.keep (fun b hx => hb b (Or.inr hx)) (hb bl (Cx.own_p h1)), h6, h7, rc, h8.keep (hb bl (Cx.own_p h1)), RL.le h h9⟩

def St.kill (s : St) (id : Nat) : St := { s with h := (id, none) :: s.h }

theorem al_cons {s : St} {i id : Nat} {x : Option Blk} : St.al { s with h := (i, x) :: s.h } id ↔ id = i ∨ s.al id := by
  simp only [St.al, List.mem_cons, Prod.mk.injEq]
  constructor
  · rintro ⟨y, ⟨h, _⟩ | h⟩
    · exact Or.inl h
    · exact Or.inr ⟨y, h⟩
  · rintro (h | ⟨y, h⟩)
    · exact ⟨x, Or.inl ⟨h, rfl⟩⟩
    · exact ⟨y, Or.inr h⟩

/-- Whatever is said of the heap, with one entry in front. -/
theorem HM.al_of {bs : Bs} {φ : Ph} {s : St} {w : World} (_ : HM bs φ s w) {id : Nat} (hn : hl id s.h ≠ none) : s.al id := by
  cases hx : hl id s.h with
  | none => exact absurd hx hn
  | some b => exact al_of_hl hx

/-- A block dies. -/
theorem HM.kill {bs : Bs} {φ : Ph} {s : St} {w : World} (h : HM bs φ s w) (id : Nat) (hi : s.al id) :
    HM bs φ (s.kill id) w ∧ (cx bs φ s w).Le (cx bs φ (s.kill id) w) := by
  have hlk : ∀ j, hl j (s.kill id).h = if id = j then none else hl j s.h := fun j => hl_cons j id none s.h
  have hle : (cx bs φ s w).Le (cx bs φ (s.kill id) w) := by
    refine ⟨fun j hj => al_cons.2 (Or.inr hj), Nat.le_refl _, fun _ _ => rfl, fun j _ t n hx => ?_, fun j _ hn => ?_, fun _ _ _ _ _ _ cs e fz h => ⟨cs, e, fz, h, rfl⟩, fun o b _ hk => ⟨⟨?_, hk.2⟩, rfl⟩⟩
    · have hx : shp (hl j (s.kill id).h) = _ := hx
      rw [hlk] at hx
      split at hx
      · cases hx
      · exact hx
    · have hn : hl j (s.kill id).h ≠ none := hn
      rw [hlk] at hn
      split at hn
      · exact absurd rfl hn
      · exact hn
    · rintro ⟨j, hn, hp⟩
      have hn : hl j (s.kill id).h ≠ none := hn
      rw [hlk] at hn
      split at hn
      · exact absurd rfl hn
      · exact hk.1 ⟨j, hn, hp⟩
  refine ⟨⟨fun j hj => ?_, fun j b hb => ?_, fun i j b hi' hj hp hq => ?_, fun i b hn hp => ?_, fun i b hn hp => ?_, h.bd, h.kp, fun i hi' => ⟨hle.al i (h.inc i hi').1, (h.inc i hi').2⟩⟩, hle⟩
  · rcases al_cons.1 hj with rfl | hj
    · exact h.kb _ hi
    · exact h.kb _ hj
  · rw [hlk] at hb
    split at hb
    · cases hb
    · exact BlkOK.le hle (al_of_hl hb) rfl (fun _ _ => rfl) (h.h j b hb)
  · rw [hlk] at hi' hj
    split at hi'
    · exact absurd rfl hi'
    · split at hj
      · exact absurd rfl hj
      · exact h.inj i j b hi' hj hp hq
  · rw [hlk] at hn
    split at hn
    · exact absurd rfl hn
    · exact h.lo i b hn hp
  · rw [hlk] at hn
    split at hn
    · exact absurd rfl hn
    · exact h.ps i b hn hp

theorem Keeps.refl (X : Nat → Prop) (B : Nat) (w : World) : Keeps X B w w := ⟨rfl, rfl, rfl, Nat.le_refl _, fun _ _ _ => rfl, fun _ _ cs e fz h => ⟨cs, e, fz, h, rfl⟩⟩
theorem Keeps.trans {X : Nat → Prop} {B : Nat} {a b c : World} (h : Keeps X B a b) (k : Keeps X B b c) : Keeps X B a c :=
  ⟨k.os.trans h.os, k.tape.trans h.tape, k.output.trans h.output, Nat.le_trans h.size k.size, fun i hi hx => (k.block i hi hx).trans (h.block i hi hx), fun i hi cs e fz hc => by
    obtain ⟨cs1, e1, fz1, h1, s1⟩ := h.cells i hi cs e fz hc
    obtain ⟨cs2, e2, fz2, h2, s2⟩ := k.cells i hi cs1 e1 fz1 h1
    exact ⟨cs2, e2, fz2, h2, s2.trans s1⟩⟩

theorem HM.lt {bs : Bs} {φ : Ph} {s : St} {w : World} (h : HM bs φ s w) {j b : Nat} (hj : hl j s.h ≠ none) (hp : φ.own j b) : b < w.heap.size := by
  rcases hp with ⟨k, hp⟩ | hp
  · cases hx : hl j s.h with
    | none => exact absurd hx hj
    | some x =>
      have hk := h.h j x hx
      have hp : (cx bs φ s w).φ j = some (b, k) := hp
      have key : ∀ cs e, w.heap[b]? = some (Obj.cells cs e (0, 0)) → b < w.heap.size := fun cs e he => (Array.getElem?_eq_some_iff.1 he).1
      cases x with
      | cells l =>
        obtain ⟨b', cs, e, h1, h2, _⟩ := hk
        rw [hp] at h1; cases h1
        exact key _ _ h2
      | arr o t xs =>
        rcases hk with ⟨b', off, cs, e, h1, h2, _⟩ | ⟨h1, _⟩
        · rw [hp] at h1; cases h1
          exact key _ _ h2
        · rw [hp] at h1; cases h1
      | deep t xs =>
        rcases hk with ⟨b', off, cs, e, h1, h2, _⟩ | ⟨h1, _⟩
        · rw [hp] at h1; cases h1
          exact key _ _ h2
        · rw [hp] at h1; cases h1
      | seg t xs q row =>
        obtain ⟨b', off, cs, e, h1, h2, _⟩ := hk
        rw [hp] at h1; cases h1
        exact key _ _ h2
  · exact h.ps j b hj hp

theorem Ph.put_f {φ : Ph} {id : Nat} {p : Option (Nat × Nat)} {F : Nat → Prop} : (φ.put id p F) id = p := if_pos rfl
theorem Ph.put_ψ {φ : Ph} {id : Nat} {p : Option (Nat × Nat)} {F : Nat → Prop} : (φ.put id p F).ψ id = F := if_pos rfl
theorem Ph.put_f' {φ : Ph} {id j : Nat} {p : Option (Nat × Nat)} {F : Nat → Prop} (h : j ≠ id) : (φ.put id p F) j = φ j := if_neg h
theorem Ph.put_ψ' {φ : Ph} {id j : Nat} {p : Option (Nat × Nat)} {F : Nat → Prop} (h : j ≠ id) : (φ.put id p F).ψ j = φ.ψ j := if_neg h
theorem Ph.own_other {φ : Ph} {id j b : Nat} {p : Option (Nat × Nat)} {F : Nat → Prop} (h : j ≠ id) : (φ.put id p F).own j b ↔ φ.own j b := by
  unfold Ph.own
  rw [Ph.put_f' h, Ph.put_ψ' h]
theorem Ph.own_same {φ : Ph} {id b : Nat} {p : Option (Nat × Nat)} {F : Nat → Prop} : (φ.put id p F).own id b ↔ (∃ off, p = some (b, off)) ∨ F b := by
  unfold Ph.own
  rw [Ph.put_f, Ph.put_ψ]

/-- Nothing else belongs to a block. -/
abbrev noF : Nat → Prop := fun _ => False

/-- A block of one's own is made. -/
theorem HM.alloc {bs : Bs} {φ : Ph} {s : St} {w : World} (h : HM bs φ s w) (id : Nat) (hn : ¬ s.al id) (hid : id < s.nx) (ob : Obj) (b : Blk)
    (hb : (cx bs φ s w).Le (cx bs (φ.put id (some (w.heap.size, 0)) noF) { s with h := (id, some b) :: s.h } (w.alloc ob)) →
      BlkOK (cx bs (φ.put id (some (w.heap.size, 0)) noF) { s with h := (id, some b) :: s.h } (w.alloc ob)) id b) :
    HM bs (φ.put id (some (w.heap.size, 0)) noF) { s with h := (id, some b) :: s.h } (w.alloc ob) ∧
      (cx bs φ s w).Le (cx bs (φ.put id (some (w.heap.size, 0)) noF) { s with h := (id, some b) :: s.h } (w.alloc ob)) := by
  have hlk : ∀ j, hl j ((id, some b) :: s.h) = if id = j then some b else hl j s.h := fun j => hl_cons j id (some b) s.h
  have hold : ∀ k, k < w.heap.size → (w.alloc ob).heap[k]? = w.heap[k]? := fun k hk => Below.heap_alloc w ob k hk
  have hown : ∀ bl, (φ.put id (some (w.heap.size, 0)) noF).own id bl → bl = w.heap.size := by
    intro bl hb
    rcases Ph.own_same.1 hb with ⟨off, e⟩ | hb
    · cases e; rfl
    · exact hb.elim
  have hle : (cx bs φ s w).Le (cx bs (φ.put id (some (w.heap.size, 0)) noF) { s with h := (id, some b) :: s.h } (w.alloc ob)) := by
    have hne : ∀ j, s.al j → j ≠ id := fun j hj e => hn (e ▸ hj)
    refine ⟨fun j hj => al_cons.2 (Or.inr hj), by simp [cx], fun j hj => if_neg (hne j hj), fun j hj t n hx => ?_, fun j hj hnn => ?_, fun j hj hnn bl off hp cs e fz hc => ?_, fun o bl hbl hk => ⟨⟨?_, hk.2⟩, hold bl hbl⟩⟩
    · have hx : shp (hl j ((id, some b) :: s.h)) = _ := hx
      rw [hlk, if_neg fun e => hne j hj e.symm] at hx
      exact hx
    · have hnn : hl j ((id, some b) :: s.h) ≠ none := hnn
      rw [hlk, if_neg fun e => hne j hj e.symm] at hnn
      exact hnn
    · refine ⟨cs, e, fz, ?_, rfl⟩
      have hc : w.heap[bl]? = _ := hc
      exact (hold bl (Array.getElem?_eq_some_iff.1 hc).1).trans hc
    · rintro ⟨j, hnn, hp⟩
      have hnn : hl j ((id, some b) :: s.h) ≠ none := hnn
      have hp : (φ.put id (some (w.heap.size, 0)) noF).own j bl := hp
      by_cases e : j = id
      · subst e
        rw [hown bl hp] at hbl
        exact Nat.lt_irrefl _ hbl
      · rw [hlk, if_neg fun e' => e e'.symm] at hnn
        exact hk.1 ⟨j, hnn, (Ph.own_other e).1 hp⟩
  have hB := h.bd
  have hz : (w.alloc ob).heap.size = w.heap.size + 1 := by simp
  refine ⟨⟨fun j hj => ?_, fun j x hx => ?_, fun i j bl hi hj hp hq => ?_, fun i bl hi hp => ?_, fun i bl hi hp => ?_, by simp; omega, ?_, fun i hi' => ⟨hle.al i (h.inc i hi').1, (hle.φ i (h.inc i hi').1).trans (h.inc i hi').2⟩⟩, hle⟩
  · rcases al_cons.1 hj with rfl | hj
    · exact hid
    · exact h.kb _ hj
  · rcases hl_cases hx with ⟨e, e2⟩ | ⟨e, hx⟩
    · subst e; cases e2; exact hb hle
    · exact BlkOK.le hle (al_of_hl hx) (if_neg fun e' => e e'.symm) (fun bl hp => hold bl (h.lt (by rw [hx]; simp) hp)) (h.h j x hx)
  · have hi2 : hl i ((id, some b) :: s.h) ≠ none := hi
    have hj2 : hl j ((id, some b) :: s.h) ≠ none := hj
    rw [hlk] at hi2 hj2
    by_cases e : i = id
    · by_cases e' : j = id
      · exact e.trans e'.symm
      · rw [if_neg fun x => e' x.symm] at hj2
        have := hown bl (e ▸ hp)
        have := h.lt hj2 ((Ph.own_other e').1 hq)
        omega
    · rw [if_neg fun x => e x.symm] at hi2
      by_cases e' : j = id
      · have := hown bl (e' ▸ hq)
        have := h.lt hi2 ((Ph.own_other e).1 hp)
        omega
      · rw [if_neg fun x => e' x.symm] at hj2
        exact h.inj i j bl hi2 hj2 ((Ph.own_other e).1 hp) ((Ph.own_other e').1 hq)
  · have hi : hl i ((id, some b) :: s.h) ≠ none := hi
    rw [hlk] at hi
    by_cases e : i = id
    · subst e
      rw [hown bl hp]
      exact Or.inl hB
    · rw [if_neg fun x => e x.symm] at hi
      exact h.lo i bl hi ((Ph.own_other e).1 hp)
  · have hi : hl i ((id, some b) :: s.h) ≠ none := hi
    rw [hlk] at hi
    by_cases e : i = id
    · subst e
      have := hown bl (Or.inr hp)
      omega
    · rw [if_neg fun x => e x.symm] at hi
      rw [Ph.put_ψ' e] at hp
      have := h.ps i bl hi hp
      omega
  · exact h.kp.trans ⟨rfl, rfl, rfl, by simp, fun k hk _ => hold k (by omega), fun k hk cs e fz hc => ⟨cs, e, fz, (hold k (by omega)).trans hc, rfl⟩⟩

/-- A draw. -/
theorem HM.drew {bs : Bs} {φ : Ph} {s : St} {w w' : World} (h : HM bs φ s w) (hw : w'.heap = w.heap) (hk : Keeps bs.X bs.B w w') :
    HM bs φ s w' ∧ (cx bs φ s w).Le (cx bs φ s w') := by
  have hle : (cx bs φ s w).Le (cx bs φ s w') :=
    ⟨fun _ h => h, Nat.le_of_eq (by simp [cx, hw]), fun _ _ => rfl, fun _ _ _ _ h => h, fun _ _ h => h,
      fun _ _ _ _ _ _ cs e fz h => ⟨cs, e, fz, by simpa [cx, hw] using h, rfl⟩, fun _ _ _ h => ⟨h, by simp [cx, hw]⟩⟩
  exact ⟨⟨h.kb, fun j b hb => BlkOK.le hle (al_of_hl hb) rfl (fun _ _ => by simp [cx, hw]) (h.h j b hb), h.inj, h.lo, fun i b hi hp => by rw [hw]; exact h.ps i b hi hp, by rw [hw]; exact h.bd, h.kp.trans hk, h.inc⟩, hle⟩

/-- A block of one's own is written; what belongs to it may become less. -/
theorem HM.writeF {bs : Bs} {φ : Ph} {s : St} {w w' : World} (h : HM bs φ s w) (id : Nat) {b b' : Blk} {bl off : Nat} (hb : hl id s.h = some b) (hp : φ id = some (bl, off)) (F : Nat → Prop) (hF : ∀ x, F x → φ.ψ id x)
    (hsh : ∀ t n, shp (some b') = some (t, n) → shp (some b) = some (t, n))
    (hsz : w'.heap.size = w.heap.size) (hoth : ∀ k, k ≠ bl → w'.heap[k]? = w.heap[k]?)
    (hcs : ∀ cs e fz, w.heap[bl]? = some (.cells cs e fz) → ∃ cs' e' fz', w'.heap[bl]? = some (.cells cs' e' fz') ∧ cs'.size = cs.size)
    (hos : w'.os = w.os ∧ w'.tape = w.tape ∧ w'.output = w.output)
    (hok : (cx bs φ s w).Le (cx bs (φ.put id (φ id) F) { s with h := (id, some b') :: s.h } w') → BlkOK (cx bs (φ.put id (φ id) F) { s with h := (id, some b') :: s.h } w') id b') :
    HM bs (φ.put id (φ id) F) { s with h := (id, some b') :: s.h } w' ∧ (cx bs φ s w).Le (cx bs (φ.put id (φ id) F) { s with h := (id, some b') :: s.h } w') := by
  have hlk : ∀ j, hl j ((id, some b') :: s.h) = if id = j then some b' else hl j s.h := fun j => hl_cons j id (some b') s.h
  have hal : s.al id := al_of_hl hb
  have hφ : ∀ j, (φ.put id (φ id) F) j = φ j := fun j => by
    by_cases e : j = id
    · subst e; exact Ph.put_f
    · exact Ph.put_f' e
  have hown : ∀ j x, (φ.put id (φ id) F).own j x → φ.own j x := by
    intro j x hx
    by_cases e : j = id
    · subst e
      rcases Ph.own_same.1 hx with h1 | h1
      · exact Or.inl h1
      · exact Or.inr (hF x h1)
    · exact (Ph.own_other e).1 hx
  have hlv : ∀ j, hl j ((id, some b') :: s.h) ≠ none → hl j s.h ≠ none := by
    intro j hj
    rw [hlk] at hj
    split at hj
    · rename_i e; subst e; rw [hb]; simp
    · exact hj
  have hle : (cx bs φ s w).Le (cx bs (φ.put id (φ id) F) { s with h := (id, some b') :: s.h } w') := by
    refine ⟨fun j hj => al_cons.2 (Or.inr hj), Nat.le_of_eq hsz.symm, fun j _ => hφ j, fun j _ t n hx => ?_, fun j _ hn => hlv j hn, fun j hj hn b2 o2 hp2 cs e fz hc => ?_, fun o bl2 hbl hk => ⟨⟨?_, hk.2⟩, ?_⟩⟩
    · have hx : shp (hl j ((id, some b') :: s.h)) = _ := hx
      rw [hlk] at hx
      by_cases e : id = j
      · rw [if_pos e] at hx
        show shp (hl j s.h) = _
        rw [← e, hb]; exact hsh t n hx
      · rw [if_neg e] at hx; exact hx
    · by_cases e : b2 = bl
      · subst e; exact hcs cs _ fz hc
      · exact ⟨cs, _, fz, (hoth b2 e).trans hc, rfl⟩
    · rintro ⟨j, hn, hp2⟩
      exact hk.1 ⟨j, hlv j hn, hown j bl2 hp2⟩
    · refine hoth bl2 fun e => hk.1 ⟨id, ?_, ?_⟩
      · show hl id s.h ≠ none; rw [hb]; simp
      · rw [e]; exact Or.inl ⟨off, hp⟩
  refine ⟨⟨fun j hj => ?_, fun j x hx => ?_, fun i j b2 hi hj hp hq => h.inj i j b2 (hlv i hi) (hlv j hj) (hown i b2 hp) (hown j b2 hq), fun i b2 hi hp => h.lo i b2 (hlv i hi) (hown i b2 hp), fun i b2 hi hp2 => ?_, by rw [hsz]; exact h.bd, ?_, fun i hi' => ⟨hle.al i (h.inc i hi').1, (hφ i).trans (h.inc i hi').2⟩⟩, hle⟩
  · rcases al_cons.1 hj with rfl | hj
    · exact h.kb _ hal
    · exact h.kb _ hj
  · rcases hl_cases hx with ⟨e, e2⟩ | ⟨e, hx⟩
    · subst e; cases e2; exact hok hle
    · refine BlkOK.le hle (al_of_hl hx) (if_neg fun e' => e e'.symm) (fun b2 hp2 => hoth b2 fun e2 => e ?_) (h.h j x hx)
      subst e2
      exact h.inj id j b2 (by rw [hb]; simp) (by rw [hx]; simp) (Or.inl ⟨off, hp⟩) hp2
  · rw [hsz]
    by_cases e : i = id
    · subst e
      rw [Ph.put_ψ] at hp2
      exact h.ps i b2 (hlv i hi) (hF b2 hp2)
    · rw [Ph.put_ψ' e] at hp2
      exact h.ps i b2 (hlv i hi) hp2
  · refine h.kp.trans ⟨hos.1, hos.2.1, hos.2.2, Nat.le_of_eq hsz.symm, fun k hk hX => hoth k fun e => ?_, fun k hk cs e fz hc => ?_⟩
    rotate_left
    · by_cases e2 : k = bl
      · subst e2; exact hcs cs e fz hc
      · exact ⟨cs, e, fz, (hoth k e2).trans hc, rfl⟩
    subst e
    rcases h.lo id k (by rw [hb]; simp) (Or.inl ⟨off, hp⟩) with h1 | ⟨_, h1⟩
    · omega
    · exact hX ⟨_, h1⟩

theorem Ph.put_self (φ : Ph) (id : Nat) : φ.put id (φ id) (φ.ψ id) = φ := by
  obtain ⟨f, ψ⟩ := φ
  simp only [Ph.put]
  congr 1
  · funext j; split
    · rename_i e; rw [e]
    · rfl
  · funext j; split
    · rename_i e; rw [e]
    · rfl

/-- A block of one's own is written. -/
theorem HM.write {bs : Bs} {φ : Ph} {s : St} {w w' : World} (h : HM bs φ s w) (id : Nat) {b b' : Blk} {bl off : Nat} (hb : hl id s.h = some b) (hp : φ id = some (bl, off))
    (hsh : ∀ t n, shp (some b') = some (t, n) → shp (some b) = some (t, n))
    (hsz : w'.heap.size = w.heap.size) (hoth : ∀ k, k ≠ bl → w'.heap[k]? = w.heap[k]?)
    (hcs : ∀ cs e fz, w.heap[bl]? = some (.cells cs e fz) → ∃ cs' e' fz', w'.heap[bl]? = some (.cells cs' e' fz') ∧ cs'.size = cs.size)
    (hos : w'.os = w.os ∧ w'.tape = w.tape ∧ w'.output = w.output)
    (hok : (cx bs φ s w).Le (cx bs φ { s with h := (id, some b') :: s.h } w') → BlkOK (cx bs φ { s with h := (id, some b') :: s.h } w') id b') :
    HM bs φ { s with h := (id, some b') :: s.h } w' ∧ (cx bs φ s w).Le (cx bs φ { s with h := (id, some b') :: s.h } w') := by
  have := h.writeF id hb hp (φ.ψ id) (fun _ h => h) hsh hsz hoth hcs hos (by rw [Ph.put_self]; exact hok)
  rwa [Ph.put_self] at this
end Go.Fw
namespace Go.Fw
open Go Go.RowKit

theorem inr_wrap {k : IntKind} {n : Int} (h0 : inr k n) : k.wrap n = n := by
  have h := (inr_iff k n).1 h0
  obtain ⟨h1, h2⟩ := h
  cases k <;> simp [IntKind.wrap, IntKind.min, IntKind.max, IntKind.bits, IntKind.signed] at * <;> omega

theorem umax_lt {k : IntKind} {n : Nat} (h : n ≤ umax k) : n < 2 ^ k.bits := by
  cases k <;> simp [umax, IntKind.bits] at * <;> omega

theorem u_wrap {k : IntKind} {n : Nat} (h : n ≤ umax k) (hu : isU k = true) : k.wrap n = n := by
  cases k <;> simp [IntKind.wrap, IntKind.bits, IntKind.signed, umax, isU] at * <;> omega

theorem u_wrap_mod {k : IntKind} (n : Nat) (hu : isU k = true) : k.wrap n = ((n % (umax k + 1) : Nat) : Int) := by
  cases k <;> simp [IntKind.wrap, IntKind.bits, IntKind.signed, umax, isU] at * 

theorem signed_of_isU {k : IntKind} (hu : isU k = true) : k.signed = false := by cases k <;> simp_all [isU, IntKind.signed]

theorem ofInt_cast (n : Nat) (a : Nat) : BitVec.ofInt n (a : Int) = BitVec.ofNat n a := by
  apply BitVec.eq_of_toNat_eq
  simp

theorem u_and {k : IntKind} {a b : Nat} (h : a ≤ umax k) : (BitVec.ofInt k.bits (a : Int) &&& BitVec.ofInt k.bits (b : Int)).toNat = a &&& b := by
  have h1 := umax_lt h
  rw [ofInt_cast, ofInt_cast, BitVec.toNat_and, BitVec.toNat_ofNat, BitVec.toNat_ofNat, Nat.mod_eq_of_lt h1]
  apply Nat.eq_of_testBit_eq
  intro i
  simp only [Nat.testBit_and, Nat.testBit_mod_two_pow]
  by_cases hi : i < k.bits
  · simp [hi]
  · have : a.testBit i = false := Nat.testBit_lt_two_pow (Nat.lt_of_lt_of_le h1 (Nat.pow_le_pow_right (by omega) (by omega)))
    simp [this]

theorem u_or {k : IntKind} {a b : Nat} (h : a ≤ umax k) (h' : b ≤ umax k) : (BitVec.ofInt k.bits (a : Int) ||| BitVec.ofInt k.bits (b : Int)).toNat = a ||| b := by
  rw [ofInt_cast, ofInt_cast, BitVec.toNat_or, BitVec.toNat_ofNat, BitVec.toNat_ofNat, Nat.mod_eq_of_lt (umax_lt h), Nat.mod_eq_of_lt (umax_lt h')]

theorem u_xor {k : IntKind} {a b : Nat} (h : a ≤ umax k) (h' : b ≤ umax k) : (BitVec.ofInt k.bits (a : Int) ^^^ BitVec.ofInt k.bits (b : Int)).toNat = a ^^^ b := by
  rw [ofInt_cast, ofInt_cast, BitVec.toNat_xor, BitVec.toNat_ofNat, BitVec.toNat_ofNat, Nat.mod_eq_of_lt (umax_lt h), Nat.mod_eq_of_lt (umax_lt h')]

theorem testBit_ndiff (a b i : Nat) : (ndiff a b).testBit i = (a.testBit i && !b.testBit i) := by
  unfold ndiff
  rw [Nat.testBit_xor, Nat.testBit_and]
  cases a.testBit i <;> cases b.testBit i <;> rfl

theorem u_ndiff {k : IntKind} {a b : Nat} (h : a ≤ umax k) : (BitVec.ofInt k.bits (a : Int) &&& ~~~ BitVec.ofInt k.bits (b : Int)).toNat = ndiff a b := by
  have h1 := umax_lt h
  apply Nat.eq_of_testBit_eq
  intro i
  rw [testBit_ndiff, ofInt_cast, ofInt_cast]
  show (BitVec.ofNat k.bits a &&& ~~~BitVec.ofNat k.bits b).getLsbD i = _
  rw [BitVec.getLsbD_and, BitVec.getLsbD_not, BitVec.getLsbD_ofNat, BitVec.getLsbD_ofNat]
  by_cases hi : i < k.bits
  · simp [hi]
  · have : a.testBit i = false := Nat.testBit_lt_two_pow (Nat.lt_of_lt_of_le h1 (Nat.pow_le_pow_right (by omega) (by omega)))
    simp [this, hi]

theorem ndiff_le (a b : Nat) : ndiff a b ≤ a := by
  unfold ndiff
  have h : a ^^^ (a &&& b) ≤ a := by
    have : a ^^^ (a &&& b) = (a ^^^ (a &&& b)) &&& a := by
      apply Nat.eq_of_testBit_eq
      intro i
      simp only [Nat.testBit_xor, Nat.testBit_and]
      cases a.testBit i <;> cases b.testBit i <;> rfl
    rw [this]; exact Nat.and_le_right
  exact h

theorem u_shl {k : IntKind} {a n : Nat} (h : a <<< n ≤ umax k) (hu : isU k = true) : k.wrap ((a : Int) * 2 ^ (min n k.bits)) = ((a <<< n : Nat) : Int) := by
  rw [Nat.shiftLeft_eq] at *
  by_cases ha : a = 0
  · subst ha; simp [show k.wrap 0 = 0 from u_wrap (n := 0) (by omega) hu]
  · have hn : n ≤ k.bits := by
      rcases Nat.lt_or_ge k.bits n with h1 | h1
      · have h2 : 2 ^ k.bits ≤ 2 ^ n := Nat.pow_le_pow_right (by omega) (by omega)
        have h3 := umax_lt h
        have h4 : 1 * 2 ^ n ≤ a * 2 ^ n := Nat.mul_le_mul_right _ (by omega)
        omega
      · exact h1
    rw [Nat.min_eq_left hn]
    have := u_wrap h hu
    rw [← this]; congr 1

theorem u_shr {k : IntKind} {a n : Nat} (h : n ≤ k.bits ∨ a ≤ umax k) : (a : Int).fdiv (2 ^ (min n k.bits)) = ((a >>> n : Nat) : Int) := by
  have e : ∀ j : Nat, (a : Int).fdiv (2 ^ j) = ((a / 2 ^ j : Nat) : Int) := by
    intro j
    rw [Int.fdiv_eq_ediv_of_nonneg _ (Int.pow_nonneg (by omega))]
    rw [Int.natCast_ediv, Int.natCast_pow]
    rfl
  rw [e, Nat.shiftRight_eq_div_pow]
  by_cases hn : n ≤ k.bits
  · rw [Nat.min_eq_left hn]
  · rw [Nat.min_eq_right (by omega)]
    have ha : a < 2 ^ k.bits := umax_lt (by omega)
    rw [Nat.div_eq_of_lt ha, Nat.div_eq_of_lt (Nat.lt_of_lt_of_le ha (Nat.pow_le_pow_right (by omega) (by omega)))]
end Go.Fw
namespace Go.Fw
open Go Go.RowKit

/-- What a trace of conditions comes to. -/
inductive To (P : Program) (hp : Nat → Option Blk) (id : Nat) : Tr → List Nat → Out → Prop
  | ret (v : AV) (hs : List (Nat × Option Blk)) (log : List Nat) : To P hp id (.ret v hs) log (.ok v hs log)
  | rd {i : Nat} {k : Option Blk → Tr} {log : List Nat} {o : Out} (h : To P hp id (k (hp i)) (i :: log) o) : To P hp id (.rd i k) log o
  | vc {p : Prop} {k : Tr} {log : List Nat} {o : Out} (hp' : p) (h : To P hp id k log o) : To P hp id (.vc p k) log o
  | cs {z : Int} {n : Nat} {k : Nat → Tr} {log : List Nat} {o : Out} (i : Nat) (hi : i < n) (hz : z = i) (h : To P hp id (k i) log o) : To P hp id (.cs z n k) log o
  | panic (v : AV) (log : List Nat) : To P hp id (.panic v) log (.panic v [] log)
  | fn {f : FuncId} {args : List AV} {log : List Nat} (ρ : List Nat) {args' : List AV} {hin : List Blk} {r : AV} {hs : List (Nat × Option Blk)} {p q : Bool} {l l' : List Nat}
      (hf : Fn P f args' hin r hs) (ha : frzs hp ρ 100 args = some (args', p, l)) (hb : frzH hp ρ ρ = some (hin, q, l'))
      (hn : nodup ρ = true) (ho : (p && q && (noTmp r && noTmpH hs) || noOld r && noOldH hs) = true) (hk : allIn (List.length hin) hs = true) (hs' : shapes hin hs) : To P hp id (.call f args) log (.ok (ren (bk ρ id) r) (renH (bk ρ id) hs) (l ++ (l' ++ log)))
  | pn {f : FuncId} {args : List AV} {log : List Nat} (ρ : List Nat) {args' : List AV} {hin : List Blk} {r : AV} {hs : List (Nat × Option Blk)} {p q : Bool} {l l' : List Nat}
      (hf : FnP P f args' hin r hs) (ha : frzs hp ρ 100 args = some (args', p, l)) (hb : frzH hp ρ ρ = some (hin, q, l'))
      (hn : nodup ρ = true) (ho : (p && q && (noTmp r && noTmpH hs) || noOld r && noOldH hs) = true) (hk : allIn (List.length hin) hs = true) (hs' : shapes hin hs) : To P hp id (.call f args) log (.panic (ren (bk ρ id) r) (renH (bk ρ id) hs) (l ++ (l' ++ log)))

theorem allB_get : ∀ {n k : Nat} {p : Nat → Prop}, allB k n p → ∀ i, k ≤ i → i < k + n → p i
  | 0, k, p, _, i, h1, h2 => by omega
  | n + 1, k, p, h, i, h1, h2 => by
    by_cases e : i = k
    · subst e; exact h.1
    · exact allB_get h.2 i (by omega) (by omega)

theorem run_to {P : Program} {hp : Nat → Option Blk} {id : Nat} : ∀ {t : Tr} {log : List Nat} {K : Out → Prop}, t.run P hp id log K → ∃ o, To P hp id t log o ∧ K o
  | .ret v hs, log, _, h => ⟨_, .ret v hs log, h⟩
  | .rd i k, log, _, h => by obtain ⟨o, h1, h2⟩ := run_to (t := k (hp i)) h; exact ⟨o, .rd h1, h2⟩
  | .vc p k, log, _, h => by obtain ⟨o, h1, h2⟩ := run_to (t := k) h.2; exact ⟨o, .vc h.1 h1, h2⟩
  | .cs z n k, log, _, h => by
    obtain ⟨⟨h0, h1⟩, h2⟩ := h
    have hz : z = (z.toNat : Int) := by omega
    obtain ⟨o, h3, h4⟩ := run_to (t := k z.toNat) (allB_get h2 z.toNat (by omega) (by omega) hz)
    exact ⟨o, .cs z.toNat (by omega) hz h3, h4⟩
  | .call f args, log, _, h => by
    cases h with
    | fn ρ hf ha hb hn ho hk hs k => exact ⟨_, .fn ρ hf ha hb hn ho hk hs, k⟩
    | pn ρ hf ha hb hn ho hk hs k => exact ⟨_, .pn ρ hf ha hb hn ho hk hs, k⟩
  | .panic v, log, _, h => ⟨_, .panic v log, h⟩
  | .bad, _, _, h => h.elim

section
variable {P : Program} {hp : Nat → Option Blk} {id : Nat} {log : List Nat} {o : Out}
theorem To.ret_inv {v : AV} {hs : List (Nat × Option Blk)} (h : To P hp id (.ret v hs) log o) : o = .ok v hs log := by cases h; rfl
theorem To.vc_inv {p : Prop} {k : Tr} (h : To P hp id (.vc p k) log o) : p ∧ To P hp id k log o := by cases h; exact ⟨‹_›, ‹_›⟩
theorem To.cs_inv {z : Int} {n : Nat} {k : Nat → Tr} (h : To P hp id (.cs z n k) log o) : ∃ i : Nat, i < n ∧ z = i ∧ To P hp id (k i) log o := by cases h; exact ⟨_, ‹_›, ‹_›, ‹_›⟩
theorem To.rd_inv {i : Nat} {k : Option Blk → Tr} (h : To P hp id (.rd i k) log o) : To P hp id (k (hp i)) (i :: log) o := by cases h; assumption
theorem To.bad_inv (h : To P hp id .bad log o) : False := by cases h
theorem To.chk_inv {b : Bool} {k : Tr} (h : To P hp id (chk b k) log o) : b = true ∧ To P hp id k log o := by
  cases b with
  | true => exact ⟨rfl, h⟩
  | false => exact (To.bad_inv h).elim
theorem To.forceT_inv {n : Nat} {k : Nat → Tr} (h : To P hp id (forceT n k) log o) : To P hp id (k n) log o := by cases n <;> exact h
theorem To.asTy_inv {t u : Ty} {xs : List (D u)} {k : List (D t) → Tr} (h : To P hp id (asTy t u xs k) log o) : ∃ e : u = t, To P hp id (k (e ▸ xs)) log o := by
  unfold asTy at h
  split at h
  · rename_i hb
    have e := Ty.eq_of_beq hb
    subst e
    exact ⟨rfl, h⟩
  · exact (To.bad_inv h).elim
end

/-- What a type's row says is so. -/
def UD (E : Env) (P : Program) (i : TI) : TypeDesc → Prop
  | .struct fs => i.kd = 4 ∧ i.agg = true ∧ i.len = 0 ∧ i.ik = none ∧ i.flds = fs.toList.map (fun f => (f.offset, f.type)) ∧
      ∀ f ∈ fs.toList, ∃ x, P.info? f.type = some x ∧ x.size ≠ 0 ∧ (ti f.type E).sz = x.size
  | .array n e => i.kd = 5 ∧ i.agg = true ∧ i.len = n ∧ i.el = e ∧ i.ik = none ∧ i.flds = [] ∧ ((ti e E).ok = true → i.sz = n * (ti e E).sz)
  | .slice e => i.kd = 3 ∧ i.agg = false ∧ i.len = 0 ∧ i.el = e ∧ i.ik = none ∧ i.flds = []
  | .int k => i.kd = 2 ∧ i.agg = false ∧ i.len = 0 ∧ i.ik = some k ∧ i.flds = []
  | .bool => i.kd = 1 ∧ i.agg = false ∧ i.len = 0 ∧ i.ik = none ∧ i.flds = []
  | .pointer _ => i.kd = 6 ∧ i.agg = false ∧ i.len = 0 ∧ i.ik = none ∧ i.flds = [] ∧ i.ty = none
  | .map _ _ => i.kd = 7 ∧ i.agg = false ∧ i.len = 0 ∧ i.ik = none ∧ i.flds = [] ∧ i.ty = none
  | .func _ _ _ => i.kd = 8 ∧ i.agg = false ∧ i.len = 0 ∧ i.ik = none ∧ i.flds = [] ∧ i.ty = none
  | .interface _ => i.kd = 9 ∧ i.agg = false ∧ i.len = 0 ∧ i.ik = none ∧ i.flds = [] ∧ i.ty = none
  | _ => False

structure TIok (P : Program) (E : Env) (T : TypeId) (i : TI) : Prop where
  s1 : i.agg = false → i.sz = 1
  zs : ∀ x z, P.info? T = some x → x.zero = some z → z.cells.size = i.sz
  u : ∃ d, P.underlying T = some d ∧ UD E P i d
  inf : ∃ x z, P.info? T = some x ∧ x.size = i.sz ∧ x.bytes = i.bytes ∧ x.zero = some z ∧ (∀ c, RL c i.zero z.cells.toList) ∧
    (∀ t, i.ty = some t → sz t = i.sz ∧ ∀ w ok, RD w ok t (dz t) z.cells.toList) ∧
    (∀ t, (ti i.el E).ty = some t → i.len ≠ 0 → ∃ y, (P.info? i.el).bind (·.zero) = some y ∧ z.cells.toList = (List.replicate i.len y.cells.toList).flatten)
  ro : ∀ x z t, P.info? T = some x → x.zero = some z → i.ty = some t → ∀ w F, RO w t (dz t) z.cells.toList F

def EnvOK (P : Program) (E : Env) : Prop := ∀ T, ti T E = TI.none ∨ TIok P E T (ti T E)
theorem EnvOK.ok {P : Program} {E : Env} (h : EnvOK P E) {T : TypeId} (hk : (ti T E).ok = true) : TIok P E T (ti T E) := by
  rcases h T with h | h
  · rw [h] at hk; cases hk
  · exact h
theorem EnvOK.kd {P : Program} {E : Env} (h : EnvOK P E) {T : TypeId} (hk : (ti T E).kd ≠ 0) : TIok P E T (ti T E) := by
  rcases h T with h | h
  · rw [h] at hk; exact absurd rfl hk
  · exact h
theorem EnvOK.ik {P : Program} {E : Env} (h : EnvOK P E) {T : TypeId} (hk : (ti T E).ik ≠ none) : TIok P E T (ti T E) := by
  rcases h T with h | h
  · rw [h] at hk; exact absurd rfl hk
  · exact h
theorem EnvOK.ty {P : Program} {E : Env} (h : EnvOK P E) {T : TypeId} (hk : (ti T E).ty ≠ none) : TIok P E T (ti T E) := by
  rcases h T with h | h
  · rw [h] at hk; exact absurd rfl hk
  · exact h
theorem EnvOK.sz {P : Program} {E : Env} (h : EnvOK P E) {T : TypeId} (hk : (ti T E).sz ≠ 0) : TIok P E T (ti T E) := by
  rcases h T with h | h
  · rw [h] at hk; exact absurd rfl hk
  · exact h
theorem EnvOK.len {P : Program} {E : Env} (h : EnvOK P E) {T : TypeId} (hk : (ti T E).len ≠ 0) : TIok P E T (ti T E) := by
  rcases h T with h | h
  · rw [h] at hk; exact absurd rfl hk
  · exact h
theorem EnvOK.flds {P : Program} {E : Env} (h : EnvOK P E) {T : TypeId} (hk : (ti T E).flds ≠ []) : TIok P E T (ti T E) := by
  rcases h T with h | h
  · rw [h] at hk; exact absurd rfl hk
  · exact h

theorem UD.bool {E : Env} {P : Program} {i : TI} {d : TypeDesc} (h : UD E P i d) (hk : i.kd = 1) : d = .bool := by
  cases d <;> simp [UD, hk] at h ⊢
theorem UD.slice {E : Env} {P : Program} {i : TI} {d : TypeDesc} (h : UD E P i d) (hk : i.kd = 3) : d = .slice i.el := by
  cases d <;> simp [UD, hk] at h ⊢
  exact h.2.2.1.symm
theorem UD.int {E : Env} {P : Program} {i : TI} {d : TypeDesc} (h : UD E P i d) {k : IntKind} (hk : i.ik = some k) : d = .int k := by
  cases d <;> simp [UD, hk] at h ⊢
  exact h.2.2.2.1.symm
theorem UD.array {E : Env} {P : Program} {i : TI} {d : TypeDesc} (h : UD E P i d) (hk : i.len ≠ 0) : d = .array i.len i.el := by
  cases d <;> simp_all [UD]

/-- An operation that reads no memory and writes none. -/
theorem R.val_inv {c : Cx} {v x : Value} (h : R c (.val v) x) : x = v := by cases h; rfl
theorem R.un_inv {c : Cx} {k : IntKind} {n : Nat} {x : Value} (h : R c (.un k n) x) : x = .int k n := by cases h; rfl
theorem R.tt_inv {c : Cx} {x : Value} (h : R c .tt x) : x = .bool true := by cases h; rfl
theorem R.ff_inv {c : Cx} {x : Value} (h : R c .ff x) : x = .bool false := by cases h; rfl
theorem R.nil_inv {c : Cx} {t : Ty} {x : Value} (h : R c (.nil t) x) : x = .slice none 0 0 := by cases h; rfl

theorem R.nrm {c : Cx} {x : AV} {v : Value} (h : R c x v) : R c (nrm x) v := by
  cases x <;> first | exact h | (rw [R.tt_inv h]; exact .val _) | (rw [R.ff_inv h]; exact .val _)

theorem R.fixNil {c : Cx} {E : Env} {T : TypeId} {x : AV} {v : Value} (h : R c x v) : R c (fixNil E T x) v := by
  unfold Fw.fixNil
  split
  · rw [R.val_inv h]
    split
    · exact .nil _
    · exact .val _
  · exact h

theorem R.cst (c : Cx) (v : Value) : R c (cst v) v := by
  unfold Fw.cst
  split <;> first | exact .tt | exact .ff | exact .un _ _ | exact .val _

theorem ikEq_eq {k l : IntKind} (h : ikEq k l = true) : k = l := by cases k <;> cases l <;> simp_all [ikEq]

section
variable {P : Program} {hp : Nat → Option Blk} {id : Nat} {log : List Nat} {o : Out} {c : Cx}

theorem arith_sound {op : BinOp} {k : IntKind} {a b : Int} (h : To P hp id (arith op k a b) log o) (w : World) (T : TypeId) (ho : op ≠ .shl ∧ op ≠ .shr) :
    ∃ u v, o = .ok u [] log ∧ (Go.binOp op T (.int k a) (.int k b)).run P w = .ok v w ∧ R c u v := by
  obtain ⟨h1, h2⟩ := ho
  unfold arith at h
  cases op <;> simp only at h <;> first
    | exact absurd rfl h1
    | exact absurd rfl h2
    | exact (To.bad_inv h).elim
    | (obtain ⟨hv, h⟩ := To.vc_inv h
       rw [To.ret_inv h]
       refine ⟨_, _, rfl, ?_, .val _⟩
       first
         | (simp [Go.binOp, Op.intArith, inr_wrap hv])
         | (simp [Go.binOp, Op.intDiv, hv.1, inr_wrap hv.2])
         | (simp [Go.binOp, Op.intDiv, hv]))
    | (rw [To.ret_inv h]
       exact ⟨_, _, rfl, by simp [Go.binOp, Op.intCmp], .val _⟩)

theorem uarith_sound {op : BinOp} {k : IntKind} {a b : Nat} (h : To P hp id (uarith op k a b) log o) (hu : isU k = true) (w : World) (T : TypeId) (ho : op ≠ .shl ∧ op ≠ .shr) :
    ∃ u v, o = .ok u [] log ∧ (Go.binOp op T (.int k a) (.int k b)).run P w = .ok v w ∧ R c u v := by
  obtain ⟨h1, h2⟩ := ho
  unfold uarith at h
  cases op <;> simp only at h <;> first
    | exact absurd rfl h1
    | exact absurd rfl h2
    | exact (To.bad_inv h).elim
    | skip
  case add =>
    obtain ⟨hv, h⟩ := To.vc_inv h
    rw [To.ret_inv h]
    exact ⟨_, _, rfl, by simp [Go.binOp, Op.intArith, ← Int.natCast_add, u_wrap hv hu], .un _ _⟩
  case sub =>
    obtain ⟨hv, h⟩ := To.vc_inv h
    rw [To.ret_inv h]
    exact ⟨_, _, rfl, by simp [Go.binOp, Op.intArith, ← Int.natCast_sub hv.1, u_wrap (Nat.le_trans (Nat.sub_le a b) hv.2) hu], .un _ _⟩
  case mul =>
    rw [To.ret_inv h]
    exact ⟨_, _, rfl, by simp only [Go.binOp, ne_eq, not_true, if_false, Op.intArith, Sem.run_pure, ← Int.natCast_mul, u_wrap_mod _ hu], .un _ _⟩
  case quo =>
    obtain ⟨hv, h⟩ := To.vc_inv h
    rw [To.ret_inv h]
    refine ⟨_, _, rfl, ?_, .un _ _⟩
    have e : (a : Int).tdiv b = ((a / b : Nat) : Int) := by rw [Int.tdiv_eq_ediv_of_nonneg (by omega)]; rfl
    have hz : ¬ ((b : Int) = 0) := by omega
    simp only [Go.binOp, ne_eq, not_true, if_false, Op.intDiv, if_neg hz, Sem.run_pure, e, u_wrap (Nat.le_trans (Nat.div_le_self a b) hv.2) hu]
  case rem =>
    obtain ⟨hv, h⟩ := To.vc_inv h
    rw [To.ret_inv h]
    refine ⟨_, _, rfl, ?_, .un _ _⟩
    have e : (a : Int).tmod b = ((a % b : Nat) : Int) := by rw [Int.tmod_eq_emod_of_nonneg (by omega)]; rfl
    have hz : ¬ ((b : Int) = 0) := by omega
    simp only [Go.binOp, ne_eq, not_true, if_false, Op.intDiv, if_neg hz, Sem.run_pure, e]
  case and =>
    obtain ⟨hv, h⟩ := To.vc_inv h
    rw [To.ret_inv h]
    refine ⟨_, _, rfl, ?_, .un _ _⟩
    simp only [Go.binOp, ne_eq, not_true, if_false, Op.intBits, Sem.run_pure, u_and hv, u_wrap (Nat.le_trans Nat.and_le_left hv) hu]
  case or =>
    obtain ⟨⟨hv, hv'⟩, h⟩ := To.vc_inv h
    rw [To.ret_inv h]
    refine ⟨_, _, rfl, ?_, .un _ _⟩
    have : a ||| b ≤ umax k := by
      have := Nat.or_lt_two_pow (umax_lt hv) (umax_lt hv')
      cases k <;> simp [umax, IntKind.bits, isU] at * <;> omega
    simp only [Go.binOp, ne_eq, not_true, if_false, Op.intBits, Sem.run_pure, u_or hv hv', u_wrap this hu]
  case xor =>
    obtain ⟨⟨hv, hv'⟩, h⟩ := To.vc_inv h
    rw [To.ret_inv h]
    refine ⟨_, _, rfl, ?_, .un _ _⟩
    have : a ^^^ b ≤ umax k := by
      have := Nat.xor_lt_two_pow (umax_lt hv) (umax_lt hv')
      cases k <;> simp [umax, IntKind.bits, isU] at * <;> omega
    simp only [Go.binOp, ne_eq, not_true, if_false, Op.intBits, Sem.run_pure, u_xor hv hv', u_wrap this hu]
  case andNot =>
    obtain ⟨hv, h⟩ := To.vc_inv h
    rw [To.ret_inv h]
    refine ⟨_, _, rfl, ?_, .un _ _⟩
    simp only [Go.binOp, ne_eq, not_true, if_false, Op.intBits, Sem.run_pure, u_ndiff hv, u_wrap (Nat.le_trans (ndiff_le a b) hv) hu]
  case eql =>
    rw [To.ret_inv h]
    have e : ((a : Int) == b) = (a == b) := by rw [Bool.eq_iff_iff]; simp; omega
    exact ⟨_, _, rfl, by simp only [Go.binOp, ne_eq, not_true, if_false, Op.intCmp, Sem.run_pure, e], .val _⟩
  case neq =>
    rw [To.ret_inv h]
    have e : ((a : Int) != b) = (a != b) := by rw [Bool.eq_iff_iff]; simp; omega
    exact ⟨_, _, rfl, by simp only [Go.binOp, ne_eq, not_true, if_false, Op.intCmp, Sem.run_pure, e], .val _⟩
  all_goals
    rw [To.ret_inv h]
    exact ⟨_, _, rfl, by simp [Go.binOp, Op.intCmp]; try omega, .val _⟩

end
end Go.Fw
namespace Go.Fw
open Go Go.RowKit
section
variable {P : Program} {hp : Nat → Option Blk} {id : Nat} {log : List Nat} {o : Out} {c : Cx}

theorem eqGuard_int (op : BinOp) (T : TypeId) (x y : Operand) (k l : IntKind) (a b : Int) (w : World) : (eqGuard op T x y (.int k a) (.int l b)).run P w = .ok () w := by
  cases op <;> simp [eqGuard]

theorem eqGuard_bool (op : BinOp) (T : TypeId) (x y : Operand) (a b : Bool) (w : World) : (eqGuard op T x y (.bool a) (.bool b)).run P w = .ok () w := by
  cases op <;> simp [eqGuard]

theorem eqGuard_slice (op : BinOp) (T : TypeId) (x y : Operand) (a b : Option Addr) (n m p q : Nat) (w : World) : (eqGuard op T x y (.slice a n m) (.slice b p q)).run P w = .ok () w := by
  cases op <;> simp [eqGuard]

theorem binOp_shl (T : TypeId) (k l : IntKind) (a b : Int) : Go.binOp .shl T (.int k a) (.int l b) = Op.shift .shl k a l b := rfl
theorem binOp_shr (T : TypeId) (k l : IntKind) (a b : Int) : Go.binOp .shr T (.int k a) (.int l b) = Op.shift .shr k a l b := rfl

theorem run_shl {k l : IntKind} {a n : Nat} (h : a <<< n ≤ umax k) (hu : isU k = true) (w : World) (T : TypeId) :
    (Go.binOp .shl T (.int k a) (.int l n)).run P w = .ok (.int k ((a <<< n : Nat) : Int)) w := by
  have hz : ¬ ((n : Int) < 0) := by omega
  simp only [binOp_shl, Op.shift, if_neg hz, Int.toNat_natCast, Sem.run_pure, u_shl h hu]

theorem run_shr {k l : IntKind} {a n : Nat} (h : n ≤ k.bits ∨ a ≤ umax k) (w : World) (T : TypeId) :
    (Go.binOp .shr T (.int k a) (.int l n)).run P w = .ok (.int k ((a >>> n : Nat) : Int)) w := by
  have hz : ¬ ((n : Int) < 0) := by omega
  simp only [binOp_shr, Op.shift, if_neg hz, Int.toNat_natCast, Sem.run_pure, u_shr h]

theorem run_equal_bool {T : TypeId} (h : P.underlying T = some .bool) (a b : Bool) (w : World) : (Op.equal T (.bool a) (.bool b)).run P w = .ok (a == b) w := by
  show (Op.equalIn (9999 + 1) T (.bool a) (.bool b)).run P w = _
  unfold Op.equalIn
  rw [Sem.run_bind, run_underlying h]
  rfl

theorem run_equal_nil {T e : TypeId} (h : P.underlying T = some (.slice e)) (w : World) : (Op.equal T (.slice none 0 0) (.slice none 0 0)).run P w = .ok true w := by
  show (Op.equalIn (9999 + 1) T (.slice none 0 0) (.slice none 0 0)).run P w = _
  unfold Op.equalIn
  rw [Sem.run_bind, run_underlying h]
  rfl

theorem run_equal_some {T e : TypeId} (h : P.underlying T = some (.slice e)) (a : Addr) (n m : Nat) (w : World) : (Op.equal T (.slice (some a) n m) (.slice none 0 0)).run P w = .ok false w := by
  show (Op.equalIn (9999 + 1) T _ _).run P w = _
  unfold Op.equalIn
  rw [Sem.run_bind, run_underlying h]
  rfl

theorem guard_then {x : Sem Unit} {y : Sem Value} {w : World} {r : Result Value} (h : x.run P w = .ok () w) (h' : y.run P w = r) : (do x; y : Sem Value).run P w = r := by
  rw [Sem.run_bind, h]; exact h'

theorem binop_sound {E : Env} (hE : EnvOK P E) {op : BinOp} {x y : AV} {vx vy : Value} {T : TypeId} (hx : R c x vx) (hy : R c y vy) (h : To P hp id (binop (ti T E) op x y) log o) (w : World) (ox oy : Operand) :
    ∃ u v, o = .ok u [] log ∧ (do eqGuard op T ox oy vx vy; Go.binOp op T vx vy : Sem Value).run P w = .ok v w ∧ R c u v := by
  have hx := hx.nrm
  have hy := hy.nrm
  unfold binop at h
  generalize nrm x = x' at *
  generalize nrm y = y' at *
  split at h
  · rename_i k a k' b
    rw [R.val_inv hx, R.val_inv hy]
    by_cases h1 : op = .shl
    · subst h1; exact (To.bad_inv h).elim
    by_cases h2 : op = .shr
    · subst h2; exact (To.bad_inv h).elim
    have h' : To P hp id (chk (ikEq k k') (arith op k a b)) log o := by cases op <;> first | exact h | exact absurd rfl h1 | exact absurd rfl h2
    obtain ⟨e, h''⟩ := To.chk_inv h'
    have e := ikEq_eq e
    subst e
    obtain ⟨u, v, r1, r2, r3⟩ := arith_sound (c := c) h'' w T ⟨h1, h2⟩
    exact ⟨u, v, r1, guard_then (eqGuard_int ..) r2, r3⟩
  · rename_i k a k' b
    rw [R.un_inv hx, R.un_inv hy]
    by_cases h1 : op = .shl
    · subst h1
      obtain ⟨hu, h⟩ := To.chk_inv h
      obtain ⟨hv, h⟩ := To.vc_inv h
      rw [To.ret_inv h]
      exact ⟨_, _, rfl, guard_then (eqGuard_int ..) (run_shl hv hu w T), .un _ _⟩
    by_cases h2 : op = .shr
    · subst h2
      obtain ⟨hv, h⟩ := To.vc_inv h
      rw [To.ret_inv h]
      exact ⟨_, _, rfl, guard_then (eqGuard_int ..) (run_shr hv w T), .un _ _⟩
    have h' : To P hp id (chk (ikEq k k') (chk (isU k) (uarith op k a b))) log o := by cases op <;> first | exact h | exact absurd rfl h1 | exact absurd rfl h2
    obtain ⟨e, h''⟩ := To.chk_inv h'
    obtain ⟨hu, h3⟩ := To.chk_inv h''
    have e := ikEq_eq e
    subst e
    obtain ⟨u, v, r1, r2, r3⟩ := uarith_sound (c := c) h3 hu w T ⟨h1, h2⟩
    exact ⟨u, v, r1, guard_then (eqGuard_int ..) r2, r3⟩
  · rename_i k a k' z
    rw [R.un_inv hx, R.val_inv hy]
    split at h
    · obtain ⟨hu, h⟩ := To.chk_inv h
      obtain ⟨⟨h0, hv⟩, h⟩ := To.vc_inv h
      rw [To.ret_inv h]
      obtain ⟨n, rfl⟩ := Int.eq_ofNat_of_zero_le h0
      exact ⟨_, _, rfl, guard_then (eqGuard_int ..) (run_shl hv hu w T), .un _ _⟩
    · obtain ⟨⟨h0, hv⟩, h⟩ := To.vc_inv h
      rw [To.ret_inv h]
      obtain ⟨n, rfl⟩ := Int.eq_ofNat_of_zero_le h0
      exact ⟨_, _, rfl, guard_then (eqGuard_int ..) (run_shr hv w T), .un _ _⟩
    · exact (To.bad_inv h).elim
  · rename_i a b
    rw [R.val_inv hx, R.val_inv hy]
    obtain ⟨hk, h⟩ := To.chk_inv h
    have hk := Nat.eq_of_beq_eq_true hk
    obtain ⟨d, hd, hd'⟩ := (hE.kd (T := T) (by omega)).u
    have := hd'.bool hk
    subst this
    split at h
    · rw [To.ret_inv h]
      exact ⟨_, _, rfl, guard_then (eqGuard_bool ..) (by simp [Go.binOp, run_equal_bool hd]), .val _⟩
    · rw [To.ret_inv h]
      exact ⟨_, _, rfl, guard_then (eqGuard_bool ..) (by simp [Go.binOp, run_equal_bool hd]; cases a <;> cases b <;> rfl), .val _⟩
    · exact (To.bad_inv h).elim
  · rw [R.nil_inv hx, R.val_inv hy]
    obtain ⟨hk, h⟩ := To.chk_inv h
    have hk := Nat.eq_of_beq_eq_true hk
    obtain ⟨d, hd, hd'⟩ := (hE.kd (T := T) (by omega)).u
    have := hd'.slice hk
    subst this
    split at h
    · rw [To.ret_inv h]
      exact ⟨_, _, rfl, guard_then (eqGuard_slice ..) (by simp [Go.binOp, run_equal_nil hd]), .tt⟩
    · rw [To.ret_inv h]
      exact ⟨_, _, rfl, guard_then (eqGuard_slice ..) (by simp [Go.binOp, run_equal_nil hd]), .ff⟩
    · exact (To.bad_inv h).elim
  · rename_i o' t' xs
    obtain ⟨hk, h⟩ := To.chk_inv h
    have hk := Nat.eq_of_beq_eq_true hk
    obtain ⟨d, hd, hd'⟩ := (hE.kd (T := T) (by omega)).u
    have := hd'.slice hk
    subst this
    rw [R.val_inv hy]
    cases hx with
    | dat hr =>
      obtain ⟨a, cap, e, hc, hr⟩ := hr
      cases e
      split at h
      · obtain ⟨hne, h⟩ := To.vc_inv h
        obtain ⟨bl, off, rfl, _⟩ := hr hne
        rw [To.ret_inv h]
        exact ⟨_, _, rfl, guard_then (eqGuard_slice ..) (by simp [Go.binOp, run_equal_some hd]), .ff⟩
      · obtain ⟨hne, h⟩ := To.vc_inv h
        obtain ⟨bl, off, rfl, _⟩ := hr hne
        rw [To.ret_inv h]
        exact ⟨_, _, rfl, guard_then (eqGuard_slice ..) (by simp [Go.binOp, run_equal_some hd]), .tt⟩
      · exact (To.bad_inv h).elim
  · obtain ⟨hk, h⟩ := To.chk_inv h
    have hk := Nat.eq_of_beq_eq_true hk
    obtain ⟨d, hd, hd'⟩ := (hE.kd (T := T) (by omega)).u
    have := hd'.slice hk
    subst this
    rw [R.val_inv hy, R.val_inv hx]
    split at h
    · rw [To.ret_inv h]
      exact ⟨_, _, rfl, guard_then (eqGuard_slice ..) (by simp [Go.binOp, run_equal_some hd]), .ff⟩
    · rw [To.ret_inv h]
      exact ⟨_, _, rfl, guard_then (eqGuard_slice ..) (by simp [Go.binOp, run_equal_some hd]), .tt⟩
    · exact (To.bad_inv h).elim
  · exact (To.bad_inv h).elim

theorem binopW_sound {E : Env} (hE : EnvOK P E) {op : BinOp} {x y : AV} {vx vy : Value} {T : TypeId} (hx : R c x vx) (hy : R c y vy) (h : To P hp id (binopW (ti T E) op x y) log o) (w : World) (ox oy : Operand) :
    ∃ u v, o = .ok u [] log ∧ (do eqGuard op T ox oy vx vy; Go.binOp op T vx vy : Sem Value).run P w = .ok v w ∧ R c u v := by
  unfold binopW at h
  split at h
  · have hx := hx.nrm
    have hy := hy.nrm
    generalize nrm x = x' at *
    generalize nrm y = y' at *
    split at h
    · rename_i k a k' b
      rw [R.val_inv hx, R.val_inv hy]
      obtain ⟨e, h2⟩ := To.chk_inv h
      have e := ikEq_eq e
      subst e
      rw [To.ret_inv h2]
      exact ⟨_, _, rfl, guard_then (eqGuard_int ..) (by simp only [Go.binOp, ne_eq, not_true, if_false, Op.intArith, Sem.run_pure]), .val _⟩
    · exact (To.bad_inv h).elim
  · exact binop_sound hE hx hy h w ox oy

theorem run_equal_iface {T : TypeId} {ms : Array (String × TypeId)} (h : P.underlying T = some (.interface ms)) (t : TypeId) (v : Value) (w : World) : (Op.equal T (.iface t v) .nilIface).run P w = .ok false w := by
  show (Op.equalIn (9999 + 1) T _ _).run P w = _
  unfold Op.equalIn
  rw [Sem.run_bind, run_underlying h]
  rfl
theorem run_equal_nilIface {T : TypeId} {ms : Array (String × TypeId)} (h : P.underlying T = some (.interface ms)) (w : World) : (Op.equal T .nilIface .nilIface).run P w = .ok true w := by
  show (Op.equalIn (9999 + 1) T _ _).run P w = _
  unfold Op.equalIn
  rw [Sem.run_bind, run_underlying h]
  rfl
theorem run_equal_ptr {T e : TypeId} (h : P.underlying T = some (.pointer e)) (a : Addr) (w : World) : (Op.equal T (.pointer (some a)) (.pointer none)).run P w = .ok false w := by
  show (Op.equalIn (9999 + 1) T _ _).run P w = _
  unfold Op.equalIn
  rw [Sem.run_bind, run_underlying h]
  rfl
theorem run_equal_nilPtr {T e : TypeId} (h : P.underlying T = some (.pointer e)) (w : World) : (Op.equal T (.pointer none) (.pointer none)).run P w = .ok true w := by
  show (Op.equalIn (9999 + 1) T _ _).run P w = _
  unfold Op.equalIn
  rw [Sem.run_bind, run_underlying h]
  rfl
theorem eqGuard_iface (op : BinOp) (T : TypeId) (x : Operand) (a : Value) (w : World) : (eqGuard op T x (.const .nilIface) a .nilIface).run P w = .ok () w := by
  cases op <;> cases a <;> simp [eqGuard]
theorem eqGuard_ptr (op : BinOp) (T : TypeId) (x y : Operand) (a b : Option Addr) (w : World) : (eqGuard op T x y (.pointer a) (.pointer b)).run P w = .ok () w := by
  cases op <;> simp [eqGuard]
theorem UD.iface {E : Env} {P : Program} {i : TI} {d : TypeDesc} (h : UD E P i d) (hk : i.kd = 9) : ∃ ms, d = .interface ms := by
  cases d <;> simp_all [UD]
theorem UD.ptr {E : Env} {P : Program} {i : TI} {d : TypeDesc} (h : UD E P i d) (hk : i.kd = 6) : ∃ e, d = .pointer e := by
  cases d <;> simp_all [UD]

theorem isNil_sound {E : Env} (hE : EnvOK P E) {op : BinOp} {x : AV} {v vx : Value} {T : TypeId} (hx : R c x vx) (h : To P hp id (isNil op (ti T E) v x) log o) (w : World) (ox : Operand) :
    ∃ u y, o = .ok u [] log ∧ (do eqGuard op T ox (.const v) vx v; Go.binOp op T vx v : Sem Value).run P w = .ok y w ∧ R c u y := by
  unfold isNil at h
  split at h
  · cases hx
    obtain ⟨hk, h⟩ := To.chk_inv h
    have hk := Nat.eq_of_beq_eq_true hk
    obtain ⟨d, hd, hd'⟩ := (hE.kd (T := T) (by omega)).u
    obtain ⟨ms, rfl⟩ := hd'.iface hk
    split at h
    · rw [To.ret_inv h]
      exact ⟨_, _, rfl, guard_then (eqGuard_iface ..) (by simp [Go.binOp, run_equal_iface hd]), .ff⟩
    · rw [To.ret_inv h]
      exact ⟨_, _, rfl, guard_then (eqGuard_iface ..) (by simp [Go.binOp, run_equal_iface hd]), .tt⟩
    · exact (To.bad_inv h).elim
  · rw [R.val_inv hx]
    obtain ⟨hk, h⟩ := To.chk_inv h
    have hk := Nat.eq_of_beq_eq_true hk
    obtain ⟨d, hd, hd'⟩ := (hE.kd (T := T) (by omega)).u
    obtain ⟨ms, rfl⟩ := hd'.iface hk
    split at h
    · rw [To.ret_inv h]
      exact ⟨_, _, rfl, guard_then (eqGuard_iface ..) (by simp [Go.binOp, run_equal_nilIface hd]), .tt⟩
    · rw [To.ret_inv h]
      exact ⟨_, _, rfl, guard_then (eqGuard_iface ..) (by simp [Go.binOp, run_equal_nilIface hd]), .ff⟩
    · exact (To.bad_inv h).elim
  · rw [R.val_inv hx]
    obtain ⟨hk, h⟩ := To.chk_inv h
    have hk := Nat.eq_of_beq_eq_true hk
    obtain ⟨d, hd, hd'⟩ := (hE.kd (T := T) (by omega)).u
    obtain ⟨ms, rfl⟩ := hd'.ptr hk
    split at h
    · rw [To.ret_inv h]
      exact ⟨_, _, rfl, guard_then (eqGuard_ptr ..) (by simp [Go.binOp, run_equal_nilPtr hd]), .tt⟩
    · rw [To.ret_inv h]
      exact ⟨_, _, rfl, guard_then (eqGuard_ptr ..) (by simp [Go.binOp, run_equal_nilPtr hd]), .ff⟩
    · exact (To.bad_inv h).elim
  · cases hx
    obtain ⟨hk, h⟩ := To.chk_inv h
    have hk := Nat.eq_of_beq_eq_true hk
    obtain ⟨d, hd, hd'⟩ := (hE.kd (T := T) (by omega)).u
    obtain ⟨ms, rfl⟩ := hd'.ptr hk
    split at h
    · rw [To.ret_inv h]
      exact ⟨_, _, rfl, guard_then (eqGuard_ptr ..) (by simp [Go.binOp, run_equal_ptr hd]), .ff⟩
    · rw [To.ret_inv h]
      exact ⟨_, _, rfl, guard_then (eqGuard_ptr ..) (by simp [Go.binOp, run_equal_ptr hd]), .tt⟩
    · exact (To.bad_inv h).elim
  · cases hx
    obtain ⟨hk, h⟩ := To.chk_inv h
    have hk := Nat.eq_of_beq_eq_true hk
    obtain ⟨d, hd, hd'⟩ := (hE.kd (T := T) (by omega)).u
    obtain ⟨ms, rfl⟩ := hd'.ptr hk
    split at h
    · rw [To.ret_inv h]
      exact ⟨_, _, rfl, guard_then (eqGuard_ptr ..) (by simp [Go.binOp, run_equal_ptr hd]), .ff⟩
    · rw [To.ret_inv h]
      exact ⟨_, _, rfl, guard_then (eqGuard_ptr ..) (by simp [Go.binOp, run_equal_ptr hd]), .tt⟩
    · exact (To.bad_inv h).elim
  · exact (To.bad_inv h).elim

theorem conv_sound {E : Env} (hE : EnvOK P E) {src dst : TypeId} {x : AV} {vx : Value} (hx : R c x vx) (hs : (ti src E).ok = true)
    (h : To P hp id (conv (ti dst E) x) log o) (w : World) :
    ∃ u v, o = .ok u [] log ∧ (Go.convert src dst vx).run P w = .ok v w ∧ R c u v := by
  obtain ⟨ds, hds, _⟩ := (hE.ok hs).u
  have key : ∀ (k : IntKind) (l : IntKind) (n : Int), (ti dst E).ik = some k → (Go.convert src dst (.int l n)).run P w = .ok (.int k (k.wrap n)) w := by
    intro k l n hk
    obtain ⟨dd, hdd, hu⟩ := (hE.ik (T := dst) (by rw [hk]; simp)).u
    have := hu.int hk
    subst this
    unfold Go.convert
    rw [Sem.run_bind, run_underlying hds]
    simp only [Result.andThen_ok]
    rw [Sem.run_bind, run_underlying hdd]
    cases ds <;> rfl
  unfold conv at h
  have fin : ∀ {k : IntKind} {l : IntKind} {n : Int} {u : AV}, (ti dst E).ik = some k → vx = .int l n → o = .ok u [] log → R c u (.int k (k.wrap n)) →
      ∃ u v, o = .ok u [] log ∧ (Go.convert src dst vx).run P w = .ok v w ∧ R c u v :=
    fun hk hv ho hr => ⟨_, _, ho, by rw [hv]; exact key _ _ _ hk, hr⟩
  split at h
  iterate 4
    · rename_i hik
      obtain ⟨hv, h⟩ := To.vc_inv h
      refine fin hik (R.val_inv hx) (To.ret_inv h) ?_
      obtain ⟨n, rfl⟩ := Int.eq_ofNat_of_zero_le hv.1
      rw [Int.toNat_natCast, u_wrap (by simp [umax]; omega) rfl]
      exact .un _ _
  · rename_i hik
    obtain ⟨hv, h⟩ := To.vc_inv h
    refine fin hik (R.val_inv hx) (To.ret_inv h) ?_
    rw [inr_wrap hv]
    exact .val _
  iterate 4
    · rename_i hik
      obtain ⟨hv, h⟩ := To.vc_inv h
      refine fin hik (R.un_inv hx) (To.ret_inv h) ?_
      rw [u_wrap (by simp [umax]; omega) rfl]
      exact .un _ _
  · rename_i hik
    obtain ⟨hv, h⟩ := To.vc_inv h
    refine fin hik (R.un_inv hx) (To.ret_inv h) ?_
    rw [inr_wrap hv]
    exact .val _
  · exact (To.bad_inv h).elim
end
end Go.Fw
namespace Go.Fw
open Go Go.RowKit

theorem RD.cells {c : Cx} {o : Org} : ∀ {t : Ty} {x : D t} {cs : List Value}, RD c.w (c.ok o) t x cs → RL c (cellsD o t x) cs
  | .i k, x, cs, h => by
    simp only [RD] at h
    subst h
    cases k <;> first | exact .cons (.un _ _) .nil | exact .cons (.val _) .nil
  | .b, x, cs, h => by
    simp only [RD] at h
    subst h
    exact .cons (.val _) .nil
  | .sl t, xs, cs, h => by
    obtain ⟨a, cap, e, _⟩ := id h
    subst e
    exact .cons (.dat h) .nil
  | .pr x y, p, cs, h => by
    simp only [RD] at h
    obtain ⟨c1, c2, rfl, h1, h2⟩ := h
    exact RL.append (RD.cells h1) (RD.cells h2)

theorem length_cellsD (o : Org) : ∀ (t : Ty) (x : D t), (cellsD o t x).length = sz t
  | .i k, x => by cases k <;> rfl
  | .b, _ => rfl
  | .sl _, _ => rfl
  | .pr x y, p => by simp [cellsD, sz, length_cellsD o x, length_cellsD o y]

theorem RD.one {w : World} {ok : Nat → Prop} : ∀ {t : Ty} {x : D t} {cs : List Value}, RD w ok t x cs → ∀ v ∈ cs, v.oneCell' = true
  | .i k, x, cs, h => by simp only [RD] at h; subst h; simp [Value.oneCell']
  | .b, x, cs, h => by simp only [RD] at h; subst h; simp [Value.oneCell']
  | .sl t, xs, cs, h => by obtain ⟨a, cap, e, _⟩ := h; subst e; simp [Value.oneCell']
  | .pr x y, p, cs, h => by
    simp only [RD] at h
    obtain ⟨c1, c2, rfl, h1, h2⟩ := h
    intro v hv
    rcases List.mem_append.1 hv with hv | hv
    · exact RD.one h1 v hv
    · exact RD.one h2 v hv

theorem R.one {c : Cx} {x : AV} {v : Value} (h : R c x v) (h1 : one x = true) : v.oneCell' = true := by
  cases h with
  | val v => cases v <;> first | rfl | cases h1
  | dat hr => obtain ⟨a, cap, e, _⟩ := hr; cases e; rfl
  | junk => cases h1
  | agg => cases h1
  | tup => cases h1
  | av => cases h1
  | _ => rfl

theorem RL.ones {c : Cx} {l : List AV} {vs : List Value} (h : RL c l vs) (h1 : ones l = true) : ∀ v ∈ vs, v.oneCell' = true := by
  induction l generalizing vs with
  | nil => cases h; simp
  | cons x l ih =>
    cases h with
    | cons hx hl =>
      simp only [Fw.ones] at h1
      split at h1
      · rename_i hh
        intro v hv
        rcases List.mem_cons.1 hv with rfl | hv
        · exact hx.one hh
        · exact ih hl h1 v hv
      · cases h1

theorem R.cells {c : Cx} {x : AV} {v : Value} (h : R c x v) (h1 : ∀ o t xs, x ≠ .av o t xs) (h2 : x ≠ .junk) (h3 : ∀ y, x = .val y → y.cells = #[y]) : RL c (avCells x) v.cells.toList := by
  cases h with
  | junk => exact absurd rfl h2
  | val v =>
    have := h3 v rfl
    rw [this]
    exact .cons (.val v) .nil
  | av => exact absurd rfl (h1 _ _ _)
  | agg hl => exact hl
  | tt => exact .cons (.val _) .nil
  | ff => exact .cons (.val _) .nil
  | dat hr => rename_i hr; obtain ⟨a, cap, e, _⟩ := id hr; cases e; exact .cons (.dat hr) .nil
  | un => exact .cons (.un _ _) .nil
  | nil => exact .cons (.nil _) .nil
  | ip a b c d => exact .cons (.ip a b c d) .nil
  | ptr a b => exact .cons (.ptr a b) .nil
  | pa a b c => exact .cons (.pa a b c) .nil
  | own a b c d e => exact .cons (.own a b c d e) .nil
  | sl a b c d e => exact .cons (.sl a b c d e) .nil
  | tup h => exact .cons (.tup h) .nil
  | clo h h' => exact .cons (.clo h h') .nil
  | ifc h => exact .cons (.ifc h) .nil

theorem nth_eq (l : List AV) (k : Nat) : nth l k = l.getD k .junk := by
  induction l generalizing k with
  | nil => rfl
  | cons x l ih => cases k with | zero => rfl | succ k => simpa [nth] using ih k

theorem cut_eq (l : List AV) (k n : Nat) : cut l k n = (l.drop k).take n := by
  induction l generalizing k n with
  | nil => cases n <;> simp [cut]
  | cons x l ih =>
    cases n with
    | zero => simp [cut]
    | succ n => cases k with | zero => simp [cut, ih] | succ k => simp [cut, ih]

theorem setAt_eq (l : List AV) (k : Nat) (cs : List AV) (h : k + cs.length ≤ l.length) : setAt l k cs = l.take k ++ cs ++ l.drop (k + cs.length) := by
  induction l generalizing k cs with
  | nil =>
    cases cs with
    | nil => simp [setAt]
    | cons c cs => simp at h
  | cons x l ih =>
    cases cs with
    | nil => simp [setAt]
    | cons c cs =>
      cases k with
      | zero => simp only [setAt]; rw [ih 0 cs (by simpa using h)]; simp [Nat.add_comm]
      | succ k =>
        simp only [setAt]
        rw [ih k (c :: cs) (by simp at h ⊢; omega)]
        rw [show k + 1 + (c :: cs).length = k + (c :: cs).length + 1 by omega, List.drop_succ_cons]
        simp

theorem RL.take {c : Cx} {l : List AV} {vs : List Value} (h : RL c l vs) (n : Nat) : RL c (l.take n) (vs.take n) := by
  induction l generalizing vs n with
  | nil => cases h; simp; exact .nil
  | cons x l ih =>
    cases h with
    | cons hx hl => cases n with | zero => simp; exact .nil | succ n => simpa using .cons hx (ih hl n)

theorem RL.drop {c : Cx} {l : List AV} {vs : List Value} (h : RL c l vs) (n : Nat) : RL c (l.drop n) (vs.drop n) := by
  induction l generalizing vs n with
  | nil => cases h; simp; exact .nil
  | cons x l ih =>
    cases h with
    | cons hx hl => cases n with | zero => simpa using .cons hx hl | succ n => simpa using ih hl n

theorem RL.setAt {c : Cx} {l cs : List AV} {vs us : List Value} (h : RL c l vs) (h' : RL c cs us) {k : Nat} (hk : k + cs.length ≤ l.length) :
    RL c (Fw.setAt l k cs) (vs.take k ++ us ++ vs.drop (k + us.length)) := by
  rw [setAt_eq l k cs hk, ← h'.length]
  exact RL.append (RL.append (h.take k) h') (h.drop _)

theorem hl_kills (id : Nat) (ids : List Nat) (h : List (Nat × Option Blk)) : hl id (kills ids h) = if id ∈ ids then none else hl id h := by
  induction ids with
  | nil => simp [kills]
  | cons i r ih =>
    simp only [kills, hl_cons, ih, List.mem_cons]
    by_cases e : i = id
    · simp [e]
    · have e' : ¬ id = i := fun x => e x.symm
      simp [e, e']

theorem kills_append (a b : List Nat) (h : List (Nat × Option Blk)) : kills (a ++ b) h = kills a (kills b h) := by
  induction a with
  | nil => rfl
  | cons x r ih => simp [kills, ih]

def St.kills (s : St) (ids : List Nat) : St := { s with h := Fw.kills ids s.h }

theorem al_kills {s : St} {ids : List Nat} {id : Nat} (h : ∀ i ∈ ids, s.al i) : (s.kills ids).al id ↔ s.al id := by
  induction ids with
  | nil => exact Iff.rfl
  | cons i r ih =>
    have hr := ih fun j hj => h j (by simp [hj])
    constructor
    · intro hx
      rcases (al_cons (s := s.kills r)).1 hx with rfl | hx
      · exact h _ (by simp)
      · exact hr.1 hx
    · intro hx
      exact (al_cons (s := s.kills r)).2 (Or.inr (hr.2 hx))

/-- Blocks die. -/
theorem HM.kills {bs : Bs} {φ : Ph} {s : St} {w : World} (h : HM bs φ s w) : ∀ (ids : List Nat), (∀ i ∈ ids, s.al i) →
    HM bs φ (s.kills ids) w ∧ (cx bs φ s w).Le (cx bs φ (s.kills ids) w)
  | [], _ => ⟨h, Cx.Le.refl _⟩
  | i :: r, hi => by
    obtain ⟨h1, h2⟩ := HM.kills h r fun j hj => hi j (by simp [hj])
    obtain ⟨h3, h4⟩ := h1.kill i ((al_kills fun j hj => hi j (by simp [hj])).2 (hi i (by simp)))
    exact ⟨h3, h2.trans h4⟩

/-- The reading hangs on what is looked up alone. -/
theorem cx_ext {bs : Bs} {φ : Ph} {s s' : St} {w : World} (h : ∀ id, hl id s.h = hl id s'.h) (ha : ∀ id, s.al id ↔ s'.al id) : cx bs φ s w = cx bs φ s' w := by
  have e1 : (fun id => hl id s.h) = fun id => hl id s'.h := funext h
  have e2 : s.al = s'.al := funext fun id => propext (ha id)
  simp only [cx, e1, e2]

theorem HM.ext {bs : Bs} {φ : Ph} {s s' : St} {w : World} (hm : HM bs φ s w) (h : ∀ id, hl id s.h = hl id s'.h) (ha : ∀ id, s.al id ↔ s'.al id) (hn : s.nx ≤ s'.nx) (hmm : s.m = s'.m) : HM bs φ s' w where
  kb id hi := Nat.lt_of_lt_of_le (hm.kb id ((ha id).2 hi)) hn
  h id b hb := by rw [← cx_ext h ha]; exact hm.h id b ((h id).trans hb)
  inj i j b hi hj := hm.inj i j b (by rw [h]; exact hi) (by rw [h]; exact hj)
  lo i b hi hp := by rw [← hmm]; exact hm.lo i b (by rw [h]; exact hi) hp
  ps i b hi hp := hm.ps i b (by rw [h]; exact hi) hp
  bd := hm.bd
  kp := hm.kp
  inc i hi := ⟨(ha i).1 (hm.inc i (hmm ▸ hi)).1, (hm.inc i (hmm ▸ hi)).2⟩

theorem R.own_inv {c : Cx} {i : Nat} {v : Value} (h : R c (.own i) v) : ∃ ad len cap, v = .slice ad len cap := by cases h; exact ⟨_, _, _, rfl⟩

/-- Rows of a block that is about to die, as data. -/
theorem dead_ok {bs : Bs} {φ : Ph} {s : St} {w : World} (hM : HM bs φ s w) {ids : List Nat} {i : Nat} (hi : i ∈ ids) (hm : s.m ≤ i) (hn : hl i s.h ≠ none) {b : Nat} (hb : φ.own i b) (o : Org) : (cx bs φ (s.kills ids) w).ok o b := by
  refine ⟨?_, ?_⟩
  · rintro ⟨j, hj, hp⟩
    have hj : hl j (Fw.kills ids s.h) ≠ none := hj
    rw [hl_kills] at hj
    split at hj
    · exact absurd rfl hj
    · rename_i hn2
      have := hM.inj j i b hj hn hp hb
      exact hn2 (this ▸ hi)
  · have hB : bs.B ≤ b := by
      rcases hM.lo i b hn hb with h | ⟨h, _⟩
      · exact h
      · omega
    cases o
    · exact hB
    · exact Or.inr hB
    · trivial

/-- The rows of a block, and where they lie, once it is dead. -/
theorem dead_rows {bs : Bs} {φ : Ph} {s : St} {w : World} (hM : HM bs φ s w) {ids : List Nat} (hal : ∀ i ∈ ids, s.al i) {i : Nat} (hi : i ∈ ids) (hm : s.m ≤ i) {o : Org} {t : Ty} {xs : List (D t)}
    (hx : hl i s.h = some (.arr o t xs) ∨ (hl i s.h = some (.deep t xs) ∧ o = .fr)) {b off : Nat} (hp : φ i = some (b, off)) :
    (cx bs φ (s.kills ids) w).ok o b ∧ RDs w ((cx bs φ (s.kills ids) w).ok o) t b off xs := by
  have hle := (hM.kills ids hal).2
  have hn : hl i s.h ≠ none := by rcases hx with h | ⟨h, _⟩ <;> rw [h] <;> simp
  refine ⟨dead_ok hM hi hm hn (Or.inl ⟨off, hp⟩) o, ?_⟩
  rcases hx with hx | ⟨hx, rfl⟩
  · rcases hM.h i _ hx with ⟨bl, off', cs, e, e1, e2, e3, e4⟩ | ⟨e1, _⟩
    · have e1 : φ i = some (bl, off') := e1
      rw [hp] at e1; cases e1
      exact e4.keep (hle.ok o) rfl
    · have e1 : φ i = none := e1
      rw [hp] at e1; cases e1
  · rcases hM.h i _ hx with ⟨bl, off', cs, e, e1, e2, e3, e4, e5⟩ | ⟨e1, _⟩
    · have e1 : φ i = some (bl, off') := e1
      rw [hp] at e1; cases e1
      exact e5.data fun b hb _ => dead_ok hM hi hm hn (Or.inr hb) .fr
    · have e1 : φ i = none := e1
      rw [hp] at e1; cases e1

/-- What a block of one's own holds, as data, once it is dead. -/
theorem own_data {bs : Bs} {φ : Ph} {s : St} {w : World} (hM : HM bs φ s w) {ids : List Nat} (hal : ∀ i ∈ ids, s.al i) {i : Nat} (hi : i ∈ ids) (hm : s.m ≤ i) {o : Org} {t : Ty} {xs : List (D t)}
    (hx : hl i s.h = some (.arr o t xs) ∨ (hl i s.h = some (.deep t xs) ∧ o = .fr)) {len cap : Nat} {ad : Option Addr} (hr : R (cx bs φ s w) (.own i) (.slice ad len cap)) :
    RD w ((cx bs φ (s.kills ids) w).ok o) (.sl t) xs [.slice ad len cap] := by
  have hsh : shp (hl i s.h) = some (t, xs.length) := by rcases hx with h | ⟨h, _⟩ <;> rw [h] <;> rfl
  cases hr with
  | own h1 h2 h3 h4 h5 =>
    have hlen : len = xs.length := h2 t _ hsh
    subst hlen
    refine ⟨ad, cap, rfl, h5, fun hne => ?_⟩
    have hpos : xs.length ≠ 0 := fun e => hne (List.eq_nil_of_length_eq_zero e)
    rcases h3 with (⟨b', off', off'', f1, f2, f3⟩ | ⟨f1, _, f3, _⟩) | ⟨f3, _⟩
    · have f3 := f3 t _ hsh
      simp at f3
      subst f3
      obtain ⟨k1, k2⟩ := dead_rows hM hal hi hm hx f1
      exact ⟨b', _, f2, k1, k2⟩
    · exact absurd f3 hpos
    · exact absurd f3 hpos

theorem Cx.ok_join {c : Cx} {o p : Org} {b : Nat} (h : c.ok o b ∨ c.ok p b) : c.ok (o.join p) b := by
  rcases h with ⟨h1, h2⟩ | ⟨h1, h2⟩ <;> refine ⟨h1, ?_⟩ <;> cases o <;> cases p <;> simp [Org.join] at h2 ⊢ <;> first | exact h2 | exact Or.inr h2 | trivial

theorem RD.join1 {c : Cx} {w : World} {o : Org} (p : Org) {t : Ty} {x : D t} {cs : List Value} (h : RD w (c.ok o) t x cs) : RD w (c.ok (o.join p)) t x cs :=
  h.keep fun _ _ hb => ⟨Cx.ok_join (Or.inl hb), rfl⟩
theorem RD.join2 {c : Cx} {w : World} (o : Org) {p : Org} {t : Ty} {x : D t} {cs : List Value} (h : RD w (c.ok p) t x cs) : RD w (c.ok (o.join p)) t x cs :=
  h.keep fun _ _ hb => ⟨Cx.ok_join (Or.inr hb), rfl⟩

/-- Cells read as a datum are that datum, once the blocks that went into it are dead. -/
theorem toD_sound {P : Program} {bs : Bs} {φ : Ph} {s : St} {w : World} (hM : HM bs φ s w) {id : Nat} {o : Out} :
    ∀ (t : Ty) {l : List AV} {vs : List Value} {k : D t → Org → List Nat → List AV → Tr} {log : List Nat}, RL (cx bs φ s w) l vs → To P (hl · s.h) id (toD s.m t l k) log o →
      ∃ d org ids rest log' v1 v2, To P (hl · s.h) id (k d org ids rest) log' o ∧ vs = v1 ++ v2 ∧ RL (cx bs φ s w) rest v2 ∧ (∀ i ∈ ids, s.al i) ∧
        ∀ ids', (∀ i ∈ ids', s.al i) → (∀ i ∈ ids, i ∈ ids') → RD w ((cx bs φ (s.kills ids') w).ok org) t d v1 := by
  intro t
  induction t with
  | i kd =>
    intro l vs k log hl h
    have h : To P (fun i => Fw.hl i s.h) id (toDi kd l k) log o := h
    cases kd <;> unfold toDi at h <;> split at h <;> first
      | (exact (To.bad_inv h).elim)
      | (rename_i e1 e2; cases e1; done)
      | (rename_i e1; cases e1; done)
      | (cases hl with
         | cons hx hl =>
           first | (have e := R.un_inv hx; subst e) | (have e := R.val_inv hx; subst e)
           exact ⟨_, _, _, _, _, [_], _, h, rfl, hl, (fun _ h => absurd h List.not_mem_nil), fun _ _ _ => by simp [RD, IK.z]⟩)
  | b =>
    intro l vs k log hl h
    have h : To P (fun i => Fw.hl i s.h) id (toDb l k) log o := h
    unfold toDb at h
    split at h <;> first
      | (exact (To.bad_inv h).elim)
      | (cases hl with
         | cons hx hl =>
           first | (have e := R.tt_inv hx; subst e) | (have e := R.ff_inv hx; subst e) | (have e := R.val_inv hx; subst e)
           exact ⟨_, _, _, _, _, [_], _, h, rfl, hl, (fun _ h => absurd h List.not_mem_nil), fun _ _ _ => by simp [RD]⟩)
  | sl t _ =>
    intro l vs k log hl h
    have h : To P (fun i => Fw.hl i s.h) id (toDsl s.m t l k) log o := h
    unfold toDsl at h
    split at h
    · cases hl with
      | cons hx hl =>
        have e := R.nil_inv hx; subst e
        exact ⟨_, _, _, _, _, [_], _, h, rfl, hl, (fun _ h => absurd h List.not_mem_nil), fun _ _ _ => ⟨none, 0, rfl, Nat.le_refl _, fun hne => absurd rfl hne⟩⟩
    · cases hl with
      | cons hx hl =>
        have e := R.val_inv hx; subst e
        exact ⟨_, _, _, _, _, [_], _, h, rfl, hl, (fun _ h => absurd h List.not_mem_nil), fun _ _ _ => ⟨none, 0, rfl, Nat.le_refl _, fun hne => absurd rfl hne⟩⟩
    · cases hl with
      | cons hx hl =>
        obtain ⟨e, h⟩ := To.asTy_inv h
        subst e
        cases hx with
        | dat hr =>
          exact ⟨_, _, _, _, _, [_], _, h, rfl, hl, (fun _ h => absurd h List.not_mem_nil), fun ids' h1 _ => RD.keep ((hM.kills ids' h1).2.ok _) hr⟩
    · cases hl with
      | cons hx hl =>
        obtain ⟨hm, h⟩ := To.chk_inv h
        have hm := Nat.le_of_ble_eq_true hm
        have h := To.rd_inv h
        split at h
        · rename_i o u xs hb
          obtain ⟨e, h⟩ := To.asTy_inv h
          subst e
          obtain ⟨ad, len, cap, e⟩ := R.own_inv hx
          subst e
          exact ⟨_, _, _, _, _, [_], _, h, rfl, hl, (fun j hj => by simp at hj; subst hj; exact al_of_hl hb), fun ids' h1 h2 => own_data hM h1 (h2 _ (by simp)) hm (Or.inl hb) hx⟩
        · rename_i u xs hb
          obtain ⟨e, h⟩ := To.asTy_inv h
          subst e
          obtain ⟨ad, len, cap, e⟩ := R.own_inv hx
          subst e
          exact ⟨_, _, _, _, _, [_], _, h, rfl, hl, (fun j hj => by simp at hj; subst hj; exact al_of_hl hb), fun ids' h1 h2 => own_data hM h1 (h2 _ (by simp)) hm (Or.inr ⟨hb, rfl⟩) hx⟩
        · exact (To.bad_inv h).elim
    · exact (To.bad_inv h).elim
  | pr x y ihx ihy =>
    intro l vs k log hl h
    have h : To P (fun i => Fw.hl i s.h) id (toD s.m x l fun d o ids r => toD s.m y r fun e p ids' r' => k (d, e) (o.join p) (ids ++ ids') r') log o := h
    obtain ⟨d, o1, ids1, r1, log1, v1, v2, h1, rfl, hr1, a1, d1⟩ := ihx hl h
    obtain ⟨e, o2, ids2, r2, log2, v3, v4, h2, rfl, hr2, a2, d2⟩ := ihy hr1 h1
    refine ⟨(d, e), o1.join o2, ids1 ++ ids2, r2, log2, v1 ++ v3, v4, h2, by simp, hr2, fun i hi => ?_, fun ids' h3 h4 => ?_⟩
    · rcases List.mem_append.1 hi with hi | hi
      · exact a1 i hi
      · exact a2 i hi
    · exact ⟨v1, v3, rfl, (d1 ids' h3 fun i hi => h4 i (by simp [hi])).join1 o2, (d2 ids' h3 fun i hi => h4 i (by simp [hi])).join2 o1⟩
/-- A datum whose slices are blocks of one's own, once these blocks are dead: F says what was theirs. -/
def ownF (φ : Ph) (ids : List Nat) (b : Nat) : Prop := ∃ i ∈ ids, φ.own i b

/-- A slice over a block of one's own, as rows of one's own. -/
theorem own_ro {bs : Bs} {φ : Ph} {s : St} {w : World} (hM : HM bs φ s w) {i : Nat} {t : Ty} {xs : List (D t)}
    (hx : (∃ o, hl i s.h = some (.arr o t xs) ∧ hasSl t = false) ∨ hl i s.h = some (.deep t xs)) {lo len cap : Nat} {ad : Option Addr}
    (h1 : lo + len ≤ xs.length) (h2 : slAt (cx bs φ s w) i lo len cap ad ∨ (len = 0 ∧ cap = 0)) (h3 : capOk (cx bs φ s w) i lo cap) (h4 : len ≤ cap) :
    RO w (.sl t) ((xs.drop lo).take len) [.slice ad len cap] (φ.own i) := by
  have hsh : shp (hl i s.h) = some (t, xs.length) := by rcases hx with ⟨o, h, _⟩ | h <;> rw [h] <;> rfl
  have hlen : ((xs.drop lo).take len).length = len := by simp; omega
  simp only [RO]
  refine ⟨ad, cap, by rw [hlen], by rw [hlen]; exact h4, ?_⟩
  by_cases h0 : len = 0 ∧ cap = 0
  · exact Or.inl ⟨hlen.trans h0.1, h0.2⟩
  right
  rcases h2 with (⟨b, off, off', f1, f2, f3⟩ | ⟨_, _, f3, f4, _⟩) | hz
  · have f1 : φ i = some (b, off) := f1
    have f3 := f3 t _ hsh
    subst f3
    obtain ⟨cs, e, fz, k1, k2⟩ := h3 t _ hsh b off f1
    have k1 : w.heap[b]? = some (.cells cs e fz) := k1
    rcases hx with ⟨o, hx, hns⟩ | hx
    · rcases hM.h i _ hx with ⟨bl, off', cs', e', e1, e2, e3, e4⟩ | ⟨e1, _⟩
      · have e1 : φ i = some (bl, off') := e1
        rw [f1] at e1; cases e1
        have e2 : w.heap[b]? = _ := e2
        rw [k1] at e2; cases e2
        refine ⟨b, _, cs, e, f2, Or.inl ⟨off, f1⟩, k1, by rw [Nat.add_mul] at k2; omega, fun _ _ => False, fun _ _ h => h.elim, fun _ _ _ h => h.elim, fun j hj => ?_⟩
        rw [hlen] at hj
        obtain ⟨rc, r1, r2⟩ := e4 (lo + j) (by omega)
        refine ⟨rc, fun q hq => ?_, ?_⟩
        · have := r1 q hq
          rw [show off + lo * sz t + j * sz t + q = off + (lo + j) * sz t + q by rw [Nat.add_mul]; omega]
          exact this
        · have hg : ((xs.drop lo).take len)[j]'(by rw [hlen]; exact hj) = xs[lo + j]'(by omega) := by simp
          show RO w t (((xs.drop lo).take len)[j]'(by rw [hlen]; exact hj)) rc _
          rw [hg]
          have nosl : ∀ (t : Ty) (x : D t) (cs : List Value) (ok : Nat → Prop) (F : Nat → Prop), hasSl t = false → RD w ok t x cs → RO w t x cs F := by
            intro t
            induction t with
            | i k => intro x cs ok F _ h; simpa only [RO, RD] using h
            | b => intro x cs ok F _ h; simpa only [RO, RD] using h
            | sl t _ => intro x cs ok F hs _; cases hs
            | pr x y ihx ihy =>
              intro p cs ok F hs h
              simp only [hasSl, Bool.or_eq_false_iff] at hs
              simp only [RD] at h
              simp only [RO]
              obtain ⟨c1, c2, h1, h2, h3⟩ := h
              exact ⟨c1, c2, fun _ => False, fun _ => False, h1, fun _ h => h.elim, fun _ h => h.elim, fun _ h => h.elim, ihx _ _ _ _ hs.1 h2, ihy _ _ _ _ hs.2 h3⟩
          exact nosl t _ _ _ _ hns r2
      · have e1 : φ i = none := e1
        rw [f1] at e1; cases e1
    · rcases hM.h i _ hx with ⟨bl, off', cs', e', e1, e2, e3, e4, G, g1, g2, g3⟩ | ⟨e1, _⟩
      · have e1 : φ i = some (bl, off') := e1
        rw [f1] at e1; cases e1
        have e2 : w.heap[b]? = _ := e2
        rw [k1] at e2; cases e2
        refine ⟨b, _, cs, e, f2, Or.inl ⟨off, f1⟩, k1, by rw [Nat.add_mul] at k2; omega, fun j => G (lo + j), fun j x hx => ⟨Or.inr (g1 _ x hx), fun e => e4 (e ▸ g1 _ x hx)⟩, fun i j x h h' => by have := g2 _ _ x h h'; omega, fun j hj => ?_⟩
        rw [hlen] at hj
        obtain ⟨rc, r1, r2⟩ := g3 (lo + j) (by omega) (by simp)
        refine ⟨rc, fun q hq => ?_, ?_⟩
        · have := r1 q hq
          rw [show off + lo * sz t + j * sz t + q = off + (lo + j) * sz t + q by rw [Nat.add_mul]; omega]
          exact this
        · have hg : ((xs.drop lo).take len)[j]'(by rw [hlen]; exact hj) = xs[lo + j]'(by omega) := by simp
          show RO w t (((xs.drop lo).take len)[j]'(by rw [hlen]; exact hj)) rc _
          rw [hg]
          exact r2
      · have e1 : φ i = none := e1
        rw [f1] at e1; cases e1
  · exact absurd ⟨f3, f4⟩ h0
  · exact absurd hz h0

theorem nodup_append {a b : List Nat} (h : nodup (a ++ b) = true) : nodup a = true ∧ nodup b = true ∧ ∀ x ∈ a, x ∉ b := by
  induction a with
  | nil => exact ⟨rfl, h, fun _ h => absurd h List.not_mem_nil⟩
  | cons y a ih =>
    simp only [List.cons_append, nodup, Bool.and_eq_true] at h
    obtain ⟨h1, h2⟩ := h
    obtain ⟨h3, h4, h5⟩ := ih h2
    have hy : ∀ x ∈ a ++ b, x ≠ y := by
      intro x hx e
      subst e
      have : (a ++ b).any (Nat.beq x) = true := List.any_eq_true.2 ⟨x, hx, Nat.beq_refl x⟩
      rw [this] at h1; cases h1
    refine ⟨?_, h4, fun x hx hb => ?_⟩
    · simp only [nodup, Bool.and_eq_true]
      refine ⟨?_, h3⟩
      cases ha : a.any (Nat.beq y) with
      | false => rfl
      | true =>
        obtain ⟨x, hx, e⟩ := List.any_eq_true.1 ha
        exact absurd (Nat.eq_of_beq_eq_true e).symm (hy x (by simp [hx]))
    · rcases List.mem_cons.1 hx with rfl | hx
      · exact hy x (by simp [hb]) rfl
      · exact h5 x hx hb

/-- Cells read as a datum of one's own. -/
theorem toO_sound {P : Program} {bs : Bs} {φ : Ph} {s : St} {w : World} (hM : HM bs φ s w) {id : Nat} {o : Out} :
    ∀ (t : Ty) {l : List AV} {vs : List Value} {k : D t → List Nat → List AV → Tr} {log : List Nat}, RL (cx bs φ s w) l vs → To P (hl · s.h) id (toO s.m t l k) log o →
      ∃ d ids rest log' v1 v2, To P (hl · s.h) id (k d ids rest) log' o ∧ vs = v1 ++ v2 ∧ RL (cx bs φ s w) rest v2 ∧ (∀ i ∈ ids, s.m ≤ i ∧ hl i s.h ≠ none) ∧ (nodup ids = true → RO w t d v1 (ownF φ ids)) := by
  intro t
  induction t with
  | i kd =>
    intro l vs k log hl h
    have h : To P (fun i => Fw.hl i s.h) id (toDi kd l fun d _ ids r => k d ids r) log o := h
    cases kd <;> unfold toDi at h <;> split at h <;> first
      | (exact (To.bad_inv h).elim)
      | (rename_i e1 e2; cases e1; done)
      | (rename_i e1; cases e1; done)
      | (cases hl with
         | cons hx hl =>
           first | (have e := R.un_inv hx; subst e) | (have e := R.val_inv hx; subst e)
           exact ⟨_, _, _, _, [_], _, h, rfl, hl, (fun _ h => absurd h List.not_mem_nil), fun _ => by simp [RO, IK.z]⟩)
  | b =>
    intro l vs k log hl h
    have h : To P (fun i => Fw.hl i s.h) id (toDb l fun d _ ids r => k d ids r) log o := h
    unfold toDb at h
    split at h <;> first
      | (exact (To.bad_inv h).elim)
      | (cases hl with
         | cons hx hl =>
           first | (have e := R.tt_inv hx; subst e) | (have e := R.ff_inv hx; subst e) | (have e := R.val_inv hx; subst e)
           exact ⟨_, _, _, _, [_], _, h, rfl, hl, (fun _ h => absurd h List.not_mem_nil), fun _ => by simp [RO]⟩)
  | sl t _ =>
    intro l vs k log hl h
    have h : To P (fun i => Fw.hl i s.h) id (toOsl s.m t l k) log o := h
    have own1 : ∀ {i : Nat} {d : List (D t)} {cs : List Value}, RO w (.sl t) d cs (φ.own i) → nodup [i] = true → RO w (.sl t) d cs (ownF φ [i]) :=
      fun h _ => h.mono fun b hb => ⟨_, by simp, hb⟩
    unfold toOsl at h
    split at h
    · cases hl with
      | cons hx hl =>
        have e := R.nil_inv hx; subst e
        exact ⟨_, _, _, _, [_], _, h, rfl, hl, (fun _ h => absurd h List.not_mem_nil), fun _ => ⟨none, 0, rfl, Nat.le_refl _, Or.inl ⟨rfl, rfl⟩⟩⟩
    · cases hl with
      | cons hx hl =>
        have e := R.val_inv hx; subst e
        exact ⟨_, _, _, _, [_], _, h, rfl, hl, (fun _ h => absurd h List.not_mem_nil), fun _ => ⟨none, 0, rfl, Nat.le_refl _, Or.inl ⟨rfl, rfl⟩⟩⟩
    · cases hl with
      | cons hx hl =>
        obtain ⟨hm, h⟩ := To.chk_inv h
        have hm := Nat.le_of_ble_eq_true hm
        have h := To.rd_inv h
        split at h
        · rename_i o u xs hb
          obtain ⟨hns, h⟩ := To.chk_inv h
          obtain ⟨e, h⟩ := To.asTy_inv h
          subst e
          cases hx with
          | own h1 h2 h3 h4 h5 =>
            have := h2 _ _ (shp_arr hb)
            subst this
            refine ⟨_, _, _, _, [_], _, h, rfl, hl, (fun j hj => by simp at hj; subst hj; exact ⟨hm, by rw [hb]; simp⟩), own1 ?_⟩
            have := own_ro hM (Or.inl ⟨o, hb, by simpa using hns⟩) (lo := 0) (by omega) h3 h4 h5
            simpa using this
        · rename_i u xs hb
          obtain ⟨e, h⟩ := To.asTy_inv h
          subst e
          cases hx with
          | own h1 h2 h3 h4 h5 =>
            have := h2 _ _ (shp_deep hb)
            subst this
            refine ⟨_, _, _, _, [_], _, h, rfl, hl, (fun j hj => by simp at hj; subst hj; exact ⟨hm, by rw [hb]; simp⟩), own1 ?_⟩
            have := own_ro hM (Or.inr hb) (lo := 0) (by omega) h3 h4 h5
            simpa using this
        · exact (To.bad_inv h).elim
    · cases hl with
      | cons hx hl =>
        obtain ⟨hm, h⟩ := To.chk_inv h
        have hm := Nat.le_of_ble_eq_true hm
        have h := To.rd_inv h
        split at h
        · rename_i o u xs hb
          obtain ⟨hns, h⟩ := To.chk_inv h
          obtain ⟨e, h⟩ := To.asTy_inv h
          subst e
          cases hx with
          | sl h1 h2 h3 h4 h5 =>
            refine ⟨_, _, _, _, [_], _, h, rfl, hl, (fun j hj => by simp at hj; subst hj; exact ⟨hm, by rw [hb]; simp⟩), own1 ?_⟩
            exact own_ro hM (Or.inl ⟨o, hb, by simpa using hns⟩) (h2 _ _ (shp_arr hb)) h3 h4 h5
        · rename_i u xs hb
          obtain ⟨e, h⟩ := To.asTy_inv h
          subst e
          cases hx with
          | sl h1 h2 h3 h4 h5 =>
            refine ⟨_, _, _, _, [_], _, h, rfl, hl, (fun j hj => by simp at hj; subst hj; exact ⟨hm, by rw [hb]; simp⟩), own1 ?_⟩
            exact own_ro hM (Or.inr hb) (h2 _ _ (shp_deep hb)) h3 h4 h5
        · exact (To.bad_inv h).elim
    · exact (To.bad_inv h).elim
  | pr x y ihx ihy =>
    intro l vs k log hl h
    have h : To P (fun i => Fw.hl i s.h) id (toO s.m x l fun d ids r => toO s.m y r fun e ids' r' => k (d, e) (ids ++ ids') r') log o := h
    obtain ⟨d, ids1, r1, log1, v1, v2, h1, rfl, hr1, a1, d1⟩ := ihx hl h
    obtain ⟨e, ids2, r2, log2, v3, v4, h2, rfl, hr2, a2, d2⟩ := ihy hr1 h1
    refine ⟨(d, e), ids1 ++ ids2, r2, log2, v1 ++ v3, v4, h2, by simp, hr2, fun i hi => ?_, fun hnd => ?_⟩
    · rcases List.mem_append.1 hi with hi | hi
      · exact a1 i hi
      · exact a2 i hi
    · obtain ⟨n1, n2, n3⟩ := nodup_append hnd
      simp only [RO]
      refine ⟨v1, v3, ownF φ ids1, ownF φ ids2, rfl, ?_, ?_, ?_, d1 n1, d2 n2⟩
      · rintro b ⟨i, hi, hb⟩; exact ⟨i, by simp [hi], hb⟩
      · rintro b ⟨i, hi, hb⟩; exact ⟨i, by simp [hi], hb⟩
      · rintro b ⟨i, hi, hb⟩ ⟨j, hj, hb'⟩
        have := hM.inj i j b (a1 i hi).2 (a2 j hj).2 hb hb'
        exact n3 i hi (this ▸ hj)
end Go.Fw
namespace Go.Fw
open Go Go.RowKit

def St.push (s : St) (hs : List (Nat × Option Blk)) : St := { s with h := hs ++ s.h }

/-- What an operation leaves. -/
def Res (bs : Bs) (φ : Ph) (s : St) (w : World) (hs : List (Nat × Option Blk)) (u : AV) (v : Value) (w' : World) : Prop :=
  ∃ φ', HM bs φ' (s.push hs) w' ∧ (cx bs φ s w).Le (cx bs φ' (s.push hs) w') ∧ R (cx bs φ' (s.push hs) w') u v

theorem Res.pure {bs : Bs} {φ : Ph} {s : St} {w : World} (h : HM bs φ s w) {u : AV} {v : Value} (hr : R (cx bs φ s w) u v) : Res bs φ s w [] u v w :=
  ⟨φ, h, Cx.Le.refl _, hr⟩

theorem add_none (b off n : Nat) : (⟨b, off, none⟩ : Addr).add n = ⟨b, off + n, none⟩ := by
  unfold Addr.add
  split
  · rename_i h; subst h; rfl
  · rfl

section
variable {P : Program} {E : Env} {bs : Bs} {φ : Ph} {s : St} {w : World} {id : Nat} {log : List Nat} {o : Out}

theorem run_isAgg {T : TypeId} {i : TI} (hT : TIok P E T i) (w : World) : (isAgg T).run P w = .ok i.agg w := by
  obtain ⟨d, hd, hu⟩ := hT.u
  unfold isAgg
  rw [Sem.run_bind, run_underlying hd]
  cases d <;> simp [UD] at hu <;> simp [hu]

theorem run_size {T : TypeId} {i : TI} (hT : TIok P E T i) (w : World) : (sizeOf T).run P w = .ok i.sz w := by
  obtain ⟨x, z, h1, h2, _⟩ := hT.inf
  simp [sizeOf, typeInfo, h1, h2]

theorem loadVar_sound {c : Cx} (hw : c.w = w) {T : TypeId} {i : TI} (hT : TIok P E T i) {l : List AV} {rc : List Value} {b off k : Nat} (hl : RL c l rc) (hr : RowAt w b off rc) (hk : k + i.sz ≤ l.length) :
    ∃ v, (loadVar T ⟨b, off + k, none⟩).run P w = .ok v w ∧ R c (part i l k) v := by
  unfold loadVar
  rw [Sem.run_bind, run_isAgg hT]
  simp only [Result.andThen_ok]
  have hlen := hl.length
  cases ha : i.agg with
  | true =>
    refine ⟨.agg ((rc.drop k).take i.sz).toArray, ?_, ?_⟩
    · simp only [if_true, Sem.run_bind, run_size hT, Result.andThen_ok]
      have hn : ((rc.drop k).take i.sz).length = i.sz := by simp; omega
      have := run_loadCells_list (P := P) w ⟨b, off + k, none⟩ ((rc.drop k).take i.sz) (fun j v hv => by
        rw [add_none]
        have hj : j < i.sz := by
          rcases Nat.lt_or_ge j i.sz with h | h
          · exact h
          · rw [List.getElem?_eq_none (by omega)] at hv; cases hv
        have hv : rc[k + j]? = some v := by rw [List.getElem?_take_of_lt hj, List.getElem?_drop] at hv; exact hv
        obtain ⟨hlt, e⟩ := List.getElem?_eq_some_iff.1 hv
        rw [← e, Nat.add_assoc]
        exact hr (k + j) hlt)
      rw [hn] at this
      rw [this]; rfl
    · simp only [part, ha, cut_eq]
      exact .agg (by simpa using (hl.drop k).take i.sz)
  | false =>
    have h1 := hT.s1 ha
    have hlt : k < l.length := by omega
    refine ⟨rc[k]'(hlen ▸ hlt), ?_, ?_⟩
    · simp [run_load, hr k (hlen ▸ hlt)]
    · simp only [part, ha, nth_eq]
      rw [List.getD_eq_getElem?_getD, List.getElem?_eq_getElem hlt]
      exact hl.get k hlt

theorem blk_cells (hM : HM bs φ s w) {id : Nat} {l : List AV} (h : hl id s.h = some (.cells l)) : ∃ b cs e, φ id = some (b, 0) ∧ w.heap[b]? = some (.cells cs e (0, 0)) ∧ RL (cx bs φ s w) l cs.toList := hM.h id _ h

theorem rowAt_of {w : World} {b : Nat} {cs : Array Value} {e : TypeId} {f : Nat × Nat} (h : w.heap[b]? = some (.cells cs e f)) : RowAt w b 0 cs.toList := by
  intro i hi
  simp only [World.cell?, h]
  simp at hi
  simp [hi]

/-- The rows of a block of one's own, where a place in it is pointed to. -/
theorem blk_arr (hM : HM bs φ s w) {id : Nat} {o : Org} {t : Ty} {xs : List (D t)} (h : hl id s.h = some (.arr o t xs)) {b off : Nat} (hp : φ id = some (b, off)) :
    ∃ cs e, w.heap[b]? = some (.cells cs e (0, 0)) ∧ off + xs.length * sz t ≤ cs.size ∧ RDs w ((cx bs φ s w).ok o) t b off xs := by
  rcases hM.h id _ h with ⟨b', off', cs, e, h1, h2, h3, h4⟩ | ⟨h1, _⟩
  · have h1 : φ id = some (b', off') := h1
    rw [hp] at h1; cases h1
    exact ⟨cs, e, h2, h3, h4⟩
  · have h1 : φ id = none := h1
    rw [hp] at h1; cases h1

theorem RowAt.sub {w : World} {b off : Nat} {rc : List Value} (h : RowAt w b off rc) {off' : Nat} (e : off' = off) : RowAt w b off' rc := by subst e; exact h

theorem rows_flat {w : World} {ok : Nat → Prop} {t : Ty} {b off : Nat} {xs : List (D t)} (h : RDs w ok t b off xs) :
    ∃ css : List (List Value), css.length = xs.length ∧ (∀ j (h1 : j < xs.length) (h2 : j < css.length), RD w ok t xs[j] css[j]) ∧ RowAt w b off css.flatten ∧ css.flatten.length = xs.length * sz t := by
  induction xs generalizing off with
  | nil => exact ⟨[], rfl, fun j h1 _ => absurd h1 (Nat.not_lt_zero _), fun i hi => absurd hi (Nat.not_lt_zero _), by simp⟩
  | cons x xs ih =>
    obtain ⟨rc, r1, r2⟩ := h 0 (by simp)
    obtain ⟨css, c1, c2, c3, c4⟩ := ih (off := off + sz t) fun j hj => by
      obtain ⟨rc, r3, r4⟩ := h (j + 1) (by simpa using hj)
      exact ⟨rc, r3.sub (by rw [Nat.add_mul]; omega), r4⟩
    have hlen := r2.length
    refine ⟨rc :: css, by simp [c1], fun j h1 h2 => ?_, fun i hi => ?_, by simp [c4, hlen, Nat.add_mul]; omega⟩
    · cases j with
      | zero => exact r2
      | succ j => exact c2 j (by simpa using h1) (by simpa using h2)
    · simp only [List.flatten_cons] at hi ⊢
      by_cases hlt : i < rc.length
      · rw [List.getElem_append_left hlt]
        have := r1 i hlt
        simpa using this
      · rw [List.getElem_append_right (by omega)]
        have := c3 (i - rc.length) (by rw [List.length_append] at hi; omega)
        rw [← this]
        congr 2
        omega

theorem blk_deep (hM : HM bs φ s w) {id : Nat} {t : Ty} {xs : List (D t)} (h : hl id s.h = some (.deep t xs)) {b off : Nat} (hp : φ id = some (b, off)) :
    ∃ cs e, w.heap[b]? = some (.cells cs e (0, 0)) ∧ off + xs.length * sz t ≤ cs.size ∧ ¬ φ.ψ id b ∧ ROs w t b off xs (φ.ψ id) none := by
  rcases hM.h id _ h with ⟨b', off', cs, e, h1, h2, h3, h4, h5⟩ | ⟨h1, _⟩
  · have h1 : φ id = some (b', off') := h1
    rw [hp] at h1; cases h1
    exact ⟨cs, e, h2, h3, h4, h5⟩
  · have h1 : φ id = none := h1
    rw [hp] at h1; cases h1

theorem blk_seg (hM : HM bs φ s w) {id : Nat} {t : Ty} {xs : List (D t)} {j : Nat} {row : List AV} (h : hl id s.h = some (.seg t xs j row)) {b off : Nat} (hp : φ id = some (b, off)) :
    ∃ cs e, w.heap[b]? = some (.cells cs e (0, 0)) ∧ off + xs.length * sz t ≤ cs.size ∧ ¬ φ.ψ id b ∧ ROs w t b off xs (φ.ψ id) (some j) ∧ j < xs.length ∧ row.length = sz t ∧
      ∃ rc, RowAt w b (off + j * sz t) rc ∧ RL (cx bs φ s w) row rc := by
  obtain ⟨b', off', cs, e, h1, h2, h3, h4, h5, h6, h7, h8⟩ := hM.h id _ h
  have h1 : φ id = some (b', off') := h1
  rw [hp] at h1; cases h1
  exact ⟨cs, e, h2, h3, h4, h5, h6, h7, h8⟩

theorem RO.cells {c : Cx} : ∀ {t : Ty} {x : D t} {cs : List Value} {w : World} {F : Nat → Prop}, RO w t x cs F → RL c (cellsX t x) cs
  | .i k, x, cs, _, _, h => by
    simp only [RO] at h
    subst h
    cases k <;> first | exact .cons (.un _ _) .nil | exact .cons (.val _) .nil
  | .b, x, cs, _, _, h => by
    simp only [RO] at h
    subst h
    exact .cons (.val _) .nil
  | .sl t, xs, cs, _, _, h => by
    simp only [RO] at h
    obtain ⟨a, cap, e, _⟩ := h
    subst e
    exact .cons (.junk _) .nil
  | .pr x y, p, cs, _, _, h => by
    simp only [RO] at h
    obtain ⟨c1, c2, _, _, rfl, _, _, _, h1, h2⟩ := h
    exact RL.append (RO.cells h1) (RO.cells h2)

theorem length_cellsX : ∀ (t : Ty) (x : D t), (cellsX t x).length = sz t
  | .i k, x => by cases k <;> rfl
  | .b, _ => rfl
  | .sl _, _ => rfl
  | .pr x y, p => by simp [cellsX, sz, length_cellsX x, length_cellsX y]

theorem RO.length {w : World} : ∀ {t : Ty} {x : D t} {cs : List Value} {F : Nat → Prop}, RO w t x cs F → cs.length = sz t := fun h => (h.data (ok := fun _ => True) fun _ _ _ => trivial).length
theorem RO.one {w : World} {t : Ty} {x : D t} {cs : List Value} {F : Nat → Prop} (h : RO w t x cs F) : ∀ v ∈ cs, v.oneCell' = true := (h.data (ok := fun _ => True) fun _ _ _ => trivial).one

theorem load_sound (hM : HM bs φ s w) {T : TypeId} (hE : EnvOK P E) {p : AV} {vp : Value} (hp : R (cx bs φ s w) p vp) (h : To P (hl · s.h) id (load (ti T E) p) log o) :
    ∃ u rd, o = .ok u [] rd ∧ ∃ v, (Instr.loadAt T vp).run P w = .ok v w ∧ R (cx bs φ s w) u v := by
  unfold load at h
  obtain ⟨hok, h⟩ := To.chk_inv h
  have hT := hE.ok hok
  have fin : ∀ {b off k : Nat} {l : List AV} {rc : List Value} {log : List Nat}, RL (cx bs φ s w) l rc → RowAt w b off rc → vp = .pointer (some ⟨b, off + k, none⟩) → To P (hl · s.h) id (partT (ti T E) l k) log o →
      ∃ u rd, o = .ok u [] rd ∧ ∃ v, (Instr.loadAt T vp).run P w = .ok v w ∧ R (cx bs φ s w) u v := by
    intro b off k l rc log hl hr e h
    obtain ⟨_, h⟩ := To.chk_inv h
    obtain ⟨hk, h⟩ := To.chk_inv h
    obtain ⟨v, v1, v2⟩ := loadVar_sound (c := cx bs φ s w) rfl hT hl hr (Nat.le_of_ble_eq_true hk)
    refine ⟨_, _, To.ret_inv h, v, ?_, v2⟩
    have v1 : (loadVar T ⟨b, off + k, none⟩).run P w = .ok v w := v1
    rw [e]
    simpa [Instr.loadAt, Instr.sureAddr] using v1
  split at h
  · have h := To.rd_inv h
    cases hp with
    | ptr ha h1 =>
      have h1 : φ _ = _ := h1
      split at h
      · rename_i l hb
        obtain ⟨b, cs, e, e1, e2, e3⟩ := blk_cells hM hb
        rw [h1] at e1; cases e1
        exact fin e3 (rowAt_of e2) rfl h
      · rename_i o' t xs hb
        split at h
        · have hagg : (ti T E).agg = true := by assumption
          obtain ⟨hs, h⟩ := To.vc_inv h
          obtain ⟨cs, e, e1, e2, e3⟩ := blk_arr hM hb h1
          obtain ⟨css, c1, c2, c3, c4⟩ := rows_flat e3
          refine ⟨_, _, To.ret_inv h, .agg css.flatten.toArray, ?_, .av css (by simp) c1 fun j hj => c2 j hj (c1 ▸ hj)⟩
          have hn : css.flatten.length = (ti T E).sz := by rw [c4, hs]
          have := run_loadCells_list (P := P) w ⟨_, _, none⟩ css.flatten fun j v hv => by
            rw [add_none]
            obtain ⟨hlt, e⟩ := List.getElem?_eq_some_iff.1 hv
            rw [← e]
            exact c3 j hlt
          rw [hn] at this
          simp only [Instr.loadAt, Instr.sureAddr, loadVar, Sem.run_bind, Sem.run_pure, Result.andThen_ok, run_isAgg hT, hagg, if_true, run_size hT, Nat.add_zero, this]
        · exact (To.bad_inv h).elim
      · exact (To.bad_inv h).elim
  · have h := To.rd_inv h
    split at h
    · rename_i o' t xs hb
      obtain ⟨hj, h⟩ := To.vc_inv h
      cases hp with
      | pa ha h1 h2 =>
        have h1 : φ _ = _ := h1
        have h2 := h2 _ _ (shp_arr hb)
        subst h2
        obtain ⟨cs, e, e1, e2, e3⟩ := blk_arr hM hb h1
        obtain ⟨rc, r1, r2⟩ := e3 _ hj
        rw [List.getD_eq_getElem?_getD, List.getElem?_eq_getElem hj] at h
        exact fin (RD.cells (c := cx bs φ s w) r2) r1 rfl h
    · rename_i t xs hb
      obtain ⟨hj, h⟩ := To.vc_inv h
      cases hp with
      | pa ha h1 h2 =>
        have h1 : φ _ = _ := h1
        have h2 := h2 _ _ (shp_deep hb)
        subst h2
        obtain ⟨cs, e, e1, e2, e3, G, g1, g2, e4⟩ := blk_deep hM hb h1
        obtain ⟨rc, r1, r2⟩ := e4 _ hj (by simp)
        rw [List.getD_eq_getElem?_getD, List.getElem?_eq_getElem hj] at h
        exact fin (RO.cells (c := cx bs φ s w) r2) r1 rfl h
    · rename_i t xs q row hb
      obtain ⟨hj, h'⟩ := To.vc_inv h
      subst hj
      cases hp with
      | pa ha h1 h2 =>
        have h1 : φ _ = _ := h1
        have h2 := h2 _ _ (shp_seg hb)
        subst h2
        obtain ⟨cs, e, e1, e2, e3, e4, e5, e6, rc, r1, r2⟩ := blk_seg hM hb h1
        exact fin r2 r1 rfl h'
    · exact (To.bad_inv h).elim
  · cases hp with
    | ip h0 h1 h2 h3 => exact fin h3 h2 rfl h
  · exact (To.bad_inv h).elim
end
end Go.Fw
namespace Go.Fw
open Go Go.RowKit

theorem R.cells1 {c : Cx} {x : AV} {v : Value} (h : R c x v) (h1 : ones (avCells x) = true) : RL c (avCells x) v.cells.toList ∧ ∀ u ∈ v.cells.toList, u.oneCell' = true := by
  have key : RL c (avCells x) v.cells.toList := by
    refine h.cells (fun o t xs e => ?_) (fun e => ?_) fun y e => ?_
    · subst e; simp [avCells, Fw.ones, Fw.one] at h1
    · subst e; simp [avCells, Fw.ones, Fw.one] at h1
    · subst e
      cases y <;> first | rfl | (simp [avCells, Fw.ones, Fw.one] at h1)
  exact ⟨key, key.ones h1⟩

theorem splice_get (cs vs : List Value) (p i : Nat) (hp : p + vs.length ≤ cs.length) :
    (cs.take p ++ vs ++ cs.drop (p + vs.length))[i]? = if i < p then cs[i]? else if i < p + vs.length then vs[i - p]? else cs[i]? := by
  by_cases h1 : i < p
  · rw [if_pos h1, List.append_assoc, List.getElem?_append_left (by simp; omega), List.getElem?_take_of_lt h1]
  · rw [if_neg h1]
    by_cases h2 : i < p + vs.length
    · rw [if_pos h2, List.append_assoc, List.getElem?_append_right (by simp; omega), List.getElem?_append_left (by simp; omega)]
      congr 1; simp; omega
    · rw [if_neg h2, List.getElem?_append_right (by simp; omega), List.getElem?_drop]
      congr 1; simp; omega

section
variable {P : Program} {E : Env} {bs : Bs} {φ : Ph} {s : St} {w : World} {id : Nat} {log : List Nat} {o : Out}

theorem storeVar_run {T : TypeId} {i : TI} (hT : TIok P E T i) {v : Value} {b off : Nat} {cs : Array Value} {e : TypeId} (hb : w.heap[b]? = some (.cells cs e (0, 0))) (hn : v.cells.size = i.sz)
    (hs : off + i.sz ≤ cs.size) (h1 : ∀ u ∈ v.cells.toList, u.oneCell' = true) :
    (storeVar T ⟨b, off, none⟩ v).run P w = .ok () (w.setRow b (cs.toList.take off ++ v.cells.toList ++ cs.toList.drop (off + v.cells.toList.length)).toArray) := by
  unfold storeVar
  rw [Sem.run_bind, run_size hT]
  have := run_storeCells_at (P := P) b off e v.cells.toList 0 cs w hb (by simp [hn]; omega) h1
  simp only [Result.andThen_ok, hn, ne_eq, not_true, if_false]
  simpa using this

theorem setRow_facts {w : World} {b : Nat} {cs : Array Value} {e : TypeId} (hb : w.heap[b]? = some (.cells cs e (0, 0))) (cs' : Array Value) (hn : cs'.size = cs.size) :
    (w.setRow b cs').heap.size = w.heap.size ∧ (∀ k, k ≠ b → (w.setRow b cs').heap[k]? = w.heap[k]?) ∧
    (∀ c0 e0 f0, w.heap[b]? = some (.cells c0 e0 f0) → ∃ c1 e1 f1, (w.setRow b cs').heap[b]? = some (.cells c1 e1 f1) ∧ c1.size = c0.size) ∧
    ((w.setRow b cs').os = w.os ∧ (w.setRow b cs').tape = w.tape ∧ (w.setRow b cs').output = w.output) ∧ (w.setRow b cs').heap[b]? = some (.cells cs' e (0, 0)) := by
  have hh := setRow_heap w b cs cs' e (0, 0) hb
  exact ⟨setRow_size _ _ _, fun k hk => setRow_other w b k cs' hk, fun c0 e0 f0 h0 => ⟨cs', e, (0, 0), hh, by rw [hb] at h0; cases h0; exact hn⟩, ⟨rfl, rfl, rfl⟩, hh⟩

theorem flat_row {n : Nat} : ∀ {css : List (List Value)}, (∀ c ∈ css, c.length = n) → ∀ j (hj : j < css.length) (i : Nat), i < n → css.flatten[j * n + i]? = css[j][i]?
  | [], _, j, hj, _, _ => absurd hj (Nat.not_lt_zero _)
  | c :: css, h, 0, _, i, hi => by
    simp only [List.flatten_cons, List.getElem_cons_zero, Nat.zero_mul, Nat.zero_add]
    rw [List.getElem?_append_left (by rw [h c (by simp)]; exact hi)]
  | c :: css, h, j + 1, hj, i, hi => by
    have hc := h c (by simp)
    simp only [List.flatten_cons, List.getElem_cons_succ]
    rw [List.getElem?_append_right (by rw [hc, Nat.add_mul]; omega), hc, show (j + 1) * n + i - n = j * n + i by rw [Nat.add_mul]; omega]
    exact flat_row (fun c' hc' => h c' (by simp [hc'])) j (by simpa using hj) i hi

theorem flat_length {n : Nat} : ∀ {css : List (List Value)}, (∀ c ∈ css, c.length = n) → css.flatten.length = css.length * n
  | [], _ => by simp
  | c :: css, h => by
    rw [List.flatten_cons, List.length_append, h c (by simp), flat_length (css := css) fun c' hc' => h c' (by simp [hc']), List.length_cons, Nat.add_mul]; omega

/-- Rows that lie in the cells of a block. -/
theorem RDs.of_flat {w : World} {ok : Nat → Prop} {t : Ty} {b off : Nat} {xs : List (D t)} {cs : Array Value} {e : TypeId} {f : Nat × Nat} (hb : w.heap[b]? = some (.cells cs e f)) {css : List (List Value)} (h2 : css.length = xs.length)
    (h3 : ∀ j (h : j < xs.length), RD w ok t xs[j] (css[j]'(h2 ▸ h))) (hc : ∀ i, i < css.flatten.length → cs[off + i]? = css.flatten[i]?) : RDs w ok t b off xs := by
  have hl : ∀ c ∈ css, c.length = sz t := by
    intro c hc
    obtain ⟨j, hj, rfl⟩ := List.getElem_of_mem hc
    exact (h3 j (h2 ▸ hj)).length
  intro j hj
  refine ⟨css[j]'(h2 ▸ hj), fun i hi => ?_, h3 j hj⟩
  have hi' : i < sz t := by rw [(h3 j hj).length] at hi; exact hi
  have hlt : j * sz t + i < css.flatten.length := by
    rw [flat_length hl, h2]
    have : (j + 1) * sz t ≤ xs.length * sz t := Nat.mul_le_mul_right _ hj
    rw [Nat.add_mul] at this; omega
  have := hc (j * sz t + i) hlt
  rw [flat_row hl j (h2 ▸ hj) i hi'] at this
  simp only [World.cell?, hb]
  rw [Nat.add_assoc, this, List.getElem?_eq_getElem hi]
  rfl

theorem kills_push (ids : List Nat) (a h : List (Nat × Option Blk)) : kills ids a ++ h = kills ids (a ++ h) := by
  induction ids with
  | nil => rfl
  | cons i r ih => simp [kills, ih]

theorem mem_kills {ids : List Nat} {h : List (Nat × Option Blk)} {p : Nat × Option Blk} (hp : p ∈ h) : p ∈ kills ids h := by
  induction ids with
  | nil => exact hp
  | cons i r ih => exact List.mem_cons_of_mem _ ih

theorem kills_mem {ids : List Nat} {h : List (Nat × Option Blk)} {x : Nat} {y : Option Blk} (hp : (x, y) ∈ kills ids h) : x ∈ ids ∨ (x, y) ∈ h := by
  induction ids with
  | nil => exact Or.inr hp
  | cons i r ih =>
    rcases List.mem_cons.1 hp with hp | hp
    · cases hp; exact Or.inl (by simp)
    · rcases ih hp with h | h
      · exact Or.inl (by simp [h])
      · exact Or.inr h

theorem any_beq {i : Nat} {l : List Nat} (h : (!(l.any (Nat.beq i))) = true) : i ∉ l := by
  intro hm
  have : l.any (Nat.beq i) = true := List.any_eq_true.2 ⟨i, hm, Nat.beq_refl i⟩
  rw [this] at h; cases h

/-- Rows of a block, a piece of which is written over. -/
theorem splice_cell {w : World} {b : Nat} {cs : Array Value} {e : TypeId} (hb : w.heap[b]? = some (.cells cs e (0, 0))) (vs : List Value) (p : Nat) (hp : p + vs.length ≤ cs.size) (q : Nat) :
    (w.setRow b (cs.toList.take p ++ vs ++ cs.toList.drop (p + vs.length)).toArray).cell? ⟨b, q, none⟩ = if q < p then w.cell? ⟨b, q, none⟩ else if q < p + vs.length then vs[q - p]? else w.cell? ⟨b, q, none⟩ := by
  obtain ⟨f1, f2, f3, f4, f5⟩ := setRow_facts hb (cs.toList.take p ++ vs ++ cs.toList.drop (p + vs.length)).toArray (by simp; omega)
  have hnew : (w.setRow b (cs.toList.take p ++ vs ++ cs.toList.drop (p + vs.length)).toArray).cell? ⟨b, q, none⟩ = (cs.toList.take p ++ vs ++ cs.toList.drop (p + vs.length))[q]? := by
    simp only [World.cell?, f5]; simp
  have hold : w.cell? ⟨b, q, none⟩ = cs.toList[q]? := by simp only [World.cell?, hb]; simp
  rw [hnew, hold, splice_get _ _ _ _ (by simpa using hp)]
theorem RowAt.apart {w : World} {b : Nat} {cs : Array Value} {e : TypeId} (hb : w.heap[b]? = some (.cells cs e (0, 0))) (vs : List Value) (p : Nat) (hp : p + vs.length ≤ cs.size) {o : Nat} {rc : List Value} (h : RowAt w b o rc) (hd : o + rc.length ≤ p ∨ p + vs.length ≤ o) :
    RowAt (w.setRow b (cs.toList.take p ++ vs ++ cs.toList.drop (p + vs.length)).toArray) b o rc := by
  intro i hi
  rw [splice_cell hb vs p hp, ← h i hi]
  rcases hd with hd | hd
  · rw [if_pos (by omega)]
  · rw [if_neg (by omega), if_neg (by omega)]
theorem RowAt.within {w : World} {b : Nat} {cs : Array Value} {e : TypeId} (hb : w.heap[b]? = some (.cells cs e (0, 0))) (vs : List Value) (o k : Nat) (hp : o + k + vs.length ≤ cs.size) {rc : List Value} (h : RowAt w b o rc) (hk : k + vs.length ≤ rc.length) :
    RowAt (w.setRow b (cs.toList.take (o + k) ++ vs ++ cs.toList.drop (o + k + vs.length)).toArray) b o (rc.take k ++ vs ++ rc.drop (k + vs.length)) := by
  intro i hi
  have hl : (rc.take k ++ vs ++ rc.drop (k + vs.length)).length = rc.length := by simp; omega
  have h3 : (rc.take k ++ vs ++ rc.drop (k + vs.length))[i]? = some (rc.take k ++ vs ++ rc.drop (k + vs.length))[i] := List.getElem?_eq_getElem hi
  rw [splice_get rc vs k i hk] at h3
  rw [← h3, splice_cell hb vs (o + k) hp]
  have hold : ∀ q, q < rc.length → w.cell? ⟨b, o + q, none⟩ = rc[q]? := by
    intro q hq
    rw [h q hq, List.getElem?_eq_getElem hq]
  by_cases c1 : i < k
  · rw [if_pos (by omega), if_pos c1]
    exact hold i (by omega)
  · rw [if_neg (by omega), if_neg c1]
    by_cases c2 : i < k + vs.length
    · rw [if_pos (by omega), if_pos c2]
      rw [show o + i - (o + k) = i - k by omega]
    · rw [if_neg (by omega), if_neg c2]
      exact hold i (by rw [hl] at hi; exact hi)

theorem toDi_one {c : Cx} {hp : Nat → Option Blk} {x : AV} {v : Value} (hv : R c x v) {kd : IntKind} {K : D (.i kd) → Tr} (h : To P hp id (toDi kd [x] fun d _ _ _ => K d) log o) : ∃ d, To P hp id (K d) log o ∧ v = .int kd (IK.z kd d) := by
  cases hv with
  | un k n => cases kd <;> cases k <;> first | exact (To.bad_inv h).elim | exact ⟨_, h, rfl⟩
  | val v =>
    cases v with
    | int k n => cases kd <;> cases k <;> first | exact (To.bad_inv h).elim | exact ⟨_, h, rfl⟩
    | _ => cases kd <;> exact (To.bad_inv h).elim
  | _ => cases kd <;> exact (To.bad_inv h).elim
theorem toDb_one {c : Cx} {hp : Nat → Option Blk} {x : AV} {v : Value} (hv : R c x v) {K : Bool → Tr} (h : To P hp id (toDb [x] fun d _ _ _ => K d) log o) : ∃ d, To P hp id (K d) log o ∧ v = .bool d := by
  cases hv with
  | val v => cases v <;> first | exact (To.bad_inv h).elim | exact ⟨_, h, rfl⟩
  | _ => first | exact (To.bad_inv h).elim | exact ⟨_, h, rfl⟩
/-- One number of a datum of one's own is set. -/
theorem putSc_sound {c : Cx} {hp : Nat → Option Blk} {x : AV} {v : Value} (hv : R c x v) : ∀ (t : Ty) {d : D t} {k : Nat} {K : D t → Tr} {cs : List Value} {w : World} {F : Nat → Prop}, RO w t d cs F → To P hp id (putSc t d k x K) log o →
    ∃ d', To P hp id (K d') log o ∧ k < sz t ∧ ∀ w', (∀ b, F b → w'.heap[b]? = w.heap[b]?) → RO w' t d' (cs.take k ++ [v] ++ cs.drop (k + 1)) F := by
  intro t
  induction t with
  | i kd =>
    intro d k K cs w F hr h
    simp only [RO] at hr
    subst hr
    cases k with
    | succ k => exact (To.bad_inv h).elim
    | zero =>
      obtain ⟨d', h1, rfl⟩ := toDi_one hv (K := K) h
      exact ⟨_, h1, Nat.one_pos, fun w' _ => by simp [RO]⟩
  | b =>
    intro d k K cs w F hr h
    simp only [RO] at hr
    subst hr
    cases k with
    | succ k => exact (To.bad_inv h).elim
    | zero =>
      obtain ⟨d', h1, rfl⟩ := toDb_one hv (K := K) h
      exact ⟨_, h1, Nat.one_pos, fun w' _ => by simp [RO]⟩
  | sl t _ =>
    intro d k K cs w F hr h
    exact (To.bad_inv h).elim
  | pr a b iha ihb =>
    intro d k K cs w F hr h
    simp only [RO] at hr
    obtain ⟨c1, c2, F1, F2, rfl, h1, h2, h3, h4, h5⟩ := hr
    have hl1 := h4.length
    have hl2 := h5.length
    simp only [putSc] at h
    split at h
    · rename_i hb
      have hb : k < sz a := by simpa [Nat.blt_eq] using hb
      obtain ⟨d', t1, t2, t3⟩ := iha h4 h
      refine ⟨_, t1, by simp only [sz]; omega, fun w' hw => ?_⟩
      simp only [RO]
      refine ⟨c1.take k ++ [v] ++ c1.drop (k + 1), c2, F1, F2, ?_, h1, h2, h3, t3 w' fun b hb => hw b (h1 b hb), h5.keep fun b hb => hw b (h2 b hb)⟩
      rw [List.take_append_of_le_length (by omega), List.drop_append_of_le_length (by omega)]
      simp
    · rename_i hb
      have hb : ¬ k < sz a := fun hlt => by rw [show Nat.blt k (sz a) = true by rw [Nat.blt_eq]; exact hlt] at hb; cases hb
      obtain ⟨d', t1, t2, t3⟩ := ihb h5 h
      refine ⟨_, t1, by simp only [sz]; omega, fun w' hw => ?_⟩
      simp only [RO]
      refine ⟨c1, c2.take (k - sz a) ++ [v] ++ c2.drop (k - sz a + 1), F1, F2, ?_, h1, h2, h3, h4.keep fun b hb => hw b (h1 b hb), t3 w' fun b hb => hw b (h2 b hb)⟩
      rw [List.take_append, List.drop_append, hl1, List.take_of_length_le (l := c1) (by omega), List.drop_of_length_le (l := c1) (by omega), show k + 1 - sz a = k - sz a + 1 by omega]
      simp

theorem row_apart {j j' n k l : Nat} (hk : k + l ≤ n) (hne : j ≠ j') (off : Nat) : off + j' * n + n ≤ off + j * n + k ∨ off + j * n + k + l ≤ off + j' * n := by
  rcases Nat.lt_or_gt_of_ne hne with h | h
  · right
    have : (j + 1) * n ≤ j' * n := Nat.mul_le_mul_right _ h
    rw [Nat.add_mul] at this; omega
  · left
    have : (j' + 1) * n ≤ j * n := Nat.mul_le_mul_right _ h
    rw [Nat.add_mul] at this; omega

theorem rdI_R {c : Cx} {kd : IntKind} {x : AV} {v : Value} {d : D (.i kd)} (hx : R c x v) (h : rdI kd x = some d) : v = .int kd (IK.z kd d) := by
  cases hx with
  | un k n => cases kd <;> cases k <;> first | (cases h; rfl) | cases h
  | val v =>
    cases v with
    | int k n => cases kd <;> cases k <;> first | (cases h; rfl) | cases h
    | _ => cases kd <;> cases h
  | _ => cases kd <;> cases h
theorem rdIs_R {c : Cx} {kd : IntKind} : ∀ {l : List AV} {vs : List Value} {ys : List (D (.i kd))}, RL c l vs → rdIs kd l = some ys → vs = ys.map fun y => .int kd (IK.z kd y)
  | [], vs, ys, hl, h => by
    cases hl
    simp only [rdIs, Option.some.injEq] at h
    subst h; rfl
  | x :: l, vs, ys, hl, h => by
    cases hl with
    | cons hx hl =>
      simp only [rdIs] at h
      split at h
      · rename_i d hd
        split at h
        · rename_i l' hl'
          simp only [Option.some.injEq] at h
          subst h
          rw [rdI_R hx hd, rdIs_R hl hl']
          rfl
        · cases h
      · cases h
theorem asAv_R {c : Cx} {t : Ty} {v : AV} {vv : Value} (h : R c v vv) : R c (asAv t v) vv := by
  unfold asAv
  split
  · rename_i cs
    split
    · rename_i kd
      split
      · rename_i ys hy
        cases h with
        | agg hl =>
          rename_i vs
          refine .av (ys.map fun y => [.int kd (IK.z kd y)]) ?_ (by rw [List.length_map]) fun j hj => ?_
          · rw [rdIs_R hl hy]
            clear hl hy
            induction ys with
            | nil => rfl
            | cons y ys ih => simp only [List.map_cons, List.flatten_cons, List.singleton_append, ih]
          · simp only [List.getElem_map, RD]
      · exact h
    · exact h
  · exact h

theorem store_sound (hM : HM bs φ s w) {T : TypeId} (hE : EnvOK P E) {p v : AV} {vp vv : Value} (hp : R (cx bs φ s w) p vp) (hv : R (cx bs φ s w) v vv) (h : To P (hl · s.h) id (store s.m (ti T E) p v) log o) :
    ∃ hs rd, o = .ok .junk hs rd ∧ ∃ w', (Instr.storeAt T vp vv).run P w = .ok () w' ∧ Res bs φ s w hs .junk undef w' := by
  unfold store at h
  obtain ⟨hok, h⟩ := To.chk_inv h
  have hT := hE.ok hok
  split at h
  · rename_i i off _
    have h := To.rd_inv h
    cases hp with
    | ptr ha h1 =>
      rename_i b off0
      have h1 : φ i = some (b, off0) := h1
      split at h
      · rename_i l hb
        obtain ⟨b', cs, e, e1, e2, e3⟩ := blk_cells hM hb
        rw [h1] at e1; cases e1
        obtain ⟨h1c, h⟩ := To.chk_inv h
        obtain ⟨hn, h⟩ := To.chk_inv h
        obtain ⟨hle, h⟩ := To.chk_inv h
        have hn := Nat.eq_of_beq_eq_true hn
        have hle := Nat.le_of_ble_eq_true hle
        obtain ⟨hcv, hone⟩ := hv.cells1 h1c
        have hl1 := hcv.length
        have hl2 := e3.length
        have hsz : vv.cells.size = (ti T E).sz := by rw [← hn, hl1]; simp
        have hcs : off + (ti T E).sz ≤ cs.size := by simp at hl2; omega
        have hrun : (Instr.storeAt T (.pointer (some ⟨b, 0 + off, none⟩)) vv).run P w = .ok () (w.setRow b (cs.toList.take off ++ vv.cells.toList ++ cs.toList.drop (off + vv.cells.toList.length)).toArray) := by
          simp only [Instr.storeAt, Instr.sureAddr, Sem.run_bind, Sem.run_pure, Result.andThen_ok, Nat.zero_add]
          exact storeVar_run hT e2 hsz hcs hone
        refine ⟨_, _, To.ret_inv h, _, hrun, ?_⟩
        · obtain ⟨f1, f2, f3, f4, f5⟩ := setRow_facts e2 (cs.toList.take off ++ vv.cells.toList ++ cs.toList.drop (off + vv.cells.toList.length)).toArray (by simp; omega)
          obtain ⟨g1, g2⟩ := hM.write i (b' := .cells (setAt l off (avCells v))) hb h1 (fun t n e => by cases e) f1 f2 f3 f4 fun hle' => ⟨b, _, e, h1, f5, by
            have := RL.setAt (RL.le hle' e3) (RL.le hle' hcv) (k := off) (by rw [hn]; exact hle)
            simpa using this⟩
          exact ⟨φ, g1, g2, .junk _⟩
      · rename_i o' t xs hb
        have hv := asAv_R (t := t) hv
        generalize asAv t v = v at hv h
        split at h
        · rename_i u ys _ _
          obtain ⟨e, h⟩ := To.asTy_inv h
          subst e
          obtain ⟨⟨hys, hsz⟩, h⟩ := To.vc_inv h
          obtain ⟨cs, e, e1, e2, e3⟩ := blk_arr hM hb h1
          cases hv with
          | av css c1 c2 c3 =>
            rename_i acs
            have hlen : css.flatten.length = xs.length * sz u := by
              rw [flat_length (n := sz u) (fun c hc => by obtain ⟨j, hj, rfl⟩ := List.getElem_of_mem hc; exact (c3 j (c2 ▸ hj)).length), c2, hys]
            have hsize : (Value.agg acs).cells.size = (ti T E).sz := by
              show acs.size = _
              rw [← Array.length_toList, c1, hlen, hsz]
            have hone : ∀ x ∈ (Value.agg acs).cells.toList, x.oneCell' = true := by
              intro x hx
              have hx : x ∈ acs.toList := hx
              rw [c1] at hx
              obtain ⟨c, hc, hx⟩ := List.mem_flatten.1 hx
              obtain ⟨j, hj, rfl⟩ := List.getElem_of_mem hc
              exact (c3 j (c2 ▸ hj)).one x hx
            have hrun : (Instr.storeAt T (.pointer (some ⟨b, off0 + 0, none⟩)) (.agg acs)).run P w = .ok () (w.setRow b (cs.toList.take off0 ++ acs.toList ++ cs.toList.drop (off0 + acs.toList.length)).toArray) := by
              simp only [Instr.storeAt, Instr.sureAddr, Sem.run_bind, Sem.run_pure, Result.andThen_ok, Nat.add_zero]
              exact storeVar_run hT e1 hsize (by rw [← hsz]; exact e2) hone
            refine ⟨_, _, To.ret_inv h, _, hrun, ?_⟩
            · obtain ⟨f1, f2, f3, f4, f5⟩ := setRow_facts e1 (cs.toList.take off0 ++ acs.toList ++ cs.toList.drop (off0 + acs.toList.length)).toArray (by rw [c1]; simp [hlen]; omega)
              obtain ⟨g1, g2⟩ := hM.write i (b' := .arr _ _ ys) hb h1 (fun t n e => by rw [← e]; simp [shp, hys]) f1 f2 f3 f4 fun hle' => Or.inl ⟨b, off0, _, e, h1, f5, by rw [hys]; rw [c1]; simp [hlen]; omega, by
                refine RDs.of_flat f5 c2 (fun j hj => RDs.le hle' (c3 j hj)) fun k hk => ?_
                simp only [List.getElem?_toArray]
                rw [splice_get cs.toList acs.toList off0 (off0 + k) (by rw [c1]; simp [hlen]; omega), if_neg (by omega), if_pos (by rw [c1]; omega), c1]
                congr 1; omega⟩
              exact ⟨φ, g1, g2, .junk _⟩
        · exact (To.bad_inv h).elim
      · exact (To.bad_inv h).elim
  · rename_i i j k _
    have h := To.rd_inv h
    split at h
    · rename_i o' t xs hb
      obtain ⟨h1c, h⟩ := To.chk_inv h
      obtain ⟨hn, h⟩ := To.chk_inv h
      obtain ⟨hle, h⟩ := To.chk_inv h
      obtain ⟨hj, h⟩ := To.vc_inv h
      have hn := Nat.eq_of_beq_eq_true hn
      have hle := Nat.le_of_ble_eq_true hle
      obtain ⟨hcv, hone⟩ := hv.cells1 h1c
      cases hp with
      | pa ha h1 h2 =>
        rename_i b off0 off1
        have h1 : φ i = some (b, off0) := h1
        have h2 := h2 _ _ (shp_arr hb)
        subst h2
        obtain ⟨cs, e, e1, e2, e3⟩ := blk_arr hM hb h1
        obtain ⟨rc, r1, r2⟩ := e3 j hj
        have hrc := r2.length
        rw [List.getD_eq_getElem?_getD, List.getElem?_eq_getElem hj] at h
        have hrow := RL.setAt (RD.cells (c := cx bs φ s w) r2) hcv (k := k) (by rw [hn, length_cellsD]; exact hle)
        obtain ⟨d, org, ids, rest, log', v1, v2, t1, t2, t3, t4, t5⟩ := toD_sound hM t hrow h
        split at t1
        · rename_i hrest
          cases t3
          rw [List.append_nil] at t2
          obtain ⟨hid, t1⟩ := To.chk_inv t1
          have hid := any_beq hid
          have hl1 := hcv.length
          have hsz : vv.cells.size = (ti T E).sz := by rw [← hn, hl1]; simp
          have hcs : off0 + j * sz t + sz t ≤ cs.size := by
            have : (j + 1) * sz t ≤ xs.length * sz t := Nat.mul_le_mul_right _ hj
            rw [Nat.add_mul] at this; omega
          have hrun : (Instr.storeAt T (.pointer (some ⟨b, off0 + j * sz t + k, none⟩)) vv).run P w = .ok () (w.setRow b (cs.toList.take (off0 + j * sz t + k) ++ vv.cells.toList ++ cs.toList.drop (off0 + j * sz t + k + vv.cells.toList.length)).toArray) := by
            simp only [Instr.storeAt, Instr.sureAddr, Sem.run_bind, Sem.run_pure, Result.andThen_ok]
            exact storeVar_run hT e1 hsz (by omega) hone
          refine ⟨_, _, To.ret_inv t1, _, hrun, ?_⟩
          · have hvl : vv.cells.toList.length = (ti T E).sz := by simpa using hsz
            obtain ⟨k1, k2⟩ := hM.kills ids t4
            have hb' : hl i (s.kills ids).h = some (.arr o' t xs) := by
              show hl i (kills ids s.h) = _
              rw [hl_kills, if_neg hid]; exact hb
            obtain ⟨f1, f2, f3, f4, f5⟩ := setRow_facts e1 (cs.toList.take (off0 + j * sz t + k) ++ vv.cells.toList ++ cs.toList.drop (off0 + j * sz t + k + vv.cells.toList.length)).toArray (by simp [hvl]; omega)
            have hget : ∀ q, (cs.toList.take (off0 + j * sz t + k) ++ vv.cells.toList ++ cs.toList.drop (off0 + j * sz t + k + vv.cells.toList.length)).toArray[q]? =
                if q < off0 + j * sz t + k then cs[q]? else if q < off0 + j * sz t + k + vv.cells.toList.length then vv.cells.toList[q - (off0 + j * sz t + k)]? else cs[q]? := by
              intro q
              simp only [List.getElem?_toArray]
              rw [splice_get _ _ _ _ (by simp [hvl]; omega)]
              simp
            have hcell : ∀ q, (w.setRow b (cs.toList.take (off0 + j * sz t + k) ++ vv.cells.toList ++ cs.toList.drop (off0 + j * sz t + k + vv.cells.toList.length)).toArray).cell? ⟨b, q, none⟩ = if q < off0 + j * sz t + k then cs[q]? else if q < off0 + j * sz t + k + vv.cells.toList.length then vv.cells.toList[q - (off0 + j * sz t + k)]? else cs[q]? := by
              intro q
              rw [← hget q]
              simp only [World.cell?, f5]; rfl
            have hold : ∀ q, w.cell? ⟨b, q, none⟩ = cs[q]? := by intro q; simp only [World.cell?, e1]; rfl
            obtain ⟨g1, g2⟩ := k1.write i (b' := .arr (o'.join org) t (xs.set j d)) hb' h1 (fun t n e => by rw [← e]; simp [shp]) f1 f2 f3 f4 fun hle' => Or.inl ⟨b, off0, _, e, h1, f5, by simp [hvl]; omega, by
              intro j' hj'
              have hj2 : j' < xs.length := by simpa using hj'
              have hnew : RD (w.setRow b (cs.toList.take (off0 + j * sz t + k) ++ vv.cells.toList ++ cs.toList.drop (off0 + j * sz t + k + vv.cells.toList.length)).toArray)
                  ((cx bs φ { s.kills ids with h := (i, some (.arr (o'.join org) t (xs.set j d))) :: (s.kills ids).h } _).ok (o'.join org)) t d v1 :=
                RDs.le hle' ((t5 ids t4 fun _ h => h).join2 o')
              by_cases ej : j = j'
              · subst ej
                refine ⟨v1, fun q hq => (hcell _).trans ?_, by rw [List.getElem_set_self]; exact hnew⟩
                have hqv : q < sz t := by rw [hnew.length] at hq; exact hq
                have := congrArg (·[q]?) t2
                simp only [List.getElem?_eq_getElem hq] at this
                rw [splice_get rc vv.cells.toList k q (by rw [hvl, hrc]; exact hle)] at this
                by_cases c1 : q < k
                · rw [if_pos c1] at this
                  rw [if_pos (by omega), ← hold, r1 q (by omega), ← this, List.getElem?_eq_getElem]
                · rw [if_neg c1] at this
                  rw [if_neg (by omega)]
                  by_cases c2 : q < k + vv.cells.toList.length
                  · rw [if_pos c2] at this
                    rw [if_pos (by omega), ← this]
                    congr 1; omega
                  · rw [if_neg c2] at this
                    rw [if_neg (by omega), ← hold, r1 q (by omega), ← this, List.getElem?_eq_getElem]
              · obtain ⟨rc', q1, q2⟩ := e3 j' hj2
                have hrc' := q2.length
                refine ⟨rc', fun q hq => (hcell _).trans ?_, ?_⟩
                · have hq' : q < sz t := by rw [hrc'] at hq; exact hq
                  rcases Nat.lt_or_gt_of_ne ej with hlt | hgt
                  · have : (j + 1) * sz t ≤ j' * sz t := Nat.mul_le_mul_right _ hlt
                    rw [Nat.add_mul] at this
                    rw [if_neg (by omega), if_neg (by rw [hvl]; omega), ← hold, q1 q hq]
                  · have : (j' + 1) * sz t ≤ j * sz t := Nat.mul_le_mul_right _ hgt
                    rw [Nat.add_mul] at this
                    rw [if_pos (by omega), ← hold, q1 q hq]
                · rw [List.getElem_set_ne ej]
                  exact RDs.le hle' ((RDs.le k2 q2).join1 org)⟩
            have hlk : ∀ x, hl x ({ s.kills ids with h := (i, some (.arr (o'.join org) t (xs.set j d))) :: (s.kills ids).h } : St).h = hl x (s.push (kills ids [(i, some (.arr (o'.join org) t (xs.set j d)))])).h := by
              intro x
              show hl x ((i, _) :: kills ids s.h) = hl x (kills ids [(i, _)] ++ s.h)
              rw [kills_push, hl_cons, hl_kills, hl_kills, List.singleton_append, hl_cons]
              by_cases e1 : i = x
              · subst e1; simp [hid]
              · simp [e1]
            have hal : ∀ x, St.al { s.kills ids with h := (i, some (.arr (o'.join org) t (xs.set j d))) :: (s.kills ids).h } x ↔ (s.push (kills ids [(i, some (.arr (o'.join org) t (xs.set j d)))])).al x := by
              intro x
              rw [al_cons, al_kills t4]
              show _ ↔ ∃ y, (x, y) ∈ kills ids [(i, _)] ++ s.h
              rw [kills_push]
              constructor
              · rintro (rfl | ⟨y, hy⟩)
                · exact ⟨_, mem_kills (List.mem_cons_self ..)⟩
                · exact ⟨y, mem_kills (by simp [hy])⟩
              · rintro ⟨y, hy⟩
                rcases kills_mem hy with hx | hy
                · exact Or.inr (t4 x hx)
                · rcases List.mem_cons.1 hy with hy | hy
                  · cases hy; exact Or.inl rfl
                  · exact Or.inr ⟨y, hy⟩
            refine ⟨φ, g1.ext hlk hal (Nat.le_refl _) rfl, ?_, .junk _⟩
            rw [← cx_ext hlk hal]
            exact k2.trans g2
        · exact (To.bad_inv t1).elim
    · rename_i t xs hb
      obtain ⟨hone, h⟩ := To.chk_inv h
      obtain ⟨hn, h⟩ := To.chk_inv h
      obtain ⟨hj, h⟩ := To.vc_inv h
      have hn := Nat.eq_of_beq_eq_true hn
      have h1c := hv.one hone
      have hcells : vv.cells = #[vv] := by cases vv <;> first | rfl | cases h1c
      cases hp with
      | pa ha h1 h2 =>
        rename_i b off0 off1
        have h1 : φ i = some (b, off0) := h1
        have h2 := h2 _ _ (shp_deep hb)
        subst h2
        obtain ⟨cs, e, e1, e2, e3, G, g1, g2, g3⟩ := blk_deep hM hb h1
        obtain ⟨rc, r1, r2⟩ := g3 j hj (by simp)
        have hrc := r2.length
        rw [List.getD_eq_getElem?_getD, List.getElem?_eq_getElem hj] at h
        obtain ⟨d', t1, t2, t3⟩ := putSc_sound hv t r2 h
        have hrow : (j + 1) * sz t ≤ xs.length * sz t := Nat.mul_le_mul_right _ hj
        rw [Nat.add_mul] at hrow
        have hrun : (Instr.storeAt T (.pointer (some ⟨b, off0 + j * sz t + k, none⟩)) vv).run P w = .ok () (w.setRow b (cs.toList.take (off0 + j * sz t + k) ++ [vv] ++ cs.toList.drop (off0 + j * sz t + k + [vv].length)).toArray) := by
          simp only [Instr.storeAt, Instr.sureAddr, Sem.run_bind, Sem.run_pure, Result.andThen_ok]
          have := storeVar_run (v := vv) (b := b) (off := off0 + j * sz t + k) hT e1 (by rw [hcells]; simpa using hn) (by omega) (by rw [hcells]; simpa using h1c)
          rw [hcells] at this
          exact this
        refine ⟨_, _, To.ret_inv t1, _, hrun, ?_⟩
        obtain ⟨f1, f2, f3, f4, f5⟩ := setRow_facts e1 (cs.toList.take (off0 + j * sz t + k) ++ [vv] ++ cs.toList.drop (off0 + j * sz t + k + [vv].length)).toArray (by simp; omega)
        have hk : ∀ x, φ.ψ i x → (w.setRow b (cs.toList.take (off0 + j * sz t + k) ++ [vv] ++ cs.toList.drop (off0 + j * sz t + k + [vv].length)).toArray).heap[x]? = w.heap[x]? := fun x hx => f2 x fun e => e3 (e ▸ hx)
        obtain ⟨q1, q2⟩ := hM.write i (b' := .deep t (xs.set j d')) hb h1 (fun t n e => by rw [← e]; simp [shp]) f1 f2 f3 f4 fun hle' => Or.inl ⟨b, off0, _, e, h1, f5, by simp; omega, e3, G, g1, g2, fun j' hj' _ => by
          have hj2 : j' < xs.length := by simpa using hj'
          by_cases ej : j = j'
          · subst ej
            refine ⟨_, RowAt.within e1 [vv] (off0 + j * sz t) k (by simp; omega) r1 (by simp; omega), ?_⟩
            rw [List.getElem_set_self]
            exact t3 _ fun x hx => hk x (g1 j x hx)
          · obtain ⟨rc', p1, p2⟩ := g3 j' hj2 (by simp)
            refine ⟨rc', RowAt.apart e1 [vv] _ (by simp; omega) p1 (by rw [p2.length]; exact row_apart (by simp; omega) ej off0), ?_⟩
            rw [List.getElem_set_ne ej]
            exact p2.keep fun x hx => hk x (g1 j' x hx)⟩
        exact ⟨φ, q1, q2, .junk _⟩
    · rename_i t xs q row hb
      obtain ⟨h1c, h⟩ := To.chk_inv h
      obtain ⟨hn, h⟩ := To.chk_inv h
      obtain ⟨hle, h⟩ := To.chk_inv h
      obtain ⟨hjq, h'⟩ := To.vc_inv h
      have hn := Nat.eq_of_beq_eq_true hn
      have hle := Nat.le_of_ble_eq_true hle
      obtain ⟨hcv, hone⟩ := hv.cells1 h1c
      subst hjq
      cases hp with
      | pa ha h1 h2 =>
        rename_i b off0 off1
        have h1 : φ i = some (b, off0) := h1
        have h2 := h2 _ _ (shp_seg hb)
        subst h2
        obtain ⟨cs, e, e1, e2, e3, ⟨G, g1, g2, g3⟩, hj, hrl, rc, r1, r2⟩ := blk_seg hM hb h1
        have hl1 := hcv.length
        have hl2 := r2.length
        have hsz : vv.cells.size = (ti T E).sz := by rw [← hn, hl1]; simp
        have hvl : vv.cells.toList.length = (ti T E).sz := by simpa using hsz
        have hrow : (j + 1) * sz t ≤ xs.length * sz t := Nat.mul_le_mul_right _ hj
        rw [Nat.add_mul] at hrow
        have hrun : (Instr.storeAt T (.pointer (some ⟨b, off0 + j * sz t + k, none⟩)) vv).run P w = .ok () (w.setRow b (cs.toList.take (off0 + j * sz t + k) ++ vv.cells.toList ++ cs.toList.drop (off0 + j * sz t + k + vv.cells.toList.length)).toArray) := by
          simp only [Instr.storeAt, Instr.sureAddr, Sem.run_bind, Sem.run_pure, Result.andThen_ok]
          exact storeVar_run hT e1 hsz (by omega) hone
        refine ⟨_, _, To.ret_inv h', _, hrun, ?_⟩
        obtain ⟨f1, f2, f3, f4, f5⟩ := setRow_facts e1 (cs.toList.take (off0 + j * sz t + k) ++ vv.cells.toList ++ cs.toList.drop (off0 + j * sz t + k + vv.cells.toList.length)).toArray (by simp [hvl]; omega)
        have hk : ∀ x, φ.ψ i x → (w.setRow b (cs.toList.take (off0 + j * sz t + k) ++ vv.cells.toList ++ cs.toList.drop (off0 + j * sz t + k + vv.cells.toList.length)).toArray).heap[x]? = w.heap[x]? := fun x hx => f2 x fun e => e3 (e ▸ hx)
        obtain ⟨q1, q2⟩ := hM.write i (b' := .seg t xs j (setAt row k (avCells v))) hb h1 (fun t n e => by rw [← e]; simp [shp]) f1 f2 f3 f4 fun hle' => ⟨b, off0, _, e, h1, f5, by simp [hvl]; omega, e3, ⟨G, g1, g2, fun j' hj' hs => by
          have ej : j ≠ j' := fun e => hs (by rw [e])
          obtain ⟨rc', p1, p2⟩ := g3 j' hj' hs
          exact ⟨rc', RowAt.apart e1 vv.cells.toList _ (by rw [hvl]; omega) p1 (by rw [p2.length]; exact row_apart (by rw [hvl]; omega) ej off0), p2.keep fun x hx => hk x (g1 j' x hx)⟩⟩, hj, by
            rw [setAt_eq row k _ (by rw [hn]; omega)]; simp; omega, _, RowAt.within e1 vv.cells.toList (off0 + j * sz t) k (by rw [hvl]; omega) r1 (by rw [hvl]; omega), by
            have := RL.setAt (RL.le hle' r2) (RL.le hle' hcv) (k := k) (by rw [hn]; omega)
            exact this⟩
        exact ⟨φ, q1, q2, .junk _⟩
    · exact (To.bad_inv h).elim
  · exact (To.bad_inv h).elim
end
end Go.Fw
