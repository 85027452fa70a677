/- Helpers of Known, part 4: the executor and contracts of functions. No statement of the seat is proved here, under no condition. -/
import Derived.Test.YtbgnnpbcifgckaaKnown3
import Derived.Recover
set_option linter.all false
namespace Go.Fw
open Go Go.RowKit

inductive It where
  | seq (c : Code)
  | blk (id : Nat)
  | loop (n : Nat) (I : Nat → St → Prop)
  | dfr (f : Operand)

inductive Md where
  | c (c : Code)
  | nrm
  | ex (i : Nat)
  | r (ops : Array Oper) (draw : Bool)
  | o (ops : List Oper) (draw : Bool) (nx0 : Nat) (l : List Oper) (kn : List (Nat × Bool)) (tr : List Eff)

/-- What is done ahead of a region: nil slices become one's own · open rows are closed · a row is opened, by a place in it · by its block and its number. -/
inductive Hint where
  | own (G : List Nat)
  | close
  | row (i : Nat) (p : List Nat)
  | hat (i : Nat) (p : List Nat) (j : Nat) (q : List Nat)

def forceS (s : St) (K : St → Prop) : Prop :=
  match s with
  | ⟨n, t, h, nx, m, df⟩ => forceN nx fun nx => K ⟨n, t, h, nx, m, df⟩
theorem forceS_iff (s : St) (K : St → Prop) : forceS s K ↔ K s := by cases s; simp only [forceS, forceN_iff]

def openK (id : Nat) (t : Ty) (xs : List (D t)) (j : Nat) (s : St) (K : St → Prop) : Prop :=
  match s with
  | ⟨n, ts, h, nx, m, df⟩ => forceN nx fun nx => match opn t (xs.getD j (dz t)) nx with
    | (row, hs, nx) => forceN nx fun nx => appK hs h fun h => K ⟨n, ts, (id, some (.seg t xs j row)) :: h, nx, m, df⟩
theorem openK_iff {id : Nat} {t : Ty} {xs : List (D t)} {j : Nat} {s : St} {K : St → Prop} : openK id t xs j s K ↔ K (openAt id t xs j s) := by
  obtain ⟨n, ts, h, nx, m, df⟩ := s
  simp only [openK, forceN_iff, appK_iff, openAt]

def hintK (K : St → Prop) : Hint → St → Prop
  | .own G, s => forceS (own0 G s) K
  | .close, s => forceS (closeAll s) K
  | .row i p, s => match follow (hl · s.h) (look i s.t) p with
    | .pa id j _ => match hl id s.h with
      | some (.deep t xs) => match Nat.ble s.m id with
        | true => j < xs.length ∧ openK id t xs j s K
        | false => False
      | _ => False
    | _ => False
  | .hat i p j q, s => match follow (hl · s.h) (look i s.t) p with
    | .own id => match follow (hl · s.h) (look j s.t) q with
      | .val (.int _ z) => match hl id s.h with
        | some (.deep t xs) => match Nat.ble s.m id with
          | true => (0 ≤ z ∧ z < xs.length) ∧ openK id t xs z.toNat s K
          | false => False
        | _ => False
      | _ => False
    | _ => False

def hintsK (K : St → Prop) : List Hint → St → Prop
  | [], s => K s
  | h :: r, s => hintK (hintsK K r) h s

theorem hintK_sound {K : St → Prop} {h : Hint} {s : St} (hk : hintK K h s) : ∃ s', Ent s s' ∧ K s' := by
  cases h with
  | own G => exact ⟨_, own0_ent G s, (forceS_iff _ _).1 hk⟩
  | close => exact ⟨_, closeAll_ent s, (forceS_iff _ _).1 hk⟩
  | row i p =>
    simp only [hintK] at hk
    split at hk
    · split at hk
      · rename_i hb
        split at hk
        · rename_i hm
          exact ⟨_, openAt_ent hb hk.1 (Nat.le_of_ble_eq_true hm), openK_iff.1 hk.2⟩
        · exact hk.elim
      · exact hk.elim
    · exact hk.elim
  | hat i p j q =>
    simp only [hintK] at hk
    split at hk
    · split at hk
      · split at hk
        · rename_i hb
          split at hk
          · rename_i hm
            exact ⟨_, openAt_ent hb (by omega) (Nat.le_of_ble_eq_true hm), openK_iff.1 hk.2⟩
          · exact hk.elim
        · exact hk.elim
      · exact hk.elim
    · exact hk.elim

theorem hintsK_sound {K : St → Prop} : ∀ {l : List Hint} {s : St}, hintsK K l s → ∃ s', Ent s s' ∧ K s'
  | [], s, h => ⟨s, Ent.refl s, h⟩
  | _ :: _, _, h => by
    obtain ⟨s1, e1, h1⟩ := hintK_sound h
    obtain ⟨s2, e2, h2⟩ := hintsK_sound h1
    exact ⟨s2, e1.trans e2, h2⟩

/-- What is done ahead of this region. -/
def cutG (i : Nat) : List (Nat × List Hint) → List Hint
  | [] => []
  | (j, G) :: r => match Nat.beq i j with
    | true => G
    | false => cutG i r

def xRun (P : Program) (E : Env) (cu : List (Nat × List Hint)) (F : Ex → St → Prop) : Nat → Md → List It → St → Prop
  | 0, _, _, _ => False
  | f + 1, md, k, s => match md with
    | .c c => match c with
      | .skip => xRun P E cu F f .nrm k s
      | .label _ => xRun P E cu F f .nrm k s
      | .region id ops draw => hintsK (fun s => xRun P E cu F f (.r ops draw) k s) (cutG id cu) s
      | .seq a b => xRun P E cu F f (.c a) (.seq b :: k) s
      | .cond c a b => match ev s.t c with
        | .tt => xRun P E cu F f (.c a) k s
        | .ff => xRun P E cu F f (.c b) k s
        | .val (.bool x) => (x = true → xRun P E cu F f (.c a) k s) ∧ (x = false → xRun P E cu F f (.c b) k s)
        | _ => False
      | .block id c => xRun P E cu F f (.c c) (.blk id :: k) s
      | .loop c => ∃ I : Nat → St → Prop, (∃ n s', Ent s s' ∧ I n s') ∧ ∀ n s', I n s' → xRun P E cu F f (.c c) (.loop n I :: k) s'
      | .scope c => xRun P E cu F f (.c c) k s
      | .exit id => xRun P E cu F f (.ex id) k s
      | .ret => F .ret s
      | _ => False
    | .r ops draw => match s with
      | ⟨n, t, h, nx, m, df⟩ => forceN nx fun nx => match draw with
        | false => match splitD ops.toList with
          | none => xRun P E cu F f (.o ops.toList false nx ops.toList [] []) k ⟨n, t, h, nx, m, df⟩
          | some (l, g) => xRun P E cu F f (.o ops.toList false nx l [] []) (.dfr g :: k) ⟨n, t, h, nx, m, df⟩
        | true => Region.lexB .any ops = true ∧ xRun P E cu F f (.o ops.toList true nx ops.toList [] []) k ⟨n, t, h, nx, m, df⟩
    | .nrm => match k with
      | [] => F .normal s
      | .seq c :: k => xRun P E cu F f (.c c) k s
      | .blk _ :: k => xRun P E cu F f .nrm k s
      | .loop n I :: _ => ∃ n' s'', n' < n ∧ Ent s s'' ∧ I n' s''
      | .dfr g :: k => match s with
        | ⟨n, t, h, nx, m, df⟩ => dfrK t g fun d => xRun P E cu F f .nrm k ⟨n, t, h, nx, m, d :: df⟩
    | .ex i => match k with
      | [] => F (.exit i) s
      | .blk j :: k => match Nat.beq i j with
        | true => xRun P E cu F f .nrm k s
        | false => xRun P E cu F f (.ex i) k s
      | .seq _ :: k => xRun P E cu F f (.ex i) k s
      | .loop _ _ :: k => xRun P E cu F f (.ex i) k s
      | .dfr _ :: k => xRun P E cu F f (.ex i) k s
    | .o ops draw nx0 l kn tr => match s with
      | ⟨n, t, h, id, m, df⟩ => match l with
        | [] => match draw with
          | false => xRun P E cu F f .nrm k ⟨n, t, h, id, m, df⟩
          | true => match forceL (waitL ops []) fun wl => heapApart nx0 wl tr with
            | true => xRun P E cu F f .nrm k ⟨n, t, h, id, m, df⟩
            | false => False
        | o :: os => guardK ops t kn o.guard fun run kn => match run with
          | false => putK n o.dst (.val undef) t fun t => forceN (id + 16) fun id => xRun P E cu F f (.o ops draw nx0 os (forget o.dst kn) (⟨[], []⟩ :: tr)) k ⟨n, t, h, id, m, df⟩
          | true => (opTr m E id o t kn).run P (hl · h) id [] fun
            | .ok v hs rd => force v fun v => putK n o.dst v t fun t => appK hs h fun h => forceN (id + 16) fun id =>
                forceL rd fun rd => forceL (keys hs) fun ks => xRun P E cu F f (.o ops draw nx0 os (forget o.dst kn) (⟨rd, ks⟩ :: tr)) k ⟨n, t, h, id, m, df⟩
            | .panic v hs rd => match draw with
              | false => appK hs h fun h => forceN (id + 16) fun id => F (.panic v) ⟨n, t, h, id, m, df⟩
              | true => appK hs h fun h => forceN (id + 16) fun id => forceL rd fun rd => forceL (keys hs) fun ks => panicK P E ops n m nx0 (⟨rd, ks⟩ :: tr) t h id fun t h nx => F (.panic v) ⟨n, t, h, nx, m, df⟩

/-- What a stack stands for. -/
def stk (P : Program) (E : Env) (F : Ex → St → Prop) : List It → Ex → St → Prop
  | [], e, s => F e s
  | .seq c :: k, e, s => match e with
    | .normal => xCode P E c s (stk P E F k)
    | e => stk P E F k e s
  | .blk id :: k, e, s => match e with
    | .exit i => match Nat.beq i id with
      | true => stk P E F k .normal s
      | false => stk P E F k (.exit i) s
    | e => stk P E F k e s
  | .loop n I :: k, e, s => match e with
    | .normal => ∃ n' s'', n' < n ∧ Ent s s'' ∧ I n' s''
    | e => stk P E F k e s
  | .dfr g :: k, e, ⟨n, t, h, nx, m, df⟩ => match e with
    | .normal => dfrK t g fun d => stk P E F k .normal ⟨n, t, h, nx, m, d :: df⟩
    | e => stk P E F k e ⟨n, t, h, nx, m, df⟩

theorem stk_ret {P : Program} {E : Env} {F : Ex → St → Prop} : ∀ {k : List It} {s : St}, F .ret s → stk P E F k .ret s
  | [], _, h => h
  | .seq _ :: k, _, h => stk_ret (k := k) h
  | .blk _ :: k, _, h => stk_ret (k := k) h
  | .loop _ _ :: k, _, h => stk_ret (k := k) h
  | .dfr _ :: k, _, h => stk_ret (k := k) h

theorem stk_panic {P : Program} {E : Env} {F : Ex → St → Prop} {v : AV} : ∀ {k : List It} {s : St}, F (.panic v) s → stk P E F k (.panic v) s
  | [], _, h => h
  | .seq _ :: k, _, h => stk_panic (k := k) h
  | .blk _ :: k, _, h => stk_panic (k := k) h
  | .loop _ _ :: k, _, h => stk_panic (k := k) h
  | .dfr _ :: k, _, h => stk_panic (k := k) h

/-- What the end of a region asks. -/
def regK (P : Program) (E : Env) (F : Ex → St → Prop) (k : List It) (ops : List Oper) (draw : Bool) (nx0 n m : Nat) (df : List AV) : Ex → List Eff → List (Nat × AV) → List (Nat × Option Blk) → Nat → Prop := fun e tr t h nx =>
  match draw with
  | false => stk P E F k e ⟨n, t, h, nx, m, df⟩
  | true => match e with
    | .normal => match heapApart nx0 (waitL ops []) tr with
      | true => stk P E F k .normal ⟨n, t, h, nx, m, df⟩
      | false => False
    | .panic v => panicK P E ops n m nx0 tr t h nx fun t h nx => stk P E F k (.panic v) ⟨n, t, h, nx, m, df⟩
    | _ => False

/-- What a mode asks. -/
def mdK (P : Program) (E : Env) (F : Ex → St → Prop) : Md → List It → St → Prop
  | .c c, k, s => xCode P E c s (stk P E F k)
  | .nrm, k, s => stk P E F k .normal s
  | .ex i, k, s => stk P E F k (.exit i) s
  | .r ops draw, k, s => xRegion P E ops draw s (stk P E F k)
  | .o ops draw nx0 l kn tr, k, ⟨n, t, h, id, m, df⟩ => xOps P E ops n m l id kn tr t h (regK P E F k ops draw nx0 n m df)

theorem xRun_sound {P : Program} {E : Env} {cu : List (Nat × List Hint)} {F : Ex → St → Prop} : ∀ (f : Nat) (md : Md) (k : List It) (s : St), xRun P E cu F f md k s → mdK P E F md k s := by
  intro f
  induction f with
  | zero => intro md k s h; exact h.elim
  | succ f ih =>
    intro md k s h
    obtain ⟨n, t, h0, nx, m, df⟩ := s
    unfold xRun at h
    cases md with
    | c c =>
      cases c with
      | skip => exact ih .nrm k _ h
      | label l => exact ih .nrm k _ h
      | region id ops draw =>
        obtain ⟨s', e', h'⟩ := hintsK_sound h
        exact ⟨s', e', ih (.r ops draw) k _ h'⟩
      | seq a b =>
        have h := ih (.c a) (.seq b :: k) _ h
        simp only [mdK] at h ⊢
        simp only [xCode]
        refine xCode_mono (fun e s hk => ?_) h
        cases e <;> exact hk
      | cond c a b =>
        dsimp only at h
        simp only [mdK, xCode]
        split at h
        · rename_i he; rw [he]; exact ih (.c a) k _ h
        · rename_i he; rw [he]; exact ih (.c b) k _ h
        · rename_i he; rw [he]; exact ⟨fun hb => ih (.c a) k _ (h.1 hb), fun hb => ih (.c b) k _ (h.2 hb)⟩
        · exact h.elim
      | block id c =>
        have h := ih (.c c) (.blk id :: k) _ h
        simp only [mdK] at h ⊢
        simp only [xCode]
        refine xCode_mono (fun e s hk => ?_) h
        cases e <;> exact hk
      | loop c =>
        obtain ⟨I, h1, h2⟩ := h
        simp only [mdK, xCode]
        refine ⟨I, h1, fun n s hi => ?_⟩
        have h := ih (.c c) (.loop n I :: k) s (h2 n s hi)
        simp only [mdK] at h
        refine xCode_mono (fun e s hk => ?_) h
        cases e <;> exact hk
      | scope c => exact ih (.c c) k _ h
      | exit id => exact ih (.ex id) k _ h
      | ret => exact stk_ret (k := k) h
      | rangeFunc a b c d => exact h.elim
      | goto l => exact h.elim
      | refuse w => exact h.elim
    | r ops draw =>
      dsimp only at h
      rw [forceN_iff] at h
      cases draw with
      | false =>
        dsimp only at h
        simp only [mdK, xRegion]
        split at h
        · rename_i hs; rw [hs]; exact ih (.o ops.toList false nx ops.toList [] []) k _ h
        · rename_i l g hs; rw [hs]; exact ih (.o ops.toList false nx l [] []) (.dfr g :: k) _ h
      | true => exact ⟨h.1, ih (.o ops.toList true nx ops.toList [] []) k _ h.2⟩
    | nrm =>
      cases k with
      | nil => exact h
      | cons x k =>
        cases x with
        | seq c => exact ih (.c c) k _ h
        | blk id => exact ih .nrm k _ h
        | loop n I => exact h
        | dfr g =>
          dsimp only at h
          simp only [mdK, stk]
          unfold dfrK at h ⊢
          split at h
          · exact ih .nrm k _ h
          · exact h.elim
    | ex i =>
      cases k with
      | nil => exact h
      | cons x k =>
        cases x with
        | seq c => exact ih (.ex i) k _ h
        | blk id =>
          dsimp only at h
          simp only [mdK, stk]
          split at h
          · exact ih .nrm k _ h
          · exact ih (.ex i) k _ h
        | loop n I => exact ih (.ex i) k _ h
        | dfr g => exact ih (.ex i) k _ h
    | o ops draw nx0 l kn tr =>
      dsimp only at h
      cases l with
      | nil =>
        simp only [mdK, xOps, regK]
        cases draw with
        | false => exact ih .nrm k _ h
        | true =>
          rw [forceL_eq] at h
          dsimp only at h ⊢
          split at h
          · exact ih .nrm k _ h
          · exact h.elim
      | cons o os =>
        dsimp only at h
        simp only [mdK, xOps]
        refine guardK_mono (fun b kn hb => ?_) h
        cases b with
        | false =>
          simp only [putK_iff, forceN_iff] at hb ⊢
          exact ih (.o ops draw nx0 os _ _) k _ hb
        | true =>
          refine run_mono (fun out hout => ?_) hb
          cases out with
          | ok v hs rd =>
            simp only [force_iff, putK_iff, appK_iff, forceN_iff, forceL_eq] at hout ⊢
            exact ih (.o ops draw nx0 os _ _) k _ hout
          | panic v hs rd =>
            cases draw with
            | false =>
              simp only [appK_iff, forceN_iff, forceL_eq] at hout ⊢
              exact stk_panic (k := k) hout
            | true =>
              simp only [appK_iff, forceN_iff, forceL_eq] at hout ⊢
              exact panicK_mono (fun _ _ _ hk => stk_panic (k := k) hk) hout

/-- A contract, by walking the code: 'σ' says which new blocks are handed back. -/
theorem fn_go {P : Program} {E : Env} (hE : EnvOK P E) (hmix : P.follows .mixedOrders = true) {f : FuncId} {fn : Func} {c : Code} (hf : P.funcs[f]? = some fn) (hb : fn.body = some c) (hn : (fn.name == "runtime.NumGoroutine") = false)
    (σ : List (Nat × List Nat)) {args : List AV} {hin : List Blk} {r : AV} {hs : List (Nat × Option Blk)} (ha : Nat.ble args.length fn.ntmps = true) (h : forceN (cnt hin) fun k => xRun P E [] (endK fn.results.toList k σ r hs) 1000000 (.c c) [] ⟨fn.ntmps, enumT args 0, enum hin 0, k, k, []⟩) : Fw.Fn P f args hin r hs :=
  fn_intro hE hmix hf hb hn σ ha (by rw [forceN_iff, cnt_eq] at h; exact xRun_sound _ (.c c) [] _ h)

theorem fnP_goH {P : Program} {E : Env} (hE : EnvOK P E) (hmix : P.follows .mixedOrders = true) {f : FuncId} {fn : Func} {c : Code} (hf : P.funcs[f]? = some fn) (hb : fn.body = some c) (hn : (fn.name == "runtime.NumGoroutine") = false)
    (cu : List (Nat × List Hint)) (σ : List (Nat × List Nat)) {args : List AV} {hin : List Blk} {r : AV} {hs : List (Nat × Option Blk)} (ha : Nat.ble args.length fn.ntmps = true) (h : forceN (cnt hin) fun k => xRun P E cu (endKP k σ r hs) 1000000 (.c c) [] ⟨fn.ntmps, enumT args 0, enum hin 0, k, k, []⟩) : Fw.FnP P f args hin r hs :=
  fnP_intro hE hmix hf hb hn σ ha (by rw [forceN_iff, cnt_eq] at h; exact xRun_sound _ (.c c) [] _ h)

theorem fnP_go {P : Program} {E : Env} (hE : EnvOK P E) (hmix : P.follows .mixedOrders = true) {f : FuncId} {fn : Func} {c : Code} (hf : P.funcs[f]? = some fn) (hb : fn.body = some c) (hn : (fn.name == "runtime.NumGoroutine") = false)
    (σ : List (Nat × List Nat)) {args : List AV} {hin : List Blk} {r : AV} {hs : List (Nat × Option Blk)} (ha : Nat.ble args.length fn.ntmps = true) (h : forceN (cnt hin) fun k => xRun P E [] (endKP k σ r hs) 1000000 (.c c) [] ⟨fn.ntmps, enumT args 0, enum hin 0, k, k, []⟩) : Fw.FnP P f args hin r hs :=
  fnP_intro hE hmix hf hb hn σ ha (by rw [forceN_iff, cnt_eq] at h; exact xRun_sound _ (.c c) [] _ h)
end Go.Fw
namespace Go.Proofs.Ytbgnnpbcifgckaa
open Go Go.Fw Go.RowKit
set_option maxRecDepth 100000
set_option maxHeartbeats 4000000

def prodI (l : List Int) : Int := l.foldl (· * ·) 1
def cardOK (x : Int) : Bool := decide (1 ≤ x) && decide (x ≤ 4)
/-- Valid numbers of values. -/
def cardsB (l : List Int) : Bool := decide (1 ≤ l.length) && decide (l.length ≤ 8) && l.all cardOK && decide (prodI l ≤ 1024)

theorem prodI_snoc (l : List Int) (x : Int) : prodI (l ++ [x]) = prodI l * x := by simp [prodI]
theorem prodI_take {l : List Int} (h : ∀ x ∈ l, cardOK x = true) : ∀ v, v ≤ l.length → 1 ≤ prodI (l.take v) ∧ prodI (l.take v) ≤ 4 ^ v
  | 0, _ => by simp [prodI]
  | v + 1, hv => by
    obtain ⟨h1, h2⟩ := prodI_take h v (by omega)
    have hx := h l[v] (List.getElem_mem _)
    simp only [cardOK, Bool.and_eq_true, decide_eq_true_eq] at hx
    rw [List.take_succ_eq_append_getElem (by omega), prodI_snoc]
    refine ⟨?_, ?_⟩
    · have := Int.mul_le_mul h1 hx.1 (by decide) (by omega); simpa using this
    · rw [Int.pow_succ]; exact Int.mul_le_mul h2 hx.2 (by omega) (Int.pow_nonneg (by decide))
theorem mem_take_succ {α : Type} {P : α → Prop} {l : List α} {v : Nat} (hv : v < l.length) (h : ∀ x ∈ l.take v, P x) (hx : P l[v]) : ∀ x ∈ l.take (v + 1), P x := by
  intro x hm
  rw [List.take_succ_eq_append_getElem hv, List.mem_append] at hm
  rcases hm with hm | hm
  · exact h x hm
  · simp at hm; rw [hm]; exact hx
theorem prod_bound {l : List Int} {v : Nat} (hl : l.length ≤ 8) (hv : v ≤ l.length) (h : ∀ x ∈ l.take v, cardOK x = true) : 1 ≤ prodI (l.take v) ∧ prodI (l.take v) ≤ 65536 := by
  have := prodI_take (l := l.take v) h v (by simp; omega)
  rw [List.take_take, Nat.min_self] at this
  refine ⟨this.1, Int.le_trans this.2 ?_⟩
  have h8 : v ≤ 8 := by omega
  have : (4 : Int) ^ v ≤ 4 ^ 8 := by exact_mod_cast Nat.pow_le_pow_right (by decide) h8
  simpa using this
theorem getD_lt {α : Type} {l : List α} {v : Nat} {d : α} (h : v < l.length) : l.getD v d = l[v] := by simp [h]
theorem getD_mem {α : Type} {l : List α} {v : Nat} {d : α} (h : v < l.length) : l.getD v d ∈ l := by rw [getD_lt h]; exact List.getElem_mem _
theorem cardsB_false {l : List Int} {v : Nat} (hv : v < l.length) (h : l[v] < 1 ∨ 4 < l[v]) : cardsB l = false := by
  have : l.all cardOK = false := by
    rw [List.all_eq_false]
    exact ⟨l[v], List.getElem_mem _, by simp only [cardOK, Bool.and_eq_true, decide_eq_true_eq]; omega⟩
  simp [cardsB, this]

theorem ref_cards_fn (l : List Int) : Fw.Fn Try.prog 36 [.dat .old (.i .i64) l] [] (.val (.bool (cardsB l))) [] := by
  refine fn_go env_ok mixed Try.func36 (c := Try.f36.body.get rfl) rfl (by kernel_rfl) [] rfl ?_
  refine ⟨fun h1 => ⟨?_, trivial⟩, fun h1 => ⟨fun h2 => ⟨?_, trivial⟩, fun h2 => ?_⟩⟩
  · simp at h1; simp [cardsB]; intro; omega
  · simp at h1 h2; simp [cardsB]; omega
  · simp at h1 h2
    refine ⟨loopI (fun v : Nat => { n := 39, t := [(0, .dat .old (.i .i64) l), (3, .val (.int .i64 (prodI (l.take v)))), (4, .val (.int .i64 v))], h := [], nx := 0}) (fun v => l.length - v) (fun v => v ≤ l.length ∧ ∀ x ∈ l.take v, cardOK x = true),
      loopI.start 0 [] [0, 3, 4] [] .fr ⟨rfl, rfl, rfl, Nat.zero_le _, by simp⟩, ?_⟩
    rintro _ _ ⟨v, rfl, rfl, hv, ha⟩
    refine ⟨fun h => ?_, fun h => ⟨?_, trivial⟩⟩
    · have hlt : v < l.length := by simpa using h
      have hg : l.getD (v : Int).toNat (dz (.i .i64)) = l[v] := getD_lt hlt
      obtain ⟨b1, b2⟩ := prod_bound (by omega) hv ha
      refine ⟨⟨by omega, by omega⟩, fun h3 => ⟨?_, trivial⟩, fun h3 => ⟨⟨by omega, by omega⟩, fun h4 => ⟨?_, trivial⟩, fun h4 => ?_⟩⟩
      · rw [hg] at h3
        exact (cardsB_false hlt (Or.inl (by simpa using h3))).symm
      · rw [hg] at h4
        exact (cardsB_false hlt (Or.inr (by simpa using h4))).symm
      · rw [hg] at h3 h4
        simp at h3 h4
        have hm : 0 ≤ prodI (l.take v) * l[v] ∧ prodI (l.take v) * l[v] ≤ 65536 * 4 := ⟨Int.mul_nonneg (by omega) (by omega), Int.mul_le_mul b2 h4 (by omega) (by omega)⟩
        refine ⟨⟨by omega, by omega⟩, ⟨by rw [hg]; omega, by rw [hg]; omega⟩, ⟨by omega, by omega⟩, loopI.next (v + 1) [] [0, 3, 4] [] .fr ⟨rfl, ?_, ?_, ?_, ?_, ?_⟩⟩
        · rw [hg, List.take_succ_eq_append_getElem hlt, prodI_snoc]
        · omega
        · show l.length - (v + 1) < l.length - v; omega
        · omega
        · exact mem_take_succ hlt ha (by simp [cardOK]; omega)
    · have hge : v = l.length := by simp at h; omega
      subst hge
      rw [List.take_length] at ha ⊢
      have : l.all cardOK = true := List.all_eq_true.2 ha
      simp only [cardsB, this]
      simp
      omega

/-- The elements at places. -/
def atF (l pl : List Int) : List Int := pl.map fun k => l.getD k.toNat 0

theorem at_fn (l pl : List Int) (h : ∀ k ∈ pl, 0 ≤ k ∧ k < l.length) (hl : pl.length ≤ 1048576) :
    Fw.Fn Try.prog 43 [.dat .old (.i .i64) l, .dat .old (.i .i64) pl] [] (.dat .fr (.i .i64) (atF l pl)) [] := by
  refine fn_go env_ok mixed Try.func43 (c := Try.f43.body.get rfl) rfl (by kernel_rfl) [] rfl ?_
  refine ⟨loopI (fun k : Nat => { n := 24, t := [(0, .dat .old (.i .i64) l), (1, .dat .old (.i .i64) pl), (5, .own 0), (6, .val (.int .i64 k))], h := [(0, some (.arr .fr (.i .i64) (atF l (pl.take k))))], nx := 1}) (fun k => pl.length - k) (fun k => k ≤ pl.length),
    loopI.start 0 [5] [0, 1, 5, 6] [(5, [])] .fr ⟨rfl, rfl, rfl, rfl, Nat.zero_le _⟩, ?_⟩
  rintro _ _ ⟨k, rfl, rfl, hk⟩
  refine ⟨fun hd => ?_, fun hd => ⟨?_, trivial⟩⟩
  · have hlt : k < pl.length := by simpa using hd
    have hg : pl.getD (k : Int).toNat (dz (.i .i64)) = pl[k] := getD_lt hlt
    obtain ⟨h0, h1⟩ := h pl[k] (List.getElem_mem _)
    refine ⟨⟨by omega, by omega⟩, ⟨by rw [hg]; exact h0, by rw [hg]; exact h1⟩, ?_, ⟨by omega, by omega⟩, loopI.next (k + 1) [] [0, 1, 5, 6] [(5, [])] .fr ⟨rfl, rfl, ?_, ?_, ?_, ?_⟩⟩
    · simp [atF]; omega
    · omega
    · rw [hg, List.take_succ_eq_append_getElem hlt]; simp only [atF, List.map_append, List.map_cons, List.map_nil]; rfl
    · show pl.length - (k + 1) < pl.length - k; omega
    · omega
  · have : k = pl.length := by simp at hd; omega
    rw [this, List.take_length]
end Go.Proofs.Ytbgnnpbcifgckaa
namespace Go.Proofs.Ytbgnnpbcifgckaa
open Go Go.Fw Go.RowKit
set_option maxRecDepth 100000
set_option maxHeartbeats 4000000

/-- Whether the argument at a place is valid. -/
def okAt (i : Int) (args : List Int) (m : Nat) : Bool := decide (0 ≤ args.getD m 0) && decide (args.getD m 0 < i) && (decide (m = 0) || decide (args.getD (m - 1) 0 < args.getD m 0))
def argsB (i : Int) (args : List Int) : Bool := (List.range args.length).all (okAt i args)
/-- Whether a gate is valid at an index. -/
def gateB (k v x n : Int) (args : List Int) (i : Int) (cards : List Int) : Bool :=
  if k = 1 then decide (0 ≤ n) && decide (n ≤ 4611686018427387903) && decide (v = 0) && decide (x = 0) && decide (args.length = 0)
  else if k = 2 then decide (0 ≤ v) && decide (v < cards.length) && decide (0 ≤ x) && decide (x < cards.getD v.toNat 0) && decide (n = 0) && decide (args.length = 0)
  else if k = 3 ∨ k = 4 then decide (args.length ≠ 0) && decide (n = 0) && decide (v = 0) && decide (x = 0) && argsB i args
  else false

theorem argsB_false {i : Int} {args : List Int} {m : Nat} (hm : m < args.length) (h : okAt i args m = false) : argsB i args = false := by
  unfold argsB
  rw [List.all_eq_false]
  exact ⟨m, List.mem_range.2 hm, by simp [h]⟩
theorem argsB_true {i : Int} {args : List Int} (h : ∀ m, m < args.length → okAt i args m = true) : argsB i args = true :=
  List.all_eq_true.2 fun m hm => h m (List.mem_range.1 hm)

theorem okAt_step {i : Int} {args : List Int} {j : Nat} (ha : ∀ m, m < j → okAt i args m = true) (h : okAt i args j = true) (m : Nat) (hm : m < j + 1) : okAt i args m = true := by
  by_cases e : m = j
  · rw [e]; exact h
  · exact ha m (by omega)
theorem len_beq {α : Type} (l : List α) : (((l.length : Nat) : Int) == 0) = decide (l.length = 0) := by rw [Bool.eq_iff_iff]; simp
theorem pred_toNat (j : Nat) : ((j : Int) - 1).toNat = j - 1 := by omega

theorem okAt_lt {i : Int} {args : List Int} {j : Nat} (h : args.getD j 0 < 0) : okAt i args j = false := by
  have : ¬ 0 ≤ args.getD j 0 := by omega
  simp only [okAt, decide_eq_false this, Bool.false_and]
theorem okAt_ge {i : Int} {args : List Int} {j : Nat} (h : i ≤ args.getD j 0) : okAt i args j = false := by
  have : ¬ args.getD j 0 < i := by omega
  simp only [okAt, decide_eq_false this, Bool.false_and, Bool.and_false]
theorem okAt_le {i : Int} {args : List Int} {j : Nat} (hj : 0 < (j : Int)) (h : args.getD j 0 ≤ args.getD (j - 1) 0) : okAt i args j = false := by
  have h1 : ¬ args.getD (j - 1) 0 < args.getD j 0 := by omega
  have h2 : ¬ j = 0 := by omega
  simp only [okAt, decide_eq_false h1, decide_eq_false h2, Bool.false_or, Bool.and_false]
theorem gateB_argF {k v x n : Int} {args : List Int} {i : Int} {cards : List Int} {j : Nat} (hk : k = 3 ∨ k = 4) (hj : (j : Int) < args.length) (h : okAt i args j = false) : false = gateB k v x n args i cards := by
  have e := argsB_false (by omega) h
  have h1 : ¬ k = 1 := by omega
  have h2 : ¬ k = 2 := by omega
  simp only [gateB, if_neg h1, if_neg h2, if_pos hk, e, Bool.and_false]

set_option maxHeartbeats 1000000 in
theorem ref_good_fn (k v x n : Int) (args : List Int) (i : Int) (cards : List Int) (hl : args.length ≤ 4611686018427387903) :
    Fw.Fn Try.prog 37 [.agg [.val (.int .i64 k), .val (.int .i64 v), .val (.int .i64 x), .val (.int .i64 n), .dat .old (.i .i64) args], .val (.int .i64 i), .dat .old (.i .i64) cards] [] (.val (.bool (gateB k v x n args i cards))) [] := by
  refine fn_go env_ok mixed Try.func37 (c := Try.f37.body.get rfl) rfl (by kernel_rfl) [] rfl ?_
  repeat' first | apply And.intro | intro _ | exact True.intro | (show Region.lexB _ _ = true; kernel_rfl)
  all_goals try simp only [decide_eq_true_eq, decide_eq_false_iff_not, beq_iff_eq, bne_iff_ne, ne_eq, beq_eq_false_iff_ne, bne_eq_false_iff_eq, Decidable.not_not] at *
  all_goals try (simp_all [gateB]; done)
  all_goals try (simp_all [gateB]; omega)
  all_goals try
   (refine ⟨loopI (fun j : Nat => { n := 136, t := [(1, .val (.int .i64 i)), (3, .ptr 0 0), (7, .val (.int .i64 j))], h := [(0, some (.cells [.val (.int .i64 k), .val (.int .i64 v), .val (.int .i64 x), .val (.int .i64 n), .dat .old (.i .i64) args]))], nx := 1}) (fun j => args.length - j)
      (fun j => j ≤ args.length ∧ ∀ m, m < j → okAt i args m = true), loopI.start 0 [] [1, 3, 7] [(3, [])] .fr ⟨rfl, rfl, rfl, rfl, rfl, rfl, rfl, Nat.zero_le _, fun m hm => absurd hm (Nat.not_lt_zero m)⟩, ?_⟩
    rintro _ _ ⟨j, rfl, rfl, hj, ha⟩
    repeat' first | apply And.intro | intro _ | exact True.intro | (show Region.lexB _ _ = true; kernel_rfl) | refine loopI.next (j + 1) [] [1, 3, 7] [(3, [])] .fr ?_)
  all_goals try simp only [decide_eq_true_eq, decide_eq_false_iff_not, beq_iff_eq, bne_iff_ne, ne_eq, beq_eq_false_iff_ne, bne_eq_false_iff_eq, Decidable.not_not, Int.toNat_natCast, dz_i64] at *
  all_goals try omega
  all_goals try simp only [pred_toNat, len_beq] at *
  all_goals try (refine okAt_step ha ?_ _ (by assumption); simp_all [okAt]; done)
  all_goals try (refine okAt_step ha ?_ _ (by assumption); simp_all [okAt]; omega)
  all_goals try simp only [decide_eq_true_eq, decide_eq_false_iff_not] at *
  all_goals try exact gateB_argF (by omega) (by assumption) (okAt_lt (of_decide_eq_true (by assumption)))
  all_goals try exact gateB_argF (by omega) (by assumption) (okAt_ge (of_decide_eq_true (by assumption)))
  all_goals try exact gateB_argF (by omega) (by assumption) (okAt_le (by assumption) (by assumption))
  all_goals try (have e := argsB_true (i := i) (args := args) (fun m hm => ha m (by omega)); simp_all [gateB]; done)
  all_goals try (simp_all [gateB]; done)
end Go.Proofs.Ytbgnnpbcifgckaa
namespace Go.Proofs.Ytbgnnpbcifgckaa
open Go Go.Fw Go.RowKit
set_option maxRecDepth 100000
set_option maxHeartbeats 4000000

abbrev gT : Ty := .pr (.i .i64) (.pr (.i .i64) (.pr (.i .i64) (.pr (.i .i64) (.sl (.i .i64)))))
abbrev Gate : Type := Int × Int × Int × Int × List Int
abbrev gz : Gate := (0, 0, 0, 0, [])
def gOK (cards : List Int) (i : Int) (g : Gate) : Bool := gateB g.1 g.2.1 g.2.2.1 g.2.2.2.1 g.2.2.2.2 i cards
/-- Whether a circuit is valid. -/
def rightB (cards : List Int) (gates : List Gate) : Bool := cardsB cards && decide (1 ≤ gates.length) && decide (gates.length ≤ 4000) && (List.range gates.length).all fun i => gOK cards i (gates.getD i gz)

theorem rightB_false {cards : List Int} {gates : List Gate} {j : Nat} (hj : (j : Int) < gates.length) (h : gOK cards j (gates.getD j gz) = false) : false = rightB cards gates := by
  have : ((List.range gates.length).all fun i => gOK cards i (gates.getD i gz)) = false := by
    rw [List.all_eq_false]
    exact ⟨j, List.mem_range.2 (by omega), by rw [h]; simp⟩
  simp only [rightB, this, Bool.and_false]
theorem rightB_true {cards : List Int} {gates : List Gate} (hc : cardsB cards = true) (h1 : 1 ≤ gates.length) (h2 : gates.length ≤ 4000) (h : ∀ m, m < gates.length → gOK cards m (gates.getD m gz) = true) : true = rightB cards gates := by
  have : ((List.range gates.length).all fun i => gOK cards i (gates.getD i gz)) = true := List.all_eq_true.2 fun m hm => h m (List.mem_range.1 hm)
  simp only [rightB, this, hc, decide_eq_true h1, decide_eq_true h2, Bool.and_self]

theorem all_step {P : Nat → Prop} {j : Nat} (ha : ∀ m, m < j → P m) (h : P j) : ∀ m, m < j + 1 → P m := by
  intro m hm
  by_cases e : m = j
  · rw [e]; exact h
  · exact ha m (by omega)

theorem ref_right_fn (cards : List Int) (gates : List Gate) (hl : ∀ g ∈ gates, g.2.2.2.2.length ≤ 4611686018427387903) :
    Fw.Fn Try.prog 11 [.agg [.dat .old (.i .i64) cards, .dat .old gT gates]] [] (.val (.bool (rightB cards gates))) [] := by
  refine fn_go env_ok mixed Try.func11 (c := Try.f11.body.get rfl) rfl (by kernel_rfl) [] rfl ?_
  repeat' first | apply And.intro | intro _ | exact True.intro | (show Region.lexB _ _ = true; kernel_rfl) | refine CallK.fn [] (ref_cards_fn _) rfl rfl rfl rfl rfl trivial ?_
  · rename_i h; simp only [rightB]; simp at h; simp [h]
  · rename_i h1 h2; simp at h1 h2; simp [rightB]; intros; omega
  · rename_i h1 h2 h3; simp at h1 h2 h3; simp [rightB]; intros; omega
  · rename_i h1 h2 h3
    simp at h1 h2 h3
    refine ⟨loopI (fun j : Nat => { n := 37, t := [(1, .ptr 0 0), (3, .val (.int .i64 j))], h := [(0, some (.cells [.dat .old (.i .i64) cards, .dat .old gT gates]))], nx := 1 }) (fun j => gates.length - j)
      (fun j => Ok (j ≤ gates.length ∧ ∀ m : Nat, m < j → gOK cards m (gates.getD m gz) = true)), loopI.start 0 [] [1, 3] [(1, [])] .fr ⟨rfl, rfl, rfl, ⟨Nat.zero_le _, fun m hm => absurd hm (Nat.not_lt_zero m)⟩⟩, ?_⟩
    rintro _ _ ⟨j, rfl, rfl, ⟨hj, ha⟩⟩
    repeat' first | apply And.intro | intro _ | exact True.intro | (show Region.lexB _ _ = true; kernel_rfl) | refine CallK.fn [] (ref_good_fn _ _ _ _ _ _ _ ?_) rfl rfl rfl rfl rfl trivial ?_ | refine loopI.next (j + 1) [] [1, 3] [(1, [])] .fr ?_
    all_goals (try simp only [decT, decF, beq_iff_eq, bne_iff_ne, ne_eq, beq_eq_false_iff_ne, bne_eq_false_iff_eq, Decidable.not_not, Int.toNat_natCast, Bool.not_eq_true', Bool.not_eq_false', Bool.not_eq_true, Bool.not_eq_false, Int.not_lt, Int.not_le] at *; try dsimp only [D, IK, dz] at *)
    all_goals try omega
    all_goals try exact hl _ (by rw [getD_lt (by omega)]; exact List.getElem_mem _)
    · exact rightB_false (by omega) (by assumption)
    · exact ⟨by omega, all_step ha (by assumption)⟩
    · exact rightB_true (by assumption) (by omega) (by omega) fun m hm => ha m (by omega)
end Go.Proofs.Ytbgnnpbcifgckaa
namespace Go.Proofs.Ytbgnnpbcifgckaa
open Go Go.Fw Go.RowKit
set_option maxRecDepth 100000
set_option maxHeartbeats 4000000
theorem cards_fin {l : List Int} (ha : ∀ x ∈ l, cardOK x = true) (h1 : 1 ≤ l.length) (h2 : l.length ≤ 8) : decide (min (prodI l) 1025 ≤ 1024) = cardsB l := by
  have : l.all cardOK = true := List.all_eq_true.2 ha
  simp only [cardsB, this, decide_eq_true h1, decide_eq_true h2, Bool.true_and]
  rw [decide_eq_decide]; omega
theorem min_mul {p c : Int} (hp : 1 ≤ p) (hc : 1 ≤ c) : min (min p 1025 * c) 1025 = min (p * c) 1025 := by
  by_cases h : p ≤ 1025
  · rw [Int.min_eq_left h]
  · have h1 : min p 1025 = 1025 := by omega
    have h2 : 1025 * 1 ≤ p * c := Int.mul_le_mul (by omega) hc (by omega) (by omega)
    rw [h1]; omega
theorem min_mul_bd {p c : Int} (hp : 1 ≤ p) (h1 : 1 ≤ c) (h4 : c ≤ 4) : 0 ≤ min p 1025 * c ∧ min p 1025 * c ≤ 1025 * 4 :=
  ⟨Int.mul_nonneg (by omega) (by omega), Int.mul_le_mul (by omega) h4 (by omega) (by omega)⟩
theorem prog_cards_fn (l : List Int) (hl : l.length ≤ 4611686018427387903) : Fw.Fn Try.prog 53 [.dat .old (.i .i64) l] [] (.val (.bool (cardsB l))) [] := by
  refine fn_go env_ok mixed Try.func53 (c := Try.f53.body.get rfl) rfl (by kernel_rfl) [] rfl ?_
  repeat' first | apply And.intro | (intro h; (cases h; done)) | intro _ | exact True.intro | (show Region.lexB _ _ = true; kernel_rfl)
  refine ⟨loopI (fun j : Nat => { n := 35, t := [(0, .dat .old (.i .i64) l), (3, .val (.int .i64 (min (prodI (l.take j)) 1025))), (6, .dat .old (.i .i64) l), (7, .val (.int .i64 (↑(List.length l)))), (8, .val (.int .i64 j))], h := [], nx := 0 }) (fun j => l.length - j)
     (fun j => Ok (j ≤ l.length ∧ ∀ x ∈ l.take j, cardOK x = true)),
    loopI.start 0 [] [0, 3, 6, 7, 8] [] .fr ⟨rfl, rfl, rfl, rfl, rfl, ⟨Nat.zero_le _, by simp⟩⟩, ?_⟩
  rintro _ _ ⟨j, rfl, rfl, ⟨hj, ha⟩⟩
  have hb := fun h : (j : Int) < l.length => (prodI_take (l := l.take j) ha j (by simp; omega)).1
  rw [List.take_take, Nat.min_self] at hb
  repeat' first | apply And.intro | (intro h; (cases h; done)) | intro _ | exact True.intro | (show Region.lexB _ _ = true; kernel_rfl) | refine loopI.next (j + 1) [] [0, 3, 6, 7, 8] [] .fr ?_
  all_goals (try simp only [decT, decF, beq_iff_eq, bne_iff_ne, ne_eq, beq_eq_false_iff_ne, bne_eq_false_iff_eq, Decidable.not_not, Int.toNat_natCast, Bool.not_eq_true', Bool.not_eq_false', Bool.not_eq_true, Bool.not_eq_false, Int.not_lt, Int.not_le] at *; try dsimp only [D, IK, dz] at *)
  all_goals try omega
  all_goals try rw [getD_lt (by omega)] at *
  · exact (cardsB_false (v := j) (by omega) (by omega)).symm
  · exact (cardsB_false (v := j) (by omega) (by omega)).symm
  · have := min_mul_bd (hb (by assumption)) (by assumption) (by assumption); omega
  · have := min_mul_bd (hb (by assumption)) (by assumption) (by assumption); omega
  · rw [List.take_succ_eq_append_getElem (by omega), prodI_snoc]
    exact min_mul (hb (by assumption)) (by assumption)
  · exact ⟨by omega, mem_take_succ (by omega) ha (by simp [cardOK]; omega)⟩
  · have : j = l.length := by omega
    subst this
    rw [List.take_length] at ha ⊢
    exact cards_fin ha (by omega) (by omega)
  · simp [cardsB]; omega
  · simp [cardsB]; omega

theorem okAt_last {i a : Int} {args : List Int} {j : Nat} (e : a = args.getD j 0) (h : a ≤ (if j = 0 then -1 else args.getD (j - 1) 0)) : okAt i args j = false := by
  subst e
  by_cases hj : j = 0
  · rw [if_pos hj] at h; exact okAt_lt (by omega)
  · rw [if_neg hj] at h; exact okAt_le (by omega) h
theorem okAt_ok {i : Int} {args : List Int} {j : Nat} (ha : ∀ m, m < j → okAt i args m = true) (h : (if j = 0 then -1 else args.getD (j - 1) 0) < args.getD j 0) (h2 : args.getD j 0 < i) : ∀ m, m < j + 1 → okAt i args m = true := by
  refine all_step ha ?_
  by_cases hj : j = 0
  · rw [if_pos hj] at h; subst hj; simp only [okAt, Bool.and_eq_true, decT, Bool.or_eq_true]; exact ⟨⟨by omega, h2⟩, Or.inl trivial⟩
  · rw [if_neg hj] at h
    have := ha (j - 1) (by omega)
    simp only [okAt, Bool.and_eq_true, decide_eq_true_eq] at this
    simp only [okAt, Bool.and_eq_true, decT, Bool.or_eq_true]; omega
theorem gateB_argT {k v x n : Int} {args : List Int} {i : Int} {cards : List Int} (hk : k = 3 ∨ k = 4) (h0 : args.length ≠ 0) (hn : n = 0) (hv : v = 0) (ha : ∀ m, m < args.length → okAt i args m = true) : (x == 0) = gateB k v x n args i cards := by
  have e := argsB_true ha
  have h1 : ¬ k = 1 := by omega
  have h2 : ¬ k = 2 := by omega
  have e2 : (x == 0) = decide (x = 0) := rfl
  simp only [gateB, if_neg h1, if_neg h2, if_pos hk, e, decide_eq_true h0, decide_eq_true hn, decide_eq_true hv, e2, Bool.and_true, Bool.true_and, ne_eq, not_false_eq_true]

set_option maxRecDepth 100000 in
set_option maxHeartbeats 1000000 in
theorem gate_fn (cards : List Int) (gates : List Gate) (i : Nat) (hi : i < gates.length) (hl : gates.length ≤ 4611686018427387903) (hg : ∀ g ∈ gates, g.2.2.2.2.length ≤ 4611686018427387903) :
    Fw.Fn Try.prog 54 [.agg [.dat .old (.i .i64) cards, .dat .old gT gates], .val (.int .i64 i)] [] (.val (.bool (gOK cards i (gates.getD i gz)))) [] := by
  have hg : (gates.getD i gz).2.2.2.2.length ≤ 4611686018427387903 := by rw [getD_lt hi]; exact hg _ (List.getElem_mem _)
  refine fn_go env_ok mixed Try.func54 (c := Try.f54.body.get rfl) rfl (by kernel_rfl) [] rfl ?_
  repeat' first | apply And.intro | (intro h; (cases h; done)) | intro _ | exact True.intro | (show Region.lexB _ _ = true; kernel_rfl)
  all_goals try
   (refine ⟨loopI (fun j : Nat => { n := 121, t := [(1, .val (.int .i64 i)), (5, .ptr 0 0), (6, .val (.int .i64 (if j = 0 then -1 else (gates.getD i gz).2.2.2.2.getD (j - 1) 0))), (86, .dat .old (.i .i64) (gates.getD i gz).2.2.2.2), (87, .val (.int .i64 (gates.getD i gz).2.2.2.2.length)), (88, .val (.int .i64 j))], h := [(0, some (.cells [.val (.int .i64 (gates.getD i gz).1), .val (.int .i64 (gates.getD i gz).2.1), .val (.int .i64 (gates.getD i gz).2.2.1), .val (.int .i64 (gates.getD i gz).2.2.2.1), .dat .old (.i .i64) (gates.getD i gz).2.2.2.2]))], nx := 1 })
                    (fun j => (gates.getD i gz).2.2.2.2.length - j) (fun j => Ok (j ≤ (gates.getD i gz).2.2.2.2.length ∧ ∀ m, m < j → okAt i (gates.getD i gz).2.2.2.2 m = true)),
                    loopI.start 0 [] [1, 5, 6, 86, 87, 88] [(5, [])] .fr ⟨rfl, rfl, rfl, rfl, rfl, rfl, rfl, rfl, rfl, rfl, ⟨Nat.zero_le _, fun m hm => absurd hm (Nat.not_lt_zero m)⟩⟩, ?_⟩
    rintro _ _ ⟨j, rfl, rfl, ⟨hj, ha⟩⟩
    repeat' first | apply And.intro | (intro h; (cases h; done)) | intro _ | exact True.intro | (show Region.lexB _ _ = true; kernel_rfl) | refine loopI.next (j + 1) [] [1, 5, 6, 86, 87, 88] [(5, [])] .fr ?_)
  all_goals (try simp only [decT, decF, beq_iff_eq, bne_iff_ne, ne_eq, beq_eq_false_iff_ne, bne_eq_false_iff_eq, Decidable.not_not, Int.toNat_natCast, Bool.not_eq_true', Bool.not_eq_false', Bool.not_eq_true, Bool.not_eq_false, Int.not_lt, Int.not_le] at *; try dsimp only [D, IK, dz] at *)
  all_goals generalize gates.getD i gz = g at *
  all_goals obtain ⟨k, v, x, n, args⟩ := g
  all_goals try dsimp only at *
  all_goals try omega
  all_goals try simp only [len_beq]
  all_goals try dsimp only at *
  all_goals try (simp_all [gOK, gateB]; done)
  all_goals try (simp_all [gOK, gateB]; omega)
  all_goals try exact gateB_argF (by omega) (by assumption) (okAt_last rfl (by assumption))
  all_goals try exact gateB_argF (by omega) (by assumption) (okAt_ge (by assumption))
  all_goals try exact ⟨by omega, okAt_ok ha (by assumption) (by assumption)⟩
  all_goals (show _ = gateB k v x n args i cards)
  all_goals exact gateB_argT (by omega) (by omega) (by assumption) (by assumption) (fun m hm => ha m (by omega))

theorem rightB_c {cards : List Int} {gates : List Gate} (h : cardsB cards = false) : false = rightB cards gates := by simp only [rightB, h, Bool.false_and]
theorem rightB_n {cards : List Int} {gates : List Gate} (h : gates.length < 1 ∨ 4000 < gates.length) : false = rightB cards gates := by
  rcases h with h | h
  · have : ¬ 1 ≤ gates.length := by omega
    simp only [rightB, decide_eq_false this, Bool.false_and, Bool.and_false]
  · have : ¬ gates.length ≤ 4000 := by omega
    simp only [rightB, decide_eq_false this, Bool.false_and, Bool.and_false]
set_option maxRecDepth 100000 in
theorem valid_fn (cards : List Int) (gates : List Gate) (hc : cards.length ≤ 4611686018427387903) (hl : gates.length ≤ 4611686018427387903) (hg : ∀ g ∈ gates, g.2.2.2.2.length ≤ 4611686018427387903) :
    Fw.Fn Try.prog 38 [.agg [.dat .old (.i .i64) cards, .dat .old gT gates]] [] (.val (.bool (rightB cards gates))) [] := by
  refine fn_go env_ok mixed Try.func38 (c := Try.f38.body.get rfl) rfl (by kernel_rfl) [] rfl ?_
  repeat' first | apply And.intro | (intro h; (cases h; done)) | intro _ | exact True.intro | (show Region.lexB _ _ = true; kernel_rfl) | refine CallK.fn [] (prog_cards_fn _ hc) rfl rfl rfl rfl rfl trivial ?_
  · exact rightB_c (by (try simp only [decT, decF, beq_iff_eq, bne_iff_ne, ne_eq, beq_eq_false_iff_ne, bne_eq_false_iff_eq, Decidable.not_not, Int.toNat_natCast, Bool.not_eq_true', Bool.not_eq_false', Bool.not_eq_true, Bool.not_eq_false, Int.not_lt, Int.not_le] at *; try dsimp only [D, IK, dz] at *); assumption)
  · exact rightB_n (by (try simp only [decT, decF, beq_iff_eq, bne_iff_ne, ne_eq, beq_eq_false_iff_ne, bne_eq_false_iff_eq, Decidable.not_not, Int.toNat_natCast, Bool.not_eq_true', Bool.not_eq_false', Bool.not_eq_true, Bool.not_eq_false, Int.not_lt, Int.not_le] at *; try dsimp only [D, IK, dz] at *); omega)
  · exact rightB_n (by (try simp only [decT, decF, beq_iff_eq, bne_iff_ne, ne_eq, beq_eq_false_iff_ne, bne_eq_false_iff_eq, Decidable.not_not, Int.toNat_natCast, Bool.not_eq_true', Bool.not_eq_false', Bool.not_eq_true, Bool.not_eq_false, Int.not_lt, Int.not_le] at *; try dsimp only [D, IK, dz] at *); omega)
  refine ⟨loopI (fun j : Nat => { n := 31, t := [(1, .ptr 0 0), (22, .val (.int .i64 (↑(List.length gates)))), (23, .val (.int .i64 j))], h := [(0, some (.cells [.dat .old (.i .i64) cards, .dat .old gT gates]))], nx := 1 }) (fun j => gates.length - j) (fun j => Ok (j ≤ gates.length ∧ ∀ m : Nat, m < j → gOK cards m (gates.getD m gz) = true)),
    loopI.start 0 [] [1, 22, 23] [(1, [])] .fr ⟨rfl, rfl, rfl, rfl, ⟨Nat.zero_le _, fun m hm => absurd hm (Nat.not_lt_zero m)⟩⟩, ?_⟩
  rintro _ _ ⟨j, rfl, rfl, ⟨hj, ha⟩⟩
  repeat' first | apply And.intro | (intro h; (cases h; done)) | intro _ | exact True.intro | (show Region.lexB _ _ = true; kernel_rfl) | refine loopI.next (j + 1) [] [1, 22, 23] [(1, [])] .fr ?_ | refine CallK.fn [] (gate_fn cards gates j ?_ hl hg) rfl rfl rfl rfl rfl trivial ?_
  all_goals (try simp only [decT, decF, beq_iff_eq, bne_iff_ne, ne_eq, beq_eq_false_iff_ne, bne_eq_false_iff_eq, Decidable.not_not, Int.toNat_natCast, Bool.not_eq_true', Bool.not_eq_false', Bool.not_eq_true, Bool.not_eq_false, Int.not_lt, Int.not_le] at *; try dsimp only [D, IK, dz] at *)
  all_goals try omega
  · exact rightB_false (by omega) (by assumption)
  · exact ⟨by omega, all_step ha (by assumption)⟩
  · exact rightB_true (by assumption) (by omega) (by omega) fun m hm => ha m (by omega)
theorem check_fn (cards : List Int) (gates : List Gate) (hc : cards.length ≤ 4611686018427387903) (hl : gates.length ≤ 4611686018427387903) (hg : ∀ g ∈ gates, g.2.2.2.2.length ≤ 4611686018427387903) :
    Fw.Fn Try.prog 12 [.agg [.dat .old (.i .i64) cards, .dat .old gT gates]] [] (.val (.int .i64 (if rightB cards gates = true then 0 else 150))) [] := by
  refine fn_go env_ok mixed Try.func12 (c := Try.f12.body.get rfl) rfl (by kernel_rfl) [] rfl ?_
  repeat' first | apply And.intro | (intro h; (cases h; done)) | intro _ | exact True.intro | (show Region.lexB _ _ = true; kernel_rfl) | refine CallK.fn [] (valid_fn _ _ hc hl hg) rfl rfl rfl rfl rfl trivial ?_
  all_goals (try simp only [decT, decF, beq_iff_eq, bne_iff_ne, ne_eq, beq_eq_false_iff_ne, bne_eq_false_iff_eq, Decidable.not_not, Int.toNat_natCast, Bool.not_eq_true', Bool.not_eq_false', Bool.not_eq_true, Bool.not_eq_false, Int.not_lt, Int.not_le] at *; try dsimp only [D, IK, dz] at *)
  all_goals simp_all

/-- An input for numbers of values. -/
def inputB (cards l : List Int) : Bool := decide (l.length = cards.length) && (List.range l.length).all fun v => decide (-1 ≤ l.getD v 0) && decide (l.getD v 0 < cards.getD v 0)
theorem inputB_n {cards l : List Int} (h : ¬ (l.length : Int) = cards.length) : false = inputB cards l := by
  have : ¬ l.length = cards.length := by omega
  simp only [inputB, decide_eq_false this, Bool.false_and]
theorem inputB_f {cards l : List Int} {v : Nat} (hv : (v : Int) < l.length) (h : l.getD v 0 < -1 ∨ cards.getD v 0 ≤ l.getD v 0) : false = inputB cards l := by
  have : ((List.range l.length).all fun v => decide (-1 ≤ l.getD v 0) && decide (l.getD v 0 < cards.getD v 0)) = false := by
    rw [List.all_eq_false]
    exact ⟨v, List.mem_range.2 (by omega), by simp only [Bool.and_eq_true, decT]; omega⟩
  simp only [inputB, this, Bool.and_false]
theorem inputB_t {cards l : List Int} (h1 : (l.length : Int) = cards.length) (h : ∀ v, v < l.length → -1 ≤ l.getD v 0 ∧ l.getD v 0 < cards.getD v 0) : true = inputB cards l := by
  have : ((List.range l.length).all fun v => decide (-1 ≤ l.getD v 0) && decide (l.getD v 0 < cards.getD v 0)) = true :=
    List.all_eq_true.2 fun v hv => by simp only [Bool.and_eq_true, decT]; exact h v (List.mem_range.1 hv)
  have h1 : l.length = cards.length := by omega
  simp only [inputB, this, decide_eq_true h1, Bool.and_true]
theorem inputs_fn (cards : List Int) (gates : List Gate) (l : List Int) (hl : l.length ≤ 4611686018427387903) : Fw.Fn Try.prog 59 [.agg [.dat .old (.i .i64) cards, .dat .old gT gates], .dat .old (.i .i64) l] [] (.val (.bool (inputB cards l))) [] := by
  refine fn_go env_ok mixed Try.func59 (c := Try.f59.body.get rfl) rfl (by kernel_rfl) [] rfl ?_
  repeat' first | apply And.intro | (intro h; (cases h; done)) | intro _ | exact True.intro | (show Region.lexB _ _ = true; kernel_rfl)
  · exact inputB_n (by (try simp only [decT, decF, beq_iff_eq, bne_iff_ne, ne_eq, beq_eq_false_iff_ne, bne_eq_false_iff_eq, Decidable.not_not, Int.toNat_natCast, Bool.not_eq_true', Bool.not_eq_false', Bool.not_eq_true, Bool.not_eq_false, Int.not_lt, Int.not_le] at *; try dsimp only [D, IK, dz] at *); assumption)
  refine ⟨loopI (fun j : Nat => { n := 32, t := [(2, .ptr 0 0), (13, .dat .old (.i .i64) l), (14, .val (.int .i64 (↑(List.length l)))), (15, .val (.int .i64 j))], h := [(0, some (.cells [.dat .old (.i .i64) cards, .dat .old gT gates]))], nx := 1 }) (fun j => l.length - j) (fun j => Ok (j ≤ l.length ∧ ∀ v, v < j → -1 ≤ l.getD v 0 ∧ l.getD v 0 < cards.getD v 0)),
    loopI.start 0 [] [2, 13, 14, 15] [(2, [])] .fr ⟨rfl, rfl, rfl, rfl, rfl, ⟨Nat.zero_le _, fun m hm => absurd hm (Nat.not_lt_zero m)⟩⟩, ?_⟩
  rintro _ _ ⟨j, rfl, rfl, ⟨hj, ha⟩⟩
  repeat' first | apply And.intro | (intro h; (cases h; done)) | intro _ | exact True.intro | (show Region.lexB _ _ = true; kernel_rfl) | refine loopI.next (j + 1) [] [2, 13, 14, 15] [(2, [])] .fr ?_
  all_goals (try simp only [decT, decF, beq_iff_eq, bne_iff_ne, ne_eq, beq_eq_false_iff_ne, bne_eq_false_iff_eq, Decidable.not_not, Int.toNat_natCast, Bool.not_eq_true', Bool.not_eq_false', Bool.not_eq_true, Bool.not_eq_false, Int.not_lt, Int.not_le] at *; try dsimp only [D, IK, dz] at *)
  all_goals try omega
  · exact inputB_f (by assumption) (by omega)
  · exact inputB_f (by assumption) (by omega)
  · exact ⟨by omega, all_step ha ⟨by omega, by omega⟩⟩
  · exact inputB_t (by omega) fun m hm => ha m (by omega)
theorem input_fn (cards : List Int) (gates : List Gate) (l : List Int) (hl : l.length ≤ 4611686018427387903) : Fw.Fn Try.prog 45 [.agg [.dat .old (.i .i64) cards, .dat .old gT gates], .dat .old (.i .i64) l] [] (.val (.bool (inputB cards l))) [] := by
  refine fn_go env_ok mixed Try.func45 (c := Try.f45.body.get rfl) rfl (by kernel_rfl) [] rfl ?_
  repeat' first | apply And.intro | (intro h; (cases h; done)) | intro _ | exact True.intro | (show Region.lexB _ _ = true; kernel_rfl)
  · exact inputB_n (by (try simp only [decT, decF, beq_iff_eq, bne_iff_ne, ne_eq, beq_eq_false_iff_ne, bne_eq_false_iff_eq, Decidable.not_not, Int.toNat_natCast, Bool.not_eq_true', Bool.not_eq_false', Bool.not_eq_true, Bool.not_eq_false, Int.not_lt, Int.not_le] at *; try dsimp only [D, IK, dz] at *); assumption)
  refine ⟨loopI (fun j : Nat => { n := 35, t := [(1, .dat .old (.i .i64) l), (2, .ptr 0 0), (5, .val (.int .i64 j))], h := [(0, some (.cells [.dat .old (.i .i64) cards, .dat .old gT gates]))], nx := 1 }) (fun j => l.length - j) (fun j => Ok (j ≤ l.length ∧ ∀ v, v < j → -1 ≤ l.getD v 0 ∧ l.getD v 0 < cards.getD v 0)),
    loopI.start 0 [] [1, 2, 5] [(2, [])] .fr ⟨rfl, rfl, rfl, rfl, ⟨Nat.zero_le _, fun m hm => absurd hm (Nat.not_lt_zero m)⟩⟩, ?_⟩
  rintro _ _ ⟨j, rfl, rfl, ⟨hj, ha⟩⟩
  repeat' first | apply And.intro | (intro h; (cases h; done)) | intro _ | exact True.intro | (show Region.lexB _ _ = true; kernel_rfl) | refine loopI.next (j + 1) [] [1, 2, 5] [(2, [])] .fr ?_
  all_goals (try simp only [decT, decF, beq_iff_eq, bne_iff_ne, ne_eq, beq_eq_false_iff_ne, bne_eq_false_iff_eq, Decidable.not_not, Int.toNat_natCast, Bool.not_eq_true', Bool.not_eq_false', Bool.not_eq_true, Bool.not_eq_false, Int.not_lt, Int.not_le] at *; try dsimp only [D, IK, dz] at *)
  all_goals try omega
  · exact inputB_f (by assumption) (by omega)
  · exact inputB_f (by assumption) (by omega)
  · exact ⟨by omega, all_step ha ⟨by omega, by omega⟩⟩
  · exact inputB_t (by omega) fun m hm => ha m (by omega)
end Go.Proofs.Ytbgnnpbcifgckaa
namespace Go.Fw
open Go Go.RowKit

/-- A deferred function's contract, where its caller returns ('pv' none) or panics with a value: it leaves these blocks, and its caller returns. -/
def FnD (P : Program) (f : FuncId) (args : List AV) (hin : List Blk) (pv : Option AV) (hs : List (Nat × Option Blk)) : Prop :=
  Enter P f ∧ ∀ (w : World) (A : Nat → Prop) (φ : Ph) (vs : List Value) (u : FrameMode),
    HM (fnBs w A φ hin.length) φ (preS hin) w → RL (cx (fnBs w A φ hin.length) φ (preS hin) w) args vs →
    (match pv with
      | none => u = .returning
      | some x => ∃ v, R (cx (fnBs w A φ hin.length) φ (preS hin) w) x v ∧ u = .panicking [{ v, recovered := false }]) →
    CallsD P f vs.toArray u w fun e u' w' => ∃ v φ', e = .returned v ∧ (∀ i, i < hin.length → φ' i = φ i) ∧
      HM (fnBs w A φ hin.length) φ' (postS hin hs) w' ∧ settle u' = .returning

/-- How a deferred function ends. -/
def EndsD (m : Nat) (σ : List (Nat × List Nat)) (hs : List (Nat × Option Blk)) (s : St) : Prop :=
  match s.df with
  | [] => match ids s σ with
    | some σ => match xfzH (hl · s.h) (rng 0 m ++ σ) m (rng 0 m ++ σ) 0 with
        | some hs' => ck (nodup (rng 0 m ++ σ) && Nat.ble (List.length σ) 16) (eqH hs' hs True)
        | none => False
    | none => False
  | _ => False

def endKD (m : Nat) (σ : List (Nat × List Nat)) (hs : List (Nat × Option Blk)) : Ex → St → Prop := fun e s => match e with
  | .normal => ck (Nat.beq s.m m) (EndsD m σ hs s)
  | .ret => ck (Nat.beq s.m m) (EndsD m σ hs s)
  | _ => False

/-- What 'recover' hands back. -/
def pvAV : Option AV → AV
  | none => .val .nilIface
  | some x => x

/-- Results, in slots or in cells. -/
def resC (E : Env) (hp : Nat → Option Blk) (t : List (Nat × AV)) : List ResultVar → Option (List AV)
  | [] => some []
  | .tmp i :: r => match resC E hp t r with
    | some l => some (look i t :: l)
    | none => none
  | .cell x T :: r => match look x t with
    | .ptr id off => match hp id with
      | some (.cells l) => match (ti T E).ok && Nat.ble (off + (ti T E).sz) (List.length l) with
        | true => match resC E hp t r with
          | some l' => some (part (ti T E) l off :: l')
          | none => none
        | false => none
      | some (.arr o u xs) => match Nat.beq off 0 && ((ti T E).ok && ((ti T E).agg && Nat.beq (List.length xs * sz u) (ti T E).sz)) with
        | true => match resC E hp t r with
          | some l' => some (.av o u xs :: l')
          | none => none
        | false => none
      | _ => none
    | _ => none

/-- How a function ends: 'G' are slots whose nil slice is handed back as one's own. -/
def EndsC (E : Env) (G : List Nat) (rs : List ResultVar) (m : Nat) (σ : List (Nat × List Nat)) (r : AV) (hs : List (Nat × Option Blk)) (s0 : St) : Prop :=
  match own0 G (closeAll s0) with
  | s => match s.df with
    | [] => match ids s σ with
      | some σ => match resC E (hl · s.h) s.t rs with
        | some l => match xfz (hl · s.h) (rng 0 m ++ σ) m 100 (resV l) with
          | some r' => match xfzH (hl · s.h) (rng 0 m ++ σ) m (rng 0 m ++ σ) 0 with
            | some hs' => ck (Nat.beq s.m m) (ck (nodup (rng 0 m ++ σ) && Nat.ble (List.length σ) 16) (eqA r' r (eqH hs' hs True)))
            | none => False
          | none => False
        | none => False
      | none => False
    | _ => False

def pvl : Option AV → List AV
  | none => []
  | some x => [x]

/-- A deferred call, at a function's end. -/
inductive DefK (P : Program) (s : St) (g : FuncId) (args : List AV) (pv : Option AV) (K : St → Prop) : Prop
  | mk (ρ : List Nat) {args' : List AV} {pv' : Option AV} {hin : List Blk} {hs : List (Nat × Option Blk)} {p q : Bool} {l l' : List Nat}
      (hf : FnD P g args' hin pv' hs) (hpv : pv.isSome = pv'.isSome) (ha : frzs (hl · s.h) ρ 100 (pvl pv ++ args) = some (pvl pv' ++ args', p, l)) (hb : frzH (hl · s.h) ρ ρ = some (hin, q, l'))
      (hn : nodup ρ = true) (ho : (p && q && noTmpH hs || noOldH hs) = true) (hk : allIn (List.length hin) hs = true) (hs' : shapes hin hs) (k : K ⟨s.n, s.t, renH (bk ρ s.nx) hs ++ s.h, s.nx + 16, s.m, []⟩)

def defrK (P : Program) (s : St) (pv : Option AV) (K : St → Prop) : Prop :=
  match s.df with
  | [.clo (.func g) a b] => DefK P s g (a ++ b) pv K
  | _ => False

/-- What is left to show where a function ends that may have deferred a call. -/
def endKR (P : Program) (E : Env) (G : List Nat) (rs : List ResultVar) (m : Nat) (σ : List (Nat × List Nat)) (r : AV) (hs : List (Nat × Option Blk)) : Ex → St → Prop := fun e s => match e with
  | .normal => match s.df with
    | [] => EndsC E G rs m σ r hs s
    | _ :: _ => defrK P s none (EndsC E G rs m σ r hs)
  | .ret => match s.df with
    | [] => EndsC E G rs m σ r hs s
    | _ :: _ => defrK P s none (EndsC E G rs m σ r hs)
  | .panic v => defrK P s (some v) (EndsC E G rs m σ r hs)
  | _ => False

section
variable {P : Program} {E : Env} {bs : Bs} {φ : Ph} {s : St} {w : World}

theorem wpOpsS_of {ops : Array Oper} {Q : Exit → Act → List Frame → World → Prop} {cs : List Frame} (hno : ∀ a w, ¬ Q .outgrown a cs w) : ∀ (l : List Nat) (a : Act) (w : World),
    wpOps P ops (fun e a w => Q e a cs w) l a w → wpOpsS P ops Q l a cs w
  | [], a, w, h => h
  | i :: l, a, w, h => by
    simp only [wpOps, wpOpsS] at h ⊢
    cases ho : ops[i]? with
    | none => rw [ho] at h; exact wpOpsS_of hno l a w h
    | some o =>
      rw [ho] at h
      dsimp only at h ⊢
      by_cases hw : Region.wanted o (yielded ops a.tmps) = true
      · rw [if_pos hw] at h ⊢
        have hlo : ¬ LetsOut (fun e a w => Q e a cs w) := fun ⟨a, w, h⟩ => hno a w h
        rcases h with h | ⟨_, h2⟩
        · unfold Oper.wp at h
          generalize (execOp a.eval o).run P w = r at h ⊢
          unfold Oper.upon at h
          split at h
          · exact wpOpsS_of hno l _ _ h
          · exact wpOpsS_of hno l _ _ h
          · exact wpOpsS_of hno l _ _ h
          · refine Calls.mono h fun e w' he => ?_
            cases e with
            | returned v => exact wpOpsS_of hno l _ _ he
            | panicked ch => exact he
            | outgrown => exact (hlo he).elim
          · exact Rows.mono h fun v w' he => wpOpsS_of hno l _ _ he
          · exact h
          · exact h.elim
        · exact (hlo h2).elim
      · rw [if_neg hw] at h ⊢
        exact wpOpsS_of hno l _ _ h

theorem EndsD.fin {hin : List Blk} {σ : List (Nat × List Nat)} {hs : List (Nat × Option Blk)} {a : Act} (hM : Mod bs φ s a w) (hm : s.m = hin.length) (h : EndsD hin.length σ hs s) :
    a.defers = [] ∧ ∃ φ', (∀ i, i < hin.length → φ' i = bs.φ0 i) ∧ HM bs φ' (postS hin hs) w := by
  unfold EndsD at h
  split at h
  · rename_i hdf
    obtain ⟨ds, d1, d2⟩ := hM.df
    rw [hdf] at d1
    cases d1
    refine ⟨d2, ?_⟩
    split at h
    · rename_i σ' _
      split at h
      · rename_i hs'' hh
        simp only [ck_iff, Bool.and_eq_true] at h
        obtain ⟨⟨h1, h2⟩, h3⟩ := h
        obtain ⟨h6, _⟩ := eqH_sound h3
        subst h6
        obtain ⟨φ', k1, k2, _⟩ := exit_sound (x := .val undef) (r := .val undef) (v := undef) hM.toHM hm rfl hh h1 (Nat.le_of_ble_eq_true h2) (.val _)
        exact ⟨φ', k1, k2⟩
      · exact h.elim
    · exact h.elim
  · exact h.elim

/-- A deferred function that begins with 'recover()'. -/
theorem fnD_go (hE : EnvOK P E) (hmix : P.follows .mixedOrders = true) {f : FuncId} {fn : Func} {c : Code} (hf : P.funcs[f]? = some fn) (hb : fn.body = some c) (hn : (fn.name == "runtime.NumGoroutine") = false)
    (σ : List (Nat × List Nat)) {rid d : Nat} {ops : Array Oper} {o0 : Oper} {os : List Oper} {c2 : Code} (hc : c = .seq (.region rid ops false) c2) (hops : ops.toList = o0 :: os)
    (ho : o0.op = .call { callee := .builtin .recover, args := #[], argTypes := #[] }) (hg : o0.guard = none) (hd : o0.dst = some d) (hrs : fn.results.toList = [])
    {args : List AV} {hin : List Blk} {pv : Option AV} {hs : List (Nat × Option Blk)} (ha : Nat.ble args.length fn.ntmps = true)
    (h : forceN (cnt hin) fun k => xRun P E [] (endKD k σ hs) 1000000 (.o ops.toList false k os [] []) [.seq c2] ⟨fn.ntmps, putT fn.ntmps (some d) (pvAV pv) (enumT args 0), enum hin 0, k, k, []⟩) : FnD P f args hin pv hs := by
  rw [forceN_iff, cnt_eq] at h
  refine ⟨enter_of hf (by rw [hb]; rfl) hn, fun w A φ vs u hM hR hu => callsD_of_wpS hf hb fun c₀ cs hc₀ => ?_⟩
  subst hc
  have hsz : ops.size = os.length + 1 := by rw [← Array.length_toList, hops]; simp
  have hget0 : ops[0]? = some o0 := by rw [← Array.getElem?_toList, hops]; rfl
  have hgetS : ∀ j : Nat, os[j]? = ops[1 + j]? := fun j => by rw [← Array.getElem?_toList, hops, Nat.add_comm]; rfl
  obtain ⟨a0, ha0⟩ : ∃ a0 : Act, a0 = { tmps := vs.toArray ++ Array.replicate (fn.ntmps - vs.toArray.size) undef, defers := [] } := ⟨_, rfl⟩
  have hinit := mod_init hM hR (Nat.le_of_ble_eq_true ha)
  rw [← ha0] at hinit ⊢
  have hrec : (execOp a0.eval o0).run P w = .ok .recover w := by
    simp only [execOp, ho, resolve]
    rfl
  have hwant : Region.wanted o0 (yielded ops a0.tmps) = true := by simp [Region.wanted, hg]
  -- what is known behind 'recover'
  obtain ⟨cs', v0, u', hcs', hrd, hset, hput⟩ : ∃ (cs' : List Frame) (v0 : Value) (u' : FrameMode), cs' = { c₀ with mode := u' } :: cs ∧ ((recoverD (c₀ :: cs) = none ∧ v0 = .nilIface ∧ cs' = c₀ :: cs) ∨ recoverD (c₀ :: cs) = some (v0, cs')) ∧
      settle u' = .returning ∧ R (cx (fnBs w A φ hin.length) φ (preS hin) w) (pvAV pv) v0 := by
    have hself : ({ c₀ with mode := u } : Frame) = c₀ := by subst hc₀; rfl
    cases pv with
    | none =>
      dsimp only at hu
      subst hu
      refine ⟨c₀ :: cs, .nilIface, .returning, by rw [hself], Or.inl ⟨?_, rfl, rfl⟩, rfl, .val _⟩
      simp [recoverD, hc₀]
    | some x =>
      obtain ⟨v, hv, rfl⟩ := hu
      refine ⟨_, v, .panicking [{ v, recovered := true }], rfl, Or.inr ?_, ?_, hv⟩
      · simp [recoverD, hc₀]
      · simp [settle]
  have hM2 : Mod (fnBs w A φ hin.length) φ ⟨fn.ntmps, putT fn.ntmps (some d) (pvAV pv) (enumT args 0), enum hin 0, hin.length, hin.length, []⟩ (a0.put (some d) v0) w :=
    hinit.put (φ' := φ) (hs := []) (some d) hinit.toHM (Cx.Le.refl _) hput
  have hx := xRun_sound _ _ _ _ h
  simp only [mdK] at hx
  have hx2 := xOps_sound hE os 1 hin.length [] [] _ _ φ _ w (fun j _ => hgetS j) hx (fun d b hd => by simp [known] at hd) hM2
  refine wpS_seq (wpS_region ?_)
  rw [hsz, List.range_eq_range', List.range'_succ]
  simp only [wpOpsS, hget0, hwant, if_true, hrec]
  have hno : ∀ (a : Act) (w' : World), ¬ Exit.thenS (c2.wpS P (bodyPostS P fn c₀ cs fun e u'' w' => ∃ v φ', e = .returned v ∧ (∀ i, i < hin.length → φ' i = φ i) ∧ HM (fnBs w A φ hin.length) φ' (postS hin hs) w' ∧ settle u'' = .returning))
      (bodyPostS P fn c₀ cs fun e u'' w' => ∃ v φ', e = .returned v ∧ (∀ i, i < hin.length → φ' i = φ i) ∧ HM (fnBs w A φ hin.length) φ' (postS hin hs) w' ∧ settle u'' = .returning) .outgrown a cs' w' := by
    rintro a w' ⟨u2, v, φ', e, _⟩
    cases e
  have key : wpOpsS P ops (Exit.thenS (c2.wpS P (bodyPostS P fn c₀ cs fun e u'' w' => ∃ v φ', e = .returned v ∧ (∀ i, i < hin.length → φ' i = φ i) ∧ HM (fnBs w A φ hin.length) φ' (postS hin hs) w' ∧ settle u'' = .returning))
      (bodyPostS P fn c₀ cs fun e u'' w' => ∃ v φ', e = .returned v ∧ (∀ i, i < hin.length → φ' i = φ i) ∧ HM (fnBs w A φ hin.length) φ' (postS hin hs) w' ∧ settle u'' = .returning)) (List.range' 1 os.length) (a0.put (some d) v0) cs' w := by
    refine wpOpsS_of hno _ _ _ (wpOps_mono' ?_ _ _ _ hx2)
    rintro e a w' ⟨ex, s, φ2, ⟨tr, t, h', nx, hk, rfl⟩, hM', he⟩
    have fin : ∀ (s : St) (φ : Ph) (a : Act) (w' : World) (φ0 : Ph), Mod (fnBs w A φ0 hin.length) φ s a w' → ck (Nat.beq s.m hin.length) (EndsD hin.length σ hs s) →
        a.defers = [] ∧ (∃ v, (results fn a.tmps).run P w' = .ok v w' ∧ ∃ v2 φ', Ending.returned v = .returned v2 ∧ (∀ i, i < hin.length → φ' i = φ0 i) ∧ HM (fnBs w A φ0 hin.length) φ' (postS hin hs) w' ∧ settle u' = .returning) := by
      intro s φ a w' φ0 hM' hk
      rw [ck_iff] at hk
      obtain ⟨h1, φ', h2, h3⟩ := EndsD.fin hM' (Nat.eq_of_beq_eq_true hk.1) hk.2
      refine ⟨h1, .tuple #[], ?_, _, φ', rfl, h2, h3, hset⟩
      rw [results_eq, Sem.run_bind, Array.mapM_eq_mapM_toList, hrs, Sem.run_map]
      simp only [List.mapM_nil, Sem.run_pure]
      rfl
    cases ex with
    | normal =>
      subst he
      have hk : xCode P E c2 _ (stk P E (endKD hin.length σ hs) []) := hk
      refine wpS_of_wp (wp_mono (xCode_sound hE hmix c2 _ _ φ2 a w' hk hM') ?_)
      rintro e a w' ⟨ex, s, φ3, hk, hM', he⟩
      cases ex with
      | normal =>
        subst he
        obtain ⟨h1, h2⟩ := fin s φ3 a w' φ hM' hk
        exact ⟨h1, u', hcs', h2⟩
      | ret =>
        subst he
        obtain ⟨h1, h2⟩ := fin s φ3 a w' φ hM' hk
        exact ⟨h1, u', hcs', h2⟩
      | exit i => exact hk.elim
      | panic v => exact hk.elim
    | ret => 
      subst he
      obtain ⟨h1, h2⟩ := fin _ φ2 a w' φ hM' hk
      exact ⟨h1, u', hcs', h2⟩
    | exit i => exact hk.elim
    | panic v => exact hk.elim
  rcases hrd with ⟨h1, h2, h3⟩ | h1
  · rw [h1]
    dsimp only
    rw [hd, ← h2, ← h3]
    exact key
  · rw [h1]
    dsimp only
    rw [hd]
    exact key

theorem run_asAddr_ptr (x : Addr) (w : World) : (asAddr (.pointer (some x))).run P w = .ok x w := rfl

theorem loadArr {T : TypeId} (hE : EnvOK P E) (hM : HM bs φ s w) (hok : (ti T E).ok = true) (hagg : (ti T E).agg = true) {id b off : Nat} {o : Org} {t : Ty} {xs : List (D t)} (hb : hl id s.h = some (.arr o t xs)) (h1 : φ id = some (b, off)) (hs : xs.length * sz t = (ti T E).sz) :
    ∃ v, (loadVar T ⟨b, off + 0, none⟩).run P w = .ok v w ∧ R (cx bs φ s w) (.av o t xs) v := by
  have hT := hE.ok hok
  obtain ⟨cs, e, e1, e2, e3⟩ := blk_arr hM hb h1
  obtain ⟨css, c1, c2, c3, c4⟩ := rows_flat e3
  refine ⟨.agg css.flatten.toArray, ?_, .av css (by simp) c1 fun j hj => c2 j hj (c1 ▸ hj)⟩
  have hn : css.flatten.length = (ti T E).sz := by rw [c4, hs]
  have := run_loadCells_list (P := P) w ⟨_, _, none⟩ css.flatten fun j v hv => by
    rw [add_none]
    obtain ⟨hlt, e⟩ := List.getElem?_eq_some_iff.1 hv
    rw [← e]
    exact c3 j hlt
  rw [hn] at this
  simp only [loadVar, Sem.run_bind, Sem.run_pure, Result.andThen_ok, run_isAgg hT, hagg, if_true, run_size hT, Nat.add_zero, this]

theorem resC_run (hE : EnvOK P E) {a : Act} (hM : Mod bs φ s a w) : ∀ {rs : List ResultVar} {l : List AV}, resC E (hl · s.h) s.t rs = some l →
    ∃ vs : List Value, (rs.mapM (resS a.tmps)).run P w = .ok vs w ∧ RL (cx bs φ s w) l vs
  | [], l, h => by simp [resC] at h; subst h; exact ⟨[], rfl, .nil⟩
  | .tmp i :: rs, l, h => by
    simp only [resC] at h
    split at h
    · rename_i l' hl'
      simp only [Option.some.injEq] at h; subst h
      obtain ⟨vs, h1, h2⟩ := resC_run hE hM hl'
      refine ⟨a.tmps.getD i undef :: vs, ?_, .cons (hM.t i) h2⟩
      rw [List.mapM_cons, Sem.run_bind]
      simp only [resS, Sem.run_pure, Result.andThen_ok, Sem.run_bind]
      rw [show (List.mapM (resS a.tmps) rs).run P w = .ok vs w from h1]
      simp only [Result.andThen_ok]
    · cases h
  | .cell x T :: rs, l, h => by
    simp only [resC] at h
    split at h
    · rename_i id off hx
      split at h
      · rename_i lc hb
        split at h
        · rename_i hok
          split at h
          · rename_i l' hl'
            simp only [Option.some.injEq] at h; subst h
            simp only [Bool.and_eq_true] at hok
            have hT := hE.ok hok.1
            obtain ⟨vs, h1, h2⟩ := resC_run hE hM hl'
            have hp := hM.t x
            rw [hx] at hp
            obtain ⟨b, cs, e, e1, e2, e3⟩ := blk_cells hM.toHM hb
            generalize hv0 : a.tmps.getD x undef = v0 at hp
            cases hp with
            | ptr q1 q2 =>
              have q2 : φ id = _ := q2
              rw [q2] at e1; cases e1
              obtain ⟨v, g1, g2⟩ := loadVar_sound (P := P) (c := cx bs φ s w) (w := w) rfl hT e3 (rowAt_of e2) (k := off) (Nat.le_of_ble_eq_true hok.2)
              refine ⟨v :: vs, ?_, .cons g2 h2⟩
              rw [List.mapM_cons, Sem.run_bind]
              simp only [resS, Sem.run_bind, hv0]
              have : (asAddr (.pointer (some ⟨b, 0 + off, none⟩))).run P w = .ok ⟨b, 0 + off, none⟩ w := rfl
              rw [this]
              simp only [Result.andThen_ok]
              rw [g1]
              simp only [Result.andThen_ok]
              rw [show (List.mapM (resS a.tmps) rs).run P w = .ok vs w from h1]
              simp only [Result.andThen_ok, Sem.run_pure]
          · cases h
        · cases h
      · rename_i o' u' xs' hb
        split at h
        · rename_i hok
          split at h
          · rename_i l' hl'
            simp only [Option.some.injEq] at h; subst h
            simp only [Bool.and_eq_true] at hok
            have h0 := Nat.eq_of_beq_eq_true hok.1
            subst h0
            obtain ⟨vs, h1, h2⟩ := resC_run hE hM hl'
            have hp := hM.t x
            rw [hx] at hp
            generalize hv0 : a.tmps.getD x undef = v0 at hp
            cases hp with
            | ptr q1 q2 =>
              have q2 : φ id = _ := q2
              obtain ⟨v, g1, g2⟩ := loadArr (P := P) (T := T) hE hM.toHM hok.2.1 hok.2.2.1 hb q2 (Nat.eq_of_beq_eq_true hok.2.2.2)
              refine ⟨v :: vs, ?_, .cons g2 h2⟩
              rw [List.mapM_cons, Sem.run_bind]
              simp only [resS, Sem.run_bind, hv0]
              rw [run_asAddr_ptr]
              simp only [Result.andThen_ok]
              rw [g1]
              simp only [Result.andThen_ok]
              rw [show (List.mapM (resS a.tmps) rs).run P w = .ok vs w from h1]
              simp only [Result.andThen_ok, Sem.run_pure]
          · cases h
        · cases h
      · cases h
    · cases h

theorem EndsC.fin (hE : EnvOK P E) {fn : Func} {A : Nat → Prop} {φ0 : Ph} {w0 : World} {G : List Nat} {hin : List Blk} {σ : List (Nat × List Nat)} {r : AV} {hs : List (Nat × Option Blk)} {a : Act}
    (hM : Mod (fnBs w0 A φ0 hin.length) φ s a w) (h : EndsC E G fn.results.toList hin.length σ r hs s) :
    a.defers = [] ∧ ∃ v, (results fn a.tmps).run P w = .ok v w ∧ ∃ φ', (∀ i, i < hin.length → φ' i = φ0 i) ∧ HM (fnBs w0 A φ0 hin.length) φ' (postS hin hs) w ∧ R (cx (fnBs w0 A φ0 hin.length) φ' (postS hin hs) w) r v := by
  obtain ⟨φ1, hM⟩ := ((closeAll_ent s).trans (own0_ent G _)) _ φ a w hM
  unfold EndsC at h
  generalize own0 G (closeAll s) = s at hM h
  dsimp only at h
  split at h
  · rename_i hdf
    obtain ⟨ds, d1, d2⟩ := hM.df
    rw [hdf] at d1
    cases d1
    refine ⟨d2, ?_⟩
    split at h
    · rename_i σ' _
      split at h
      · rename_i l hl'
        split at h
        · rename_i r' hr
          split at h
          · rename_i hs'' hh
            simp only [ck_iff, Bool.and_eq_true] at h
            obtain ⟨hm, ⟨h1, h2⟩, h3⟩ := h
            obtain ⟨h4, h5⟩ := eqA_sound h3
            obtain ⟨h6, _⟩ := eqH_sound h5
            subst h4 h6
            obtain ⟨us, g1, g2⟩ := resC_run hE hM hl'
            have hres : (results fn a.tmps).run P w = .ok (if h : us.toArray.size = 1 then us.toArray[0] else .tuple us.toArray) w := by
              rw [results_eq, Sem.run_bind, Array.mapM_eq_mapM_toList, Sem.run_map, g1]
              simp
            obtain ⟨φ2, k1, k2, k3⟩ := exit_sound hM.toHM (Nat.eq_of_beq_eq_true hm) hr hh h1 (Nat.le_of_ble_eq_true h2) (resV_R (vs := us.toArray) g2)
            exact ⟨_, hres, φ2, k1, k2, k3⟩
          · exact h.elim
        · exact h.elim
      · exact h.elim
    · exact h.elim
  · exact h.elim

/-- A deferred call, made where its caller returns or panics. -/
theorem defr_sound (hE : EnvOK P E) {fn : Func} {A : Nat → Prop} {φ0 : Ph} {w0 : World} {G : List Nat} {hin : List Blk} {σ : List (Nat × List Nat)} {r : AV} {hs : List (Nat × Option Blk)} {a : Act}
    {pv : Option AV} {u : FrameMode} (hM : Mod (fnBs w0 A φ0 hin.length) φ s a w)
    (hu : match pv with
      | none => u = .returning
      | some x => ∃ v, R (cx (fnBs w0 A φ0 hin.length) φ s w) x v ∧ u = .panicking [{ v, recovered := false }])
    (h : defrK P s pv (EndsC E G fn.results.toList hin.length σ r hs)) :
    Leaves P fn a.tmps (fun e w' => ∃ v φ', e = .returned v ∧ (∀ i, i < hin.length → φ' i = φ0 i) ∧ HM (fnBs w0 A φ0 hin.length) φ' (postS hin hs) w' ∧ R (cx (fnBs w0 A φ0 hin.length) φ' (postS hin hs) w') r v) a.defers u w := by
  unfold defrK at h
  split at h
  · rename_i g c1 c2 hdf
    obtain ⟨ds, d1, d2⟩ := hM.df
    rw [hdf] at d1
    obtain ⟨dv, rfl, hr⟩ := RL.one_inv d1
    obtain ⟨b1, b2, rfl, r1, r2⟩ := R.clo_inv hr
    simp only [List.filterMap_cons, List.filterMap_nil] at d2
    rw [d2]
    cases h with
    | mk ρ hf hpv ha hb hnd ho hk hs' k =>
      rename_i args' pv' hin' hs2 p q l l'
      have hM16 := hM.widen (nx := s.nx + 16) (by omega)
      have hargs : RL (cx (fnBs w0 A φ0 hin.length) φ s w) (c1 ++ c2) (b1 ++ b2).toList := by rw [Array.toList_append]; exact r1.append r2
      obtain ⟨vs, hvs, hvl⟩ : ∃ pvs : List Value, RL (cx (fnBs w0 A φ0 hin.length) φ s w) (pvl pv) pvs ∧ (match pv with
          | none => pvs = [] ∧ u = .returning
          | some _ => ∃ v, pvs = [v] ∧ u = .panicking [{ v, recovered := false }]) := by
        cases pv with
        | none => exact ⟨[], .nil, rfl, hu⟩
        | some x =>
          obtain ⟨v, h1, h2⟩ := hu
          exact ⟨[v], .cons h1 .nil, v, rfl, h2⟩
      obtain ⟨A', φc, f1, f2, f3⟩ := call_frame (r := .junk) hM16.toHM (id := s.nx) (fun k _ hal => by have := hM.kb _ hal; omega) (Nat.le_refl _) (hvs.append hargs) ha hb hnd (by simpa [noTmp, noOld] using ho) hk hs'
      have hune : u ≠ .run := by
        cases pv with
        | none => rw [hvl.2]; simp
        | some x => obtain ⟨v, _, h2⟩ := hvl; rw [h2]; simp
      refine leaves_cons hune (hf.1 _ _) ?_
      have hcall := hf.2 w A' φc (b1 ++ b2).toList u f1 (by
          cases pv with
          | none => cases pv' with
            | none => rw [hvl.1] at f2; exact f2
            | some x => cases hpv
          | some x => cases pv' with
            | none => cases hpv
            | some x' =>
              obtain ⟨v, h1, _⟩ := hvl
              rw [h1] at f2
              cases f2 with
              | cons h hl => exact hl) (by
          cases pv with
          | none => cases pv' with
            | none => exact hvl.2
            | some x => cases hpv
          | some x => cases pv' with
            | none => cases hpv
            | some x' =>
              obtain ⟨v, h1, h2⟩ := hvl
              rw [h1] at f2
              cases f2 with
              | cons h hl => exact ⟨v, h, h2⟩)
      rw [Array.toArray_toList] at hcall
      refine hcall.mono ?_
      rintro e u' w' ⟨v, φ', rfl, g1, g2, g3⟩
      dsimp only
      rw [g3]
      obtain ⟨φ2, k1, k2, k3⟩ := f3 φ' w' v g1 g2 (.junk _)
      have hM2 := hM16.put (u := .junk) (v := undef) none k1 k2 (.junk _)
      have hM3 : Mod (fnBs w0 A φ0 hin.length) φ2 ⟨s.n, s.t, renH (bk ρ s.nx) hs2 ++ s.h, s.nx + 16, s.m, []⟩ { tmps := a.tmps, defers := [] } w' :=
        ⟨⟨hM2.kb, hM2.toHM.h, hM2.inj, hM2.lo, hM2.ps, hM2.bd, hM2.kp, hM2.inc⟩, hM2.n, hM2.t, [], .nil, rfl⟩
      obtain ⟨_, vr, q1, φ3, q2, q3, q4⟩ := EndsC.fin hE hM3 k
      exact ⟨vr, q1, vr, φ3, rfl, q2, q3, q4⟩
  · exact h.elim

/-- A contract, by walking the code: of a function that may defer a call, whose results may lie in cells; 'G': slots whose nil slice is handed back as one's own. -/
theorem fnR_go (hE : EnvOK P E) (hmix : P.follows .mixedOrders = true) {f : FuncId} {fn : Func} {c : Code} (hf : P.funcs[f]? = some fn) (hb : fn.body = some c) (hn : (fn.name == "runtime.NumGoroutine") = false)
    (cu : List (Nat × List Hint)) (G : List Nat) (σ : List (Nat × List Nat)) {args : List AV} {hin : List Blk} {r : AV} {hs : List (Nat × Option Blk)} (ha : Nat.ble args.length fn.ntmps = true)
    (h : forceN (cnt hin) fun k => xRun P E cu (endKR P E G fn.results.toList k σ r hs) 1000000 (.c c) [] ⟨fn.ntmps, enumT args 0, enum hin 0, k, k, []⟩) : Fw.Fn P f args hin r hs := by
  rw [forceN_iff, cnt_eq] at h
  refine ⟨enter_of hf (by rw [hb]; rfl) hn, fun w A φ vs hM hR => ?_⟩
  have hx : xCode P E c (initS fn.ntmps args hin) (stk P E (endKR P E G fn.results.toList hin.length σ r hs) []) := xRun_sound _ (.c c) [] _ h
  refine calls_of_wp_defers hf hb (wp_mono (xCode_sound hE hmix c _ _ φ _ w hx (mod_init hM hR (Nat.le_of_ble_eq_true ha))) ?_)
  rintro e a w' ⟨ex, s, φ', hk, hM', he⟩
  have norm : (match s.df with
      | [] => EndsC E G fn.results.toList hin.length σ r hs s
      | _ :: _ => defrK P s none (EndsC E G fn.results.toList hin.length σ r hs)) → Leaves P fn a.tmps (fun e w' => ∃ v φ', e = .returned v ∧ (∀ i, i < hin.length → φ' i = φ i) ∧ HM (fnBs w A φ hin.length) φ' (postS hin hs) w' ∧ R (cx (fnBs w A φ hin.length) φ' (postS hin hs) w') r v) a.defers .returning w' := by
    intro hk
    split at hk
    · obtain ⟨h1, v, q1, φ3, q2, q3, q4⟩ := EndsC.fin hE hM' hk
      rw [h1]
      exact ⟨v, q1, v, φ3, rfl, q2, q3, q4⟩
    · exact defr_sound hE hM' rfl hk
  cases ex with
  | normal => subst he; exact norm hk
  | ret => subst he; exact norm hk
  | exit i => exact hk.elim
  | panic x =>
    obtain ⟨v, rfl, hr⟩ := he
    exact defr_sound (pv := some x) hE hM' ⟨v, hr, rfl⟩ hk
/-- A contract that says less: what it hands back may lie in old memory, too. -/
theorem Fn.jo {f : FuncId} {args : List AV} {hin : List Blk} {r : AV} {hs : List (Nat × Option Blk)} (h : Fw.Fn P f args hin r hs) : Fw.Fn P f args hin (Fw.jo .old r) hs := by
  refine ⟨h.1, fun w A φ vs hM hR => (h.2 w A φ vs hM hR).mono ?_⟩
  rintro e w' ⟨v, φ', h1, h2, h3, h4⟩
  refine ⟨v, φ', h1, h2, h3, jo_sound ⟨rfl, fun _ h => h, fun _ => rfl, fun _ _ _ h => h, fun p b hb => ⟨hb.1, ?_⟩⟩ h4⟩
  have := hb.2
  cases p
  · exact Or.inr this
  · exact this
  · trivial
/-- Rows without slices: it does not matter where memory may lie. -/
def flB : Blk → Blk
  | .arr o t xs => match hasSl t with
    | false => .arr .fr t xs
    | true => .arr o t xs
  | b => b
def flH : List (Nat × Option Blk) → List (Nat × Option Blk)
  | [] => []
  | (i, some b) :: r => (i, some (flB b)) :: flH r
  | (i, none) :: r => (i, none) :: flH r
theorem hl_flH (i : Nat) : ∀ h : List (Nat × Option Blk), Fw.hl i (flH h) = (Fw.hl i h).map flB
  | [] => rfl
  | (k, some b) :: r => by
    simp only [flH, hl_cons]
    split
    · rfl
    · exact hl_flH i r
  | (k, none) :: r => by
    simp only [flH, hl_cons]
    split
    · rfl
    · exact hl_flH i r
theorem keys_flH : ∀ h : List (Nat × Option Blk), keys (flH h) = keys h
  | [] => rfl
  | (k, some b) :: r => by simp only [flH, keys, keys_flH r]
  | (k, none) :: r => by simp only [flH, keys, keys_flH r]
theorem shp_flB (b : Blk) : shp (some (flB b)) = shp (some b) := by
  cases b with
  | arr o t xs => simp only [flB]; cases hasSl t <;> rfl
  | _ => rfl
theorem HM.fl {φ : Ph} {s : St} {w : World} (h : HM bs φ s w) (s' : St) (hlk : ∀ i, Fw.hl i s'.h = Fw.hl i s.h ∨ Fw.hl i s'.h = (Fw.hl i s.h).map flB) (hal : ∀ i, s'.al i ↔ s.al i) (hnx : s'.nx = s.nx) (hm : s'.m = s.m) :
    HM bs φ s' w ∧ (cx bs φ s w).Le (cx bs φ s' w) := by
  have hne : ∀ i, Fw.hl i s'.h ≠ none ↔ Fw.hl i s.h ≠ none := fun i => by
    rcases hlk i with e | e
    · rw [e]
    · rw [e]; cases Fw.hl i s.h <;> simp
  have hsh : ∀ i, shp (Fw.hl i s'.h) = shp (Fw.hl i s.h) := fun i => by
    rcases hlk i with e | e
    · rw [e]
    · rw [e]
      cases Fw.hl i s.h with
      | none => rfl
      | some y => exact shp_flB y
  refine h.shift (s' := s') (φ' := φ) (w' := w) (fun i hi => (hal i).2 hi) (fun i hi => by rw [hnx]; exact h.kb i ((hal i).1 hi)) hm (fun _ _ => rfl) (fun i _ t n hx => by rw [hsh] at hx; exact hx) (fun i _ hi => (hne i).1 hi) (fun _ _ _ _ _ _ cs e fz hc => ⟨cs, e, fz, hc, rfl⟩)
    (fun i b hi hp => Or.inl ⟨i, (hne i).1 hi, hp⟩) (fun i j b hi hj => h.inj i j b ((hne i).1 hi) ((hne j).1 hj)) (fun i b hi => h.lo i b ((hne i).1 hi)) (Nat.le_refl _) (fun _ _ _ => rfl) (Keeps.refl _ _ _) fun hle i x hx => ?_
  rcases hlk i with e | e
  · rw [e] at hx
    exact BlkOK.le hle (al_of_hl hx) rfl (fun _ _ => rfl) (h.h i x hx)
  · rw [e] at hx
    cases hy : Fw.hl i s.h with
    | none => rw [hy] at hx; cases hx
    | some y =>
      rw [hy, Option.map_some, Option.some.injEq] at hx
      subst hx
      have hk := BlkOK.le hle (al_of_hl hy) rfl (fun _ _ => rfl) (h.h i y hy)
      cases y with
      | arr o t xs =>
        simp only [flB]
        cases hns : hasSl t with
        | true => exact hk
        | false =>
          rcases hk with ⟨b, off, cs, e, k1, k2, k3, k4⟩ | k
          · refine Or.inl ⟨b, off, cs, e, k1, k2, k3, fun j hj => ?_⟩
            obtain ⟨rc, r1, r2⟩ := k4 j hj
            exact ⟨rc, r1, RD.noSl hns r2⟩
          · exact Or.inr k
      | cells l => exact hk
      | deep t xs => exact hk
      | seg t xs j row => exact hk
/-- A contract that says more: rows without slices that are handed back refer to no other memory. -/
theorem Fn.fl {f : FuncId} {args : List AV} {hin : List Blk} {r : AV} {hs : List (Nat × Option Blk)} (h : Fw.Fn P f args hin r hs) : Fw.Fn P f args hin r (flH hs) := by
  refine ⟨h.1, fun w A φ vs hM hR => (h.2 w A φ vs hM hR).mono ?_⟩
  rintro e w' ⟨v, φ', h1, h2, h3, h4⟩
  obtain ⟨g1, g2⟩ := HM.fl h3 (postS hin (flH hs)) (fun i => by
      show Fw.hl i (flH hs ++ enum hin 0) = Fw.hl i (hs ++ enum hin 0) ∨ Fw.hl i (flH hs ++ enum hin 0) = (Fw.hl i (hs ++ enum hin 0)).map flB
      by_cases hk : i ∈ keys hs
      · right
        rw [hl_app_key hk, hl_app_key (by rw [keys_flH]; exact hk)]
        exact hl_flH i hs
      · left
        rw [hl_app_ne hk, hl_app_ne (by rw [keys_flH]; exact hk)]) (fun i => by
      rw [al_iff, al_iff]
      show i ∈ keys (flH hs ++ enum hin 0) ↔ i ∈ keys (hs ++ enum hin 0)
      have kap : ∀ (l l' : List (Nat × Option Blk)), i ∈ keys (l ++ l') ↔ i ∈ keys l ∨ i ∈ keys l' := by
        intro l l'
        simp only [mem_keys, List.mem_append]
        constructor
        · rintro ⟨y, h | h⟩
          · exact Or.inl ⟨y, h⟩
          · exact Or.inr ⟨y, h⟩
        · rintro (⟨y, h⟩ | ⟨y, h⟩)
          · exact ⟨y, Or.inl h⟩
          · exact ⟨y, Or.inr h⟩
      rw [kap, kap, keys_flH]) rfl rfl
  exact ⟨v, φ', h1, h2, g1, R.le g2 h4⟩
end
end Go.Fw
namespace Go.Proofs.Ytbgnnpbcifgckaa
open Go Go.Fw Go.RowKit
set_option maxRecDepth 100000
set_option maxHeartbeats 4000000

theorem and_mask (x : Nat) : x &&& 4294967295 = x % 4294967296 := Nat.and_two_pow_sub_one_eq_mod x 32
theorem shr_32 (x : Nat) : x >>> 32 = x / 4294967296 := Nat.shiftRight_eq_div_pow x 32
theorem umax64 : umax .u64 = 18446744073709551615 := rfl
theorem mulp {x y : Nat} (hx : x ≤ 4294967295) (hy : y ≤ 4294967295) : x * y ≤ 18446744065119617025 := Nat.mul_le_mul hx hy
theorem mul_split (a b : Nat) : a * b = (a / 4294967296 * (b / 4294967296)) * 18446744073709551616 + (a / 4294967296 * (b % 4294967296) + a % 4294967296 * (b / 4294967296)) * 4294967296 + a % 4294967296 * (b % 4294967296) := by
  have ha := Nat.div_add_mod a 4294967296
  have hb := Nat.div_add_mod b 4294967296
  generalize a / 4294967296 = x1 at *
  generalize a % 4294967296 = x0 at *
  generalize b / 4294967296 = y1 at *
  generalize b % 4294967296 = y0 at *
  subst ha hb
  have e : (18446744073709551616 : Nat) = 4294967296 * 4294967296 := rfl
  rw [e]
  simp only [Nat.add_mul, Nat.mul_add]
  have e1 : 4294967296 * x1 * (4294967296 * y1) = x1 * y1 * (4294967296 * 4294967296) := by ac_rfl
  have e2 : 4294967296 * x1 * y0 = x1 * y0 * 4294967296 := by ac_rfl
  have e3 : x0 * (4294967296 * y1) = x0 * y1 * 4294967296 := by ac_rfl
  omega
theorem mul64_fn (a b : Nat) (ha : a ≤ 18446744073709551615) (hb : b ≤ 18446744073709551615) : Fw.Fn Try.prog 66 [.un .u64 a, .un .u64 b] [] (.tup [.un .u64 (a * b / 18446744073709551616), .un .u64 (a * b % 18446744073709551616)]) [] := by
  refine fn_go env_ok mixed Try.func66 (c := Try.f66.body.get rfl) rfl (by kernel_rfl) [] rfl ?_
  repeat' first | apply And.intro | (intro h; (cases h; done)) | intro _ | exact True.intro | (show Region.lexB _ _ = true; kernel_rfl)
  all_goals simp only [and_mask, shr_32, umax64]
  all_goals try omega
  all_goals
    have h00 := mulp (x := a % 4294967296) (y := b % 4294967296) (by omega) (by omega)
    have h01 := mulp (x := a % 4294967296) (y := b / 4294967296) (by omega) (by omega)
    have h10 := mulp (x := a / 4294967296) (y := b % 4294967296) (by omega) (by omega)
    have h11 := mulp (x := a / 4294967296) (y := b / 4294967296) (by omega) (by omega)
    have hs := mul_split a b
    generalize a % 4294967296 * (b % 4294967296) = p00 at *
    generalize a % 4294967296 * (b / 4294967296) = p01 at *
    generalize a / 4294967296 * (b % 4294967296) = p10 at *
    generalize a / 4294967296 * (b / 4294967296) = p11 at *
    generalize a * b = p at *
    clear ha hb
  all_goals first | omega | exact Or.inl (by decide)

theorem maxN_mul {a b : Int} (ha : 0 ≤ a) (hb : 0 ≤ b) : (a * b).toNat = a.toNat * b.toNat := Int.toNat_mul ha hb
theorem mul_test {a b : Int} (ha : 0 ≤ a) (hb : 0 ≤ b) : (0 < a.toNat * b.toNat / 18446744073709551616 ∨ 4611686018427387903 < a.toNat * b.toNat % 18446744073709551616) ↔ 4611686018427387903 < a * b := by
  rw [← maxN_mul ha hb]
  have := Int.mul_nonneg ha hb
  omega
theorem mul_val {a b : Int} (ha : 0 ≤ a) (hb : 0 ≤ b) (h : a * b ≤ 4611686018427387903) : ((a.toNat * b.toNat % 18446744073709551616 : Nat) : Int) = a * b := by
  rw [← maxN_mul ha hb]
  have := Int.mul_nonneg ha hb
  omega
/-- A product up to the greatest number. -/
theorem ref_product2_fn (a b : Int) (ha : 0 ≤ a) (hb : 0 ≤ b) (ha' : a ≤ 9223372036854775807) (hb' : b ≤ 9223372036854775807) :
    Fw.Fn Try.prog 58 [.val (.int .i64 a), .val (.int .i64 b)] [] (.tup [.val (.int .i64 (if a * b ≤ 4611686018427387903 then a * b else 0)), .val (.bool (decide (a * b ≤ 4611686018427387903)))]) [] := by
  refine fn_go env_ok mixed Try.func58 (c := Try.f58.body.get rfl) rfl (by kernel_rfl) [] rfl ?_
  have ht := mul_test ha hb
  have hv := mul_val ha hb
  repeat' first | apply And.intro | (intro h; (cases h; done)) | intro _ | exact True.intro | (show Region.lexB _ _ = true; kernel_rfl) | refine CallK.fn [] (mul64_fn _ _ ?_ ?_) rfl rfl rfl rfl rfl trivial ?_
  all_goals (try simp only [decT, decF, beq_iff_eq, bne_iff_ne, ne_eq, beq_eq_false_iff_ne, bne_eq_false_iff_eq, Decidable.not_not, Int.toNat_natCast, Bool.not_eq_true', Bool.not_eq_false', Bool.not_eq_true, Bool.not_eq_false, Int.not_lt, Int.not_le] at *; try dsimp only [D, IK, dz] at *)
  all_goals try omega
  all_goals try rw [if_neg (by omega)]
  all_goals try rw [if_pos (by omega)]
  all_goals try exact hv (by omega)
  all_goals try exact (decide_eq_false (by omega)).symm
  all_goals exact (decide_eq_true (by omega)).symm
theorem plus_fn (a b : Int) (ha : 0 ≤ a) (hb : 0 ≤ b) (h : a + b ≤ 4611686018427387903) : Fw.Fn Try.prog 63 [.val (.int .i64 a), .val (.int .i64 b)] [] (.val (.int .i64 (a + b))) [] := by
  refine fn_go env_ok mixed Try.func63 (c := Try.f63.body.get rfl) rfl (by kernel_rfl) [] rfl ?_
  repeat' first | apply And.intro | (intro h; (cases h; done)) | intro _ | exact True.intro | (show Region.lexB _ _ = true; kernel_rfl)
  all_goals (try simp only [decT, decF, beq_iff_eq, bne_iff_ne, ne_eq, beq_eq_false_iff_ne, bne_eq_false_iff_eq, Decidable.not_not, Int.toNat_natCast, Bool.not_eq_true', Bool.not_eq_false', Bool.not_eq_true, Bool.not_eq_false, Int.not_lt, Int.not_le] at *; try dsimp only [D, IK, dz] at *)
  all_goals try omega
theorem plus_pn (a b : Int) (ha : 0 ≤ a) (hb : 0 ≤ b) (hb' : b ≤ 9223372036854775807) (h : 4611686018427387903 < a + b) : Fw.FnP Try.prog 63 [.val (.int .i64 a), .val (.int .i64 b)] [] (.ifc 107 (.agg [])) [] := by
  refine fnP_go env_ok mixed Try.func63 (c := Try.f63.body.get rfl) rfl (by kernel_rfl) [] rfl ?_
  repeat' first | apply And.intro | (intro h; (cases h; done)) | intro _ | exact True.intro | (show Region.lexB _ _ = true; kernel_rfl)
  all_goals (try simp only [decT, decF, beq_iff_eq, bne_iff_ne, ne_eq, beq_eq_false_iff_ne, bne_eq_false_iff_eq, Decidable.not_not, Int.toNat_natCast, Bool.not_eq_true', Bool.not_eq_false', Bool.not_eq_true, Bool.not_eq_false, Int.not_lt, Int.not_le] at *; try dsimp only [D, IK, dz] at *)
  all_goals try omega
theorem times_fn (a b : Int) (ha : 0 ≤ a) (hb : 0 ≤ b) (ha' : a ≤ 9223372036854775807) (hb' : b ≤ 9223372036854775807) (h : a * b ≤ 4611686018427387903) : Fw.Fn Try.prog 64 [.val (.int .i64 a), .val (.int .i64 b)] [] (.val (.int .i64 (a * b))) [] := by
  refine fn_go env_ok mixed Try.func64 (c := Try.f64.body.get rfl) rfl (by kernel_rfl) [] rfl ?_
  have ht := mul_test ha hb
  have hv := mul_val ha hb h
  repeat' first | apply And.intro | (intro h; (cases h; done)) | intro _ | exact True.intro | (show Region.lexB _ _ = true; kernel_rfl) | refine CallK.fn [] (mul64_fn _ _ ?_ ?_) rfl rfl rfl rfl rfl trivial ?_
  all_goals (try simp only [decT, decF, beq_iff_eq, bne_iff_ne, ne_eq, beq_eq_false_iff_ne, bne_eq_false_iff_eq, Decidable.not_not, Int.toNat_natCast, Bool.not_eq_true', Bool.not_eq_false', Bool.not_eq_true, Bool.not_eq_false, Int.not_lt, Int.not_le] at *; try dsimp only [D, IK, dz] at *)
  all_goals try omega
theorem times_pn (a b : Int) (ha : 0 ≤ a) (hb : 0 ≤ b) (ha' : a ≤ 9223372036854775807) (hb' : b ≤ 9223372036854775807) (h : 4611686018427387903 < a * b) : Fw.FnP Try.prog 64 [.val (.int .i64 a), .val (.int .i64 b)] [] (.ifc 107 (.agg [])) [] := by
  refine fnP_go env_ok mixed Try.func64 (c := Try.f64.body.get rfl) rfl (by kernel_rfl) [] rfl ?_
  have ht := mul_test ha hb
  repeat' first | apply And.intro | (intro h; (cases h; done)) | intro _ | exact True.intro | (show Region.lexB _ _ = true; kernel_rfl) | refine CallK.fn [] (mul64_fn _ _ ?_ ?_) rfl rfl rfl rfl rfl trivial ?_
  all_goals (try simp only [decT, decF, beq_iff_eq, bne_iff_ne, ne_eq, beq_eq_false_iff_ne, bne_eq_false_iff_eq, Decidable.not_not, Int.toNat_natCast, Bool.not_eq_true', Bool.not_eq_false', Bool.not_eq_true, Bool.not_eq_false, Int.not_lt, Int.not_le] at *; try dsimp only [D, IK, dz] at *)
  all_goals try omega
end Go.Proofs.Ytbgnnpbcifgckaa
namespace Go.Proofs.Ytbgnnpbcifgckaa

def sumI (l : List Int) : Int := l.foldl (· + ·) 0
theorem foldl_add (l : List Int) (a : Int) : l.foldl (· + ·) a = a + sumI l := by
  induction l generalizing a with
  | nil => simp [sumI]
  | cons x l ih => simp only [List.foldl_cons, sumI]; rw [ih, ih]; omega
theorem foldl_mul (l : List Int) (a : Int) : l.foldl (· * ·) a = a * prodI l := by
  induction l generalizing a with
  | nil => simp [prodI]
  | cons x l ih => simp only [List.foldl_cons, prodI]; rw [ih, ih, Int.one_mul, Int.mul_assoc]
theorem sumI_nil : sumI [] = 0 := rfl
theorem prodI_nil : prodI [] = 1 := rfl
theorem sumI_cons (x : Int) (l : List Int) : sumI (x :: l) = x + sumI l := by simp only [sumI, List.foldl_cons]; rw [foldl_add]; simp [sumI]
theorem prodI_cons (x : Int) (l : List Int) : prodI (x :: l) = x * prodI l := by simp only [prodI, List.foldl_cons]; rw [foldl_mul, Int.one_mul]; rfl
theorem sumI_append (l m : List Int) : sumI (l ++ m) = sumI l + sumI m := by simp only [sumI, List.foldl_append]; rw [foldl_add]; rfl
theorem prodI_append (l m : List Int) : prodI (l ++ m) = prodI l * prodI m := by simp only [prodI, List.foldl_append]; rw [foldl_mul]; rfl
theorem sumI_snoc (l : List Int) (x : Int) : sumI (l ++ [x]) = sumI l + x := by rw [sumI_append, sumI_cons, sumI_nil]; omega
theorem sumI_nonneg {l : List Int} (h : ∀ x ∈ l, 0 ≤ x) : 0 ≤ sumI l := by
  induction l with
  | nil => simp [sumI]
  | cons x l ih => rw [sumI_cons]; have := h x (by simp); have := ih fun y hy => h y (by simp [hy]); omega
theorem prodI_nonneg {l : List Int} (h : ∀ x ∈ l, 0 ≤ x) : 0 ≤ prodI l := by
  induction l with
  | nil => simp [prodI]
  | cons x l ih => rw [prodI_cons]; exact Int.mul_nonneg (h x (by simp)) (ih fun y hy => h y (by simp [hy]))
theorem prodI_pos {l : List Int} (h : ∀ x ∈ l, 1 ≤ x) : 1 ≤ prodI l := by
  induction l with
  | nil => simp [prodI]
  | cons x l ih => rw [prodI_cons]; have := Int.mul_le_mul (h x (by simp)) (ih fun y hy => h y (by simp [hy])) (by omega) (by have := h x (by simp); omega); omega
theorem prodI_zero {l : List Int} (h : (0 : Int) ∈ l) : prodI l = 0 := by
  induction l with
  | nil => cases h
  | cons x l ih =>
    rw [prodI_cons]
    rcases List.mem_cons.1 h with h | h
    · rw [← h, Int.zero_mul]
    · rw [ih h, Int.mul_zero]
theorem sumI_take_le {l : List Int} (h : ∀ x ∈ l, 0 ≤ x) (j : Nat) : sumI (l.take j) ≤ sumI l := by
  have e : l = l.take j ++ l.drop j := (List.take_append_drop j l).symm
  have h2 := sumI_nonneg (l := l.drop j) fun x hx => h x (List.mem_of_mem_drop hx)
  have : sumI l = sumI (l.take j) + sumI (l.drop j) := by rw [← sumI_append, ← e]
  omega
theorem prodI_take_le {l : List Int} (h : ∀ x ∈ l, 1 ≤ x) (j : Nat) : prodI (l.take j) ≤ prodI l := by
  have e : l = l.take j ++ l.drop j := (List.take_append_drop j l).symm
  have h2 := prodI_pos (l := l.drop j) fun x hx => h x (List.mem_of_mem_drop hx)
  have h1 := prodI_pos (l := l.take j) fun x hx => h x (List.mem_of_mem_take hx)
  have : prodI l = prodI (l.take j) * prodI (l.drop j) := by rw [← prodI_append, ← e]
  have h3 := Int.mul_le_mul_of_nonneg_left h2 (show 0 ≤ prodI (l.take j) by omega)
  omega
theorem sumI_take_nonneg {l : List Int} (h : ∀ x ∈ l, 0 ≤ x) (j : Nat) : 0 ≤ sumI (l.take j) := sumI_nonneg fun x hx => h x (List.mem_of_mem_take hx)
theorem take_step {α : Type} {l : List α} {j : Nat} (h : j < l.length) : l.take (j + 1) = l.take j ++ [l[j]] := List.take_succ_eq_append_getElem h
/-- The values at the places that are not one place. -/
def butF (vals args : List Int) (but : Int) : List Int := (args.filter fun a => a != but).map fun k => vals.getD k.toNat 0
theorem butF_take {vals args : List Int} {but : Int} {j : Nat} (h : j < args.length) : butF vals (args.take (j + 1)) but = if args[j] = but then butF vals (args.take j) but else butF vals (args.take j) but ++ [vals.getD args[j].toNat 0] := by
  unfold butF
  rw [take_step h, List.filter_append, List.map_append]
  by_cases e : args[j] = but
  · rw [if_pos e]; simp [e]
  · rw [if_neg e]; simp [e]
theorem butF_mem {vals args : List Int} {but : Int} {x : Int} (h : x ∈ butF vals args but) : ∃ a ∈ args, a ≠ but ∧ x = vals.getD a.toNat 0 := by
  unfold butF at h
  obtain ⟨a, h1, h2⟩ := List.mem_map.1 h
  obtain ⟨h3, h4⟩ := List.mem_filter.1 h1
  exact ⟨a, h3, by simpa using h4, h2.symm⟩
theorem butF_of_mem {vals args : List Int} {but a : Int} (h : a ∈ args) (hb : a ≠ but) : vals.getD a.toNat 0 ∈ butF vals args but :=
  List.mem_map.2 ⟨a, List.mem_filter.2 ⟨h, by simpa using hb⟩, rfl⟩
theorem butF_append (vals l m : List Int) (but : Int) : butF vals (l ++ m) but = butF vals l but ++ butF vals m but := by
  unfold butF; rw [List.filter_append, List.map_append]
theorem butF_none {vals args : List Int} {but : Int} (h : but ∉ args) : butF vals args but = atF vals args := by
  unfold butF atF
  rw [List.filter_eq_self.2 fun a ha => by simp; rintro rfl; exact h ha]
theorem butF_pre {vals args : List Int} {but : Int} (h : ∀ a ∈ args, a ≠ but → 1 ≤ vals.getD a.toNat 0) (j : Nat) : 1 ≤ prodI (butF vals (args.take j) but) ∧ prodI (butF vals (args.take j) but) ≤ prodI (butF vals args but) := by
  have e : args = args.take j ++ args.drop j := (List.take_append_drop j args).symm
  have h2 := prodI_pos (l := butF vals (args.drop j) but) fun x hx => by
    obtain ⟨a, h1, h2, rfl⟩ := butF_mem hx; exact h a (List.mem_of_mem_drop h1) h2
  have h1 := prodI_pos (l := butF vals (args.take j) but) fun x hx => by
    obtain ⟨a, h1, h2, rfl⟩ := butF_mem hx; exact h a (List.mem_of_mem_take h1) h2
  have : prodI (butF vals args but) = prodI (butF vals (args.take j) but) * prodI (butF vals (args.drop j) but) := by rw [← prodI_append, ← butF_append, ← e]
  have h3 := Int.mul_le_mul_of_nonneg_left h2 (show 0 ≤ prodI (butF vals (args.take j) but) by omega)
  exact ⟨h1, by omega⟩
end Go.Proofs.Ytbgnnpbcifgckaa
namespace Go.Proofs.Ytbgnnpbcifgckaa
open Go Go.Fw Go.RowKit
set_option maxRecDepth 100000
set_option maxHeartbeats 4000000
abbrev runP (cards : List Int) (gates : List Gate) (input vals : List Int) : AV := .ip .old [.dat .old (.i .i64) cards, .dat .old gT gates, .dat .old (.i .i64) input, .dat .old (.i .i64) vals] 0
abbrev gA (g : Gate) : AV := .agg [.val (.int .i64 g.1), .val (.int .i64 g.2.1), .val (.int .i64 g.2.2.1), .val (.int .i64 g.2.2.2.1), .dat .old (.i .i64) g.2.2.2.2]
abbrev maxN : Int := 4611686018427387903
section
variable (cards : List Int) (gates : List Gate) (input : List Int) (vals : List Int) (g : Gate)
theorem number_fn : Fw.Fn Try.prog 67 [runP cards gates input vals, gA g] [] (.val (.int .i64 g.2.2.2.1)) [] := by
  refine fn_go env_ok mixed Try.func67 (c := Try.f67.body.get rfl) rfl (by kernel_rfl) [] rfl ?_
  repeat' first | apply And.intro | (intro h; (cases h; done)) | intro _ | exact True.intro | (show Region.lexB _ _ = true; kernel_rfl)
  all_goals rfl
theorem is_fn (h : 0 ≤ g.2.1) (h2 : g.2.1 < input.length) : Fw.Fn Try.prog 68 [runP cards gates input vals, gA g] [] (.val (.int .i64 (if input.getD g.2.1.toNat 0 < 0 ∨ input.getD g.2.1.toNat 0 = g.2.2.1 then 1 else 0))) [] := by
  refine fn_go env_ok mixed Try.func68 (c := Try.f68.body.get rfl) rfl (by kernel_rfl) [] rfl ?_
  repeat' first | apply And.intro | (intro h; (cases h; done)) | intro _ | exact True.intro | (show Region.lexB _ _ = true; kernel_rfl)
  all_goals (try simp only [decT, decF, beq_iff_eq, bne_iff_ne, ne_eq, beq_eq_false_iff_ne, bne_eq_false_iff_eq, Decidable.not_not, Int.toNat_natCast, Bool.not_eq_true', Bool.not_eq_false', Bool.not_eq_true, Bool.not_eq_false, Int.not_lt, Int.not_le] at *; try dsimp only [D, IK, dz] at *)
  all_goals first | rfl | assumption | (rw [if_pos (by omega)]) | (rw [if_neg (by omega)])

/-- Whether places lie within a list, and what stands there are numbers. -/
def placesOK (vals args : List Int) : Prop := ∀ a ∈ args, 0 ≤ a ∧ a < vals.length ∧ 0 ≤ vals.getD a.toNat 0 ∧ vals.getD a.toNat 0 ≤ 4611686018427387903
theorem atF_take {vals args : List Int} {j : Nat} (h : j < args.length) : atF vals (args.take (j + 1)) = atF vals (args.take j) ++ [vals.getD args[j].toNat 0] := by
  unfold atF; rw [take_step h, List.map_append]; rfl
theorem atF_take_take (vals args : List Int) (j : Nat) : atF vals (args.take j) = (atF vals args).take j := by unfold atF; rw [List.map_take]
theorem atF_nn {vals args : List Int} (h : placesOK vals args) : ∀ x ∈ atF vals args, 0 ≤ x := by
  intro x hx
  obtain ⟨a, h1, rfl⟩ := List.mem_map.1 hx
  exact (h a h1).2.2.1

set_option maxRecDepth 100000 in
theorem sum_fn (hl : g.2.2.2.2.length ≤ 4611686018427387903) (hp : placesOK vals g.2.2.2.2) (hs : sumI (atF vals g.2.2.2.2) ≤ 4611686018427387903) :
    Fw.Fn Try.prog 69 [runP cards gates input vals, gA g] [] (.val (.int .i64 (sumI (atF vals g.2.2.2.2)))) [] := by
  refine fn_go env_ok mixed Try.func69 (c := Try.f69.body.get rfl) rfl (by kernel_rfl) [] rfl ?_
  repeat' first | apply And.intro | (intro h; (cases h; done)) | intro _ | exact True.intro | (show Region.lexB _ _ = true; kernel_rfl)
  refine ⟨loopI (fun j : Nat => { n := 26, t := [(0, runP cards gates input vals), (5, .val (.int .i64 (sumI (atF vals (g.2.2.2.2.take j))))), (9, .dat .old (.i .i64) g.2.2.2.2), (10, .val (.int .i64 (↑(List.length g.2.2.2.2)))), (11, .val (.int .i64 j))], h := [], nx := 0 }) (fun j => g.2.2.2.2.length - j) (fun j => Ok (j ≤ g.2.2.2.2.length)),
    loopI.start 0 [] [0, 5, 9, 10, 11] [] .fr ⟨rfl, rfl, rfl, rfl, rfl, rfl, rfl, rfl, ⟨Nat.zero_le _⟩⟩, ?_⟩
  rintro _ _ ⟨j, rfl, rfl, ⟨hj⟩⟩
  have hx : ∀ h : (j : Int) < g.2.2.2.2.length, 0 ≤ sumI (atF vals (g.2.2.2.2.take j)) ∧ (0 ≤ g.2.2.2.2.getD j 0 ∧ g.2.2.2.2.getD j 0 < vals.length ∧ 0 ≤ vals.getD (g.2.2.2.2.getD j 0).toNat 0) ∧
      sumI (atF vals (g.2.2.2.2.take (j + 1))) = sumI (atF vals (g.2.2.2.2.take j)) + vals.getD (g.2.2.2.2.getD j 0).toNat 0 ∧ sumI (atF vals (g.2.2.2.2.take (j + 1))) ≤ sumI (atF vals g.2.2.2.2) := fun h => by
    have hj : j < g.2.2.2.2.length := by omega
    rw [getD_lt hj, atF_take hj, sumI_snoc, ← sumI_snoc, ← atF_take hj]
    obtain ⟨h1, h2, h3, _⟩ := hp _ (List.getElem_mem hj)
    rw [atF_take_take, atF_take_take]
    exact ⟨sumI_take_nonneg (atF_nn hp) j, ⟨h1, h2, h3⟩, rfl, sumI_take_le (atF_nn hp) _⟩
  repeat' first | apply And.intro | (intro h; (cases h; done)) | intro _ | exact True.intro | (show Region.lexB _ _ = true; kernel_rfl) | refine loopI.next (j + 1) [] [0, 5, 9, 10, 11] [] .fr ?_ | refine CallK.fn [] (plus_fn _ _ ?_ ?_ ?_) rfl rfl rfl rfl rfl trivial ?_
  all_goals (try simp only [decT, decF, beq_iff_eq, bne_iff_ne, ne_eq, beq_eq_false_iff_ne, bne_eq_false_iff_eq, Decidable.not_not, Int.toNat_natCast, Bool.not_eq_true', Bool.not_eq_false', Bool.not_eq_true, Bool.not_eq_false, Int.not_lt, Int.not_le] at *; try dsimp only [D, IK, dz] at *)
  all_goals try omega
  all_goals try rfl
  all_goals by_cases h0 : (j : Int) < g.2.2.2.2.length
  all_goals try simp only [h0, true_implies, false_implies] at hx
  all_goals try omega
  · exact ⟨by omega⟩
  · have : j = g.2.2.2.2.length := by omega
    rw [this, List.take_length]

theorem sum_pn (hl : g.2.2.2.2.length ≤ 4611686018427387903) (hp : placesOK vals g.2.2.2.2) (hs : 4611686018427387903 < sumI (atF vals g.2.2.2.2)) :
    Fw.FnP Try.prog 69 [runP cards gates input vals, gA g] [] (.ifc 107 (.agg [])) [] := by
  refine fnP_go env_ok mixed Try.func69 (c := Try.f69.body.get rfl) rfl (by kernel_rfl) [] rfl ?_
  repeat' first | apply And.intro | (intro h; (cases h; done)) | intro _ | exact True.intro | (show Region.lexB _ _ = true; kernel_rfl)
  refine ⟨loopI (fun j : Nat => { n := 26, t := [(0, runP cards gates input vals), (5, .val (.int .i64 (sumI (atF vals (g.2.2.2.2.take j))))), (9, .dat .old (.i .i64) g.2.2.2.2), (10, .val (.int .i64 (↑(List.length g.2.2.2.2)))), (11, .val (.int .i64 j))], h := [], nx := 0 }) (fun j => g.2.2.2.2.length - j) (fun j => Ok (j ≤ g.2.2.2.2.length ∧ sumI (atF vals (g.2.2.2.2.take j)) ≤ 4611686018427387903)),
    loopI.start 0 [] [0, 5, 9, 10, 11] [] .fr (by (repeat' first | apply And.intro | rfl); exact ⟨Nat.zero_le _, by rw [List.take_zero]; exact (by decide : sumI [] ≤ 4611686018427387903)⟩), ?_⟩
  rintro _ _ ⟨j, rfl, rfl, ⟨hj, hm⟩⟩
  have hx : ∀ h : (j : Int) < g.2.2.2.2.length, 0 ≤ sumI (atF vals (g.2.2.2.2.take j)) ∧ (0 ≤ g.2.2.2.2.getD j 0 ∧ g.2.2.2.2.getD j 0 < vals.length ∧ 0 ≤ vals.getD (g.2.2.2.2.getD j 0).toNat 0 ∧ vals.getD (g.2.2.2.2.getD j 0).toNat 0 ≤ 4611686018427387903) ∧
      sumI (atF vals (g.2.2.2.2.take (j + 1))) = sumI (atF vals (g.2.2.2.2.take j)) + vals.getD (g.2.2.2.2.getD j 0).toNat 0 := fun h => by
    have hj : j < g.2.2.2.2.length := by omega
    rw [getD_lt hj, atF_take hj, sumI_snoc]
    rw [atF_take_take]
    exact ⟨sumI_take_nonneg (atF_nn hp) j, hp _ (List.getElem_mem hj), rfl⟩
  by_cases hc : sumI (atF vals (g.2.2.2.2.take (j + 1))) ≤ 4611686018427387903
  · repeat' first | apply And.intro | (intro h; (cases h; done)) | intro _ | exact True.intro | (show Region.lexB _ _ = true; kernel_rfl) | refine loopI.next (j + 1) [] [0, 5, 9, 10, 11] [] .fr ?_ | refine CallK.fn [] (plus_fn _ _ ?_ ?_ ?_) rfl rfl rfl rfl rfl trivial ?_
    all_goals (try simp only [decT, decF, beq_iff_eq, bne_iff_ne, ne_eq, beq_eq_false_iff_ne, bne_eq_false_iff_eq, Decidable.not_not, Int.toNat_natCast, Bool.not_eq_true', Bool.not_eq_false', Bool.not_eq_true, Bool.not_eq_false, Int.not_lt, Int.not_le] at *; try dsimp only [D, IK, dz] at *)
    all_goals try omega
    all_goals try rfl
    all_goals by_cases h0 : (j : Int) < g.2.2.2.2.length
    all_goals try simp only [h0, true_implies, false_implies] at hx
    all_goals try omega
    · exact ⟨by omega, hc⟩
    · have : j = g.2.2.2.2.length := by omega
      rw [this, List.take_length] at hm
      omega
  · repeat' first | apply And.intro | (intro h; (cases h; done)) | intro _ | exact True.intro | (show Region.lexB _ _ = true; kernel_rfl) | refine CallK.pn [] (plus_pn _ _ ?_ ?_ ?_ ?_) rfl rfl rfl rfl rfl trivial ?_
    all_goals (try simp only [decT, decF, beq_iff_eq, bne_iff_ne, ne_eq, beq_eq_false_iff_ne, bne_eq_false_iff_eq, Decidable.not_not, Int.toNat_natCast, Bool.not_eq_true', Bool.not_eq_false', Bool.not_eq_true, Bool.not_eq_false, Int.not_lt, Int.not_le] at *; try dsimp only [D, IK, dz] at *)
    all_goals try omega
    all_goals try rfl
    all_goals by_cases h0 : (j : Int) < g.2.2.2.2.length
    all_goals try simp only [h0, true_implies, false_implies] at hx
    all_goals try omega
    · have : j = g.2.2.2.2.length := by omega
      rw [this, List.take_length] at hm
      omega

theorem others_step {vals args : List Int} (hp : placesOK vals args) (but : Int) (j : Nat) : ∀ h : (j : Int) < args.length, (0 ≤ args.getD j 0 ∧ args.getD j 0 < vals.length ∧ 0 ≤ vals.getD (args.getD j 0).toNat 0 ∧ vals.getD (args.getD j 0).toNat 0 ≤ 4611686018427387903) ∧
    (args.getD j 0 = but ∧ prodI (butF vals (args.take (j + 1)) but) = prodI (butF vals (args.take j) but) ∨ args.getD j 0 ≠ but ∧ prodI (butF vals (args.take (j + 1)) but) = prodI (butF vals (args.take j) but) * vals.getD (args.getD j 0).toNat 0) := fun h => by
  have hj : j < args.length := by omega
  refine ⟨hp _ (getD_mem hj), ?_⟩
  rw [getD_lt hj, butF_take hj]
  by_cases e : args[j] = but
  · rw [if_pos e]; exact Or.inl ⟨e, rfl⟩
  · rw [if_neg e, prodI_snoc]; exact Or.inr ⟨e, rfl⟩

theorem others_fn (but : Int) (hl : g.2.2.2.2.length ≤ 4611686018427387903) (hp : placesOK vals g.2.2.2.2) (hs : prodI (butF vals g.2.2.2.2 but) ≤ 4611686018427387903) :
    Fw.Fn Try.prog 62 [runP cards gates input vals, gA g, .val (.int .i64 but)] [] (.val (.int .i64 (prodI (butF vals g.2.2.2.2 but)))) [] := by
  refine fn_go env_ok mixed Try.func62 (c := Try.f62.body.get rfl) rfl (by kernel_rfl) [] rfl ?_
  repeat' first | apply And.intro | (intro h; (cases h; done)) | intro _ | exact True.intro | (show Region.lexB _ _ = true; kernel_rfl)
  refine ⟨loopI (fun j : Nat => { n := 54, t := [(0, runP cards gates input vals), (2, .val (.int .i64 but)), (4, .ptr 0 0), (13, .dat .old (.i .i64) g.2.2.2.2), (14, .val (.int .i64 (↑(List.length g.2.2.2.2)))), (15, .val (.int .i64 j))], h := [(0, some (.cells [.val (.int .i64 g.1), .val (.int .i64 g.2.1), .val (.int .i64 g.2.2.1), .val (.int .i64 g.2.2.2.1), .dat .old (.i .i64) g.2.2.2.2]))], nx := 1 })
      (fun j => g.2.2.2.2.length - j) (fun j => Ok (j ≤ g.2.2.2.2.length ∧ ∀ m, m < j → g.2.2.2.2.getD m 0 ≠ but → 1 ≤ vals.getD (g.2.2.2.2.getD m 0).toNat 0)),
    loopI.start 0 [] [0, 2, 4, 13, 14, 15] [(4, [])] .fr (by (repeat' first | apply And.intro | rfl); exact ⟨Nat.zero_le _, fun m hm => absurd hm (Nat.not_lt_zero m)⟩), ?_⟩
  rintro _ _ ⟨j, rfl, rfl, ⟨hj, ha⟩⟩
  have hx : ∀ h : (j : Int) < g.2.2.2.2.length, 0 ≤ g.2.2.2.2.getD j 0 ∧ g.2.2.2.2.getD j 0 < vals.length ∧ 0 ≤ vals.getD (g.2.2.2.2.getD j 0).toNat 0 ∧ vals.getD (g.2.2.2.2.getD j 0).toNat 0 ≤ 4611686018427387903 := fun h => hp _ (getD_mem (by omega))
  repeat' first | apply And.intro | (intro h; (cases h; done)) | intro _ | exact True.intro | (show Region.lexB _ _ = true; kernel_rfl) | refine loopI.next (j + 1) [] [0, 2, 4, 13, 14, 15] [(4, [])] .fr ?_
  all_goals (try simp only [decT, decF, beq_iff_eq, bne_iff_ne, ne_eq, beq_eq_false_iff_ne, bne_eq_false_iff_eq, Decidable.not_not, Int.toNat_natCast, Bool.not_eq_true', Bool.not_eq_false', Bool.not_eq_true, Bool.not_eq_false, Int.not_lt, Int.not_le] at *; try dsimp only [D, IK, dz] at *)
  all_goals try omega
  all_goals try rfl
  all_goals by_cases h0 : (j : Int) < g.2.2.2.2.length
  all_goals try simp only [h0, true_implies, false_implies] at hx
  all_goals try omega
  · rename_i h1 h2 h3
    refine (prodI_zero ?_).symm
    have h4 := butF_of_mem (vals := vals) (getD_mem (l := g.2.2.2.2) (v := j) (d := 0) (by omega)) h2
    rw [h3] at h4
    exact h4
  · exact ⟨by omega, all_step ha fun _ => by omega⟩
  · rename_i h1 h2
    exact ⟨by omega, all_step ha fun h => absurd h2 h⟩
  have hge : ∀ a ∈ g.2.2.2.2, a ≠ but → 1 ≤ vals.getD a.toNat 0 := fun a h1 h2 => by
    obtain ⟨m, hm, rfl⟩ := List.getElem_of_mem h1
    have := ha m (by omega)
    rw [getD_lt hm] at this
    exact this h2
  refine ⟨loopI (fun j : Nat => { n := 54, t := [(0, runP cards gates input vals), (2, .val (.int .i64 but)), (9, .val (.int .i64 (prodI (butF vals (g.2.2.2.2.take j) but)))), (34, .dat .old (.i .i64) g.2.2.2.2), (35, .val (.int .i64 (↑(List.length g.2.2.2.2)))), (36, .val (.int .i64 j))], h := [], nx := 0 })
      (fun j => g.2.2.2.2.length - j) (fun j => Ok (j ≤ g.2.2.2.2.length)),
    loopI.start 0 [] [0, 2, 9, 34, 35, 36] [] .fr (by (repeat' first | apply And.intro | rfl); exact ⟨Nat.zero_le _⟩), ?_⟩
  clear ha hj
  rintro _ _ ⟨j, rfl, rfl, ⟨hj⟩⟩
  have hb := butF_pre hge j
  have hb2 := butF_pre hge (j + 1)
  have hx := others_step hp but j
  repeat' first | apply And.intro | (intro h; (cases h; done)) | intro _ | exact True.intro | (show Region.lexB _ _ = true; kernel_rfl) | refine loopI.next (j + 1) [] [0, 2, 9, 34, 35, 36] [] .fr ?_ | refine CallK.fn [] (times_fn _ _ ?_ ?_ ?_ ?_ ?_) rfl rfl rfl rfl rfl trivial ?_
  all_goals (try simp only [decT, decF, beq_iff_eq, bne_iff_ne, ne_eq, beq_eq_false_iff_ne, bne_eq_false_iff_eq, Decidable.not_not, Int.toNat_natCast, Bool.not_eq_true', Bool.not_eq_false', Bool.not_eq_true, Bool.not_eq_false, Int.not_lt, Int.not_le] at *; try dsimp only [D, IK, dz] at *)
  all_goals try omega
  all_goals try rfl
  all_goals by_cases h0 : (j : Int) < g.2.2.2.2.length
  all_goals try simp only [h0, true_implies, false_implies] at hx
  all_goals try omega
  · exact ⟨by omega⟩
  · exact ⟨by omega⟩
  · have : j = g.2.2.2.2.length := by omega
    rw [this, List.take_length]

theorem others_pn (but : Int) (hl : g.2.2.2.2.length ≤ 4611686018427387903) (hp : placesOK vals g.2.2.2.2) (hs : 4611686018427387903 < prodI (butF vals g.2.2.2.2 but)) :
    Fw.FnP Try.prog 62 [runP cards gates input vals, gA g, .val (.int .i64 but)] [] (.ifc 107 (.agg [])) [] := by
  have hge : ∀ a ∈ g.2.2.2.2, a ≠ but → 1 ≤ vals.getD a.toNat 0 := fun a h1 h2 => by
    rcases Int.lt_or_le (vals.getD a.toNat 0) 1 with h | h
    · have := butF_of_mem (vals := vals) h1 h2
      rw [show vals.getD a.toNat 0 = 0 by have := hp a h1; omega] at this
      rw [prodI_zero this] at hs
      omega
    · exact h
  refine fnP_go env_ok mixed Try.func62 (c := Try.f62.body.get rfl) rfl (by kernel_rfl) [] rfl ?_
  repeat' first | apply And.intro | (intro h; (cases h; done)) | intro _ | exact True.intro | (show Region.lexB _ _ = true; kernel_rfl)
  refine ⟨loopI (fun j : Nat => { n := 54, t := [(0, runP cards gates input vals), (2, .val (.int .i64 but)), (4, .ptr 0 0), (13, .dat .old (.i .i64) g.2.2.2.2), (14, .val (.int .i64 (↑(List.length g.2.2.2.2)))), (15, .val (.int .i64 j))], h := [(0, some (.cells [.val (.int .i64 g.1), .val (.int .i64 g.2.1), .val (.int .i64 g.2.2.1), .val (.int .i64 g.2.2.2.1), .dat .old (.i .i64) g.2.2.2.2]))], nx := 1 })
      (fun j => g.2.2.2.2.length - j) (fun j => Ok (j ≤ g.2.2.2.2.length)),
    loopI.start 0 [] [0, 2, 4, 13, 14, 15] [(4, [])] .fr (by (repeat' first | apply And.intro | rfl); exact ⟨Nat.zero_le _⟩), ?_⟩
  rintro _ _ ⟨j, rfl, rfl, ⟨hj⟩⟩
  have hx : ∀ h : (j : Int) < g.2.2.2.2.length, (0 ≤ g.2.2.2.2.getD j 0 ∧ g.2.2.2.2.getD j 0 < vals.length) ∧ (g.2.2.2.2.getD j 0 = but ∨ 1 ≤ vals.getD (g.2.2.2.2.getD j 0).toNat 0) := fun h => by
    have h1 := getD_mem (l := g.2.2.2.2) (v := j) (d := 0) (by omega)
    have h2 := hp _ h1
    have h3 := hge _ h1
    by_cases e : g.2.2.2.2.getD j 0 = but
    · exact ⟨⟨h2.1, h2.2.1⟩, Or.inl e⟩
    · exact ⟨⟨h2.1, h2.2.1⟩, Or.inr (h3 e)⟩
  repeat' first | apply And.intro | (intro h; (cases h; done)) | intro _ | exact True.intro | (show Region.lexB _ _ = true; kernel_rfl) | refine loopI.next (j + 1) [] [0, 2, 4, 13, 14, 15] [(4, [])] .fr ?_
  all_goals (try simp only [decT, decF, beq_iff_eq, bne_iff_ne, ne_eq, beq_eq_false_iff_ne, bne_eq_false_iff_eq, Decidable.not_not, Int.toNat_natCast, Bool.not_eq_true', Bool.not_eq_false', Bool.not_eq_true, Bool.not_eq_false, Int.not_lt, Int.not_le] at *; try dsimp only [D, IK, dz] at *)
  all_goals try omega
  all_goals try rfl
  all_goals by_cases h0 : (j : Int) < g.2.2.2.2.length
  all_goals try simp only [h0, true_implies, false_implies] at hx
  all_goals try omega
  · exact ⟨by omega⟩
  · exact ⟨by omega⟩
  clear hx h0 hj
  refine ⟨loopI (fun j : Nat => { n := 54, t := [(0, runP cards gates input vals), (2, .val (.int .i64 but)), (9, .val (.int .i64 (prodI (butF vals (g.2.2.2.2.take j) but)))), (34, .dat .old (.i .i64) g.2.2.2.2), (35, .val (.int .i64 (↑(List.length g.2.2.2.2)))), (36, .val (.int .i64 j))], h := [], nx := 0 })
      (fun j => g.2.2.2.2.length - j) (fun j => Ok (j ≤ g.2.2.2.2.length ∧ prodI (butF vals (g.2.2.2.2.take j) but) ≤ 4611686018427387903)),
    loopI.start 0 [] [0, 2, 9, 34, 35, 36] [] .fr (by (repeat' first | apply And.intro | rfl); exact ⟨Nat.zero_le _, by rw [List.take_zero]; exact (by decide : prodI [] ≤ 4611686018427387903)⟩), ?_⟩
  rintro _ _ ⟨j, rfl, rfl, ⟨hj, hm⟩⟩
  have hb := butF_pre hge j
  have hx := others_step hp but j
  by_cases hc : prodI (butF vals (g.2.2.2.2.take (j + 1)) but) ≤ 4611686018427387903
  · repeat' first | apply And.intro | (intro h; (cases h; done)) | intro _ | exact True.intro | (show Region.lexB _ _ = true; kernel_rfl) | refine loopI.next (j + 1) [] [0, 2, 9, 34, 35, 36] [] .fr ?_ | refine CallK.fn [] (times_fn _ _ ?_ ?_ ?_ ?_ ?_) rfl rfl rfl rfl rfl trivial ?_
    all_goals (try simp only [decT, decF, beq_iff_eq, bne_iff_ne, ne_eq, beq_eq_false_iff_ne, bne_eq_false_iff_eq, Decidable.not_not, Int.toNat_natCast, Bool.not_eq_true', Bool.not_eq_false', Bool.not_eq_true, Bool.not_eq_false, Int.not_lt, Int.not_le] at *; try dsimp only [D, IK, dz] at *)
    all_goals try omega
    all_goals try rfl
    all_goals by_cases h0 : (j : Int) < g.2.2.2.2.length
    all_goals try simp only [h0, true_implies, false_implies] at hx
    all_goals try omega
    · exact ⟨by omega, by omega⟩
    · exact ⟨by omega, by omega⟩
    · have : j = g.2.2.2.2.length := by omega
      rw [this, List.take_length] at hm
      omega
  · repeat' first | apply And.intro | (intro h; (cases h; done)) | intro _ | exact True.intro | (show Region.lexB _ _ = true; kernel_rfl) | refine loopI.next (j + 1) [] [0, 2, 9, 34, 35, 36] [] .fr ?_ | refine CallK.pn [] (times_pn _ _ ?_ ?_ ?_ ?_ ?_) rfl rfl rfl rfl rfl trivial ?_
    all_goals (try simp only [decT, decF, beq_iff_eq, bne_iff_ne, ne_eq, beq_eq_false_iff_ne, bne_eq_false_iff_eq, Decidable.not_not, Int.toNat_natCast, Bool.not_eq_true', Bool.not_eq_false', Bool.not_eq_true, Bool.not_eq_false, Int.not_lt, Int.not_le] at *; try dsimp only [D, IK, dz] at *)
    all_goals try omega
    all_goals try rfl
    all_goals by_cases h0 : (j : Int) < g.2.2.2.2.length
    all_goals try simp only [h0, true_implies, false_implies] at hx
    all_goals try omega
    · have : j = g.2.2.2.2.length := by omega
      rw [this, List.take_length] at hm
      omega
theorem product_fn (hl : g.2.2.2.2.length ≤ 4611686018427387903) (hp : placesOK vals g.2.2.2.2) (hs : prodI (atF vals g.2.2.2.2) ≤ 4611686018427387903) :
    Fw.Fn Try.prog 70 [runP cards gates input vals, gA g] [] (.val (.int .i64 (prodI (atF vals g.2.2.2.2)))) [] := by
  have e : butF vals g.2.2.2.2 (-1) = atF vals g.2.2.2.2 := butF_none fun h => by have := hp _ h; omega
  rw [← e] at hs ⊢
  refine fn_go env_ok mixed Try.func70 (c := Try.f70.body.get rfl) rfl (by kernel_rfl) [] rfl ?_
  repeat' first | apply And.intro | (intro h; (cases h; done)) | intro _ | exact True.intro | (show Region.lexB _ _ = true; kernel_rfl) | refine CallK.fn [] (others_fn cards gates input vals g (-1) hl hp hs) rfl rfl rfl rfl rfl trivial ?_
  all_goals rfl
theorem product_pn (hl : g.2.2.2.2.length ≤ 4611686018427387903) (hp : placesOK vals g.2.2.2.2) (hs : 4611686018427387903 < prodI (atF vals g.2.2.2.2)) :
    Fw.FnP Try.prog 70 [runP cards gates input vals, gA g] [] (.ifc 107 (.agg [])) [] := by
  have e : butF vals g.2.2.2.2 (-1) = atF vals g.2.2.2.2 := butF_none fun h => by have := hp _ h; omega
  rw [← e] at hs
  refine fnP_go env_ok mixed Try.func70 (c := Try.f70.body.get rfl) rfl (by kernel_rfl) [] rfl ?_
  repeat' first | apply And.intro | (intro h; (cases h; done)) | intro _ | exact True.intro | (show Region.lexB _ _ = true; kernel_rfl) | refine CallK.pn [] (others_pn cards gates input vals g (-1) hl hp hs) rfl rfl rfl rfl rfl trivial ?_
  all_goals rfl
end
end Go.Proofs.Ytbgnnpbcifgckaa
namespace Go.Proofs.Ytbgnnpbcifgckaa
open Go Go.Fw Go.RowKit
set_option maxRecDepth 100000
set_option maxHeartbeats 4000000

/-- The value of a gate, those of the ones before it given. -/
def valO (input out : List Int) (g : Gate) : Option Int :=
  if g.1 = 1 then some g.2.2.2.1
  else if g.1 = 2 then some (if input.getD g.2.1.toNat 0 = -1 ∨ input.getD g.2.1.toNat 0 = g.2.2.1 then 1 else 0)
  else if g.1 = 3 then (if sumI (atF out g.2.2.2.2) ≤ 4611686018427387903 then some (sumI (atF out g.2.2.2.2)) else none)
  else if prodI (atF out g.2.2.2.2) ≤ 4611686018427387903 then some (prodI (atF out g.2.2.2.2)) else none
/-- The values of all gates. -/
def valsO (input : List Int) : List Gate → List Int → Option (List Int)
  | [], out => some out
  | g :: gs, out => match valO input out g with
    | none => none
    | some v => valsO input gs (out ++ [v])

/-- What is known of a valid gate. -/
theorem gate_ok {cards : List Int} {i : Int} {g : Gate} (h : gOK cards i g = true) :
    (g.1 = 1 ∧ 0 ≤ g.2.2.2.1 ∧ g.2.2.2.1 ≤ 4611686018427387903 ∧ g.2.2.2.2 = []) ∨ (g.1 = 2 ∧ 0 ≤ g.2.1 ∧ g.2.1 < cards.length ∧ 0 ≤ g.2.2.1 ∧ g.2.2.1 < cards.getD g.2.1.toNat 0 ∧ g.2.2.2.2 = []) ∨
      ((g.1 = 3 ∨ g.1 = 4) ∧ g.2.2.2.2 ≠ [] ∧ argsB i g.2.2.2.2 = true) := by
  obtain ⟨k, v, x, n, args⟩ := g
  simp only [gOK, gateB] at h
  split at h
  · simp only [Bool.and_eq_true, decide_eq_true_eq] at h
    exact Or.inl ⟨by assumption, h.1.1.1.1, h.1.1.1.2, List.eq_nil_of_length_eq_zero h.2⟩
  · split at h
    · simp only [Bool.and_eq_true, decide_eq_true_eq] at h
      exact Or.inr (Or.inl ⟨by assumption, h.1.1.1.1.1, h.1.1.1.1.2, h.1.1.1.2, h.1.1.2, List.eq_nil_of_length_eq_zero h.2⟩)
    · split at h
      · simp only [Bool.and_eq_true, decide_eq_true_eq] at h
        exact Or.inr (Or.inr ⟨by assumption, List.ne_nil_of_length_pos (Nat.pos_of_ne_zero h.1.1.1.1), h.2⟩)
      · cases h
theorem args_mem {i : Int} {args : List Int} (h : argsB i args = true) : ∀ a ∈ args, 0 ≤ a ∧ a < i := by
  intro a ha
  obtain ⟨m, hm, rfl⟩ := List.getElem_of_mem ha
  have := List.all_eq_true.1 h m (List.mem_range.2 hm)
  simp only [okAt, Bool.and_eq_true, decide_eq_true_eq, getD_lt hm] at this
  exact this.1
/-- A list of numbers. -/
def numsOK (l : List Int) : Prop := ∀ x ∈ l, 0 ≤ x ∧ x ≤ 4611686018427387903
theorem numsOK_places {vals args : List Int} {i : Int} (h : numsOK vals) (ha : argsB i args = true) (hi : i = vals.length) : placesOK vals args := by
  intro a hm
  obtain ⟨h1, h2⟩ := args_mem ha a hm
  have h3 := h _ (getD_mem (l := vals) (v := a.toNat) (d := 0) (by omega))
  exact ⟨h1, by omega, h3⟩
theorem valO_ok {input out : List Int} {g : Gate} {cards : List Int} {v : Int} (ho : numsOK out) (hg : gOK cards out.length g = true) (h : valO input out g = some v) : 0 ≤ v ∧ v ≤ 4611686018427387903 := by
  unfold valO at h
  rcases gate_ok hg with ⟨h1, h2, h3, _⟩ | ⟨h1, _⟩ | ⟨h1, _, h2⟩
  · rw [if_pos h1] at h; cases h; exact ⟨h2, h3⟩
  · have h0 : ¬ g.1 = 1 := by omega
    rw [if_neg h0, if_pos h1] at h
    simp only [Option.some.injEq] at h
    subst h
    split <;> omega
  · have hp := atF_nn (numsOK_places ho h2 rfl)
    have h3 : ¬ g.1 = 1 := by omega
    have h4 : ¬ g.1 = 2 := by omega
    rw [if_neg h3, if_neg h4] at h
    split at h
    · split at h
      · cases h; exact ⟨sumI_nonneg hp, by assumption⟩
      · cases h
    · split at h
      · cases h; exact ⟨prodI_nonneg hp, by assumption⟩
      · cases h
theorem valO_num {input out : List Int} {g : Gate} {v : Int} (h : valO input out g = some v) (hk : g.1 = 1) : v = g.2.2.2.1 := by
  unfold valO at h; rw [if_pos hk] at h; cases h; rfl
theorem valO_is {input out : List Int} {g : Gate} {v : Int} (h : valO input out g = some v) (hk : g.1 = 2) : v = if input.getD g.2.1.toNat 0 = -1 ∨ input.getD g.2.1.toNat 0 = g.2.2.1 then 1 else 0 := by
  have h1 : ¬ g.1 = 1 := by omega
  unfold valO at h; rw [if_neg h1, if_pos hk] at h; cases h; rfl
theorem valO_sum {input out : List Int} {g : Gate} {v : Int} (h : valO input out g = some v) (hk : g.1 = 3) : sumI (atF out g.2.2.2.2) ≤ 4611686018427387903 ∧ v = sumI (atF out g.2.2.2.2) := by
  have h1 : ¬ g.1 = 1 := by omega
  have h2 : ¬ g.1 = 2 := by omega
  unfold valO at h; rw [if_neg h1, if_neg h2, if_pos hk] at h
  split at h
  · cases h; exact ⟨by assumption, rfl⟩
  · cases h
theorem valO_prod {input out : List Int} {g : Gate} {v : Int} (h : valO input out g = some v) (hk : g.1 = 4) : prodI (atF out g.2.2.2.2) ≤ 4611686018427387903 ∧ v = prodI (atF out g.2.2.2.2) := by
  have h1 : ¬ g.1 = 1 := by omega
  have h2 : ¬ g.1 = 2 := by omega
  have h3 : ¬ g.1 = 3 := by omega
  unfold valO at h; rw [if_neg h1, if_neg h2, if_neg h3] at h
  split at h
  · cases h; exact ⟨by assumption, rfl⟩
  · cases h
theorem input_at {cards input : List Int} (h : inputB cards input = true) {v : Int} (h0 : 0 ≤ v) (h1 : v < cards.length) : v < input.length ∧ -1 ≤ input.getD v.toNat 0 := by
  simp only [inputB, Bool.and_eq_true, decide_eq_true_eq, List.all_eq_true, List.mem_range] at h
  have := h.2 v.toNat (by omega)
  omega
theorem numsOK_snoc {l : List Int} {v : Int} (h : numsOK l) (hv : 0 ≤ v ∧ v ≤ 4611686018427387903) : numsOK (l ++ [v]) := by
  intro x hx
  rcases List.mem_append.1 hx with hx | hx
  · exact h x hx
  · simp at hx; rw [hx]; exact hv
theorem drop_getD {gates : List Gate} {j : Nat} (h : j < gates.length) : gates.drop j = gates.getD j gz :: gates.drop (j + 1) := by
  rw [getD_lt h, List.drop_eq_getElem_cons h]

abbrev run0 (cards : List Int) (gates : List Gate) (input : List Int) (x : AV) : Blk := .cells [.dat .old (.i .i64) cards, .dat .old gT gates, .dat .old (.i .i64) input, x]
theorem evaluate_fn (cards : List Int) (gates : List Gate) (input : List Int) (vs : List Int) (hl : gates.length ≤ 4000) (hg : ∀ j, j < gates.length → gOK cards j (gates.getD j gz) = true) (hi : inputB cards input = true) (hargs : ∀ g ∈ gates, g.2.2.2.2.length ≤ 4611686018427387903)
    (hv : valsO input gates [] = some vs) : Fw.Fn Try.prog 61 [.ptr 0 0] [run0 cards gates input (.nil (.i .i64))] (.tup []) [(0, some (run0 cards gates input (.own 1))), (1, some (.arr .old (.i .i64) vs))] := by
  refine fn_go env_ok mixed Try.func61 (c := Try.f61.body.get rfl) rfl (by kernel_rfl) [(0, [3])] rfl ?_
  repeat' first | apply And.intro | (intro h; (cases h; done)) | intro _ | exact True.intro | (show Region.lexB _ _ = true; kernel_rfl)
  refine ⟨loopI (fun x : Nat × List Int => { n := 40, t := [(0, .ptr 0 0), (2, .ptr 1 0), (18, .dat .old gT gates), (19, .val (.int .i64 (↑(List.length gates)))), (20, .val (.int .i64 x.1))], h := [(0, some (run0 cards gates input (.own 2))), (1, some (.cells [.val Value.nilFunc, .clo (Fn.func 67) [.ptr 0 0] [], .clo (Fn.func 68) [.ptr 0 0] [], .clo (Fn.func 69) [.ptr 0 0] [], .clo (Fn.func 70) [.ptr 0 0] []])), (2, some (.arr .old (.i .i64) x.2))], nx := 3, m := 1 })
      (fun x => gates.length - x.1) (fun x => Ok (x.1 ≤ gates.length ∧ x.2.length = x.1 ∧ numsOK x.2 ∧ valsO input (gates.drop x.1) x.2 = some vs)),
    loopI.start (0, []) [4000] [0, 2, 18, 19, 20] [(2, []), (0, [3])] .old (by (repeat' first | apply And.intro | rfl); exact ⟨Nat.zero_le _, rfl, fun x hx => (by cases hx), hv⟩), ?_⟩
  rintro _ _ ⟨⟨j, out⟩, rfl, rfl, ⟨hj, hlen, hn, hvs⟩⟩
  dsimp only at *
  have hin : ∀ h : j < gates.length, ∃ v, valO input out (gates.getD j gz) = some v ∧ valsO input (gates.drop (j + 1)) (out ++ [v]) = some vs := fun h => by
    rw [drop_getD h] at hvs
    simp only [valsO] at hvs
    split at hvs
    · cases hvs
    · exact ⟨_, by assumption, hvs⟩
  by_cases hlt : j < gates.length
  · obtain ⟨v, hv1, hv2⟩ := hin hlt
    clear hin hvs hv
    have hgj := hg j hlt
    have hga := hargs _ (getD_mem (d := gz) hlt)
    have hok := gate_ok hgj
    have hgj : gOK cards out.length (gates.getD j gz) = true := by rw [hlen]; exact hgj
    have hvok := valO_ok hn hgj hv1
    have hpl : (gates.getD j gz).1 = 3 ∨ (gates.getD j gz).1 = 4 → placesOK out (gates.getD j gz).2.2.2.2 := fun h => by
      rcases hok with ⟨h1, _⟩ | ⟨h1, _⟩ | ⟨_, _, h2⟩
      · omega
      · omega
      · exact numsOK_places hn h2 (by omega)
    have hin2 := fun h0 h1 => input_at hi (v := (gates.getD j gz).2.1) h0 h1
    repeat' first | apply And.intro | (intro h; (cases h; done)) | intro _ | exact True.intro | (show Region.lexB _ _ = true; kernel_rfl) | refine loopI.next (j + 1, out ++ [v]) [] [0, 2, 18, 19, 20] [(2, []), (0, [3])] .old ?_ | refine CallK.fn [] (number_fn cards gates input out (gates.getD j gz)) rfl rfl rfl rfl rfl trivial ?_ | refine CallK.fn [] (is_fn cards gates input out (gates.getD j gz) ?_ ?_) rfl rfl rfl rfl rfl trivial ?_ | refine CallK.fn [] (sum_fn cards gates input out (gates.getD j gz) hga (hpl ?_) (valO_sum hv1 ?_).1) rfl rfl rfl rfl rfl trivial ?_ | refine CallK.fn [] (product_fn cards gates input out (gates.getD j gz) hga (hpl ?_) (valO_prod hv1 ?_).1) rfl rfl rfl rfl rfl trivial ?_
    all_goals (try simp only [decT, decF, beq_iff_eq, bne_iff_ne, ne_eq, beq_eq_false_iff_ne, bne_eq_false_iff_eq, Decidable.not_not, Int.toNat_natCast, Bool.not_eq_true', Bool.not_eq_false', Bool.not_eq_true, Bool.not_eq_false, Int.not_lt, Int.not_le] at *; try dsimp only [D, IK, dz] at *)
    all_goals try simp only [List.length_cons, List.length_nil]
    all_goals try dsimp only [gz] at *
    all_goals first | rfl | omega | (show (gates.getD j gz).1 < (5 : Int); omega) | skip
    all_goals try exact ⟨by omega, by rw [List.length_append, hlen]; rfl, numsOK_snoc hn hvok, hv2⟩
    · show _ < (5 : Int); omega
    · rw [valO_num hv1 (by omega)]
    · rw [valO_is hv1 (by omega)]
      have hin3 := hin2 (by omega) (by omega)
      congr 2
      split
      · rw [if_pos (by omega)]
      · rw [if_neg (by omega)]
    · rw [(valO_sum hv1 (by omega)).2]
    · rw [(valO_prod hv1 (by omega)).2]
  · have : j = gates.length := by omega
    subst this
    rw [List.drop_length] at hvs
    cases hvs
    repeat' first | apply And.intro | (intro h; (cases h; done)) | intro _ | exact True.intro | (show Region.lexB _ _ = true; kernel_rfl)
    all_goals (try simp only [decT, decF, beq_iff_eq, bne_iff_ne, ne_eq, beq_eq_false_iff_ne, bne_eq_false_iff_eq, Decidable.not_not, Int.toNat_natCast, Bool.not_eq_true', Bool.not_eq_false', Bool.not_eq_true, Bool.not_eq_false, Int.not_lt, Int.not_le] at *; try dsimp only [D, IK, dz] at *)
    all_goals first | rfl | omega | skip
/-- The values that there are, up to the first one that is too great. -/
def valsP (input : List Int) : List Gate → List Int → List Int
  | [], out => out
  | g :: gs, out => match valO input out g with
    | none => out
    | some v => valsP input gs (out ++ [v])
theorem valO_none {input out : List Int} {g : Gate} (h : valO input out g = none) : (g.1 ≠ 1 ∧ g.1 ≠ 2) ∧ (g.1 = 3 → 4611686018427387903 < sumI (atF out g.2.2.2.2)) ∧ (g.1 = 4 → 4611686018427387903 < prodI (atF out g.2.2.2.2)) := by
  unfold valO at h
  split at h
  · cases h
  · split at h
    · cases h
    · refine ⟨⟨by assumption, by assumption⟩, fun h3 => ?_, fun h4 => ?_⟩
      · rw [if_pos h3] at h
        split at h
        · cases h
        · omega
      · have h3 : ¬ g.1 = 3 := by omega
        rw [if_neg h3] at h
        split at h
        · cases h
        · omega
theorem evaluate_pn (cards : List Int) (gates : List Gate) (input : List Int) (hl : gates.length ≤ 4000) (hg : ∀ j, j < gates.length → gOK cards j (gates.getD j gz) = true) (hi : inputB cards input = true) (hargs : ∀ g ∈ gates, g.2.2.2.2.length ≤ 4611686018427387903)
    (hv : valsO input gates [] = none) : Fw.FnP Try.prog 61 [.ptr 0 0] [run0 cards gates input (.nil (.i .i64))] (.ifc 107 (.agg [])) [(0, some (run0 cards gates input (.own 1))), (1, some (.arr .old (.i .i64) (valsP input gates [])))] := by
  refine fnP_go env_ok mixed Try.func61 (c := Try.f61.body.get rfl) rfl (by kernel_rfl) [(0, [3])] rfl ?_
  repeat' first | apply And.intro | (intro h; (cases h; done)) | intro _ | exact True.intro | (show Region.lexB _ _ = true; kernel_rfl)
  refine ⟨loopI (fun x : Nat × List Int => { n := 40, t := [(0, .ptr 0 0), (2, .ptr 1 0), (18, .dat .old gT gates), (19, .val (.int .i64 (↑(List.length gates)))), (20, .val (.int .i64 x.1))], h := [(0, some (run0 cards gates input (.own 2))), (1, some (.cells [.val Value.nilFunc, .clo (Fn.func 67) [.ptr 0 0] [], .clo (Fn.func 68) [.ptr 0 0] [], .clo (Fn.func 69) [.ptr 0 0] [], .clo (Fn.func 70) [.ptr 0 0] []])), (2, some (.arr .old (.i .i64) x.2))], nx := 3, m := 1 })
      (fun x => gates.length - x.1) (fun x => Ok (x.1 ≤ gates.length ∧ x.2.length = x.1 ∧ numsOK x.2 ∧ valsO input (gates.drop x.1) x.2 = none ∧ valsP input (gates.drop x.1) x.2 = valsP input gates [])),
    loopI.start (0, []) [4000] [0, 2, 18, 19, 20] [(2, []), (0, [3])] .old (by (repeat' first | apply And.intro | rfl); exact ⟨Nat.zero_le _, rfl, fun x hx => (by cases hx), hv, rfl⟩), ?_⟩
  rintro _ _ ⟨⟨j, out⟩, rfl, rfl, ⟨hj, hlen, hn, hvs, hvp⟩⟩
  dsimp only at *
  have hin : ∀ h : j < gates.length, (valO input out (gates.getD j gz) = none ∧ valsP input gates [] = out) ∨ ∃ v, valO input out (gates.getD j gz) = some v ∧ valsO input (gates.drop (j + 1)) (out ++ [v]) = none ∧ valsP input (gates.drop (j + 1)) (out ++ [v]) = valsP input gates [] := fun h => by
    rw [drop_getD h] at hvs hvp
    cases hc : valO input out (gates.getD j gz) with
    | none => simp only [valsO, valsP, hc] at hvs hvp; exact Or.inl ⟨rfl, hvp.symm⟩
    | some v => simp only [valsO, valsP, hc] at hvs hvp; exact Or.inr ⟨v, rfl, hvs, hvp⟩
  by_cases hlt : j < gates.length
  · rcases hin hlt with ⟨hv1, hv2⟩ | ⟨v, hv1, hv2, hv3⟩
    · rw [hv2]
      clear hin hvs hv hvp
      have hgj := hg j hlt
      have hga := hargs _ (getD_mem (d := gz) hlt)
      have hok := gate_ok hgj
      have hpl : (gates.getD j gz).1 = 3 ∨ (gates.getD j gz).1 = 4 → placesOK out (gates.getD j gz).2.2.2.2 := fun h => by
        rcases hok with ⟨h1, _⟩ | ⟨h1, _⟩ | ⟨_, _, h2⟩
        · omega
        · omega
        · exact numsOK_places hn h2 (by omega)
      have hnone := valO_none hv1
      repeat' first | apply And.intro | (intro h; (cases h; done)) | intro _ | exact True.intro | (show Region.lexB _ _ = true; kernel_rfl) | refine CallK.pn [] (sum_pn cards gates input out (gates.getD j gz) hga (hpl ?_) (hnone.2.1 ?_)) rfl rfl rfl rfl rfl trivial ?_ | refine CallK.pn [] (product_pn cards gates input out (gates.getD j gz) hga (hpl ?_) (hnone.2.2 ?_)) rfl rfl rfl rfl rfl trivial ?_
      all_goals (try simp only [decT, decF, beq_iff_eq, bne_iff_ne, ne_eq, beq_eq_false_iff_ne, bne_eq_false_iff_eq, Decidable.not_not, Int.toNat_natCast, Bool.not_eq_true', Bool.not_eq_false', Bool.not_eq_true, Bool.not_eq_false, Int.not_lt, Int.not_le] at *; try dsimp only [D, IK, dz] at *)
      all_goals try dsimp only [gz] at *
      all_goals first | rfl | omega | skip
      show _ < (5 : Int); omega
    clear hin hvs hv hvp
    have hgj := hg j hlt
    have hga := hargs _ (getD_mem (d := gz) hlt)
    have hok := gate_ok hgj
    have hgj : gOK cards out.length (gates.getD j gz) = true := by rw [hlen]; exact hgj
    have hvok := valO_ok hn hgj hv1
    have hpl : (gates.getD j gz).1 = 3 ∨ (gates.getD j gz).1 = 4 → placesOK out (gates.getD j gz).2.2.2.2 := fun h => by
      rcases hok with ⟨h1, _⟩ | ⟨h1, _⟩ | ⟨_, _, h2⟩
      · omega
      · omega
      · exact numsOK_places hn h2 (by omega)
    have hin2 := fun h0 h1 => input_at hi (v := (gates.getD j gz).2.1) h0 h1
    repeat' first | apply And.intro | (intro h; (cases h; done)) | intro _ | exact True.intro | (show Region.lexB _ _ = true; kernel_rfl) | refine loopI.next (j + 1, out ++ [v]) [] [0, 2, 18, 19, 20] [(2, []), (0, [3])] .old ?_ | refine CallK.fn [] (number_fn cards gates input out (gates.getD j gz)) rfl rfl rfl rfl rfl trivial ?_ | refine CallK.fn [] (is_fn cards gates input out (gates.getD j gz) ?_ ?_) rfl rfl rfl rfl rfl trivial ?_ | refine CallK.fn [] (sum_fn cards gates input out (gates.getD j gz) hga (hpl ?_) (valO_sum hv1 ?_).1) rfl rfl rfl rfl rfl trivial ?_ | refine CallK.fn [] (product_fn cards gates input out (gates.getD j gz) hga (hpl ?_) (valO_prod hv1 ?_).1) rfl rfl rfl rfl rfl trivial ?_
    all_goals (try simp only [decT, decF, beq_iff_eq, bne_iff_ne, ne_eq, beq_eq_false_iff_ne, bne_eq_false_iff_eq, Decidable.not_not, Int.toNat_natCast, Bool.not_eq_true', Bool.not_eq_false', Bool.not_eq_true, Bool.not_eq_false, Int.not_lt, Int.not_le] at *; try dsimp only [D, IK, dz] at *)
    all_goals try simp only [List.length_cons, List.length_nil]
    all_goals try dsimp only [gz] at *
    all_goals first | rfl | omega | (show (gates.getD j gz).1 < (5 : Int); omega) | skip
    all_goals try exact ⟨by omega, by rw [List.length_append, hlen]; rfl, numsOK_snoc hn hvok, hv2, hv3⟩
    · show _ < (5 : Int); omega
    · rw [valO_num hv1 (by omega)]
    · rw [valO_is hv1 (by omega)]
      have hin3 := hin2 (by omega) (by omega)
      congr 2
      split
      · rw [if_pos (by omega)]
      · rw [if_neg (by omega)]
    · rw [(valO_sum hv1 (by omega)).2]
    · rw [(valO_prod hv1 (by omega)).2]
  · have : j = gates.length := by omega
    subst this
    rw [List.drop_length] at hvs
    cases hvs
end Go.Proofs.Ytbgnnpbcifgckaa
namespace Go.Proofs.Ytbgnnpbcifgckaa
open Go Go.Fw Go.RowKit
set_option maxRecDepth 100000
set_option maxHeartbeats 4000000
section
variable (cards : List Int) (gates : List Gate) (input : List Int)
theorem right_all {cards : List Int} {gates : List Gate} (h : rightB cards gates = true) : gates.length ≤ 4000 ∧ ∀ j, j < gates.length → gOK cards j (gates.getD j gz) = true := by
  simp only [rightB, Bool.and_eq_true, decide_eq_true_eq, List.all_eq_true, List.mem_range] at h
  exact ⟨h.1.2, h.2⟩
theorem rec1_none (e : Int) (vs : List Int) : Fw.FnD Try.prog 60 [.ptr 0 0, .ptr 1 0] [.cells [.ptr 2 0], .cells [.val (.int .i64 e)], run0 cards gates input (.own 3), .arr .old (.i .i64) vs] none
    [(0, some (.cells [.ptr 2 0])), (1, some (.cells [.val (.int .i64 e)])), (2, some (run0 cards gates input (.own 3))), (3, some (.arr .old (.i .i64) vs))] := by
  refine fnD_go env_ok mixed Try.func60 (c := Try.f60.body.get rfl) rfl (by kernel_rfl) [] rfl rfl rfl rfl rfl rfl rfl ?_
  repeat' first | apply And.intro | (intro h; (cases h; done)) | intro _ | exact True.intro | (show Region.lexB _ _ = true; kernel_rfl)
  all_goals rfl
theorem rec1_some (e : Int) (vs : List Int) : Fw.FnD Try.prog 60 [.ptr 0 0, .ptr 1 0] [.cells [.ptr 2 0], .cells [.val (.int .i64 e)], run0 cards gates input (.own 3), .arr .old (.i .i64) vs] (some (.ifc 107 (.agg [])))
    [(0, some (.cells [.val (.pointer none)])), (1, some (.cells [.val (.int .i64 6)])), (2, some (run0 cards gates input (.own 3))), (3, some (.arr .old (.i .i64) vs))] := by
  refine fnD_go env_ok mixed Try.func60 (c := Try.f60.body.get rfl) rfl (by kernel_rfl) [] rfl rfl rfl rfl rfl rfl rfl ?_
  repeat' first | apply And.intro | (intro h; (cases h; done)) | intro _ | exact True.intro | (show Region.lexB _ _ = true; kernel_rfl)
  all_goals rfl
variable (hl : gates.length ≤ 4611686018427387903) (hc : cards.length ≤ 4611686018427387903) (hin : input.length ≤ 4611686018427387903) (hargs : ∀ g ∈ gates, g.2.2.2.2.length ≤ 4611686018427387903)
include hl hc hargs in
theorem evaluated_c (h : rightB cards gates = false) : Fw.Fn Try.prog 44 [.agg [.dat .old (.i .i64) cards, .dat .old gT gates], .dat .old (.i .i64) input] [] (.tup [.val (.pointer none), .val (.int .i64 150)]) [] := by
  have hv := valid_fn cards gates hc hl hargs
  rw [h] at hv
  refine fnR_go env_ok mixed Try.func44 (c := Try.f44.body.get rfl) rfl (by kernel_rfl) [] [] [] rfl ?_
  repeat' first | apply And.intro | (intro h; (cases h; done)) | intro _ | exact True.intro | (show Region.lexB _ _ = true; kernel_rfl) | refine CallK.fn [] hv rfl rfl rfl rfl rfl trivial ?_
  all_goals rfl
include hl hc hargs hin in
theorem evaluated_i (h : rightB cards gates = true) (h2 : inputB cards input = false) : Fw.Fn Try.prog 44 [.agg [.dat .old (.i .i64) cards, .dat .old gT gates], .dat .old (.i .i64) input] [] (.tup [.val (.pointer none), .val (.int .i64 2)]) [] := by
  have hv := valid_fn cards gates hc hl hargs
  rw [h] at hv
  have hi := inputs_fn cards gates input hin
  rw [h2] at hi
  refine fnR_go env_ok mixed Try.func44 (c := Try.f44.body.get rfl) rfl (by kernel_rfl) [] [] [] rfl ?_
  repeat' first | apply And.intro | (intro h; (cases h; done)) | intro _ | exact True.intro | (show Region.lexB _ _ = true; kernel_rfl) | refine CallK.fn [] hv rfl rfl rfl rfl rfl trivial ?_ | refine CallK.fn [] hi rfl rfl rfl rfl rfl trivial ?_
  all_goals rfl
include hl hc hargs hin in
theorem evaluated_v (h : rightB cards gates = true) (h2 : inputB cards input = true) (vs : List Int) (hvs : valsO input gates [] = some vs) : Fw.Fn Try.prog 44 [.agg [.dat .old (.i .i64) cards, .dat .old gT gates], .dat .old (.i .i64) input] []
    (.tup [.ip .fr [.dat .old (.i .i64) cards, .dat .old gT gates, .dat .old (.i .i64) input, .dat .old (.i .i64) vs] 0, .val (.int .i64 0)]) [] := by
  have hv := valid_fn cards gates hc hl hargs
  rw [h] at hv
  have hi := inputs_fn cards gates input hin
  rw [h2] at hi
  refine fnR_go env_ok mixed Try.func44 (c := Try.f44.body.get rfl) rfl (by kernel_rfl) [] [] [] rfl ?_
  have hr := right_all h
  repeat' first | apply And.intro | (intro h; (cases h; done)) | intro _ | exact True.intro | (show Region.lexB _ _ = true; kernel_rfl) | refine CallK.fn [] hv rfl rfl rfl rfl rfl trivial ?_ | refine CallK.fn [] hi rfl rfl rfl rfl rfl trivial ?_ | refine CallK.fn [224] (evaluate_fn cards gates input vs hr.1 hr.2 h2 hargs hvs) (by exact rfl) (by exact rfl) (by exact rfl) (by exact rfl) (by exact rfl) ?_ ?_ | refine DefK.mk [16, 32, 224, 272] (rec1_none cards gates input 0 vs) (by exact rfl) (by exact rfl) (by exact rfl) (by exact rfl) (by exact rfl) (by exact rfl) ?_ ?_
  all_goals rfl
include hl hc hargs hin in
theorem evaluated_n (h : rightB cards gates = true) (h2 : inputB cards input = true) (hvs : valsO input gates [] = none) : Fw.Fn Try.prog 44 [.agg [.dat .old (.i .i64) cards, .dat .old gT gates], .dat .old (.i .i64) input] []
    (.tup [.val (.pointer none), .val (.int .i64 6)]) [] := by
  have hv := valid_fn cards gates hc hl hargs
  rw [h] at hv
  have hi := inputs_fn cards gates input hin
  rw [h2] at hi
  refine fnR_go env_ok mixed Try.func44 (c := Try.f44.body.get rfl) rfl (by kernel_rfl) [] [] [] rfl ?_
  have hr := right_all h
  repeat' first | apply And.intro | (intro h; (cases h; done)) | intro _ | exact True.intro | (show Region.lexB _ _ = true; kernel_rfl) | refine CallK.fn [] hv rfl rfl rfl rfl rfl trivial ?_ | refine CallK.fn [] hi rfl rfl rfl rfl rfl trivial ?_ | refine CallK.pn [224] (evaluate_pn cards gates input hr.1 hr.2 h2 hargs hvs) (by exact rfl) (by exact rfl) (by exact rfl) (by exact rfl) (by exact rfl) ?_ ?_ | refine DefK.mk [16, 32, 224, 272] (rec1_some cards gates input 0 _) (by exact rfl) (by exact rfl) (by exact rfl) (by exact rfl) (by exact rfl) (by exact rfl) ?_ ?_
  all_goals rfl
theorem valsO_len {input : List Int} : ∀ {gs : List Gate} {out vs : List Int}, valsO input gs out = some vs → vs.length = out.length + gs.length
  | [], out, vs, h => by simp only [valsO, Option.some.injEq] at h; subst h; rfl
  | g :: gs, out, vs, h => by
    simp only [valsO] at h
    split at h
    · cases h
    · have := valsO_len h
      simp at this ⊢; omega
/-- What Eval returns. -/
def evalF (cards : List Int) (gates : List Gate) (input : List Int) : Int × Int :=
  if rightB cards gates = false then (0, 150)
  else if inputB cards input = false then (0, 2)
  else match valsO input gates [] with
    | none => (0, 6)
    | some vs => (vs.getD (vs.length - 1) 0, 0)
include hl hc hargs hin in
theorem eval_fn : Fw.Fn Try.prog 19 [.agg [.dat .old (.i .i64) cards, .dat .old gT gates], .dat .old (.i .i64) input] [] (.tup [.val (.int .i64 (evalF cards gates input).1), .val (.int .i64 (evalF cards gates input).2)]) [] := by
  unfold evalF
  by_cases h : rightB cards gates = false
  · rw [if_pos h]
    refine fn_go env_ok mixed Try.func19 (c := Try.f19.body.get rfl) rfl (by kernel_rfl) [] rfl ?_
    repeat' first | apply And.intro | (intro h; (cases h; done)) | intro _ | exact True.intro | (show Region.lexB _ _ = true; kernel_rfl) | refine CallK.fn [] (evaluated_c cards gates input hl hc hargs h) rfl rfl rfl rfl rfl trivial ?_
    all_goals rfl
  · rw [if_neg h]
    have h : rightB cards gates = true := by simpa using h
    by_cases h2 : inputB cards input = false
    · rw [if_pos h2]
      refine fn_go env_ok mixed Try.func19 (c := Try.f19.body.get rfl) rfl (by kernel_rfl) [] rfl ?_
      repeat' first | apply And.intro | (intro h; (cases h; done)) | intro _ | exact True.intro | (show Region.lexB _ _ = true; kernel_rfl) | refine CallK.fn [] (evaluated_i cards gates input hl hc hin hargs h h2) rfl rfl rfl rfl rfl trivial ?_
      all_goals rfl
    · rw [if_neg h2]
      have h2 : inputB cards input = true := by simpa using h2
      cases hvs : valsO input gates [] with
      | none =>
        refine fn_go env_ok mixed Try.func19 (c := Try.f19.body.get rfl) rfl (by kernel_rfl) [] rfl ?_
        repeat' first | apply And.intro | (intro h; (cases h; done)) | intro _ | exact True.intro | (show Region.lexB _ _ = true; kernel_rfl) | refine CallK.fn [] (evaluated_n cards gates input hl hc hin hargs h h2 hvs) rfl rfl rfl rfl rfl trivial ?_
        all_goals rfl
      | some vs =>
        have hlen := valsO_len hvs
        have hpos : 1 ≤ gates.length := by
          simp only [rightB, Bool.and_eq_true, decide_eq_true_eq] at h
          exact h.1.1.2
        simp only [List.length_nil, Nat.zero_add] at hlen
        refine fn_go env_ok mixed Try.func19 (c := Try.f19.body.get rfl) rfl (by kernel_rfl) [] rfl ?_
        repeat' first | apply And.intro | (intro h; (cases h; done)) | intro _ | exact True.intro | (show Region.lexB _ _ = true; kernel_rfl) | refine CallK.fn [] (evaluated_v cards gates input hl hc hin hargs h h2 vs hvs) rfl rfl rfl rfl rfl trivial ?_
        all_goals (try simp only [decT, decF, beq_iff_eq, bne_iff_ne, ne_eq, beq_eq_false_iff_ne, bne_eq_false_iff_eq, Decidable.not_not, Int.toNat_natCast, Bool.not_eq_true', Bool.not_eq_false', Bool.not_eq_true, Bool.not_eq_false, Int.not_lt, Int.not_le] at *; try dsimp only [D, IK, dz] at *)
        all_goals try omega
        rw [show ((vs.length : Int) - 1).toNat = vs.length - 1 by omega]
end
end Go.Proofs.Ytbgnnpbcifgckaa
namespace Go.Proofs.Ytbgnnpbcifgckaa
open Go Go.Fw Go.RowKit
set_option maxRecDepth 100000
set_option maxHeartbeats 4000000

theorem ref_sum_fn (l : List Int) (hl : l.length ≤ 4611686018427387903) (hn : numsOK l) : Fw.Fn Try.prog 50 [.dat .old (.i .i64) l] [] (.tup [.val (.int .i64 (if sumI l ≤ 4611686018427387903 then sumI l else 0)), .val (.bool (decide (sumI l ≤ 4611686018427387903)))]) [] := by
  refine fn_go env_ok mixed Try.func50 (c := Try.f50.body.get rfl) rfl (by kernel_rfl) [] rfl ?_
  have h0 := fun j => sumI_take_nonneg (fun x hx => (hn x hx).1) (l := l) j
  have h1 := fun j => sumI_take_le (fun x hx => (hn x hx).1) (l := l) j
  repeat' first | apply And.intro | (intro h; (cases h; done)) | intro _ | exact True.intro | (show Region.lexB _ _ = true; kernel_rfl)
  refine ⟨loopI (fun j : Nat => { n := 26, t := [(0, .dat .old (.i .i64) l), (4, .val (.int .i64 (sumI (l.take j)))), (5, .val (.int .i64 j))], h := [], nx := 0 }) (fun j => l.length - j) (fun j => Ok (j ≤ l.length ∧ sumI (l.take j) ≤ 4611686018427387903)),
    loopI.start 0 [] [0, 4, 5] [] .fr (by (repeat' first | apply And.intro | rfl); exact ⟨Nat.zero_le _, by rw [List.take_zero]; exact (by decide : sumI [] ≤ 4611686018427387903)⟩), ?_⟩
  rintro _ _ ⟨j, rfl, rfl, ⟨hj, hm⟩⟩
  have hx : ∀ h : (j : Int) < l.length, sumI (l.take (j + 1)) = sumI (l.take j) + l.getD j 0 ∧ 0 ≤ l.getD j 0 ∧ l.getD j 0 ≤ 4611686018427387903 := fun h => by
    have h2 : j < l.length := by omega
    rw [getD_lt h2, take_step h2, sumI_snoc]
    exact ⟨rfl, hn _ (List.getElem_mem _)⟩
  have h0j := h0 j
  have h1j := h1 (j + 1)
  clear h0 h1
  repeat' first | apply And.intro | (intro h; (cases h; done)) | intro _ | exact True.intro | (show Region.lexB _ _ = true; kernel_rfl) | refine loopI.next (j + 1) [] [0, 4, 5] [] .fr ?_
  all_goals (try simp only [decT, decF, beq_iff_eq, bne_iff_ne, ne_eq, beq_eq_false_iff_ne, bne_eq_false_iff_eq, Decidable.not_not, Int.toNat_natCast, Bool.not_eq_true', Bool.not_eq_false', Bool.not_eq_true, Bool.not_eq_false, Int.not_lt, Int.not_le] at *; try dsimp only [D, IK, dz] at *)
  all_goals try omega
  all_goals try rfl
  all_goals by_cases h0 : (j : Int) < l.length
  all_goals try simp only [h0, true_implies, false_implies] at hx
  all_goals try omega
  · exact (decide_eq_false (by omega)).symm
  · exact ⟨by omega, by omega⟩
  · have : j = l.length := by omega
    rw [this, List.take_length] at hm ⊢
    rw [if_pos hm]
  · have : j = l.length := by omega
    rw [this, List.take_length] at hm
    exact (decide_eq_true hm).symm

/-- Where the product stands after j factors. -/
def prodAt (l : List Int) (j : Nat) (b : Bool) : Int := if b = true then prodI (l.take j) else 0
theorem ref_product_fn (l : List Int) (hl : l.length ≤ 4611686018427387903) (hn : numsOK l) : Fw.Fn Try.prog 42 [.dat .old (.i .i64) l] [] (.tup [.val (.int .i64 (if prodI l ≤ 4611686018427387903 then prodI l else 0)), .val (.bool (decide (prodI l ≤ 4611686018427387903)))]) [] := by
  refine fn_go env_ok mixed Try.func42 (c := Try.f42.body.get rfl) rfl (by kernel_rfl) [] rfl ?_
  repeat' first | apply And.intro | (intro h; (cases h; done)) | intro _ | exact True.intro | (show Region.lexB _ _ = true; kernel_rfl)
  refine ⟨loopI (fun j : Nat => { n := 39, t := [(0, .dat .old (.i .i64) l), (4, .val (.int .i64 j))], h := [], nx := 0 }) (fun j => l.length - j) (fun j => Ok (j ≤ l.length ∧ ∀ m, m < j → 1 ≤ l.getD m 0)),
    loopI.start 0 [] [0, 4] [] .fr (by (repeat' first | apply And.intro | rfl); exact ⟨Nat.zero_le _, fun m hm => absurd hm (Nat.not_lt_zero m)⟩), ?_⟩
  rintro _ _ ⟨j, rfl, rfl, ⟨hj, ha⟩⟩
  have hx : ∀ h : (j : Int) < l.length, 0 ≤ l.getD j 0 ∧ l.getD j 0 ∈ l := fun h => ⟨(hn _ (getD_mem (by omega))).1, getD_mem (by omega)⟩
  repeat' first | apply And.intro | (intro h; (cases h; done)) | intro _ | exact True.intro | (show Region.lexB _ _ = true; kernel_rfl) | refine loopI.next (j + 1) [] [0, 4] [] .fr ?_
  rotate_right
  · rename_i hj2
    have hj3 : j = l.length := by
      clear hx
      (try simp only [decT, decF, beq_iff_eq, bne_iff_ne, ne_eq, beq_eq_false_iff_ne, bne_eq_false_iff_eq, Decidable.not_not, Int.toNat_natCast, Bool.not_eq_true', Bool.not_eq_false', Bool.not_eq_true, Bool.not_eq_false, Int.not_lt, Int.not_le] at *; try dsimp only [D, IK, dz] at *)
      omega
    have hp : ∀ x ∈ l, 1 ≤ x := fun x hx => by
      obtain ⟨m, hm, rfl⟩ := List.mem_iff_getElem.1 hx
      have := ha m (by omega)
      rwa [getD_lt hm] at this
    have h1 := fun k => prodI_pos (l := l.take k) fun x hx => hp x (List.mem_of_mem_take hx)
    have h2 := fun k => prodI_take_le hp k
    clear hx ha hj
    refine ⟨loopI (fun x : Nat × Bool => { n := 39, t := [(0, .dat .old (.i .i64) l), (5, .val (.int .i64 (prodAt l x.1 x.2))), (6, .val (.bool x.2)), (7, .val (.int .i64 x.1))], h := [], nx := 0 }) (fun x => l.length - x.1)
      (fun x => Ok (x.1 ≤ l.length ∧ (if x.2 = true then prodI (l.take x.1) ≤ 4611686018427387903 else 4611686018427387903 < prodI (l.take x.1)))),
      loopI.start (0, true) [] [0, 5, 6, 7] [] .fr (by (repeat' first | apply And.intro | rfl); exact ⟨Nat.zero_le _, by rw [if_pos rfl, List.take_zero]; exact (by decide : prodI [] ≤ 4611686018427387903)⟩), ?_⟩
    rintro _ _ ⟨⟨k, b⟩, rfl, rfl, ⟨hk, hb⟩⟩
    have hx : ∀ h : (k : Int) < l.length, prodI (l.take (k + 1)) = prodI (l.take k) * l.getD k 0 ∧ 1 ≤ l.getD k 0 ∧ l.getD k 0 ≤ 4611686018427387903 := fun h => by
      have h2 : k < l.length := by omega
      rw [getD_lt h2, take_step h2, prodI_snoc]
      exact ⟨rfl, hp _ (List.getElem_mem _), (hn _ (List.getElem_mem _)).2⟩
    have h1k := h1 k
    have h2k := h2 (k + 1)
    cases b
    all_goals repeat' first | apply And.intro | (intro h; (cases h; done)) | intro _ | exact True.intro | (show Region.lexB _ _ = true; kernel_rfl) | refine CallK.fn [] (ref_product2_fn _ _ ?_ ?_ ?_ ?_) rfl rfl rfl rfl rfl trivial ?_ | refine loopI.next (k + 1, decide (prodAt l k true * l.getD k 0 ≤ 4611686018427387903)) [] [0, 5, 6, 7] [] .fr ?_
    all_goals (try simp only [decT, decF, beq_iff_eq, bne_iff_ne, ne_eq, beq_eq_false_iff_ne, bne_eq_false_iff_eq, Decidable.not_not, Int.toNat_natCast, Bool.not_eq_true', Bool.not_eq_false', Bool.not_eq_true, Bool.not_eq_false, Int.not_lt, Int.not_le] at *; try dsimp only [D, IK, dz] at *)
    all_goals simp only [prodAt, if_true, if_false, Bool.false_eq_true, decide_eq_true_eq] at *
    all_goals by_cases h0 : (k : Int) < l.length
    all_goals try simp only [h0, true_implies, false_implies] at hx
    all_goals try rw [hx.1] at h2k
    all_goals try omega
    all_goals have h2kk := h2 k
    · rw [if_neg (by omega)]
    · exact (decide_eq_false (by omega)).symm
    · rw [if_neg (by omega)]
    · exact (decide_eq_false (by omega)).symm
    · refine ⟨by omega, ?_⟩
      rw [hx.1]
      by_cases hc : prodI (l.take k) * l.getD k 0 ≤ 4611686018427387903
      · rw [if_pos hc]; exact hc
      · rw [if_neg hc]; omega
    · have : k = l.length := by omega
      rw [this, List.take_length] at hb ⊢
      rw [if_pos hb]
    · have : k = l.length := by omega
      rw [this, List.take_length] at hb
      exact (decide_eq_true hb).symm
  all_goals (try simp only [decT, decF, beq_iff_eq, bne_iff_ne, ne_eq, beq_eq_false_iff_ne, bne_eq_false_iff_eq, Decidable.not_not, Int.toNat_natCast, Bool.not_eq_true', Bool.not_eq_false', Bool.not_eq_true, Bool.not_eq_false, Int.not_lt, Int.not_le] at *; try dsimp only [D, IK, dz] at *)
  all_goals try omega
  all_goals by_cases h0 : (j : Int) < l.length
  all_goals try simp only [h0, true_implies, false_implies] at hx
  all_goals try omega
  · rw [prodI_zero (by rw [← ‹l.getD j 0 = 0›]; exact hx.2)]
    rfl
  · rw [prodI_zero (by rw [← ‹l.getD j 0 = 0›]; exact hx.2)]
    rfl
  · exact ⟨by omega, all_step ha (by omega)⟩
theorem argsB_len {i : Int} {args : List Int} (h : argsB i args = true) (h0 : 0 ≤ i) : args.length ≤ i := by
  simp only [argsB, List.all_eq_true, List.mem_range, okAt, Bool.and_eq_true, Bool.or_eq_true, decide_eq_true_eq] at h
  have : ∀ m, m < args.length → (m : Int) ≤ args.getD m 0 := by
    intro m
    induction m with
    | zero => intro hm; exact (h 0 hm).1.1
    | succ m ih =>
      intro hm
      have h1 := ih (by omega)
      have h2 := (h (m + 1) hm).2
      rw [Nat.add_sub_cancel] at h2
      omega
  cases hl : args.length with
  | zero => omega
  | succ m =>
    have h1 := this m (by omega)
    have h2 := (h m (by omega)).1.2
    omega
theorem atF_nums {out args : List Int} (hn : numsOK out) (ha : ∀ a ∈ args, 0 ≤ a ∧ a < out.length) : numsOK (atF out args) := by
  intro x hx
  obtain ⟨a, h1, rfl⟩ := List.mem_map.1 hx
  have h2 := ha a h1
  exact hn _ (getD_mem (by omega))
theorem atF_len (out args : List Int) : (atF out args).length = args.length := by simp [atF]
theorem ref_values_fn (cards : List Int) (gates : List Gate) (input : List Int) (hl : gates.length ≤ 4000) (hg : ∀ j, j < gates.length → gOK cards j (gates.getD j gz) = true) (hi : inputB cards input = true) :
    Fw.Fn Try.prog 46 [.agg [.dat .old (.i .i64) cards, .dat .old gT gates], .dat .old (.i .i64) input] [] (.tup [.dat .fr (.i .i64) ((valsO input gates []).getD []), .val (.bool (valsO input gates []).isSome)]) [] := by
  refine fn_go env_ok mixed Try.func46 (c := Try.f46.body.get rfl) rfl (by kernel_rfl) [] rfl ?_
  repeat' first | apply And.intro | (intro h; (cases h; done)) | intro _ | exact True.intro | (show Region.lexB _ _ = true; kernel_rfl)
  refine ⟨loopI (fun x : Nat × List Int => { n := 74, t := [(1, .dat .old (.i .i64) input), (2, .ptr 0 0), (6, .own 1), (7, .val (.int .i64 x.1))], h := [(0, some (.cells [.dat .old (.i .i64) cards, .dat .old gT gates])), (1, some (.arr .fr (.i .i64) x.2))], nx := 2 }) (fun x => gates.length - x.1)
      (fun x => Ok (x.1 ≤ gates.length ∧ x.2.length = x.1 ∧ numsOK x.2 ∧ valsO input (gates.drop x.1) x.2 = valsO input gates [])),
    loopI.start (0, []) [6] [1, 2, 6, 7] [(2, []), (6, [])] .fr (by (repeat' first | apply And.intro | rfl); exact ⟨Nat.zero_le _, rfl, fun x hx => (by cases hx), rfl⟩), ?_⟩
  rintro _ _ ⟨⟨j, out⟩, rfl, rfl, ⟨hj, hlen, hn, hvs⟩⟩
  dsimp only at *
  by_cases hlt : j < gates.length
  · have hgj := hg j hlt
    have hok := gate_ok hgj
    have hgj : gOK cards out.length (gates.getD j gz) = true := by rw [hlen]; exact hgj
    have hpl : (gates.getD j gz).1 = 3 ∨ (gates.getD j gz).1 = 4 → (∀ a ∈ (gates.getD j gz).2.2.2.2, 0 ≤ a ∧ a < out.length) ∧ (gates.getD j gz).2.2.2.2.length ≤ 1048576 ∧ numsOK (atF out (gates.getD j gz).2.2.2.2) ∧ (atF out (gates.getD j gz).2.2.2.2).length ≤ 4611686018427387903 := fun h => by
      rcases hok with ⟨h1, _⟩ | ⟨h1, _⟩ | ⟨_, _, h2⟩
      · omega
      · omega
      · have h3 := argsB_len h2 (by omega)
        have h4 : ∀ a ∈ (gates.getD j gz).2.2.2.2, 0 ≤ a ∧ a < out.length := fun a ha => by have := args_mem h2 a ha; omega
        exact ⟨h4, by omega, atF_nums hn h4, by rw [atF_len]; omega⟩
    have hin2 := fun h0 h1 => input_at hi (v := (gates.getD j gz).2.1) h0 h1
    rw [drop_getD hlt] at hvs
    simp only [valsO] at hvs
    cases hv : valO input out (gates.getD j gz) with
    | none =>
      rw [hv] at hvs
      dsimp only at hvs
      rw [← hvs]
      clear hvs
      obtain ⟨⟨hn1, hn2⟩, hn3, hn4⟩ := valO_none hv
      repeat' first | apply And.intro | (intro h; (cases h; done)) | intro _ | exact True.intro | (show Region.lexB _ _ = true; kernel_rfl) | refine loopI.next (j + 1, out) [] [1, 2, 6, 7] [(2, []), (6, [])] .fr ?_ | refine CallK.fn [] (at_fn out (gates.getD j gz).2.2.2.2 (hpl ?_).1 (hpl ?_).2.1) rfl rfl rfl rfl rfl trivial ?_ | refine CallK.fn [] (ref_sum_fn (atF out (gates.getD j gz).2.2.2.2) (hpl ?_).2.2.2 (hpl ?_).2.2.1) rfl rfl rfl rfl rfl trivial ?_ | refine CallK.fn [] (ref_product_fn (atF out (gates.getD j gz).2.2.2.2) (hpl ?_).2.2.2 (hpl ?_).2.2.1) rfl rfl rfl rfl rfl trivial ?_
      all_goals (try simp only [decT, decF, beq_iff_eq, bne_iff_ne, ne_eq, beq_eq_false_iff_ne, bne_eq_false_iff_eq, Decidable.not_not, Int.toNat_natCast, Bool.not_eq_true', Bool.not_eq_false', Bool.not_eq_true, Bool.not_eq_false, Int.not_lt, Int.not_le] at *; try dsimp only [D, IK, dz] at *)
      all_goals try simp only [List.length_cons, List.length_nil]
      all_goals try dsimp only [gz] at *
      all_goals first | with_reducible rfl | omega | skip
      all_goals rfl
    | some v =>
      have hvok := valO_ok hn hgj hv
      rw [hv] at hvs
      dsimp only at hvs
      repeat' first | apply And.intro | (intro h; (cases h; done)) | intro _ | exact True.intro | (show Region.lexB _ _ = true; kernel_rfl) | refine loopI.next (j + 1, out ++ [v]) [] [1, 2, 6, 7] [(2, []), (6, [])] .fr ?_ | refine CallK.fn [] (at_fn out (gates.getD j gz).2.2.2.2 (hpl ?_).1 (hpl ?_).2.1) rfl rfl rfl rfl rfl trivial ?_ | refine CallK.fn [] (ref_sum_fn (atF out (gates.getD j gz).2.2.2.2) (hpl ?_).2.2.2 (hpl ?_).2.2.1) rfl rfl rfl rfl rfl trivial ?_ | refine CallK.fn [] (ref_product_fn (atF out (gates.getD j gz).2.2.2.2) (hpl ?_).2.2.2 (hpl ?_).2.2.1) rfl rfl rfl rfl rfl trivial ?_
      all_goals (try simp only [decT, decF, beq_iff_eq, bne_iff_ne, ne_eq, beq_eq_false_iff_ne, bne_eq_false_iff_eq, Decidable.not_not, Int.toNat_natCast, Bool.not_eq_true', Bool.not_eq_false', Bool.not_eq_true, Bool.not_eq_false, Int.not_lt, Int.not_le] at *; try dsimp only [D, IK, dz] at *)
      all_goals try simp only [List.length_cons, List.length_nil]
      all_goals try dsimp only [gz] at *
      all_goals first | with_reducible rfl | omega | skip
      all_goals try exact ⟨by omega, by rw [List.length_append, hlen]; rfl, numsOK_snoc hn hvok, hvs⟩
      · rw [valO_num hv (by assumption)]
      · rw [valO_is hv (by assumption), if_pos (by omega)]
      · rw [valO_is hv (by assumption), if_pos (by omega)]
      · rw [valO_is hv (by assumption), if_neg (by omega)]
      · exact absurd (valO_sum hv (by assumption)).1 (by omega)
      · exact absurd (valO_sum hv (by assumption)).1 (by omega)
      · rw [(valO_sum hv (by assumption)).2, if_pos (by assumption)]
      · exact absurd (valO_prod hv (by assumption)).1 (by omega)
      · exact absurd (valO_prod hv (by assumption)).1 (by omega)
      · rw [(valO_prod hv (by assumption)).2, if_pos (by assumption)]
  · have hj2 : j = gates.length := by omega
    have hvs2 : valsO input gates [] = some out := by
      rw [← hvs, hj2, List.drop_length]
      simp only [valsO]
    rw [hvs2]
    clear hvs hvs2
    repeat' first | apply And.intro | (intro h; (cases h; done)) | intro _ | exact True.intro | (show Region.lexB _ _ = true; kernel_rfl)
    all_goals (try simp only [decT, decF, beq_iff_eq, bne_iff_ne, ne_eq, beq_eq_false_iff_ne, bne_eq_false_iff_eq, Decidable.not_not, Int.toNat_natCast, Bool.not_eq_true', Bool.not_eq_false', Bool.not_eq_true, Bool.not_eq_false, Int.not_lt, Int.not_le] at *; try dsimp only [D, IK, dz] at *)
    all_goals first | with_reducible rfl | omega | skip
    all_goals simp only [Option.getD_some, Option.isSome_some]
end Go.Proofs.Ytbgnnpbcifgckaa
namespace Go.Proofs.Ytbgnnpbcifgckaa
open Go Go.Fw Go.RowKit
set_option maxRecDepth 100000
set_option maxHeartbeats 4000000
theorem valsO_ne {gates : List Gate} {input vs : List Int} (h : valsO input gates [] = some vs) (h1 : 1 ≤ gates.length) (h4 : gates.length ≤ 4000) : 1 ≤ vs.length ∧ vs.length ≤ 4000 := by
  have := valsO_len h
  rw [List.length_nil] at this
  omega
theorem ref_eval_fn (cards : List Int) (gates : List Gate) (input : List Int) (hargs : ∀ g ∈ gates, g.2.2.2.2.length ≤ 4611686018427387903) (hin : input.length ≤ 4611686018427387903) :
    Fw.Fn Try.prog 20 [.agg [.dat .old (.i .i64) cards, .dat .old gT gates], .dat .old (.i .i64) input] [] (.tup [.val (.int .i64 (evalF cards gates input).1), .val (.int .i64 (evalF cards gates input).2)]) [] := by
  unfold evalF
  have hR := ref_right_fn cards gates hargs
  have hI := input_fn cards gates input hin
  by_cases h : rightB cards gates = false
  · rw [if_pos h]
    rw [h] at hR
    refine fn_go env_ok mixed Try.func20 (c := Try.f20.body.get rfl) rfl (by kernel_rfl) [] rfl ?_
    repeat' first | apply And.intro | (intro h; (cases h; done)) | intro _ | exact True.intro | (show Region.lexB _ _ = true; kernel_rfl) | refine CallK.fn [] hR rfl rfl rfl rfl rfl trivial ?_
    all_goals rfl
  · rw [if_neg h]
    have h : rightB cards gates = true := by simpa using h
    obtain ⟨h4, hg⟩ := right_all h
    rw [h] at hR
    by_cases h2 : inputB cards input = false
    · rw [if_pos h2]
      rw [h2] at hI
      refine fn_go env_ok mixed Try.func20 (c := Try.f20.body.get rfl) rfl (by kernel_rfl) [] rfl ?_
      repeat' first | apply And.intro | (intro h; (cases h; done)) | intro _ | exact True.intro | (show Region.lexB _ _ = true; kernel_rfl) | refine CallK.fn [] hR rfl rfl rfl rfl rfl trivial ?_ | refine CallK.fn [] hI rfl rfl rfl rfl rfl trivial ?_
      all_goals rfl
    · rw [if_neg h2]
      have h2 : inputB cards input = true := by simpa using h2
      rw [h2] at hI
      have hV := ref_values_fn cards gates input h4 hg h2
      have hpos : 1 ≤ gates.length := by
        simp only [rightB, Bool.and_eq_true, decide_eq_true_eq] at h
        exact h.1.1.2
      cases hvs : valsO input gates [] with
      | none =>
        rw [hvs] at hV
        simp only [Option.getD_none, Option.isSome_none] at hV
        refine fn_go env_ok mixed Try.func20 (c := Try.f20.body.get rfl) rfl (by kernel_rfl) [] rfl ?_
        repeat' first | apply And.intro | (intro h; (cases h; done)) | intro _ | exact True.intro | (show Region.lexB _ _ = true; kernel_rfl) | refine CallK.fn [] hR rfl rfl rfl rfl rfl trivial ?_ | refine CallK.fn [] hI rfl rfl rfl rfl rfl trivial ?_ | refine CallK.fn [] hV rfl rfl rfl rfl rfl trivial ?_
        all_goals rfl
      | some vs =>
        have hlen := valsO_ne hvs hpos h4
        rw [hvs] at hV
        simp only [Option.getD_some, Option.isSome_some] at hV
        refine fn_go env_ok mixed Try.func20 (c := Try.f20.body.get rfl) rfl (by kernel_rfl) [] rfl ?_
        repeat' first | apply And.intro | (intro h; (cases h; done)) | intro _ | exact True.intro | (show Region.lexB _ _ = true; kernel_rfl) | refine CallK.fn [] hR rfl rfl rfl rfl rfl trivial ?_ | refine CallK.fn [] hI rfl rfl rfl rfl rfl trivial ?_ | refine CallK.fn [] hV rfl rfl rfl rfl rfl trivial ?_
        all_goals (try simp only [decT, decF, beq_iff_eq, bne_iff_ne, ne_eq, beq_eq_false_iff_ne, bne_eq_false_iff_eq, Decidable.not_not, Int.toNat_natCast, Bool.not_eq_true', Bool.not_eq_false', Bool.not_eq_true, Bool.not_eq_false, Int.not_lt, Int.not_le] at *; try dsimp only [D, IK, dz] at *)
        all_goals try omega
        rw [show ((vs.length : Int) - 1).toNat = vs.length - 1 by omega]
end Go.Proofs.Ytbgnnpbcifgckaa
namespace Go.Proofs.Ytbgnnpbcifgckaa
open Go Go.Fw Go.RowKit
set_option maxRecDepth 100000
set_option maxHeartbeats 4000000
theorem without_fn (l : List Int) (n : Int) (hl : l.length ≤ 1048576) :
    Fw.Fn Try.prog 49 [.dat .old (.i .i64) l, .val (.int .i64 n)] [] (.dat .fr (.i .i64) (l.filter fun a => a != n)) [] := by
  refine fn_go env_ok mixed Try.func49 (c := Try.f49.body.get rfl) rfl (by kernel_rfl) [] rfl ?_
  repeat' first | apply And.intro | (intro h; (cases h; done)) | intro _ | exact True.intro | (show Region.lexB _ _ = true; kernel_rfl)
  refine ⟨loopI (fun j : Nat => { n := 27, t := [(0, .dat .old (.i .i64) l), (1, .val (.int .i64 n)), (5, .own 0), (6, .val (.int .i64 j))], h := [(0, some (.arr .fr (.i .i64) ((l.take j).filter fun a => a != n)))], nx := 1 }) (fun j => l.length - j) (fun j => Ok (j ≤ l.length ∧ True)),
    loopI.start 0 [5] [0, 1, 5, 6] [(5, [])] .fr (by (repeat' first | apply And.intro | rfl); exact ⟨Nat.zero_le _, trivial⟩), ?_⟩
  rintro _ _ ⟨j, rfl, rfl, ⟨hj, _⟩⟩
  have hx : ∀ h : (j : Int) < l.length, (l.take (j + 1)).filter (fun a => a != n) = if l.getD j 0 = n then (l.take j).filter (fun a => a != n) else (l.take j).filter (fun a => a != n) ++ [l.getD j 0] := fun h => by
    have h2 : j < l.length := by omega
    rw [getD_lt h2, take_step h2, List.filter_append]
    by_cases h3 : l[j] = n
    · simp [h3]
    · simp [h3]
  have hlen : ((l.take j).filter (fun a => a != n)).length ≤ l.length := Nat.le_trans (List.length_filter_le _ _) (by rw [List.length_take]; omega)
  repeat' first | apply And.intro | (intro h; (cases h; done)) | intro _ | exact True.intro | (show Region.lexB _ _ = true; kernel_rfl) | refine loopI.next (j + 1) [] [0, 1, 5, 6] [(5, [])] .fr ?_
  all_goals (try simp only [decT, decF, beq_iff_eq, bne_iff_ne, ne_eq, beq_eq_false_iff_ne, bne_eq_false_iff_eq, Decidable.not_not, Int.toNat_natCast, Bool.not_eq_true', Bool.not_eq_false', Bool.not_eq_true, Bool.not_eq_false, Int.not_lt, Int.not_le] at *; try dsimp only [D, IK, dz] at *)
  all_goals try simp only [List.length_cons, List.length_nil]
  all_goals try omega
  all_goals by_cases h0 : (j : Int) < l.length
  all_goals try simp only [h0, true_implies, false_implies] at hx
  all_goals try omega
  · rw [hx, if_neg (by assumption)]
  · exact ⟨by omega, trivial⟩
  · rw [hx, if_pos (by assumption)]
  · exact ⟨by omega, trivial⟩
  · rw [List.take_of_length_le (by omega)]
end Go.Proofs.Ytbgnnpbcifgckaa
namespace Go.Proofs.Ytbgnnpbcifgckaa
open Go Go.Fw Go.RowKit
set_option maxRecDepth 100000
set_option maxHeartbeats 4000000
/-- What a gate adds to the derivative of the gate at an index. -/
def termD (vs : List Int) (d : Int) (g : Gate) (i : Int) : Int := if i ∈ g.2.2.2.2 then d * (if g.1 = 4 then prodI (butF vs g.2.2.2.2 i) else 1) else 0
/-- The derivatives of the last gates, k and one of them. -/
def derL (vs : List Int) (gates : List Gate) : Nat → List Int
  | 0 => [1]
  | k + 1 => sumI ((List.range (k + 1)).map fun m => termD vs ((derL vs gates k).getD m 0) (gates.getD (gates.length - (k + 1) + m) gz) (gates.length - (k + 2) : Nat)) :: derL vs gates k
theorem derL_len (vs : List Int) (gates : List Gate) : ∀ k, (derL vs gates k).length = k + 1
  | 0 => rfl
  | k + 1 => by simp only [derL, List.length_cons, derL_len vs gates k]
/-- The terms of the gates ahead of which i stands, those that i is an argument of. -/
def partsD (vs : List Int) (gates : List Gate) (k t : Nat) : List Int :=
  ((List.range t).filter fun m => decide (((gates.length - (k + 2) : Nat) : Int) ∈ (gates.getD (gates.length - (k + 1) + m) gz).2.2.2.2)).map fun m => termD vs ((derL vs gates k).getD m 0) (gates.getD (gates.length - (k + 1) + m) gz) (gates.length - (k + 2) : Nat)
theorem sumI_filter {α : Type} (p : α → Bool) (f : α → Int) (l : List α) (h : ∀ x ∈ l, p x = false → f x = 0) : sumI ((l.filter p).map f) = sumI (l.map f) := by
  induction l with
  | nil => rfl
  | cons x l ih =>
    have ih := ih fun y hy => h y (List.mem_cons_of_mem _ hy)
    rw [List.map_cons, sumI_cons]
    cases hp : p x with
    | true => rw [List.filter_cons_of_pos hp, List.map_cons, sumI_cons, ih]
    | false => rw [List.filter_cons_of_neg (by simp [hp]), ih, h x List.mem_cons_self hp]; omega
theorem partsD_sum (vs : List Int) (gates : List Gate) (k : Nat) : sumI (partsD vs gates k (k + 1)) = (derL vs gates (k + 1)).getD 0 0 := by
  rw [partsD, sumI_filter]
  · rfl
  · intro m _ hm
    rw [termD, if_neg (by simpa using hm)]
end Go.Proofs.Ytbgnnpbcifgckaa
namespace Go.Proofs.Ytbgnnpbcifgckaa
open Go Go.Fw Go.RowKit
set_option maxRecDepth 100000
set_option maxHeartbeats 4000000
/-- The product of the values of a gate's other arguments; 1 if it is no product. -/
def byD (vs : List Int) (g : Gate) (a : Int) : Int := if g.1 = 4 then prodI (butF vs g.2.2.2.2 a) else 1
def stepA (vs : List Int) (g : Gate) (d : Int) (l : List Int) (a : Int) : List Int := l.set a.toNat (l.getD a.toNat 0 + d * byD vs g a)
def gAt (gates : List Gate) (s : Nat) : Gate := gates.getD (gates.length - 1 - s) gz
/-- What is known of the derivatives once the last s gates are done. -/
def scat (vs : List Int) (gates : List Gate) : Nat → List Int
  | 0 => (List.replicate gates.length 0).set (gates.length - 1) 1
  | s + 1 => (gAt gates s).2.2.2.2.foldl (stepA vs (gAt gates s) ((scat vs gates s).getD (gates.length - 1 - s) 0)) (scat vs gates s)
def inc2 (T : List (List Int)) (v x : Nat) (d : Int) : List (List Int) := T.set v ((T.getD v []).set x ((T.getD v []).getD x 0 + d))
def outS (cards : List Int) (vs : List Int) (gates : List Gate) : Nat → List (List Int)
  | 0 => cards.map fun k => List.replicate k.toNat 0
  | s + 1 => if (gAt gates s).1 = 2 then inc2 (outS cards vs gates s) (gAt gates s).2.1.toNat (gAt gates s).2.2.1.toNat ((scat vs gates (s + 1)).getD (gates.length - 1 - s) 0) else outS cards vs gates s

def Nn (l : List Int) : Prop := ∀ i, 0 ≤ l.getD i 0
def Le (l l' : List Int) : Prop := ∀ i, l.getD i 0 ≤ l'.getD i 0
theorem Le.refl (l : List Int) : Le l l := fun _ => Int.le_refl _
theorem Le.trans {a b c : List Int} (h : Le a b) (k : Le b c) : Le a c := fun i => Int.le_trans (h i) (k i)
theorem getD_set {α : Type} (l : List α) (k : Nat) (x d : α) (i : Nat) : (l.set k x).getD i d = if k = i ∧ k < l.length then x else l.getD i d := by
  rw [List.getD_eq_getElem?_getD, List.getD_eq_getElem?_getD, List.getElem?_set]
  by_cases e : k = i
  · subst e
    by_cases h : k < l.length
    · simp [h]
    · simp [h, List.getElem?_eq_none (Nat.le_of_not_lt h)]
  · simp [e]
theorem set_le {l : List Int} {k : Nat} {d : Int} (hd : 0 ≤ d) : Le l (l.set k (l.getD k 0 + d)) := by
  intro i
  rw [getD_set]
  by_cases h : k = i ∧ k < l.length
  · rw [if_pos h, ← h.1]; omega
  · rw [if_neg h]; exact Int.le_refl _
theorem nn_le {l l' : List Int} (h : Nn l) (k : Le l l') : Nn l' := fun i => Int.le_trans (h i) (k i)

theorem byD_nn {vs : List Int} (hv : Nn vs) (g : Gate) (a : Int) : 0 ≤ byD vs g a := by
  unfold byD
  split
  · refine prodI_nonneg fun x hx => ?_
    obtain ⟨b, _, _, rfl⟩ := butF_mem hx
    exact hv _
  · omega
theorem stepA_len (vs : List Int) (g : Gate) (d : Int) (l : List Int) (a : Int) : (stepA vs g d l a).length = l.length := List.length_set ..
theorem stepA_le {vs : List Int} (hv : Nn vs) {g : Gate} {d : Int} (hd : 0 ≤ d) (l : List Int) (a : Int) : Le l (stepA vs g d l a) := set_le (Int.mul_nonneg hd (byD_nn hv g a))
theorem folA_len (vs : List Int) (g : Gate) (d : Int) : ∀ (ar l : List Int), (ar.foldl (stepA vs g d) l).length = l.length
  | [], _ => rfl
  | a :: ar, l => by rw [List.foldl_cons, folA_len vs g d ar, stepA_len]
theorem folA_le {vs : List Int} (hv : Nn vs) {g : Gate} {d : Int} (hd : 0 ≤ d) : ∀ (ar l : List Int), Le l (ar.foldl (stepA vs g d) l)
  | [], l => Le.refl l
  | a :: ar, l => (stepA_le hv hd l a).trans (folA_le hv hd ar _)
theorem folA_other {vs : List Int} {g : Gate} {d : Int} {i : Nat} : ∀ {ar : List Int} (l : List Int), (∀ a ∈ ar, a.toNat ≠ i) → (ar.foldl (stepA vs g d) l).getD i 0 = l.getD i 0
  | [], l, _ => rfl
  | a :: ar, l, h => by
    rw [List.foldl_cons, folA_other _ fun b hb => h b (List.mem_cons_of_mem _ hb), stepA, getD_set, if_neg fun e => h a List.mem_cons_self e.1]
theorem folA_take {vs : List Int} {g : Gate} {d : Int} {ar l : List Int} {t : Nat} (h : t < ar.length) : (ar.take (t + 1)).foldl (stepA vs g d) l = stepA vs g d ((ar.take t).foldl (stepA vs g d) l) ar[t] := by
  rw [take_step h, List.foldl_append]; rfl
theorem folA_take_le {vs : List Int} (hv : Nn vs) {g : Gate} {d : Int} (hd : 0 ≤ d) (ar l : List Int) (t : Nat) : Le ((ar.take t).foldl (stepA vs g d) l) (ar.foldl (stepA vs g d) l) := by
  conv => rhs; rw [← List.take_append_drop t ar, List.foldl_append]
  exact folA_le hv hd _ _

theorem scat_len (vs : List Int) (gates : List Gate) : ∀ s, (scat vs gates s).length = gates.length
  | 0 => by rw [scat, List.length_set, List.length_replicate]
  | s + 1 => by rw [scat, folA_len, scat_len vs gates s]
theorem scat_nn {vs : List Int} (hv : Nn vs) (gates : List Gate) : ∀ s, Nn (scat vs gates s)
  | 0 => fun i => by
    rw [scat, getD_set]
    split
    · omega
    · rw [List.getD_eq_getElem?_getD, List.getElem?_replicate]; split <;> exact Int.le_refl _
  | s + 1 => by rw [scat]; exact nn_le (scat_nn hv gates s) (folA_le hv (scat_nn hv gates s _) _ _)
theorem scat_step {vs : List Int} (hv : Nn vs) (gates : List Gate) (s : Nat) : Le (scat vs gates s) (scat vs gates (s + 1)) := by
  rw [scat]; exact folA_le hv (scat_nn hv gates s _) _ _
theorem scat_le {vs : List Int} (hv : Nn vs) (gates : List Gate) {s : Nat} : ∀ {t : Nat}, s ≤ t → Le (scat vs gates s) (scat vs gates t)
  | 0, h => by rw [Nat.le_zero.1 h]; exact Le.refl _
  | t + 1, h => by
    rcases Nat.lt_or_ge s (t + 1) with h' | h'
    · exact (scat_le hv gates (Nat.le_of_lt_succ h')).trans (scat_step hv gates t)
    · rw [Nat.le_antisymm h h']; exact Le.refl _

def Le2 (T U : List (List Int)) : Prop := ∀ v, Le (T.getD v []) (U.getD v [])
theorem Le2.refl (T : List (List Int)) : Le2 T T := fun _ => Le.refl _
theorem Le2.trans {a b c : List (List Int)} (h : Le2 a b) (k : Le2 b c) : Le2 a c := fun i => (h i).trans (k i)
theorem inc2_le {T : List (List Int)} {v x : Nat} {d : Int} (hd : 0 ≤ d) : Le2 T (inc2 T v x d) := by
  intro u
  rw [inc2, getD_set]
  by_cases h : v = u ∧ v < T.length
  · rw [if_pos h, ← h.1]; exact set_le hd
  · rw [if_neg h]; exact Le.refl _
theorem inc2_len (T : List (List Int)) (v x : Nat) (d : Int) : (inc2 T v x d).length = T.length := List.length_set ..
theorem inc2_row (T : List (List Int)) (v x : Nat) (d : Int) (u : Nat) : ((inc2 T v x d).getD u []).length = (T.getD u []).length := by
  rw [inc2, getD_set]
  by_cases h : v = u ∧ v < T.length
  · rw [if_pos h, ← h.1, List.length_set]
  · rw [if_neg h]
theorem outS_len (cards vs : List Int) (gates : List Gate) : ∀ s, (outS cards vs gates s).length = cards.length
  | 0 => by rw [outS, List.length_map]
  | s + 1 => by
    rw [outS]
    split
    · rw [inc2_len, outS_len cards vs gates s]
    · exact outS_len cards vs gates s
theorem row0 (cards : List Int) (u : Nat) : ((cards.map fun k => List.replicate k.toNat (0 : Int)).getD u []) = List.replicate (cards.getD u 0).toNat 0 := by
  rw [List.getD_eq_getElem?_getD, List.getElem?_map, List.getD_eq_getElem?_getD]
  cases cards[u]? <;> rfl
theorem outS_row (cards vs : List Int) (gates : List Gate) (u : Nat) : ∀ s, ((outS cards vs gates s).getD u []).length = (cards.getD u 0).toNat
  | 0 => by rw [outS, row0, List.length_replicate]
  | s + 1 => by
    rw [outS]
    split
    · rw [inc2_row, outS_row cards vs gates u s]
    · exact outS_row cards vs gates u s
theorem outS_step {cards vs : List Int} (hv : Nn vs) (gates : List Gate) (s : Nat) : Le2 (outS cards vs gates s) (outS cards vs gates (s + 1)) := by
  rw [outS]
  split
  · exact inc2_le (scat_nn hv gates _ _)
  · exact Le2.refl _
theorem outS_le {cards vs : List Int} (hv : Nn vs) (gates : List Gate) {s : Nat} : ∀ {t : Nat}, s ≤ t → Le2 (outS cards vs gates s) (outS cards vs gates t)
  | 0, h => by rw [Nat.le_zero.1 h]; exact Le2.refl _
  | t + 1, h => by
    rcases Nat.lt_or_ge s (t + 1) with h' | h'
    · exact (outS_le hv gates (Nat.le_of_lt_succ h')).trans (outS_step hv gates t)
    · rw [Nat.le_antisymm h h']; exact Le2.refl _
theorem outS_nn {cards vs : List Int} (hv : Nn vs) (gates : List Gate) (s : Nat) (u : Nat) : Nn ((outS cards vs gates s).getD u []) := by
  refine nn_le (fun i => ?_) (outS_le hv gates (Nat.zero_le s) u)
  rw [outS, row0, List.getD_eq_getElem?_getD, List.getElem?_replicate]
  split <;> exact Int.le_refl _
/-- No derivative is too great. -/
def okD (cards vs : List Int) (gates : List Gate) : Prop := (∀ i, (scat vs gates gates.length).getD i 0 ≤ 4611686018427387903) ∧ ∀ v x, ((outS cards vs gates gates.length).getD v []).getD x 0 ≤ 4611686018427387903
/-- The derivatives while a gate's arguments are gone through. -/
def innL (vs : List Int) (gates : List Gate) (s t : Nat) : List Int := ((gAt gates s).2.2.2.2.take t).foldl (stepA vs (gAt gates s) ((scat vs gates s).getD (gates.length - 1 - s) 0)) (scat vs gates s)
theorem innL_zero (vs : List Int) (gates : List Gate) (s : Nat) : innL vs gates s 0 = scat vs gates s := rfl
theorem innL_end (vs : List Int) (gates : List Gate) (s : Nat) : innL vs gates s (gAt gates s).2.2.2.2.length = scat vs gates (s + 1) := by rw [innL, List.take_length, scat]
theorem innL_len (vs : List Int) (gates : List Gate) (s t : Nat) : (innL vs gates s t).length = gates.length := by rw [innL, folA_len, scat_len]
theorem innL_le {vs : List Int} (hv : Nn vs) (gates : List Gate) (s t : Nat) : Le (innL vs gates s t) (scat vs gates (s + 1)) := by
  rw [innL, scat]; exact folA_take_le hv (scat_nn hv gates s _) _ _ _
theorem innL_nn {vs : List Int} (hv : Nn vs) (gates : List Gate) (s t : Nat) : Nn (innL vs gates s t) := by
  rw [innL]; exact nn_le (scat_nn hv gates s) (folA_le hv (scat_nn hv gates s _) _ _)
theorem nn_of {l : List Int} (h : numsOK l) : Nn l := by
  intro i
  rcases Nat.lt_or_ge i l.length with hi | hi
  · exact (h _ (getD_mem hi)).1
  · rw [List.getD_eq_getElem?_getD, List.getElem?_eq_none hi]; exact Int.le_refl _
theorem gAt_args {cards : List Int} {gates : List Gate} {s : Nat} (hg : gOK cards (gates.length - 1 - s : Nat) (gAt gates s) = true) : argsB (gates.length - 1 - s : Nat) (gAt gates s).2.2.2.2 = true := by
  rcases gate_ok hg with h | h | h
  · rw [h.2.2.2]; rfl
  · rw [h.2.2.2.2.2]; rfl
  · exact h.2.2
theorem args_places {vs args : List Int} {i : Nat} (hn : numsOK vs) (ha : argsB i args = true) (hi : i < vs.length) : placesOK vs args := by
  intro a hm
  obtain ⟨h1, h2⟩ := args_mem ha a hm
  have h3 := hn _ (getD_mem (l := vs) (v := a.toNat) (d := 0) (by omega))
  exact ⟨h1, by omega, h3⟩
theorem innL_self {cards : List Int} {vs : List Int} {gates : List Gate} {s : Nat} (hg : gOK cards (gates.length - 1 - s : Nat) (gAt gates s) = true) (t : Nat) :
    (innL vs gates s t).getD (gates.length - 1 - s) 0 = (scat vs gates s).getD (gates.length - 1 - s) 0 := by
  rw [innL, folA_other]
  intro a ha e
  obtain ⟨h1, h2⟩ := args_mem (gAt_args hg) a (List.mem_of_mem_take ha)
  omega
/-- One argument of a gate. -/
theorem inn_step {cards : List Int} {vs : List Int} {gates : List Gate} {s t : Nat} (hn : numsOK vs) (hv : vs.length = gates.length) (hs : s < gates.length) (hg : gOK cards (gates.length - 1 - s : Nat) (gAt gates s) = true) (ht : t < (gAt gates s).2.2.2.2.length) :
    0 ≤ (gAt gates s).2.2.2.2.getD t 0 ∧ ((gAt gates s).2.2.2.2.getD t 0).toNat < gates.length - 1 - s ∧ 0 ≤ (innL vs gates s t).getD ((gAt gates s).2.2.2.2.getD t 0).toNat 0 ∧ 0 ≤ byD vs (gAt gates s) ((gAt gates s).2.2.2.2.getD t 0) ∧
      innL vs gates s (t + 1) = (innL vs gates s t).set ((gAt gates s).2.2.2.2.getD t 0).toNat ((innL vs gates s t).getD ((gAt gates s).2.2.2.2.getD t 0).toNat 0 + (scat vs gates s).getD (gates.length - 1 - s) 0 * byD vs (gAt gates s) ((gAt gates s).2.2.2.2.getD t 0)) ∧
      (innL vs gates s (t + 1)).getD ((gAt gates s).2.2.2.2.getD t 0).toNat 0 = (innL vs gates s t).getD ((gAt gates s).2.2.2.2.getD t 0).toNat 0 + (scat vs gates s).getD (gates.length - 1 - s) 0 * byD vs (gAt gates s) ((gAt gates s).2.2.2.2.getD t 0) := by
  obtain ⟨h1, h2⟩ := args_mem (gAt_args hg) _ (getD_mem (d := 0) ht)
  have e : innL vs gates s (t + 1) = (innL vs gates s t).set ((gAt gates s).2.2.2.2.getD t 0).toNat ((innL vs gates s t).getD ((gAt gates s).2.2.2.2.getD t 0).toNat 0 + (scat vs gates s).getD (gates.length - 1 - s) 0 * byD vs (gAt gates s) ((gAt gates s).2.2.2.2.getD t 0)) := by
    rw [innL, folA_take ht, getD_lt ht]; rfl
  refine ⟨h1, by omega, innL_nn (nn_of hn) gates s t _, byD_nn (nn_of hn) _ _, e, ?_⟩
  rw [e, getD_set, if_pos ⟨rfl, by rw [innL_len]; omega⟩]
theorem inn_bound {cards : List Int} {vs : List Int} {gates : List Gate} (hn : numsOK vs) (hD : okD cards vs gates) {s : Nat} (hs : s < gates.length) (t i : Nat) : (innL vs gates s t).getD i 0 ≤ 4611686018427387903 :=
  Int.le_trans (innL_le (nn_of hn) gates s t i) (Int.le_trans (scat_le (nn_of hn) gates hs i) (hD.1 i))
theorem mul_le_right {d b m : Int} (hd : 0 < d) (hb : 0 ≤ b) (h : d * b ≤ m) : b ≤ m := by
  have : 1 * b ≤ d * b := Int.mul_le_mul_of_nonneg_right (by omega) hb
  omega
end Go.Proofs.Ytbgnnpbcifgckaa
namespace Go.Proofs.Ytbgnnpbcifgckaa
open Go Go.Fw Go.RowKit
set_option maxRecDepth 100000
set_option maxHeartbeats 4000000
def rowsJ (cards : List Int) (j : Nat) : List (List Int) := ((cards.take j).map fun k => List.replicate k.toNat 0) ++ List.replicate (cards.length - j) []
theorem isgate {cards : List Int} {i : Int} {g : Gate} (h : gOK cards i g = true) (h2 : g.1 = 2) : g.1 = 2 ∧ 0 ≤ g.2.1 ∧ g.2.1 < cards.length ∧ 0 ≤ g.2.2.1 ∧ g.2.2.1 < cards.getD g.2.1.toNat 0 ∧ g.2.2.2.2 = [] := by
  rcases gate_ok h with h | h | h
  · omega
  · exact h
  · omega
theorem rowsJ_len {cards : List Int} {j : Nat} (h : j ≤ cards.length) : (rowsJ cards j).length = cards.length := by
  rw [rowsJ, List.length_append, List.length_map, List.length_take, List.length_replicate]; omega
theorem rowsJ_step {cards : List Int} {j : Nat} (h : j < cards.length) : (rowsJ cards j).set j (List.replicate (cards.getD j 0).toNat 0) = rowsJ cards (j + 1) := by
  have e : cards.length - j = (cards.length - (j + 1)) + 1 := by omega
  rw [rowsJ, rowsJ, e, List.replicate_succ, take_step h, List.map_append, List.append_assoc, List.map_singleton, getD_lt h]
  rw [List.set_append_right _ _ (by rw [List.length_map, List.length_take]; omega)]
  rw [show j - ((cards.take j).map fun k => List.replicate k.toNat (0 : Int)).length = 0 by rw [List.length_map, List.length_take]; omega]
  rfl
theorem rowsJ_end (cards vs : List Int) (gates : List Gate) {j : Nat} (h : j = cards.length) : rowsJ cards j = outS cards vs gates 0 := by
  rw [rowsJ, outS, h, Nat.sub_self, List.take_length, List.replicate_zero, List.append_nil]
theorem outS_inc {cards vs : List Int} {gates : List Gate} {s : Nat} (h2 : (gAt gates s).1 = 2) (hx : (gAt gates s).2.2.1.toNat < ((outS cards vs gates s).getD (gAt gates s).2.1.toNat []).length) (hv : (gAt gates s).2.1.toNat < (outS cards vs gates s).length) :
    ((outS cards vs gates (s + 1)).getD (gAt gates s).2.1.toNat []).getD (gAt gates s).2.2.1.toNat 0 = ((outS cards vs gates s).getD (gAt gates s).2.1.toNat []).getD (gAt gates s).2.2.1.toNat 0 + (scat vs gates (s + 1)).getD (gates.length - 1 - s) 0 := by
  rw [outS, if_pos h2, inc2, getD_set, if_pos ⟨rfl, hv⟩, getD_set, if_pos ⟨rfl, hx⟩]
theorem derive_fn (cards : List Int) (gates : List Gate) (input vs : List Int) (hr : rightB cards gates = true) (hvs : vs.length = gates.length) (hn : numsOK vs) (hargs : ∀ g ∈ gates, g.2.2.2.2.length ≤ 4611686018427387903) (hD : okD cards vs gates) (h1 : 1 ≤ gates.length) (h2 : gates.length ≤ 4000) (h8 : cards.length ≤ 8) (hc : ∀ v, v < cards.length → 1 ≤ cards.getD v 0 ∧ cards.getD v 0 ≤ 4) :
    Fw.Fn Try.prog 48 [runP cards gates input vs] [] (.own 0) [(0, some (.deep (.sl (.i .i64)) (outS cards vs gates gates.length)))] := by
  have hlr : (List.replicate gates.length (0 : Int)).length = gates.length := List.length_replicate
  refine fnR_go env_own mixed Try.func48 (c := Try.f48.body.get rfl) rfl (by kernel_rfl) [(7, [.hat 4 [] 5 []]), (22, [.hat 4 [] 8 [1]])] [] [(2, [])] rfl ?_
  repeat' first | apply And.intro | (intro h; (cases h; done)) | intro _ | exact True.intro | (show Region.lexB _ _ = true; kernel_rfl)
  all_goals try omega
  all_goals (try simp only [decT, decF, beq_iff_eq, bne_iff_ne, ne_eq, beq_eq_false_iff_ne, bne_eq_false_iff_eq, Decidable.not_not, Int.toNat_natCast, Bool.not_eq_true', Bool.not_eq_false', Bool.not_eq_true, Bool.not_eq_false, Int.not_lt, Int.not_le] at *; try dsimp only [D, IK, dz] at *)
  all_goals try omega
  refine ⟨loopI (fun j : Nat => { n := 125, t := [(0, .ip .old [.dat .old (.i .i64) cards, .dat .old gT gates, .dat .old (.i .i64) input, .dat .old (.i .i64) vs] 0), (3, .own 0), (4, .own 1), (35, .dat .old (.i .i64) cards), (36, .val (.int .i64 (↑(List.length cards)))), (37, .val (.int .i64 j))], h := [(0, some (.arr .fr (.i .i64) (scat vs gates 0))), (1, some (.deep (.sl (.i .i64)) (rowsJ cards j)))], nx := 2 }) (fun j => cards.length - j) (fun j => Ok (j ≤ cards.length)),
    loopI.start 0 [] [0, 3, 4, 35, 36, 37] [(3, []), (4, [])] .fr (by (repeat' first | apply And.intro | rfl) <;> first | (rw [scat, hlr]; congr 1; omega) | (rw [rowsJ]; rfl) | exact ⟨Nat.zero_le _⟩), ?_⟩
  rintro _ _ ⟨j, rfl, rfl, ⟨hj⟩⟩
  have hcj : j < cards.length → 1 ≤ cards.getD j 0 ∧ cards.getD j 0 ≤ 4 := hc j
  have hrl : (rowsJ cards j).length = cards.length := rowsJ_len hj
  repeat' first | apply And.intro | (intro h; (cases h; done)) | intro _ | exact True.intro | (show Region.lexB _ _ = true; kernel_rfl) | refine loopI.next (j + 1) [] [0, 3, 4, 35, 36, 37] [(3, []), (4, [])] .fr ?_
  all_goals try omega
  all_goals (try simp only [decT, decF, beq_iff_eq, bne_iff_ne, ne_eq, beq_eq_false_iff_ne, bne_eq_false_iff_eq, Decidable.not_not, Int.toNat_natCast, Bool.not_eq_true', Bool.not_eq_false', Bool.not_eq_true, Bool.not_eq_false, Int.not_lt, Int.not_le] at *; try dsimp only [D, IK, dz] at *)
  all_goals try omega
  all_goals by_cases h0 : (j : Int) < cards.length
  all_goals try simp only [show j < cards.length by omega, true_implies] at hcj
  all_goals try omega
  · exact rowsJ_step (by omega)
  · exact ⟨by omega⟩
  · rw [scat_len]; omega
  have hjc : rowsJ cards j = outS cards vs gates 0 := rowsJ_end cards vs gates (by omega)
  rw [hjc]
  refine ⟨loopI (fun s : Nat => { n := 125, t := [(0, .ip .old [.dat .old (.i .i64) cards, .dat .old gT gates, .dat .old (.i .i64) input, .dat .old (.i .i64) vs] 0), (3, .own 0), (4, .own 1), (7, .val (.int .i64 (gates.length - 1 - s)))], h := [(0, some (.arr .fr (.i .i64) (scat vs gates s))), (1, some (.deep (.sl (.i .i64)) (outS cards vs gates s)))], nx := 2 }) (fun s => gates.length - s) (fun s => Ok (s ≤ gates.length)),
    loopI.start 0 [] [0, 3, 4, 7] [(3, []), (4, [])] .fr (by (repeat' first | apply And.intro | rfl) <;> first | (rw [scat_len]; omega) | exact ⟨Nat.zero_le _⟩), ?_⟩
  clear hjc hrl hcj hj h0
  rintro _ _ ⟨s, rfl, rfl, ⟨hs⟩⟩
  have hsl : s < gates.length → ((gates.length : Int) - 1 - s).toNat = gates.length - 1 - s := fun h => by omega
  by_cases hlt : s < gates.length
  · have hgk : gOK cards (gates.length - 1 - s : Nat) (gAt gates s) = true := (right_all hr).2 _ (show gates.length - 1 - s < gates.length by omega)
    have hal : (gAt gates s).2.2.2.2.length ≤ 4611686018427387903 := hargs _ (getD_mem (d := gz) (show gates.length - 1 - s < gates.length by omega))
    have hx := hsl hlt
    repeat' first | apply And.intro | (intro h; (cases h; done)) | intro _ | exact True.intro | (show Region.lexB _ _ = true; kernel_rfl)
    all_goals (try simp only [decT, decF, beq_iff_eq, bne_iff_ne, ne_eq, beq_eq_false_iff_ne, bne_eq_false_iff_eq, Decidable.not_not, Int.toNat_natCast, Bool.not_eq_true', Bool.not_eq_false', Bool.not_eq_true, Bool.not_eq_false, Int.not_lt, Int.not_le] at *; try dsimp only [D, IK, dz] at *)
    all_goals try simp only [hx]
    all_goals try omega
    repeat' first | apply And.intro | (intro h; (cases h; done)) | intro _ | exact True.intro | (show Region.lexB _ _ = true; kernel_rfl)
    refine ⟨loopI (fun t : Nat => { n := 125, t := [(0, .ip .old [.dat .old (.i .i64) cards, .dat .old gT gates, .dat .old (.i .i64) input, .dat .old (.i .i64) vs] 0), (3, .own 0), (4, .own 1), (7, .val (.int .i64 (↑(List.length gates) - 1 - ↑s))), (8, .ptr 2 0), (64, .dat .old (.i .i64) (gAt gates s).2.2.2.2), (65, .val (.int .i64 (↑(List.length (gAt gates s).2.2.2.2)))), (66, .val (.int .i64 t))], h := [(0, some (.arr .fr (.i .i64) (innL vs gates s t))), (1, some (.deep (.sl (.i .i64)) (outS cards vs gates s))), (2, some (.cells [.val (.int .i64 (gAt gates s).1), .val (.int .i64 (gAt gates s).2.1), .val (.int .i64 (gAt gates s).2.2.1), .val (.int .i64 (gAt gates s).2.2.2.1), .dat .old (.i .i64) (gAt gates s).2.2.2.2]))], nx := 3 }) (fun t => (gAt gates s).2.2.2.2.length - t) (fun t => Ok (t ≤ (gAt gates s).2.2.2.2.length)),
      loopI.start 0 [] [0, 3, 4, 7, 8, 64, 65, 66] [(3, []), (4, []), (8, [])] .fr (by (repeat' first | apply And.intro | rfl); exact ⟨Nat.zero_le _⟩), ?_⟩
    rintro _ _ ⟨t, rfl, rfl, ⟨ht⟩⟩
    have hil := innL_len vs gates s t
    have his := innL_self (vs := vs) hgk t
    have hdb := Int.le_trans (scat_le (nn_of hn) gates (Nat.le_of_lt hlt) (gates.length - 1 - s)) (hD.1 (gates.length - 1 - s))
    have hdn := scat_nn (nn_of hn) gates s (gates.length - 1 - s)
    have hxd : (innL vs gates s t).getD ((gates.length : Int) - 1 - s).toNat 0 = (scat vs gates s).getD (gates.length - 1 - s) 0 := by rw [hx, his]
    by_cases htl : t < (gAt gates s).2.2.2.2.length
    · obtain ⟨a1, a2, a3, a4, a5, a6⟩ := inn_step hn hvs hlt hgk htl
      have hb := inn_bound hn hD hlt (t + 1) ((gAt gates s).2.2.2.2.getD t 0).toNat
      have hp := args_places hn (gAt_args hgk) (show gates.length - 1 - s < vs.length by omega)
      by_cases h4 : (gAt gates s).1 = 4
      · have hby : byD vs (gAt gates s) ((gAt gates s).2.2.2.2.getD t 0) = prodI (butF vs (gAt gates s).2.2.2.2 ((gAt gates s).2.2.2.2.getD t 0)) := if_pos h4
        rw [hby] at a4 a5 a6
        by_cases hd0 : 0 < (scat vs gates s).getD (gates.length - 1 - s) 0
        · have hm := Int.mul_nonneg (Int.le_of_lt hd0) a4
          have hpb := mul_le_right hd0 a4 (show _ ≤ 4611686018427387903 by omega)
          repeat' first | apply And.intro | (intro h; (cases h; done)) | intro _ | exact True.intro | (show Region.lexB _ _ = true; kernel_rfl) | refine loopI.next (t + 1) [] [0, 3, 4, 7, 8, 64, 65, 66] [(3, []), (4, []), (8, [])] .fr ?_ | refine CallK.fn [] (times_fn _ _ ?_ ?_ ?_ ?_ ?_) rfl rfl rfl rfl rfl trivial ?_ | refine CallK.fn [] (plus_fn _ _ ?_ ?_ ?_) rfl rfl rfl rfl rfl trivial ?_ | refine CallK.fn [] (others_fn cards gates input vs (gAt gates s) _ ?_ hp ?_) rfl rfl rfl rfl rfl trivial ?_
          all_goals (try simp only [decT, decF, beq_iff_eq, bne_iff_ne, ne_eq, beq_eq_false_iff_ne, bne_eq_false_iff_eq, Decidable.not_not, Int.toNat_natCast, Bool.not_eq_true', Bool.not_eq_false', Bool.not_eq_true, Bool.not_eq_false, Int.not_lt, Int.not_le] at *; try dsimp only [D, IK, dz] at *)
          all_goals try simp only [hx, his]
          all_goals try omega
          all_goals first | assumption | exact a5.symm | exact ⟨by omega⟩ | skip
        · have hd1 : (scat vs gates s).getD (gates.length - 1 - s) 0 = 0 := by omega
          rw [hd1, Int.zero_mul, Int.add_zero] at a5 a6
          rw [hd1] at his hxd
          repeat' first | apply And.intro | (intro h; (cases h; done)) | intro _ | exact True.intro | (show Region.lexB _ _ = true; kernel_rfl) | refine loopI.next (t + 1) [] [0, 3, 4, 7, 8, 64, 65, 66] [(3, []), (4, []), (8, [])] .fr ?_ | refine CallK.fn [] (times_fn _ _ ?_ ?_ ?_ ?_ ?_) rfl rfl rfl rfl rfl trivial ?_ | refine CallK.fn [] (plus_fn _ _ ?_ ?_ ?_) rfl rfl rfl rfl rfl trivial ?_
          (all_goals try (show Fw.xRun _ _ _ _ _ _ _ _; exfalso; (try simp only [decT, decF, beq_iff_eq, bne_iff_ne, ne_eq, beq_eq_false_iff_ne, bne_eq_false_iff_eq, Decidable.not_not, Int.toNat_natCast, Bool.not_eq_true', Bool.not_eq_false', Bool.not_eq_true, Bool.not_eq_false, Int.not_lt, Int.not_le] at *); omega))
          all_goals (try simp only [decT, decF, beq_iff_eq, bne_iff_ne, ne_eq, beq_eq_false_iff_ne, bne_eq_false_iff_eq, Decidable.not_not, Int.toNat_natCast, Bool.not_eq_true', Bool.not_eq_false', Bool.not_eq_true, Bool.not_eq_false, Int.not_lt, Int.not_le] at *; try dsimp only [D, IK, dz] at *)
          all_goals try simp only [hx, his, Int.zero_mul, Int.add_zero]
          all_goals try omega
          all_goals first | assumption | exact a5.symm | exact ⟨by omega⟩ | skip
      · have hby : byD vs (gAt gates s) ((gAt gates s).2.2.2.2.getD t 0) = 1 := if_neg h4
        rw [hby, Int.mul_one] at a5 a6
        repeat' first | apply And.intro | (intro h; (cases h; done)) | intro _ | exact True.intro | (show Region.lexB _ _ = true; kernel_rfl) | refine loopI.next (t + 1) [] [0, 3, 4, 7, 8, 64, 65, 66] [(3, []), (4, []), (8, [])] .fr ?_ | refine CallK.fn [] (times_fn _ _ ?_ ?_ ?_ ?_ ?_) rfl rfl rfl rfl rfl trivial ?_ | refine CallK.fn [] (plus_fn _ _ ?_ ?_ ?_) rfl rfl rfl rfl rfl trivial ?_
        all_goals (try simp only [decT, decF, beq_iff_eq, bne_iff_ne, ne_eq, beq_eq_false_iff_ne, bne_eq_false_iff_eq, Decidable.not_not, Int.toNat_natCast, Bool.not_eq_true', Bool.not_eq_false', Bool.not_eq_true, Bool.not_eq_false, Int.not_lt, Int.not_le] at *; try dsimp only [D, IK, dz] at *)
        all_goals try simp only [hx, his, Int.mul_one]
        all_goals try omega
        all_goals first | assumption | exact a5.symm | exact ⟨by omega⟩ | skip
    · have hte : t = (gAt gates s).2.2.2.2.length := by omega
      have hie : innL vs gates s t = scat vs gates (s + 1) := by rw [hte]; exact innL_end vs gates s
      rw [hie] at his
      have ho := outS_len cards vs gates s
      have hsl2 := scat_len vs gates (s + 1)
      have hr2 := outS_row cards vs gates (gAt gates s).2.1.toNat s
      by_cases h2k : (gAt gates s).1 = 2
      · obtain ⟨_, g1, g2, g3, g4, _⟩ := isgate hgk h2k
        have hon := outS_nn (cards := cards) (nn_of hn) gates s (gAt gates s).2.1.toNat (gAt gates s).2.2.1.toNat
        repeat' first | apply And.intro | (intro h; (cases h; done)) | intro _ | exact True.intro | (show Region.lexB _ _ = true; kernel_rfl) | refine CallK.fn [] (plus_fn _ _ ?_ ?_ ?_) rfl rfl rfl rfl rfl trivial ?_ | refine loopI.next (s + 1) [] [0, 3, 4, 7] [(3, []), (4, [])] .fr ?_
        all_goals (try simp only [decT, decF, beq_iff_eq, bne_iff_ne, ne_eq, beq_eq_false_iff_ne, bne_eq_false_iff_eq, Decidable.not_not, Int.toNat_natCast, Bool.not_eq_true', Bool.not_eq_false', Bool.not_eq_true, Bool.not_eq_false, Int.not_lt, Int.not_le] at *; try dsimp only [D, IK, dz] at *)
        all_goals try simp only [hx, his, hie]
        all_goals try omega
        all_goals first | assumption | exact ⟨by omega⟩ | skip
        · have h5 := outS_inc (cards := cards) (vs := vs) h2k (by omega) (by omega)
          have h6 := Int.le_trans (outS_le (nn_of hn) gates (show s + 1 ≤ gates.length from hlt) (gAt gates s).2.1.toNat (gAt gates s).2.2.1.toNat) (hD.2 (gAt gates s).2.1.toNat (gAt gates s).2.2.1.toNat)
          omega
        · rw [outS, if_pos h2k, his]; rfl
      · repeat' first | apply And.intro | (intro h; (cases h; done)) | intro _ | exact True.intro | (show Region.lexB _ _ = true; kernel_rfl) | refine loopI.next (s + 1) [] [0, 3, 4, 7] [(3, []), (4, [])] .fr ?_
        all_goals (try simp only [decT, decF, beq_iff_eq, bne_iff_ne, ne_eq, beq_eq_false_iff_ne, bne_eq_false_iff_eq, Decidable.not_not, Int.toNat_natCast, Bool.not_eq_true', Bool.not_eq_false', Bool.not_eq_true, Bool.not_eq_false, Int.not_lt, Int.not_le] at *; try dsimp only [D, IK, dz] at *)
        all_goals try simp only [hx, his, hie]
        all_goals try omega
        all_goals first | assumption | exact ⟨by omega⟩ | skip
        · rw [outS, if_neg h2k]
  · have hse : s = gates.length := by omega
    repeat' first | apply And.intro | (intro h; (cases h; done)) | intro _ | exact True.intro | (show Region.lexB _ _ = true; kernel_rfl)
    all_goals (try simp only [decT, decF, beq_iff_eq, bne_iff_ne, ne_eq, beq_eq_false_iff_ne, bne_eq_false_iff_eq, Decidable.not_not, Int.toNat_natCast, Bool.not_eq_true', Bool.not_eq_false', Bool.not_eq_true, Bool.not_eq_false, Int.not_lt, Int.not_le] at *; try dsimp only [D, IK, dz] at *)
    all_goals try omega
    · rw [hse]
end Go.Proofs.Ytbgnnpbcifgckaa
namespace Go.Proofs.Ytbgnnpbcifgckaa
open Go Go.Fw Go.RowKit
set_option maxRecDepth 100000
set_option maxHeartbeats 4000000
/-- No number of the list is too great. -/
def lowL (l : List Int) : Prop := ∀ i, l.getD i 0 ≤ 4611686018427387903
theorem low_at {l : List Int} {k : Nat} {x : Int} (h : lowL l) (hx : x ≤ 4611686018427387903) : lowL (l.set k x) := by
  intro i
  rw [getD_set]
  split
  · exact hx
  · exact h i
theorem low_set {l l' : List Int} {k : Nat} {x : Int} (h : lowL l) (e : l' = l.set k x) (hx : x ≤ 4611686018427387903) : lowL l' := e ▸ low_at h hx
theorem low_rep (n : Nat) : lowL (List.replicate n 0) := by
  intro i
  rw [List.getD_eq_getElem?_getD, List.getElem?_replicate]
  split <;> exact (by decide : (0 : Int) ≤ 4611686018427387903)
theorem scat0_low (vs : List Int) (gates : List Gate) : lowL (scat vs gates 0) := by
  rw [scat]; exact low_at (low_rep _) (by decide)
theorem outS0_low (cards vs : List Int) (gates : List Gate) : ∀ v, lowL ((outS cards vs gates 0).getD v []) := fun v => by
  rw [outS, row0]; exact low_rep _
theorem low_inc {cards vs : List Int} {gates : List Gate} {s : Nat} (h : ∀ v, lowL ((outS cards vs gates s).getD v [])) (h2 : (gAt gates s).1 = 2)
    (hx : ((outS cards vs gates s).getD (gAt gates s).2.1.toNat []).getD (gAt gates s).2.2.1.toNat 0 + (scat vs gates (s + 1)).getD (gates.length - 1 - s) 0 ≤ 4611686018427387903) : ∀ v, lowL ((outS cards vs gates (s + 1)).getD v []) := by
  intro v
  rw [outS, if_pos h2, inc2, getD_set]
  split
  · exact low_at (h _) hx
  · exact h v
theorem derive_pn (cards : List Int) (gates : List Gate) (input vs : List Int) (hr : rightB cards gates = true) (hvs : vs.length = gates.length) (hn : numsOK vs) (hargs : ∀ g ∈ gates, g.2.2.2.2.length ≤ 4611686018427387903) (hD : ¬ okD cards vs gates) (h1 : 1 ≤ gates.length) (h2 : gates.length ≤ 4000) (h8 : cards.length ≤ 8) (hc : ∀ v, v < cards.length → 1 ≤ cards.getD v 0 ∧ cards.getD v 0 ≤ 4) :
    Fw.FnP Try.prog 48 [runP cards gates input vs] [] (.ifc 107 (.agg [])) [] := by
  have hlr : (List.replicate gates.length (0 : Int)).length = gates.length := List.length_replicate
  refine fnP_goH env_own mixed Try.func48 (c := Try.f48.body.get rfl) rfl (by kernel_rfl) [(7, [.hat 4 [] 5 []]), (22, [.hat 4 [] 8 [1]])] [] rfl ?_
  repeat' first | apply And.intro | (intro h; (cases h; done)) | intro _ | exact True.intro | (show Region.lexB _ _ = true; kernel_rfl)
  all_goals try omega
  all_goals (try simp only [decT, decF, beq_iff_eq, bne_iff_ne, ne_eq, beq_eq_false_iff_ne, bne_eq_false_iff_eq, Decidable.not_not, Int.toNat_natCast, Bool.not_eq_true', Bool.not_eq_false', Bool.not_eq_true, Bool.not_eq_false, Int.not_lt, Int.not_le] at *; try dsimp only [D, IK, dz] at *)
  all_goals try omega
  refine ⟨loopI (fun j : Nat => { n := 125, t := [(0, .ip .old [.dat .old (.i .i64) cards, .dat .old gT gates, .dat .old (.i .i64) input, .dat .old (.i .i64) vs] 0), (3, .own 0), (4, .own 1), (35, .dat .old (.i .i64) cards), (36, .val (.int .i64 (↑(List.length cards)))), (37, .val (.int .i64 j))], h := [(0, some (.arr .fr (.i .i64) (scat vs gates 0))), (1, some (.deep (.sl (.i .i64)) (rowsJ cards j)))], nx := 2 }) (fun j => cards.length - j) (fun j => Ok (j ≤ cards.length)),
    loopI.start 0 [] [0, 3, 4, 35, 36, 37] [(3, []), (4, [])] .fr (by (repeat' first | apply And.intro | rfl) <;> first | (rw [scat, hlr]; congr 1; omega) | (rw [rowsJ]; rfl) | exact ⟨Nat.zero_le _⟩), ?_⟩
  rintro _ _ ⟨j, rfl, rfl, ⟨hj⟩⟩
  have hcj : j < cards.length → 1 ≤ cards.getD j 0 ∧ cards.getD j 0 ≤ 4 := hc j
  have hrl : (rowsJ cards j).length = cards.length := rowsJ_len hj
  repeat' first | apply And.intro | (intro h; (cases h; done)) | intro _ | exact True.intro | (show Region.lexB _ _ = true; kernel_rfl) | refine loopI.next (j + 1) [] [0, 3, 4, 35, 36, 37] [(3, []), (4, [])] .fr ?_
  all_goals try omega
  all_goals (try simp only [decT, decF, beq_iff_eq, bne_iff_ne, ne_eq, beq_eq_false_iff_ne, bne_eq_false_iff_eq, Decidable.not_not, Int.toNat_natCast, Bool.not_eq_true', Bool.not_eq_false', Bool.not_eq_true, Bool.not_eq_false, Int.not_lt, Int.not_le] at *; try dsimp only [D, IK, dz] at *)
  all_goals try omega
  all_goals by_cases h0 : (j : Int) < cards.length
  all_goals try simp only [show j < cards.length by omega, true_implies] at hcj
  all_goals try omega
  · exact rowsJ_step (by omega)
  · exact ⟨by omega⟩
  · rw [scat_len]; omega
  have hjc : rowsJ cards j = outS cards vs gates 0 := rowsJ_end cards vs gates (by omega)
  rw [hjc]
  refine ⟨loopI (fun s : Nat => { n := 125, t := [(0, .ip .old [.dat .old (.i .i64) cards, .dat .old gT gates, .dat .old (.i .i64) input, .dat .old (.i .i64) vs] 0), (3, .own 0), (4, .own 1), (7, .val (.int .i64 (gates.length - 1 - s)))], h := [(0, some (.arr .fr (.i .i64) (scat vs gates s))), (1, some (.deep (.sl (.i .i64)) (outS cards vs gates s)))], nx := 2 }) (fun s => gates.length - s) (fun s => Ok (s ≤ gates.length ∧ lowL (scat vs gates s) ∧ ∀ v, lowL ((outS cards vs gates s).getD v []))),
    loopI.start 0 [] [0, 3, 4, 7] [(3, []), (4, [])] .fr (by (repeat' first | apply And.intro | rfl) <;> first | (rw [scat_len]; omega) | exact ⟨Nat.zero_le _, scat0_low vs gates, outS0_low cards vs gates⟩), ?_⟩
  clear hjc hrl hcj hj h0
  rintro _ _ ⟨s, rfl, rfl, ⟨hs, hls, hlo⟩⟩
  have hsl : s < gates.length → ((gates.length : Int) - 1 - s).toNat = gates.length - 1 - s := fun h => by omega
  by_cases hlt : s < gates.length
  · have hgk : gOK cards (gates.length - 1 - s : Nat) (gAt gates s) = true := (right_all hr).2 _ (show gates.length - 1 - s < gates.length by omega)
    have hal : (gAt gates s).2.2.2.2.length ≤ 4611686018427387903 := hargs _ (getD_mem (d := gz) (show gates.length - 1 - s < gates.length by omega))
    have hx := hsl hlt
    repeat' first | apply And.intro | (intro h; (cases h; done)) | intro _ | exact True.intro | (show Region.lexB _ _ = true; kernel_rfl)
    all_goals (try simp only [decT, decF, beq_iff_eq, bne_iff_ne, ne_eq, beq_eq_false_iff_ne, bne_eq_false_iff_eq, Decidable.not_not, Int.toNat_natCast, Bool.not_eq_true', Bool.not_eq_false', Bool.not_eq_true, Bool.not_eq_false, Int.not_lt, Int.not_le] at *; try dsimp only [D, IK, dz] at *)
    all_goals try simp only [hx]
    all_goals try omega
    repeat' first | apply And.intro | (intro h; (cases h; done)) | intro _ | exact True.intro | (show Region.lexB _ _ = true; kernel_rfl)
    refine ⟨loopI (fun t : Nat => { n := 125, t := [(0, .ip .old [.dat .old (.i .i64) cards, .dat .old gT gates, .dat .old (.i .i64) input, .dat .old (.i .i64) vs] 0), (3, .own 0), (4, .own 1), (7, .val (.int .i64 (↑(List.length gates) - 1 - ↑s))), (8, .ptr 2 0), (64, .dat .old (.i .i64) (gAt gates s).2.2.2.2), (65, .val (.int .i64 (↑(List.length (gAt gates s).2.2.2.2)))), (66, .val (.int .i64 t))], h := [(0, some (.arr .fr (.i .i64) (innL vs gates s t))), (1, some (.deep (.sl (.i .i64)) (outS cards vs gates s))), (2, some (.cells [.val (.int .i64 (gAt gates s).1), .val (.int .i64 (gAt gates s).2.1), .val (.int .i64 (gAt gates s).2.2.1), .val (.int .i64 (gAt gates s).2.2.2.1), .dat .old (.i .i64) (gAt gates s).2.2.2.2]))], nx := 3 }) (fun t => (gAt gates s).2.2.2.2.length - t) (fun t => Ok (t ≤ (gAt gates s).2.2.2.2.length ∧ lowL (innL vs gates s t))),
      loopI.start 0 [] [0, 3, 4, 7, 8, 64, 65, 66] [(3, []), (4, []), (8, [])] .fr (by (repeat' first | apply And.intro | rfl); exact ⟨Nat.zero_le _, hls⟩), ?_⟩
    rintro _ _ ⟨t, rfl, rfl, ⟨ht, hlt2⟩⟩
    have hil := innL_len vs gates s t
    have his := innL_self (vs := vs) hgk t
    have hdb := hls (gates.length - 1 - s)
    have hdn := scat_nn (nn_of hn) gates s (gates.length - 1 - s)
    have hxd : (innL vs gates s t).getD ((gates.length : Int) - 1 - s).toNat 0 = (scat vs gates s).getD (gates.length - 1 - s) 0 := by rw [hx, his]
    by_cases htl : t < (gAt gates s).2.2.2.2.length
    · obtain ⟨a1, a2, a3, a4, a5, a6⟩ := inn_step hn hvs hlt hgk htl
      have hla := hlt2 ((gAt gates s).2.2.2.2.getD t 0).toNat
      have hp := args_places hn (gAt_args hgk) (show gates.length - 1 - s < vs.length by omega)
      by_cases h4 : (gAt gates s).1 = 4
      · have hby : byD vs (gAt gates s) ((gAt gates s).2.2.2.2.getD t 0) = prodI (butF vs (gAt gates s).2.2.2.2 ((gAt gates s).2.2.2.2.getD t 0)) := if_pos h4
        rw [hby] at a4 a5 a6
        by_cases hd0 : 0 < (scat vs gates s).getD (gates.length - 1 - s) 0
        · have hm := Int.mul_nonneg (Int.le_of_lt hd0) a4
          by_cases c1 : prodI (butF vs (gAt gates s).2.2.2.2 ((gAt gates s).2.2.2.2.getD t 0)) ≤ 4611686018427387903
          · by_cases c2 : (scat vs gates s).getD (gates.length - 1 - s) 0 * prodI (butF vs (gAt gates s).2.2.2.2 ((gAt gates s).2.2.2.2.getD t 0)) ≤ 4611686018427387903
            · by_cases c3 : (innL vs gates s t).getD ((gAt gates s).2.2.2.2.getD t 0).toNat 0 + (scat vs gates s).getD (gates.length - 1 - s) 0 * prodI (butF vs (gAt gates s).2.2.2.2 ((gAt gates s).2.2.2.2.getD t 0)) ≤ 4611686018427387903
              · have hnl := low_set hlt2 a5 c3
                repeat' first | apply And.intro | (intro h; (cases h; done)) | (intro h; exfalso; simp only [decT, decF, beq_iff_eq, beq_eq_false_iff_ne, ne_eq, Int.toNat_natCast] at h; (try dsimp only [D, IK, dz, gT] at h); first | omega | exact absurd h (by assumption) | exact h (by assumption)) | intro _ | exact True.intro | (show Region.lexB _ _ = true; kernel_rfl) | refine loopI.next (t + 1) [] [0, 3, 4, 7, 8, 64, 65, 66] [(3, []), (4, []), (8, [])] .fr ?_ | refine CallK.fn [] (times_fn _ _ ?_ ?_ ?_ ?_ ?_) rfl rfl rfl rfl rfl trivial ?_ | refine CallK.fn [] (plus_fn _ _ ?_ ?_ ?_) rfl rfl rfl rfl rfl trivial ?_ | refine CallK.fn [] (others_fn cards gates input vs (gAt gates s) _ ?_ hp ?_) rfl rfl rfl rfl rfl trivial ?_
                all_goals (try simp only [decT, decF, beq_iff_eq, bne_iff_ne, ne_eq, beq_eq_false_iff_ne, bne_eq_false_iff_eq, Decidable.not_not, Int.toNat_natCast, Bool.not_eq_true', Bool.not_eq_false', Bool.not_eq_true, Bool.not_eq_false, Int.not_lt, Int.not_le] at *; try dsimp only [D, IK, dz] at *)
                all_goals try simp only [hx, his]
                all_goals try omega
                all_goals first | assumption | exact a5.symm | exact ⟨by omega, hnl⟩ | rfl | skip
              · repeat' first | apply And.intro | (intro h; (cases h; done)) | (intro h; exfalso; simp only [decT, decF, beq_iff_eq, beq_eq_false_iff_ne, ne_eq, Int.toNat_natCast] at h; (try dsimp only [D, IK, dz, gT] at h); first | omega | exact absurd h (by assumption) | exact h (by assumption)) | intro _ | exact True.intro | (show Region.lexB _ _ = true; kernel_rfl) | refine CallK.fn [] (times_fn _ _ ?_ ?_ ?_ ?_ ?_) rfl rfl rfl rfl rfl trivial ?_ | refine CallK.pn [] (plus_pn _ _ ?_ ?_ ?_ ?_) rfl rfl rfl rfl rfl trivial ?_ | refine CallK.fn [] (others_fn cards gates input vs (gAt gates s) _ ?_ hp ?_) rfl rfl rfl rfl rfl trivial ?_
                all_goals (try simp only [decT, decF, beq_iff_eq, bne_iff_ne, ne_eq, beq_eq_false_iff_ne, bne_eq_false_iff_eq, Decidable.not_not, Int.toNat_natCast, Bool.not_eq_true', Bool.not_eq_false', Bool.not_eq_true, Bool.not_eq_false, Int.not_lt, Int.not_le] at *; try dsimp only [D, IK, dz] at *)
                all_goals try simp only [hx, his]
                all_goals try omega
                all_goals first | assumption | exact a5.symm | exact ⟨by omega, hnl⟩ | rfl | skip
            · repeat' first | apply And.intro | (intro h; (cases h; done)) | (intro h; exfalso; simp only [decT, decF, beq_iff_eq, beq_eq_false_iff_ne, ne_eq, Int.toNat_natCast] at h; (try dsimp only [D, IK, dz, gT] at h); first | omega | exact absurd h (by assumption) | exact h (by assumption)) | intro _ | exact True.intro | (show Region.lexB _ _ = true; kernel_rfl) | refine CallK.pn [] (times_pn _ _ ?_ ?_ ?_ ?_ ?_) rfl rfl rfl rfl rfl trivial ?_ | refine CallK.fn [] (others_fn cards gates input vs (gAt gates s) _ ?_ hp ?_) rfl rfl rfl rfl rfl trivial ?_
              all_goals (try simp only [decT, decF, beq_iff_eq, bne_iff_ne, ne_eq, beq_eq_false_iff_ne, bne_eq_false_iff_eq, Decidable.not_not, Int.toNat_natCast, Bool.not_eq_true', Bool.not_eq_false', Bool.not_eq_true, Bool.not_eq_false, Int.not_lt, Int.not_le] at *; try dsimp only [D, IK, dz] at *)
              all_goals try simp only [hx, his]
              all_goals try omega
              all_goals first | assumption | exact a5.symm | exact ⟨by omega, hnl⟩ | rfl | skip
          · repeat' first | apply And.intro | (intro h; (cases h; done)) | (intro h; exfalso; simp only [decT, decF, beq_iff_eq, beq_eq_false_iff_ne, ne_eq, Int.toNat_natCast] at h; (try dsimp only [D, IK, dz, gT] at h); first | omega | exact absurd h (by assumption) | exact h (by assumption)) | intro _ | exact True.intro | (show Region.lexB _ _ = true; kernel_rfl) | refine CallK.pn [] (others_pn cards gates input vs (gAt gates s) _ ?_ hp ?_) rfl rfl rfl rfl rfl trivial ?_
            all_goals (try simp only [decT, decF, beq_iff_eq, bne_iff_ne, ne_eq, beq_eq_false_iff_ne, bne_eq_false_iff_eq, Decidable.not_not, Int.toNat_natCast, Bool.not_eq_true', Bool.not_eq_false', Bool.not_eq_true, Bool.not_eq_false, Int.not_lt, Int.not_le] at *; try dsimp only [D, IK, dz] at *)
            all_goals try simp only [hx, his]
            all_goals try omega
            all_goals first | assumption | exact a5.symm | exact ⟨by omega, hnl⟩ | rfl | skip
        · have hd1 : (scat vs gates s).getD (gates.length - 1 - s) 0 = 0 := by omega
          rw [hd1, Int.zero_mul, Int.add_zero] at a5 a6
          rw [hd1] at his hxd
          have hnl := low_set hlt2 a5 hla
          repeat' first | apply And.intro | (intro h; (cases h; done)) | (intro h; exfalso; simp only [decT, decF, beq_iff_eq, beq_eq_false_iff_ne, ne_eq, Int.toNat_natCast] at h; (try dsimp only [D, IK, dz, gT] at h); first | omega | exact absurd h (by assumption) | exact h (by assumption)) | intro _ | exact True.intro | (show Region.lexB _ _ = true; kernel_rfl) | refine loopI.next (t + 1) [] [0, 3, 4, 7, 8, 64, 65, 66] [(3, []), (4, []), (8, [])] .fr ?_ | refine CallK.fn [] (times_fn _ _ ?_ ?_ ?_ ?_ ?_) rfl rfl rfl rfl rfl trivial ?_ | refine CallK.fn [] (plus_fn _ _ ?_ ?_ ?_) rfl rfl rfl rfl rfl trivial ?_
          all_goals (try simp only [decT, decF, beq_iff_eq, bne_iff_ne, ne_eq, beq_eq_false_iff_ne, bne_eq_false_iff_eq, Decidable.not_not, Int.toNat_natCast, Bool.not_eq_true', Bool.not_eq_false', Bool.not_eq_true, Bool.not_eq_false, Int.not_lt, Int.not_le] at *; try dsimp only [D, IK, dz] at *)
          all_goals try simp only [hx, his, Int.zero_mul, Int.add_zero]
          all_goals try omega
          all_goals first | assumption | exact a5.symm | exact ⟨by omega, hnl⟩ | rfl | skip
      · have hby : byD vs (gAt gates s) ((gAt gates s).2.2.2.2.getD t 0) = 1 := if_neg h4
        rw [hby, Int.mul_one] at a5 a6
        by_cases c3 : (innL vs gates s t).getD ((gAt gates s).2.2.2.2.getD t 0).toNat 0 + (scat vs gates s).getD (gates.length - 1 - s) 0 ≤ 4611686018427387903
        · have hnl := low_set hlt2 a5 c3
          repeat' first | apply And.intro | (intro h; (cases h; done)) | (intro h; exfalso; simp only [decT, decF, beq_iff_eq, beq_eq_false_iff_ne, ne_eq, Int.toNat_natCast] at h; (try dsimp only [D, IK, dz, gT] at h); first | omega | exact absurd h (by assumption) | exact h (by assumption)) | intro _ | exact True.intro | (show Region.lexB _ _ = true; kernel_rfl) | refine loopI.next (t + 1) [] [0, 3, 4, 7, 8, 64, 65, 66] [(3, []), (4, []), (8, [])] .fr ?_ | refine CallK.fn [] (times_fn _ _ ?_ ?_ ?_ ?_ ?_) rfl rfl rfl rfl rfl trivial ?_ | refine CallK.fn [] (plus_fn _ _ ?_ ?_ ?_) rfl rfl rfl rfl rfl trivial ?_
          all_goals (try simp only [decT, decF, beq_iff_eq, bne_iff_ne, ne_eq, beq_eq_false_iff_ne, bne_eq_false_iff_eq, Decidable.not_not, Int.toNat_natCast, Bool.not_eq_true', Bool.not_eq_false', Bool.not_eq_true, Bool.not_eq_false, Int.not_lt, Int.not_le] at *; try dsimp only [D, IK, dz] at *)
          all_goals try simp only [hx, his, Int.mul_one]
          all_goals try omega
          all_goals first | assumption | exact a5.symm | exact ⟨by omega, hnl⟩ | rfl | skip
        · repeat' first | apply And.intro | (intro h; (cases h; done)) | (intro h; exfalso; simp only [decT, decF, beq_iff_eq, beq_eq_false_iff_ne, ne_eq, Int.toNat_natCast] at h; (try dsimp only [D, IK, dz, gT] at h); first | omega | exact absurd h (by assumption) | exact h (by assumption)) | intro _ | exact True.intro | (show Region.lexB _ _ = true; kernel_rfl) | refine CallK.fn [] (times_fn _ _ ?_ ?_ ?_ ?_ ?_) rfl rfl rfl rfl rfl trivial ?_ | refine CallK.pn [] (plus_pn _ _ ?_ ?_ ?_ ?_) rfl rfl rfl rfl rfl trivial ?_
          all_goals (try simp only [decT, decF, beq_iff_eq, bne_iff_ne, ne_eq, beq_eq_false_iff_ne, bne_eq_false_iff_eq, Decidable.not_not, Int.toNat_natCast, Bool.not_eq_true', Bool.not_eq_false', Bool.not_eq_true, Bool.not_eq_false, Int.not_lt, Int.not_le] at *; try dsimp only [D, IK, dz] at *)
          all_goals try simp only [hx, his, Int.mul_one]
          all_goals try omega
          all_goals first | assumption | exact a5.symm | exact ⟨by omega, hnl⟩ | rfl | skip
    · have hte : t = (gAt gates s).2.2.2.2.length := by omega
      have hie : innL vs gates s t = scat vs gates (s + 1) := by rw [hte]; exact innL_end vs gates s
      rw [hie] at his
      have ho := outS_len cards vs gates s
      have hsl2 := scat_len vs gates (s + 1)
      have hr2 := outS_row cards vs gates (gAt gates s).2.1.toNat s
      have hln : lowL (scat vs gates (s + 1)) := hie ▸ hlt2
      by_cases h2k : (gAt gates s).1 = 2
      · obtain ⟨_, g1, g2, g3, g4, _⟩ := isgate hgk h2k
        have hon := outS_nn (cards := cards) (nn_of hn) gates s (gAt gates s).2.1.toNat (gAt gates s).2.2.1.toNat
        have hol := hlo (gAt gates s).2.1.toNat (gAt gates s).2.2.1.toNat
        have h5 := outS_inc (cards := cards) (vs := vs) h2k (by omega) (by omega)
        by_cases c4 : ((outS cards vs gates s).getD (gAt gates s).2.1.toNat []).getD (gAt gates s).2.2.1.toNat 0 + (scat vs gates s).getD (gates.length - 1 - s) 0 ≤ 4611686018427387903
        · have hlo2 := low_inc (cards := cards) (vs := vs) (gates := gates) (s := s) hlo h2k (by rw [his]; exact c4)
          repeat' first | apply And.intro | (intro h; (cases h; done)) | (intro h; exfalso; simp only [decT, decF, beq_iff_eq, beq_eq_false_iff_ne, ne_eq, Int.toNat_natCast] at h; (try dsimp only [D, IK, dz, gT] at h); first | omega | exact absurd h (by assumption) | exact h (by assumption)) | intro _ | exact True.intro | (show Region.lexB _ _ = true; kernel_rfl) | refine CallK.fn [] (plus_fn _ _ ?_ ?_ ?_) rfl rfl rfl rfl rfl trivial ?_ | refine loopI.next (s + 1) [] [0, 3, 4, 7] [(3, []), (4, [])] .fr ?_
          all_goals (try simp only [decT, decF, beq_iff_eq, bne_iff_ne, ne_eq, beq_eq_false_iff_ne, bne_eq_false_iff_eq, Decidable.not_not, Int.toNat_natCast, Bool.not_eq_true', Bool.not_eq_false', Bool.not_eq_true, Bool.not_eq_false, Int.not_lt, Int.not_le] at *; try dsimp only [D, IK, dz] at *)
          all_goals try simp only [hx, his, hie]
          all_goals try omega
          all_goals first | assumption | exact ⟨by omega, hln, hlo2⟩ | skip
          · rw [outS, if_pos h2k, his]; rfl
        · repeat' first | apply And.intro | (intro h; (cases h; done)) | (intro h; exfalso; simp only [decT, decF, beq_iff_eq, beq_eq_false_iff_ne, ne_eq, Int.toNat_natCast] at h; (try dsimp only [D, IK, dz, gT] at h); first | omega | exact absurd h (by assumption) | exact h (by assumption)) | intro _ | exact True.intro | (show Region.lexB _ _ = true; kernel_rfl) | refine CallK.pn [] (plus_pn _ _ ?_ ?_ ?_ ?_) rfl rfl rfl rfl rfl trivial ?_
          all_goals (try simp only [decT, decF, beq_iff_eq, bne_iff_ne, ne_eq, beq_eq_false_iff_ne, bne_eq_false_iff_eq, Decidable.not_not, Int.toNat_natCast, Bool.not_eq_true', Bool.not_eq_false', Bool.not_eq_true, Bool.not_eq_false, Int.not_lt, Int.not_le] at *; try dsimp only [D, IK, dz] at *)
          all_goals try simp only [hx, his, hie]
          all_goals try omega
          all_goals first | rfl | skip
      · have hos : outS cards vs gates (s + 1) = outS cards vs gates s := by rw [outS, if_neg h2k]
        repeat' first | apply And.intro | (intro h; (cases h; done)) | (intro h; exfalso; simp only [decT, decF, beq_iff_eq, beq_eq_false_iff_ne, ne_eq, Int.toNat_natCast] at h; (try dsimp only [D, IK, dz, gT] at h); first | omega | exact absurd h (by assumption) | exact h (by assumption)) | intro _ | exact True.intro | (show Region.lexB _ _ = true; kernel_rfl) | refine loopI.next (s + 1) [] [0, 3, 4, 7] [(3, []), (4, [])] .fr ?_
        all_goals (try simp only [decT, decF, beq_iff_eq, bne_iff_ne, ne_eq, beq_eq_false_iff_ne, bne_eq_false_iff_eq, Decidable.not_not, Int.toNat_natCast, Bool.not_eq_true', Bool.not_eq_false', Bool.not_eq_true, Bool.not_eq_false, Int.not_lt, Int.not_le] at *; try dsimp only [D, IK, dz] at *)
        all_goals try simp only [hx, his, hie]
        all_goals try omega
        all_goals first | exact hos.symm | exact ⟨by omega, hln, hos.symm ▸ hlo⟩ | skip
  · have hse : s = gates.length := by omega
    exact (hD ⟨hse ▸ hls, fun v => hse ▸ hlo v⟩).elim
end Go.Proofs.Ytbgnnpbcifgckaa
namespace Go.Proofs.Ytbgnnpbcifgckaa
open Go Go.Fw Go.RowKit
set_option maxRecDepth 100000
set_option maxHeartbeats 4000000
theorem rec2_none (e : Int) (T : List (List Int)) : Fw.FnD Try.prog 47 [.ptr 0 0, .ptr 1 0] [.cells [.own 2], .cells [.val (.int .i64 e)], .deep (.sl (.i .i64)) T] none
    [(0, some (.cells [.own 2])), (1, some (.cells [.val (.int .i64 e)])), (2, some (.deep (.sl (.i .i64)) T))] := by
  refine fnD_go env_ok mixed Try.func47 (c := Try.f47.body.get rfl) rfl (by kernel_rfl) [] rfl rfl rfl rfl rfl rfl rfl ?_
  repeat' first | apply And.intro | (intro h; (cases h; done)) | intro _ | exact True.intro | (show Region.lexB _ _ = true; kernel_rfl)
  all_goals rfl
theorem rec2_some (x : AV) (hx : x = .nil (.sl (.i .i64))) (e : Int) : Fw.FnD Try.prog 47 [.ptr 0 0, .ptr 1 0] [.cells [x], .cells [.val (.int .i64 e)]] (some (.ifc 107 (.agg [])))
    [(0, some (.cells [.nil (.sl (.i .i64))])), (1, some (.cells [.val (.int .i64 6)]))] := by
  subst hx
  refine fnD_go env_ok mixed Try.func47 (c := Try.f47.body.get rfl) rfl (by kernel_rfl) [] rfl rfl rfl rfl rfl rfl rfl ?_
  repeat' first | apply And.intro | (intro h; (cases h; done)) | intro _ | exact True.intro | (show Region.lexB _ _ = true; kernel_rfl)
  all_goals rfl
section
variable (cards : List Int) (gates : List Gate) (input : List Int)
open Classical in
/-- What Derive returns. -/
noncomputable def derF (cards : List Int) (gates : List Gate) (input : List Int) : List (List Int) × Int :=
  if rightB cards gates = false then ([], 150)
  else if inputB cards input = false then ([], 2)
  else match valsO input gates [] with
    | none => ([], 6)
    | some vs => if okD cards vs gates then (outS cards vs gates gates.length, 0) else ([], 6)
theorem numsOK_vals {cards : List Int} {input : List Int} : ∀ {gs : List Gate} {out vs : List Int}, (∀ j, j < gs.length → gOK cards ((out.length + j : Nat) : Int) (gs.getD j gz) = true) → numsOK out → valsO input gs out = some vs → numsOK vs
  | [], out, vs, _, hn, h => by simp only [valsO, Option.some.injEq] at h; subst h; exact hn
  | g :: gs, out, vs, hg, hn, h => by
    simp only [valsO] at h
    split at h
    · cases h
    · rename_i v hv
      have h0 := hg 0 (by simp)
      refine numsOK_vals (cards := cards) (gs := gs) (out := out ++ [v]) (fun j hj => ?_) (numsOK_snoc hn (valO_ok (cards := cards) hn h0 hv)) h
      have := hg (j + 1) (by simpa using hj)
      rw [List.getD_cons_succ] at this
      rw [List.length_append, List.length_singleton, show out.length + 1 + j = out.length + (j + 1) by omega]
      exact this
theorem cards_ok {cards : List Int} {gates : List Gate} (h : rightB cards gates = true) : cards.length ≤ 8 ∧ ∀ v, v < cards.length → 1 ≤ cards.getD v 0 ∧ cards.getD v 0 ≤ 4 := by
  simp only [rightB, Bool.and_eq_true, decide_eq_true_eq] at h
  have h := h.1.1.1
  simp only [cardsB, Bool.and_eq_true, decide_eq_true_eq, List.all_eq_true] at h
  refine ⟨h.1.1.2, fun v hv => ?_⟩
  have := h.1.2 _ (getD_mem (d := 0) hv)
  simp only [cardOK, Bool.and_eq_true, decide_eq_true_eq] at this
  exact this
variable (hl : gates.length ≤ 4611686018427387903) (hc : cards.length ≤ 4611686018427387903) (hin : input.length ≤ 4611686018427387903) (hargs : ∀ g ∈ gates, g.2.2.2.2.length ≤ 4611686018427387903)
include hl hc hargs hin in
theorem Derive_fn : Fw.Fn Try.prog 21 [.agg [.dat .old (.i .i64) cards, .dat .old gT gates], .dat .old (.i .i64) input] [] (.tup [.dat .fr (.sl (.i .i64)) (derF cards gates input).1, .val (.int .i64 (derF cards gates input).2)]) [] := by
  unfold derF
  by_cases h : rightB cards gates = false
  · rw [if_pos h]
    refine fnR_go env_ok mixed Try.func21 (c := Try.f21.body.get rfl) rfl (by kernel_rfl) [] [1004] [] rfl ?_
    repeat' first | apply And.intro | (intro h; (cases h; done)) | intro _ | exact True.intro | (show Region.lexB _ _ = true; kernel_rfl) | refine CallK.fn [] (evaluated_c cards gates input hl hc hargs h) rfl rfl rfl rfl rfl trivial ?_
    all_goals rfl
  · rw [if_neg h]
    have h : rightB cards gates = true := by simpa using h
    by_cases h2 : inputB cards input = false
    · rw [if_pos h2]
      refine fnR_go env_ok mixed Try.func21 (c := Try.f21.body.get rfl) rfl (by kernel_rfl) [] [1004] [] rfl ?_
      repeat' first | apply And.intro | (intro h; (cases h; done)) | intro _ | exact True.intro | (show Region.lexB _ _ = true; kernel_rfl) | refine CallK.fn [] (evaluated_i cards gates input hl hc hin hargs h h2) rfl rfl rfl rfl rfl trivial ?_
      all_goals rfl
    · rw [if_neg h2]
      have h2 : inputB cards input = true := by simpa using h2
      cases hvs : valsO input gates [] with
      | none =>
        refine fnR_go env_ok mixed Try.func21 (c := Try.f21.body.get rfl) rfl (by kernel_rfl) [] [1004] [] rfl ?_
        repeat' first | apply And.intro | (intro h; (cases h; done)) | intro _ | exact True.intro | (show Region.lexB _ _ = true; kernel_rfl) | refine CallK.fn [] (evaluated_n cards gates input hl hc hin hargs h h2 hvs) rfl rfl rfl rfl rfl trivial ?_
        all_goals rfl
      | some vs =>
        have hlen := valsO_len hvs
        have hr := right_all h
        have hpos : 1 ≤ gates.length := by
          simp only [rightB, Bool.and_eq_true, decide_eq_true_eq] at h
          exact h.1.1.2
        simp only [List.length_nil, Nat.zero_add] at hlen
        have hnv : numsOK vs := numsOK_vals (cards := cards) (fun j hj => by simpa using hr.2 j hj) (fun x hx => absurd hx List.not_mem_nil) hvs
        obtain ⟨h8, hcc⟩ := cards_ok h
        dsimp only
        by_cases hD : okD cards vs gates
        · rw [if_pos hD]
          refine fnR_go env_ok mixed Try.func21 (c := Try.f21.body.get rfl) rfl (by kernel_rfl) [] [] [] rfl ?_
          repeat' first | apply And.intro | (intro h; (cases h; done)) | intro _ | exact True.intro | (show Region.lexB _ _ = true; kernel_rfl) | refine CallK.fn [] (evaluated_v cards gates input hl hc hin hargs h h2 vs hvs) rfl rfl rfl rfl rfl trivial ?_ | refine CallK.fn [] (derive_fn cards gates input vs h hlen hnv hargs hD hpos hr.1 h8 hcc) rfl rfl rfl rfl rfl ?_ ?_ | refine DefK.mk [16, 32, 240] (rec2_none 0 _) (by exact rfl) (by exact rfl) (by exact rfl) (by exact rfl) (by exact rfl) (by exact rfl) ?_ ?_
          all_goals rfl
        · rw [if_neg hD]
          refine fnR_go env_ok mixed Try.func21 (c := Try.f21.body.get rfl) rfl (by kernel_rfl) [] [1004] [] rfl ?_
          repeat' first | apply And.intro | (intro h; (cases h; done)) | intro _ | exact True.intro | (show Region.lexB _ _ = true; kernel_rfl) | refine CallK.fn [] (evaluated_v cards gates input hl hc hin hargs h h2 vs hvs) rfl rfl rfl rfl rfl trivial ?_ | refine CallK.pn [] (derive_pn cards gates input vs h hlen hnv hargs hD hpos hr.1 h8 hcc) rfl rfl rfl rfl rfl trivial ?_ | refine DefK.mk [16, 32] (rec2_some _ rfl 0) (by exact rfl) (by exact rfl) (by exact rfl) (by exact rfl) (by exact rfl) (by exact rfl) ?_ ?_
          all_goals rfl
end
end Go.Proofs.Ytbgnnpbcifgckaa
