/- Plain facts about what the snappy functions compute: no memory and no program. No conditions. -/
import Derived.Test.YthcjcmgdblhhfaaPVx0
import Derived.Test.YthcjcmgdblhhfaaPVx8
import Derived.Test.YthcjcmgdblhhfaaPVx9
import Derived.Test.YthcjcmgdblhhfaaPVx11
import Derived.Test.YthcjcmgdblhhfaaPVx12
import Derived.Test.YthcjcmgdblhhfaaPVx13
import Derived.Test.YthcjcmgdblhhfaaPVx14
import Derived.Test.YthcjcmgdblhhfaaPVx15
import Derived.Test.YthcjcmgdblhhfaaPVx16
import Derived.Test.YthcjcmgdblhhfaaPVx18
import Derived.Laws.Strings
namespace Go.Proofs.Ythcjcmgdblhhfaa.SpecVa
open Go.RowKit Go.Proofs.Ythcjcmgdblhhfaa.PV Go.Proofs.YthcjcmgdblhhfaaW.PrintWords Go.Proofs.YthcjcmgdblhhfaaW.PrintLast
set_option linter.unusedVariables false
set_option linter.unusedSimpArgs false
/-! ### rounds -/
section
variable {α β : Type} {r : α}
theorem ev_pos {c : Prop} [Decidable c] {f g : Nat → Option α} (hc : c) (h : Ev f r) : Ev (fun n => if c then f n else g n) r := by
  obtain ⟨K, hK⟩ := h; exact ⟨K, fun k hk => by show (if c then f k else g k) = _; rw [if_pos hc]; exact hK k hk⟩
theorem ev_neg {c : Prop} [Decidable c] {f g : Nat → Option α} (hc : ¬ c) (h : Ev g r) : Ev (fun n => if c then f n else g n) r := by
  obtain ⟨K, hK⟩ := h; exact ⟨K, fun k hk => by show (if c then f k else g k) = _; rw [if_neg hc]; exact hK k hk⟩
theorem ev_bind {a : β} {g : Nat → Option β} {f : Nat → β → Option α} (h : Ev g a) (k : Ev (fun n => f n a) r) : Ev (fun n => (g n).bind (f n)) r := Ev.bind h k
theorem ev_some {a : β} {f : Nat → β → Option α} (k : Ev (fun n => f n a) r) : Ev (fun n => (some a).bind (f n)) r := by
  obtain ⟨K, hK⟩ := k; exact ⟨K, fun n hn => hK n hn⟩
theorem ev_now (r : α) : Ev (fun _ => some r) r := Ev.now r
theorem ev_eq {a b : α} {f : Nat → Option α} (h : Ev f a) (e : a = b) : Ev f b := e ▸ h
theorem ev_step {g f : Nat → Option α} (h : ∀ k, g (k + 1) = f k) (k : Ev f r) : Ev g r := Ev.step h k
theorem ev_pure {g : Option α} (h : g = some r) : Ev (fun _ => g) r := ⟨0, fun _ _ => h⟩
end
theorem wr {n : Int} (h1 : -9223372036854775808 ≤ n) (h2 : n ≤ 9223372036854775807) : wrap64 n = n := by unfold wrap64; omega

/-! ### runs -/
/-- The first place from i on, d places at most, that p does not hold at. -/
def run (p : Nat → Bool) : Nat → Nat → Nat
  | i, 0 => i
  | i, d + 1 => if p i then run p (i + 1) d else i
theorem run_le (p : Nat → Bool) : ∀ d i, i ≤ run p i d ∧ run p i d ≤ i + d
  | 0, i => by simp [run]
  | d + 1, i => by
    unfold run
    split
    · have := run_le p d (i + 1); omega
    · omega
theorem run_at (p : Nat → Bool) : ∀ d i j, i ≤ j → j < run p i d → p j = true
  | 0, i, j => by simp [run]; omega
  | d + 1, i, j => by
    intro h1 h2
    unfold run at h2
    split at h2
    · rename_i hp
      by_cases e : j = i
      · rw [e]; exact hp
      · exact run_at p d (i + 1) j (by omega) h2
    · omega
theorem run_stop (p : Nat → Bool) : ∀ d i, run p i d < i + d → p (run p i d) = false
  | 0, i => by simp [run]
  | d + 1, i => by
    intro h
    unfold run at h ⊢
    by_cases hp : p i = true
    · rw [if_pos hp] at h ⊢
      exact run_stop p d (i + 1) (by omega)
    · rw [if_neg hp]
      simpa using hp
/-- Alike from two places on: at distance n. -/
def eqAt (s : ByteArray) (a b : Nat) (n : Nat) : Bool := decide (b + n < s.size) && (bt s ((a + n : Nat) : Int) == bt s ((b + n : Nat) : Int))
def al (s : ByteArray) (a b : Nat) : Nat := run (eqAt s a b) 0 64
theorem alike_loop (s : ByteArray) (a b : Nat) (hab : a < b) (hb : b < s.size) (hs : s.size ≤ 4611686018427387904) : ∀ (d n : Nat), n + d = 64 → Ev (fun k => snappy_alike.l0 k s (a : Int) (b : Int) (n : Int)) ((run (eqAt s a b) n d : Nat) : Int) := by
  intro d
  induction d with
  | zero => intro n hn; exact ev_step (fun k => rfl) (ev_neg (by omega) (ev_now _))
  | succ d ih =>
    intro n hn
    refine ev_step (fun k => rfl) (ev_pos (by omega) ?_)
    rw [wr (n := (b : Int) + n) (by omega) (by omega), wr (n := (a : Int) + n) (by omega) (by omega)]
    unfold run
    by_cases h1 : b + n < s.size
    · refine ev_pos (by omega) (ev_pos (by omega) (ev_pos (by omega) (ev_pos (by omega) ?_)))
      by_cases h2 : bt s ((a : Int) + n) = bt s ((b : Int) + n)
      · refine ev_pos h2 ?_
        rw [if_pos (by unfold eqAt; simp only [Int.natCast_add]; rw [h2]; simp [h1]), wr (n := (n : Int) + 1) (by omega) (by omega)]
        exact ih (n + 1) (by omega)
      · refine ev_neg h2 ?_
        rw [if_neg (by unfold eqAt; simp only [Int.natCast_add]; simp [h2])]
        exact ev_now _
    · refine ev_neg (by omega) ?_
      rw [if_neg (by unfold eqAt; simp [h1])]
      exact ev_now _
theorem alike_ev (s : ByteArray) (a b : Nat) (hab : a < b) (hb : b < s.size) (hs : s.size ≤ 4611686018427387904) : Ev (fun k => snappy_alike.f k s (a : Int) (b : Int)) ((al s a b : Nat) : Int) := alike_loop s a b hab hb hs 64 0 rfl

/-! ### matches -/
/-- The best of the distances from o on, d of them. -/
def best (s : ByteArray) (p : Nat) : Nat → Nat → Nat × Nat → Nat × Nat
  | _, 0, m => m
  | o, d + 1, m => best s p (o + 1) d (if m.2 < al s (p - o) p then (o, al s (p - o) p) else m)
/-- A place's match. -/
def mat (s : ByteArray) (p : Nat) : Nat × Nat := best s p 1 (min p 65535) (0, 0)
theorem al_le (s : ByteArray) (a b : Nat) : al s a b ≤ 64 := by have := run_le (eqAt s a b) 64 0; unfold al; omega
theorem best_full (s : ByteArray) (p : Nat) : ∀ d o m, 64 ≤ m.2 → best s p o d m = m
  | 0, _, _, _ => rfl
  | d + 1, o, m, h => by
    unfold best
    have := al_le s (p - o) p
    rw [if_neg (by omega)]
    exact best_full s p d (o + 1) m h
theorem match_loop (s : ByteArray) (p : Nat) (hp : p < s.size) (hs : s.size ≤ 4611686018427387904) : ∀ (d o : Nat) (m : Nat × Nat), 1 ≤ o → o + d = min p 65535 + 1 →
    Ev (fun k => snappy_Match.l0 k s (p : Int) (m.1 : Int) (m.2 : Int) ((p : Int) - o)) (((best s p o d m).1 : Int), ((best s p o d m).2 : Int)) := by
  intro d
  induction d with
  | zero =>
    intro o m ho hd
    refine ev_step (fun k => rfl) ?_
    simp only [snappy_Match.l0]
    rw [wr (n := (p : Int) - 65535) (by omega) (by omega)]
    refine ev_neg (by unfold mx; split <;> omega) (ev_step (fun k => rfl) ?_)
    simp only [snappy_Match.j2]
    exact ev_neg (by simp) (ev_now _)
  | succ d ih =>
    intro o m ho hd
    refine ev_step (fun k => rfl) ?_
    simp only [snappy_Match.l0]
    rw [wr (n := (p : Int) - 65535) (by omega) (by omega)]
    refine ev_pos (by unfold mx; split <;> omega) (ev_step (fun k => rfl) ?_)
    simp only [snappy_Match.j2]
    by_cases h6 : m.2 < 64
    · refine ev_pos (by simp; omega) ?_
      have ha := alike_ev s (p - o) p (by omega) hp hs
      rw [show ((p - o : Nat) : Int) = (p : Int) - o from by omega] at ha
      refine ev_bind ha ?_
      rw [wr (n := (p : Int) - ((p : Int) - o)) (by omega) (by omega), wr (n := (p : Int) - (o : Int) - 1) (by omega) (by omega)]
      rw [show (p : Int) - ((p : Int) - o) = (o : Int) from by omega, show (p : Int) - (o : Int) - 1 = (p : Int) - ((o + 1 : Nat) : Int) from by omega]
      unfold best
      by_cases h7 : m.2 < al s (p - o) p
      · rw [if_pos h7]
        refine ev_pos (by omega) ?_
        exact ih (o + 1) (o, al s (p - o) p) (by omega) (by omega)
      · rw [if_neg h7]
        refine ev_neg (by omega) ?_
        exact ih (o + 1) m (by omega) (by omega)
    · refine ev_neg (by simp; omega) ?_
      rw [best_full s p (d + 1) o m (by omega)]
      exact ev_now _
theorem match_ev (s : ByteArray) (p : Nat) (hp : p < s.size) (hs : s.size ≤ 4611686018427387904) : Ev (fun k => snappy_Match.f k s (p : Int)) (((mat s p).1 : Int), ((mat s p).2 : Int)) := by
  unfold snappy_Match.f
  refine ev_neg (by omega) (ev_step (fun k => rfl) ?_)
  simp only [snappy_Match.j0]
  refine ev_neg (by simp; omega) ?_
  rw [wr (n := (p : Int) - 1) (by omega) (by omega)]
  exact match_loop s p hp hs (min p 65535) 1 (0, 0) (by omega) (by omega)
theorem match_out (s : ByteArray) (p : Int) (h : p < 0 ∨ (s.size : Int) ≤ p) : Ev (fun k => snappy_Match.f k s p) (0, 0) := by
  unfold snappy_Match.f
  by_cases h1 : p < 0
  · refine ev_pos h1 (ev_step (fun k => rfl) ?_)
    simp only [snappy_Match.j0]
    exact ev_now _
  · refine ev_neg h1 (ev_step (fun k => rfl) ?_)
    simp only [snappy_Match.j0]
    exact ev_pos (by simp; omega) (ev_now _)
/-! ### the examples -/
theorem awake_ev : Ev (fun k => batonlaw03_awake.f k) true := Ev.of batonlaw03_awake.mono (k := 40) (by decide +kernel)
/-! ### Pack's best -/
theorem al_size (s : ByteArray) (a b : Nat) (hb : b ≤ s.size) : b + al s a b ≤ s.size := by
  unfold al
  by_cases h : b + run (eqAt s a b) 0 64 ≤ s.size
  · exact h
  · have h1 := run_at (eqAt s a b) 64 0 (s.size - b) (by omega) (by omega)
    unfold eqAt at h1
    simp at h1
    omega
theorem al_ge {s : ByteArray} {a b n : Nat} (hn : n ≤ 64) : n ≤ al s a b ↔ ∀ j, j < n → eqAt s a b j = true := by
  unfold al
  constructor
  · intro h j hj
    exact run_at _ 64 0 j (by omega) (by omega)
  · intro h
    by_cases h1 : n ≤ run (eqAt s a b) 0 64
    · exact h1
    · have h2 := run_stop (eqAt s a b) 64 0 (by omega)
      rw [h _ (by omega)] at h2
      cases h2
theorem dat_get (a : Array UInt8) (i : Nat) (h : i < a.size) : a.getD i 0 = a[i] := by unfold Array.getD; rw [dif_pos h]; rfl
theorem dat_out (a : Array UInt8) (i : Nat) (h : ¬ i < a.size) : a.getD i 0 = 0 := by unfold Array.getD; rw [dif_neg h]
theorem ext4 (s : ByteArray) (i : Nat) (h : i + 4 ≤ s.size) : (s.extract i (i + 4)).data.toList = (List.range 4).map (fun j => s.data.getD (i + j) 0) := by
  have hs : s.data.size = s.size := rfl
  apply List.ext_getElem
  · simp; omega
  · intro n h1 h2
    rw [List.getElem_map, List.getElem_range, dat_get _ _ (by simp at h2; omega)]
    simp
theorem bt_eq (s : ByteArray) (i : Nat) : bt s (i : Int) = ((s.data.getD i 0).toNat : Int) := by
  unfold bt
  rw [Int.toNat_natCast]
  by_cases h : i < s.size
  · rw [dif_pos h, dat_get _ _ h]
    rfl
  · rw [dif_neg h, dat_out _ _ h]
    rfl
theorem same4 (s : ByteArray) (q p : Nat) (hq : q < p) (hp : p + 4 ≤ s.size) : (s.extract q (q + 4)).data.toList = (s.extract p (p + 4)).data.toList ↔ 4 ≤ al s q p := by
  rw [ext4 s q (by omega), ext4 s p hp, al_ge (by omega)]
  constructor
  · intro h j hj
    have h1 := (List.map_inj_left.1 h) j (List.mem_range.2 hj)
    unfold eqAt
    rw [bt_eq, bt_eq, h1]
    simp; omega
  · intro h
    refine List.map_inj_left.2 (fun j hj => ?_)
    have h1 := h j (List.mem_range.1 hj)
    unfold eqAt at h1
    rw [bt_eq, bt_eq] at h1
    simp only [Bool.and_eq_true, beq_iff_eq] at h1
    exact UInt8.toNat_inj.1 (by have := h1.2; omega)
/-- The best of the distances that have four bytes or more alike. -/
def best4 (s : ByteArray) (p : Nat) : Nat → Nat → Nat × Nat → Nat × Nat
  | _, 0, m => m
  | o, d + 1, m => best4 s p (o + 1) d (if 4 ≤ al s (p - o) p ∧ m.2 < al s (p - o) p then (o, al s (p - o) p) else m)
theorem best4_full (s : ByteArray) (p : Nat) : ∀ d o m, 64 ≤ m.2 → best4 s p o d m = m
  | 0, _, _, _ => rfl
  | d + 1, o, m, h => by
    unfold best4
    have := al_le s (p - o) p
    rw [if_neg (by omega)]
    exact best4_full s p d (o + 1) m h
theorem best4_is (s : ByteArray) (p : Nat) : ∀ d o (m m4 : Nat × Nat), (4 ≤ m.2 → m4 = m) → (m.2 < 4 → m4 = (0, 0)) → (4 ≤ (best s p o d m).2 → best4 s p o d m4 = best s p o d m) ∧ ((best s p o d m).2 < 4 → best4 s p o d m4 = (0, 0))
  | 0, o, m, m4, h1, h2 => ⟨h1, h2⟩
  | d + 1, o, m, m4, h1, h2 => by
    unfold best best4
    by_cases h : 4 ≤ m.2
    · rw [h1 h]
      by_cases h3 : m.2 < al s (p - o) p
      · rw [if_pos h3, if_pos ⟨by omega, h3⟩]
        exact best4_is s p d (o + 1) _ _ (fun _ => rfl) (fun e => by simp at e; omega)
      · rw [if_neg h3, if_neg (fun e => h3 e.2)]
        exact best4_is s p d (o + 1) _ _ (fun _ => rfl) (fun e => by omega)
    · rw [h2 (by omega)]
      by_cases h3 : 4 ≤ al s (p - o) p
      · rw [if_pos (by omega), if_pos ⟨h3, by simp; omega⟩]
        exact best4_is s p d (o + 1) _ _ (fun _ => rfl) (fun e => by simp at e; omega)
      · rw [if_neg (show ¬ (4 ≤ al s (p - o) p ∧ ((0, 0) : Nat × Nat).2 < al s (p - o) p) from fun e => h3 e.1)]
        refine best4_is s p d (o + 1) _ _ (fun e => ?_) (fun _ => rfl)
        split at e
        · simp at e; omega
        · omega
/-- The places ahead that have the same four bytes, the last first. -/
def back (s : ByteArray) (p n : Nat) : List Int := (((List.range n).filter (fun q => decide (4 ≤ al s q p))).map (fun q : Nat => (q : Int))).reverse
theorem back_succ (s : ByteArray) (p n : Nat) : back s p (n + 1) = if 4 ≤ al s n p then (n : Int) :: back s p n else back s p n := by
  unfold back
  rw [List.range_succ, List.filter_append, List.map_append, List.reverse_append]
  by_cases h : 4 ≤ al s n p
  · rw [if_pos h]; simp [h]
  · rw [if_neg h]; simp [h]
theorem poss_back (s : ByteArray) (p : Nat) (hp : p + 4 ≤ s.size) : (poss s (s.extract p (p + 4)).data.toList p).reverse = back s p p := by
  unfold poss back
  congr 2
  refine List.filter_congr (fun q hq => ?_)
  have hq := List.mem_range.1 hq
  have := same4 s q p hq hp
  by_cases h : 4 ≤ al s q p
  · rw [this.2 h]; simp [h]; omega
  · simp only [h, decide_false, Bool.and_eq_false_iff, beq_eq_false_iff_ne]
    exact .inr (fun e => h (this.1 e))
theorem bestGo_ev (s : ByteArray) (p : Nat) (hp : p < s.size) (hs : s.size ≤ 4611686018427387904) : ∀ (n o : Nat) (m : Nat × Nat), 1 ≤ o → o + n = p + 1 → n ≤ p →
    Ev (fun k => bestGo k s (p : Int) (back s p n) (m.1 : Int) (m.2 : Int)) (((best4 s p o (min p 65535 + 1 - o) m).1 : Int), ((best4 s p o (min p 65535 + 1 - o) m).2 : Int)) := by
  intro n
  induction n with
  | zero =>
    intro o m ho hn _
    rw [show min p 65535 + 1 - o = 0 from by omega]
    show Ev (fun k => bestGo k s (p : Int) [] _ _) _
    simp only [bestGo]
    exact ev_now _
  | succ n ih =>
    intro o m ho hn hnp
    rw [back_succ]
    have eo : p - o = n := by omega
    by_cases h4 : 4 ≤ al s n p
    · rw [if_pos h4]
      simp only [bestGo]
      by_cases h5 : o ≤ 65535
      · refine ev_pos (by omega) ?_
        rw [show min p 65535 + 1 - o = (min p 65535 + 1 - (o + 1)) + 1 from by omega]
        by_cases h6 : m.2 < 64
        · refine ev_pos (by omega) (ev_bind (alike_ev s n p (by omega) hp hs) ?_)
          unfold best4
          rw [eo]
          by_cases h7 : m.2 < al s n p
          · rw [if_pos ⟨h4, h7⟩]
            refine ev_pos (by omega) ?_
            rw [show (p : Int) - (n : Int) = (o : Int) from by omega]
            exact ih (o + 1) (o, al s n p) (by omega) (by omega) (by omega)
          · rw [if_neg (fun e => h7 e.2)]
            exact ev_neg (by omega) (ih (o + 1) m (by omega) (by omega) (by omega))
        · rw [best4_full s p _ o m (by omega)]
          exact ev_neg (by omega) (ev_now _)
      · rw [show min p 65535 + 1 - o = 0 from by omega]
        exact ev_neg (by omega) (ev_now _)
    · rw [if_neg h4]
      have h8 := ih (o + 1) m (by omega) (by omega) (by omega)
      by_cases h5 : o ≤ 65535
      · rw [show min p 65535 + 1 - o = (min p 65535 + 1 - (o + 1)) + 1 from by omega]
        unfold best4
        rw [eo, if_neg (fun e => h4 e.1)]
        exact h8
      · rw [show min p 65535 + 1 - o = 0 from by omega]
        rw [show min p 65535 + 1 - (o + 1) = 0 from by omega] at h8
        exact h8
/-- What Pack takes for a place's match: the match, if it has four bytes. -/
def mat4 (s : ByteArray) (p : Nat) : Nat × Nat := if 4 ≤ (mat s p).2 then mat s p else (0, 0)
theorem best_size (s : ByteArray) (p : Nat) (hp : p ≤ s.size) (b : Nat) (hb : s.size ≤ p + b) : ∀ d o m, m.2 ≤ b → (best s p o d m).2 ≤ b
  | 0, _, _, h => h
  | d + 1, o, m, h => by
    unfold best
    have := al_size s (p - o) p hp
    split
    · exact best_size s p hp b hb d (o + 1) _ (by simp; omega)
    · exact best_size s p hp b hb d (o + 1) _ h
theorem bestF_ev (s : ByteArray) (p : Nat) (hp : p < s.size) (hs : s.size ≤ 4611686018427387904) : Ev (fun k => bestF k s (poss s (s.extract p (p + 4)).data.toList p) (p : Int)) (((mat4 s p).1 : Int), ((mat4 s p).2 : Int)) := by
  unfold bestF mat4
  by_cases h : p + 4 ≤ s.size
  · refine ev_neg (by omega) ?_
    rw [poss_back s p h]
    have h1 := bestGo_ev s p hp hs p 1 (0, 0) (by omega) (by omega) (by omega)
    have h2 := best4_is s p (min p 65535) 1 (0, 0) (0, 0) (fun _ => rfl) (fun _ => rfl)
    rw [show min p 65535 + 1 - 1 = min p 65535 from by omega] at h1
    by_cases h3 : 4 ≤ (mat s p).2
    · rw [if_pos h3]; rw [h2.1 h3] at h1; exact h1
    · rw [if_neg h3]; rw [h2.2 (by unfold mat at h3; omega)] at h1; exact h1
  · refine ev_pos (by omega) ?_
    have h3 := best_size s p (by omega) (s.size - p) (by omega) (min p 65535) 1 (0, 0) (by simp)
    rw [if_neg (by unfold mat; omega)]
    exact ev_now _
theorem mat_le (s : ByteArray) (p : Nat) : (mat s p).2 ≤ 64 := by
  have : ∀ d o m, m.2 ≤ 64 → (best s p o d m).2 ≤ 64 := by
    intro d
    induction d with
    | zero => intro o m h; exact h
    | succ d ih =>
      intro o m h
      unfold best
      have := al_le s (p - o) p
      split
      · exact ih _ _ (by simp; omega)
      · exact ih _ _ h
  exact this _ _ _ (by simp)
/-! ### Pack -/
section
variable {β : Type}
def litB (mk : Bool → ByteArray → Int → Int → β) (s : ByteArray) (a b : Nat) : List β := if a < b then [mk false (s.extract a b) 0 0] else []
/-- A text's parts, from a on, the last copy's end being fr. -/
def pk (mk : Bool → ByteArray → Int → Int → β) (s : ByteArray) : Nat → Nat → Nat → List β → List β
  | 0, _, _, out => out
  | f + 1, a, fr, out => if a < s.size then (if 4 ≤ (mat s a).2 then pk mk s f (a + (mat s a).2) (a + (mat s a).2) (out ++ litB mk s fr a ++ [mk true ⟨#[]⟩ (mat s a).1 (mat s a).2]) else pk mk s f (a + 1) fr out) else out ++ litB mk s fr s.size
end
def m35 (c : Bool) (t : ByteArray) (o n : Int) : S35 := ⟨c, t, o, n⟩
theorem mat_size (s : ByteArray) (p : Nat) (hp : p ≤ s.size) : p + (mat s p).2 ≤ s.size := by
  have h3 := best_size s p hp (s.size - p) (by omega) (min p 65535) 1 (0, 0) (by simp)
  unfold mat
  omega
theorem packGo_ev (s : ByteArray) (hs : s.size ≤ 65536) : ∀ (f a fr : Nat) (out : List S35), a ≤ s.size → s.size < f + a → Ev (fun k => packGo k s f a fr out) (pk m35 s f a fr out) := by
  intro f
  induction f with
  | zero => intro a fr out ha h; omega
  | succ f ih =>
    intro a fr out ha h
    simp only [packGo, pk]
    by_cases h1 : a < s.size
    · rw [if_pos h1]
      refine ev_pos h1 (ev_bind (bestF_ev s a h1 (by omega)) ?_)
      have h64 := mat_le s a
      have hsz := mat_size s a ha
      unfold mat4
      by_cases h4 : 4 ≤ (mat s a).2
      · rw [if_pos h4, if_pos h4]
        refine ev_pos (by omega) (ev_pos (by omega) ?_)
        rw [Int.toNat_natCast]
        exact ih _ _ _ (by omega) (by omega)
      · rw [if_neg h4, if_neg h4]
        exact ev_neg (by simp) (ih _ _ _ (by omega) (by omega))
    · rw [if_neg h1]
      exact ev_neg h1 (ev_now _)
def parts (s : ByteArray) : List S35 := pk m35 s (s.size + 1) 0 0 []
theorem pack_ev (s : ByteArray) (hs : s.size ≤ 65536) : Ev (fun k => snappy_Pack.f k s) (parts s, 0) := by
  unfold snappy_Pack.f
  exact ev_neg (by omega) (ev_bind (packGo_ev s hs (s.size + 1) 0 0 [] (by omega) (by omega)) (ev_now _))
theorem pk_len {β : Type} (mk : Bool → ByteArray → Int → Int → β) (s : ByteArray) : ∀ (f a fr : Nat) (out : List β), a ≤ s.size → out.length ≤ a → (pk mk s f a fr out).length ≤ s.size + 1
  | 0, a, fr, out, h1, h2 => by simp only [pk]; omega
  | f + 1, a, fr, out, h1, h2 => by
    simp only [pk]
    have hl : ∀ b, (litB mk s fr b).length ≤ 1 := fun b => by unfold litB; split <;> simp
    by_cases h3 : a < s.size
    · rw [if_pos h3]
      have hsz := mat_size s a h1
      by_cases h4 : 4 ≤ (mat s a).2
      · rw [if_pos h4]
        exact pk_len mk s f _ _ _ (by omega) (by have := hl a; simp only [List.length_append, List.length_singleton]; omega)
      · rw [if_neg h4]
        exact pk_len mk s f _ _ _ (by omega) (by omega)
    · rw [if_neg h3]
      have := hl s.size
      simp only [List.length_append]; omega
/-! ### bytes -/
theorem str_bytes (X : ByteArray) : strOfNums (bytesOf X) = X := by
  unfold bytesOf strOfNums
  rw [List.map_map]
  have e : ((fun n : Int => UInt8.ofNat n.toNat) ∘ fun b : UInt8 => (b.toNat : Int)) = id := by
    funext b
    simp
  rw [e, List.map_id]
theorem bytes_app (X Y : ByteArray) : bytesOf (X ++ Y) = bytesOf X ++ bytesOf Y := by
  unfold bytesOf
  simp
theorem bytes_nil : bytesOf ⟨#[]⟩ = [] := rfl
theorem bytes_one (X : ByteArray) (k : Nat) (h : k < X.size) : bytesOf (X.extract k (k + 1)) = [bt X (k : Int)] := by
  unfold bytesOf
  rw [bt_eq, dat_get _ _ h]
  have e : (X.extract k (k + 1)).data.toList = [X.data[k]'h] := by
    apply List.ext_getElem
    · simp; have : X.data.size = X.size := rfl; omega
    · intro n h1 h2
      simp at h2
      subst h2
      simp
  rw [e]
  rfl
/-- A copy of n bytes from off behind the end. -/
def cp (X : ByteArray) (off : Nat) : Nat → ByteArray
  | 0 => X
  | n + 1 => cp (X ++ X.extract (X.size - off) (X.size - off + 1)) off n
theorem ext1_size (X : ByteArray) (k : Nat) (h : k < X.size) : (X ++ X.extract k (k + 1)).size = X.size + 1 := by
  rw [ByteArray.size_append, ByteArray.size_extract]; omega
theorem cp_size (off : Nat) (ho : 1 ≤ off) : ∀ (n : Nat) (X : ByteArray), off ≤ X.size → (cp X off n).size = X.size + n
  | 0, X, _ => rfl
  | n + 1, X, h => by
    unfold cp
    rw [cp_size off ho n _ (by rw [ext1_size _ _ (by omega)]; omega), ext1_size _ _ (by omega)]
    omega
/-! ### may a part be -/
def mayB (x : S35) : Bool := decide ((x.f0 = true ∧ x.f1.size = 0 ∧ 1 ≤ x.f3 ∧ x.f3 ≤ 64 ∧ 1 ≤ x.f2 ∧ x.f2 < 4294967296) ∨ (x.f0 = false ∧ 1 ≤ x.f1.size ∧ x.f1.size ≤ 65536 ∧ x.f2 = 0 ∧ x.f3 = 0))
theorem nil_size (s : ByteArray) : s.toList = ([] : List UInt8) ↔ s.size = 0 := by
  rw [Go.ByteArray.toList_eq, List.eq_nil_iff_length_eq_zero, Array.length_toList]
  rfl
theorem beq_dec (a b : Int) : (a == b) = decide (a = b) := rfl
theorem may_is (x : S35) : snappy_Part_may.f x.f0 x.f1 x.f2 x.f3 = some (mayB x) := by
  obtain ⟨b, t, o, n⟩ := x
  unfold snappy_Part_may.f mayB
  simp only [nil_size, beq_dec]
  generalize t.size = z
  cases b
  all_goals simp only [if_true, Bool.false_eq_true, if_false]
  all_goals (repeat' split)
  all_goals first
    | (refine congrArg some (decide_eq_decide.2 ?_); simp; try omega)
    | (refine congrArg some (Eq.symm (decide_eq_false ?_)); simp; try omega)
/-- Is a part none that may stand behind these bytes? -/
def badB (x : S35) (X : ByteArray) : Bool := !mayB x || (x.f0 && decide (x.f2 > (X.size : Int)))
def ext (x : S35) (X : ByteArray) : ByteArray := cp (X ++ x.f1) x.f2.toNat x.f3.toNat
def addN (x : S35) : Int := if x.f0 then x.f3 else (x.f1.size : Int)
theorem add_copy (c : Bool) (t : ByteArray) (o n : Int) (ho : 1 ≤ o) (hn : n ≤ 64) : ∀ (d : Nat) (j : Int) (Y : ByteArray), 0 ≤ j → (d : Int) + j = max n j → o ≤ (Y.size : Int) → Y.size + d ≤ 100000000000000 →
    (d ≤ 64) → Ev (fun k => snappy_Part_add.l0 k (bytesOf Y) n j c t o n) (bytesOf (cp Y o.toNat d), 0) := by
  intro d
  induction d with
  | zero =>
    intro j Y h0 h1 h2 h3 h4
    refine ev_step (fun k => rfl) ?_
    simp only [snappy_Part_add.l0]
    exact ev_neg (by omega) (ev_now _)
  | succ d ih =>
    intro j Y h0 h1 h2 h3 h4
    refine ev_step (fun k => rfl) ?_
    simp only [snappy_Part_add.l0]
    rw [bytesOf_length, wr (n := (Y.size : Int) - o) (by omega) (by omega), wr (n := j + 1) (by omega) (by omega)]
    refine ev_pos (by omega) (ev_pos (by omega) (ev_pos (by omega) (ev_pos (by omega) ?_)))
    have hlt : Y.size - o.toNat < Y.size := by omega
    have e : bytesOf Y ++ [rd (bytesOf Y) ((Y.size : Int) - o)] = bytesOf (Y ++ Y.extract (Y.size - o.toNat) (Y.size - o.toNat + 1)) := by
      rw [bytes_app, bytes_one _ _ hlt, rd_bytesOf, show (Y.size : Int) - o = ((Y.size - o.toNat : Nat) : Int) from by omega]
    rw [e]
    unfold cp
    have hz := ext1_size Y _ hlt
    exact ih (j + 1) _ (by omega) (by omega) (by omega) (by omega) (by omega)
theorem mayB_iff (b : Bool) (t : ByteArray) (o n : Int) : mayB ⟨b, t, o, n⟩ = true ↔ (b = true ∧ t.size = 0 ∧ 1 ≤ n ∧ n ≤ 64 ∧ 1 ≤ o ∧ o < 4294967296) ∨ (b = false ∧ 1 ≤ t.size ∧ t.size ≤ 65536 ∧ o = 0 ∧ n = 0) := by
  unfold mayB
  rw [decide_eq_true_eq]
theorem add_j1 (b : Bool) (t : ByteArray) (o n : Int) (X : ByteArray) (most nn : Int) (hX : X.size ≤ 90000000000000) (bad : Bool) (hb : bad = false → mayB ⟨b, t, o, n⟩ = true ∧ (b = true → o ≤ (X.size : Int))) :
    Ev (fun k => snappy_Part_add.j1 k (bytesOf X) most nn bad b t o n) (if bad = true then ([], 4) else if nn > wrap64 (most - (X.size : Int)) then ([], 40) else (bytesOf (ext ⟨b, t, o, n⟩ X), 0)) := by
  refine ev_step (fun k => rfl) ?_
  simp only [snappy_Part_add.j1]
  cases bad with
  | true => exact ev_now _
  | false =>
    obtain ⟨hm, ho⟩ := hb rfl
    rw [mayB_iff] at hm
    refine ev_neg (by simp) ?_
    rw [if_neg (by simp), bytesOf_length]
    by_cases h40 : nn > wrap64 (most - (X.size : Int))
    · rw [if_pos h40]
      exact ev_pos h40 (ev_now _)
    · rw [if_neg h40]
      refine ev_neg h40 (ev_pos (by omega) ?_)
      rw [← bytes_app]
      unfold ext
      simp only
      rcases hm with ⟨rfl, h1, h2, h3, h4, h5⟩ | ⟨rfl, h1, h2, rfl, rfl⟩
      · have h6 := ho rfl
        exact add_copy true t o n h4 h3 n.toNat 0 (X ++ t) (by omega) (by omega) (by rw [ByteArray.size_append]; omega) (by rw [ByteArray.size_append]; omega) (by omega)
      · refine ev_step (fun k => rfl) ?_
        simp only [snappy_Part_add.l0]
        exact ev_neg (by omega) (ev_now _)
theorem add_ev (x : S35) (X : ByteArray) (most : Int) (hX : X.size ≤ 90000000000000) : Ev (fun k => snappy_Part_add.f k x.f0 x.f1 x.f2 x.f3 (bytesOf X) most) (if badB x X = true then ([], 4) else if addN x > wrap64 (most - (X.size : Int)) then ([], 40) else (bytesOf (ext x X), 0)) := by
  obtain ⟨b, t, o, n⟩ := x
  have hm := may_is ⟨b, t, o, n⟩
  unfold snappy_Part_add.f badB addN
  simp only at hm ⊢
  cases b with
  | true =>
    refine ev_pos rfl (ev_step (fun k => rfl) ?_)
    simp only [snappy_Part_add.j0]
    rw [hm]
    refine ev_some ?_
    by_cases hM : mayB ⟨true, t, o, n⟩ = true
    · refine ev_pos hM (ev_pos trivial ?_)
      rw [hM, bytesOf_length]
      refine ev_eq (add_j1 true t o n X most n hX (decide (o > (X.size : Int))) (fun e => ⟨hM, fun _ => by simpa using e⟩)) ?_
      simp
    · refine ev_neg hM ?_
      rw [show mayB ⟨true, t, o, n⟩ = false from by simpa using hM]
      exact add_j1 true t o n X most n hX true (fun e => by cases e)
  | false =>
    refine ev_neg (by simp) (ev_step (fun k => rfl) ?_)
    simp only [snappy_Part_add.j0]
    rw [hm]
    refine ev_some ?_
    by_cases hM : mayB ⟨false, t, o, n⟩ = true
    · refine ev_pos hM (ev_neg (by simp) ?_)
      rw [hM]
      refine ev_eq (add_j1 false t o n X most (t.size : Int) hX false (fun e => ⟨hM, fun e => by cases e⟩)) ?_
      simp
    · refine ev_neg hM ?_
      rw [show mayB ⟨false, t, o, n⟩ = false from by simpa using hM]
      exact add_j1 false t o n X most (t.size : Int) hX true (fun e => by cases e)
/-! ### Expand -/
/-- What parts stand for behind bytes. -/
def exq : List S35 → ByteArray → Int → ByteArray × Int
  | [], X, _ => (X, 0)
  | x :: l, X, most => if badB x X = true then (⟨#[]⟩, 4) else if addN x > wrap64 (most - (X.size : Int)) then (⟨#[]⟩, 40) else exq l (ext x X) most
theorem ext_size (x : S35) (X : ByteArray) (h : badB x X = false) : (ext x X).size ≤ X.size + 65536 := by
  obtain ⟨b, t, o, n⟩ := x
  unfold badB at h
  simp only [Bool.or_eq_false_iff, Bool.not_eq_false', Bool.and_eq_false_iff, decide_eq_false_iff_not] at h
  obtain ⟨h1, h2⟩ := h
  rw [mayB_iff] at h1
  unfold ext
  simp only
  rcases h1 with ⟨rfl, h1, h3, h4, h5, h6⟩ | ⟨rfl, h1, h3, rfl, rfl⟩
  · rw [cp_size _ (by omega) _ _ (by rw [ByteArray.size_append]; simp at h2; omega), ByteArray.size_append]
    omega
  · show (X ++ t).size ≤ _
    rw [ByteArray.size_append]
    omega
theorem expand_loop (L : List S35) (most : Int) (hL : L.length ≤ 1000000) : ∀ (d i : Nat) (X : ByteArray), i + d = L.length → X.size + 65536 * d ≤ 90000000000000 →
    Ev (fun k => snappy_Expand.l0 k most (bytesOf X) L (L.length : Int) (i : Int)) (exq (L.drop i) X most) := by
  intro d
  induction d with
  | zero =>
    intro i X hi hX
    refine ev_step (fun k => rfl) ?_
    simp only [snappy_Expand.l0]
    rw [List.drop_of_length_le (by omega), str_bytes]
    exact ev_neg (by omega) (ev_now _)
  | succ d ih =>
    intro i X hi hX
    refine ev_step (fun k => rfl) ?_
    simp only [snappy_Expand.l0]
    refine ev_pos (by omega) (ev_pos (by omega) (ev_pos (by omega) ?_))
    have e : rd_T35 L (i : Int) = L[i]'(by omega) := by unfold rd_T35; rw [Int.toNat_natCast]; simp [List.getD, List.getElem?_eq_getElem (show i < L.length by omega)]
    rw [e, List.drop_eq_getElem_cons (show i < L.length by omega)]
    refine ev_bind (add_ev (L[i]'(by omega)) X most (by omega)) ?_
    unfold exq
    by_cases h1 : badB (L[i]'(by omega)) X = true
    · rw [if_pos h1, if_pos h1]
      exact ev_neg (by simp) (ev_now _)
    · rw [if_neg h1, if_neg h1]
      by_cases h2 : addN (L[i]'(by omega)) > wrap64 (most - (X.size : Int))
      · rw [if_pos h2, if_pos h2]
        exact ev_neg (by simp) (ev_now _)
      · rw [if_neg h2, if_neg h2]
        refine ev_pos rfl ?_
        rw [wr (n := (i : Int) + 1) (by omega) (by omega)]
        have := ext_size (L[i]'(by omega)) X (by simpa using h1)
        exact ih (i + 1) _ (by omega) (by omega)
theorem expand_ev (L : List S35) (most : Int) (hL : L.length ≤ 1000000) : Ev (fun k => snappy_Expand.f k L most) (exq L ⟨#[]⟩ most) := by
  unfold snappy_Expand.f
  exact expand_loop L most hL L.length 0 ⟨#[]⟩ (by omega) (by show 0 + 65536 * L.length ≤ _; omega)
/-! ### numbers of so many bytes -/
/-- n's bytes, lowest first. -/
def numb : Int → Nat → List Int
  | _, 0 => []
  | n, d + 1 => (n % 256) :: numb (n / 256) d
theorem put_loop (c : Int) : ∀ (d : Nat) (i n : Int) (l : List Int), 0 ≤ i → i + d = c → c ≤ 100 → l.length + d ≤ 100000000000000 → Ev (fun k => snappy_put.l0 k l n c i) (l ++ numb n d) := by
  intro d
  induction d with
  | zero =>
    intro i n l h0 h1 h2 h3
    refine ev_step (fun k => rfl) ?_
    simp only [snappy_put.l0, numb, List.append_nil]
    exact ev_neg (by omega) (ev_now _)
  | succ d ih =>
    intro i n l h0 h1 h2 h3
    refine ev_step (fun k => rfl) ?_
    simp only [snappy_put.l0]
    refine ev_pos (by omega) (ev_pos (by omega) ?_)
    rw [wr (n := i + 1) (by omega) (by omega)]
    refine ev_eq (ih (i + 1) (n / 256) _ (by omega) (by omega) h2 (by simp; omega)) ?_
    simp only [numb, List.append_assoc, List.singleton_append]
theorem put_ev (l : List Int) (n : Int) (d : Nat) (hd : d ≤ 100) (hl : l.length ≤ 90000000000000) : Ev (fun k => snappy_put.f k l n (d : Int)) (l ++ numb n d) := by
  unfold snappy_put.f
  exact put_loop (d : Int) d 0 n l (by omega) (by omega) (by omega) (by omega)
theorem str_app (a b : List Int) : strOfNums (a ++ b) = strOfNums a ++ strOfNums b := by
  unfold strOfNums
  apply ByteArray.ext
  simp
theorem str_size (a : List Int) : (strOfNums a).size = a.length := strOfNums_size a
/-! ### a part's bytes -/
/-- The bytes that a part is, as numbers. -/
def wl (x : S35) : List Int :=
  if x.f0 then
    (if 4 ≤ x.f3 ∧ x.f3 ≤ 11 ∧ x.f2 < 2048 then [x.f2 / 256 * 32 + (x.f3 - 4) * 4 + 1, x.f2 % 256]
     else if x.f2 < 65536 then ((x.f3 - 1) * 4 + 2) :: numb x.f2 2 else ((x.f3 - 1) * 4 + 3) :: numb x.f2 4)
  else (if x.f1.size ≤ 60 then [((x.f1.size : Int) - 1) * 4] else if x.f1.size ≤ 256 then 240 :: numb ((x.f1.size : Int) - 1) 1 else 244 :: numb ((x.f1.size : Int) - 1) 2) ++ bytesOf x.f1
theorem or2 (m : Nat) (h : m < 64) : Go.bits .or .i64 ((m : Int) * 4) 2 = (m : Int) * 4 + 2 ∧ Go.bits .or .i64 ((m : Int) * 4) 3 = (m : Int) * 4 + 3 ∧ Go.bits .or .i64 ((m : Int) * 4) 0 = (m : Int) * 4 := by
  have : ∀ m : Fin 64, Go.bits .or .i64 ((m.val : Int) * 4) 2 = (m.val : Int) * 4 + 2 ∧ Go.bits .or .i64 ((m.val : Int) * 4) 3 = (m.val : Int) * 4 + 3 ∧ Go.bits .or .i64 ((m.val : Int) * 4) 0 = (m.val : Int) * 4 := by decide +kernel
  exact this ⟨m, h⟩
theorem or1 (a b : Nat) (ha : a < 8) (hb : b < 8) : Go.bits .or .i64 (Go.bits .or .i64 ((a : Int) * 32) ((b : Int) * 4)) 1 = (a : Int) * 32 + (b : Int) * 4 + 1 := by
  have : ∀ a b : Fin 8, Go.bits .or .i64 (Go.bits .or .i64 ((a.val : Int) * 32) ((b.val : Int) * 4)) 1 = (a.val : Int) * 32 + (b.val : Int) * 4 + 1 := by decide +kernel
  exact this ⟨a, ha⟩ ⟨b, hb⟩
theorem numb_len : ∀ (d : Nat) (n : Int), (numb n d).length = d
  | 0, _ => rfl
  | d + 1, n => by simp [numb, numb_len d]
theorem write_copy (t : ByteArray) (o n : Int) (l : List Int) (hl : l.length ≤ 80000000000000) (h1 : t.size = 0) (h2 : 1 ≤ n) (h3 : n ≤ 64) (h4 : 1 ≤ o) (h5 : o < 4294967296) :
    Ev (fun k => snappy_Part_write.f k true t o n l) (l ++ wl ⟨true, t, o, n⟩) := by
  have hj1 : ∀ x5 : Int, Ev (fun k => snappy_Part_write.j1 k l x5 (decide (o < 65536)) true t o n) (l ++ (if o < 65536 then ((n - 1) * 4 + 2) :: numb o 2 else ((n - 1) * 4 + 3) :: numb o 4)) := by
    intro x5
    refine ev_step (fun k => rfl) ?_
    simp only [snappy_Part_write.j1]
    rw [wr (n := n - 1) (by omega) (by omega), wr (n := (n - 1) * 4) (by omega) (by omega)]
    obtain ⟨m, hm⟩ : ∃ m : Nat, n - 1 = (m : Int) := ⟨(n - 1).toNat, by omega⟩
    have ho := or2 m (by omega)
    rw [hm, ho.1, ho.2.1]
    by_cases h6 : o < 65536
    · rw [if_pos h6]
      refine ev_pos (by simp; exact h6) (ev_pos (by omega) (ev_bind (put_ev _ o 2 (by omega) (by simp; omega)) ?_))
      refine ev_eq (ev_now _) ?_
      rw [show ((m : Int) * 4 + 2) % 256 = (m : Int) * 4 + 2 from by omega]
      simp
    · rw [if_neg h6]
      refine ev_neg (by simp; omega) (ev_pos trivial (ev_pos (by omega) (ev_bind (put_ev _ o 4 (by omega) (by simp; omega)) ?_)))
      refine ev_eq (ev_now _) ?_
      rw [show ((m : Int) * 4 + 3) % 256 = (m : Int) * 4 + 3 from by omega]
      simp
  have hj0 : ∀ x5 : Int, Ev (fun k => snappy_Part_write.j0 k l x5 false true t o n) (l ++ (if o < 65536 then ((n - 1) * 4 + 2) :: numb o 2 else ((n - 1) * 4 + 3) :: numb o 4)) := by
    intro x5
    refine ev_step (fun k => rfl) ?_
    simp only [snappy_Part_write.j0]
    exact ev_neg (by simp) (ev_pos trivial (hj1 x5))
  unfold snappy_Part_write.f wl
  simp only [if_true]
  by_cases h6 : 4 ≤ n
  · refine ev_pos h6 ?_
    by_cases h7 : n ≤ 11
    · refine ev_pos h7 ?_
      by_cases h8 : o < 2048
      · rw [if_pos ⟨h6, h7, h8⟩, decide_eq_true h8]
        refine ev_step (fun k => rfl) ?_
        simp only [snappy_Part_write.j0]
        obtain ⟨a, ha⟩ : ∃ a : Nat, o / 256 = (a : Int) := ⟨(o / 256).toNat, by omega⟩
        obtain ⟨b, hb⟩ : ∃ b : Nat, n - 4 = (b : Int) := ⟨(n - 4).toNat, by omega⟩
        rw [wr (n := n - 4) (by omega) (by omega), ha, hb, wr (n := (a : Int) * 32) (by omega) (by omega), wr (n := (b : Int) * 4) (by omega) (by omega), or1 a b (by omega) (by omega)]
        refine ev_some (ev_pos (by simp; omega) (ev_eq (ev_now _) ?_))
        rw [show ((a : Int) * 32 + (b : Int) * 4 + 1) % 256 = (a : Int) * 32 + (b : Int) * 4 + 1 from by omega]
      · rw [if_neg (fun e => h8 e.2.2), decide_eq_false h8]
        exact hj0 _
    · rw [if_neg (fun e => h7 e.2.1)]
      exact ev_neg h7 (hj0 _)
  · rw [if_neg (fun e => h6 e.1)]
    exact ev_neg h6 (hj0 _)
theorem write_lit (t : ByteArray) (l : List Int) (hl : l.length ≤ 80000000000000) (h1 : 1 ≤ t.size) (h2 : t.size ≤ 65536) :
    Ev (fun k => snappy_Part_write.f k false t 0 0 l) (l ++ wl ⟨false, t, 0, 0⟩) := by
  unfold snappy_Part_write.f wl
  simp only [Bool.false_eq_true, if_false]
  rw [wr (n := (t.size : Int) - 1) (by omega) (by omega)]
  refine ev_step (fun k => rfl) ?_
  simp only [snappy_Part_write.j0]
  refine ev_neg (by simp) (ev_neg (by simp) (ev_step (fun k => rfl) ?_))
  simp only [snappy_Part_write.j1]
  refine ev_neg (by simp) (ev_neg (by simp) ?_)
  have htail : ∀ (d : Nat), d ≤ 2 → 1 ≤ d → t.size ≤ 256 ^ d → Ev (fun k => if 0 ≤ wrap64 (8 * (d : Int)) then if shr .i64 ((t.size : Int) - 1) (wrap64 (8 * (d : Int))) > 0 then snappy_Part_write.l0 k l ((t.size : Int) - 1) (wrap64 ((d : Int) + 1)) false t 0 0 else if l.length < 140737488355328 then (snappy_put.f k (l ++ [Go.bits .or .i64 (wrap64 (wrap64 (wrap64 (60 + (d : Int)) - 1) * 4)) 0 % 256]) ((t.size : Int) - 1) (d : Int)).bind fun t252 => if t252.length + t.size < 140737488355328 then some (t252 ++ bytesOf t) else none else none else none) (l ++ ((236 + 4 * (d : Int)) :: numb ((t.size : Int) - 1) d ++ bytesOf t)) := by
    intro d hd hd1 hp
    rw [wr (n := 8 * (d : Int)) (by omega) (by omega), wr (n := 60 + (d : Int)) (by omega) (by omega), wr (n := 60 + (d : Int) - 1) (by omega) (by omega), wr (n := (60 + (d : Int) - 1) * 4) (by omega) (by omega)]
    have ho := (or2 (59 + d) (by omega)).2.2
    rw [show (60 + (d : Int) - 1) * 4 = ((59 + d : Nat) : Int) * 4 from by omega, ho]
    have hsh : shr .i64 ((t.size : Int) - 1) (8 * (d : Int)) = 0 := by
      unfold shr
      rcases (show d = 1 ∨ d = 2 by omega) with rfl | rfl
      · show ((t.size : Int) - 1) / 2 ^ 8 = 0; omega
      · show ((t.size : Int) - 1) / 2 ^ 16 = 0; omega
    rw [hsh]
    refine ev_pos (by omega) (ev_neg (by omega) (ev_pos (by omega) (ev_bind (put_ev _ _ d (by omega) (by simp; omega)) (ev_pos (by simp [numb_len]; omega) (ev_eq (ev_now _) ?_)))))
    rw [show ((59 + d : Nat) : Int) * 4 % 256 = 236 + 4 * (d : Int) from by omega]
    simp
  by_cases h3 : t.size ≤ 60
  · rw [if_pos h3]
    refine ev_pos (by omega) (ev_pos (by omega) (ev_some (ev_pos (by simp; omega) (ev_eq (ev_now _) ?_))))
    rw [wr (n := ((t.size : Int) - 1) * 4) (by omega) (by omega), show ((t.size : Int) - 1) * 4 % 256 = ((t.size : Int) - 1) * 4 from by omega]
    simp
  · rw [if_neg h3]
    refine ev_neg (by omega) (ev_step (fun k => rfl) ?_)
    simp only [snappy_Part_write.l0]
    by_cases h4 : t.size ≤ 256
    · rw [if_pos h4]
      exact htail 1 (by omega) (by omega) (by omega)
    · rw [if_neg h4]
      rw [wr (n := (8 : Int) * 1) (by omega) (by omega)]
      have hsh : shr .i64 ((t.size : Int) - 1) (8 * 1) = ((t.size : Int) - 1) / 256 := rfl
      rw [hsh]
      refine ev_pos (by omega) (ev_pos (by omega) (ev_step (fun k => rfl) ?_))
      simp only [snappy_Part_write.l0]
      rw [show wrap64 ((1 : Int) + 1) = ((2 : Nat) : Int) from by unfold wrap64; omega]
      exact htail 2 (by omega) (by omega) (by omega)
theorem write_ev (x : S35) (l : List Int) (hl : l.length ≤ 80000000000000) (hm : mayB x = true) : Ev (fun k => snappy_Part_write.f k x.f0 x.f1 x.f2 x.f3 l) (l ++ wl x) := by
  obtain ⟨b, t, o, n⟩ := x
  rw [mayB_iff] at hm
  rcases hm with ⟨rfl, h1, h2, h3, h4, h5⟩ | ⟨rfl, h1, h2, rfl, rfl⟩
  · exact write_copy t o n l hl h1 h2 h3 h4 h5
  · exact write_lit t l hl h1 h2
/-! ### a part's bytes, by the document -/
theorem numb1 (n : Int) (h0 : 0 ≤ n) (h1 : n < 256) : numb n 1 = [n] := by
  simp only [numb]
  rw [show n % 256 = n from by omega]
/-! ### the length ahead -/
def vb : Nat → Int → List Int
  | 0, n => [n]
  | f + 1, n => if n < 128 then [n] else (n % 128 + 128) :: vb f (n / 128)
theorem or128 (m : Nat) (h : m < 256) : Go.bits .or .u8 (m : Int) 128 = (m : Int) % 128 + 128 := by
  have : ∀ m : Fin 256, Go.bits .or .u8 (m.val : Int) 128 = (m.val : Int) % 128 + 128 := by decide +kernel
  exact this ⟨m, h⟩
theorem putu_loop : ∀ (f : Nat) (n : Int) (l : List Int), 0 ≤ n → n < 128 * 128 ^ f → l.length + f ≤ 100000000000000 → Ev (fun k => bits_PutUvarint.l0 k l n) (l ++ vb f n) := by
  intro f
  induction f with
  | zero =>
    intro n l h0 h1 h2
    refine ev_step (fun k => rfl) ?_
    simp only [bits_PutUvarint.l0, vb]
    refine ev_neg (by simp at h1; omega) (ev_pos (by omega) (ev_eq (ev_now _) ?_))
    rw [show n % 256 = n from by simp at h1; omega]
  | succ f ih =>
    intro n l h0 h1 h2
    refine ev_step (fun k => rfl) ?_
    simp only [bits_PutUvarint.l0, vb]
    by_cases h3 : n < 128
    · rw [if_pos h3]
      refine ev_neg (by omega) (ev_pos (by omega) (ev_eq (ev_now _) ?_))
      rw [show n % 256 = n from by omega]
    · rw [if_neg h3]
      refine ev_pos (by omega) (ev_pos (by omega) ?_)
      obtain ⟨m, hm⟩ : ∃ m : Nat, n % 256 = (m : Int) := ⟨(n % 256).toNat, by omega⟩
      rw [hm, or128 m (by omega), ← hm, show n % 256 % 128 = n % 128 from by omega]
      refine ev_eq (ih (n / 128) _ (by omega) ?_ (by simp; omega)) (by simp)
      rw [Int.pow_succ] at h1
      generalize (128 : Int) ^ f = q at h1 ⊢
      omega
theorem wrap_u64 {n : Int} (h0 : 0 ≤ n) (h1 : n ≤ 9000000000000000000) : IntKind.u64.wrap n = n := by unfold IntKind.wrap; simp [IntKind.signed, IntKind.bits]; omega
/-! ### Write -/
theorem ext_size2 (x : S35) (X : ByteArray) (h : badB x X = false) : ((ext x X).size : Int) = X.size + addN x := by
  obtain ⟨b, t, o, n⟩ := x
  unfold badB at h
  simp only [Bool.or_eq_false_iff, Bool.not_eq_false', Bool.and_eq_false_iff, decide_eq_false_iff_not] at h
  obtain ⟨h1, h2⟩ := h
  rw [mayB_iff] at h1
  unfold ext addN
  simp only
  rcases h1 with ⟨rfl, h1, h3, h4, h5, h6⟩ | ⟨rfl, h1, h3, rfl, rfl⟩
  · rw [cp_size _ (by omega) _ _ (by rw [ByteArray.size_append]; simp at h2; omega), ByteArray.size_append]
    simp; omega
  · show ((X ++ t).size : Int) = _
    rw [ByteArray.size_append]
    simp
theorem exq_ok (most : Int) (h0 : 0 ≤ most) (h1 : most ≤ 65536) : ∀ (l : List S35) (X : ByteArray), (X.size : Int) ≤ most → (exq l X most).2 = 0 → (∀ x ∈ l, mayB x = true) ∧ ((exq l X most).1.size : Int) ≤ most
  | [], X, hX, _ => ⟨by simp, hX⟩
  | x :: l, X, hX, h => by
    unfold exq at h ⊢
    by_cases hb : badB x X = true
    · rw [if_pos hb] at h; cases h
    · rw [if_neg hb] at h ⊢
      by_cases hn : addN x > wrap64 (most - (X.size : Int))
      · rw [if_pos hn] at h; cases h
      · rw [if_neg hn] at h ⊢
        rw [wr (n := most - (X.size : Int)) (by omega) (by omega)] at hn
        have hs := ext_size2 x X (by simpa using hb)
        have ih := exq_ok most h0 h1 l (ext x X) (by omega) h
        refine ⟨fun y hy => ?_, ih.2⟩
        rcases List.mem_cons.1 hy with rfl | hy
        · unfold badB at hb
          by_cases hm : mayB y = true
          · exact hm
          · simp [hm] at hb
        · exact ih.1 y hy
theorem wl_len (x : S35) (hm : mayB x = true) : (wl x).length ≤ 65600 := by
  obtain ⟨b, t, o, n⟩ := x
  rw [mayB_iff] at hm
  unfold wl
  rcases hm with ⟨rfl, h1, h2, h3, h4, h5⟩ | ⟨rfl, h1, h2, rfl, rfl⟩
  · simp only [if_true]
    split
    · simp
    · split <;> simp [numb_len]
  · simp only [Bool.false_eq_true, if_false]
    rw [List.length_append, bytesOf_length]
    split
    · simp; omega
    · split <;> simp [numb_len] <;> omega
theorem write_loop (L : List S35) (hL : L.length ≤ 1000000) (hm : ∀ x ∈ L, mayB x = true) : ∀ (d i : Nat) (acc : List Int), i + d = L.length → acc.length + 65600 * d ≤ 80000000000000 →
    Ev (fun k => snappy_Write.l0 k acc L (L.length : Int) (i : Int)) (strOfNums (acc ++ (L.drop i).flatMap wl), 0) := by
  intro d
  induction d with
  | zero =>
    intro i acc hi hX
    refine ev_step (fun k => rfl) ?_
    simp only [snappy_Write.l0]
    rw [List.drop_of_length_le (by omega)]
    refine ev_neg (by omega) (ev_eq (ev_now _) (by simp))
  | succ d ih =>
    intro i acc hi hX
    refine ev_step (fun k => rfl) ?_
    simp only [snappy_Write.l0]
    refine ev_pos (by omega) (ev_pos (by omega) (ev_pos (by omega) ?_))
    have e : rd_T35 L (i : Int) = L[i]'(by omega) := by unfold rd_T35; rw [Int.toNat_natCast]; simp [List.getD, List.getElem?_eq_getElem (show i < L.length by omega)]
    have hmi := hm (L[i]'(by omega)) (List.getElem_mem _)
    have hwl := wl_len _ hmi
    rw [e, List.drop_eq_getElem_cons (show i < L.length by omega)]
    refine ev_bind (write_ev (L[i]'(by omega)) acc (by omega) hmi) ?_
    rw [wr (n := (i : Int) + 1) (by omega) (by omega)]
    refine ev_eq (ih (i + 1) _ (by omega) (by rw [List.length_append]; omega)) ?_
    rw [List.flatMap_cons, List.append_assoc]
/-- The block of parts. -/
def blk (L : List S35) : ByteArray × Int := if (exq L ⟨#[]⟩ 65536).2 = 0 then (strOfNums (vb 8 ((exq L ⟨#[]⟩ 65536).1.size : Int) ++ L.flatMap wl), 0) else (⟨#[]⟩, (exq L ⟨#[]⟩ 65536).2)
theorem vb_len : ∀ (f : Nat) (n : Int), (vb f n).length ≤ f + 1
  | 0, _ => by simp [vb]
  | f + 1, n => by
    unfold vb
    split
    · simp
    · have := vb_len f (n / 128); simp; omega
theorem pow8 {n : Int} (h : n ≤ 65536) : n < 128 * 128 ^ 8 := by
  have : (128 : Int) ^ 8 = 72057594037927936 := by decide
  rw [this]
  omega
theorem swrite_ev (L : List S35) (hL : L.length ≤ 1000000) : Ev (fun k => snappy_Write.f k L) (blk L) := by
  unfold snappy_Write.f blk
  refine ev_bind (expand_ev L 65536 hL) ?_
  by_cases h : (exq L ⟨#[]⟩ 65536).2 = 0
  · rw [if_pos h]
    have hk := exq_ok 65536 (by omega) (by omega) L ⟨#[]⟩ (by show ((0 : Nat) : Int) ≤ _; omega) h
    refine ev_pos h ?_
    rw [wrap_u64 (by omega) (by omega)]
    have hv := vb_len 8 ((exq L ⟨#[]⟩ 65536).1.size : Int)
    have hp := putu_loop 8 ((exq L ⟨#[]⟩ 65536).1.size : Int) [] (by omega) (pow8 (by omega)) (by show 0 + 8 ≤ 100000000000000; omega)
    rw [List.nil_append] at hp
    exact ev_bind hp (write_loop L hL hk.1 L.length 0 _ (by omega) (by omega))
  · rw [if_neg h]
    exact ev_neg h (ev_now _)
/-! ### Encode -/
theorem parts_len (s : ByteArray) : (parts s).length ≤ s.size + 1 := pk_len m35 s _ 0 0 [] (by omega) (by simp)
theorem encode_ev (s : ByteArray) (hs : s.size ≤ 65536) : Ev (fun k => snappy_Encode.f k s) (blk (parts s)) := by
  unfold snappy_Encode.f
  have := parts_len s
  exact ev_bind (pack_ev s hs) (ev_pos rfl (ev_bind (swrite_ev (parts s) (by omega)) (ev_now _)))
end Go.Proofs.Ythcjcmgdblhhfaa.SpecVa
