/- Plain facts about reading a block: its length, its elements, what it stands for. No conditions. -/
import Derived.Test.YthcjcmgdblhhfaaPVx1
import Derived.Test.YthcjcmgdblhhfaaPVx3
import Derived.Test.YthcjcmgdblhhfaaPVx7
import Derived.Test.YthcjcmgdblhhfaaPVx10
import Derived.Laws.BitsLemmas
import Derived.Test.YthcjcmgdblhhfaaSpecVd
namespace Go.Proofs.Ythcjcmgdblhhfaa.SpecVe
open Go.RowKit Go.Proofs.Ythcjcmgdblhhfaa.PV Go.Proofs.YthcjcmgdblhhfaaW.PrintWords Go.Proofs.YthcjcmgdblhhfaaW.PrintLast Go.Proofs.YthcjcmgdblhhfaaW.PrintMore Go.Proofs.Ythcjcmgdblhhfaa.SpecVa Go.Proofs.Ythcjcmgdblhhfaa.SpecVd
set_option linter.unusedVariables false
set_option linter.unusedSimpArgs false
/-! ### bits -/
theorem i64w (n : Int) (h0 : 0 ≤ n) (h1 : n < 2 ^ 62) : IntKind.i64.wrap n = n := by rw [IntKind.wrap_i64]; omega
theorem u64w (n : Int) (h0 : 0 ≤ n) (h1 : n < 2 ^ 64) : IntKind.u64.wrap n = n := by unfold IntKind.wrap; simp [IntKind.signed, IntKind.bits]; omega
theorem and3 (t : Int) (h0 : 0 ≤ t) (h1 : t ≤ 255) : Go.bits .and .i64 t 3 = t % 4 := bits_mask .i64 62 (by decide) i64w 2 (by decide) t h0 (by omega)
theorem and7 (t : Int) (h0 : 0 ≤ t) (h1 : t ≤ 255) : Go.bits .and .i64 t 7 = t % 8 := bits_mask .i64 62 (by decide) i64w 3 (by decide) t h0 (by omega)
theorem or256 (x b : Int) (h0 : 0 ≤ x) (h1 : x ≤ 1099511627776) (b0 : 0 ≤ b) (b1 : b ≤ 255) : Go.bits .or .i64 (x * 256) b = x * 256 + b := bits_join .i64 62 (by decide) i64w 8 _ _ (by omega) (by omega) (by omega) b0 (by omega) (by omega)
/-! ### numbers of so many bytes, read -/
def lv : List Int → Int
  | [] => 0
  | b :: l => b + 256 * lv l
theorem lv_bound : ∀ l : List Int, (∀ b ∈ l, 0 ≤ b ∧ b ≤ 255) → 0 ≤ lv l ∧ lv l < 256 ^ l.length
  | [], _ => by simp [lv]
  | b :: l, h => by
    have h1 := h b (by simp)
    have h2 := lv_bound l (fun c hc => h c (by simp [hc]))
    rw [lv, List.length_cons, Int.pow_succ]
    omega
theorem bytes_all (X : ByteArray) : ∀ b ∈ bytesOf X, 0 ≤ b ∧ b ≤ 255 := by
  intro b hb
  unfold bytesOf at hb
  obtain ⟨u, _, rfl⟩ := List.mem_map.1 hb
  have := u.toNat_lt
  omega
theorem lv4 (X : ByteArray) (h : X.size ≤ 4) (i : Nat) : 0 ≤ lv ((bytesOf X).drop i) ∧ lv ((bytesOf X).drop i) < 256 ^ (X.size - i) := by
  have := lv_bound ((bytesOf X).drop i) (fun b hb => bytes_all X b (List.mem_of_mem_drop hb))
  rwa [List.length_drop, bytesOf_length] at this
theorem p256 {i : Nat} (h : i ≤ 4) : (256 : Int) ^ i ≤ 4294967296 := by
  have : i = 0 ∨ i = 1 ∨ i = 2 ∨ i = 3 ∨ i = 4 := by omega
  rcases this with rfl | rfl | rfl | rfl | rfl <;> decide
theorem p256' {i : Nat} (h : i ≤ 3) : (256 : Int) ^ i ≤ 16777216 := by
  have : i = 0 ∨ i = 1 ∨ i = 2 ∨ i = 3 := by omega
  rcases this with rfl | rfl | rfl | rfl <;> decide
theorem low_loop (X : ByteArray) (hX : X.size ≤ 4) (s : ByteArray) (p e : Int) : ∀ i : Nat, i ≤ X.size → Ev (fun k => snappy_low.l0 k X (lv ((bytesOf X).drop i)) ((i : Int) - 1) s p e) (lv (bytesOf X), s, p, e) := by
  intro i
  induction i with
  | zero =>
    intro h
    refine ev_step (fun k => rfl) ?_
    simp only [snappy_low.l0]
    exact ev_neg (by omega) (ev_now _)
  | succ i ih =>
    intro h
    have hb := bt_range X (i : Int)
    have hl := lv4 X hX (i + 1)
    have hp := p256' (i := X.size - (i + 1)) (by omega)
    have e1 : lv ((bytesOf X).drop i) = lv ((bytesOf X).drop (i + 1)) * 256 + bt X (i : Int) := by
      rw [List.drop_eq_getElem_cons (show i < (bytesOf X).length by rw [bytesOf_length]; omega), lv, ← rd_bytesOf]
      unfold rd
      rw [Int.toNat_natCast, List.getD, List.getElem?_eq_getElem (show i < (bytesOf X).length by rw [bytesOf_length]; omega), Option.getD_some]
      omega
    refine ev_step (fun k => rfl) ?_
    simp only [snappy_low.l0]
    rw [show ((i + 1 : Nat) : Int) - 1 = (i : Int) from by omega]
    refine ev_pos (by omega) (ev_pos (by omega) (ev_pos (by omega) ?_))
    rw [wr (n := bt X (i : Int)) (by omega) (by omega), wr (n := lv ((bytesOf X).drop (i + 1)) * 256) (by omega) (by omega), or256 _ _ hl.1 (by omega) hb.1 hb.2, ← e1, wr (n := (i : Int) - 1) (by omega) (by omega)]
    exact ih (by omega)
/-! ### the reader -/
theorem raw_ok (s : ByteArray) (p n : Nat) (hs : s.size ≤ 4611686018427387904) (h : p + n ≤ s.size) : bits_Reader_Raw.f s (p : Int) 0 (n : Int) = some (s.extract p (p + n), s, ((p + n : Nat) : Int), 0) := by
  unfold bits_Reader_Raw.f bits_Reader_good.f bits_Reader_Left.f
  simp only [Option.bind_some]
  have e0 : wrap64 ((s.size : Int) - (p : Int)) = (s.size : Int) - p := wr (by omega) (by omega)
  have e1 : wrap64 ((p : Int) + n) = ((p + n : Nat) : Int) := by rw [wr (by omega) (by omega)]; omega
  have e2 : wrap64 (((p + n : Nat) : Int) - n) = (p : Int) := by rw [wr (by omega) (by omega)]; omega
  rw [if_pos (by decide), if_neg (by omega), e0, if_neg (by omega), e1, e2, if_pos (by omega), if_pos (by omega), if_pos (by omega), Int.toNat_natCast, Int.toNat_natCast]
theorem raw_short (s : ByteArray) (p n : Nat) (hs : s.size ≤ 4611686018427387904) (hp : p ≤ s.size) (h : s.size < p + n) : bits_Reader_Raw.f s (p : Int) 0 (n : Int) = some (⟨#[]⟩, s, (p : Int), 8) := by
  unfold bits_Reader_Raw.f bits_Reader_good.f bits_Reader_Left.f
  simp only [Option.bind_some]
  have e0 : wrap64 ((s.size : Int) - (p : Int)) = (s.size : Int) - p := wr (by omega) (by omega)
  rw [if_pos (by decide), if_neg (by omega), e0, if_pos (by omega)]
theorem raw_err (s : ByteArray) (p n : Int) : bits_Reader_Raw.f s p 8 n = some (⟨#[]⟩, s, p, 8) := by
  unfold bits_Reader_Raw.f bits_Reader_good.f
  simp only [Option.bind_some]
  rw [if_neg (by decide)]
theorem byte_ok (s : ByteArray) (p : Nat) (hs : s.size ≤ 4611686018427387904) (h : p < s.size) : bits_Reader_Byte.f s (p : Int) 0 = some (bt s (p : Int), s, ((p + 1 : Nat) : Int), 0) := by
  unfold bits_Reader_Byte.f
  rw [show (1 : Int) = ((1 : Nat) : Int) from rfl, raw_ok s p 1 hs (by omega)]
  simp only [Option.bind_some]
  have hz : (s.extract p (p + 1)).size = 1 := by rw [ByteArray.size_extract]; omega
  rw [if_neg (fun e => by rw [nil_size] at e; omega), if_pos (by omega), show (0 : Int) = ((0 : Nat) : Int) from rfl, bt_ext s (by omega) (by omega)]
  rfl
theorem low_ok (s : ByteArray) (p n : Nat) (hs : s.size ≤ 4611686018427387904) (hn : n ≤ 4) (h : p + n ≤ s.size) : Ev (fun k => snappy_low.f k s (p : Int) 0 (n : Int)) (lv (bytesOf (s.extract p (p + n))), s, ((p + n : Nat) : Int), 0) := by
  unfold snappy_low.f
  rw [raw_ok s p n hs h]
  have hz : (s.extract p (p + n)).size = n := by rw [ByteArray.size_extract]; omega
  refine ev_some ?_
  have := low_loop (s.extract p (p + n)) (by omega) s ((p + n : Nat) : Int) 0 n (by omega)
  rw [List.drop_of_length_le (by rw [bytesOf_length]; omega)] at this
  rw [hz, wr (by omega) (by omega)]
  exact this
theorem low_short (s : ByteArray) (p n : Nat) (hs : s.size ≤ 4611686018427387904) (hp : p ≤ s.size) (h : s.size < p + n) : Ev (fun k => snappy_low.f k s (p : Int) 0 (n : Int)) (0, s, (p : Int), 8) := by
  unfold snappy_low.f
  rw [raw_short s p n hs hp h]
  refine ev_some (ev_step (fun k => rfl) ?_)
  simp only [snappy_low.l0]
  rw [show wrap64 (((⟨#[]⟩ : ByteArray).size : Int) - 1) = -1 from by rw [show (⟨#[]⟩ : ByteArray).size = 0 from rfl, wr (by omega) (by omega)]; rfl]
  exact ev_neg (by decide) (ev_now _)
/-! ### elements -/
/-- The element at a place: the part, and where the next one begins; none: bytes are missing. -/
def elem (s : ByteArray) (p : Nat) : Option (S35 × Nat) :=
  if bt s (p : Int) % 4 = 1 then (if p + 1 + 1 ≤ s.size then some (⟨true, ⟨#[]⟩, bt s (p : Int) / 32 * 256 + lv (bytesOf (s.extract (p + 1) (p + 1 + 1))), 4 + bt s (p : Int) / 4 % 8⟩, p + 1 + 1) else none)
  else if bt s (p : Int) % 4 = 2 then (if p + 1 + 2 ≤ s.size then some (⟨true, ⟨#[]⟩, lv (bytesOf (s.extract (p + 1) (p + 1 + 2))), bt s (p : Int) / 4 + 1⟩, p + 1 + 2) else none)
  else if bt s (p : Int) % 4 = 3 then (if p + 1 + 4 ≤ s.size then some (⟨true, ⟨#[]⟩, lv (bytesOf (s.extract (p + 1) (p + 1 + 4))), bt s (p : Int) / 4 + 1⟩, p + 1 + 4) else none)
  else if bt s (p : Int) / 4 ≥ 60 then
    (if p + 1 + (bt s (p : Int) / 4 - 59).toNat ≤ s.size then
      (if p + 1 + (bt s (p : Int) / 4 - 59).toNat + ((lv (bytesOf (s.extract (p + 1) (p + 1 + (bt s (p : Int) / 4 - 59).toNat)))).toNat + 1) ≤ s.size then
        some (⟨false, s.extract (p + 1 + (bt s (p : Int) / 4 - 59).toNat) (p + 1 + (bt s (p : Int) / 4 - 59).toNat + ((lv (bytesOf (s.extract (p + 1) (p + 1 + (bt s (p : Int) / 4 - 59).toNat)))).toNat + 1)), 0, 0⟩,
          p + 1 + (bt s (p : Int) / 4 - 59).toNat + ((lv (bytesOf (s.extract (p + 1) (p + 1 + (bt s (p : Int) / 4 - 59).toNat)))).toNat + 1)) else none) else none)
  else (if p + 1 + (bt s (p : Int) / 4 + 1).toNat ≤ s.size then some (⟨false, s.extract (p + 1) (p + 1 + (bt s (p : Int) / 4 + 1).toNat), 0, 0⟩, p + 1 + (bt s (p : Int) / 4 + 1).toNat) else none)
/-- What 'next' tells of it. -/
def Told (s : ByteArray) (g : Nat → Option (Bool × ByteArray × Int × Int × ByteArray × Int × Int)) : Option (S35 × Nat) → Prop
  | some (x, q) => Ev g (x.f0, x.f1, x.f2, x.f3, s, (q : Int), 0)
  | none => ∃ c t o n p, Ev g (c, t, o, n, s, p, 8)
theorem next_ev (s : ByteArray) (p : Nat) (hs : s.size ≤ 4611686018427387904) (h : p < s.size) : Told s (fun k => snappy_next.f k s (p : Int) 0) (elem s p) := by
  unfold snappy_next.f elem
  rw [byte_ok s p hs h]
  simp only [Option.bind_some]
  have hb := bt_range s (p : Int)
  generalize bt s (p : Int) = t at hb
  rw [wr (n := t) (by omega) (by omega), and3 t hb.1 hb.2]
  have two (n : Nat) (hn : n ≤ 4) (hq : p + 1 + n ≤ s.size) : (s.extract (p + 1) (p + 1 + n)).size = n := by rw [ByteArray.size_extract]; omega
  have lvb (n : Nat) (hn : n ≤ 4) (hq : p + 1 + n ≤ s.size) : 0 ≤ lv (bytesOf (s.extract (p + 1) (p + 1 + n))) ∧ lv (bytesOf (s.extract (p + 1) (p + 1 + n))) < 256 ^ n := by
    have := lv4 (s.extract (p + 1) (p + 1 + n)) (by rw [two n hn hq]; omega) 0
    rwa [List.drop_zero, two n hn hq] at this
  by_cases h1 : t % 4 = 1
  · rw [if_pos h1]
    by_cases hq : p + 1 + 1 ≤ s.size
    · rw [if_pos hq]
      have hl := lvb 1 (by omega) hq
      refine ev_pos h1 (ev_bind (low_ok s (p + 1) 1 hs (by omega) hq) (ev_eq (ev_now _) ?_))
      simp only
      rw [and7 (t / 4) (by omega) (by omega), wr (n := 4 + t / 4 % 8) (by omega) (by omega), wr (n := t / 4 / 8 * 256) (by omega) (by omega), or256 _ _ (by omega) (by omega) hl.1 (by omega), show t / 4 / 8 = t / 32 from by omega]
    · rw [if_neg hq]
      exact ⟨_, _, _, _, _, ev_pos h1 (ev_bind (low_short s (p + 1) 1 hs (by omega) (by omega)) (ev_now _))⟩
  · rw [if_neg h1]
    by_cases h2 : t % 4 = 2
    · rw [if_pos h2]
      by_cases hq : p + 1 + 2 ≤ s.size
      · rw [if_pos hq]
        refine ev_neg h1 (ev_pos h2 (ev_bind (low_ok s (p + 1) 2 hs (by omega) hq) (ev_eq (ev_now _) ?_)))
        simp only
        rw [wr (n := t / 4 + 1) (by omega) (by omega)]
      · rw [if_neg hq]
        exact ⟨_, _, _, _, _, ev_neg h1 (ev_pos h2 (ev_bind (low_short s (p + 1) 2 hs (by omega) (by omega)) (ev_now _)))⟩
    · rw [if_neg h2]
      by_cases h3 : t % 4 = 3
      · rw [if_pos h3]
        by_cases hq : p + 1 + 4 ≤ s.size
        · rw [if_pos hq]
          refine ev_neg h1 (ev_neg h2 (ev_pos h3 (ev_bind (low_ok s (p + 1) 4 hs (by omega) hq) (ev_eq (ev_now _) ?_))))
          simp only
          rw [wr (n := t / 4 + 1) (by omega) (by omega)]
        · rw [if_neg hq]
          exact ⟨_, _, _, _, _, ev_neg h1 (ev_neg h2 (ev_pos h3 (ev_bind (low_short s (p + 1) 4 hs (by omega) (by omega)) (ev_now _))))⟩
      · rw [if_neg h3]
        by_cases h4 : t / 4 ≥ 60
        · rw [if_pos h4]
          have ek : wrap64 ((wrap64 (t / 4 - 60)) + 1) = (((t / 4 - 59).toNat : Nat) : Int) := by
            rw [wr (n := t / 4 - 60) (by omega) (by omega), wr (by omega) (by omega)]
            omega
          have hk : (t / 4 - 59).toNat ≤ 4 := by omega
          rw [ek]
          generalize (t / 4 - 59).toNat = d at hk
          by_cases hq : p + 1 + d ≤ s.size
          · rw [if_pos hq]
            have hl := lvb d hk hq
            have hp := p256 hk
            have low := low_ok s (p + 1) d hs hk hq
            generalize lv (bytesOf (s.extract (p + 1) (p + 1 + d))) = z at hl low
            have ez : wrap64 (z + 1) = ((z.toNat + 1 : Nat) : Int) := by rw [wr (by omega) (by omega)]; omega
            by_cases hr : p + 1 + d + (z.toNat + 1) ≤ s.size
            · rw [if_pos hr]
              refine ev_neg h1 (ev_neg h2 (ev_neg h3 (ev_pos h4 (ev_bind low ?_))))
              simp only
              rw [ez, raw_ok s (p + 1 + d) (z.toNat + 1) hs hr]
              exact ev_some (ev_now _)
            · rw [if_neg hr]
              refine ⟨false, ⟨#[]⟩, 0, 0, ((p + 1 + d : Nat) : Int), ev_neg h1 (ev_neg h2 (ev_neg h3 (ev_pos h4 (ev_bind low ?_))))⟩
              · simp only
                rw [ez, raw_short s (p + 1 + d) (z.toNat + 1) hs hq (by omega)]
                exact ev_some (ev_now _)
          · rw [if_neg hq]
            refine ⟨false, ⟨#[]⟩, 0, 0, ((p + 1 : Nat) : Int), ev_neg h1 (ev_neg h2 (ev_neg h3 (ev_pos h4 (ev_bind (low_short s (p + 1) d hs (by omega) (by omega)) ?_))))⟩
            · simp only
              rw [raw_err]
              exact ev_some (ev_now _)
        · rw [if_neg h4]
          have ek : wrap64 (t / 4 + 1) = (((t / 4 + 1).toNat : Nat) : Int) := by
            rw [wr (n := t / 4 + 1) (by omega) (by omega)]
            omega
          rw [ek]
          by_cases hq : p + 1 + (t / 4 + 1).toNat ≤ s.size
          · rw [if_pos hq]
            refine ev_neg h1 (ev_neg h2 (ev_neg h3 (ev_neg h4 ?_)))
            rw [raw_ok s (p + 1) (t / 4 + 1).toNat hs hq]
            exact ev_some (ev_now _)
          · rw [if_neg hq]
            refine ⟨false, ⟨#[]⟩, 0, 0, ((p + 1 : Nat) : Int), ev_neg h1 (ev_neg h2 (ev_neg h3 (ev_neg h4 ?_)))⟩
            · rw [raw_short s (p + 1) (t / 4 + 1).toNat hs (by omega) (by omega)]
              exact ev_some (ev_now _)
/-- What an element is: its place ahead of the next one's; a copy, or a literal. -/
theorem elem_ok (s : ByteArray) (p : Nat) (h : p < s.size) (x : S35) (q : Nat) (he : elem s p = some (x, q)) : p + 1 < q + 1 ∧ p + 1 < q ∧ q ≤ s.size ∧
    ((x.f0 = true ∧ x.f1 = ⟨#[]⟩ ∧ 0 ≤ x.f2 ∧ x.f2 < 4294967296 ∧ 1 ≤ x.f3 ∧ x.f3 ≤ 64) ∨ (x.f0 = false ∧ 1 ≤ x.f1.size ∧ x.f1.size ≤ s.size ∧ x.f2 = 0 ∧ x.f3 = 0)) := by
  unfold elem at he
  have hb := bt_range s (p : Int)
  generalize bt s (p : Int) = t at hb he
  have two (n : Nat) (hn : n ≤ 4) (hq : p + 1 + n ≤ s.size) : (s.extract (p + 1) (p + 1 + n)).size = n := by rw [ByteArray.size_extract]; omega
  have lvb (n : Nat) (hn : n ≤ 4) (hq : p + 1 + n ≤ s.size) : 0 ≤ lv (bytesOf (s.extract (p + 1) (p + 1 + n))) ∧ lv (bytesOf (s.extract (p + 1) (p + 1 + n))) < 256 ^ n := by
    have := lv4 (s.extract (p + 1) (p + 1 + n)) (by rw [two n hn hq]; omega) 0
    rwa [List.drop_zero, two n hn hq] at this
  split at he
  · split at he
    · cases he
      have := lvb 1 (by omega) (by omega)
      exact ⟨by omega, by omega, by omega, Or.inl ⟨rfl, rfl, by simp only; omega, by simp only; omega, by simp only; omega, by simp only; omega⟩⟩
    · cases he
  · split at he
    · split at he
      · cases he
        have := lvb 2 (by omega) (by omega)
        have := p256 (i := 2) (by omega)
        exact ⟨by omega, by omega, by omega, Or.inl ⟨rfl, rfl, by simp only; omega, by simp only; omega, by simp only; omega, by simp only; omega⟩⟩
      · cases he
    · split at he
      · split at he
        · cases he
          have := lvb 4 (by omega) (by omega)
          have := p256 (i := 4) (by omega)
          exact ⟨by omega, by omega, by omega, Or.inl ⟨rfl, rfl, by simp only; omega, by simp only; omega, by simp only; omega, by simp only; omega⟩⟩
        · cases he
      · split at he
        · split at he
          · split at he
            · cases he
              refine ⟨by omega, by omega, by omega, Or.inr ⟨rfl, ?_, ?_, rfl, rfl⟩⟩ <;> rw [ByteArray.size_extract] <;> omega
            · cases he
          · cases he
        · split at he
          · cases he
            refine ⟨by omega, by omega, by omega, Or.inr ⟨rfl, ?_, ?_, rfl, rfl⟩⟩ <;> rw [ByteArray.size_extract] <;> omega
          · cases he
/-! ### the length ahead -/
/-- The number from byte i on: it, where it ends, and 0; or what is wrong. -/
def uv (s : ByteArray) : Nat → Nat → Int → Int × Int × Int
  | 0, _, _ => (0, 0, 4)
  | f + 1, i, acc => if i = s.size then (0, 0, 8) else if i = 9 ∧ bt s (i : Int) > 1 then (0, 0, 4)
    else if bt s (i : Int) < 128 then (acc + bt s (i : Int) * 2 ^ (7 * i), (i : Int) + 1, 0) else uv s f (i + 1) (acc + (bt s (i : Int) - 128) * 2 ^ (7 * i))
theorem andNot128 (m : Nat) (h : m < 256) : 128 ≤ m → Go.bits .andNot .u64 (m : Int) 128 = (m : Int) - 128 := by
  have : ∀ m : Fin 256, 128 ≤ m.val → Go.bits .andNot .u64 (m.val : Int) 128 = (m.val : Int) - 128 := by decide +kernel
  exact this ⟨m, h⟩
theorem or_up (i : Nat) (acc c : Int) (h0 : 0 ≤ acc) (h1 : acc < 2 ^ (7 * i)) (c0 : 0 ≤ c) (hc : c * 2 ^ (7 * i) < 2 ^ 64) (hi : i ≤ 9) :
    Go.bits .or .u64 acc (shl .u64 c (7 * i)) = acc + c * 2 ^ (7 * i) := by
  have hp : (0 : Int) < 2 ^ (7 * i) := Int.pow_pos (by decide)
  have hpn : (2 : Int) ^ (7 * i) ≤ 2 ^ 63 := by
    have : (2 : Nat) ^ (7 * i) ≤ 2 ^ 63 := Nat.pow_le_pow_right (by decide) (by omega)
    exact_mod_cast this
  have hc0 : 0 ≤ c * 2 ^ (7 * i) := Int.mul_nonneg c0 (by omega)
  have e : shl .u64 c (7 * i) = c * 2 ^ (7 * i) := by
    unfold shl
    rw [show (7 * (i : Int)).toNat = 7 * i from by omega, show IntKind.u64.bits = 64 from rfl, Nat.min_eq_left (by omega)]
    exact u64w _ hc0 hc
  rw [e]
  have hmul : c * 2 ^ (7 * i) % 2 ^ (7 * i) = 0 := Int.mul_emod_left _ _
  generalize hy : c * 2 ^ (7 * i) = y at *
  obtain ⟨a, rfl⟩ := Int.eq_ofNat_of_zero_le h0
  obtain ⟨b, rfl⟩ := Int.eq_ofNat_of_zero_le hc0
  have hn := bits_nat .u64 64 (by decide) u64w
  have comm : Go.bits .or .u64 (a : Int) (b : Int) = Go.bits .or .u64 (b : Int) (a : Int) := by
    rw [(hn a b (by omega) (by omega)).2, (hn b a (by omega) (by omega)).2, Nat.or_comm]
  rw [comm, bits_join .u64 64 (by decide) u64w (7 * i) _ _ hc0 hmul hc h0 h1 (by omega)]
  omega
theorem uv_ev (s : ByteArray) (hs : s.size ≤ 4611686018427387904) : ∀ (f i : Nat) (acc : Int), f + i = 10 → i ≤ s.size → 0 ≤ acc → acc < 2 ^ (7 * i) → i ≤ 9 →
    Ev (fun k => bits_Uvarint.l0 k s 0 acc (i : Int)) (uv s f i acc) := by
  intro f
  induction f with
  | zero => intro i acc h; omega
  | succ f ih =>
    intro i acc hf hi h0 h1 h9
    refine ev_step (fun k => rfl) ?_
    simp only [bits_Uvarint.l0]
    rw [show wrap64 (0 + (i : Int)) = (i : Int) from by rw [wr (by omega) (by omega)]; omega]
    unfold uv
    have hb := bt_range s (i : Int)
    have hm := andNot128 (bt s (i : Int)).toNat (by omega)
    rw [show (((bt s (i : Int)).toNat : Nat) : Int) = bt s (i : Int) from by omega] at hm
    by_cases c1 : i = s.size
    · rw [if_pos c1]
      exact ev_pos (by omega) (ev_now _)
    · rw [if_neg c1]
      refine ev_neg (by omega) (ev_pos (by omega) (ev_pos (by omega) ?_))
      rw [show IntKind.u64.wrap (bt s (i : Int)) = bt s (i : Int) from u64w _ (by omega) (by omega)]
      generalize bt s (i : Int) = b at hb hm
      have main : ∀ bad : Bool, (bad = true ↔ i = 9 ∧ b > 1) → Ev (fun k => bits_Uvarint.j2 k s 0 acc (i : Int) b bad) (if i = 9 ∧ b > 1 then (0, 0, 4) else if b < 128 then (acc + b * 2 ^ (7 * i), (i : Int) + 1, 0) else uv s f (i + 1) (acc + (b - 128) * 2 ^ (7 * i))) := by
        intro bad hbad
        refine ev_step (fun k => rfl) ?_
        simp only [bits_Uvarint.j2]
        by_cases c2 : i = 9 ∧ b > 1
        · rw [if_pos c2]
          exact ev_pos (hbad.2 c2) (ev_now _)
        · rw [if_neg c2]
          refine ev_neg (fun e => c2 (hbad.1 e)) ?_
          have hp : (0 : Int) < 2 ^ (7 * i) := Int.pow_pos (by decide)
          rw [show wrap64 (7 * (i : Int)) = 7 * (i : Int) from wr (by omega) (by omega), show wrap64 (0 + (i : Int)) = (i : Int) from by rw [wr (by omega) (by omega)]; omega, wr (n := (i : Int) + 1) (by omega) (by omega)]
          have big : b * 2 ^ (7 * i) < 2 ^ 64 := by
            by_cases hi9 : i = 9
            · subst hi9
              have : b ≤ 1 := by
                by_cases hb1 : b > 1
                · exact absurd ⟨rfl, hb1⟩ c2
                · omega
              have e63 : (2 : Int) ^ (7 * 9) = 9223372036854775808 := by decide
              rw [e63]
              omega
            · have : (2 : Nat) ^ (7 * i) ≤ 2 ^ 56 := Nat.pow_le_pow_right (by decide) (by omega)
              have h56 : (2 : Int) ^ (7 * i) ≤ 2 ^ 56 := by exact_mod_cast this
              have : b * 2 ^ (7 * i) ≤ 255 * 2 ^ (7 * i) := Int.mul_le_mul_of_nonneg_right hb.2 (by omega)
              omega
          by_cases c3 : b < 128
          · rw [if_pos c3]
            refine ev_pos c3 (ev_pos (by omega) (ev_eq (ev_now _) ?_))
            rw [or_up i acc b h0 h1 hb.1 big h9]
          · rw [if_neg c3]
            have hi8 : i ≤ 8 := by
              by_cases hi9 : i = 9
              · exact absurd ⟨hi9, by omega⟩ c2
              · omega
            have e7 : (2 : Int) ^ (7 * (i + 1)) = 128 * 2 ^ (7 * i) := by
              rw [Nat.mul_add, Int.pow_add]
              omega
            refine ev_neg c3 (ev_pos (by omega) ?_)
            rw [hm (by omega), or_up i acc (b - 128) h0 h1 (by omega) (by rw [Int.sub_mul]; omega) h9]
            have hm2 : (b - 128) * 2 ^ (7 * i) ≤ 127 * 2 ^ (7 * i) := Int.mul_le_mul_of_nonneg_right (by omega) (by omega)
            have hm3 : 0 ≤ (b - 128) * 2 ^ (7 * i) := Int.mul_nonneg (by omega) (by omega)
            exact ih (i + 1) _ (by omega) (by omega) (by omega) (by omega) (by omega)
      by_cases c4 : i = 9
      · exact ev_pos (by omega) (main _ (by simp [c4]))
      · exact ev_neg (by omega) (main _ (by simp [c4]))
/-- A block's length: it, where it ends, and 0; or what is wrong. -/
def ln (s : ByteArray) : Int × Int × Int := uv s 10 0 0
theorem uvarint_ev (s : ByteArray) (hs : s.size ≤ 4611686018427387904) : Ev (fun k => bits_Uvarint.f k s 0) (ln s) := by
  unfold bits_Uvarint.f
  refine ev_neg (by omega) (ev_step (fun k => rfl) ?_)
  simp only [bits_Uvarint.j0]
  rw [decide_eq_false (by omega)]
  exact ev_neg (by simp) (uv_ev s hs 10 0 0 (by omega) (by omega) (by omega) (by decide) (by omega))
theorem uv_at (s : ByteArray) : ∀ (f i : Nat) (acc : Int), i ≤ s.size → (uv s f i acc).2.2 = 0 → ∃ q : Nat, (uv s f i acc).2.1 = (q : Int) ∧ i < q ∧ q ≤ s.size
  | 0, i, acc, hi, h => by simp [uv] at h
  | f + 1, i, acc, hi, h => by
    unfold uv at h ⊢
    split at h
    · simp at h
    · rename_i c1
      rw [if_neg c1]
      split at h
      · simp at h
      · rename_i c2
        rw [if_neg c2]
        split at h
        · rename_i c3
          rw [if_pos c3]
          exact ⟨i + 1, by simp, by omega, by omega⟩
        · rename_i c3
          rw [if_neg c3]
          obtain ⟨q, e, h1, h2⟩ := uv_at s f (i + 1) _ (by omega) h
          exact ⟨q, e, by omega, h2⟩
theorem uv_pos (s : ByteArray) : ∀ (f i : Nat) (acc : Int), 0 ≤ acc → 0 ≤ (uv s f i acc).1
  | 0, i, acc, h => by simp [uv]
  | f + 1, i, acc, h => by
    have hb := bt_range s (i : Int)
    have hp : (0 : Int) < 2 ^ (7 * i) := Int.pow_pos (by decide)
    unfold uv
    split
    · simp
    · split
      · simp
      · split
        · have := Int.mul_nonneg hb.1 (Int.le_of_lt hp)
          simp only
          omega
        · have := Int.mul_nonneg (show 0 ≤ bt s (i : Int) - 128 by omega) (Int.le_of_lt hp)
          exact uv_pos s f (i + 1) _ (by omega)
theorem ln_at (s : ByteArray) (h : (ln s).2.2 = 0) : ∃ q : Nat, (ln s).2.1 = (q : Int) ∧ 0 < q ∧ q ≤ s.size := uv_at s 10 0 0 (by omega) h
theorem ln_pos (s : ByteArray) : 0 ≤ (ln s).1 := uv_pos s 10 0 0 (by omega)
/-- How many bytes a block says that it stands for. -/
def sz (s : ByteArray) : Int × Int := if (ln s).2.2 = 0 then (if (ln s).1 ≥ 4294967296 then (0, 4) else ((ln s).1, 0)) else (0, (ln s).2.2)
theorem size_ev (s : ByteArray) (hs : s.size ≤ 4611686018427387904) : Ev (fun k => snappy_Size.f k s) (sz s) := by
  unfold snappy_Size.f sz
  refine ev_bind (uvarint_ev s hs) ?_
  by_cases h : (ln s).2.2 = 0
  · by_cases h2 : (ln s).1 ≥ 4294967296
    · exact ev_pos h (ev_pos h2 (ev_eq (ev_now _) (by rw [if_pos h, if_pos h2])))
    · exact ev_pos h (ev_neg h2 (ev_eq (ev_now _) (by rw [if_pos h, if_neg h2])))
  · exact ev_neg h (ev_eq (ev_now _) (by rw [if_neg h]))
theorem varint_ev (s : ByteArray) (hs : s.size ≤ 4611686018427387904) (h : (ln s).2.2 = 0) (h2 : (ln s).1 < 4294967296) : Ev (fun k => bits_Reader_Varint.f k s 0 0 4294967296) ((ln s).1, s, (ln s).2.1, 0) := by
  unfold bits_Reader_Varint.f bits_Reader_good.f
  refine ev_some (ev_pos rfl (ev_bind (uvarint_ev s hs) (ev_pos h (ev_step (fun k => rfl) ?_))))
  simp only [bits_Reader_Varint.j0]
  rw [decide_eq_false (by omega)]
  refine ev_neg (by simp) ?_
  unfold bits_Reader_take.f
  rw [if_pos h]
  exact ev_some (ev_pos rfl (ev_now _))
/-! ### Decode -/
/-- May a part not stand behind these bytes, with so many bytes said? -/
def stepBad (x : S35) (X : ByteArray) (size : Int) : Bool := decide ((x.f0 = true ∧ (x.f2 < 1 ∨ x.f2 > (X.size : Int))) ∨ (X.size : Int) + (x.f1.size : Int) + x.f3 > size)
def dcl (s : ByteArray) (size : Int) : Nat → Nat → ByteArray → ByteArray × Int
  | 0, _, _ => (⟨#[]⟩, 4)
  | f + 1, p, X =>
    if p < s.size then (match elem s p with
      | none => (⟨#[]⟩, 8)
      | some (x, q) => if stepBad x X size = true then (⟨#[]⟩, 4) else dcl s size f q (ext x X))
    else if (X.size : Int) < size then (⟨#[]⟩, 4) else (X, 0)
theorem step_size (x : S35) (X : ByteArray) (size : Int) (n : Nat) (hx : (x.f0 = true ∧ x.f1 = ⟨#[]⟩ ∧ 0 ≤ x.f2 ∧ x.f2 < 4294967296 ∧ 1 ≤ x.f3 ∧ x.f3 ≤ 64) ∨ (x.f0 = false ∧ 1 ≤ x.f1.size ∧ x.f1.size ≤ n ∧ x.f2 = 0 ∧ x.f3 = 0))
    (h : stepBad x X size ≠ true) : ((ext x X).size : Int) = (X.size : Int) + (x.f1.size : Int) + x.f3 ∧ ((ext x X).size : Int) ≤ size ∧ X.size < (ext x X).size := by
  unfold stepBad at h
  rw [ne_eq, decide_eq_true_eq] at h
  unfold ext
  rcases hx with ⟨h0, h1, h2, h3, h4, h5⟩ | ⟨h0, h1, h2, h3, h4⟩
  · rw [h1, show X ++ (⟨#[]⟩ : ByteArray) = X from ByteArray.append_empty, cp_size _ (by simp [h0] at h; omega) _ _ (by simp [h0] at h; omega)]
    have hz : (⟨#[]⟩ : ByteArray).size = 0 := rfl
    rw [hz]
    rw [h1, hz] at h
    omega
  · rw [h3, h4, show cp (X ++ x.f1) (0 : Int).toNat (0 : Int).toNat = X ++ x.f1 from rfl, ByteArray.size_append]
    omega
theorem dec_loop (s : ByteArray) (size : Int) (hs : s.size ≤ 1000000000000) (h0 : 0 ≤ size) (h1 : size < 4294967296) : ∀ (f p : Nat) (X : ByteArray), p ≤ s.size → s.size < f + p → (X.size : Int) ≤ size →
    Ev (fun k => snappy_Decode.l0 k size (bytesOf X) s (p : Int) 0) (dcl s size f p X) := by
  intro f
  induction f with
  | zero => intro p X h2 h3; omega
  | succ f ih =>
    intro p X h2 h3 h4
    refine ev_step (fun k => rfl) ?_
    simp only [snappy_Decode.l0]
    unfold dcl bits_Reader_Left.f
    refine ev_some ?_
    rw [wr (n := (s.size : Int) - p) (by omega) (by omega), wr (n := size) (by omega) (by omega), bytesOf_length]
    by_cases hp : p < s.size
    · rw [if_pos hp]
      refine ev_pos (by omega) ?_
      have hn := next_ev s p (by omega) hp
      have hok := elem_ok s p hp
      generalize he : elem s p = r at hn hok
      match r, hn, hok with
      | none, hn, _ =>
        obtain ⟨c, t, o, n, q, hn⟩ := hn
        refine ev_bind hn ?_
        unfold bits_Reader_Err.f
        exact ev_some (ev_neg (by simp) (ev_now _))
      | some (x, q), hn, hok =>
        obtain ⟨_, g1, g2, g3⟩ := hok x q rfl
        refine ev_bind hn ?_
        unfold bits_Reader_Err.f
        refine ev_some (ev_pos rfl ?_)
        simp only
        have hst := step_size x X size s.size g3
        have hbad : stepBad x X size = true ↔ (x.f0 = true ∧ (x.f2 < 1 ∨ x.f2 > (X.size : Int))) ∨ (X.size : Int) + (x.f1.size : Int) + x.f3 > size := by unfold stepBad; rw [decide_eq_true_eq]
        by_cases hb : (x.f1.size : Int) > 65536
        · have hlit : x.f0 = false ∧ x.f2 = 0 ∧ x.f3 = 0 := by
            rcases g3 with ⟨_, e, _⟩ | ⟨e0, _, _, e2, e3⟩
            · rw [e] at hb
              have : (⟨#[]⟩ : ByteArray).size = 0 := rfl
              omega
            · exact ⟨e0, e2, e3⟩
          refine ev_pos hb ?_
          rw [wr (n := size - (X.size : Int)) (by omega) (by omega)]
          by_cases hc : (x.f1.size : Int) > size - (X.size : Int)
          · rw [if_pos (hbad.2 (Or.inr (by omega)))]
            exact ev_pos hc (ev_now _)
          · have hnb : ¬ stepBad x X size = true := fun e => by
              rcases hbad.1 e with ⟨e, _⟩ | e
              · rw [hlit.1] at e; cases e
              · omega
            rw [if_neg hnb]
            refine ev_neg hc (ev_pos (by omega) ?_)
            have := ih q (ext x X) (by omega) (by omega) (hst hnb).2.1
            rw [← bytes_app]
            rw [show X ++ x.f1 = ext x X from by unfold ext; rw [hlit.2.1, hlit.2.2]; rfl]
            exact this
        · refine ev_neg hb (ev_bind (add_ev x X size (by omega)) ?_)
          have hmay : badB x X = true ↔ (x.f0 = true ∧ (x.f2 < 1 ∨ x.f2 > (X.size : Int))) := by
            have hz : (⟨#[]⟩ : ByteArray).size = 0 := rfl
            rcases g3 with ⟨e0, e1, e2, e3, e4, e5⟩ | ⟨e0, e1, e2, e3, e4⟩
            · unfold badB mayB
              simp only [e0, e1, hz]
              simp
              omega
            · have hmy : mayB x = true := by
                obtain ⟨b, t, o, n⟩ := x
                exact (mayB_iff _ _ _ _).2 (Or.inr ⟨e0, e1, by simp only at hb; omega, e3, e4⟩)
              unfold badB
              rw [hmy, e0]
              simp
          have hadd : ¬ (x.f0 = true ∧ (x.f2 < 1 ∨ x.f2 > (X.size : Int))) → (addN x = (x.f1.size : Int) + x.f3) := by
            intro _
            unfold addN
            have hz : (⟨#[]⟩ : ByteArray).size = 0 := rfl
            rcases g3 with ⟨e0, e1, e2, e3, e4, e5⟩ | ⟨e0, e1, e2, e3, e4⟩
            · rw [e0, e1, hz]; simp
            · rw [e0, e4]; simp
          by_cases hm : badB x X = true
          · rw [if_pos hm, if_pos (hbad.2 (Or.inl (hmay.1 hm)))]
            exact ev_neg (by simp) (ev_now _)
          · rw [if_neg hm, wr (n := size - (X.size : Int)) (by omega) (by omega)]
            have ha := hadd (fun e => hm (hmay.2 e))
            by_cases hc : addN x > size - (X.size : Int)
            · rw [if_pos hc, if_pos (hbad.2 (Or.inr (by omega)))]
              exact ev_neg (by simp) (ev_now _)
            · rw [if_neg hc]
              have hnb : ¬ stepBad x X size = true := fun e => by
                rcases hbad.1 e with e | e
                · exact hm (hmay.2 e)
                · omega
              rw [if_neg hnb]
              exact ev_pos rfl (ih q (ext x X) (by omega) (by omega) (hst hnb).2.1)
    · rw [if_neg hp]
      refine ev_neg (by omega) ?_
      by_cases hc : (X.size : Int) < size
      · exact ev_pos hc (ev_eq (ev_now _) (by rw [if_pos hc]))
      · exact ev_neg hc (ev_eq (ev_now _) (by rw [if_neg hc, str_bytes]))
/-- What a block stands for, with so many bytes at most. -/
def dec (s : ByteArray) (most : Int) : ByteArray × Int :=
  if (sz s).2 = 0 then (if most < 0 then (⟨#[]⟩, 40) else if (sz s).1 > most then (⟨#[]⟩, 40) else dcl s (sz s).1 (s.size + 1) (ln s).2.1.toNat ⟨#[]⟩) else (⟨#[]⟩, (sz s).2)
theorem sz_ok (s : ByteArray) (h : (sz s).2 = 0) : (ln s).2.2 = 0 ∧ (ln s).1 < 4294967296 ∧ (sz s).1 = (ln s).1 := by
  unfold sz at h ⊢
  split at h
  · rename_i h1
    rw [if_pos h1]
    split at h
    · simp at h
    · rename_i h2
      rw [if_neg h2]
      exact ⟨h1, by omega, rfl⟩
  · rename_i h1
    exact absurd h h1
theorem decode_ev (s : ByteArray) (most : Int) (hs : s.size ≤ 1000000000000) (hm : most ≤ 9223372036854775807) : Ev (fun k => snappy_Decode.f k s most) (dec s most) := by
  unfold snappy_Decode.f dec
  refine ev_bind (size_ev s (by omega)) ?_
  by_cases h : (sz s).2 = 0
  · rw [if_pos h]
    refine ev_pos h ?_
    by_cases h1 : most < 0
    · rw [if_pos h1]
      exact ev_pos h1 (ev_now _)
    · rw [if_neg h1]
      refine ev_neg h1 ?_
      rw [show IntKind.u64.wrap most = most from u64w _ (by omega) (by omega)]
      by_cases h2 : (sz s).1 > most
      · rw [if_pos h2]
        exact ev_pos h2 (ev_now _)
      · rw [if_neg h2]
        obtain ⟨g1, g2, g3⟩ := sz_ok s h
        obtain ⟨q, e, q0, q1⟩ := ln_at s g1
        have hp := ln_pos s
        refine ev_neg h2 ?_
        unfold bits_New.f
        refine ev_some (ev_bind (varint_ev s (by omega) g1 g2) ?_)
        simp only
        rw [e, Int.toNat_natCast, ← bytes_nil]
        exact dec_loop s (sz s).1 hs (by omega) (by omega) (s.size + 1) q ⟨#[]⟩ q1 (by omega) (by show ((0 : Nat) : Int) ≤ _; omega)
  · rw [if_neg h]
    exact ev_neg h (ev_now _)
end Go.Proofs.Ythcjcmgdblhhfaa.SpecVe
