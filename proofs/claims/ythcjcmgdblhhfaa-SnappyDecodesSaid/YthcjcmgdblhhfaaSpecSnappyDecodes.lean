/- Plain facts about what the snappy functions compute: no memory and no program. No conditions. -/
import Derived.Test.YthcjcmgdblhhfaaPVx0
import Derived.Test.YthcjcmgdblhhfaaPVx1
import Derived.Test.YthcjcmgdblhhfaaPVx2
import Derived.Test.YthcjcmgdblhhfaaPVx3
import Derived.Test.YthcjcmgdblhhfaaPVx4
import Derived.Test.YthcjcmgdblhhfaaPVx5
import Derived.Test.YthcjcmgdblhhfaaPVx6
import Derived.Test.YthcjcmgdblhhfaaPVx7
import Derived.Test.YthcjcmgdblhhfaaPVx8
import Derived.Test.YthcjcmgdblhhfaaPVx9
import Derived.Test.YthcjcmgdblhhfaaPVx10
import Derived.Test.YthcjcmgdblhhfaaPVx18
import Derived.Test.YthcjcmgdblhhfaaPVx28
import Derived.Test.YthcjcmgdblhhfaaPVx38
import Derived.Test.YthcjcmgdblhhfaaPVx39
import Derived.Test.YthcjcmgdblhhfaaPVx40
import Derived.Test.YthcjcmgdblhhfaaPVx41
import Derived.Test.YthcjcmgdblhhfaaPVx42
import Derived.Test.YthcjcmgdblhhfaaPVx43
import Derived.Laws.BitsLemmas
import Derived.Laws.Strings
namespace Go.Proofs.Ythcjcmgdblhhfaa.SpecSnappyDecodes
open Go.RowKit Go.Proofs.Ythcjcmgdblhhfaa.PV Go.Proofs.YthcjcmgdblhhfaaW.PrintWords Go.Proofs.YthcjcmgdblhhfaaW.PrintLast Go.Proofs.YthcjcmgdblhhfaaW.PrintMore
set_option linter.unusedVariables false
set_option linter.unusedSimpArgs false
section
variable {α β : Type} {r : α}
theorem ev_pos {c : Prop} [Decidable c] {f g : Nat → Option α} (hc : c) (h : Ev f r) : Ev (fun n => if c then f n else g n) r := by
  obtain ⟨K, hK⟩ := h; exact ⟨K, fun k hk => by show (if c then f k else g k) = _; rw [if_pos hc]; exact hK k hk⟩
theorem ev_neg {c : Prop} [Decidable c] {f g : Nat → Option α} (hc : ¬ c) (h : Ev g r) : Ev (fun n => if c then f n else g n) r := by
  obtain ⟨K, hK⟩ := h; exact ⟨K, fun k hk => by show (if c then f k else g k) = _; rw [if_neg hc]; exact hK k hk⟩
theorem ev_bind {a : β} {g : Nat → Option β} {f : Nat → β → Option α} (h : Ev g a) (k : Ev (fun n => f n a) r) : Ev (fun n => (g n).bind (f n)) r := Ev.bind h k
theorem ev_some {a : β} {f : Nat → β → Option α} (k : Ev (fun n => f n a) r) : Ev (fun n => (some a).bind (f n)) r := by
  obtain ⟨K, hK⟩ := k; exact ⟨K, fun n hn => hK n hn⟩
theorem ev_now (r : α) : Ev (fun _ => some r) r := Ev.now r
theorem ev_eq {a b : α} {f : Nat → Option α} (h : Ev f a) (e : a = b) : Ev f b := e ▸ h
theorem ev_step {g f : Nat → Option α} (h : ∀ k, g (k + 1) = f k) (k : Ev f r) : Ev g r := Ev.step h k
theorem ev_pure {g : Option α} (h : g = some r) : Ev (fun _ => g) r := ⟨0, fun _ _ => h⟩
end
theorem wr {n : Int} (h1 : -9223372036854775808 ≤ n) (h2 : n ≤ 9223372036854775807) : wrap64 n = n := by unfold wrap64; omega

/-- The first place from i on, d places at most, that p does not hold at. -/
def run (p : Nat → Bool) : Nat → Nat → Nat
  | i, 0 => i
  | i, d + 1 => if p i then run p (i + 1) d else i
/-- Alike from two places on: at distance n. -/
def eqAt (s : ByteArray) (a b : Nat) (n : Nat) : Bool := decide (b + n < s.size) && (bt s ((a + n : Nat) : Int) == bt s ((b + n : Nat) : Int))
def al (s : ByteArray) (a b : Nat) : Nat := run (eqAt s a b) 0 64
/-- The best of the distances from o on, d of them. -/
def best (s : ByteArray) (p : Nat) : Nat → Nat → Nat × Nat → Nat × Nat
  | _, 0, m => m
  | o, d + 1, m => best s p (o + 1) d (if m.2 < al s (p - o) p then (o, al s (p - o) p) else m)
/-- A place's match. -/
def mat (s : ByteArray) (p : Nat) : Nat × Nat := best s p 1 (min p 65535) (0, 0)
theorem awake_ev : Ev (fun k => batonlaw03_awake.f k) true := Ev.of batonlaw03_awake.mono (k := 40) (by decide +kernel)
theorem dat_get (a : Array UInt8) (i : Nat) (h : i < a.size) : a.getD i 0 = a[i] := by unfold Array.getD; rw [dif_pos h]; rfl
theorem dat_out (a : Array UInt8) (i : Nat) (h : ¬ i < a.size) : a.getD i 0 = 0 := by unfold Array.getD; rw [dif_neg h]
theorem bt_eq (s : ByteArray) (i : Nat) : bt s (i : Int) = ((s.data.getD i 0).toNat : Int) := by
  unfold bt
  rw [Int.toNat_natCast]
  by_cases h : i < s.size
  · rw [dif_pos h, dat_get _ _ h]
    rfl
  · rw [dif_neg h, dat_out _ _ h]
    rfl
section
variable {β : Type}
def litB (mk : Bool → ByteArray → Int → Int → β) (s : ByteArray) (a b : Nat) : List β := if a < b then [mk false (s.extract a b) 0 0] else []
/-- A text's parts, from a on, the last copy's end being fr. -/
def pk (mk : Bool → ByteArray → Int → Int → β) (s : ByteArray) : Nat → Nat → Nat → List β → List β
  | 0, _, _, out => out
  | f + 1, a, fr, out => if a < s.size then (if 4 ≤ (mat s a).2 then pk mk s f (a + (mat s a).2) (a + (mat s a).2) (out ++ litB mk s fr a ++ [mk true ⟨#[]⟩ (mat s a).1 (mat s a).2]) else pk mk s f (a + 1) fr out) else out ++ litB mk s fr s.size
end
def m35 (c : Bool) (t : ByteArray) (o n : Int) : S35 := ⟨c, t, o, n⟩
def parts (s : ByteArray) : List S35 := pk m35 s (s.size + 1) 0 0 []
theorem str_bytes (X : ByteArray) : strOfNums (bytesOf X) = X := by
  unfold bytesOf strOfNums
  rw [List.map_map]
  have e : ((fun n : Int => UInt8.ofNat n.toNat) ∘ fun b : UInt8 => (b.toNat : Int)) = id := by
    funext b
    simp
  rw [e, List.map_id]
theorem bytes_app (X Y : ByteArray) : bytesOf (X ++ Y) = bytesOf X ++ bytesOf Y := by
  unfold bytesOf
  simp
theorem bytes_nil : bytesOf ⟨#[]⟩ = [] := rfl
theorem bytes_one (X : ByteArray) (k : Nat) (h : k < X.size) : bytesOf (X.extract k (k + 1)) = [bt X (k : Int)] := by
  unfold bytesOf
  rw [bt_eq, dat_get _ _ h]
  have e : (X.extract k (k + 1)).data.toList = [X.data[k]'h] := by
    apply List.ext_getElem
    · simp; have : X.data.size = X.size := rfl; omega
    · intro n h1 h2
      simp at h2
      subst h2
      simp
  rw [e]
  rfl
/-- A copy of n bytes from off behind the end. -/
def cp (X : ByteArray) (off : Nat) : Nat → ByteArray
  | 0 => X
  | n + 1 => cp (X ++ X.extract (X.size - off) (X.size - off + 1)) off n
theorem ext1_size (X : ByteArray) (k : Nat) (h : k < X.size) : (X ++ X.extract k (k + 1)).size = X.size + 1 := by
  rw [ByteArray.size_append, ByteArray.size_extract]; omega
theorem cp_size (off : Nat) (ho : 1 ≤ off) : ∀ (n : Nat) (X : ByteArray), off ≤ X.size → (cp X off n).size = X.size + n
  | 0, X, _ => rfl
  | n + 1, X, h => by
    unfold cp
    rw [cp_size off ho n _ (by rw [ext1_size _ _ (by omega)]; omega), ext1_size _ _ (by omega)]
    omega
def mayB (x : S35) : Bool := decide ((x.f0 = true ∧ x.f1.size = 0 ∧ 1 ≤ x.f3 ∧ x.f3 ≤ 64 ∧ 1 ≤ x.f2 ∧ x.f2 < 4294967296) ∨ (x.f0 = false ∧ 1 ≤ x.f1.size ∧ x.f1.size ≤ 65536 ∧ x.f2 = 0 ∧ x.f3 = 0))
theorem nil_size (s : ByteArray) : s.toList = ([] : List UInt8) ↔ s.size = 0 := by
  rw [Go.ByteArray.toList_eq, List.eq_nil_iff_length_eq_zero, Array.length_toList]
  rfl
theorem beq_dec (a b : Int) : (a == b) = decide (a = b) := rfl
theorem may_is (x : S35) : snappy_Part_may.f x.f0 x.f1 x.f2 x.f3 = some (mayB x) := by
  obtain ⟨b, t, o, n⟩ := x
  unfold snappy_Part_may.f mayB
  simp only [nil_size, beq_dec]
  generalize t.size = z
  cases b
  all_goals simp only [if_true, Bool.false_eq_true, if_false]
  all_goals (repeat' split)
  all_goals first
    | (refine congrArg some (decide_eq_decide.2 ?_); simp; try omega)
    | (refine congrArg some (Eq.symm (decide_eq_false ?_)); simp; try omega)
/-- Is a part none that may stand behind these bytes? -/
def badB (x : S35) (X : ByteArray) : Bool := !mayB x || (x.f0 && decide (x.f2 > (X.size : Int)))
def ext (x : S35) (X : ByteArray) : ByteArray := cp (X ++ x.f1) x.f2.toNat x.f3.toNat
def addN (x : S35) : Int := if x.f0 then x.f3 else (x.f1.size : Int)
theorem add_copy (c : Bool) (t : ByteArray) (o n : Int) (ho : 1 ≤ o) (hn : n ≤ 64) : ∀ (d : Nat) (j : Int) (Y : ByteArray), 0 ≤ j → (d : Int) + j = max n j → o ≤ (Y.size : Int) → Y.size + d ≤ 100000000000000 →
    (d ≤ 64) → Ev (fun k => snappy_Part_add.l0 k (bytesOf Y) n j c t o n) (bytesOf (cp Y o.toNat d), 0) := by
  intro d
  induction d with
  | zero =>
    intro j Y h0 h1 h2 h3 h4
    refine ev_step (fun k => rfl) ?_
    simp only [snappy_Part_add.l0]
    exact ev_neg (by omega) (ev_now _)
  | succ d ih =>
    intro j Y h0 h1 h2 h3 h4
    refine ev_step (fun k => rfl) ?_
    simp only [snappy_Part_add.l0]
    rw [bytesOf_length, wr (n := (Y.size : Int) - o) (by omega) (by omega), wr (n := j + 1) (by omega) (by omega)]
    refine ev_pos (by omega) (ev_pos (by omega) (ev_pos (by omega) (ev_pos (by omega) ?_)))
    have hlt : Y.size - o.toNat < Y.size := by omega
    have e : bytesOf Y ++ [rd (bytesOf Y) ((Y.size : Int) - o)] = bytesOf (Y ++ Y.extract (Y.size - o.toNat) (Y.size - o.toNat + 1)) := by
      rw [bytes_app, bytes_one _ _ hlt, rd_bytesOf, show (Y.size : Int) - o = ((Y.size - o.toNat : Nat) : Int) from by omega]
    rw [e]
    unfold cp
    have hz := ext1_size Y _ hlt
    exact ih (j + 1) _ (by omega) (by omega) (by omega) (by omega) (by omega)
theorem mayB_iff (b : Bool) (t : ByteArray) (o n : Int) : mayB ⟨b, t, o, n⟩ = true ↔ (b = true ∧ t.size = 0 ∧ 1 ≤ n ∧ n ≤ 64 ∧ 1 ≤ o ∧ o < 4294967296) ∨ (b = false ∧ 1 ≤ t.size ∧ t.size ≤ 65536 ∧ o = 0 ∧ n = 0) := by
  unfold mayB
  rw [decide_eq_true_eq]
theorem add_j1 (b : Bool) (t : ByteArray) (o n : Int) (X : ByteArray) (most nn : Int) (hX : X.size ≤ 90000000000000) (bad : Bool) (hb : bad = false → mayB ⟨b, t, o, n⟩ = true ∧ (b = true → o ≤ (X.size : Int))) :
    Ev (fun k => snappy_Part_add.j1 k (bytesOf X) most nn bad b t o n) (if bad = true then ([], 4) else if nn > wrap64 (most - (X.size : Int)) then ([], 40) else (bytesOf (ext ⟨b, t, o, n⟩ X), 0)) := by
  refine ev_step (fun k => rfl) ?_
  simp only [snappy_Part_add.j1]
  cases bad with
  | true => exact ev_now _
  | false =>
    obtain ⟨hm, ho⟩ := hb rfl
    rw [mayB_iff] at hm
    refine ev_neg (by simp) ?_
    rw [if_neg (by simp), bytesOf_length]
    by_cases h40 : nn > wrap64 (most - (X.size : Int))
    · rw [if_pos h40]
      exact ev_pos h40 (ev_now _)
    · rw [if_neg h40]
      refine ev_neg h40 (ev_pos (by omega) ?_)
      rw [← bytes_app]
      unfold ext
      simp only
      rcases hm with ⟨rfl, h1, h2, h3, h4, h5⟩ | ⟨rfl, h1, h2, rfl, rfl⟩
      · have h6 := ho rfl
        exact add_copy true t o n h4 h3 n.toNat 0 (X ++ t) (by omega) (by omega) (by rw [ByteArray.size_append]; omega) (by rw [ByteArray.size_append]; omega) (by omega)
      · refine ev_step (fun k => rfl) ?_
        simp only [snappy_Part_add.l0]
        exact ev_neg (by omega) (ev_now _)
theorem add_ev (x : S35) (X : ByteArray) (most : Int) (hX : X.size ≤ 90000000000000) : Ev (fun k => snappy_Part_add.f k x.f0 x.f1 x.f2 x.f3 (bytesOf X) most) (if badB x X = true then ([], 4) else if addN x > wrap64 (most - (X.size : Int)) then ([], 40) else (bytesOf (ext x X), 0)) := by
  obtain ⟨b, t, o, n⟩ := x
  have hm := may_is ⟨b, t, o, n⟩
  unfold snappy_Part_add.f badB addN
  simp only at hm ⊢
  cases b with
  | true =>
    refine ev_pos rfl (ev_step (fun k => rfl) ?_)
    simp only [snappy_Part_add.j0]
    rw [hm]
    refine ev_some ?_
    by_cases hM : mayB ⟨true, t, o, n⟩ = true
    · refine ev_pos hM (ev_pos trivial ?_)
      rw [hM, bytesOf_length]
      refine ev_eq (add_j1 true t o n X most n hX (decide (o > (X.size : Int))) (fun e => ⟨hM, fun _ => by simpa using e⟩)) ?_
      simp
    · refine ev_neg hM ?_
      rw [show mayB ⟨true, t, o, n⟩ = false from by simpa using hM]
      exact add_j1 true t o n X most n hX true (fun e => by cases e)
  | false =>
    refine ev_neg (by simp) (ev_step (fun k => rfl) ?_)
    simp only [snappy_Part_add.j0]
    rw [hm]
    refine ev_some ?_
    by_cases hM : mayB ⟨false, t, o, n⟩ = true
    · refine ev_pos hM (ev_neg (by simp) ?_)
      rw [hM]
      refine ev_eq (add_j1 false t o n X most (t.size : Int) hX false (fun e => ⟨hM, fun e => by cases e⟩)) ?_
      simp
    · refine ev_neg hM ?_
      rw [show mayB ⟨false, t, o, n⟩ = false from by simpa using hM]
      exact add_j1 false t o n X most (t.size : Int) hX true (fun e => by cases e)
/-- A part, as the document's. -/
def p72 (x : S35) : S72 := ⟨x.f0, x.f1, x.f2, x.f3⟩
theorem same_loop (l : List S35) (hl : l.length ≤ 4611686018427387904) : ∀ (d i : Nat), i + d = l.length → Ev (fun k => batonlaw03_same.l0 k l (l.map p72) (i : Int)) true := by
  intro d
  induction d with
  | zero => intro i hi; refine ev_step (fun k => rfl) ?_; simp only [batonlaw03_same.l0]; exact ev_neg (by omega) (ev_now _)
  | succ d ih =>
    intro i hi
    refine ev_step (fun k => rfl) ?_
    simp only [batonlaw03_same.l0]
    have e : rd_T72 (l.map p72) (i : Int) = p72 (rd_T35 l (i : Int)) := by
      unfold rd_T72 rd_T35
      rw [Int.toNat_natCast]
      simp [List.getD, List.getElem?_eq_getElem (show i < l.length by omega)]
    rw [e]
    refine ev_pos (by omega) (ev_pos (by omega) (ev_pos (by rw [List.length_map]; omega) (ev_neg (by simp [p72]) (ev_pos rfl (ev_pos rfl (ev_pos rfl ?_))))))
    rw [wr (n := (i : Int) + 1) (by omega) (by omega)]
    exact ih (i + 1) (by omega)
theorem same_ev (l : List S35) (hl : l.length ≤ 4611686018427387904) : Ev (fun k => batonlaw03_same.f k l (l.map p72)) true := by
  unfold batonlaw03_same.f
  exact ev_pos (by rw [List.length_map]) (same_loop l hl l.length 0 (by omega))
theorem bt_ext (X : ByteArray) {a b i : Nat} (hb : b ≤ X.size) (h : a + i < b) : bt (X.extract a b) (i : Int) = bt X ((a + i : Nat) : Int) := by
  unfold bt
  rw [Int.toNat_natCast, Int.toNat_natCast, dif_pos (by rw [ByteArray.size_extract]; omega), dif_pos (by omega), ByteArray.getElem_extract]
theorem i64w (n : Int) (h0 : 0 ≤ n) (h1 : n < 2 ^ 62) : IntKind.i64.wrap n = n := by rw [IntKind.wrap_i64]; omega
theorem u64w (n : Int) (h0 : 0 ≤ n) (h1 : n < 2 ^ 64) : IntKind.u64.wrap n = n := by unfold IntKind.wrap; simp [IntKind.signed, IntKind.bits]; omega
theorem and3 (t : Int) (h0 : 0 ≤ t) (h1 : t ≤ 255) : Go.bits .and .i64 t 3 = t % 4 := bits_mask .i64 62 (by decide) i64w 2 (by decide) t h0 (by omega)
theorem and7 (t : Int) (h0 : 0 ≤ t) (h1 : t ≤ 255) : Go.bits .and .i64 t 7 = t % 8 := bits_mask .i64 62 (by decide) i64w 3 (by decide) t h0 (by omega)
theorem or256 (x b : Int) (h0 : 0 ≤ x) (h1 : x ≤ 1099511627776) (b0 : 0 ≤ b) (b1 : b ≤ 255) : Go.bits .or .i64 (x * 256) b = x * 256 + b := bits_join .i64 62 (by decide) i64w 8 _ _ (by omega) (by omega) (by omega) b0 (by omega) (by omega)
def lv : List Int → Int
  | [] => 0
  | b :: l => b + 256 * lv l
theorem lv_bound : ∀ l : List Int, (∀ b ∈ l, 0 ≤ b ∧ b ≤ 255) → 0 ≤ lv l ∧ lv l < 256 ^ l.length
  | [], _ => by simp [lv]
  | b :: l, h => by
    have h1 := h b (by simp)
    have h2 := lv_bound l (fun c hc => h c (by simp [hc]))
    rw [lv, List.length_cons, Int.pow_succ]
    omega
theorem bytes_all (X : ByteArray) : ∀ b ∈ bytesOf X, 0 ≤ b ∧ b ≤ 255 := by
  intro b hb
  unfold bytesOf at hb
  obtain ⟨u, _, rfl⟩ := List.mem_map.1 hb
  have := u.toNat_lt
  omega
theorem lv4 (X : ByteArray) (h : X.size ≤ 4) (i : Nat) : 0 ≤ lv ((bytesOf X).drop i) ∧ lv ((bytesOf X).drop i) < 256 ^ (X.size - i) := by
  have := lv_bound ((bytesOf X).drop i) (fun b hb => bytes_all X b (List.mem_of_mem_drop hb))
  rwa [List.length_drop, bytesOf_length] at this
theorem p256 {i : Nat} (h : i ≤ 4) : (256 : Int) ^ i ≤ 4294967296 := by
  have : i = 0 ∨ i = 1 ∨ i = 2 ∨ i = 3 ∨ i = 4 := by omega
  rcases this with rfl | rfl | rfl | rfl | rfl <;> decide
theorem p256' {i : Nat} (h : i ≤ 3) : (256 : Int) ^ i ≤ 16777216 := by
  have : i = 0 ∨ i = 1 ∨ i = 2 ∨ i = 3 := by omega
  rcases this with rfl | rfl | rfl | rfl <;> decide
theorem low_loop (X : ByteArray) (hX : X.size ≤ 4) (s : ByteArray) (p e : Int) : ∀ i : Nat, i ≤ X.size → Ev (fun k => snappy_low.l0 k X (lv ((bytesOf X).drop i)) ((i : Int) - 1) s p e) (lv (bytesOf X), s, p, e) := by
  intro i
  induction i with
  | zero =>
    intro h
    refine ev_step (fun k => rfl) ?_
    simp only [snappy_low.l0]
    exact ev_neg (by omega) (ev_now _)
  | succ i ih =>
    intro h
    have hb := bt_range X (i : Int)
    have hl := lv4 X hX (i + 1)
    have hp := p256' (i := X.size - (i + 1)) (by omega)
    have e1 : lv ((bytesOf X).drop i) = lv ((bytesOf X).drop (i + 1)) * 256 + bt X (i : Int) := by
      rw [List.drop_eq_getElem_cons (show i < (bytesOf X).length by rw [bytesOf_length]; omega), lv, ← rd_bytesOf]
      unfold rd
      rw [Int.toNat_natCast, List.getD, List.getElem?_eq_getElem (show i < (bytesOf X).length by rw [bytesOf_length]; omega), Option.getD_some]
      omega
    refine ev_step (fun k => rfl) ?_
    simp only [snappy_low.l0]
    rw [show ((i + 1 : Nat) : Int) - 1 = (i : Int) from by omega]
    refine ev_pos (by omega) (ev_pos (by omega) (ev_pos (by omega) ?_))
    rw [wr (n := bt X (i : Int)) (by omega) (by omega), wr (n := lv ((bytesOf X).drop (i + 1)) * 256) (by omega) (by omega), or256 _ _ hl.1 (by omega) hb.1 hb.2, ← e1, wr (n := (i : Int) - 1) (by omega) (by omega)]
    exact ih (by omega)
theorem raw_ok (s : ByteArray) (p n : Nat) (hs : s.size ≤ 4611686018427387904) (h : p + n ≤ s.size) : bits_Reader_Raw.f s (p : Int) 0 (n : Int) = some (s.extract p (p + n), s, ((p + n : Nat) : Int), 0) := by
  unfold bits_Reader_Raw.f bits_Reader_good.f bits_Reader_Left.f
  simp only [Option.bind_some]
  have e0 : wrap64 ((s.size : Int) - (p : Int)) = (s.size : Int) - p := wr (by omega) (by omega)
  have e1 : wrap64 ((p : Int) + n) = ((p + n : Nat) : Int) := by rw [wr (by omega) (by omega)]; omega
  have e2 : wrap64 (((p + n : Nat) : Int) - n) = (p : Int) := by rw [wr (by omega) (by omega)]; omega
  rw [if_pos (by decide), if_neg (by omega), e0, if_neg (by omega), e1, e2, if_pos (by omega), if_pos (by omega), if_pos (by omega), Int.toNat_natCast, Int.toNat_natCast]
theorem raw_short (s : ByteArray) (p n : Nat) (hs : s.size ≤ 4611686018427387904) (hp : p ≤ s.size) (h : s.size < p + n) : bits_Reader_Raw.f s (p : Int) 0 (n : Int) = some (⟨#[]⟩, s, (p : Int), 8) := by
  unfold bits_Reader_Raw.f bits_Reader_good.f bits_Reader_Left.f
  simp only [Option.bind_some]
  have e0 : wrap64 ((s.size : Int) - (p : Int)) = (s.size : Int) - p := wr (by omega) (by omega)
  rw [if_pos (by decide), if_neg (by omega), e0, if_pos (by omega)]
theorem raw_err (s : ByteArray) (p n : Int) : bits_Reader_Raw.f s p 8 n = some (⟨#[]⟩, s, p, 8) := by
  unfold bits_Reader_Raw.f bits_Reader_good.f
  simp only [Option.bind_some]
  rw [if_neg (by decide)]
theorem byte_ok (s : ByteArray) (p : Nat) (hs : s.size ≤ 4611686018427387904) (h : p < s.size) : bits_Reader_Byte.f s (p : Int) 0 = some (bt s (p : Int), s, ((p + 1 : Nat) : Int), 0) := by
  unfold bits_Reader_Byte.f
  rw [show (1 : Int) = ((1 : Nat) : Int) from rfl, raw_ok s p 1 hs (by omega)]
  simp only [Option.bind_some]
  have hz : (s.extract p (p + 1)).size = 1 := by rw [ByteArray.size_extract]; omega
  rw [if_neg (fun e => by rw [nil_size] at e; omega), if_pos (by omega), show (0 : Int) = ((0 : Nat) : Int) from rfl, bt_ext s (by omega) (by omega)]
  rfl
theorem low_ok (s : ByteArray) (p n : Nat) (hs : s.size ≤ 4611686018427387904) (hn : n ≤ 4) (h : p + n ≤ s.size) : Ev (fun k => snappy_low.f k s (p : Int) 0 (n : Int)) (lv (bytesOf (s.extract p (p + n))), s, ((p + n : Nat) : Int), 0) := by
  unfold snappy_low.f
  rw [raw_ok s p n hs h]
  have hz : (s.extract p (p + n)).size = n := by rw [ByteArray.size_extract]; omega
  refine ev_some ?_
  have := low_loop (s.extract p (p + n)) (by omega) s ((p + n : Nat) : Int) 0 n (by omega)
  rw [List.drop_of_length_le (by rw [bytesOf_length]; omega)] at this
  rw [hz, wr (by omega) (by omega)]
  exact this
theorem low_short (s : ByteArray) (p n : Nat) (hs : s.size ≤ 4611686018427387904) (hp : p ≤ s.size) (h : s.size < p + n) : Ev (fun k => snappy_low.f k s (p : Int) 0 (n : Int)) (0, s, (p : Int), 8) := by
  unfold snappy_low.f
  rw [raw_short s p n hs hp h]
  refine ev_some (ev_step (fun k => rfl) ?_)
  simp only [snappy_low.l0]
  rw [show wrap64 (((⟨#[]⟩ : ByteArray).size : Int) - 1) = -1 from by rw [show (⟨#[]⟩ : ByteArray).size = 0 from rfl, wr (by omega) (by omega)]; rfl]
  exact ev_neg (by decide) (ev_now _)
/-- The element at a place: the part, and where the next one begins; none: bytes are missing. -/
def elem (s : ByteArray) (p : Nat) : Option (S35 × Nat) :=
  if bt s (p : Int) % 4 = 1 then (if p + 1 + 1 ≤ s.size then some (⟨true, ⟨#[]⟩, bt s (p : Int) / 32 * 256 + lv (bytesOf (s.extract (p + 1) (p + 1 + 1))), 4 + bt s (p : Int) / 4 % 8⟩, p + 1 + 1) else none)
  else if bt s (p : Int) % 4 = 2 then (if p + 1 + 2 ≤ s.size then some (⟨true, ⟨#[]⟩, lv (bytesOf (s.extract (p + 1) (p + 1 + 2))), bt s (p : Int) / 4 + 1⟩, p + 1 + 2) else none)
  else if bt s (p : Int) % 4 = 3 then (if p + 1 + 4 ≤ s.size then some (⟨true, ⟨#[]⟩, lv (bytesOf (s.extract (p + 1) (p + 1 + 4))), bt s (p : Int) / 4 + 1⟩, p + 1 + 4) else none)
  else if bt s (p : Int) / 4 ≥ 60 then
    (if p + 1 + (bt s (p : Int) / 4 - 59).toNat ≤ s.size then
      (if p + 1 + (bt s (p : Int) / 4 - 59).toNat + ((lv (bytesOf (s.extract (p + 1) (p + 1 + (bt s (p : Int) / 4 - 59).toNat)))).toNat + 1) ≤ s.size then
        some (⟨false, s.extract (p + 1 + (bt s (p : Int) / 4 - 59).toNat) (p + 1 + (bt s (p : Int) / 4 - 59).toNat + ((lv (bytesOf (s.extract (p + 1) (p + 1 + (bt s (p : Int) / 4 - 59).toNat)))).toNat + 1)), 0, 0⟩,
          p + 1 + (bt s (p : Int) / 4 - 59).toNat + ((lv (bytesOf (s.extract (p + 1) (p + 1 + (bt s (p : Int) / 4 - 59).toNat)))).toNat + 1)) else none) else none)
  else (if p + 1 + (bt s (p : Int) / 4 + 1).toNat ≤ s.size then some (⟨false, s.extract (p + 1) (p + 1 + (bt s (p : Int) / 4 + 1).toNat), 0, 0⟩, p + 1 + (bt s (p : Int) / 4 + 1).toNat) else none)
/-- What 'next' tells of it. -/
def Told (s : ByteArray) (g : Nat → Option (Bool × ByteArray × Int × Int × ByteArray × Int × Int)) : Option (S35 × Nat) → Prop
  | some (x, q) => Ev g (x.f0, x.f1, x.f2, x.f3, s, (q : Int), 0)
  | none => ∃ c t o n p, Ev g (c, t, o, n, s, p, 8)
theorem next_ev (s : ByteArray) (p : Nat) (hs : s.size ≤ 4611686018427387904) (h : p < s.size) : Told s (fun k => snappy_next.f k s (p : Int) 0) (elem s p) := by
  unfold snappy_next.f elem
  rw [byte_ok s p hs h]
  simp only [Option.bind_some]
  have hb := bt_range s (p : Int)
  generalize bt s (p : Int) = t at hb
  rw [wr (n := t) (by omega) (by omega), and3 t hb.1 hb.2]
  have two (n : Nat) (hn : n ≤ 4) (hq : p + 1 + n ≤ s.size) : (s.extract (p + 1) (p + 1 + n)).size = n := by rw [ByteArray.size_extract]; omega
  have lvb (n : Nat) (hn : n ≤ 4) (hq : p + 1 + n ≤ s.size) : 0 ≤ lv (bytesOf (s.extract (p + 1) (p + 1 + n))) ∧ lv (bytesOf (s.extract (p + 1) (p + 1 + n))) < 256 ^ n := by
    have := lv4 (s.extract (p + 1) (p + 1 + n)) (by rw [two n hn hq]; omega) 0
    rwa [List.drop_zero, two n hn hq] at this
  by_cases h1 : t % 4 = 1
  · rw [if_pos h1]
    by_cases hq : p + 1 + 1 ≤ s.size
    · rw [if_pos hq]
      have hl := lvb 1 (by omega) hq
      refine ev_pos h1 (ev_bind (low_ok s (p + 1) 1 hs (by omega) hq) (ev_eq (ev_now _) ?_))
      simp only
      rw [and7 (t / 4) (by omega) (by omega), wr (n := 4 + t / 4 % 8) (by omega) (by omega), wr (n := t / 4 / 8 * 256) (by omega) (by omega), or256 _ _ (by omega) (by omega) hl.1 (by omega), show t / 4 / 8 = t / 32 from by omega]
    · rw [if_neg hq]
      exact ⟨_, _, _, _, _, ev_pos h1 (ev_bind (low_short s (p + 1) 1 hs (by omega) (by omega)) (ev_now _))⟩
  · rw [if_neg h1]
    by_cases h2 : t % 4 = 2
    · rw [if_pos h2]
      by_cases hq : p + 1 + 2 ≤ s.size
      · rw [if_pos hq]
        refine ev_neg h1 (ev_pos h2 (ev_bind (low_ok s (p + 1) 2 hs (by omega) hq) (ev_eq (ev_now _) ?_)))
        simp only
        rw [wr (n := t / 4 + 1) (by omega) (by omega)]
      · rw [if_neg hq]
        exact ⟨_, _, _, _, _, ev_neg h1 (ev_pos h2 (ev_bind (low_short s (p + 1) 2 hs (by omega) (by omega)) (ev_now _)))⟩
    · rw [if_neg h2]
      by_cases h3 : t % 4 = 3
      · rw [if_pos h3]
        by_cases hq : p + 1 + 4 ≤ s.size
        · rw [if_pos hq]
          refine ev_neg h1 (ev_neg h2 (ev_pos h3 (ev_bind (low_ok s (p + 1) 4 hs (by omega) hq) (ev_eq (ev_now _) ?_))))
          simp only
          rw [wr (n := t / 4 + 1) (by omega) (by omega)]
        · rw [if_neg hq]
          exact ⟨_, _, _, _, _, ev_neg h1 (ev_neg h2 (ev_pos h3 (ev_bind (low_short s (p + 1) 4 hs (by omega) (by omega)) (ev_now _))))⟩
      · rw [if_neg h3]
        by_cases h4 : t / 4 ≥ 60
        · rw [if_pos h4]
          have ek : wrap64 ((wrap64 (t / 4 - 60)) + 1) = (((t / 4 - 59).toNat : Nat) : Int) := by
            rw [wr (n := t / 4 - 60) (by omega) (by omega), wr (by omega) (by omega)]
            omega
          have hk : (t / 4 - 59).toNat ≤ 4 := by omega
          rw [ek]
          generalize (t / 4 - 59).toNat = d at hk
          by_cases hq : p + 1 + d ≤ s.size
          · rw [if_pos hq]
            have hl := lvb d hk hq
            have hp := p256 hk
            have low := low_ok s (p + 1) d hs hk hq
            generalize lv (bytesOf (s.extract (p + 1) (p + 1 + d))) = z at hl low
            have ez : wrap64 (z + 1) = ((z.toNat + 1 : Nat) : Int) := by rw [wr (by omega) (by omega)]; omega
            by_cases hr : p + 1 + d + (z.toNat + 1) ≤ s.size
            · rw [if_pos hr]
              refine ev_neg h1 (ev_neg h2 (ev_neg h3 (ev_pos h4 (ev_bind low ?_))))
              simp only
              rw [ez, raw_ok s (p + 1 + d) (z.toNat + 1) hs hr]
              exact ev_some (ev_now _)
            · rw [if_neg hr]
              refine ⟨false, ⟨#[]⟩, 0, 0, ((p + 1 + d : Nat) : Int), ev_neg h1 (ev_neg h2 (ev_neg h3 (ev_pos h4 (ev_bind low ?_))))⟩
              · simp only
                rw [ez, raw_short s (p + 1 + d) (z.toNat + 1) hs hq (by omega)]
                exact ev_some (ev_now _)
          · rw [if_neg hq]
            refine ⟨false, ⟨#[]⟩, 0, 0, ((p + 1 : Nat) : Int), ev_neg h1 (ev_neg h2 (ev_neg h3 (ev_pos h4 (ev_bind (low_short s (p + 1) d hs (by omega) (by omega)) ?_))))⟩
            · simp only
              rw [raw_err]
              exact ev_some (ev_now _)
        · rw [if_neg h4]
          have ek : wrap64 (t / 4 + 1) = (((t / 4 + 1).toNat : Nat) : Int) := by
            rw [wr (n := t / 4 + 1) (by omega) (by omega)]
            omega
          rw [ek]
          by_cases hq : p + 1 + (t / 4 + 1).toNat ≤ s.size
          · rw [if_pos hq]
            refine ev_neg h1 (ev_neg h2 (ev_neg h3 (ev_neg h4 ?_)))
            rw [raw_ok s (p + 1) (t / 4 + 1).toNat hs hq]
            exact ev_some (ev_now _)
          · rw [if_neg hq]
            refine ⟨false, ⟨#[]⟩, 0, 0, ((p + 1 : Nat) : Int), ev_neg h1 (ev_neg h2 (ev_neg h3 (ev_neg h4 ?_)))⟩
            · rw [raw_short s (p + 1) (t / 4 + 1).toNat hs (by omega) (by omega)]
              exact ev_some (ev_now _)
/-- What an element is: its place ahead of the next one's; a copy, or a literal. -/
theorem elem_ok (s : ByteArray) (p : Nat) (h : p < s.size) (x : S35) (q : Nat) (he : elem s p = some (x, q)) : p + 1 < q + 1 ∧ p + 1 < q ∧ q ≤ s.size ∧
    ((x.f0 = true ∧ x.f1 = ⟨#[]⟩ ∧ 0 ≤ x.f2 ∧ x.f2 < 4294967296 ∧ 1 ≤ x.f3 ∧ x.f3 ≤ 64) ∨ (x.f0 = false ∧ 1 ≤ x.f1.size ∧ x.f1.size ≤ s.size ∧ x.f2 = 0 ∧ x.f3 = 0)) := by
  unfold elem at he
  have hb := bt_range s (p : Int)
  generalize bt s (p : Int) = t at hb he
  have two (n : Nat) (hn : n ≤ 4) (hq : p + 1 + n ≤ s.size) : (s.extract (p + 1) (p + 1 + n)).size = n := by rw [ByteArray.size_extract]; omega
  have lvb (n : Nat) (hn : n ≤ 4) (hq : p + 1 + n ≤ s.size) : 0 ≤ lv (bytesOf (s.extract (p + 1) (p + 1 + n))) ∧ lv (bytesOf (s.extract (p + 1) (p + 1 + n))) < 256 ^ n := by
    have := lv4 (s.extract (p + 1) (p + 1 + n)) (by rw [two n hn hq]; omega) 0
    rwa [List.drop_zero, two n hn hq] at this
  split at he
  · split at he
    · cases he
      have := lvb 1 (by omega) (by omega)
      exact ⟨by omega, by omega, by omega, Or.inl ⟨rfl, rfl, by simp only; omega, by simp only; omega, by simp only; omega, by simp only; omega⟩⟩
    · cases he
  · split at he
    · split at he
      · cases he
        have := lvb 2 (by omega) (by omega)
        have := p256 (i := 2) (by omega)
        exact ⟨by omega, by omega, by omega, Or.inl ⟨rfl, rfl, by simp only; omega, by simp only; omega, by simp only; omega, by simp only; omega⟩⟩
      · cases he
    · split at he
      · split at he
        · cases he
          have := lvb 4 (by omega) (by omega)
          have := p256 (i := 4) (by omega)
          exact ⟨by omega, by omega, by omega, Or.inl ⟨rfl, rfl, by simp only; omega, by simp only; omega, by simp only; omega, by simp only; omega⟩⟩
        · cases he
      · split at he
        · split at he
          · split at he
            · cases he
              refine ⟨by omega, by omega, by omega, Or.inr ⟨rfl, ?_, ?_, rfl, rfl⟩⟩ <;> rw [ByteArray.size_extract] <;> omega
            · cases he
          · cases he
        · split at he
          · cases he
            refine ⟨by omega, by omega, by omega, Or.inr ⟨rfl, ?_, ?_, rfl, rfl⟩⟩ <;> rw [ByteArray.size_extract] <;> omega
          · cases he
/-- The number from byte i on: it, where it ends, and 0; or what is wrong. -/
def uv (s : ByteArray) : Nat → Nat → Int → Int × Int × Int
  | 0, _, _ => (0, 0, 4)
  | f + 1, i, acc => if i = s.size then (0, 0, 8) else if i = 9 ∧ bt s (i : Int) > 1 then (0, 0, 4)
    else if bt s (i : Int) < 128 then (acc + bt s (i : Int) * 2 ^ (7 * i), (i : Int) + 1, 0) else uv s f (i + 1) (acc + (bt s (i : Int) - 128) * 2 ^ (7 * i))
theorem andNot128 (m : Nat) (h : m < 256) : 128 ≤ m → Go.bits .andNot .u64 (m : Int) 128 = (m : Int) - 128 := by
  have : ∀ m : Fin 256, 128 ≤ m.val → Go.bits .andNot .u64 (m.val : Int) 128 = (m.val : Int) - 128 := by decide +kernel
  exact this ⟨m, h⟩
theorem or_up (i : Nat) (acc c : Int) (h0 : 0 ≤ acc) (h1 : acc < 2 ^ (7 * i)) (c0 : 0 ≤ c) (hc : c * 2 ^ (7 * i) < 2 ^ 64) (hi : i ≤ 9) :
    Go.bits .or .u64 acc (shl .u64 c (7 * i)) = acc + c * 2 ^ (7 * i) := by
  have hp : (0 : Int) < 2 ^ (7 * i) := Int.pow_pos (by decide)
  have hpn : (2 : Int) ^ (7 * i) ≤ 2 ^ 63 := by
    have : (2 : Nat) ^ (7 * i) ≤ 2 ^ 63 := Nat.pow_le_pow_right (by decide) (by omega)
    exact_mod_cast this
  have hc0 : 0 ≤ c * 2 ^ (7 * i) := Int.mul_nonneg c0 (by omega)
  have e : shl .u64 c (7 * i) = c * 2 ^ (7 * i) := by
    unfold shl
    rw [show (7 * (i : Int)).toNat = 7 * i from by omega, show IntKind.u64.bits = 64 from rfl, Nat.min_eq_left (by omega)]
    exact u64w _ hc0 hc
  rw [e]
  have hmul : c * 2 ^ (7 * i) % 2 ^ (7 * i) = 0 := Int.mul_emod_left _ _
  generalize hy : c * 2 ^ (7 * i) = y at *
  obtain ⟨a, rfl⟩ := Int.eq_ofNat_of_zero_le h0
  obtain ⟨b, rfl⟩ := Int.eq_ofNat_of_zero_le hc0
  have hn := bits_nat .u64 64 (by decide) u64w
  have comm : Go.bits .or .u64 (a : Int) (b : Int) = Go.bits .or .u64 (b : Int) (a : Int) := by
    rw [(hn a b (by omega) (by omega)).2, (hn b a (by omega) (by omega)).2, Nat.or_comm]
  rw [comm, bits_join .u64 64 (by decide) u64w (7 * i) _ _ hc0 hmul hc h0 h1 (by omega)]
  omega
theorem uv_ev (s : ByteArray) (hs : s.size ≤ 4611686018427387904) : ∀ (f i : Nat) (acc : Int), f + i = 10 → i ≤ s.size → 0 ≤ acc → acc < 2 ^ (7 * i) → i ≤ 9 →
    Ev (fun k => bits_Uvarint.l0 k s 0 acc (i : Int)) (uv s f i acc) := by
  intro f
  induction f with
  | zero => intro i acc h; omega
  | succ f ih =>
    intro i acc hf hi h0 h1 h9
    refine ev_step (fun k => rfl) ?_
    simp only [bits_Uvarint.l0]
    rw [show wrap64 (0 + (i : Int)) = (i : Int) from by rw [wr (by omega) (by omega)]; omega]
    unfold uv
    have hb := bt_range s (i : Int)
    have hm := andNot128 (bt s (i : Int)).toNat (by omega)
    rw [show (((bt s (i : Int)).toNat : Nat) : Int) = bt s (i : Int) from by omega] at hm
    by_cases c1 : i = s.size
    · rw [if_pos c1]
      exact ev_pos (by omega) (ev_now _)
    · rw [if_neg c1]
      refine ev_neg (by omega) (ev_pos (by omega) (ev_pos (by omega) ?_))
      rw [show IntKind.u64.wrap (bt s (i : Int)) = bt s (i : Int) from u64w _ (by omega) (by omega)]
      generalize bt s (i : Int) = b at hb hm
      have main : ∀ bad : Bool, (bad = true ↔ i = 9 ∧ b > 1) → Ev (fun k => bits_Uvarint.j2 k s 0 acc (i : Int) b bad) (if i = 9 ∧ b > 1 then (0, 0, 4) else if b < 128 then (acc + b * 2 ^ (7 * i), (i : Int) + 1, 0) else uv s f (i + 1) (acc + (b - 128) * 2 ^ (7 * i))) := by
        intro bad hbad
        refine ev_step (fun k => rfl) ?_
        simp only [bits_Uvarint.j2]
        by_cases c2 : i = 9 ∧ b > 1
        · rw [if_pos c2]
          exact ev_pos (hbad.2 c2) (ev_now _)
        · rw [if_neg c2]
          refine ev_neg (fun e => c2 (hbad.1 e)) ?_
          have hp : (0 : Int) < 2 ^ (7 * i) := Int.pow_pos (by decide)
          rw [show wrap64 (7 * (i : Int)) = 7 * (i : Int) from wr (by omega) (by omega), show wrap64 (0 + (i : Int)) = (i : Int) from by rw [wr (by omega) (by omega)]; omega, wr (n := (i : Int) + 1) (by omega) (by omega)]
          have big : b * 2 ^ (7 * i) < 2 ^ 64 := by
            by_cases hi9 : i = 9
            · subst hi9
              have : b ≤ 1 := by
                by_cases hb1 : b > 1
                · exact absurd ⟨rfl, hb1⟩ c2
                · omega
              have e63 : (2 : Int) ^ (7 * 9) = 9223372036854775808 := by decide
              rw [e63]
              omega
            · have : (2 : Nat) ^ (7 * i) ≤ 2 ^ 56 := Nat.pow_le_pow_right (by decide) (by omega)
              have h56 : (2 : Int) ^ (7 * i) ≤ 2 ^ 56 := by exact_mod_cast this
              have : b * 2 ^ (7 * i) ≤ 255 * 2 ^ (7 * i) := Int.mul_le_mul_of_nonneg_right hb.2 (by omega)
              omega
          by_cases c3 : b < 128
          · rw [if_pos c3]
            refine ev_pos c3 (ev_pos (by omega) (ev_eq (ev_now _) ?_))
            rw [or_up i acc b h0 h1 hb.1 big h9]
          · rw [if_neg c3]
            have hi8 : i ≤ 8 := by
              by_cases hi9 : i = 9
              · exact absurd ⟨hi9, by omega⟩ c2
              · omega
            have e7 : (2 : Int) ^ (7 * (i + 1)) = 128 * 2 ^ (7 * i) := by
              rw [Nat.mul_add, Int.pow_add]
              omega
            refine ev_neg c3 (ev_pos (by omega) ?_)
            rw [hm (by omega), or_up i acc (b - 128) h0 h1 (by omega) (by rw [Int.sub_mul]; omega) h9]
            have hm2 : (b - 128) * 2 ^ (7 * i) ≤ 127 * 2 ^ (7 * i) := Int.mul_le_mul_of_nonneg_right (by omega) (by omega)
            have hm3 : 0 ≤ (b - 128) * 2 ^ (7 * i) := Int.mul_nonneg (by omega) (by omega)
            exact ih (i + 1) _ (by omega) (by omega) (by omega) (by omega) (by omega)
      by_cases c4 : i = 9
      · exact ev_pos (by omega) (main _ (by simp [c4]))
      · exact ev_neg (by omega) (main _ (by simp [c4]))
/-- A block's length: it, where it ends, and 0; or what is wrong. -/
def ln (s : ByteArray) : Int × Int × Int := uv s 10 0 0
theorem uvarint_ev (s : ByteArray) (hs : s.size ≤ 4611686018427387904) : Ev (fun k => bits_Uvarint.f k s 0) (ln s) := by
  unfold bits_Uvarint.f
  refine ev_neg (by omega) (ev_step (fun k => rfl) ?_)
  simp only [bits_Uvarint.j0]
  rw [decide_eq_false (by omega)]
  exact ev_neg (by simp) (uv_ev s hs 10 0 0 (by omega) (by omega) (by omega) (by decide) (by omega))
theorem uv_at (s : ByteArray) : ∀ (f i : Nat) (acc : Int), i ≤ s.size → (uv s f i acc).2.2 = 0 → ∃ q : Nat, (uv s f i acc).2.1 = (q : Int) ∧ i < q ∧ q ≤ s.size
  | 0, i, acc, hi, h => by simp [uv] at h
  | f + 1, i, acc, hi, h => by
    unfold uv at h ⊢
    split at h
    · simp at h
    · rename_i c1
      rw [if_neg c1]
      split at h
      · simp at h
      · rename_i c2
        rw [if_neg c2]
        split at h
        · rename_i c3
          rw [if_pos c3]
          exact ⟨i + 1, by simp, by omega, by omega⟩
        · rename_i c3
          rw [if_neg c3]
          obtain ⟨q, e, h1, h2⟩ := uv_at s f (i + 1) _ (by omega) h
          exact ⟨q, e, by omega, h2⟩
theorem uv_pos (s : ByteArray) : ∀ (f i : Nat) (acc : Int), 0 ≤ acc → 0 ≤ (uv s f i acc).1
  | 0, i, acc, h => by simp [uv]
  | f + 1, i, acc, h => by
    have hb := bt_range s (i : Int)
    have hp : (0 : Int) < 2 ^ (7 * i) := Int.pow_pos (by decide)
    unfold uv
    split
    · simp
    · split
      · simp
      · split
        · have := Int.mul_nonneg hb.1 (Int.le_of_lt hp)
          simp only
          omega
        · have := Int.mul_nonneg (show 0 ≤ bt s (i : Int) - 128 by omega) (Int.le_of_lt hp)
          exact uv_pos s f (i + 1) _ (by omega)
theorem ln_at (s : ByteArray) (h : (ln s).2.2 = 0) : ∃ q : Nat, (ln s).2.1 = (q : Int) ∧ 0 < q ∧ q ≤ s.size := uv_at s 10 0 0 (by omega) h
theorem ln_pos (s : ByteArray) : 0 ≤ (ln s).1 := uv_pos s 10 0 0 (by omega)
/-- How many bytes a block says that it stands for. -/
def sz (s : ByteArray) : Int × Int := if (ln s).2.2 = 0 then (if (ln s).1 ≥ 4294967296 then (0, 4) else ((ln s).1, 0)) else (0, (ln s).2.2)
theorem size_ev (s : ByteArray) (hs : s.size ≤ 4611686018427387904) : Ev (fun k => snappy_Size.f k s) (sz s) := by
  unfold snappy_Size.f sz
  refine ev_bind (uvarint_ev s hs) ?_
  by_cases h : (ln s).2.2 = 0
  · by_cases h2 : (ln s).1 ≥ 4294967296
    · exact ev_pos h (ev_pos h2 (ev_eq (ev_now _) (by rw [if_pos h, if_pos h2])))
    · exact ev_pos h (ev_neg h2 (ev_eq (ev_now _) (by rw [if_pos h, if_neg h2])))
  · exact ev_neg h (ev_eq (ev_now _) (by rw [if_neg h]))
theorem varint_ev (s : ByteArray) (hs : s.size ≤ 4611686018427387904) (h : (ln s).2.2 = 0) (h2 : (ln s).1 < 4294967296) : Ev (fun k => bits_Reader_Varint.f k s 0 0 4294967296) ((ln s).1, s, (ln s).2.1, 0) := by
  unfold bits_Reader_Varint.f bits_Reader_good.f
  refine ev_some (ev_pos rfl (ev_bind (uvarint_ev s hs) (ev_pos h (ev_step (fun k => rfl) ?_))))
  simp only [bits_Reader_Varint.j0]
  rw [decide_eq_false (by omega)]
  refine ev_neg (by simp) ?_
  unfold bits_Reader_take.f
  rw [if_pos h]
  exact ev_some (ev_pos rfl (ev_now _))
/-- May a part not stand behind these bytes, with so many bytes said? -/
def stepBad (x : S35) (X : ByteArray) (size : Int) : Bool := decide ((x.f0 = true ∧ (x.f2 < 1 ∨ x.f2 > (X.size : Int))) ∨ (X.size : Int) + (x.f1.size : Int) + x.f3 > size)
def dcl (s : ByteArray) (size : Int) : Nat → Nat → ByteArray → ByteArray × Int
  | 0, _, _ => (⟨#[]⟩, 4)
  | f + 1, p, X =>
    if p < s.size then (match elem s p with
      | none => (⟨#[]⟩, 8)
      | some (x, q) => if stepBad x X size = true then (⟨#[]⟩, 4) else dcl s size f q (ext x X))
    else if (X.size : Int) < size then (⟨#[]⟩, 4) else (X, 0)
theorem step_size (x : S35) (X : ByteArray) (size : Int) (n : Nat) (hx : (x.f0 = true ∧ x.f1 = ⟨#[]⟩ ∧ 0 ≤ x.f2 ∧ x.f2 < 4294967296 ∧ 1 ≤ x.f3 ∧ x.f3 ≤ 64) ∨ (x.f0 = false ∧ 1 ≤ x.f1.size ∧ x.f1.size ≤ n ∧ x.f2 = 0 ∧ x.f3 = 0))
    (h : stepBad x X size ≠ true) : ((ext x X).size : Int) = (X.size : Int) + (x.f1.size : Int) + x.f3 ∧ ((ext x X).size : Int) ≤ size ∧ X.size < (ext x X).size := by
  unfold stepBad at h
  rw [ne_eq, decide_eq_true_eq] at h
  unfold ext
  rcases hx with ⟨h0, h1, h2, h3, h4, h5⟩ | ⟨h0, h1, h2, h3, h4⟩
  · rw [h1, show X ++ (⟨#[]⟩ : ByteArray) = X from ByteArray.append_empty, cp_size _ (by simp [h0] at h; omega) _ _ (by simp [h0] at h; omega)]
    have hz : (⟨#[]⟩ : ByteArray).size = 0 := rfl
    rw [hz]
    rw [h1, hz] at h
    omega
  · rw [h3, h4, show cp (X ++ x.f1) (0 : Int).toNat (0 : Int).toNat = X ++ x.f1 from rfl, ByteArray.size_append]
    omega
theorem dec_loop (s : ByteArray) (size : Int) (hs : s.size ≤ 1000000000000) (h0 : 0 ≤ size) (h1 : size < 4294967296) : ∀ (f p : Nat) (X : ByteArray), p ≤ s.size → s.size < f + p → (X.size : Int) ≤ size →
    Ev (fun k => snappy_Decode.l0 k size (bytesOf X) s (p : Int) 0) (dcl s size f p X) := by
  intro f
  induction f with
  | zero => intro p X h2 h3; omega
  | succ f ih =>
    intro p X h2 h3 h4
    refine ev_step (fun k => rfl) ?_
    simp only [snappy_Decode.l0]
    unfold dcl bits_Reader_Left.f
    refine ev_some ?_
    rw [wr (n := (s.size : Int) - p) (by omega) (by omega), wr (n := size) (by omega) (by omega), bytesOf_length]
    by_cases hp : p < s.size
    · rw [if_pos hp]
      refine ev_pos (by omega) ?_
      have hn := next_ev s p (by omega) hp
      have hok := elem_ok s p hp
      generalize he : elem s p = r at hn hok
      match r, hn, hok with
      | none, hn, _ =>
        obtain ⟨c, t, o, n, q, hn⟩ := hn
        refine ev_bind hn ?_
        unfold bits_Reader_Err.f
        exact ev_some (ev_neg (by simp) (ev_now _))
      | some (x, q), hn, hok =>
        obtain ⟨_, g1, g2, g3⟩ := hok x q rfl
        refine ev_bind hn ?_
        unfold bits_Reader_Err.f
        refine ev_some (ev_pos rfl ?_)
        simp only
        have hst := step_size x X size s.size g3
        have hbad : stepBad x X size = true ↔ (x.f0 = true ∧ (x.f2 < 1 ∨ x.f2 > (X.size : Int))) ∨ (X.size : Int) + (x.f1.size : Int) + x.f3 > size := by unfold stepBad; rw [decide_eq_true_eq]
        by_cases hb : (x.f1.size : Int) > 65536
        · have hlit : x.f0 = false ∧ x.f2 = 0 ∧ x.f3 = 0 := by
            rcases g3 with ⟨_, e, _⟩ | ⟨e0, _, _, e2, e3⟩
            · rw [e] at hb
              have : (⟨#[]⟩ : ByteArray).size = 0 := rfl
              omega
            · exact ⟨e0, e2, e3⟩
          refine ev_pos hb ?_
          rw [wr (n := size - (X.size : Int)) (by omega) (by omega)]
          by_cases hc : (x.f1.size : Int) > size - (X.size : Int)
          · rw [if_pos (hbad.2 (Or.inr (by omega)))]
            exact ev_pos hc (ev_now _)
          · have hnb : ¬ stepBad x X size = true := fun e => by
              rcases hbad.1 e with ⟨e, _⟩ | e
              · rw [hlit.1] at e; cases e
              · omega
            rw [if_neg hnb]
            refine ev_neg hc (ev_pos (by omega) ?_)
            have := ih q (ext x X) (by omega) (by omega) (hst hnb).2.1
            rw [← bytes_app]
            rw [show X ++ x.f1 = ext x X from by unfold ext; rw [hlit.2.1, hlit.2.2]; rfl]
            exact this
        · refine ev_neg hb (ev_bind (add_ev x X size (by omega)) ?_)
          have hmay : badB x X = true ↔ (x.f0 = true ∧ (x.f2 < 1 ∨ x.f2 > (X.size : Int))) := by
            have hz : (⟨#[]⟩ : ByteArray).size = 0 := rfl
            rcases g3 with ⟨e0, e1, e2, e3, e4, e5⟩ | ⟨e0, e1, e2, e3, e4⟩
            · unfold badB mayB
              simp only [e0, e1, hz]
              simp
              omega
            · have hmy : mayB x = true := by
                obtain ⟨b, t, o, n⟩ := x
                exact (mayB_iff _ _ _ _).2 (Or.inr ⟨e0, e1, by simp only at hb; omega, e3, e4⟩)
              unfold badB
              rw [hmy, e0]
              simp
          have hadd : ¬ (x.f0 = true ∧ (x.f2 < 1 ∨ x.f2 > (X.size : Int))) → (addN x = (x.f1.size : Int) + x.f3) := by
            intro _
            unfold addN
            have hz : (⟨#[]⟩ : ByteArray).size = 0 := rfl
            rcases g3 with ⟨e0, e1, e2, e3, e4, e5⟩ | ⟨e0, e1, e2, e3, e4⟩
            · rw [e0, e1, hz]; simp
            · rw [e0, e4]; simp
          by_cases hm : badB x X = true
          · rw [if_pos hm, if_pos (hbad.2 (Or.inl (hmay.1 hm)))]
            exact ev_neg (by simp) (ev_now _)
          · rw [if_neg hm, wr (n := size - (X.size : Int)) (by omega) (by omega)]
            have ha := hadd (fun e => hm (hmay.2 e))
            by_cases hc : addN x > size - (X.size : Int)
            · rw [if_pos hc, if_pos (hbad.2 (Or.inr (by omega)))]
              exact ev_neg (by simp) (ev_now _)
            · rw [if_neg hc]
              have hnb : ¬ stepBad x X size = true := fun e => by
                rcases hbad.1 e with e | e
                · exact hm (hmay.2 e)
                · omega
              rw [if_neg hnb]
              exact ev_pos rfl (ih q (ext x X) (by omega) (by omega) (hst hnb).2.1)
    · rw [if_neg hp]
      refine ev_neg (by omega) ?_
      by_cases hc : (X.size : Int) < size
      · exact ev_pos hc (ev_eq (ev_now _) (by rw [if_pos hc]))
      · exact ev_neg hc (ev_eq (ev_now _) (by rw [if_neg hc, str_bytes]))
/-- What a block stands for, with so many bytes at most. -/
def dec (s : ByteArray) (most : Int) : ByteArray × Int :=
  if (sz s).2 = 0 then (if most < 0 then (⟨#[]⟩, 40) else if (sz s).1 > most then (⟨#[]⟩, 40) else dcl s (sz s).1 (s.size + 1) (ln s).2.1.toNat ⟨#[]⟩) else (⟨#[]⟩, (sz s).2)
theorem sz_ok (s : ByteArray) (h : (sz s).2 = 0) : (ln s).2.2 = 0 ∧ (ln s).1 < 4294967296 ∧ (sz s).1 = (ln s).1 := by
  unfold sz at h ⊢
  split at h
  · rename_i h1
    rw [if_pos h1]
    split at h
    · simp at h
    · rename_i h2
      rw [if_neg h2]
      exact ⟨h1, by omega, rfl⟩
  · rename_i h1
    exact absurd h h1
theorem decode_ev (s : ByteArray) (most : Int) (hs : s.size ≤ 1000000000000) (hm : most ≤ 9223372036854775807) : Ev (fun k => snappy_Decode.f k s most) (dec s most) := by
  unfold snappy_Decode.f dec
  refine ev_bind (size_ev s (by omega)) ?_
  by_cases h : (sz s).2 = 0
  · rw [if_pos h]
    refine ev_pos h ?_
    by_cases h1 : most < 0
    · rw [if_pos h1]
      exact ev_pos h1 (ev_now _)
    · rw [if_neg h1]
      refine ev_neg h1 ?_
      rw [show IntKind.u64.wrap most = most from u64w _ (by omega) (by omega)]
      by_cases h2 : (sz s).1 > most
      · rw [if_pos h2]
        exact ev_pos h2 (ev_now _)
      · rw [if_neg h2]
        obtain ⟨g1, g2, g3⟩ := sz_ok s h
        obtain ⟨q, e, q0, q1⟩ := ln_at s g1
        have hp := ln_pos s
        refine ev_neg h2 ?_
        unfold bits_New.f
        refine ev_some (ev_bind (varint_ev s (by omega) g1 g2) ?_)
        simp only
        rw [e, Int.toNat_natCast, ← bytes_nil]
        exact dec_loop s (sz s).1 hs (by omega) (by omega) (s.size + 1) q ⟨#[]⟩ q1 (by omega) (by show ((0 : Nat) : Int) ≤ _; omega)
  · rw [if_neg h]
    exact ev_neg h (ev_now _)
def prl (s : ByteArray) : Nat → Nat → List S35 → List S35 × Int
  | 0, _, _ => ([], 4)
  | f + 1, p, acc =>
    if p < s.size then (match elem s p with
      | none => ([], 8)
      | some (x, q) => prl s f q (acc ++ [x]))
    else (acc, 0)
theorem parts_loop (s : ByteArray) (hs : s.size ≤ 1000000000000) : ∀ (f p : Nat) (acc : List S35), p ≤ s.size → s.size < f + p → acc.length ≤ p →
    Ev (fun k => snappy_Parts.l0 k acc s (p : Int) 0) (prl s f p acc) := by
  intro f
  induction f with
  | zero => intro p acc h2 h3; omega
  | succ f ih =>
    intro p acc h2 h3 h4
    refine ev_step (fun k => rfl) ?_
    simp only [snappy_Parts.l0]
    unfold prl bits_Reader_Left.f
    refine ev_some ?_
    rw [wr (n := (s.size : Int) - p) (by omega) (by omega)]
    by_cases hp : p < s.size
    · rw [if_pos hp]
      refine ev_pos (by omega) ?_
      have hn := next_ev s p (by omega) hp
      have hok := elem_ok s p hp
      generalize he : elem s p = r at hn hok
      match r, hn, hok with
      | none, hn, _ =>
        obtain ⟨c, t, o, n, q, hn⟩ := hn
        refine ev_bind hn ?_
        unfold bits_Reader_Err.f
        exact ev_some (ev_neg (by simp) (ev_now _))
      | some (x, q), hn, hok =>
        obtain ⟨_, g1, g2, g3⟩ := hok x q rfl
        refine ev_bind hn ?_
        unfold bits_Reader_Err.f
        refine ev_some (ev_pos rfl (ev_pos (by omega) ?_))
        exact ih q (acc ++ [x]) (by omega) (by omega) (by simp; omega)
    · rw [if_neg hp]
      exact ev_neg (by omega) (ev_now _)
/-- The parts of a block. -/
def prt (s : ByteArray) : List S35 × Int := if (sz s).2 = 0 then prl s (s.size + 1) (ln s).2.1.toNat [] else ([], (sz s).2)
theorem parts_ev (s : ByteArray) (hs : s.size ≤ 1000000000000) : Ev (fun k => snappy_Parts.f k s) (prt s) := by
  unfold snappy_Parts.f prt
  refine ev_bind (size_ev s (by omega)) ?_
  by_cases h : (sz s).2 = 0
  · rw [if_pos h]
    refine ev_pos h ?_
    obtain ⟨g1, g2, g3⟩ := sz_ok s h
    obtain ⟨q, e, q0, q1⟩ := ln_at s g1
    unfold bits_New.f
    refine ev_some (ev_bind (varint_ev s (by omega) g1 g2) ?_)
    simp only
    rw [e, Int.toNat_natCast]
    exact parts_loop s hs (s.size + 1) q [] q1 (by omega) (by simp)
  · rw [if_neg h]
    exact ev_neg h (ev_now _)
theorem ruv_ev (s : ByteArray) (hs : s.size ≤ 4611686018427387904) : ∀ (f i : Nat) (acc : Int), f + i = 10 → i ≤ s.size → 0 ≤ acc → acc < 2 ^ (7 * i) → i ≤ 9 →
    Ev (fun k => batonref01_Read.l0 k s acc (2 ^ (7 * i)) (i : Int)) (uv s f i acc) := by
  intro f
  induction f with
  | zero => intro i acc h; omega
  | succ f ih =>
    intro i acc hf hi h0 h1 h9
    refine ev_step (fun k => rfl) ?_
    simp only [batonref01_Read.l0]
    unfold uv
    have hb := bt_range s (i : Int)
    have hp : (0 : Int) < 2 ^ (7 * i) := Int.pow_pos (by decide)
    have hpn : (2 : Int) ^ (7 * i) ≤ 2 ^ 63 := by
      have : (2 : Nat) ^ (7 * i) ≤ 2 ^ 63 := Nat.pow_le_pow_right (by decide) (by omega)
      exact_mod_cast this
    by_cases c1 : i = s.size
    · rw [if_pos c1]
      exact ev_pos (by omega) (ev_now _)
    · rw [if_neg c1]
      refine ev_neg (by omega) ?_
      have main : ∀ bad : Bool, (bad = true ↔ i = 9 ∧ bt s (i : Int) > 1) → Ev (fun k => batonref01_Read.j1 k s acc (2 ^ (7 * i)) (i : Int) bad) (if i = 9 ∧ bt s (i : Int) > 1 then (0, 0, 4) else if bt s (i : Int) < 128 then (acc + bt s (i : Int) * 2 ^ (7 * i), (i : Int) + 1, 0) else uv s f (i + 1) (acc + (bt s (i : Int) - 128) * 2 ^ (7 * i))) := by
        intro bad hbad
        refine ev_step (fun k => rfl) ?_
        simp only [batonref01_Read.j1]
        by_cases c2 : i = 9 ∧ bt s (i : Int) > 1
        · rw [if_pos c2]
          exact ev_pos (hbad.2 c2) (ev_now _)
        · rw [if_neg c2]
          refine ev_neg (fun e => c2 (hbad.1 e)) (ev_pos (by omega) (ev_pos (by omega) ?_))
          rw [wr (n := (i : Int) + 1) (by omega) (by omega)]
          generalize bt s (i : Int) = b at hb c2
          have hm0 : Int.tmod b 128 = b % 128 := by rw [Int.tmod_eq_emod_of_nonneg hb.1]
          have hmw : IntKind.u64.wrap (Int.tmod b 128) = b % 128 := by rw [hm0]; exact u64w _ (by omega) (by omega)
          rw [hmw]
          have big : b % 128 * 2 ^ (7 * i) + acc < 2 ^ 64 := by
            by_cases hi9 : i = 9
            · subst hi9
              have e63 : (2 : Int) ^ (7 * 9) = 9223372036854775808 := by decide
              rw [e63] at h1 ⊢
              have : b ≤ 1 := by
                by_cases hb1 : b > 1
                · exact absurd ⟨rfl, hb1⟩ c2
                · omega
              omega
            · have : (2 : Nat) ^ (7 * i) ≤ 2 ^ 56 := Nat.pow_le_pow_right (by decide) (by omega)
              have h56 : (2 : Int) ^ (7 * i) ≤ 2 ^ 56 := by exact_mod_cast this
              have : b % 128 * 2 ^ (7 * i) ≤ 127 * 2 ^ (7 * i) := Int.mul_le_mul_of_nonneg_right (by omega) (by omega)
              omega
          have hmn : 0 ≤ b % 128 * 2 ^ (7 * i) := Int.mul_nonneg (by omega) (by omega)
          rw [Int.mul_comm ((2 : Int) ^ (7 * i)) (b % 128), show IntKind.u64.wrap (b % 128 * 2 ^ (7 * i)) = b % 128 * 2 ^ (7 * i) from u64w _ hmn (by omega), show IntKind.u64.wrap (acc + b % 128 * 2 ^ (7 * i)) = acc + b % 128 * 2 ^ (7 * i) from u64w _ (by omega) (by omega)]
          by_cases c3 : b < 128
          · rw [if_pos c3]
            refine ev_pos c3 (ev_eq (ev_now _) ?_)
            rw [show b % 128 = b from by omega]
          · rw [if_neg c3]
            have hi8 : i ≤ 8 := by
              by_cases hi9 : i = 9
              · exact absurd ⟨hi9, by omega⟩ c2
              · omega
            have e7 : (2 : Int) ^ (7 * (i + 1)) = 128 * 2 ^ (7 * i) := by
              rw [Nat.mul_add, Int.pow_add]
              omega
            have h56 : (2 : Int) ^ (7 * i) ≤ 2 ^ 56 := by
              have : (2 : Nat) ^ (7 * i) ≤ 2 ^ 56 := Nat.pow_le_pow_right (by decide) (by omega)
              exact_mod_cast this
            refine ev_neg c3 ?_
            rw [show IntKind.u64.wrap (2 ^ (7 * i) * 128) = 2 ^ (7 * (i + 1)) from by rw [e7, Int.mul_comm]; exact u64w _ (by omega) (by omega), show b % 128 = b - 128 from by omega]
            have hm2 : (b - 128) * 2 ^ (7 * i) ≤ 127 * 2 ^ (7 * i) := Int.mul_le_mul_of_nonneg_right (by omega) (by omega)
            have hm3 : 0 ≤ (b - 128) * 2 ^ (7 * i) := Int.mul_nonneg (by omega) (by omega)
            exact ih (i + 1) _ (by omega) (by omega) (by omega) (by omega) (by omega)
      by_cases c4 : i = 9
      · exact ev_pos (by omega) (ev_pos (by omega) (ev_pos (by omega) (main _ (by simp [c4]))))
      · exact ev_neg (by omega) (main _ (by simp [c4]))
theorem uv_err (s : ByteArray) : ∀ (f i : Nat) (acc : Int), (uv s f i acc).2.2 ≠ 0 → (uv s f i acc).1 = 0 ∧ (uv s f i acc).2.1 = 0
  | 0, i, acc, h => by simp [uv]
  | f + 1, i, acc, h => by
    unfold uv at h ⊢
    split
    · exact ⟨rfl, rfl⟩
    · rename_i c1
      rw [if_neg c1] at h
      split
      · exact ⟨rfl, rfl⟩
      · rename_i c2
        rw [if_neg c2] at h
        split
        · rename_i c3
          rw [if_pos c3] at h
          simp at h
        · rename_i c3
          rw [if_neg c3] at h
          exact uv_err s f (i + 1) _ h
theorem ruvarint_ev (s : ByteArray) (hs : s.size ≤ 4611686018427387904) : Ev (fun k => batonref01_Uvarint.f k s 0) (ln s) := by
  unfold batonref01_Uvarint.f
  refine ev_neg (by omega) (ev_step (fun k => rfl) ?_)
  simp only [batonref01_Uvarint.j0]
  rw [decide_eq_false (by omega)]
  refine ev_neg (by simp) (ev_pos (by omega) (ev_pos (by omega) ?_))
  rw [show (0 : Int).toNat = 0 from rfl, ByteArray.extract_zero_size]
  have := ruv_ev s hs 10 0 0 (by omega) (by omega) (by omega) (by decide) (by omega)
  refine ev_bind (a := ln s) (by unfold batonref01_Read.f; exact this) ?_
  by_cases h : (ln s).2.2 = 0
  · obtain ⟨q, e, q0, q1⟩ := ln_at s h
    refine ev_pos h (ev_eq (ev_now _) ?_)
    rw [wr (by omega) (by omega), Int.zero_add]
    exact Prod.ext rfl (Prod.ext rfl h.symm)
  · refine ev_neg h (ev_eq (ev_now _) ?_)
    have := uv_err s 10 0 0 h
    exact Prod.ext this.1.symm (Prod.ext this.2.symm rfl)
theorem rsize_ev (s : ByteArray) (hs : s.size ≤ 4611686018427387904) : Ev (fun k => batonref03_Size.f k s) (sz s) := by
  unfold batonref03_Size.f sz
  refine ev_bind (ruvarint_ev s hs) ?_
  by_cases h : (ln s).2.2 = 0
  · by_cases h2 : (ln s).1 ≥ 4294967296
    · exact ev_pos h (ev_pos h2 (ev_eq (ev_now _) (by rw [if_pos h, if_pos h2])))
    · exact ev_pos h (ev_neg h2 (ev_eq (ev_now _) (by rw [if_pos h, if_neg h2])))
  · exact ev_neg h (ev_eq (ev_now _) (by rw [if_neg h]))
theorem rlow_ev (X : ByteArray) (hX : X.size ≤ 4) : Ev (fun k => batonref03_low.f k X) (lv (bytesOf X)) := by
  have main : ∀ (d i : Nat) (acc : Int), d + i = X.size → acc + 256 ^ i * lv ((bytesOf X).drop i) = lv (bytesOf X) → 0 ≤ acc → Ev (fun k => batonref03_low.l0 k X acc (256 ^ i) (i : Int)) (lv (bytesOf X)) := by
    intro d
    induction d with
    | zero =>
      intro i acc hi h ha
      refine ev_step (fun k => rfl) ?_
      simp only [batonref03_low.l0]
      rw [List.drop_of_length_le (by rw [bytesOf_length]; omega), lv, Int.mul_zero, Int.add_zero] at h
      exact ev_neg (by omega) (ev_eq (ev_now _) h)
    | succ d ih =>
      intro i acc hi h ha
      have hb := bt_range X (i : Int)
      have hp := p256' (i := i) (by omega)
      have hp0 : (0 : Int) < 256 ^ i := Int.pow_pos (by decide)
      have hl := lv4 X hX (i + 1)
      have hall := lv4 X hX 0
      rw [List.drop_zero] at hall
      have hpz := p256 (i := X.size - 0) (by omega)
      rw [List.drop_eq_getElem_cons (show i < (bytesOf X).length by rw [bytesOf_length]; omega), lv] at h
      have e1 : (bytesOf X)[i]'(by rw [bytesOf_length]; omega) = bt X (i : Int) := by
        rw [← rd_bytesOf]
        unfold rd
        rw [Int.toNat_natCast, List.getD, List.getElem?_eq_getElem (show i < (bytesOf X).length by rw [bytesOf_length]; omega), Option.getD_some]
      rw [e1] at h
      have hm0 : 0 ≤ 256 ^ i * bt X (i : Int) := Int.mul_nonneg (by omega) hb.1
      have hm1 : 256 ^ i * bt X (i : Int) ≤ 256 ^ i * 255 := Int.mul_le_mul_of_nonneg_left hb.2 (by omega)
      have hm2 : 0 ≤ 256 ^ i * (256 * lv ((bytesOf X).drop (i + 1))) := Int.mul_nonneg (by omega) (by omega)
      rw [Int.mul_add] at h
      refine ev_step (fun k => rfl) ?_
      simp only [batonref03_low.l0]
      refine ev_pos (by omega) (ev_pos (by omega) ?_)
      rw [wr (n := bt X (i : Int)) (by omega) (by omega), wr (n := 256 ^ i * bt X (i : Int)) (by omega) (by omega), wr (n := acc + 256 ^ i * bt X (i : Int)) (by omega) (by omega), wr (n := (256 : Int) ^ i * 256) (by omega) (by omega), wr (n := (i : Int) + 1) (by omega) (by omega), ← Int.pow_succ]
      refine ih (i + 1) _ (by omega) ?_ (by omega)
      rw [Int.pow_succ, Int.mul_assoc]
      omega
  unfold batonref03_low.f
  have := main X.size 0 0 (by omega) (by simp) (by omega)
  exact this
/-- What 'element' tells of the element at a place. -/
def rel (p : Nat) : Option (S35 × Nat) → Bool × ByteArray × Int × Int × Int
  | some (x, q) => (x.f0, x.f1, x.f2, x.f3, ((q - p : Nat) : Int))
  | none => (false, ⟨#[]⟩, 0, 0, -1)
theorem element_ev (s : ByteArray) (p : Nat) (hs : s.size ≤ 1000000000000) (h : p < s.size) : Ev (fun k => batonref03_element.f k (s.extract p s.size)) (rel p (elem s p)) := by
  have hz : (s.extract p s.size).size = s.size - p := by rw [ByteArray.size_extract]; omega
  have hb0 : bt (s.extract p s.size) 0 = bt s (p : Int) := bt_ext s (i := 0) (Nat.le_refl _) (by omega)
  have sub (i j : Nat) (hj : p + j ≤ s.size) : (s.extract p s.size).extract i j = s.extract (p + i) (p + j) := by
    rw [ByteArray.extract_extract, Nat.min_eq_left hj]
  have two (n : Nat) (hn : n ≤ 4) (hq : p + 1 + n ≤ s.size) : (s.extract (p + 1) (p + 1 + n)).size = n := by rw [ByteArray.size_extract]; omega
  have lvb (n : Nat) (hn : n ≤ 4) (hq : p + 1 + n ≤ s.size) : 0 ≤ lv (bytesOf (s.extract (p + 1) (p + 1 + n))) ∧ lv (bytesOf (s.extract (p + 1) (p + 1 + n))) < 256 ^ n := by
    have := lv4 (s.extract (p + 1) (p + 1 + n)) (by rw [two n hn hq]; omega) 0
    rwa [List.drop_zero, two n hn hq] at this
  have low (n : Nat) (hn : n ≤ 4) (hq : p + 1 + n ≤ s.size) : Ev (fun k => batonref03_low.f k ((s.extract p s.size).extract 1 (1 + n))) (lv (bytesOf (s.extract (p + 1) (p + 1 + n)))) := by
    rw [sub 1 (1 + n) (by omega), show p + (1 + n) = p + 1 + n from by omega]
    exact rlow_ev _ (by rw [two n hn hq]; omega)
  unfold batonref03_element.f
  rw [hz, hb0]
  have hb := bt_range s (p : Int)
  refine ev_pos (by omega) ?_
  rw [wr (n := bt s (p : Int)) (by omega) (by omega)]
  have e4 : Int.tmod (bt s (p : Int)) 4 = bt s (p : Int) % 4 := Int.tmod_eq_emod_of_nonneg hb.1
  have d32 : Int.tdiv (bt s (p : Int)) 32 = bt s (p : Int) / 32 := Int.tdiv_eq_ediv_of_nonneg hb.1
  have d4 : Int.tdiv (bt s (p : Int)) 4 = bt s (p : Int) / 4 := Int.tdiv_eq_ediv_of_nonneg hb.1
  rw [e4, d32, d4]
  unfold elem
  have hb1 : p + 1 + 1 ≤ s.size → bt (s.extract p s.size) 1 = lv (bytesOf (s.extract (p + 1) (p + 1 + 1))) := by
    intro hq
    rw [show (1 : Int) = ((1 : Nat) : Int) from rfl, bt_ext s (i := 1) (Nat.le_refl _) (by omega), bytes_one s (p + 1) (by omega), lv, lv]
    omega
  generalize bt s (p : Int) = t at hb e4 d4
  rw [wr (n := t / 4) (by omega) (by omega), wr (n := t / 32) (by omega) (by omega), wr (n := t / 32 * 256) (by omega) (by omega), show Int.tmod (t / 4) 8 = t / 4 % 8 from Int.tmod_eq_emod_of_nonneg (by omega), wr (n := 4 + t / 4 % 8) (by omega) (by omega)]
  by_cases h1 : t % 4 = 1
  · rw [if_pos h1]
    refine ev_pos h1 ?_
    by_cases hq : p + 1 + 1 ≤ s.size
    · rw [if_pos hq, hb1 hq]
      have hl := lvb 1 (by omega) hq
      refine ev_neg (by omega) (ev_pos (by omega) (ev_eq (ev_now _) ?_))
      rw [wr (n := lv (bytesOf (s.extract (p + 1) (p + 1 + 1)))) (by omega) (by omega), wr (by omega) (by omega)]
      unfold rel
      simp only
      rw [show p + 1 + 1 - p = 2 from by omega]
      rfl
    · rw [if_neg hq]
      exact ev_pos (by omega) (ev_now _)
  · rw [if_neg h1]
    refine ev_neg h1 ?_
    have j0 (z : Bool) : (z = true ↔ t % 4 = 2 ∨ t % 4 = 3) → Ev (fun k => batonref03_element.j0 k (s.extract p s.size) t z) (rel p (if t % 4 = 2 then (if p + 1 + 2 ≤ s.size then some (⟨true, ⟨#[]⟩, lv (bytesOf (s.extract (p + 1) (p + 1 + 2))), t / 4 + 1⟩, p + 1 + 2) else none)
  else if t % 4 = 3 then (if p + 1 + 4 ≤ s.size then some (⟨true, ⟨#[]⟩, lv (bytesOf (s.extract (p + 1) (p + 1 + 4))), t / 4 + 1⟩, p + 1 + 4) else none)
  else if t / 4 ≥ 60 then
    (if p + 1 + (t / 4 - 59).toNat ≤ s.size then
      (if p + 1 + (t / 4 - 59).toNat + ((lv (bytesOf (s.extract (p + 1) (p + 1 + (t / 4 - 59).toNat)))).toNat + 1) ≤ s.size then
        some (⟨false, s.extract (p + 1 + (t / 4 - 59).toNat) (p + 1 + (t / 4 - 59).toNat + ((lv (bytesOf (s.extract (p + 1) (p + 1 + (t / 4 - 59).toNat)))).toNat + 1)), 0, 0⟩,
          p + 1 + (t / 4 - 59).toNat + ((lv (bytesOf (s.extract (p + 1) (p + 1 + (t / 4 - 59).toNat)))).toNat + 1)) else none) else none)
  else (if p + 1 + (t / 4 + 1).toNat ≤ s.size then some (⟨false, s.extract (p + 1) (p + 1 + (t / 4 + 1).toNat), 0, 0⟩, p + 1 + (t / 4 + 1).toNat) else none))) := by
      intro hzz
      refine ev_step (fun k => rfl) ?_
      simp only [batonref03_element.j0]
      rw [hz, e4, d4, wr (n := t / 4) (by omega) (by omega), wr (n := t / 4 + 1) (by omega) (by omega)]
      by_cases h2 : t % 4 = 2
      · rw [if_pos h2]
        refine ev_pos (hzz.2 (Or.inl h2)) (ev_neg (by omega) ?_)
        by_cases hq : p + 1 + 2 ≤ s.size
        · rw [if_pos hq]
          refine ev_neg (by omega) (ev_pos (by omega) (ev_pos (by omega) (ev_bind (low 2 (by omega) hq) (ev_eq (ev_now _) ?_))))
          unfold rel
          simp only
          rw [show p + 1 + 2 - p = 3 from by omega]
          rfl
        · rw [if_neg hq]
          exact ev_pos (by omega) (ev_now _)
      · rw [if_neg h2]
        by_cases h3 : t % 4 = 3
        · rw [if_pos h3]
          refine ev_pos (hzz.2 (Or.inr h3)) (ev_pos h3 ?_)
          by_cases hq : p + 1 + 4 ≤ s.size
          · rw [if_pos hq]
            refine ev_neg (by omega) (ev_pos (by omega) (ev_pos (by omega) (ev_bind (low 4 (by omega) hq) (ev_eq (ev_now _) ?_))))
            unfold rel
            simp only
            rw [show p + 1 + 4 - p = 5 from by omega]
            rfl
          · rw [if_neg hq]
            exact ev_pos (by omega) (ev_now _)
        · rw [if_neg h3]
          refine ev_neg (fun e => by rcases hzz.1 e with e | e <;> omega) ?_
          by_cases h4 : t / 4 ≥ 60
          · rw [if_pos h4]
            refine ev_pos (by omega) ?_
            have ek : wrap64 (1 + (wrap64 (t / 4 + 1 - 60))) = ((1 + (t / 4 - 59).toNat : Nat) : Int) := by
              rw [wr (n := t / 4 + 1 - 60) (by omega) (by omega), wr (by omega) (by omega)]
              omega
            rw [ek]
            have hk : (t / 4 - 59).toNat ≤ 4 := by omega
            generalize (t / 4 - 59).toNat = d at hk
            rw [Int.toNat_natCast]
            by_cases hq : p + 1 + d ≤ s.size
            · rw [if_pos hq]
              have hl := lvb d hk hq
              have hp := p256 hk
              have lo := low d hk hq
              generalize lv (bytesOf (s.extract (p + 1) (p + 1 + d))) = z at hl lo
              refine ev_neg (by omega) (ev_pos (by omega) (ev_pos (by omega) (ev_bind lo ?_)))
              rw [wr (n := z + 1) (by omega) (by omega), wr (n := ((s.size - p : Nat) : Int) - ((1 + d : Nat) : Int)) (by omega) (by omega), wr (n := ((1 + d : Nat) : Int) + (z + 1)) (by omega) (by omega)]
              by_cases hr : p + 1 + d + (z.toNat + 1) ≤ s.size
              · rw [if_pos hr]
                refine ev_neg (by omega) (ev_pos (by omega) (ev_pos (by omega) (ev_pos (by omega) (ev_eq (ev_now _) ?_))))
                rw [show (((1 + d : Nat) : Int) + (z + 1)).toNat = 1 + d + (z.toNat + 1) from by omega, sub _ _ (by omega), show p + (1 + d) = p + 1 + d from by omega, show p + (1 + d + (z.toNat + 1)) = p + 1 + d + (z.toNat + 1) from by omega]
                unfold rel
                simp only
                rw [show ((p + 1 + d + (z.toNat + 1) - p : Nat) : Int) = ((1 + d : Nat) : Int) + (z + 1) from by omega]
              · rw [if_neg hr]
                exact ev_pos (by omega) (ev_now _)
            · rw [if_neg hq]
              exact ev_pos (by omega) (ev_now _)
          · rw [if_neg h4]
            refine ev_neg (by omega) ?_
            rw [wr (n := 1 + (t / 4 + 1)) (by omega) (by omega), wr (n := ((s.size - p : Nat) : Int) - 1) (by omega) (by omega)]
            by_cases hq : p + 1 + (t / 4 + 1).toNat ≤ s.size
            · rw [if_pos hq]
              refine ev_neg (by omega) (ev_pos (by omega) (ev_pos (by omega) (ev_eq (ev_now _) ?_)))
              rw [show (1 + (t / 4 + 1)).toNat = 1 + (t / 4 + 1).toNat from by omega, sub _ _ (by omega), show p + (1 + (t / 4 + 1).toNat) = p + 1 + (t / 4 + 1).toNat from by omega]
              unfold rel
              simp only
              rw [show ((p + 1 + (t / 4 + 1).toNat - p : Nat) : Int) = 1 + (t / 4 + 1) from by omega]
            · rw [if_neg hq]
              exact ev_pos (by omega) (ev_now _)
    by_cases h2 : t % 4 = 2
    · exact ev_pos h2 (j0 true (by simp [h2]))
    · exact ev_neg h2 (j0 _ (by simp [h2]))
theorem rdec_copy (s : ByteArray) (size : Int) (q : Nat) (c : Bool) (t : ByteArray) (o n : Int) (r : ByteArray × Int) (ho : 1 ≤ o) (hn : n ≤ 64) : ∀ (d : Nat) (j : Int) (Y : ByteArray), 0 ≤ j → (d : Int) + j = max n j → o ≤ (Y.size : Int) → Y.size + d ≤ 100000000000000 → d ≤ 64 →
    Ev (fun k => batonref03_Decode.l0 k s size (q : Int) (cp Y o.toNat d)) r → Ev (fun k => batonref03_Decode.l1 k s size (q : Int) Y j c t o n) r := by
  intro d
  induction d with
  | zero =>
    intro j Y h0 h1 h2 h3 h4 h
    refine ev_step (fun k => rfl) ?_
    simp only [batonref03_Decode.l1]
    exact ev_neg (by omega) h
  | succ d ih =>
    intro j Y h0 h1 h2 h3 h4 h
    refine ev_step (fun k => rfl) ?_
    simp only [batonref03_Decode.l1]
    rw [wr (n := (Y.size : Int) - o) (by omega) (by omega), wr (n := j + 1) (by omega) (by omega), wr (n := (Y.size : Int) - o + 1) (by omega) (by omega)]
    have hlt : Y.size - o.toNat < Y.size := by omega
    have hz := ext1_size Y _ hlt
    rw [show ((Y.size : Int) - o).toNat = Y.size - o.toNat from by omega, show ((Y.size : Int) - o + 1).toNat = Y.size - o.toNat + 1 from by omega]
    rw [ByteArray.size_append] at hz
    refine ev_pos (by omega) (ev_pos (by omega) (ev_pos (by omega) (ev_pos (by omega) (ev_pos (by omega) ?_))))
    rw [← ByteArray.size_append] at hz
    unfold cp at h
    exact ih (j + 1) _ (by omega) (by omega) (by omega) (by omega) (by omega) h
theorem rdec_loop (s : ByteArray) (size : Int) (hs : s.size ≤ 1000000000000) (h0 : 0 ≤ size) (h1 : size < 4294967296) : ∀ (f p : Nat) (X : ByteArray), p ≤ s.size → s.size < f + p → (X.size : Int) ≤ size →
    Ev (fun k => batonref03_Decode.l0 k s size (p : Int) X) (dcl s size f p X) := by
  intro f
  induction f with
  | zero => intro p X h2 h3; omega
  | succ f ih =>
    intro p X h2 h3 h4
    refine ev_step (fun k => rfl) ?_
    simp only [batonref03_Decode.l0]
    unfold dcl
    rw [show IntKind.u64.wrap (X.size : Int) = (X.size : Int) from u64w _ (by omega) (by omega)]
    by_cases hp : p < s.size
    · rw [if_pos hp, Int.toNat_natCast]
      refine ev_pos (by omega) (ev_pos (by omega) (ev_pos (by omega) ?_))
      have hn := element_ev s p hs hp
      have hok := elem_ok s p hp
      generalize he : elem s p = r at hn hok
      match r, hn, hok with
      | none, hn, _ =>
        refine ev_bind hn ?_
        exact ev_pos (show (-1 : Int) < 0 by decide) (ev_now _)
      | some (x, q), hn, hok =>
        obtain ⟨_, g1, g2, g3⟩ := hok x q rfl
        refine ev_bind hn ?_
        unfold rel
        simp only
        have hst := step_size x X size s.size g3
        have hbad : stepBad x X size = true ↔ (x.f0 = true ∧ (x.f2 < 1 ∨ x.f2 > (X.size : Int))) ∨ (X.size : Int) + (x.f1.size : Int) + x.f3 > size := by unfold stepBad; rw [decide_eq_true_eq]
        have hz : (⟨#[]⟩ : ByteArray).size = 0 := rfl
        have hf1 : x.f1.size ≤ s.size ∧ 0 ≤ x.f3 ∧ x.f3 ≤ 64 := by
          rcases g3 with ⟨e0, e1, e2, e3, e4, e5⟩ | ⟨e0, e1, e2, e3, e4⟩
          · rw [e1, hz]; omega
          · omega
        rw [wr (n := (p : Int) + ((q - p : Nat) : Int)) (by omega) (by omega), show (p : Int) + ((q - p : Nat) : Int) = (q : Int) from by omega, wr (n := (X.size : Int) + (x.f1.size : Int)) (by omega) (by omega), wr (n := (X.size : Int) + (x.f1.size : Int) + x.f3) (by omega) (by omega), show IntKind.u64.wrap ((X.size : Int) + (x.f1.size : Int) + x.f3) = (X.size : Int) + (x.f1.size : Int) + x.f3 from u64w _ (by omega) (by omega)]
        refine ev_neg (by omega) ?_
        have main : ∀ bad : Bool, (bad = true ↔ stepBad x X size = true) → Ev (fun k => batonref03_Decode.j2 k s size (q : Int) X bad x.f0 x.f1 x.f2 x.f3) (if stepBad x X size = true then (⟨#[]⟩, 4) else dcl s size f q (ext x X)) := by
          intro bad hb
          refine ev_step (fun k => rfl) ?_
          simp only [batonref03_Decode.j2]
          by_cases hc : stepBad x X size = true
          · rw [if_pos hc]
            exact ev_pos (hb.2 hc) (ev_now _)
          · rw [if_neg hc]
            have hsz := hst hc
            have hnb : ¬ ((x.f0 = true ∧ (x.f2 < 1 ∨ x.f2 > (X.size : Int))) ∨ (X.size : Int) + (x.f1.size : Int) + x.f3 > size) := fun e => hc (hbad.2 e)
            refine ev_neg (fun e => hc (hb.1 e)) (ev_pos (by omega) ?_)
            have tail := ih q (ext x X) (by omega) (by omega) hsz.2.1
            rcases g3 with ⟨e0, e1, e2, e3, e4, e5⟩ | ⟨e0, e1, e2, e3, e4⟩
            · have ho : 1 ≤ x.f2 ∧ x.f2 ≤ (X.size : Int) := by
                constructor
                · by_cases hl : x.f2 < 1
                  · exact absurd (Or.inl ⟨e0, Or.inl hl⟩) hnb
                  · omega
                · by_cases hl : x.f2 > (X.size : Int)
                  · exact absurd (Or.inl ⟨e0, Or.inr hl⟩) hnb
                  · omega
              refine rdec_copy s size q x.f0 x.f1 x.f2 x.f3 _ ho.1 e5 x.f3.toNat 0 (X ++ x.f1) (by omega) (by omega) (by rw [ByteArray.size_append]; omega) (by rw [ByteArray.size_append]; omega) (by omega) ?_
              exact tail
            · rw [e4, e3]
              refine ev_step (fun k => rfl) ?_
              simp only [batonref03_Decode.l1]
              refine ev_neg (by omega) ?_
              have e : ext x X = X ++ x.f1 := by unfold ext; rw [e3, e4]; rfl
              rw [← e]
              exact tail
        by_cases hcopy : x.f0 = true
        · refine ev_pos hcopy ?_
          by_cases c1 : x.f2 < 1
          · exact ev_pos c1 (main true (iff_of_true rfl (hbad.2 (Or.inl ⟨hcopy, Or.inl c1⟩))))
          · refine ev_neg c1 ?_
            by_cases c2 : x.f2 > (X.size : Int)
            · exact ev_pos c2 (main true (iff_of_true rfl (hbad.2 (Or.inl ⟨hcopy, Or.inr c2⟩))))
            · refine ev_neg c2 (main _ ?_)
              rw [decide_eq_true_eq, hbad]
              constructor
              · exact fun e => Or.inr e
              · rintro (⟨_, e | e⟩ | e)
                · exact absurd e c1
                · exact absurd e c2
                · exact e
        · refine ev_neg hcopy (main _ ?_)
          rw [decide_eq_true_eq, hbad]
          constructor
          · exact fun e => Or.inr e
          · rintro (⟨e, _⟩ | e)
            · exact absurd e hcopy
            · exact e
    · rw [if_neg hp]
      refine ev_neg (by omega) ?_
      by_cases hc : (X.size : Int) < size
      · exact ev_pos hc (ev_eq (ev_now _) (by rw [if_pos hc]))
      · exact ev_neg hc (ev_eq (ev_now _) (by rw [if_neg hc]))
theorem rdecode_ev (s : ByteArray) (most : Int) (hs : s.size ≤ 1000000000000) (hm : most ≤ 9223372036854775807) : Ev (fun k => batonref03_Decode.f k s most) (dec s most) := by
  unfold batonref03_Decode.f dec
  refine ev_bind (rsize_ev s (by omega)) ?_
  by_cases h : (sz s).2 = 0
  · rw [if_pos h]
    refine ev_pos h ?_
    have main : ∀ bad : Bool, (bad = true ↔ most < 0 ∨ (sz s).1 > most) → Ev (fun k => batonref03_Decode.j0 k s (sz s).1 bad) (if most < 0 then (⟨#[]⟩, 40) else if (sz s).1 > most then (⟨#[]⟩, 40) else dcl s (sz s).1 (s.size + 1) (ln s).2.1.toNat ⟨#[]⟩) := by
      intro bad hb
      refine ev_step (fun k => rfl) ?_
      simp only [batonref03_Decode.j0]
      by_cases h1 : most < 0
      · rw [if_pos h1]
        exact ev_pos (hb.2 (Or.inl h1)) (ev_now _)
      · rw [if_neg h1]
        by_cases h2 : (sz s).1 > most
        · rw [if_pos h2]
          exact ev_pos (hb.2 (Or.inr h2)) (ev_now _)
        · rw [if_neg h2]
          obtain ⟨g1, g2, g3⟩ := sz_ok s h
          obtain ⟨q, e, q0, q1⟩ := ln_at s g1
          have hp := ln_pos s
          refine ev_neg (fun e => by rcases hb.1 e with e | e; exact h1 e; exact h2 e) (ev_bind (ruvarint_ev s (by omega)) ?_)
          rw [e, Int.toNat_natCast]
          exact rdec_loop s (sz s).1 hs (by omega) (by omega) (s.size + 1) q ⟨#[]⟩ q1 (by omega) (by show ((0 : Nat) : Int) ≤ _; omega)
    by_cases h1 : most < 0
    · exact ev_pos h1 (main true (iff_of_true rfl (Or.inl h1)))
    · refine ev_neg h1 (main _ ?_)
      rw [show IntKind.u64.wrap most = most from u64w _ (by omega) (by omega), decide_eq_true_eq]
      exact ⟨fun e => Or.inr e, fun e => e.resolve_left h1⟩
  · rw [if_neg h]
    exact ev_neg h (ev_now _)
theorem rparts_loop (s : ByteArray) (hs : s.size ≤ 1000000000000) : ∀ (f p : Nat) (acc : List S35), p ≤ s.size → s.size < f + p → acc.length ≤ p →
    Ev (fun k => batonref03_Parts.l0 k s (p : Int) (acc.map p72)) ((prl s f p acc).1.map p72, (prl s f p acc).2) := by
  intro f
  induction f with
  | zero => intro p acc h2 h3; omega
  | succ f ih =>
    intro p acc h2 h3 h4
    refine ev_step (fun k => rfl) ?_
    simp only [batonref03_Parts.l0]
    unfold prl
    by_cases hp : p < s.size
    · rw [if_pos hp, Int.toNat_natCast]
      refine ev_pos (by omega) (ev_pos (by omega) (ev_pos (by omega) ?_))
      have hn := element_ev s p hs hp
      have hok := elem_ok s p hp
      generalize he : elem s p = r at hn hok
      match r, hn, hok with
      | none, hn, _ =>
        refine ev_bind hn ?_
        exact ev_pos (show (-1 : Int) < 0 by decide) (ev_now _)
      | some (x, q), hn, hok =>
        obtain ⟨_, g1, g2, g3⟩ := hok x q rfl
        refine ev_bind hn ?_
        unfold rel
        simp only
        rw [wr (n := (p : Int) + ((q - p : Nat) : Int)) (by omega) (by omega), show (p : Int) + ((q - p : Nat) : Int) = (q : Int) from by omega, List.length_map]
        refine ev_neg (by omega) (ev_pos (by omega) ?_)
        have := ih q (acc ++ [x]) (by omega) (by omega) (by simp; omega)
        rw [List.map_append] at this
        exact this
    · rw [if_neg hp]
      exact ev_neg (by omega) (ev_now _)
theorem rparts_ev (s : ByteArray) (hs : s.size ≤ 1000000000000) : Ev (fun k => batonref03_Parts.f k s) ((prt s).1.map p72, (prt s).2) := by
  unfold batonref03_Parts.f prt
  refine ev_bind (rsize_ev s (by omega)) ?_
  by_cases h : (sz s).2 = 0
  · rw [if_pos h]
    refine ev_pos h ?_
    obtain ⟨g1, g2, g3⟩ := sz_ok s h
    obtain ⟨q, e, q0, q1⟩ := ln_at s g1
    refine ev_bind (ruvarint_ev s (by omega)) ?_
    rw [e, Int.toNat_natCast]
    exact rparts_loop s hs (s.size + 1) q [] q1 (by omega) (by simp)
  · rw [if_neg h]
    exact ev_neg h (ev_now _)
end Go.Proofs.Ythcjcmgdblhhfaa.SpecSnappyDecodes
