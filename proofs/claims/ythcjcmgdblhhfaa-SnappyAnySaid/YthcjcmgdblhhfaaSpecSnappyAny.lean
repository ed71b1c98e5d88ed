/- Plain facts about what the snappy functions compute: no memory and no program. No conditions. -/
import Derived.Test.YthcjcmgdblhhfaaPVx0
import Derived.Test.YthcjcmgdblhhfaaPVx1
import Derived.Test.YthcjcmgdblhhfaaPVx2
import Derived.Test.YthcjcmgdblhhfaaPVx3
import Derived.Test.YthcjcmgdblhhfaaPVx4
import Derived.Test.YthcjcmgdblhhfaaPVx5
import Derived.Test.YthcjcmgdblhhfaaPVx6
import Derived.Test.YthcjcmgdblhhfaaPVx7
import Derived.Test.YthcjcmgdblhhfaaPVx8
import Derived.Test.YthcjcmgdblhhfaaPVx9
import Derived.Test.YthcjcmgdblhhfaaPVx10
import Derived.Test.YthcjcmgdblhhfaaPVx13
import Derived.Test.YthcjcmgdblhhfaaPVx14
import Derived.Test.YthcjcmgdblhhfaaPVx15
import Derived.Test.YthcjcmgdblhhfaaPVx16
import Derived.Test.YthcjcmgdblhhfaaPVx18
import Derived.Test.YthcjcmgdblhhfaaPVx20
import Derived.Test.YthcjcmgdblhhfaaPVx21
import Derived.Test.YthcjcmgdblhhfaaPVx28
import Derived.Test.YthcjcmgdblhhfaaPVx42
import Derived.Laws.BitsLemmas
import Derived.Laws.Strings
namespace Go.Proofs.Ythcjcmgdblhhfaa.SpecSnappyAny
open Go.RowKit Go.Proofs.Ythcjcmgdblhhfaa.PV Go.Proofs.YthcjcmgdblhhfaaW.PrintWords Go.Proofs.YthcjcmgdblhhfaaW.PrintLast Go.Proofs.YthcjcmgdblhhfaaW.PrintMore
set_option linter.unusedVariables false
set_option linter.unusedSimpArgs false
section
variable {α β : Type} {r : α}
theorem ev_pos {c : Prop} [Decidable c] {f g : Nat → Option α} (hc : c) (h : Ev f r) : Ev (fun n => if c then f n else g n) r := by
  obtain ⟨K, hK⟩ := h; exact ⟨K, fun k hk => by show (if c then f k else g k) = _; rw [if_pos hc]; exact hK k hk⟩
theorem ev_neg {c : Prop} [Decidable c] {f g : Nat → Option α} (hc : ¬ c) (h : Ev g r) : Ev (fun n => if c then f n else g n) r := by
  obtain ⟨K, hK⟩ := h; exact ⟨K, fun k hk => by show (if c then f k else g k) = _; rw [if_neg hc]; exact hK k hk⟩
theorem ev_bind {a : β} {g : Nat → Option β} {f : Nat → β → Option α} (h : Ev g a) (k : Ev (fun n => f n a) r) : Ev (fun n => (g n).bind (f n)) r := Ev.bind h k
theorem ev_some {a : β} {f : Nat → β → Option α} (k : Ev (fun n => f n a) r) : Ev (fun n => (some a).bind (f n)) r := by
  obtain ⟨K, hK⟩ := k; exact ⟨K, fun n hn => hK n hn⟩
theorem ev_now (r : α) : Ev (fun _ => some r) r := Ev.now r
theorem ev_eq {a b : α} {f : Nat → Option α} (h : Ev f a) (e : a = b) : Ev f b := e ▸ h
theorem ev_step {g f : Nat → Option α} (h : ∀ k, g (k + 1) = f k) (k : Ev f r) : Ev g r := Ev.step h k
theorem ev_pure {g : Option α} (h : g = some r) : Ev (fun _ => g) r := ⟨0, fun _ _ => h⟩
end
theorem wr {n : Int} (h1 : -9223372036854775808 ≤ n) (h2 : n ≤ 9223372036854775807) : wrap64 n = n := by unfold wrap64; omega

/-- The first place from i on, d places at most, that p does not hold at. -/
def run (p : Nat → Bool) : Nat → Nat → Nat
  | i, 0 => i
  | i, d + 1 => if p i then run p (i + 1) d else i
/-- Alike from two places on: at distance n. -/
def eqAt (s : ByteArray) (a b : Nat) (n : Nat) : Bool := decide (b + n < s.size) && (bt s ((a + n : Nat) : Int) == bt s ((b + n : Nat) : Int))
def al (s : ByteArray) (a b : Nat) : Nat := run (eqAt s a b) 0 64
/-- The best of the distances from o on, d of them. -/
def best (s : ByteArray) (p : Nat) : Nat → Nat → Nat × Nat → Nat × Nat
  | _, 0, m => m
  | o, d + 1, m => best s p (o + 1) d (if m.2 < al s (p - o) p then (o, al s (p - o) p) else m)
/-- A place's match. -/
def mat (s : ByteArray) (p : Nat) : Nat × Nat := best s p 1 (min p 65535) (0, 0)
theorem awake_ev : Ev (fun k => batonlaw03_awake.f k) true := Ev.of batonlaw03_awake.mono (k := 40) (by decide +kernel)
theorem dat_get (a : Array UInt8) (i : Nat) (h : i < a.size) : a.getD i 0 = a[i] := by unfold Array.getD; rw [dif_pos h]; rfl
theorem dat_out (a : Array UInt8) (i : Nat) (h : ¬ i < a.size) : a.getD i 0 = 0 := by unfold Array.getD; rw [dif_neg h]
theorem bt_eq (s : ByteArray) (i : Nat) : bt s (i : Int) = ((s.data.getD i 0).toNat : Int) := by
  unfold bt
  rw [Int.toNat_natCast]
  by_cases h : i < s.size
  · rw [dif_pos h, dat_get _ _ h]
    rfl
  · rw [dif_neg h, dat_out _ _ h]
    rfl
section
variable {β : Type}
def litB (mk : Bool → ByteArray → Int → Int → β) (s : ByteArray) (a b : Nat) : List β := if a < b then [mk false (s.extract a b) 0 0] else []
/-- A text's parts, from a on, the last copy's end being fr. -/
def pk (mk : Bool → ByteArray → Int → Int → β) (s : ByteArray) : Nat → Nat → Nat → List β → List β
  | 0, _, _, out => out
  | f + 1, a, fr, out => if a < s.size then (if 4 ≤ (mat s a).2 then pk mk s f (a + (mat s a).2) (a + (mat s a).2) (out ++ litB mk s fr a ++ [mk true ⟨#[]⟩ (mat s a).1 (mat s a).2]) else pk mk s f (a + 1) fr out) else out ++ litB mk s fr s.size
end
def m35 (c : Bool) (t : ByteArray) (o n : Int) : S35 := ⟨c, t, o, n⟩
def parts (s : ByteArray) : List S35 := pk m35 s (s.size + 1) 0 0 []
theorem str_bytes (X : ByteArray) : strOfNums (bytesOf X) = X := by
  unfold bytesOf strOfNums
  rw [List.map_map]
  have e : ((fun n : Int => UInt8.ofNat n.toNat) ∘ fun b : UInt8 => (b.toNat : Int)) = id := by
    funext b
    simp
  rw [e, List.map_id]
theorem bytes_app (X Y : ByteArray) : bytesOf (X ++ Y) = bytesOf X ++ bytesOf Y := by
  unfold bytesOf
  simp
theorem bytes_nil : bytesOf ⟨#[]⟩ = [] := rfl
theorem bytes_one (X : ByteArray) (k : Nat) (h : k < X.size) : bytesOf (X.extract k (k + 1)) = [bt X (k : Int)] := by
  unfold bytesOf
  rw [bt_eq, dat_get _ _ h]
  have e : (X.extract k (k + 1)).data.toList = [X.data[k]'h] := by
    apply List.ext_getElem
    · simp; have : X.data.size = X.size := rfl; omega
    · intro n h1 h2
      simp at h2
      subst h2
      simp
  rw [e]
  rfl
/-- A copy of n bytes from off behind the end. -/
def cp (X : ByteArray) (off : Nat) : Nat → ByteArray
  | 0 => X
  | n + 1 => cp (X ++ X.extract (X.size - off) (X.size - off + 1)) off n
theorem ext1_size (X : ByteArray) (k : Nat) (h : k < X.size) : (X ++ X.extract k (k + 1)).size = X.size + 1 := by
  rw [ByteArray.size_append, ByteArray.size_extract]; omega
theorem cp_size (off : Nat) (ho : 1 ≤ off) : ∀ (n : Nat) (X : ByteArray), off ≤ X.size → (cp X off n).size = X.size + n
  | 0, X, _ => rfl
  | n + 1, X, h => by
    unfold cp
    rw [cp_size off ho n _ (by rw [ext1_size _ _ (by omega)]; omega), ext1_size _ _ (by omega)]
    omega
def mayB (x : S35) : Bool := decide ((x.f0 = true ∧ x.f1.size = 0 ∧ 1 ≤ x.f3 ∧ x.f3 ≤ 64 ∧ 1 ≤ x.f2 ∧ x.f2 < 4294967296) ∨ (x.f0 = false ∧ 1 ≤ x.f1.size ∧ x.f1.size ≤ 65536 ∧ x.f2 = 0 ∧ x.f3 = 0))
theorem nil_size (s : ByteArray) : s.toList = ([] : List UInt8) ↔ s.size = 0 := by
  rw [Go.ByteArray.toList_eq, List.eq_nil_iff_length_eq_zero, Array.length_toList]
  rfl
theorem beq_dec (a b : Int) : (a == b) = decide (a = b) := rfl
theorem may_is (x : S35) : snappy_Part_may.f x.f0 x.f1 x.f2 x.f3 = some (mayB x) := by
  obtain ⟨b, t, o, n⟩ := x
  unfold snappy_Part_may.f mayB
  simp only [nil_size, beq_dec]
  generalize t.size = z
  cases b
  all_goals simp only [if_true, Bool.false_eq_true, if_false]
  all_goals (repeat' split)
  all_goals first
    | (refine congrArg some (decide_eq_decide.2 ?_); simp; try omega)
    | (refine congrArg some (Eq.symm (decide_eq_false ?_)); simp; try omega)
/-- Is a part none that may stand behind these bytes? -/
def badB (x : S35) (X : ByteArray) : Bool := !mayB x || (x.f0 && decide (x.f2 > (X.size : Int)))
def ext (x : S35) (X : ByteArray) : ByteArray := cp (X ++ x.f1) x.f2.toNat x.f3.toNat
def addN (x : S35) : Int := if x.f0 then x.f3 else (x.f1.size : Int)
theorem add_copy (c : Bool) (t : ByteArray) (o n : Int) (ho : 1 ≤ o) (hn : n ≤ 64) : ∀ (d : Nat) (j : Int) (Y : ByteArray), 0 ≤ j → (d : Int) + j = max n j → o ≤ (Y.size : Int) → Y.size + d ≤ 100000000000000 →
    (d ≤ 64) → Ev (fun k => snappy_Part_add.l0 k (bytesOf Y) n j c t o n) (bytesOf (cp Y o.toNat d), 0) := by
  intro d
  induction d with
  | zero =>
    intro j Y h0 h1 h2 h3 h4
    refine ev_step (fun k => rfl) ?_
    simp only [snappy_Part_add.l0]
    exact ev_neg (by omega) (ev_now _)
  | succ d ih =>
    intro j Y h0 h1 h2 h3 h4
    refine ev_step (fun k => rfl) ?_
    simp only [snappy_Part_add.l0]
    rw [bytesOf_length, wr (n := (Y.size : Int) - o) (by omega) (by omega), wr (n := j + 1) (by omega) (by omega)]
    refine ev_pos (by omega) (ev_pos (by omega) (ev_pos (by omega) (ev_pos (by omega) ?_)))
    have hlt : Y.size - o.toNat < Y.size := by omega
    have e : bytesOf Y ++ [rd (bytesOf Y) ((Y.size : Int) - o)] = bytesOf (Y ++ Y.extract (Y.size - o.toNat) (Y.size - o.toNat + 1)) := by
      rw [bytes_app, bytes_one _ _ hlt, rd_bytesOf, show (Y.size : Int) - o = ((Y.size - o.toNat : Nat) : Int) from by omega]
    rw [e]
    unfold cp
    have hz := ext1_size Y _ hlt
    exact ih (j + 1) _ (by omega) (by omega) (by omega) (by omega) (by omega)
theorem mayB_iff (b : Bool) (t : ByteArray) (o n : Int) : mayB ⟨b, t, o, n⟩ = true ↔ (b = true ∧ t.size = 0 ∧ 1 ≤ n ∧ n ≤ 64 ∧ 1 ≤ o ∧ o < 4294967296) ∨ (b = false ∧ 1 ≤ t.size ∧ t.size ≤ 65536 ∧ o = 0 ∧ n = 0) := by
  unfold mayB
  rw [decide_eq_true_eq]
theorem add_j1 (b : Bool) (t : ByteArray) (o n : Int) (X : ByteArray) (most nn : Int) (hX : X.size ≤ 90000000000000) (bad : Bool) (hb : bad = false → mayB ⟨b, t, o, n⟩ = true ∧ (b = true → o ≤ (X.size : Int))) :
    Ev (fun k => snappy_Part_add.j1 k (bytesOf X) most nn bad b t o n) (if bad = true then ([], 4) else if nn > wrap64 (most - (X.size : Int)) then ([], 40) else (bytesOf (ext ⟨b, t, o, n⟩ X), 0)) := by
  refine ev_step (fun k => rfl) ?_
  simp only [snappy_Part_add.j1]
  cases bad with
  | true => exact ev_now _
  | false =>
    obtain ⟨hm, ho⟩ := hb rfl
    rw [mayB_iff] at hm
    refine ev_neg (by simp) ?_
    rw [if_neg (by simp), bytesOf_length]
    by_cases h40 : nn > wrap64 (most - (X.size : Int))
    · rw [if_pos h40]
      exact ev_pos h40 (ev_now _)
    · rw [if_neg h40]
      refine ev_neg h40 (ev_pos (by omega) ?_)
      rw [← bytes_app]
      unfold ext
      simp only
      rcases hm with ⟨rfl, h1, h2, h3, h4, h5⟩ | ⟨rfl, h1, h2, rfl, rfl⟩
      · have h6 := ho rfl
        exact add_copy true t o n h4 h3 n.toNat 0 (X ++ t) (by omega) (by omega) (by rw [ByteArray.size_append]; omega) (by rw [ByteArray.size_append]; omega) (by omega)
      · refine ev_step (fun k => rfl) ?_
        simp only [snappy_Part_add.l0]
        exact ev_neg (by omega) (ev_now _)
theorem add_ev (x : S35) (X : ByteArray) (most : Int) (hX : X.size ≤ 90000000000000) : Ev (fun k => snappy_Part_add.f k x.f0 x.f1 x.f2 x.f3 (bytesOf X) most) (if badB x X = true then ([], 4) else if addN x > wrap64 (most - (X.size : Int)) then ([], 40) else (bytesOf (ext x X), 0)) := by
  obtain ⟨b, t, o, n⟩ := x
  have hm := may_is ⟨b, t, o, n⟩
  unfold snappy_Part_add.f badB addN
  simp only at hm ⊢
  cases b with
  | true =>
    refine ev_pos rfl (ev_step (fun k => rfl) ?_)
    simp only [snappy_Part_add.j0]
    rw [hm]
    refine ev_some ?_
    by_cases hM : mayB ⟨true, t, o, n⟩ = true
    · refine ev_pos hM (ev_pos trivial ?_)
      rw [hM, bytesOf_length]
      refine ev_eq (add_j1 true t o n X most n hX (decide (o > (X.size : Int))) (fun e => ⟨hM, fun _ => by simpa using e⟩)) ?_
      simp
    · refine ev_neg hM ?_
      rw [show mayB ⟨true, t, o, n⟩ = false from by simpa using hM]
      exact add_j1 true t o n X most n hX true (fun e => by cases e)
  | false =>
    refine ev_neg (by simp) (ev_step (fun k => rfl) ?_)
    simp only [snappy_Part_add.j0]
    rw [hm]
    refine ev_some ?_
    by_cases hM : mayB ⟨false, t, o, n⟩ = true
    · refine ev_pos hM (ev_neg (by simp) ?_)
      rw [hM]
      refine ev_eq (add_j1 false t o n X most (t.size : Int) hX false (fun e => ⟨hM, fun e => by cases e⟩)) ?_
      simp
    · refine ev_neg hM ?_
      rw [show mayB ⟨false, t, o, n⟩ = false from by simpa using hM]
      exact add_j1 false t o n X most (t.size : Int) hX true (fun e => by cases e)
/-- What parts stand for behind bytes. -/
def exq : List S35 → ByteArray → Int → ByteArray × Int
  | [], X, _ => (X, 0)
  | x :: l, X, most => if badB x X = true then (⟨#[]⟩, 4) else if addN x > wrap64 (most - (X.size : Int)) then (⟨#[]⟩, 40) else exq l (ext x X) most
theorem ext_size (x : S35) (X : ByteArray) (h : badB x X = false) : (ext x X).size ≤ X.size + 65536 := by
  obtain ⟨b, t, o, n⟩ := x
  unfold badB at h
  simp only [Bool.or_eq_false_iff, Bool.not_eq_false', Bool.and_eq_false_iff, decide_eq_false_iff_not] at h
  obtain ⟨h1, h2⟩ := h
  rw [mayB_iff] at h1
  unfold ext
  simp only
  rcases h1 with ⟨rfl, h1, h3, h4, h5, h6⟩ | ⟨rfl, h1, h3, rfl, rfl⟩
  · rw [cp_size _ (by omega) _ _ (by rw [ByteArray.size_append]; simp at h2; omega), ByteArray.size_append]
    omega
  · show (X ++ t).size ≤ _
    rw [ByteArray.size_append]
    omega
theorem expand_loop (L : List S35) (most : Int) (hL : L.length ≤ 1000000) : ∀ (d i : Nat) (X : ByteArray), i + d = L.length → X.size + 65536 * d ≤ 90000000000000 →
    Ev (fun k => snappy_Expand.l0 k most (bytesOf X) L (L.length : Int) (i : Int)) (exq (L.drop i) X most) := by
  intro d
  induction d with
  | zero =>
    intro i X hi hX
    refine ev_step (fun k => rfl) ?_
    simp only [snappy_Expand.l0]
    rw [List.drop_of_length_le (by omega), str_bytes]
    exact ev_neg (by omega) (ev_now _)
  | succ d ih =>
    intro i X hi hX
    refine ev_step (fun k => rfl) ?_
    simp only [snappy_Expand.l0]
    refine ev_pos (by omega) (ev_pos (by omega) (ev_pos (by omega) ?_))
    have e : rd_T35 L (i : Int) = L[i]'(by omega) := by unfold rd_T35; rw [Int.toNat_natCast]; simp [List.getD, List.getElem?_eq_getElem (show i < L.length by omega)]
    rw [e, List.drop_eq_getElem_cons (show i < L.length by omega)]
    refine ev_bind (add_ev (L[i]'(by omega)) X most (by omega)) ?_
    unfold exq
    by_cases h1 : badB (L[i]'(by omega)) X = true
    · rw [if_pos h1, if_pos h1]
      exact ev_neg (by simp) (ev_now _)
    · rw [if_neg h1, if_neg h1]
      by_cases h2 : addN (L[i]'(by omega)) > wrap64 (most - (X.size : Int))
      · rw [if_pos h2, if_pos h2]
        exact ev_neg (by simp) (ev_now _)
      · rw [if_neg h2, if_neg h2]
        refine ev_pos rfl ?_
        rw [wr (n := (i : Int) + 1) (by omega) (by omega)]
        have := ext_size (L[i]'(by omega)) X (by simpa using h1)
        exact ih (i + 1) _ (by omega) (by omega)
theorem expand_ev (L : List S35) (most : Int) (hL : L.length ≤ 1000000) : Ev (fun k => snappy_Expand.f k L most) (exq L ⟨#[]⟩ most) := by
  unfold snappy_Expand.f
  exact expand_loop L most hL L.length 0 ⟨#[]⟩ (by omega) (by show 0 + 65536 * L.length ≤ _; omega)
/-- n's bytes, lowest first. -/
def numb : Int → Nat → List Int
  | _, 0 => []
  | n, d + 1 => (n % 256) :: numb (n / 256) d
theorem put_loop (c : Int) : ∀ (d : Nat) (i n : Int) (l : List Int), 0 ≤ i → i + d = c → c ≤ 100 → l.length + d ≤ 100000000000000 → Ev (fun k => snappy_put.l0 k l n c i) (l ++ numb n d) := by
  intro d
  induction d with
  | zero =>
    intro i n l h0 h1 h2 h3
    refine ev_step (fun k => rfl) ?_
    simp only [snappy_put.l0, numb, List.append_nil]
    exact ev_neg (by omega) (ev_now _)
  | succ d ih =>
    intro i n l h0 h1 h2 h3
    refine ev_step (fun k => rfl) ?_
    simp only [snappy_put.l0]
    refine ev_pos (by omega) (ev_pos (by omega) ?_)
    rw [wr (n := i + 1) (by omega) (by omega)]
    refine ev_eq (ih (i + 1) (n / 256) _ (by omega) (by omega) h2 (by simp; omega)) ?_
    simp only [numb, List.append_assoc, List.singleton_append]
theorem put_ev (l : List Int) (n : Int) (d : Nat) (hd : d ≤ 100) (hl : l.length ≤ 90000000000000) : Ev (fun k => snappy_put.f k l n (d : Int)) (l ++ numb n d) := by
  unfold snappy_put.f
  exact put_loop (d : Int) d 0 n l (by omega) (by omega) (by omega) (by omega)
/-- The bytes that a part is, as numbers. -/
def wl (x : S35) : List Int :=
  if x.f0 then
    (if 4 ≤ x.f3 ∧ x.f3 ≤ 11 ∧ x.f2 < 2048 then [x.f2 / 256 * 32 + (x.f3 - 4) * 4 + 1, x.f2 % 256]
     else if x.f2 < 65536 then ((x.f3 - 1) * 4 + 2) :: numb x.f2 2 else ((x.f3 - 1) * 4 + 3) :: numb x.f2 4)
  else (if x.f1.size ≤ 60 then [((x.f1.size : Int) - 1) * 4] else if x.f1.size ≤ 256 then 240 :: numb ((x.f1.size : Int) - 1) 1 else 244 :: numb ((x.f1.size : Int) - 1) 2) ++ bytesOf x.f1
theorem or2 (m : Nat) (h : m < 64) : Go.bits .or .i64 ((m : Int) * 4) 2 = (m : Int) * 4 + 2 ∧ Go.bits .or .i64 ((m : Int) * 4) 3 = (m : Int) * 4 + 3 ∧ Go.bits .or .i64 ((m : Int) * 4) 0 = (m : Int) * 4 := by
  have : ∀ m : Fin 64, Go.bits .or .i64 ((m.val : Int) * 4) 2 = (m.val : Int) * 4 + 2 ∧ Go.bits .or .i64 ((m.val : Int) * 4) 3 = (m.val : Int) * 4 + 3 ∧ Go.bits .or .i64 ((m.val : Int) * 4) 0 = (m.val : Int) * 4 := by decide +kernel
  exact this ⟨m, h⟩
theorem or1 (a b : Nat) (ha : a < 8) (hb : b < 8) : Go.bits .or .i64 (Go.bits .or .i64 ((a : Int) * 32) ((b : Int) * 4)) 1 = (a : Int) * 32 + (b : Int) * 4 + 1 := by
  have : ∀ a b : Fin 8, Go.bits .or .i64 (Go.bits .or .i64 ((a.val : Int) * 32) ((b.val : Int) * 4)) 1 = (a.val : Int) * 32 + (b.val : Int) * 4 + 1 := by decide +kernel
  exact this ⟨a, ha⟩ ⟨b, hb⟩
theorem numb_len : ∀ (d : Nat) (n : Int), (numb n d).length = d
  | 0, _ => rfl
  | d + 1, n => by simp [numb, numb_len d]
theorem write_copy (t : ByteArray) (o n : Int) (l : List Int) (hl : l.length ≤ 80000000000000) (h1 : t.size = 0) (h2 : 1 ≤ n) (h3 : n ≤ 64) (h4 : 1 ≤ o) (h5 : o < 4294967296) :
    Ev (fun k => snappy_Part_write.f k true t o n l) (l ++ wl ⟨true, t, o, n⟩) := by
  have hj1 : ∀ x5 : Int, Ev (fun k => snappy_Part_write.j1 k l x5 (decide (o < 65536)) true t o n) (l ++ (if o < 65536 then ((n - 1) * 4 + 2) :: numb o 2 else ((n - 1) * 4 + 3) :: numb o 4)) := by
    intro x5
    refine ev_step (fun k => rfl) ?_
    simp only [snappy_Part_write.j1]
    rw [wr (n := n - 1) (by omega) (by omega), wr (n := (n - 1) * 4) (by omega) (by omega)]
    obtain ⟨m, hm⟩ : ∃ m : Nat, n - 1 = (m : Int) := ⟨(n - 1).toNat, by omega⟩
    have ho := or2 m (by omega)
    rw [hm, ho.1, ho.2.1]
    by_cases h6 : o < 65536
    · rw [if_pos h6]
      refine ev_pos (by simp; exact h6) (ev_pos (by omega) (ev_bind (put_ev _ o 2 (by omega) (by simp; omega)) ?_))
      refine ev_eq (ev_now _) ?_
      rw [show ((m : Int) * 4 + 2) % 256 = (m : Int) * 4 + 2 from by omega]
      simp
    · rw [if_neg h6]
      refine ev_neg (by simp; omega) (ev_pos trivial (ev_pos (by omega) (ev_bind (put_ev _ o 4 (by omega) (by simp; omega)) ?_)))
      refine ev_eq (ev_now _) ?_
      rw [show ((m : Int) * 4 + 3) % 256 = (m : Int) * 4 + 3 from by omega]
      simp
  have hj0 : ∀ x5 : Int, Ev (fun k => snappy_Part_write.j0 k l x5 false true t o n) (l ++ (if o < 65536 then ((n - 1) * 4 + 2) :: numb o 2 else ((n - 1) * 4 + 3) :: numb o 4)) := by
    intro x5
    refine ev_step (fun k => rfl) ?_
    simp only [snappy_Part_write.j0]
    exact ev_neg (by simp) (ev_pos trivial (hj1 x5))
  unfold snappy_Part_write.f wl
  simp only [if_true]
  by_cases h6 : 4 ≤ n
  · refine ev_pos h6 ?_
    by_cases h7 : n ≤ 11
    · refine ev_pos h7 ?_
      by_cases h8 : o < 2048
      · rw [if_pos ⟨h6, h7, h8⟩, decide_eq_true h8]
        refine ev_step (fun k => rfl) ?_
        simp only [snappy_Part_write.j0]
        obtain ⟨a, ha⟩ : ∃ a : Nat, o / 256 = (a : Int) := ⟨(o / 256).toNat, by omega⟩
        obtain ⟨b, hb⟩ : ∃ b : Nat, n - 4 = (b : Int) := ⟨(n - 4).toNat, by omega⟩
        rw [wr (n := n - 4) (by omega) (by omega), ha, hb, wr (n := (a : Int) * 32) (by omega) (by omega), wr (n := (b : Int) * 4) (by omega) (by omega), or1 a b (by omega) (by omega)]
        refine ev_some (ev_pos (by simp; omega) (ev_eq (ev_now _) ?_))
        rw [show ((a : Int) * 32 + (b : Int) * 4 + 1) % 256 = (a : Int) * 32 + (b : Int) * 4 + 1 from by omega]
      · rw [if_neg (fun e => h8 e.2.2), decide_eq_false h8]
        exact hj0 _
    · rw [if_neg (fun e => h7 e.2.1)]
      exact ev_neg h7 (hj0 _)
  · rw [if_neg (fun e => h6 e.1)]
    exact ev_neg h6 (hj0 _)
theorem write_lit (t : ByteArray) (l : List Int) (hl : l.length ≤ 80000000000000) (h1 : 1 ≤ t.size) (h2 : t.size ≤ 65536) :
    Ev (fun k => snappy_Part_write.f k false t 0 0 l) (l ++ wl ⟨false, t, 0, 0⟩) := by
  unfold snappy_Part_write.f wl
  simp only [Bool.false_eq_true, if_false]
  rw [wr (n := (t.size : Int) - 1) (by omega) (by omega)]
  refine ev_step (fun k => rfl) ?_
  simp only [snappy_Part_write.j0]
  refine ev_neg (by simp) (ev_neg (by simp) (ev_step (fun k => rfl) ?_))
  simp only [snappy_Part_write.j1]
  refine ev_neg (by simp) (ev_neg (by simp) ?_)
  have htail : ∀ (d : Nat), d ≤ 2 → 1 ≤ d → t.size ≤ 256 ^ d → Ev (fun k => if 0 ≤ wrap64 (8 * (d : Int)) then if shr .i64 ((t.size : Int) - 1) (wrap64 (8 * (d : Int))) > 0 then snappy_Part_write.l0 k l ((t.size : Int) - 1) (wrap64 ((d : Int) + 1)) false t 0 0 else if l.length < 140737488355328 then (snappy_put.f k (l ++ [Go.bits .or .i64 (wrap64 (wrap64 (wrap64 (60 + (d : Int)) - 1) * 4)) 0 % 256]) ((t.size : Int) - 1) (d : Int)).bind fun t252 => if t252.length + t.size < 140737488355328 then some (t252 ++ bytesOf t) else none else none else none) (l ++ ((236 + 4 * (d : Int)) :: numb ((t.size : Int) - 1) d ++ bytesOf t)) := by
    intro d hd hd1 hp
    rw [wr (n := 8 * (d : Int)) (by omega) (by omega), wr (n := 60 + (d : Int)) (by omega) (by omega), wr (n := 60 + (d : Int) - 1) (by omega) (by omega), wr (n := (60 + (d : Int) - 1) * 4) (by omega) (by omega)]
    have ho := (or2 (59 + d) (by omega)).2.2
    rw [show (60 + (d : Int) - 1) * 4 = ((59 + d : Nat) : Int) * 4 from by omega, ho]
    have hsh : shr .i64 ((t.size : Int) - 1) (8 * (d : Int)) = 0 := by
      unfold shr
      rcases (show d = 1 ∨ d = 2 by omega) with rfl | rfl
      · show ((t.size : Int) - 1) / 2 ^ 8 = 0; omega
      · show ((t.size : Int) - 1) / 2 ^ 16 = 0; omega
    rw [hsh]
    refine ev_pos (by omega) (ev_neg (by omega) (ev_pos (by omega) (ev_bind (put_ev _ _ d (by omega) (by simp; omega)) (ev_pos (by simp [numb_len]; omega) (ev_eq (ev_now _) ?_)))))
    rw [show ((59 + d : Nat) : Int) * 4 % 256 = 236 + 4 * (d : Int) from by omega]
    simp
  by_cases h3 : t.size ≤ 60
  · rw [if_pos h3]
    refine ev_pos (by omega) (ev_pos (by omega) (ev_some (ev_pos (by simp; omega) (ev_eq (ev_now _) ?_))))
    rw [wr (n := ((t.size : Int) - 1) * 4) (by omega) (by omega), show ((t.size : Int) - 1) * 4 % 256 = ((t.size : Int) - 1) * 4 from by omega]
    simp
  · rw [if_neg h3]
    refine ev_neg (by omega) (ev_step (fun k => rfl) ?_)
    simp only [snappy_Part_write.l0]
    by_cases h4 : t.size ≤ 256
    · rw [if_pos h4]
      exact htail 1 (by omega) (by omega) (by omega)
    · rw [if_neg h4]
      rw [wr (n := (8 : Int) * 1) (by omega) (by omega)]
      have hsh : shr .i64 ((t.size : Int) - 1) (8 * 1) = ((t.size : Int) - 1) / 256 := rfl
      rw [hsh]
      refine ev_pos (by omega) (ev_pos (by omega) (ev_step (fun k => rfl) ?_))
      simp only [snappy_Part_write.l0]
      rw [show wrap64 ((1 : Int) + 1) = ((2 : Nat) : Int) from by unfold wrap64; omega]
      exact htail 2 (by omega) (by omega) (by omega)
theorem write_ev (x : S35) (l : List Int) (hl : l.length ≤ 80000000000000) (hm : mayB x = true) : Ev (fun k => snappy_Part_write.f k x.f0 x.f1 x.f2 x.f3 l) (l ++ wl x) := by
  obtain ⟨b, t, o, n⟩ := x
  rw [mayB_iff] at hm
  rcases hm with ⟨rfl, h1, h2, h3, h4, h5⟩ | ⟨rfl, h1, h2, rfl, rfl⟩
  · exact write_copy t o n l hl h1 h2 h3 h4 h5
  · exact write_lit t l hl h1 h2
def vb : Nat → Int → List Int
  | 0, n => [n]
  | f + 1, n => if n < 128 then [n] else (n % 128 + 128) :: vb f (n / 128)
theorem or128 (m : Nat) (h : m < 256) : Go.bits .or .u8 (m : Int) 128 = (m : Int) % 128 + 128 := by
  have : ∀ m : Fin 256, Go.bits .or .u8 (m.val : Int) 128 = (m.val : Int) % 128 + 128 := by decide +kernel
  exact this ⟨m, h⟩
theorem putu_loop : ∀ (f : Nat) (n : Int) (l : List Int), 0 ≤ n → n < 128 * 128 ^ f → l.length + f ≤ 100000000000000 → Ev (fun k => bits_PutUvarint.l0 k l n) (l ++ vb f n) := by
  intro f
  induction f with
  | zero =>
    intro n l h0 h1 h2
    refine ev_step (fun k => rfl) ?_
    simp only [bits_PutUvarint.l0, vb]
    refine ev_neg (by simp at h1; omega) (ev_pos (by omega) (ev_eq (ev_now _) ?_))
    rw [show n % 256 = n from by simp at h1; omega]
  | succ f ih =>
    intro n l h0 h1 h2
    refine ev_step (fun k => rfl) ?_
    simp only [bits_PutUvarint.l0, vb]
    by_cases h3 : n < 128
    · rw [if_pos h3]
      refine ev_neg (by omega) (ev_pos (by omega) (ev_eq (ev_now _) ?_))
      rw [show n % 256 = n from by omega]
    · rw [if_neg h3]
      refine ev_pos (by omega) (ev_pos (by omega) ?_)
      obtain ⟨m, hm⟩ : ∃ m : Nat, n % 256 = (m : Int) := ⟨(n % 256).toNat, by omega⟩
      rw [hm, or128 m (by omega), ← hm, show n % 256 % 128 = n % 128 from by omega]
      refine ev_eq (ih (n / 128) _ (by omega) ?_ (by simp; omega)) (by simp)
      rw [Int.pow_succ] at h1
      generalize (128 : Int) ^ f = q at h1 ⊢
      omega
theorem wrap_u64 {n : Int} (h0 : 0 ≤ n) (h1 : n ≤ 9000000000000000000) : IntKind.u64.wrap n = n := by unfold IntKind.wrap; simp [IntKind.signed, IntKind.bits]; omega
theorem ext_size2 (x : S35) (X : ByteArray) (h : badB x X = false) : ((ext x X).size : Int) = X.size + addN x := by
  obtain ⟨b, t, o, n⟩ := x
  unfold badB at h
  simp only [Bool.or_eq_false_iff, Bool.not_eq_false', Bool.and_eq_false_iff, decide_eq_false_iff_not] at h
  obtain ⟨h1, h2⟩ := h
  rw [mayB_iff] at h1
  unfold ext addN
  simp only
  rcases h1 with ⟨rfl, h1, h3, h4, h5, h6⟩ | ⟨rfl, h1, h3, rfl, rfl⟩
  · rw [cp_size _ (by omega) _ _ (by rw [ByteArray.size_append]; simp at h2; omega), ByteArray.size_append]
    simp; omega
  · show ((X ++ t).size : Int) = _
    rw [ByteArray.size_append]
    simp
theorem exq_ok (most : Int) (h0 : 0 ≤ most) (h1 : most ≤ 65536) : ∀ (l : List S35) (X : ByteArray), (X.size : Int) ≤ most → (exq l X most).2 = 0 → (∀ x ∈ l, mayB x = true) ∧ ((exq l X most).1.size : Int) ≤ most
  | [], X, hX, _ => ⟨by simp, hX⟩
  | x :: l, X, hX, h => by
    unfold exq at h ⊢
    by_cases hb : badB x X = true
    · rw [if_pos hb] at h; cases h
    · rw [if_neg hb] at h ⊢
      by_cases hn : addN x > wrap64 (most - (X.size : Int))
      · rw [if_pos hn] at h; cases h
      · rw [if_neg hn] at h ⊢
        rw [wr (n := most - (X.size : Int)) (by omega) (by omega)] at hn
        have hs := ext_size2 x X (by simpa using hb)
        have ih := exq_ok most h0 h1 l (ext x X) (by omega) h
        refine ⟨fun y hy => ?_, ih.2⟩
        rcases List.mem_cons.1 hy with rfl | hy
        · unfold badB at hb
          by_cases hm : mayB y = true
          · exact hm
          · simp [hm] at hb
        · exact ih.1 y hy
theorem wl_len (x : S35) (hm : mayB x = true) : (wl x).length ≤ 65600 := by
  obtain ⟨b, t, o, n⟩ := x
  rw [mayB_iff] at hm
  unfold wl
  rcases hm with ⟨rfl, h1, h2, h3, h4, h5⟩ | ⟨rfl, h1, h2, rfl, rfl⟩
  · simp only [if_true]
    split
    · simp
    · split <;> simp [numb_len]
  · simp only [Bool.false_eq_true, if_false]
    rw [List.length_append, bytesOf_length]
    split
    · simp; omega
    · split <;> simp [numb_len] <;> omega
theorem write_loop (L : List S35) (hL : L.length ≤ 1000000) (hm : ∀ x ∈ L, mayB x = true) : ∀ (d i : Nat) (acc : List Int), i + d = L.length → acc.length + 65600 * d ≤ 80000000000000 →
    Ev (fun k => snappy_Write.l0 k acc L (L.length : Int) (i : Int)) (strOfNums (acc ++ (L.drop i).flatMap wl), 0) := by
  intro d
  induction d with
  | zero =>
    intro i acc hi hX
    refine ev_step (fun k => rfl) ?_
    simp only [snappy_Write.l0]
    rw [List.drop_of_length_le (by omega)]
    refine ev_neg (by omega) (ev_eq (ev_now _) (by simp))
  | succ d ih =>
    intro i acc hi hX
    refine ev_step (fun k => rfl) ?_
    simp only [snappy_Write.l0]
    refine ev_pos (by omega) (ev_pos (by omega) (ev_pos (by omega) ?_))
    have e : rd_T35 L (i : Int) = L[i]'(by omega) := by unfold rd_T35; rw [Int.toNat_natCast]; simp [List.getD, List.getElem?_eq_getElem (show i < L.length by omega)]
    have hmi := hm (L[i]'(by omega)) (List.getElem_mem _)
    have hwl := wl_len _ hmi
    rw [e, List.drop_eq_getElem_cons (show i < L.length by omega)]
    refine ev_bind (write_ev (L[i]'(by omega)) acc (by omega) hmi) ?_
    rw [wr (n := (i : Int) + 1) (by omega) (by omega)]
    refine ev_eq (ih (i + 1) _ (by omega) (by rw [List.length_append]; omega)) ?_
    rw [List.flatMap_cons, List.append_assoc]
/-- The block of parts. -/
def blk (L : List S35) : ByteArray × Int := if (exq L ⟨#[]⟩ 65536).2 = 0 then (strOfNums (vb 8 ((exq L ⟨#[]⟩ 65536).1.size : Int) ++ L.flatMap wl), 0) else (⟨#[]⟩, (exq L ⟨#[]⟩ 65536).2)
theorem vb_len : ∀ (f : Nat) (n : Int), (vb f n).length ≤ f + 1
  | 0, _ => by simp [vb]
  | f + 1, n => by
    unfold vb
    split
    · simp
    · have := vb_len f (n / 128); simp; omega
theorem pow8 {n : Int} (h : n ≤ 65536) : n < 128 * 128 ^ 8 := by
  have : (128 : Int) ^ 8 = 72057594037927936 := by decide
  rw [this]
  omega
theorem swrite_ev (L : List S35) (hL : L.length ≤ 1000000) : Ev (fun k => snappy_Write.f k L) (blk L) := by
  unfold snappy_Write.f blk
  refine ev_bind (expand_ev L 65536 hL) ?_
  by_cases h : (exq L ⟨#[]⟩ 65536).2 = 0
  · rw [if_pos h]
    have hk := exq_ok 65536 (by omega) (by omega) L ⟨#[]⟩ (by show ((0 : Nat) : Int) ≤ _; omega) h
    refine ev_pos h ?_
    rw [wrap_u64 (by omega) (by omega)]
    have hv := vb_len 8 ((exq L ⟨#[]⟩ 65536).1.size : Int)
    have hp := putu_loop 8 ((exq L ⟨#[]⟩ 65536).1.size : Int) [] (by omega) (pow8 (by omega)) (by show 0 + 8 ≤ 100000000000000; omega)
    rw [List.nil_append] at hp
    exact ev_bind hp (write_loop L hL hk.1 L.length 0 _ (by omega) (by omega))
  · rw [if_neg h]
    exact ev_neg h (ev_now _)
/-- A part, as the document's. -/
def p72 (x : S35) : S72 := ⟨x.f0, x.f1, x.f2, x.f3⟩
theorem same_loop (l : List S35) (hl : l.length ≤ 4611686018427387904) : ∀ (d i : Nat), i + d = l.length → Ev (fun k => batonlaw03_same.l0 k l (l.map p72) (i : Int)) true := by
  intro d
  induction d with
  | zero => intro i hi; refine ev_step (fun k => rfl) ?_; simp only [batonlaw03_same.l0]; exact ev_neg (by omega) (ev_now _)
  | succ d ih =>
    intro i hi
    refine ev_step (fun k => rfl) ?_
    simp only [batonlaw03_same.l0]
    have e : rd_T72 (l.map p72) (i : Int) = p72 (rd_T35 l (i : Int)) := by
      unfold rd_T72 rd_T35
      rw [Int.toNat_natCast]
      simp [List.getD, List.getElem?_eq_getElem (show i < l.length by omega)]
    rw [e]
    refine ev_pos (by omega) (ev_pos (by omega) (ev_pos (by rw [List.length_map]; omega) (ev_neg (by simp [p72]) (ev_pos rfl (ev_pos rfl (ev_pos rfl ?_))))))
    rw [wr (n := (i : Int) + 1) (by omega) (by omega)]
    exact ih (i + 1) (by omega)
theorem same_ev (l : List S35) (hl : l.length ≤ 4611686018427387904) : Ev (fun k => batonlaw03_same.f k l (l.map p72)) true := by
  unfold batonlaw03_same.f
  exact ev_pos (by rw [List.length_map]) (same_loop l hl l.length 0 (by omega))
/-- A part of the document's, as the program's. -/
def p35 (x : S72) : S35 := ⟨x.f0, x.f1, x.f2, x.f3⟩
theorem p72_p35 (l : List S72) : (l.map p35).map p72 = l := by
  rw [List.map_map]
  exact List.map_id'' (fun x => rfl) l
theorem long_loop (l : List S72) (hl : l.length ≤ 140737488351232) : ∀ (d i : Nat) (n : Int), i + d = l.length → n ≤ 10100 → 70 * (i : Int) ≤ n →
    ∃ b, Ev (fun k => batonlaw03_long.l0 k l n (i : Int)) b ∧ (b = false → l.length ≤ 100) := by
  intro d
  induction d with
  | zero =>
    intro i n hi h1 h2
    refine ⟨decide (n ≥ 5000), ev_step (fun k => rfl) ?_, fun h => ?_⟩
    · simp only [batonlaw03_long.l0]
      exact ev_neg (by omega) (ev_now _)
    · simp at h
      omega
  | succ d ih =>
    intro i n hi h1 h2
    by_cases h5 : n < 5000
    · have hm : 0 ≤ mn (((rd_T72 l (i : Int)).f1).size : Int) 5000 ∧ mn (((rd_T72 l (i : Int)).f1).size : Int) 5000 ≤ 5000 := by unfold mn; omega
      obtain ⟨b, hb, hc⟩ := ih (i + 1) (n + 70 + mn (((rd_T72 l (i : Int)).f1).size : Int) 5000) (by omega) (by omega) (by omega)
      refine ⟨b, ev_step (fun k => rfl) ?_, hc⟩
      simp only [batonlaw03_long.l0]
      refine ev_pos (by omega) (ev_pos h5 (ev_pos (by omega) ?_))
      rw [wr (n := n + 70) (by omega) (by omega), wr (n := n + 70 + _) (by omega) (by omega), wr (n := (i : Int) + 1) (by omega) (by omega)]
      exact hb
    · refine ⟨decide (n ≥ 5000), ev_step (fun k => rfl) ?_, fun h => ?_⟩
      · simp only [batonlaw03_long.l0]
        exact ev_pos (by omega) (ev_neg h5 (ev_now _))
      · simp at h
        omega
theorem long_ev (l : List S72) (hl : l.length ≤ 140737488351232) : ∃ b, Ev (fun k => batonlaw03_long.f k l) b ∧ (b = false → l.length ≤ 100) := by
  unfold batonlaw03_long.f
  exact long_loop l hl l.length 0 0 (by omega) (by omega) (by omega)
theorem given_loop (l : List S72) (hl : l.length ≤ 100) : ∀ (d i : Nat) (acc : List S35), i + d = l.length → acc.length ≤ i →
    Ev (fun k => batonlaw03_given.l0 k l acc (i : Int)) (acc ++ (l.drop i).map p35) := by
  intro d
  induction d with
  | zero =>
    intro i acc hi ha
    refine ev_step (fun k => rfl) ?_
    simp only [batonlaw03_given.l0]
    rw [List.drop_of_length_le (by omega)]
    exact ev_neg (by omega) (ev_eq (ev_now _) (by simp))
  | succ d ih =>
    intro i acc hi ha
    refine ev_step (fun k => rfl) ?_
    simp only [batonlaw03_given.l0]
    have e : rd_T72 l (i : Int) = l[i]'(by omega) := by unfold rd_T72; rw [Int.toNat_natCast]; simp [List.getD, List.getElem?_eq_getElem (show i < l.length by omega)]
    rw [e, List.drop_eq_getElem_cons (show i < l.length by omega)]
    refine ev_pos (by omega) (ev_pos (by omega) (ev_pos (by omega) ?_))
    rw [wr (n := (i : Int) + 1) (by omega) (by omega)]
    refine ev_eq (ih (i + 1) _ (by omega) (by simp; omega)) ?_
    rw [List.map_cons, List.append_assoc]
    rfl
theorem given_ev (l : List S72) (hl : l.length ≤ 100) : Ev (fun k => batonlaw03_given.f k l) (l.map p35) := by
  unfold batonlaw03_given.f
  exact given_loop l hl l.length 0 [] (by omega) (by simp)
theorem bt_ext (X : ByteArray) {a b i : Nat} (hb : b ≤ X.size) (h : a + i < b) : bt (X.extract a b) (i : Int) = bt X ((a + i : Nat) : Int) := by
  unfold bt
  rw [Int.toNat_natCast, Int.toNat_natCast, dif_pos (by rw [ByteArray.size_extract]; omega), dif_pos (by omega), ByteArray.getElem_extract]
theorem i64w (n : Int) (h0 : 0 ≤ n) (h1 : n < 2 ^ 62) : IntKind.i64.wrap n = n := by rw [IntKind.wrap_i64]; omega
theorem u64w (n : Int) (h0 : 0 ≤ n) (h1 : n < 2 ^ 64) : IntKind.u64.wrap n = n := by unfold IntKind.wrap; simp [IntKind.signed, IntKind.bits]; omega
theorem and3 (t : Int) (h0 : 0 ≤ t) (h1 : t ≤ 255) : Go.bits .and .i64 t 3 = t % 4 := bits_mask .i64 62 (by decide) i64w 2 (by decide) t h0 (by omega)
theorem and7 (t : Int) (h0 : 0 ≤ t) (h1 : t ≤ 255) : Go.bits .and .i64 t 7 = t % 8 := bits_mask .i64 62 (by decide) i64w 3 (by decide) t h0 (by omega)
theorem or256 (x b : Int) (h0 : 0 ≤ x) (h1 : x ≤ 1099511627776) (b0 : 0 ≤ b) (b1 : b ≤ 255) : Go.bits .or .i64 (x * 256) b = x * 256 + b := bits_join .i64 62 (by decide) i64w 8 _ _ (by omega) (by omega) (by omega) b0 (by omega) (by omega)
def lv : List Int → Int
  | [] => 0
  | b :: l => b + 256 * lv l
theorem lv_bound : ∀ l : List Int, (∀ b ∈ l, 0 ≤ b ∧ b ≤ 255) → 0 ≤ lv l ∧ lv l < 256 ^ l.length
  | [], _ => by simp [lv]
  | b :: l, h => by
    have h1 := h b (by simp)
    have h2 := lv_bound l (fun c hc => h c (by simp [hc]))
    rw [lv, List.length_cons, Int.pow_succ]
    omega
theorem bytes_all (X : ByteArray) : ∀ b ∈ bytesOf X, 0 ≤ b ∧ b ≤ 255 := by
  intro b hb
  unfold bytesOf at hb
  obtain ⟨u, _, rfl⟩ := List.mem_map.1 hb
  have := u.toNat_lt
  omega
theorem lv4 (X : ByteArray) (h : X.size ≤ 4) (i : Nat) : 0 ≤ lv ((bytesOf X).drop i) ∧ lv ((bytesOf X).drop i) < 256 ^ (X.size - i) := by
  have := lv_bound ((bytesOf X).drop i) (fun b hb => bytes_all X b (List.mem_of_mem_drop hb))
  rwa [List.length_drop, bytesOf_length] at this
theorem p256 {i : Nat} (h : i ≤ 4) : (256 : Int) ^ i ≤ 4294967296 := by
  have : i = 0 ∨ i = 1 ∨ i = 2 ∨ i = 3 ∨ i = 4 := by omega
  rcases this with rfl | rfl | rfl | rfl | rfl <;> decide
theorem p256' {i : Nat} (h : i ≤ 3) : (256 : Int) ^ i ≤ 16777216 := by
  have : i = 0 ∨ i = 1 ∨ i = 2 ∨ i = 3 := by omega
  rcases this with rfl | rfl | rfl | rfl <;> decide
theorem low_loop (X : ByteArray) (hX : X.size ≤ 4) (s : ByteArray) (p e : Int) : ∀ i : Nat, i ≤ X.size → Ev (fun k => snappy_low.l0 k X (lv ((bytesOf X).drop i)) ((i : Int) - 1) s p e) (lv (bytesOf X), s, p, e) := by
  intro i
  induction i with
  | zero =>
    intro h
    refine ev_step (fun k => rfl) ?_
    simp only [snappy_low.l0]
    exact ev_neg (by omega) (ev_now _)
  | succ i ih =>
    intro h
    have hb := bt_range X (i : Int)
    have hl := lv4 X hX (i + 1)
    have hp := p256' (i := X.size - (i + 1)) (by omega)
    have e1 : lv ((bytesOf X).drop i) = lv ((bytesOf X).drop (i + 1)) * 256 + bt X (i : Int) := by
      rw [List.drop_eq_getElem_cons (show i < (bytesOf X).length by rw [bytesOf_length]; omega), lv, ← rd_bytesOf]
      unfold rd
      rw [Int.toNat_natCast, List.getD, List.getElem?_eq_getElem (show i < (bytesOf X).length by rw [bytesOf_length]; omega), Option.getD_some]
      omega
    refine ev_step (fun k => rfl) ?_
    simp only [snappy_low.l0]
    rw [show ((i + 1 : Nat) : Int) - 1 = (i : Int) from by omega]
    refine ev_pos (by omega) (ev_pos (by omega) (ev_pos (by omega) ?_))
    rw [wr (n := bt X (i : Int)) (by omega) (by omega), wr (n := lv ((bytesOf X).drop (i + 1)) * 256) (by omega) (by omega), or256 _ _ hl.1 (by omega) hb.1 hb.2, ← e1, wr (n := (i : Int) - 1) (by omega) (by omega)]
    exact ih (by omega)
theorem raw_ok (s : ByteArray) (p n : Nat) (hs : s.size ≤ 4611686018427387904) (h : p + n ≤ s.size) : bits_Reader_Raw.f s (p : Int) 0 (n : Int) = some (s.extract p (p + n), s, ((p + n : Nat) : Int), 0) := by
  unfold bits_Reader_Raw.f bits_Reader_good.f bits_Reader_Left.f
  simp only [Option.bind_some]
  have e0 : wrap64 ((s.size : Int) - (p : Int)) = (s.size : Int) - p := wr (by omega) (by omega)
  have e1 : wrap64 ((p : Int) + n) = ((p + n : Nat) : Int) := by rw [wr (by omega) (by omega)]; omega
  have e2 : wrap64 (((p + n : Nat) : Int) - n) = (p : Int) := by rw [wr (by omega) (by omega)]; omega
  rw [if_pos (by decide), if_neg (by omega), e0, if_neg (by omega), e1, e2, if_pos (by omega), if_pos (by omega), if_pos (by omega), Int.toNat_natCast, Int.toNat_natCast]
theorem raw_short (s : ByteArray) (p n : Nat) (hs : s.size ≤ 4611686018427387904) (hp : p ≤ s.size) (h : s.size < p + n) : bits_Reader_Raw.f s (p : Int) 0 (n : Int) = some (⟨#[]⟩, s, (p : Int), 8) := by
  unfold bits_Reader_Raw.f bits_Reader_good.f bits_Reader_Left.f
  simp only [Option.bind_some]
  have e0 : wrap64 ((s.size : Int) - (p : Int)) = (s.size : Int) - p := wr (by omega) (by omega)
  rw [if_pos (by decide), if_neg (by omega), e0, if_pos (by omega)]
theorem raw_err (s : ByteArray) (p n : Int) : bits_Reader_Raw.f s p 8 n = some (⟨#[]⟩, s, p, 8) := by
  unfold bits_Reader_Raw.f bits_Reader_good.f
  simp only [Option.bind_some]
  rw [if_neg (by decide)]
theorem byte_ok (s : ByteArray) (p : Nat) (hs : s.size ≤ 4611686018427387904) (h : p < s.size) : bits_Reader_Byte.f s (p : Int) 0 = some (bt s (p : Int), s, ((p + 1 : Nat) : Int), 0) := by
  unfold bits_Reader_Byte.f
  rw [show (1 : Int) = ((1 : Nat) : Int) from rfl, raw_ok s p 1 hs (by omega)]
  simp only [Option.bind_some]
  have hz : (s.extract p (p + 1)).size = 1 := by rw [ByteArray.size_extract]; omega
  rw [if_neg (fun e => by rw [nil_size] at e; omega), if_pos (by omega), show (0 : Int) = ((0 : Nat) : Int) from rfl, bt_ext s (by omega) (by omega)]
  rfl
theorem low_ok (s : ByteArray) (p n : Nat) (hs : s.size ≤ 4611686018427387904) (hn : n ≤ 4) (h : p + n ≤ s.size) : Ev (fun k => snappy_low.f k s (p : Int) 0 (n : Int)) (lv (bytesOf (s.extract p (p + n))), s, ((p + n : Nat) : Int), 0) := by
  unfold snappy_low.f
  rw [raw_ok s p n hs h]
  have hz : (s.extract p (p + n)).size = n := by rw [ByteArray.size_extract]; omega
  refine ev_some ?_
  have := low_loop (s.extract p (p + n)) (by omega) s ((p + n : Nat) : Int) 0 n (by omega)
  rw [List.drop_of_length_le (by rw [bytesOf_length]; omega)] at this
  rw [hz, wr (by omega) (by omega)]
  exact this
theorem low_short (s : ByteArray) (p n : Nat) (hs : s.size ≤ 4611686018427387904) (hp : p ≤ s.size) (h : s.size < p + n) : Ev (fun k => snappy_low.f k s (p : Int) 0 (n : Int)) (0, s, (p : Int), 8) := by
  unfold snappy_low.f
  rw [raw_short s p n hs hp h]
  refine ev_some (ev_step (fun k => rfl) ?_)
  simp only [snappy_low.l0]
  rw [show wrap64 (((⟨#[]⟩ : ByteArray).size : Int) - 1) = -1 from by rw [show (⟨#[]⟩ : ByteArray).size = 0 from rfl, wr (by omega) (by omega)]; rfl]
  exact ev_neg (by decide) (ev_now _)
/-- The element at a place: the part, and where the next one begins; none: bytes are missing. -/
def elem (s : ByteArray) (p : Nat) : Option (S35 × Nat) :=
  if bt s (p : Int) % 4 = 1 then (if p + 1 + 1 ≤ s.size then some (⟨true, ⟨#[]⟩, bt s (p : Int) / 32 * 256 + lv (bytesOf (s.extract (p + 1) (p + 1 + 1))), 4 + bt s (p : Int) / 4 % 8⟩, p + 1 + 1) else none)
  else if bt s (p : Int) % 4 = 2 then (if p + 1 + 2 ≤ s.size then some (⟨true, ⟨#[]⟩, lv (bytesOf (s.extract (p + 1) (p + 1 + 2))), bt s (p : Int) / 4 + 1⟩, p + 1 + 2) else none)
  else if bt s (p : Int) % 4 = 3 then (if p + 1 + 4 ≤ s.size then some (⟨true, ⟨#[]⟩, lv (bytesOf (s.extract (p + 1) (p + 1 + 4))), bt s (p : Int) / 4 + 1⟩, p + 1 + 4) else none)
  else if bt s (p : Int) / 4 ≥ 60 then
    (if p + 1 + (bt s (p : Int) / 4 - 59).toNat ≤ s.size then
      (if p + 1 + (bt s (p : Int) / 4 - 59).toNat + ((lv (bytesOf (s.extract (p + 1) (p + 1 + (bt s (p : Int) / 4 - 59).toNat)))).toNat + 1) ≤ s.size then
        some (⟨false, s.extract (p + 1 + (bt s (p : Int) / 4 - 59).toNat) (p + 1 + (bt s (p : Int) / 4 - 59).toNat + ((lv (bytesOf (s.extract (p + 1) (p + 1 + (bt s (p : Int) / 4 - 59).toNat)))).toNat + 1)), 0, 0⟩,
          p + 1 + (bt s (p : Int) / 4 - 59).toNat + ((lv (bytesOf (s.extract (p + 1) (p + 1 + (bt s (p : Int) / 4 - 59).toNat)))).toNat + 1)) else none) else none)
  else (if p + 1 + (bt s (p : Int) / 4 + 1).toNat ≤ s.size then some (⟨false, s.extract (p + 1) (p + 1 + (bt s (p : Int) / 4 + 1).toNat), 0, 0⟩, p + 1 + (bt s (p : Int) / 4 + 1).toNat) else none)
/-- What 'next' tells of it. -/
def Told (s : ByteArray) (g : Nat → Option (Bool × ByteArray × Int × Int × ByteArray × Int × Int)) : Option (S35 × Nat) → Prop
  | some (x, q) => Ev g (x.f0, x.f1, x.f2, x.f3, s, (q : Int), 0)
  | none => ∃ c t o n p, Ev g (c, t, o, n, s, p, 8)
theorem next_ev (s : ByteArray) (p : Nat) (hs : s.size ≤ 4611686018427387904) (h : p < s.size) : Told s (fun k => snappy_next.f k s (p : Int) 0) (elem s p) := by
  unfold snappy_next.f elem
  rw [byte_ok s p hs h]
  simp only [Option.bind_some]
  have hb := bt_range s (p : Int)
  generalize bt s (p : Int) = t at hb
  rw [wr (n := t) (by omega) (by omega), and3 t hb.1 hb.2]
  have two (n : Nat) (hn : n ≤ 4) (hq : p + 1 + n ≤ s.size) : (s.extract (p + 1) (p + 1 + n)).size = n := by rw [ByteArray.size_extract]; omega
  have lvb (n : Nat) (hn : n ≤ 4) (hq : p + 1 + n ≤ s.size) : 0 ≤ lv (bytesOf (s.extract (p + 1) (p + 1 + n))) ∧ lv (bytesOf (s.extract (p + 1) (p + 1 + n))) < 256 ^ n := by
    have := lv4 (s.extract (p + 1) (p + 1 + n)) (by rw [two n hn hq]; omega) 0
    rwa [List.drop_zero, two n hn hq] at this
  by_cases h1 : t % 4 = 1
  · rw [if_pos h1]
    by_cases hq : p + 1 + 1 ≤ s.size
    · rw [if_pos hq]
      have hl := lvb 1 (by omega) hq
      refine ev_pos h1 (ev_bind (low_ok s (p + 1) 1 hs (by omega) hq) (ev_eq (ev_now _) ?_))
      simp only
      rw [and7 (t / 4) (by omega) (by omega), wr (n := 4 + t / 4 % 8) (by omega) (by omega), wr (n := t / 4 / 8 * 256) (by omega) (by omega), or256 _ _ (by omega) (by omega) hl.1 (by omega), show t / 4 / 8 = t / 32 from by omega]
    · rw [if_neg hq]
      exact ⟨_, _, _, _, _, ev_pos h1 (ev_bind (low_short s (p + 1) 1 hs (by omega) (by omega)) (ev_now _))⟩
  · rw [if_neg h1]
    by_cases h2 : t % 4 = 2
    · rw [if_pos h2]
      by_cases hq : p + 1 + 2 ≤ s.size
      · rw [if_pos hq]
        refine ev_neg h1 (ev_pos h2 (ev_bind (low_ok s (p + 1) 2 hs (by omega) hq) (ev_eq (ev_now _) ?_)))
        simp only
        rw [wr (n := t / 4 + 1) (by omega) (by omega)]
      · rw [if_neg hq]
        exact ⟨_, _, _, _, _, ev_neg h1 (ev_pos h2 (ev_bind (low_short s (p + 1) 2 hs (by omega) (by omega)) (ev_now _)))⟩
    · rw [if_neg h2]
      by_cases h3 : t % 4 = 3
      · rw [if_pos h3]
        by_cases hq : p + 1 + 4 ≤ s.size
        · rw [if_pos hq]
          refine ev_neg h1 (ev_neg h2 (ev_pos h3 (ev_bind (low_ok s (p + 1) 4 hs (by omega) hq) (ev_eq (ev_now _) ?_))))
          simp only
          rw [wr (n := t / 4 + 1) (by omega) (by omega)]
        · rw [if_neg hq]
          exact ⟨_, _, _, _, _, ev_neg h1 (ev_neg h2 (ev_pos h3 (ev_bind (low_short s (p + 1) 4 hs (by omega) (by omega)) (ev_now _))))⟩
      · rw [if_neg h3]
        by_cases h4 : t / 4 ≥ 60
        · rw [if_pos h4]
          have ek : wrap64 ((wrap64 (t / 4 - 60)) + 1) = (((t / 4 - 59).toNat : Nat) : Int) := by
            rw [wr (n := t / 4 - 60) (by omega) (by omega), wr (by omega) (by omega)]
            omega
          have hk : (t / 4 - 59).toNat ≤ 4 := by omega
          rw [ek]
          generalize (t / 4 - 59).toNat = d at hk
          by_cases hq : p + 1 + d ≤ s.size
          · rw [if_pos hq]
            have hl := lvb d hk hq
            have hp := p256 hk
            have low := low_ok s (p + 1) d hs hk hq
            generalize lv (bytesOf (s.extract (p + 1) (p + 1 + d))) = z at hl low
            have ez : wrap64 (z + 1) = ((z.toNat + 1 : Nat) : Int) := by rw [wr (by omega) (by omega)]; omega
            by_cases hr : p + 1 + d + (z.toNat + 1) ≤ s.size
            · rw [if_pos hr]
              refine ev_neg h1 (ev_neg h2 (ev_neg h3 (ev_pos h4 (ev_bind low ?_))))
              simp only
              rw [ez, raw_ok s (p + 1 + d) (z.toNat + 1) hs hr]
              exact ev_some (ev_now _)
            · rw [if_neg hr]
              refine ⟨false, ⟨#[]⟩, 0, 0, ((p + 1 + d : Nat) : Int), ev_neg h1 (ev_neg h2 (ev_neg h3 (ev_pos h4 (ev_bind low ?_))))⟩
              · simp only
                rw [ez, raw_short s (p + 1 + d) (z.toNat + 1) hs hq (by omega)]
                exact ev_some (ev_now _)
          · rw [if_neg hq]
            refine ⟨false, ⟨#[]⟩, 0, 0, ((p + 1 : Nat) : Int), ev_neg h1 (ev_neg h2 (ev_neg h3 (ev_pos h4 (ev_bind (low_short s (p + 1) d hs (by omega) (by omega)) ?_))))⟩
            · simp only
              rw [raw_err]
              exact ev_some (ev_now _)
        · rw [if_neg h4]
          have ek : wrap64 (t / 4 + 1) = (((t / 4 + 1).toNat : Nat) : Int) := by
            rw [wr (n := t / 4 + 1) (by omega) (by omega)]
            omega
          rw [ek]
          by_cases hq : p + 1 + (t / 4 + 1).toNat ≤ s.size
          · rw [if_pos hq]
            refine ev_neg h1 (ev_neg h2 (ev_neg h3 (ev_neg h4 ?_)))
            rw [raw_ok s (p + 1) (t / 4 + 1).toNat hs hq]
            exact ev_some (ev_now _)
          · rw [if_neg hq]
            refine ⟨false, ⟨#[]⟩, 0, 0, ((p + 1 : Nat) : Int), ev_neg h1 (ev_neg h2 (ev_neg h3 (ev_neg h4 ?_)))⟩
            · rw [raw_short s (p + 1) (t / 4 + 1).toNat hs (by omega) (by omega)]
              exact ev_some (ev_now _)
/-- What an element is: its place ahead of the next one's; a copy, or a literal. -/
theorem elem_ok (s : ByteArray) (p : Nat) (h : p < s.size) (x : S35) (q : Nat) (he : elem s p = some (x, q)) : p + 1 < q + 1 ∧ p + 1 < q ∧ q ≤ s.size ∧
    ((x.f0 = true ∧ x.f1 = ⟨#[]⟩ ∧ 0 ≤ x.f2 ∧ x.f2 < 4294967296 ∧ 1 ≤ x.f3 ∧ x.f3 ≤ 64) ∨ (x.f0 = false ∧ 1 ≤ x.f1.size ∧ x.f1.size ≤ s.size ∧ x.f2 = 0 ∧ x.f3 = 0)) := by
  unfold elem at he
  have hb := bt_range s (p : Int)
  generalize bt s (p : Int) = t at hb he
  have two (n : Nat) (hn : n ≤ 4) (hq : p + 1 + n ≤ s.size) : (s.extract (p + 1) (p + 1 + n)).size = n := by rw [ByteArray.size_extract]; omega
  have lvb (n : Nat) (hn : n ≤ 4) (hq : p + 1 + n ≤ s.size) : 0 ≤ lv (bytesOf (s.extract (p + 1) (p + 1 + n))) ∧ lv (bytesOf (s.extract (p + 1) (p + 1 + n))) < 256 ^ n := by
    have := lv4 (s.extract (p + 1) (p + 1 + n)) (by rw [two n hn hq]; omega) 0
    rwa [List.drop_zero, two n hn hq] at this
  split at he
  · split at he
    · cases he
      have := lvb 1 (by omega) (by omega)
      exact ⟨by omega, by omega, by omega, Or.inl ⟨rfl, rfl, by simp only; omega, by simp only; omega, by simp only; omega, by simp only; omega⟩⟩
    · cases he
  · split at he
    · split at he
      · cases he
        have := lvb 2 (by omega) (by omega)
        have := p256 (i := 2) (by omega)
        exact ⟨by omega, by omega, by omega, Or.inl ⟨rfl, rfl, by simp only; omega, by simp only; omega, by simp only; omega, by simp only; omega⟩⟩
      · cases he
    · split at he
      · split at he
        · cases he
          have := lvb 4 (by omega) (by omega)
          have := p256 (i := 4) (by omega)
          exact ⟨by omega, by omega, by omega, Or.inl ⟨rfl, rfl, by simp only; omega, by simp only; omega, by simp only; omega, by simp only; omega⟩⟩
        · cases he
      · split at he
        · split at he
          · split at he
            · cases he
              refine ⟨by omega, by omega, by omega, Or.inr ⟨rfl, ?_, ?_, rfl, rfl⟩⟩ <;> rw [ByteArray.size_extract] <;> omega
            · cases he
          · cases he
        · split at he
          · cases he
            refine ⟨by omega, by omega, by omega, Or.inr ⟨rfl, ?_, ?_, rfl, rfl⟩⟩ <;> rw [ByteArray.size_extract] <;> omega
          · cases he
/-- The number from byte i on: it, where it ends, and 0; or what is wrong. -/
def uv (s : ByteArray) : Nat → Nat → Int → Int × Int × Int
  | 0, _, _ => (0, 0, 4)
  | f + 1, i, acc => if i = s.size then (0, 0, 8) else if i = 9 ∧ bt s (i : Int) > 1 then (0, 0, 4)
    else if bt s (i : Int) < 128 then (acc + bt s (i : Int) * 2 ^ (7 * i), (i : Int) + 1, 0) else uv s f (i + 1) (acc + (bt s (i : Int) - 128) * 2 ^ (7 * i))
theorem andNot128 (m : Nat) (h : m < 256) : 128 ≤ m → Go.bits .andNot .u64 (m : Int) 128 = (m : Int) - 128 := by
  have : ∀ m : Fin 256, 128 ≤ m.val → Go.bits .andNot .u64 (m.val : Int) 128 = (m.val : Int) - 128 := by decide +kernel
  exact this ⟨m, h⟩
theorem or_up (i : Nat) (acc c : Int) (h0 : 0 ≤ acc) (h1 : acc < 2 ^ (7 * i)) (c0 : 0 ≤ c) (hc : c * 2 ^ (7 * i) < 2 ^ 64) (hi : i ≤ 9) :
    Go.bits .or .u64 acc (shl .u64 c (7 * i)) = acc + c * 2 ^ (7 * i) := by
  have hp : (0 : Int) < 2 ^ (7 * i) := Int.pow_pos (by decide)
  have hpn : (2 : Int) ^ (7 * i) ≤ 2 ^ 63 := by
    have : (2 : Nat) ^ (7 * i) ≤ 2 ^ 63 := Nat.pow_le_pow_right (by decide) (by omega)
    exact_mod_cast this
  have hc0 : 0 ≤ c * 2 ^ (7 * i) := Int.mul_nonneg c0 (by omega)
  have e : shl .u64 c (7 * i) = c * 2 ^ (7 * i) := by
    unfold shl
    rw [show (7 * (i : Int)).toNat = 7 * i from by omega, show IntKind.u64.bits = 64 from rfl, Nat.min_eq_left (by omega)]
    exact u64w _ hc0 hc
  rw [e]
  have hmul : c * 2 ^ (7 * i) % 2 ^ (7 * i) = 0 := Int.mul_emod_left _ _
  generalize hy : c * 2 ^ (7 * i) = y at *
  obtain ⟨a, rfl⟩ := Int.eq_ofNat_of_zero_le h0
  obtain ⟨b, rfl⟩ := Int.eq_ofNat_of_zero_le hc0
  have hn := bits_nat .u64 64 (by decide) u64w
  have comm : Go.bits .or .u64 (a : Int) (b : Int) = Go.bits .or .u64 (b : Int) (a : Int) := by
    rw [(hn a b (by omega) (by omega)).2, (hn b a (by omega) (by omega)).2, Nat.or_comm]
  rw [comm, bits_join .u64 64 (by decide) u64w (7 * i) _ _ hc0 hmul hc h0 h1 (by omega)]
  omega
theorem uv_ev (s : ByteArray) (hs : s.size ≤ 4611686018427387904) : ∀ (f i : Nat) (acc : Int), f + i = 10 → i ≤ s.size → 0 ≤ acc → acc < 2 ^ (7 * i) → i ≤ 9 →
    Ev (fun k => bits_Uvarint.l0 k s 0 acc (i : Int)) (uv s f i acc) := by
  intro f
  induction f with
  | zero => intro i acc h; omega
  | succ f ih =>
    intro i acc hf hi h0 h1 h9
    refine ev_step (fun k => rfl) ?_
    simp only [bits_Uvarint.l0]
    rw [show wrap64 (0 + (i : Int)) = (i : Int) from by rw [wr (by omega) (by omega)]; omega]
    unfold uv
    have hb := bt_range s (i : Int)
    have hm := andNot128 (bt s (i : Int)).toNat (by omega)
    rw [show (((bt s (i : Int)).toNat : Nat) : Int) = bt s (i : Int) from by omega] at hm
    by_cases c1 : i = s.size
    · rw [if_pos c1]
      exact ev_pos (by omega) (ev_now _)
    · rw [if_neg c1]
      refine ev_neg (by omega) (ev_pos (by omega) (ev_pos (by omega) ?_))
      rw [show IntKind.u64.wrap (bt s (i : Int)) = bt s (i : Int) from u64w _ (by omega) (by omega)]
      generalize bt s (i : Int) = b at hb hm
      have main : ∀ bad : Bool, (bad = true ↔ i = 9 ∧ b > 1) → Ev (fun k => bits_Uvarint.j2 k s 0 acc (i : Int) b bad) (if i = 9 ∧ b > 1 then (0, 0, 4) else if b < 128 then (acc + b * 2 ^ (7 * i), (i : Int) + 1, 0) else uv s f (i + 1) (acc + (b - 128) * 2 ^ (7 * i))) := by
        intro bad hbad
        refine ev_step (fun k => rfl) ?_
        simp only [bits_Uvarint.j2]
        by_cases c2 : i = 9 ∧ b > 1
        · rw [if_pos c2]
          exact ev_pos (hbad.2 c2) (ev_now _)
        · rw [if_neg c2]
          refine ev_neg (fun e => c2 (hbad.1 e)) ?_
          have hp : (0 : Int) < 2 ^ (7 * i) := Int.pow_pos (by decide)
          rw [show wrap64 (7 * (i : Int)) = 7 * (i : Int) from wr (by omega) (by omega), show wrap64 (0 + (i : Int)) = (i : Int) from by rw [wr (by omega) (by omega)]; omega, wr (n := (i : Int) + 1) (by omega) (by omega)]
          have big : b * 2 ^ (7 * i) < 2 ^ 64 := by
            by_cases hi9 : i = 9
            · subst hi9
              have : b ≤ 1 := by
                by_cases hb1 : b > 1
                · exact absurd ⟨rfl, hb1⟩ c2
                · omega
              have e63 : (2 : Int) ^ (7 * 9) = 9223372036854775808 := by decide
              rw [e63]
              omega
            · have : (2 : Nat) ^ (7 * i) ≤ 2 ^ 56 := Nat.pow_le_pow_right (by decide) (by omega)
              have h56 : (2 : Int) ^ (7 * i) ≤ 2 ^ 56 := by exact_mod_cast this
              have : b * 2 ^ (7 * i) ≤ 255 * 2 ^ (7 * i) := Int.mul_le_mul_of_nonneg_right hb.2 (by omega)
              omega
          by_cases c3 : b < 128
          · rw [if_pos c3]
            refine ev_pos c3 (ev_pos (by omega) (ev_eq (ev_now _) ?_))
            rw [or_up i acc b h0 h1 hb.1 big h9]
          · rw [if_neg c3]
            have hi8 : i ≤ 8 := by
              by_cases hi9 : i = 9
              · exact absurd ⟨hi9, by omega⟩ c2
              · omega
            have e7 : (2 : Int) ^ (7 * (i + 1)) = 128 * 2 ^ (7 * i) := by
              rw [Nat.mul_add, Int.pow_add]
              omega
            refine ev_neg c3 (ev_pos (by omega) ?_)
            rw [hm (by omega), or_up i acc (b - 128) h0 h1 (by omega) (by rw [Int.sub_mul]; omega) h9]
            have hm2 : (b - 128) * 2 ^ (7 * i) ≤ 127 * 2 ^ (7 * i) := Int.mul_le_mul_of_nonneg_right (by omega) (by omega)
            have hm3 : 0 ≤ (b - 128) * 2 ^ (7 * i) := Int.mul_nonneg (by omega) (by omega)
            exact ih (i + 1) _ (by omega) (by omega) (by omega) (by omega) (by omega)
      by_cases c4 : i = 9
      · exact ev_pos (by omega) (main _ (by simp [c4]))
      · exact ev_neg (by omega) (main _ (by simp [c4]))
/-- A block's length: it, where it ends, and 0; or what is wrong. -/
def ln (s : ByteArray) : Int × Int × Int := uv s 10 0 0
theorem uvarint_ev (s : ByteArray) (hs : s.size ≤ 4611686018427387904) : Ev (fun k => bits_Uvarint.f k s 0) (ln s) := by
  unfold bits_Uvarint.f
  refine ev_neg (by omega) (ev_step (fun k => rfl) ?_)
  simp only [bits_Uvarint.j0]
  rw [decide_eq_false (by omega)]
  exact ev_neg (by simp) (uv_ev s hs 10 0 0 (by omega) (by omega) (by omega) (by decide) (by omega))
theorem uv_at (s : ByteArray) : ∀ (f i : Nat) (acc : Int), i ≤ s.size → (uv s f i acc).2.2 = 0 → ∃ q : Nat, (uv s f i acc).2.1 = (q : Int) ∧ i < q ∧ q ≤ s.size
  | 0, i, acc, hi, h => by simp [uv] at h
  | f + 1, i, acc, hi, h => by
    unfold uv at h ⊢
    split at h
    · simp at h
    · rename_i c1
      rw [if_neg c1]
      split at h
      · simp at h
      · rename_i c2
        rw [if_neg c2]
        split at h
        · rename_i c3
          rw [if_pos c3]
          exact ⟨i + 1, by simp, by omega, by omega⟩
        · rename_i c3
          rw [if_neg c3]
          obtain ⟨q, e, h1, h2⟩ := uv_at s f (i + 1) _ (by omega) h
          exact ⟨q, e, by omega, h2⟩
theorem uv_pos (s : ByteArray) : ∀ (f i : Nat) (acc : Int), 0 ≤ acc → 0 ≤ (uv s f i acc).1
  | 0, i, acc, h => by simp [uv]
  | f + 1, i, acc, h => by
    have hb := bt_range s (i : Int)
    have hp : (0 : Int) < 2 ^ (7 * i) := Int.pow_pos (by decide)
    unfold uv
    split
    · simp
    · split
      · simp
      · split
        · have := Int.mul_nonneg hb.1 (Int.le_of_lt hp)
          simp only
          omega
        · have := Int.mul_nonneg (show 0 ≤ bt s (i : Int) - 128 by omega) (Int.le_of_lt hp)
          exact uv_pos s f (i + 1) _ (by omega)
theorem ln_at (s : ByteArray) (h : (ln s).2.2 = 0) : ∃ q : Nat, (ln s).2.1 = (q : Int) ∧ 0 < q ∧ q ≤ s.size := uv_at s 10 0 0 (by omega) h
theorem ln_pos (s : ByteArray) : 0 ≤ (ln s).1 := uv_pos s 10 0 0 (by omega)
/-- How many bytes a block says that it stands for. -/
def sz (s : ByteArray) : Int × Int := if (ln s).2.2 = 0 then (if (ln s).1 ≥ 4294967296 then (0, 4) else ((ln s).1, 0)) else (0, (ln s).2.2)
theorem size_ev (s : ByteArray) (hs : s.size ≤ 4611686018427387904) : Ev (fun k => snappy_Size.f k s) (sz s) := by
  unfold snappy_Size.f sz
  refine ev_bind (uvarint_ev s hs) ?_
  by_cases h : (ln s).2.2 = 0
  · by_cases h2 : (ln s).1 ≥ 4294967296
    · exact ev_pos h (ev_pos h2 (ev_eq (ev_now _) (by rw [if_pos h, if_pos h2])))
    · exact ev_pos h (ev_neg h2 (ev_eq (ev_now _) (by rw [if_pos h, if_neg h2])))
  · exact ev_neg h (ev_eq (ev_now _) (by rw [if_neg h]))
theorem varint_ev (s : ByteArray) (hs : s.size ≤ 4611686018427387904) (h : (ln s).2.2 = 0) (h2 : (ln s).1 < 4294967296) : Ev (fun k => bits_Reader_Varint.f k s 0 0 4294967296) ((ln s).1, s, (ln s).2.1, 0) := by
  unfold bits_Reader_Varint.f bits_Reader_good.f
  refine ev_some (ev_pos rfl (ev_bind (uvarint_ev s hs) (ev_pos h (ev_step (fun k => rfl) ?_))))
  simp only [bits_Reader_Varint.j0]
  rw [decide_eq_false (by omega)]
  refine ev_neg (by simp) ?_
  unfold bits_Reader_take.f
  rw [if_pos h]
  exact ev_some (ev_pos rfl (ev_now _))
/-- May a part not stand behind these bytes, with so many bytes said? -/
def stepBad (x : S35) (X : ByteArray) (size : Int) : Bool := decide ((x.f0 = true ∧ (x.f2 < 1 ∨ x.f2 > (X.size : Int))) ∨ (X.size : Int) + (x.f1.size : Int) + x.f3 > size)
def dcl (s : ByteArray) (size : Int) : Nat → Nat → ByteArray → ByteArray × Int
  | 0, _, _ => (⟨#[]⟩, 4)
  | f + 1, p, X =>
    if p < s.size then (match elem s p with
      | none => (⟨#[]⟩, 8)
      | some (x, q) => if stepBad x X size = true then (⟨#[]⟩, 4) else dcl s size f q (ext x X))
    else if (X.size : Int) < size then (⟨#[]⟩, 4) else (X, 0)
theorem step_size (x : S35) (X : ByteArray) (size : Int) (n : Nat) (hx : (x.f0 = true ∧ x.f1 = ⟨#[]⟩ ∧ 0 ≤ x.f2 ∧ x.f2 < 4294967296 ∧ 1 ≤ x.f3 ∧ x.f3 ≤ 64) ∨ (x.f0 = false ∧ 1 ≤ x.f1.size ∧ x.f1.size ≤ n ∧ x.f2 = 0 ∧ x.f3 = 0))
    (h : stepBad x X size ≠ true) : ((ext x X).size : Int) = (X.size : Int) + (x.f1.size : Int) + x.f3 ∧ ((ext x X).size : Int) ≤ size ∧ X.size < (ext x X).size := by
  unfold stepBad at h
  rw [ne_eq, decide_eq_true_eq] at h
  unfold ext
  rcases hx with ⟨h0, h1, h2, h3, h4, h5⟩ | ⟨h0, h1, h2, h3, h4⟩
  · rw [h1, show X ++ (⟨#[]⟩ : ByteArray) = X from ByteArray.append_empty, cp_size _ (by simp [h0] at h; omega) _ _ (by simp [h0] at h; omega)]
    have hz : (⟨#[]⟩ : ByteArray).size = 0 := rfl
    rw [hz]
    rw [h1, hz] at h
    omega
  · rw [h3, h4, show cp (X ++ x.f1) (0 : Int).toNat (0 : Int).toNat = X ++ x.f1 from rfl, ByteArray.size_append]
    omega
theorem dec_loop (s : ByteArray) (size : Int) (hs : s.size ≤ 1000000000000) (h0 : 0 ≤ size) (h1 : size < 4294967296) : ∀ (f p : Nat) (X : ByteArray), p ≤ s.size → s.size < f + p → (X.size : Int) ≤ size →
    Ev (fun k => snappy_Decode.l0 k size (bytesOf X) s (p : Int) 0) (dcl s size f p X) := by
  intro f
  induction f with
  | zero => intro p X h2 h3; omega
  | succ f ih =>
    intro p X h2 h3 h4
    refine ev_step (fun k => rfl) ?_
    simp only [snappy_Decode.l0]
    unfold dcl bits_Reader_Left.f
    refine ev_some ?_
    rw [wr (n := (s.size : Int) - p) (by omega) (by omega), wr (n := size) (by omega) (by omega), bytesOf_length]
    by_cases hp : p < s.size
    · rw [if_pos hp]
      refine ev_pos (by omega) ?_
      have hn := next_ev s p (by omega) hp
      have hok := elem_ok s p hp
      generalize he : elem s p = r at hn hok
      match r, hn, hok with
      | none, hn, _ =>
        obtain ⟨c, t, o, n, q, hn⟩ := hn
        refine ev_bind hn ?_
        unfold bits_Reader_Err.f
        exact ev_some (ev_neg (by simp) (ev_now _))
      | some (x, q), hn, hok =>
        obtain ⟨_, g1, g2, g3⟩ := hok x q rfl
        refine ev_bind hn ?_
        unfold bits_Reader_Err.f
        refine ev_some (ev_pos rfl ?_)
        simp only
        have hst := step_size x X size s.size g3
        have hbad : stepBad x X size = true ↔ (x.f0 = true ∧ (x.f2 < 1 ∨ x.f2 > (X.size : Int))) ∨ (X.size : Int) + (x.f1.size : Int) + x.f3 > size := by unfold stepBad; rw [decide_eq_true_eq]
        by_cases hb : (x.f1.size : Int) > 65536
        · have hlit : x.f0 = false ∧ x.f2 = 0 ∧ x.f3 = 0 := by
            rcases g3 with ⟨_, e, _⟩ | ⟨e0, _, _, e2, e3⟩
            · rw [e] at hb
              have : (⟨#[]⟩ : ByteArray).size = 0 := rfl
              omega
            · exact ⟨e0, e2, e3⟩
          refine ev_pos hb ?_
          rw [wr (n := size - (X.size : Int)) (by omega) (by omega)]
          by_cases hc : (x.f1.size : Int) > size - (X.size : Int)
          · rw [if_pos (hbad.2 (Or.inr (by omega)))]
            exact ev_pos hc (ev_now _)
          · have hnb : ¬ stepBad x X size = true := fun e => by
              rcases hbad.1 e with ⟨e, _⟩ | e
              · rw [hlit.1] at e; cases e
              · omega
            rw [if_neg hnb]
            refine ev_neg hc (ev_pos (by omega) ?_)
            have := ih q (ext x X) (by omega) (by omega) (hst hnb).2.1
            rw [← bytes_app]
            rw [show X ++ x.f1 = ext x X from by unfold ext; rw [hlit.2.1, hlit.2.2]; rfl]
            exact this
        · refine ev_neg hb (ev_bind (add_ev x X size (by omega)) ?_)
          have hmay : badB x X = true ↔ (x.f0 = true ∧ (x.f2 < 1 ∨ x.f2 > (X.size : Int))) := by
            have hz : (⟨#[]⟩ : ByteArray).size = 0 := rfl
            rcases g3 with ⟨e0, e1, e2, e3, e4, e5⟩ | ⟨e0, e1, e2, e3, e4⟩
            · unfold badB mayB
              simp only [e0, e1, hz]
              simp
              omega
            · have hmy : mayB x = true := by
                obtain ⟨b, t, o, n⟩ := x
                exact (mayB_iff _ _ _ _).2 (Or.inr ⟨e0, e1, by simp only at hb; omega, e3, e4⟩)
              unfold badB
              rw [hmy, e0]
              simp
          have hadd : ¬ (x.f0 = true ∧ (x.f2 < 1 ∨ x.f2 > (X.size : Int))) → (addN x = (x.f1.size : Int) + x.f3) := by
            intro _
            unfold addN
            have hz : (⟨#[]⟩ : ByteArray).size = 0 := rfl
            rcases g3 with ⟨e0, e1, e2, e3, e4, e5⟩ | ⟨e0, e1, e2, e3, e4⟩
            · rw [e0, e1, hz]; simp
            · rw [e0, e4]; simp
          by_cases hm : badB x X = true
          · rw [if_pos hm, if_pos (hbad.2 (Or.inl (hmay.1 hm)))]
            exact ev_neg (by simp) (ev_now _)
          · rw [if_neg hm, wr (n := size - (X.size : Int)) (by omega) (by omega)]
            have ha := hadd (fun e => hm (hmay.2 e))
            by_cases hc : addN x > size - (X.size : Int)
            · rw [if_pos hc, if_pos (hbad.2 (Or.inr (by omega)))]
              exact ev_neg (by simp) (ev_now _)
            · rw [if_neg hc]
              have hnb : ¬ stepBad x X size = true := fun e => by
                rcases hbad.1 e with e | e
                · exact hm (hmay.2 e)
                · omega
              rw [if_neg hnb]
              exact ev_pos rfl (ih q (ext x X) (by omega) (by omega) (hst hnb).2.1)
    · rw [if_neg hp]
      refine ev_neg (by omega) ?_
      by_cases hc : (X.size : Int) < size
      · exact ev_pos hc (ev_eq (ev_now _) (by rw [if_pos hc]))
      · exact ev_neg hc (ev_eq (ev_now _) (by rw [if_neg hc, str_bytes]))
/-- What a block stands for, with so many bytes at most. -/
def dec (s : ByteArray) (most : Int) : ByteArray × Int :=
  if (sz s).2 = 0 then (if most < 0 then (⟨#[]⟩, 40) else if (sz s).1 > most then (⟨#[]⟩, 40) else dcl s (sz s).1 (s.size + 1) (ln s).2.1.toNat ⟨#[]⟩) else (⟨#[]⟩, (sz s).2)
theorem sz_ok (s : ByteArray) (h : (sz s).2 = 0) : (ln s).2.2 = 0 ∧ (ln s).1 < 4294967296 ∧ (sz s).1 = (ln s).1 := by
  unfold sz at h ⊢
  split at h
  · rename_i h1
    rw [if_pos h1]
    split at h
    · simp at h
    · rename_i h2
      rw [if_neg h2]
      exact ⟨h1, by omega, rfl⟩
  · rename_i h1
    exact absurd h h1
theorem decode_ev (s : ByteArray) (most : Int) (hs : s.size ≤ 1000000000000) (hm : most ≤ 9223372036854775807) : Ev (fun k => snappy_Decode.f k s most) (dec s most) := by
  unfold snappy_Decode.f dec
  refine ev_bind (size_ev s (by omega)) ?_
  by_cases h : (sz s).2 = 0
  · rw [if_pos h]
    refine ev_pos h ?_
    by_cases h1 : most < 0
    · rw [if_pos h1]
      exact ev_pos h1 (ev_now _)
    · rw [if_neg h1]
      refine ev_neg h1 ?_
      rw [show IntKind.u64.wrap most = most from u64w _ (by omega) (by omega)]
      by_cases h2 : (sz s).1 > most
      · rw [if_pos h2]
        exact ev_pos h2 (ev_now _)
      · rw [if_neg h2]
        obtain ⟨g1, g2, g3⟩ := sz_ok s h
        obtain ⟨q, e, q0, q1⟩ := ln_at s g1
        have hp := ln_pos s
        refine ev_neg h2 ?_
        unfold bits_New.f
        refine ev_some (ev_bind (varint_ev s (by omega) g1 g2) ?_)
        simp only
        rw [e, Int.toNat_natCast, ← bytes_nil]
        exact dec_loop s (sz s).1 hs (by omega) (by omega) (s.size + 1) q ⟨#[]⟩ q1 (by omega) (by show ((0 : Nat) : Int) ≤ _; omega)
  · rw [if_neg h]
    exact ev_neg h (ev_now _)
theorem bytes_ext (b : ByteArray) (i j : Nat) : bytesOf (b.extract i j) = ((bytesOf b).drop i).take (j - i) := by
  unfold bytesOf
  rw [ByteArray.data_extract, Array.toList_extract, ← List.map_drop, ← List.map_take]
theorem bytes_inj {X Y : ByteArray} (h : bytesOf X = bytesOf Y) : X = Y := by rw [← str_bytes X, h, str_bytes]
theorem bt_in (b : ByteArray) (pre : List Int) (c : Int) (post : List Int) (h : bytesOf b = pre ++ c :: post) : bt b (pre.length : Int) = c := by
  rw [← rd_bytesOf, h]
  unfold rd
  rw [Int.toNat_natCast]
  simp [List.getD]
theorem ext_in (b : ByteArray) (pre m post : List Int) (n : Nat) (h : bytesOf b = pre ++ (m ++ post)) (hn : m.length = n) : bytesOf (b.extract pre.length (pre.length + n)) = m := by
  rw [bytes_ext, h, List.drop_left, show pre.length + n - pre.length = m.length from by omega, List.take_left]
theorem lv_numb : ∀ (d : Nat) (n : Int), 0 ≤ n → n < 256 ^ d → lv (numb n d) = n
  | 0, n, h0, h1 => by simp at h1; simp [numb, lv]; omega
  | d + 1, n, h0, h1 => by
    rw [numb, lv, lv_numb d (n / 256) (by omega) (by rw [Int.pow_succ] at h1; omega)]
    omega
theorem elem_wl (b : ByteArray) (x : S35) (pre post : List Int) (hm : mayB x = true) (h : bytesOf b = pre ++ (wl x ++ post)) : elem b pre.length = some (x, pre.length + (wl x).length) := by
  obtain ⟨c, t, o, n⟩ := x
  rw [mayB_iff] at hm
  have hz : b.size = pre.length + ((wl ⟨c, t, o, n⟩).length + post.length) := by rw [← bytesOf_length, h, List.length_append, List.length_append]
  have one (y : Int) (ys m post' : List Int) (k : Nat) (hw : bytesOf b = pre ++ y :: (m ++ post')) (hk : m.length = k) : bt b (pre.length : Int) = y ∧ bytesOf (b.extract (pre.length + 1) (pre.length + 1 + k)) = m := by
    refine ⟨bt_in b pre y _ hw, ?_⟩
    have := ext_in b (pre ++ [y]) m post' k (by rw [hw]; simp) hk
    rwa [List.length_append, List.length_singleton] at this
  unfold elem
  rcases hm with ⟨rfl, h1, h2, h3, h4, h5⟩ | ⟨rfl, h1, h2, rfl, rfl⟩
  · have ht : t = ⟨#[]⟩ := ByteArray.size_eq_zero_iff.1 h1
    subst ht
    by_cases c1 : 4 ≤ n ∧ n ≤ 11 ∧ o < 2048
    · have hw : wl ⟨true, ⟨#[]⟩, o, n⟩ = [o / 256 * 32 + (n - 4) * 4 + 1, o % 256] := by unfold wl; rw [if_pos rfl, if_pos c1]
      rw [hw] at h hz ⊢
      obtain ⟨e1, e2⟩ := one _ [] [o % 256] post 1 h rfl
      simp only [List.length_cons, List.length_nil] at hz ⊢
      rw [e1, if_pos (by omega), if_pos (by omega), e2]
      congr 2
      rw [lv, lv]
      congr 1 <;> omega
    · by_cases c2 : o < 65536
      · have hw : wl ⟨true, ⟨#[]⟩, o, n⟩ = ((n - 1) * 4 + 2) :: numb o 2 := by unfold wl; rw [if_pos rfl, if_neg c1, if_pos c2]
        rw [hw] at h hz ⊢
        obtain ⟨e1, e2⟩ := one _ [] (numb o 2) post 2 h (numb_len 2 o)
        simp only [List.length_cons, numb_len] at hz ⊢
        rw [e1, if_neg (by omega), if_pos (by omega), if_pos (by omega), e2, lv_numb 2 o (by omega) (by omega)]
        congr 2
        congr 1
        omega
      · have hw : wl ⟨true, ⟨#[]⟩, o, n⟩ = ((n - 1) * 4 + 3) :: numb o 4 := by unfold wl; rw [if_pos rfl, if_neg c1, if_neg c2]
        rw [hw] at h hz ⊢
        obtain ⟨e1, e2⟩ := one _ [] (numb o 4) post 4 h (numb_len 4 o)
        simp only [List.length_cons, numb_len] at hz ⊢
        rw [e1, if_neg (by omega), if_neg (by omega), if_pos (by omega), if_pos (by omega), e2, lv_numb 4 o (by omega) (by omega)]
        congr 2
        congr 1
        omega
  · have hbl := bytesOf_length t
    by_cases c1 : t.size ≤ 60
    · have hw : wl ⟨false, t, 0, 0⟩ = (((t.size : Int) - 1) * 4) :: bytesOf t := by unfold wl; simp only [Bool.false_eq_true, if_false]; rw [if_pos c1]; rfl
      rw [hw] at h hz ⊢
      obtain ⟨e1, e2⟩ := one _ [] (bytesOf t) post t.size h hbl
      simp only [List.length_cons, hbl] at hz ⊢
      have ek : (((t.size : Int) - 1) * 4 / 4 + 1).toNat = t.size := by omega
      rw [e1, if_neg (by omega), if_neg (by omega), if_neg (by omega), if_neg (by omega), ek, if_pos (by omega), bytes_inj e2]
      congr 2
      omega
    · have deep (k : Nat) (y : Int) (m : List Int) (hk : m.length = k) (hw : bytesOf b = pre ++ y :: (m ++ (bytesOf t ++ post))) : bytesOf (b.extract (pre.length + 1 + k) (pre.length + 1 + k + t.size)) = bytesOf t := by
        have := ext_in b (pre ++ y :: m) (bytesOf t) post t.size (by rw [hw]; simp) hbl
        rw [List.length_append, List.length_cons, hk, show pre.length + (k + 1) = pre.length + 1 + k from by omega] at this
        exact this
      by_cases c2 : t.size ≤ 256
      · have hw : wl ⟨false, t, 0, 0⟩ = 240 :: (numb ((t.size : Int) - 1) 1 ++ bytesOf t) := by unfold wl; simp only [Bool.false_eq_true, if_false]; rw [if_neg c1, if_pos c2]; rfl
        rw [hw] at h hz ⊢
        have h' : bytesOf b = pre ++ 240 :: (numb ((t.size : Int) - 1) 1 ++ (bytesOf t ++ post)) := by rw [h]; simp
        obtain ⟨e1, e2⟩ := one _ [] (numb ((t.size : Int) - 1) 1) (bytesOf t ++ post) 1 h' (numb_len 1 _)
        have e3 := deep 1 _ _ (numb_len 1 _) h'
        simp only [List.length_cons, List.length_append, numb_len, hbl] at hz ⊢
        rw [e1, if_neg (by decide), if_neg (by decide), if_neg (by decide), if_pos (by decide), show ((240 : Int) / 4 - 59).toNat = 1 from by decide, e2, lv_numb 1 _ (by omega) (by omega), show ((t.size : Int) - 1).toNat + 1 = t.size from by omega, if_pos (by omega), if_pos (by omega), bytes_inj e3]
        congr 2
        omega
      · have hw : wl ⟨false, t, 0, 0⟩ = 244 :: (numb ((t.size : Int) - 1) 2 ++ bytesOf t) := by unfold wl; simp only [Bool.false_eq_true, if_false]; rw [if_neg c1, if_neg c2]; rfl
        rw [hw] at h hz ⊢
        have h' : bytesOf b = pre ++ 244 :: (numb ((t.size : Int) - 1) 2 ++ (bytesOf t ++ post)) := by rw [h]; simp
        obtain ⟨e1, e2⟩ := one _ [] (numb ((t.size : Int) - 1) 2) (bytesOf t ++ post) 2 h' (numb_len 2 _)
        have e3 := deep 2 _ _ (numb_len 2 _) h'
        simp only [List.length_cons, List.length_append, numb_len, hbl] at hz ⊢
        rw [e1, if_neg (by decide), if_neg (by decide), if_neg (by decide), if_pos (by decide), show ((244 : Int) / 4 - 59).toNat = 2 from by decide, e2, lv_numb 2 _ (by omega) (by omega), show ((t.size : Int) - 1).toNat + 1 = t.size from by omega, if_pos (by omega), if_pos (by omega), bytes_inj e3]
        congr 2
        omega
theorem wl_pos (x : S35) : 1 ≤ (wl x).length := by
  unfold wl
  split
  · split
    · simp
    · split <;> simp
  · rw [List.length_append]
    split
    · simp only [List.length_cons]; omega
    · split <;> simp only [List.length_cons] <;> omega
theorem exq_grows (most : Int) (h0 : 0 ≤ most) (h1 : most ≤ 65536) : ∀ (L : List S35) (X T : ByteArray), (X.size : Int) ≤ most → exq L X most = (T, 0) → X.size ≤ T.size
  | [], X, T, hX, h => by
    simp only [exq, Prod.mk.injEq] at h
    rw [h.1]
    exact Nat.le_refl _
  | x :: L, X, T, hX, h => by
    unfold exq at h
    split at h
    · simp at h
    · split at h
      · simp at h
      · rename_i hb ha
        have hz := ext_size2 x X (by simpa using hb)
        rw [wr (n := most - (X.size : Int)) (by omega) (by omega)] at ha
        have ha0 : 0 ≤ addN x := by
          have hb' : badB x X = false := by simpa using hb
          unfold badB at hb'
          simp only [Bool.or_eq_false_iff, Bool.not_eq_false'] at hb'
          have hm := hb'.1
          obtain ⟨c, t, o, n⟩ := x
          rw [mayB_iff] at hm
          unfold addN
          simp only
          split <;> omega
        have := exq_grows most h0 h1 L (ext x X) T (by omega) h
        omega
theorem dcl_list (b : ByteArray) (T : ByteArray) : ∀ (L : List S35) (X : ByteArray) (pre : List Int) (f : Nat), bytesOf b = pre ++ L.flatMap wl → b.size < f + pre.length → (X.size : Int) ≤ 65536 → exq L X 65536 = (T, 0) →
    dcl b (T.size : Int) f pre.length X = (T, 0)
  | L, X, pre, 0, hb, hf, hX, h => by
    have : b.size = pre.length + (L.flatMap wl).length := by rw [← bytesOf_length, hb, List.length_append]
    omega
  | [], X, pre, f + 1, hb, hf, hX, h => by
    have hz : b.size = pre.length := by rw [← bytesOf_length, hb]; simp
    simp only [exq, Prod.mk.injEq] at h
    obtain ⟨rfl, _⟩ := h
    unfold dcl
    rw [if_neg (by omega), if_neg (by omega)]
  | x :: L, X, pre, f + 1, hb, hf, hX, h => by
    have hz : b.size = pre.length + ((wl x).length + (L.flatMap wl).length) := by rw [← bytesOf_length, hb, List.length_append, List.flatMap_cons, List.length_append]
    have hp := wl_pos x
    unfold exq at h
    split at h
    · simp at h
    · split at h
      · simp at h
      · rename_i hbad ha
        have hbad' : badB x X = false := by simpa using hbad
        have hz2 := ext_size2 x X hbad'
        rw [wr (n := 65536 - (X.size : Int)) (by omega) (by omega)] at ha
        have hgr := exq_grows 65536 (by omega) (by omega) L (ext x X) T (by omega) h
        unfold badB at hbad'
        simp only [Bool.or_eq_false_iff, Bool.not_eq_false'] at hbad'
        obtain ⟨hm, hoff⟩ := hbad'
        have hel := elem_wl b x pre (L.flatMap wl) hm (by rw [hb, List.flatMap_cons])
        have hst : ¬ stepBad x X (T.size : Int) = true := by
          unfold stepBad
          rw [decide_eq_true_eq]
          obtain ⟨c, t, o, n⟩ := x
          rw [mayB_iff] at hm
          unfold addN at hz2
          simp only [Bool.and_eq_false_iff, decide_eq_false_iff_not] at hoff
          simp only at hz2 ⊢
          rcases hm with ⟨rfl, g1, g2, g3, g4, g5⟩ | ⟨rfl, g1, g2, rfl, rfl⟩
          · simp at hoff hz2 ⊢
            omega
          · simp at hz2 ⊢
            omega
        unfold dcl
        rw [if_pos (by omega), hel]
        simp only
        rw [if_neg hst]
        have := dcl_list b T L (ext x X) (pre ++ wl x) f (by rw [hb, List.flatMap_cons, List.append_assoc]) (by rw [List.length_append]; omega) (by omega) h
        rw [List.length_append] at this
        exact this
theorem uv_vb (b : ByteArray) : ∀ (f i : Nat) (n acc : Int) (pre post : List Int), f + i = 8 → pre.length = i → 0 ≤ n → n < 128 * 128 ^ f → bytesOf b = pre ++ (vb f n ++ post) →
    uv b (10 - i) i acc = (acc + n * 2 ^ (7 * i), ((i + (vb f n).length : Nat) : Int), 0)
  | f, i, n, acc, pre, post, hf, hp, h0, h1, hb => by
    obtain ⟨g, hg⟩ : ∃ g, 10 - i = g + 1 := ⟨9 - i, by omega⟩
    have hz : b.size = pre.length + ((vb f n).length + post.length) := by rw [← bytesOf_length, hb, List.length_append, List.length_append]
    have last : n < 128 → vb f n = [n] → uv b (g + 1) i acc = (acc + n * 2 ^ (7 * i), ((i + (vb f n).length : Nat) : Int), 0) := by
      intro hn hv
      rw [hv] at hb hz ⊢
      have e := bt_in b pre n post hb
      rw [hp] at e
      unfold uv
      simp only [List.length_singleton] at hz ⊢
      rw [e, if_neg (by omega), if_neg (by omega), if_pos hn]
      rfl
    rw [hg]
    match f with
    | 0 => exact last (by simp at h1; omega) rfl
    | f + 1 =>
      by_cases hn : n < 128
      · exact last hn (by unfold vb; rw [if_pos hn])
      · have hv : vb (f + 1) n = (n % 128 + 128) :: vb f (n / 128) := by rw [vb, if_neg hn]
        rw [hv] at hb hz ⊢
        have e := bt_in b pre _ _ hb
        rw [hp] at e
        have ih := uv_vb b f (i + 1) (n / 128) (acc + (n % 128 + 128 - 128) * 2 ^ (7 * i)) (pre ++ [n % 128 + 128]) post (by omega) (by simp; omega) (by omega) (by
          rw [Int.pow_succ] at h1
          generalize (128 : Int) ^ f = q at h1 ⊢
          omega) (by rw [hb]; simp)
        rw [show 10 - (i + 1) = g from by omega] at ih
        unfold uv
        simp only [List.length_cons] at hz ⊢
        rw [e, if_neg (by omega), if_neg (by omega), if_neg (by omega), ih]
        have e7 : (2 : Int) ^ (7 * (i + 1)) = 128 * 2 ^ (7 * i) := by
          rw [Nat.mul_add, Int.pow_add]
          omega
        rw [e7]
        have e8 : n / 128 * (128 * 2 ^ (7 * i)) + n % 128 * 2 ^ (7 * i) = n * 2 ^ (7 * i) := by
          rw [← Int.mul_assoc, ← Int.add_mul]
          congr 1
          omega
        rw [show n % 128 + 128 - 128 = n % 128 from by omega]
        refine Prod.ext ?_ (Prod.ext ?_ rfl)
        · show acc + n % 128 * 2 ^ (7 * i) + n / 128 * (128 * 2 ^ (7 * i)) = _
          omega
        · show ((i + 1 + (vb f (n / 128)).length : Nat) : Int) = ((i + ((vb f (n / 128)).length + 1) : Nat) : Int)
          omega
/-- The block that parts are: it says how long the text is, and stands for it. -/
theorem blk_bytes (L : List S35) (T : ByteArray) (h : exq L ⟨#[]⟩ 65536 = (T, 0)) : T.size ≤ 65536 ∧ (∀ x ∈ L, mayB x = true) ∧ (blk L).2 = 0 ∧ bytesOf (blk L).1 = vb 8 (T.size : Int) ++ L.flatMap wl := by
  have hk := exq_ok 65536 (by omega) (by omega) L ⟨#[]⟩ (by show ((0 : Nat) : Int) ≤ _; omega) (by rw [h])
  rw [h] at hk
  have hT : T.size ≤ 65536 := by have := hk.2; simp only at this; omega
  refine ⟨hT, hk.1, ?_, ?_⟩
  · unfold blk
    rw [h]
    rfl
  · unfold blk
    rw [h]
    simp only [if_true]
    have hbyte : ∀ l : List Int, (∀ c ∈ l, 0 ≤ c ∧ c ≤ 255) → bytesOf (strOfNums l) = l := by
      intro l hl
      unfold bytesOf strOfNums
      simp only [List.map_map]
      rw [List.map_congr_left (g := id), List.map_id]
      intro c hc
      have := hl c hc
      simp only [Function.comp, id]
      rw [UInt8.toNat_ofNat']
      omega
    have hnum : ∀ (d : Nat) (n : Int), ∀ c ∈ numb n d, 0 ≤ c ∧ c ≤ 255 := by
      intro d
      induction d with
      | zero => intro n c hc; simp [numb] at hc
      | succ d ih =>
        intro n c hc
        rw [numb, List.mem_cons] at hc
        rcases hc with rfl | hc
        · omega
        · exact ih _ c hc
    have hvb : ∀ (f : Nat) (n : Int), 0 ≤ n → n < 128 * 128 ^ f → ∀ c ∈ vb f n, 0 ≤ c ∧ c ≤ 255 := by
      intro f
      induction f with
      | zero => intro n h0 h1 c hc; simp [vb] at hc; simp at h1; omega
      | succ f ih =>
        intro n h0 h1 c hc
        rw [vb] at hc
        split at hc
        · simp at hc; omega
        · rw [List.mem_cons] at hc
          rcases hc with rfl | hc
          · omega
          · refine ih (n / 128) (by omega) ?_ c hc
            rw [Int.pow_succ] at h1
            generalize (128 : Int) ^ f = q at h1 ⊢
            omega
    apply hbyte
    intro c hc
    rw [List.mem_append] at hc
    rcases hc with hc | hc
    · exact hvb 8 _ (by omega) (pow8 (by omega)) c hc
    · obtain ⟨x, hx, hc⟩ := List.mem_flatMap.1 hc
      have hm := hk.1 x hx
      obtain ⟨b, t, o, n⟩ := x
      rw [mayB_iff] at hm
      unfold wl at hc
      rcases hm with ⟨rfl, g1, g2, g3, g4, g5⟩ | ⟨rfl, g1, g2, rfl, rfl⟩
      · simp only [if_true] at hc
        split at hc
        · simp at hc; omega
        · split at hc
          · rw [List.mem_cons] at hc
            rcases hc with rfl | hc
            · omega
            · exact hnum _ _ c hc
          · rw [List.mem_cons] at hc
            rcases hc with rfl | hc
            · omega
            · exact hnum _ _ c hc
      · simp only [Bool.false_eq_true, if_false] at hc
        rw [List.mem_append] at hc
        rcases hc with hc | hc
        · split at hc
          · simp at hc; omega
          · split at hc
            · rw [List.mem_cons] at hc
              rcases hc with rfl | hc
              · omega
              · exact hnum _ _ c hc
            · rw [List.mem_cons] at hc
              rcases hc with rfl | hc
              · omega
              · exact hnum _ _ c hc
        · exact bytes_all t c hc
theorem ln_blk (L : List S35) (T : ByteArray) (h : exq L ⟨#[]⟩ 65536 = (T, 0)) : ln (blk L).1 = ((T.size : Int), ((vb 8 (T.size : Int)).length : Int), 0) := by
  obtain ⟨hT, hm, h2, hb⟩ := blk_bytes L T h
  have e := uv_vb (blk L).1 8 0 (T.size : Int) 0 [] (L.flatMap wl) rfl rfl (by omega) (pow8 (by omega)) (by rw [hb, List.nil_append])
  unfold ln
  rw [show 10 - 0 = 10 from rfl] at e
  rw [e, Nat.mul_zero, Int.pow_zero, Int.mul_one, Int.zero_add, Nat.zero_add]
theorem sz_blk (L : List S35) (T : ByteArray) (h : exq L ⟨#[]⟩ 65536 = (T, 0)) : sz (blk L).1 = ((T.size : Int), 0) := by
  have hT := (blk_bytes L T h).1
  unfold sz
  rw [ln_blk L T h]
  simp only [if_true]
  rw [if_neg (by omega)]
theorem dec_blk (L : List S35) (T : ByteArray) (h : exq L ⟨#[]⟩ 65536 = (T, 0)) (most : Int) (hm : (T.size : Int) ≤ most) : dec (blk L).1 most = (T, 0) := by
  obtain ⟨hT, _, h2, hb⟩ := blk_bytes L T h
  unfold dec
  rw [sz_blk L T h, ln_blk L T h]
  simp only [if_true]
  rw [if_neg (by omega), if_neg (by omega), Int.toNat_natCast]
  exact dcl_list (blk L).1 T L ⟨#[]⟩ (vb 8 (T.size : Int)) ((blk L).1.size + 1) hb (by omega) (by show ((0 : Nat) : Int) ≤ _; omega) h
def prl (s : ByteArray) : Nat → Nat → List S35 → List S35 × Int
  | 0, _, _ => ([], 4)
  | f + 1, p, acc =>
    if p < s.size then (match elem s p with
      | none => ([], 8)
      | some (x, q) => prl s f q (acc ++ [x]))
    else (acc, 0)
theorem parts_loop (s : ByteArray) (hs : s.size ≤ 1000000000000) : ∀ (f p : Nat) (acc : List S35), p ≤ s.size → s.size < f + p → acc.length ≤ p →
    Ev (fun k => snappy_Parts.l0 k acc s (p : Int) 0) (prl s f p acc) := by
  intro f
  induction f with
  | zero => intro p acc h2 h3; omega
  | succ f ih =>
    intro p acc h2 h3 h4
    refine ev_step (fun k => rfl) ?_
    simp only [snappy_Parts.l0]
    unfold prl bits_Reader_Left.f
    refine ev_some ?_
    rw [wr (n := (s.size : Int) - p) (by omega) (by omega)]
    by_cases hp : p < s.size
    · rw [if_pos hp]
      refine ev_pos (by omega) ?_
      have hn := next_ev s p (by omega) hp
      have hok := elem_ok s p hp
      generalize he : elem s p = r at hn hok
      match r, hn, hok with
      | none, hn, _ =>
        obtain ⟨c, t, o, n, q, hn⟩ := hn
        refine ev_bind hn ?_
        unfold bits_Reader_Err.f
        exact ev_some (ev_neg (by simp) (ev_now _))
      | some (x, q), hn, hok =>
        obtain ⟨_, g1, g2, g3⟩ := hok x q rfl
        refine ev_bind hn ?_
        unfold bits_Reader_Err.f
        refine ev_some (ev_pos rfl (ev_pos (by omega) ?_))
        exact ih q (acc ++ [x]) (by omega) (by omega) (by simp; omega)
    · rw [if_neg hp]
      exact ev_neg (by omega) (ev_now _)
/-- The parts of a block. -/
def prt (s : ByteArray) : List S35 × Int := if (sz s).2 = 0 then prl s (s.size + 1) (ln s).2.1.toNat [] else ([], (sz s).2)
theorem parts_ev (s : ByteArray) (hs : s.size ≤ 1000000000000) : Ev (fun k => snappy_Parts.f k s) (prt s) := by
  unfold snappy_Parts.f prt
  refine ev_bind (size_ev s (by omega)) ?_
  by_cases h : (sz s).2 = 0
  · rw [if_pos h]
    refine ev_pos h ?_
    obtain ⟨g1, g2, g3⟩ := sz_ok s h
    obtain ⟨q, e, q0, q1⟩ := ln_at s g1
    unfold bits_New.f
    refine ev_some (ev_bind (varint_ev s (by omega) g1 g2) ?_)
    simp only
    rw [e, Int.toNat_natCast]
    exact parts_loop s hs (s.size + 1) q [] q1 (by omega) (by simp)
  · rw [if_neg h]
    exact ev_neg h (ev_now _)
end Go.Proofs.Ythcjcmgdblhhfaa.SpecSnappyAny
