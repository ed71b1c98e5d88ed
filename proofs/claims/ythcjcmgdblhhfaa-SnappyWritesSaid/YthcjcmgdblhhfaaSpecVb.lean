/- Plain facts about what the snappy functions compute: no memory and no program. No conditions. -/
import Derived.Test.YthcjcmgdblhhfaaPVx0
import Derived.Test.YthcjcmgdblhhfaaPVx22
import Derived.Test.YthcjcmgdblhhfaaPVx23
import Derived.Test.YthcjcmgdblhhfaaPVx24
import Derived.Test.YthcjcmgdblhhfaaPVx25
import Derived.Test.YthcjcmgdblhhfaaPVx26
import Derived.Test.YthcjcmgdblhhfaaPVx27
import Derived.Test.YthcjcmgdblhhfaaPVx28
import Derived.Test.YthcjcmgdblhhfaaPVx30
import Derived.Test.YthcjcmgdblhhfaaPVx31
import Derived.Test.YthcjcmgdblhhfaaPVx32
import Derived.Test.YthcjcmgdblhhfaaSpecVa
import Derived.Laws.Strings
namespace Go.Proofs.Ythcjcmgdblhhfaa.SpecVb
open Go.RowKit Go.Proofs.Ythcjcmgdblhhfaa.PV Go.Proofs.YthcjcmgdblhhfaaW.PrintWords Go.Proofs.YthcjcmgdblhhfaaW.PrintLast Go.Proofs.Ythcjcmgdblhhfaa.SpecVa
set_option linter.unusedVariables false
set_option linter.unusedSimpArgs false
/-! ### rounds -/
section
variable {α β : Type} {r : α}
end
/-! ### the document's match -/
theorem rmatch_in (s : ByteArray) (p o : Nat) (ho : 1 ≤ o) (hop : o ≤ p) (hp : p < s.size) (hs : s.size ≤ 4611686018427387904) (off m : Int) (r : Int × Int) : ∀ (d n : Nat), n + d = 64 →
    Ev (fun k => if ((run (eqAt s (p - o) p) n d : Nat) : Int) > m then batonref03_Match.l0 k s (p : Int) (o : Int) ((run (eqAt s (p - o) p) n d : Nat) : Int) (wrap64 ((o : Int) + 1)) else batonref03_Match.l0 k s (p : Int) off m (wrap64 ((o : Int) + 1))) r →
    Ev (fun k => batonref03_Match.l1 k s (p : Int) off m (o : Int) (n : Int)) r := by
  intro d
  induction d with
  | zero =>
    intro n hn h
    refine ev_step (fun k => rfl) ?_
    simp only [batonref03_Match.l1]
    exact ev_neg (by omega) h
  | succ d ih =>
    intro n hn h
    refine ev_step (fun k => rfl) ?_
    simp only [batonref03_Match.l1]
    refine ev_pos (by omega) ?_
    rw [wr (n := (p : Int) + n) (by omega) (by omega)]
    unfold run at h
    by_cases h1 : p + n < s.size
    · rw [wr (n := (p : Int) + n - o) (by omega) (by omega)]
      refine ev_pos (by omega) (ev_pos (by omega) (ev_pos (by omega) (ev_pos (by omega) ?_)))
      have e1 : ((p - o + n : Nat) : Int) = (p : Int) + n - o := by omega
      by_cases h2 : bt s ((p : Int) + n) = bt s ((p : Int) + n - o)
      · refine ev_pos h2 ?_
        rw [if_pos (by unfold eqAt; rw [e1]; simp only [Int.natCast_add]; rw [h2]; simp [h1])] at h
        rw [wr (n := (n : Int) + 1) (by omega) (by omega)]
        exact ih (n + 1) (by omega) h
      · refine ev_neg h2 ?_
        rw [if_neg (by unfold eqAt; rw [e1]; simp only [Int.natCast_add]; simp [Ne.symm h2])] at h
        exact h
    · refine ev_neg (by omega) ?_
      rw [if_neg (by unfold eqAt; simp [h1])] at h
      exact h
theorem rmatch_loop (s : ByteArray) (p : Nat) (hp : p < s.size) (hs : s.size ≤ 4611686018427387904) : ∀ (d o : Nat) (m : Nat × Nat), 1 ≤ o → o + d = min p 65535 + 1 →
    Ev (fun k => batonref03_Match.l0 k s (p : Int) (m.1 : Int) (m.2 : Int) (o : Int)) (((best s p o d m).1 : Int), ((best s p o d m).2 : Int)) := by
  intro d
  induction d with
  | zero =>
    intro o m ho hd
    refine ev_step (fun k => rfl) ?_
    simp only [batonref03_Match.l0]
    by_cases h : o ≤ p
    · refine ev_pos (by omega) (ev_step (fun k => rfl) ?_)
      simp only [batonref03_Match.j2]
      exact ev_neg (by simp; omega) (ev_now _)
    · refine ev_neg (by omega) (ev_step (fun k => rfl) ?_)
      simp only [batonref03_Match.j2]
      exact ev_neg (by simp) (ev_now _)
  | succ d ih =>
    intro o m ho hd
    refine ev_step (fun k => rfl) ?_
    simp only [batonref03_Match.l0]
    refine ev_pos (by omega) (ev_step (fun k => rfl) ?_)
    simp only [batonref03_Match.j2]
    refine ev_pos (by simp; omega) ?_
    refine rmatch_in s p o ho (by omega) hp hs _ _ _ 64 0 rfl ?_
    rw [wr (n := (o : Int) + 1) (by omega) (by omega)]
    unfold best
    by_cases h7 : m.2 < al s (p - o) p
    · rw [if_pos h7]
      exact ev_pos (by show ((al s (p - o) p : Nat) : Int) > _; omega) (ih (o + 1) (o, al s (p - o) p) (by omega) (by omega))
    · rw [if_neg h7]
      exact ev_neg (by show ¬ ((al s (p - o) p : Nat) : Int) > _; omega) (ih (o + 1) m (by omega) (by omega))
theorem rmatch_ev (s : ByteArray) (p : Nat) (hp : p < s.size) (hs : s.size ≤ 4611686018427387904) : Ev (fun k => batonref03_Match.f k s (p : Int)) (((mat s p).1 : Int), ((mat s p).2 : Int)) := by
  unfold batonref03_Match.f
  refine ev_neg (by omega) (ev_step (fun k => rfl) ?_)
  simp only [batonref03_Match.j0]
  refine ev_neg (by simp; omega) ?_
  exact rmatch_loop s p hp hs (min p 65535) 1 (0, 0) (by omega) (by omega)
theorem rmatch_out (s : ByteArray) (p : Int) (h : p < 0 ∨ (s.size : Int) ≤ p) : Ev (fun k => batonref03_Match.f k s p) (0, 0) := by
  unfold batonref03_Match.f
  by_cases h1 : p < 0
  · refine ev_pos h1 (ev_step (fun k => rfl) ?_)
    simp only [batonref03_Match.j0]
    exact ev_now _
  · refine ev_neg h1 (ev_step (fun k => rfl) ?_)
    simp only [batonref03_Match.j0]
    exact ev_pos (by simp; omega) (ev_now _)
/-! ### Pack -/
section
variable {β : Type}
end
def m72 (c : Bool) (t : ByteArray) (o n : Int) : S72 := ⟨c, t, o, n⟩
theorem rpack_loop (s : ByteArray) (hs : s.size ≤ 65536) : ∀ (f a fr : Nat) (out : List S72), a ≤ s.size → fr ≤ a → out.length ≤ a → s.size < f + a → Ev (fun k => batonref03_Pack.l0 k s out (fr : Int) (a : Int)) (pk m72 s f a fr out, 0) := by
  intro f
  induction f with
  | zero => intro a fr out ha _ _ h; omega
  | succ f ih =>
    intro a fr out ha hfr hl h
    refine ev_step (fun k => rfl) ?_
    simp only [batonref03_Pack.l0, pk]
    by_cases h1 : a < s.size
    · rw [if_pos h1]
      refine ev_pos (by omega) (ev_bind (rmatch_ev s a h1 (by omega)) ?_)
      have h64 := mat_le s a
      have hsz := mat_size s a ha
      by_cases h4 : 4 ≤ (mat s a).2
      · rw [if_pos h4]
        refine ev_neg (by omega) ?_
        rw [wr (n := (a : Int) + ((mat s a).2 : Int)) (by omega) (by omega)]
        by_cases h5 : fr < a
        · refine ev_pos (by omega) (ev_pos (by omega) (ev_pos (by omega) (ev_pos (by omega) (ev_pos (by omega) (ev_some (ev_pos (by simp; omega) ?_))))))
          have e : litB m72 s fr a = [⟨false, s.extract (fr : Int).toNat (a : Int).toNat, 0, 0⟩] := by unfold litB; rw [if_pos h5]; rfl
          rw [e]
          exact ih (a + (mat s a).2) (a + (mat s a).2) _ (by omega) (by omega) (by simp; omega) (by omega)
        · refine ev_neg (by omega) (ev_pos (by omega) ?_)
          have e : litB m72 s fr a = [] := by unfold litB; rw [if_neg h5]
          rw [e, List.append_nil]
          exact ih (a + (mat s a).2) (a + (mat s a).2) _ (by omega) (by omega) (by simp; omega) (by omega)
      · rw [if_neg h4]
        refine ev_pos (by omega) ?_
        rw [wr (n := (a : Int) + 1) (by omega) (by omega)]
        exact ih (a + 1) fr out (by omega) (by omega) (by omega) (by omega)
    · rw [if_neg h1]
      have ea : a = s.size := by omega
      refine ev_neg (by omega) ?_
      by_cases h5 : fr < a
      · refine ev_pos (by omega) (ev_pos (by omega) (ev_pos (by omega) (ev_pos (by omega) ?_)))
        have e : litB m72 s fr s.size = [⟨false, s.extract (fr : Int).toNat s.size, 0, 0⟩] := by unfold litB; rw [if_pos (by omega)]; rfl
        rw [e]
        exact ev_now _
      · refine ev_neg (by omega) ?_
        have e : litB m72 s fr s.size = [] := by unfold litB; rw [if_neg (by omega)]
        rw [e, List.append_nil]
        exact ev_now _
/-- A part, as the document's. -/
def p72 (x : S35) : S72 := ⟨x.f0, x.f1, x.f2, x.f3⟩
theorem pk_map (s : ByteArray) : ∀ (f a fr : Nat) (out : List S35), pk m72 s f a fr (out.map p72) = (pk m35 s f a fr out).map p72
  | 0, a, fr, out => rfl
  | f + 1, a, fr, out => by
    have hl : ∀ b, litB m72 s fr b = (litB m35 s fr b).map p72 := fun b => by unfold litB; split <;> rfl
    simp only [pk]
    by_cases h3 : a < s.size
    · rw [if_pos h3, if_pos h3]
      by_cases h4 : 4 ≤ (mat s a).2
      · rw [if_pos h4, if_pos h4, hl, ← pk_map s f]
        rw [List.map_append, List.map_append]
        rfl
      · rw [if_neg h4, if_neg h4]
        exact pk_map s f _ _ _
    · rw [if_neg h3, if_neg h3, hl, List.map_append]
theorem rpack_ev (s : ByteArray) (hs : s.size ≤ 65536) : Ev (fun k => batonref03_Pack.f k s) ((parts s).map p72, 0) := by
  unfold batonref03_Pack.f parts
  rw [← pk_map]
  exact ev_neg (by omega) (rpack_loop s hs (s.size + 1) 0 0 [] (by omega) (by omega) (by simp) (by omega))
/-! ### the same parts -/
theorem same_loop (l : List S35) (hl : l.length ≤ 4611686018427387904) : ∀ (d i : Nat), i + d = l.length → Ev (fun k => batonlaw03_same.l0 k l (l.map p72) (i : Int)) true := by
  intro d
  induction d with
  | zero => intro i hi; refine ev_step (fun k => rfl) ?_; simp only [batonlaw03_same.l0]; exact ev_neg (by omega) (ev_now _)
  | succ d ih =>
    intro i hi
    refine ev_step (fun k => rfl) ?_
    simp only [batonlaw03_same.l0]
    have e : rd_T72 (l.map p72) (i : Int) = p72 (rd_T35 l (i : Int)) := by
      unfold rd_T72 rd_T35
      rw [Int.toNat_natCast]
      simp [List.getD, List.getElem?_eq_getElem (show i < l.length by omega)]
    rw [e]
    refine ev_pos (by omega) (ev_pos (by omega) (ev_pos (by rw [List.length_map]; omega) (ev_neg (by simp [p72]) (ev_pos rfl (ev_pos rfl (ev_pos rfl ?_))))))
    rw [wr (n := (i : Int) + 1) (by omega) (by omega)]
    exact ih (i + 1) (by omega)
theorem same_ev (l : List S35) (hl : l.length ≤ 4611686018427387904) : Ev (fun k => batonlaw03_same.f k l (l.map p72)) true := by
  unfold batonlaw03_same.f
  exact ev_pos (by rw [List.length_map]) (same_loop l hl l.length 0 (by omega))
theorem rmay_is (x : S35) : batonref03_May.f x.f0 x.f1 x.f2 x.f3 = some (mayB x) := by
  obtain ⟨b, t, o, n⟩ := x
  unfold batonref03_May.f mayB
  simp only [nil_size, beq_dec]
  generalize t.size = z
  cases b
  all_goals simp only [if_true, Bool.false_eq_true, if_false]
  all_goals (repeat' split)
  all_goals first
    | (refine congrArg some (decide_eq_decide.2 ?_); simp; try omega)
    | (refine congrArg some (Eq.symm (decide_eq_false ?_)); simp; try omega)
/-! ### the document's Expand -/
theorem radd_copy (L : List S72) (most : Int) (i : Nat) (c : Bool) (t : ByteArray) (o n : Int) (r : ByteArray × Int) (ho : 1 ≤ o) (hn : n ≤ 64) : ∀ (d : Nat) (j : Int) (Y : ByteArray), 0 ≤ j → (d : Int) + j = max n j → o ≤ (Y.size : Int) → Y.size + d ≤ 100000000000000 → d ≤ 64 →
    Ev (fun k => batonref03_Expand.l0 k L most (cp Y o.toNat d) (wrap64 ((i : Int) + 1))) r → Ev (fun k => batonref03_Expand.l1 k L most Y (i : Int) j c t o n) r := by
  intro d
  induction d with
  | zero =>
    intro j Y h0 h1 h2 h3 h4 h
    refine ev_step (fun k => rfl) ?_
    simp only [batonref03_Expand.l1]
    exact ev_neg (by omega) h
  | succ d ih =>
    intro j Y h0 h1 h2 h3 h4 h
    refine ev_step (fun k => rfl) ?_
    simp only [batonref03_Expand.l1]
    rw [wr (n := (Y.size : Int) - o) (by omega) (by omega), wr (n := j + 1) (by omega) (by omega), wr (n := (Y.size : Int) - o + 1) (by omega) (by omega)]
    have hlt : Y.size - o.toNat < Y.size := by omega
    have hz := ext1_size Y _ hlt
    rw [show ((Y.size : Int) - o).toNat = Y.size - o.toNat from by omega, show ((Y.size : Int) - o + 1).toNat = Y.size - o.toNat + 1 from by omega]
    rw [ByteArray.size_append] at hz
    refine ev_pos (by omega) (ev_pos (by omega) (ev_pos (by omega) (ev_pos (by omega) (ev_pos (by omega) ?_))))
    rw [← ByteArray.size_append] at hz
    unfold cp at h
    exact ih (j + 1) _ (by omega) (by omega) (by omega) (by omega) (by omega) h
theorem rexpand_loop (L : List S35) (most : Int) (hL : L.length ≤ 1000000) : ∀ (d i : Nat) (X : ByteArray), i + d = L.length → X.size + 65536 * d ≤ 90000000000000 →
    Ev (fun k => batonref03_Expand.l0 k (L.map p72) most X (i : Int)) (exq (L.drop i) X most) := by
  intro d
  induction d with
  | zero =>
    intro i X hi hX
    refine ev_step (fun k => rfl) ?_
    simp only [batonref03_Expand.l0]
    rw [List.drop_of_length_le (by omega)]
    exact ev_neg (by rw [List.length_map]; omega) (ev_now _)
  | succ d ih =>
    intro i X hi hX
    refine ev_step (fun k => rfl) ?_
    simp only [batonref03_Expand.l0]
    refine ev_pos (by rw [List.length_map]; omega) (ev_pos (by omega) ?_)
    have e : rd_T72 (L.map p72) (i : Int) = p72 (L[i]'(by omega)) := by
      unfold rd_T72
      rw [Int.toNat_natCast]
      simp [List.getD, List.getElem?_eq_getElem (show i < L.length by omega)]
    rw [e, List.drop_eq_getElem_cons (show i < L.length by omega)]
    obtain ⟨x, hx⟩ : ∃ x, L[i]'(by omega) = x := ⟨_, rfl⟩
    rw [hx]
    have hes : badB x X = false → (ext x X).size ≤ X.size + 65536 := ext_size x X
    have hih := ih (i + 1) (ext x X) (by omega)
    obtain ⟨b, t, o, n⟩ := x
    simp only [p72]
    have hm := rmay_is ⟨b, t, o, n⟩
    simp only at hm
    rw [hm]
    refine ev_some ?_
    have key : ∀ bad : Bool, bad = badB ⟨b, t, o, n⟩ X → Ev (fun k => batonref03_Expand.j1 k (L.map p72) most X (i : Int) bad b t o n) (exq (⟨b, t, o, n⟩ :: L.drop (i + 1)) X most) := by
      intro bad hb
      refine ev_step (fun k => rfl) ?_
      simp only [batonref03_Expand.j1]
      unfold exq
      rw [← hb]
      cases bad with
      | true => exact ev_now _
      | false =>
        have h1 := hb.symm
        unfold badB at h1
        simp only [Bool.or_eq_false_iff, Bool.not_eq_false', Bool.and_eq_false_iff, decide_eq_false_iff_not] at h1
        obtain ⟨h1, h2⟩ := h1
        rw [mayB_iff] at h1
        refine ev_neg (by simp) ?_
        rw [if_neg (by simp)]
        have hN : wrap64 ((t.size : Int) + n) = addN ⟨b, t, o, n⟩ := by
          unfold addN
          rcases h1 with ⟨rfl, h1, h3, h4, h5, h6⟩ | ⟨rfl, h1, h3, rfl, rfl⟩
          · rw [wr (by omega) (by omega)]; simp; omega
          · rw [wr (by omega) (by omega)]; simp
        rw [hN]
        by_cases h40 : addN ⟨b, t, o, n⟩ > wrap64 (most - (X.size : Int))
        · rw [if_pos h40]
          exact ev_pos h40 (ev_now _)
        · rw [if_neg h40]
          refine ev_neg h40 (ev_pos (by omega) ?_)
          have hfin := hih (by have := hes hb.symm; omega)
          rw [← wr (n := ((i + 1 : Nat) : Int)) (by omega) (by omega), Int.natCast_add] at hfin
          unfold ext at hfin
          simp only at hfin
          rcases h1 with ⟨rfl, h1, h3, h4, h5, h6⟩ | ⟨rfl, h1, h3, rfl, rfl⟩
          · simp at h2
            exact radd_copy _ most i true t o n _ h5 h4 n.toNat 0 (X ++ t) (by omega) (by omega) (by rw [ByteArray.size_append]; omega) (by rw [ByteArray.size_append]; omega) (by omega) hfin
          · refine ev_step (fun k => rfl) ?_
            simp only [batonref03_Expand.l1]
            exact ev_neg (by omega) hfin
    by_cases hM : mayB ⟨b, t, o, n⟩ = true
    · refine ev_pos hM ?_
      cases b with
      | true => exact ev_pos rfl (key _ (by unfold badB; rw [hM]; simp))
      | false => exact ev_neg (by simp) (key _ (by unfold badB; rw [hM]; simp))
    · exact ev_neg hM (key _ (by unfold badB; simp [hM]))
theorem rexpand_ev (L : List S35) (most : Int) (hL : L.length ≤ 1000000) : Ev (fun k => batonref03_Expand.f k (L.map p72) most) (exq L ⟨#[]⟩ most) := by
  unfold batonref03_Expand.f
  exact rexpand_loop L most hL L.length 0 ⟨#[]⟩ (by omega) (by show 0 + 65536 * L.length ≤ _; omega)
theorem rbytes_loop (c : Int) : ∀ (d : Nat) (i n : Int) (X : ByteArray), 0 ≤ n → n ≤ 9000000000000000000 → 0 ≤ i → i + d = c → c ≤ 100 → X.size + d ≤ 100000000000000 → Ev (fun k => batonref03_bytes.l0 k n c X i) (X ++ strOfNums (numb n d)) := by
  intro d
  induction d with
  | zero =>
    intro i n X hn hn2 h0 h1 h2 h3
    refine ev_step (fun k => rfl) ?_
    simp only [batonref03_bytes.l0, numb]
    refine ev_neg (by omega) (ev_eq (ev_now _) ?_)
    apply ByteArray.ext
    simp [strOfNums]
  | succ d ih =>
    intro i n X hn hn2 h0 h1 h2 h3
    refine ev_step (fun k => rfl) ?_
    simp only [batonref03_bytes.l0]
    have e1 : Int.tmod n 256 % 256 = n % 256 := by rw [Int.tmod_eq_emod_of_nonneg hn]; omega
    have e2 : Int.tdiv n 256 = n / 256 := Int.tdiv_eq_ediv_of_nonneg hn
    rw [e1, e2]
    refine ev_pos (by omega) (ev_some (ev_pos (by rw [str_size]; simp; omega) ?_))
    rw [wr (n := i + 1) (by omega) (by omega), wr (n := n / 256) (by omega) (by omega)]
    refine ev_eq (ih (i + 1) (n / 256) _ (by omega) (by omega) (by omega) (by omega) h2 (by rw [ByteArray.size_append, str_size]; simp; omega)) ?_
    rw [ByteArray.append_assoc, ← str_app]
    rfl
theorem rbytes_ev (n : Int) (d : Nat) (hd : d ≤ 100) (hn : 0 ≤ n) (hn2 : n ≤ 9000000000000000000) : Ev (fun k => batonref03_bytes.f k n (d : Int)) (strOfNums (numb n d)) := by
  unfold batonref03_bytes.f
  refine ev_eq (rbytes_loop (d : Int) d 0 n ⟨#[]⟩ hn hn2 (by omega) (by omega) (by omega) (by show 0 + d ≤ _; omega)) ?_
  apply ByteArray.ext
  simp
theorem bytes1_ev (n : Int) (h0 : 0 ≤ n) (h1 : n < 256) : Ev (fun k => batonref03_bytes.f k n 1) (strOfNums [n]) := by
  rw [← numb1 n h0 h1]
  exact rbytes_ev n 1 (by omega) h0 (by omega)
theorem one_copy (t : ByteArray) (o n : Int) (h1 : t.size = 0) (h2 : 1 ≤ n) (h3 : n ≤ 64) (h4 : 1 ≤ o) (h5 : o < 4294967296) :
    Ev (fun k => batonref03_one.f k true t o n) (strOfNums (wl ⟨true, t, o, n⟩)) := by
  have hj1 : Ev (fun k => batonref03_one.j1 k (decide (o < 65536)) true t o n) (strOfNums (if o < 65536 then ((n - 1) * 4 + 2) :: numb o 2 else ((n - 1) * 4 + 3) :: numb o 4)) := by
    refine ev_step (fun k => rfl) ?_
    simp only [batonref03_one.j1]
    rw [wr (n := n - 1) (by omega) (by omega), wr (n := (n - 1) * 4) (by omega) (by omega), wr (n := (n - 1) * 4 + 2) (by omega) (by omega), wr (n := (n - 1) * 4 + 3) (by omega) (by omega)]
    by_cases h6 : o < 65536
    · rw [if_pos h6]
      refine ev_pos (by simp; exact h6) (ev_bind (bytes1_ev _ (by omega) (by omega)) (ev_bind (rbytes_ev o 2 (by omega) (by omega) (by omega)) (ev_pos (by rw [str_size, str_size, numb_len]; simp) (ev_eq (ev_now _) ?_))))
      rw [← str_app]; rfl
    · rw [if_neg h6]
      refine ev_neg (by simp; omega) (ev_pos trivial (ev_bind (bytes1_ev _ (by omega) (by omega)) (ev_bind (rbytes_ev o 4 (by omega) (by omega) (by omega)) (ev_pos (by rw [str_size, str_size, numb_len]; simp) (ev_eq (ev_now _) ?_)))))
      rw [← str_app]; rfl
  have hj0 : Ev (fun k => batonref03_one.j0 k false true t o n) (strOfNums (if o < 65536 then ((n - 1) * 4 + 2) :: numb o 2 else ((n - 1) * 4 + 3) :: numb o 4)) := by
    refine ev_step (fun k => rfl) ?_
    simp only [batonref03_one.j0]
    exact ev_neg (by simp) (ev_pos trivial hj1)
  unfold batonref03_one.f wl
  simp only [if_true]
  by_cases h6 : 4 ≤ n
  · refine ev_pos h6 ?_
    by_cases h7 : n ≤ 11
    · refine ev_pos h7 ?_
      by_cases h8 : o < 2048
      · rw [if_pos ⟨h6, h7, h8⟩, decide_eq_true h8]
        refine ev_step (fun k => rfl) ?_
        simp only [batonref03_one.j0]
        have e1 : Int.tmod o 256 = o % 256 := Int.tmod_eq_emod_of_nonneg (by omega)
        have e2 : Int.tdiv o 256 = o / 256 := Int.tdiv_eq_ediv_of_nonneg (by omega)
        rw [e1, e2, wr (n := o / 256) (by omega) (by omega), wr (n := o / 256 * 32) (by omega) (by omega), wr (n := n - 4) (by omega) (by omega), wr (n := (n - 4) * 4) (by omega) (by omega), wr (n := o / 256 * 32 + (n - 4) * 4) (by omega) (by omega), wr (n := o / 256 * 32 + (n - 4) * 4 + 1) (by omega) (by omega)]
        refine ev_bind (bytes1_ev _ (by omega) (by omega)) (ev_bind (bytes1_ev _ (by omega) (by omega)) (ev_pos (by rw [str_size, str_size]; simp) (ev_eq (ev_now _) ?_)))
        rw [← str_app]; rfl
      · rw [if_neg (fun e => h8 e.2.2), decide_eq_false h8]
        exact hj0
    · rw [if_neg (fun e => h7 e.2.1)]
      exact ev_neg h7 hj0
  · rw [if_neg (fun e => h6 e.1)]
    exact ev_neg h6 hj0
theorem one_lit (t : ByteArray) (h1 : 1 ≤ t.size) (h2 : t.size ≤ 65536) : Ev (fun k => batonref03_one.f k false t 0 0) (strOfNums (wl ⟨false, t, 0, 0⟩)) := by
  unfold batonref03_one.f wl
  simp only [Bool.false_eq_true, if_false]
  refine ev_step (fun k => rfl) ?_
  simp only [batonref03_one.j0]
  refine ev_neg (by simp) (ev_neg (by simp) (ev_step (fun k => rfl) ?_))
  simp only [batonref03_one.j1]
  refine ev_neg (by simp) (ev_neg (by simp) ?_)
  rw [wr (n := (t.size : Int) - 1) (by omega) (by omega)]
  by_cases h3 : t.size ≤ 60
  · rw [if_pos h3, wr (n := ((t.size : Int) - 1) * 4) (by omega) (by omega)]
    refine ev_pos (by omega) (ev_bind (bytes1_ev _ (by omega) (by omega)) (ev_pos (by rw [str_size]; simp; omega) (ev_eq (ev_now _) ?_)))
    rw [str_app, str_bytes]
  · rw [if_neg h3]
    refine ev_neg (by omega) ?_
    by_cases h4 : t.size ≤ 256
    · rw [if_pos h4, numb1 _ (by omega) (by omega)]
      refine ev_pos (by omega) (ev_bind (bytes1_ev 240 (by omega) (by omega)) (ev_bind (bytes1_ev _ (by omega) (by omega)) (ev_pos (by rw [str_size, str_size]; simp) (ev_pos (by rw [ByteArray.size_append, str_size, str_size]; simp; omega) (ev_eq (ev_now _) ?_)))))
      rw [str_app, str_bytes, ← str_app]; rfl
    · rw [if_neg h4]
      refine ev_neg (by omega) (ev_bind (bytes1_ev 244 (by omega) (by omega)) (ev_bind (rbytes_ev _ 2 (by omega) (by omega) (by omega)) (ev_pos (by rw [str_size, str_size, numb_len]; simp) (ev_pos (by rw [ByteArray.size_append, str_size, str_size, numb_len]; simp; omega) (ev_eq (ev_now _) ?_)))))
      rw [str_app, str_bytes, ← str_app]; rfl
theorem one_ev (x : S35) (hm : mayB x = true) : Ev (fun k => batonref03_one.f k x.f0 x.f1 x.f2 x.f3) (strOfNums (wl x)) := by
  obtain ⟨b, t, o, n⟩ := x
  rw [mayB_iff] at hm
  rcases hm with ⟨rfl, h1, h2, h3, h4, h5⟩ | ⟨rfl, h1, h2, rfl, rfl⟩
  · exact one_copy t o n h1 h2 h3 h4 h5
  · exact one_lit t h1 h2
theorem rvar_loop : ∀ (f : Nat) (n : Int), 0 ≤ n → n < 128 * 128 ^ f → n ≤ 9000000000000000000 → f ≤ 100 → Ev (fun k => batonref01_Varint.f k n) (strOfNums (vb f n)) ∧ (vb f n).length ≤ f + 1 := by
  intro f
  induction f with
  | zero =>
    intro n h0 h1 h2 h3
    refine ⟨ev_step (fun k => rfl) ?_, by simp [vb]⟩
    simp only [batonref01_Varint.f, vb]
    refine ev_pos (by simp at h1; omega) (ev_eq (ev_now _) ?_)
    rw [show n % 256 = n from by simp at h1; omega]
  | succ f ih =>
    intro n h0 h1 h2 h3
    by_cases h4 : n < 128
    · refine ⟨ev_step (fun k => rfl) ?_, by simp only [vb]; rw [if_pos h4]; simp⟩
      simp only [batonref01_Varint.f, vb]
      rw [if_pos h4]
      refine ev_pos (by omega) (ev_eq (ev_now _) ?_)
      rw [show n % 256 = n from by omega]
    · have h5 := ih (n / 128) (by omega) (by
        rw [Int.pow_succ] at h1
        generalize (128 : Int) ^ f = q at h1 ⊢
        omega) (by omega) (by omega)
      refine ⟨ev_step (fun k => rfl) ?_, by simp only [vb]; rw [if_neg h4]; simp; exact h5.2⟩
      simp only [batonref01_Varint.f, vb]
      rw [if_neg h4]
      have e1 : Int.tmod n 128 = n % 128 := Int.tmod_eq_emod_of_nonneg h0
      have e2 : Int.tdiv n 128 = n / 128 := Int.tdiv_eq_ediv_of_nonneg h0
      have e3 : IntKind.u64.wrap (n / 128) = n / 128 := by unfold IntKind.wrap; simp [IntKind.signed, IntKind.bits]; omega
      rw [e1, e2, e3]
      refine ev_neg (by omega) (ev_some (ev_bind h5.1 (ev_pos (by rw [str_size, str_size]; have := h5.2; simp; omega) (ev_eq (ev_now _) ?_))))
      rw [← str_app, show (n % 128 % 256 + 128) % 256 = n % 128 + 128 from by omega]
      rfl
theorem rwrite_loop (L : List S35) (hL : L.length ≤ 1000000) (hm : ∀ x ∈ L, mayB x = true) : ∀ (d i : Nat) (acc : List Int), i + d = L.length → acc.length + 65600 * d ≤ 80000000000000 →
    Ev (fun k => batonref03_Write.l0 k (L.map p72) (strOfNums acc) (i : Int)) (strOfNums (acc ++ (L.drop i).flatMap wl), 0) := by
  intro d
  induction d with
  | zero =>
    intro i acc hi hX
    refine ev_step (fun k => rfl) ?_
    simp only [batonref03_Write.l0]
    rw [List.drop_of_length_le (by omega)]
    refine ev_neg (by rw [List.length_map]; omega) (ev_eq (ev_now _) (by simp))
  | succ d ih =>
    intro i acc hi hX
    refine ev_step (fun k => rfl) ?_
    simp only [batonref03_Write.l0]
    refine ev_pos (by rw [List.length_map]; omega) (ev_pos (by omega) ?_)
    have e : rd_T72 (L.map p72) (i : Int) = p72 (L[i]'(by omega)) := by
      unfold rd_T72
      rw [Int.toNat_natCast]
      simp [List.getD, List.getElem?_eq_getElem (show i < L.length by omega)]
    have hmi := hm (L[i]'(by omega)) (List.getElem_mem _)
    have hwl := wl_len _ hmi
    rw [e, List.drop_eq_getElem_cons (show i < L.length by omega)]
    refine ev_bind (one_ev (L[i]'(by omega)) hmi) (ev_pos (by rw [str_size, str_size]; omega) ?_)
    rw [wr (n := (i : Int) + 1) (by omega) (by omega), ← str_app]
    refine ev_eq (ih (i + 1) _ (by omega) (by rw [List.length_append]; omega)) ?_
    rw [List.flatMap_cons, List.append_assoc]
theorem rwrite_ev (L : List S35) (hL : L.length ≤ 1000000) : Ev (fun k => batonref03_Write.f k (L.map p72)) (blk L) := by
  unfold batonref03_Write.f blk
  refine ev_bind (rexpand_ev L 65536 hL) ?_
  by_cases h : (exq L ⟨#[]⟩ 65536).2 = 0
  · rw [if_pos h]
    have hk := exq_ok 65536 (by omega) (by omega) L ⟨#[]⟩ (by show ((0 : Nat) : Int) ≤ _; omega) h
    refine ev_pos h ?_
    rw [wrap_u64 (by omega) (by omega)]
    have hv := vb_len 8 ((exq L ⟨#[]⟩ 65536).1.size : Int)
    exact ev_bind (rvar_loop 8 _ (by omega) (pow8 (by omega)) (by omega) (by omega)).1 (rwrite_loop L hL hk.1 L.length 0 _ (by omega) (by omega))
  · rw [if_neg h]
    exact ev_neg h (ev_now _)
theorem rencode_ev (s : ByteArray) (hs : s.size ≤ 65536) : Ev (fun k => batonref03_Encode.f k s) (blk (parts s)) := by
  unfold batonref03_Encode.f
  have := parts_len s
  exact ev_bind (rpack_ev s hs) (ev_pos rfl (ev_bind (rwrite_ev (parts s) (by omega)) (ev_now _)))
end Go.Proofs.Ythcjcmgdblhhfaa.SpecVb
