/- Plain facts about a written block, read: each element is its part, the block stands for what its parts stand for. No conditions. -/
import Derived.Test.YthcjcmgdblhhfaaSpecVe
namespace Go.Proofs.Ythcjcmgdblhhfaa.SpecVg
open Go.RowKit Go.Proofs.Ythcjcmgdblhhfaa.PV Go.Proofs.YthcjcmgdblhhfaaW.PrintWords Go.Proofs.YthcjcmgdblhhfaaW.PrintLast Go.Proofs.Ythcjcmgdblhhfaa.SpecVa Go.Proofs.Ythcjcmgdblhhfaa.SpecVd Go.Proofs.Ythcjcmgdblhhfaa.SpecVe
set_option linter.unusedVariables false
set_option linter.unusedSimpArgs false
theorem bytes_ext (b : ByteArray) (i j : Nat) : bytesOf (b.extract i j) = ((bytesOf b).drop i).take (j - i) := by
  unfold bytesOf
  rw [ByteArray.data_extract, Array.toList_extract, ← List.map_drop, ← List.map_take]
theorem bytes_inj {X Y : ByteArray} (h : bytesOf X = bytesOf Y) : X = Y := by rw [← str_bytes X, h, str_bytes]
theorem bt_in (b : ByteArray) (pre : List Int) (c : Int) (post : List Int) (h : bytesOf b = pre ++ c :: post) : bt b (pre.length : Int) = c := by
  rw [← rd_bytesOf, h]
  unfold rd
  rw [Int.toNat_natCast]
  simp [List.getD]
theorem ext_in (b : ByteArray) (pre m post : List Int) (n : Nat) (h : bytesOf b = pre ++ (m ++ post)) (hn : m.length = n) : bytesOf (b.extract pre.length (pre.length + n)) = m := by
  rw [bytes_ext, h, List.drop_left, show pre.length + n - pre.length = m.length from by omega, List.take_left]
theorem lv_numb : ∀ (d : Nat) (n : Int), 0 ≤ n → n < 256 ^ d → lv (numb n d) = n
  | 0, n, h0, h1 => by simp at h1; simp [numb, lv]; omega
  | d + 1, n, h0, h1 => by
    rw [numb, lv, lv_numb d (n / 256) (by omega) (by rw [Int.pow_succ] at h1; omega)]
    omega
theorem elem_wl (b : ByteArray) (x : S35) (pre post : List Int) (hm : mayB x = true) (h : bytesOf b = pre ++ (wl x ++ post)) : elem b pre.length = some (x, pre.length + (wl x).length) := by
  obtain ⟨c, t, o, n⟩ := x
  rw [mayB_iff] at hm
  have hz : b.size = pre.length + ((wl ⟨c, t, o, n⟩).length + post.length) := by rw [← bytesOf_length, h, List.length_append, List.length_append]
  have one (y : Int) (ys m post' : List Int) (k : Nat) (hw : bytesOf b = pre ++ y :: (m ++ post')) (hk : m.length = k) : bt b (pre.length : Int) = y ∧ bytesOf (b.extract (pre.length + 1) (pre.length + 1 + k)) = m := by
    refine ⟨bt_in b pre y _ hw, ?_⟩
    have := ext_in b (pre ++ [y]) m post' k (by rw [hw]; simp) hk
    rwa [List.length_append, List.length_singleton] at this
  unfold elem
  rcases hm with ⟨rfl, h1, h2, h3, h4, h5⟩ | ⟨rfl, h1, h2, rfl, rfl⟩
  · have ht : t = ⟨#[]⟩ := ByteArray.size_eq_zero_iff.1 h1
    subst ht
    by_cases c1 : 4 ≤ n ∧ n ≤ 11 ∧ o < 2048
    · have hw : wl ⟨true, ⟨#[]⟩, o, n⟩ = [o / 256 * 32 + (n - 4) * 4 + 1, o % 256] := by unfold wl; rw [if_pos rfl, if_pos c1]
      rw [hw] at h hz ⊢
      obtain ⟨e1, e2⟩ := one _ [] [o % 256] post 1 h rfl
      simp only [List.length_cons, List.length_nil] at hz ⊢
      rw [e1, if_pos (by omega), if_pos (by omega), e2]
      congr 2
      rw [lv, lv]
      congr 1 <;> omega
    · by_cases c2 : o < 65536
      · have hw : wl ⟨true, ⟨#[]⟩, o, n⟩ = ((n - 1) * 4 + 2) :: numb o 2 := by unfold wl; rw [if_pos rfl, if_neg c1, if_pos c2]
        rw [hw] at h hz ⊢
        obtain ⟨e1, e2⟩ := one _ [] (numb o 2) post 2 h (numb_len 2 o)
        simp only [List.length_cons, numb_len] at hz ⊢
        rw [e1, if_neg (by omega), if_pos (by omega), if_pos (by omega), e2, lv_numb 2 o (by omega) (by omega)]
        congr 2
        congr 1
        omega
      · have hw : wl ⟨true, ⟨#[]⟩, o, n⟩ = ((n - 1) * 4 + 3) :: numb o 4 := by unfold wl; rw [if_pos rfl, if_neg c1, if_neg c2]
        rw [hw] at h hz ⊢
        obtain ⟨e1, e2⟩ := one _ [] (numb o 4) post 4 h (numb_len 4 o)
        simp only [List.length_cons, numb_len] at hz ⊢
        rw [e1, if_neg (by omega), if_neg (by omega), if_pos (by omega), if_pos (by omega), e2, lv_numb 4 o (by omega) (by omega)]
        congr 2
        congr 1
        omega
  · have hbl := bytesOf_length t
    by_cases c1 : t.size ≤ 60
    · have hw : wl ⟨false, t, 0, 0⟩ = (((t.size : Int) - 1) * 4) :: bytesOf t := by unfold wl; simp only [Bool.false_eq_true, if_false]; rw [if_pos c1]; rfl
      rw [hw] at h hz ⊢
      obtain ⟨e1, e2⟩ := one _ [] (bytesOf t) post t.size h hbl
      simp only [List.length_cons, hbl] at hz ⊢
      have ek : (((t.size : Int) - 1) * 4 / 4 + 1).toNat = t.size := by omega
      rw [e1, if_neg (by omega), if_neg (by omega), if_neg (by omega), if_neg (by omega), ek, if_pos (by omega), bytes_inj e2]
      congr 2
      omega
    · have deep (k : Nat) (y : Int) (m : List Int) (hk : m.length = k) (hw : bytesOf b = pre ++ y :: (m ++ (bytesOf t ++ post))) : bytesOf (b.extract (pre.length + 1 + k) (pre.length + 1 + k + t.size)) = bytesOf t := by
        have := ext_in b (pre ++ y :: m) (bytesOf t) post t.size (by rw [hw]; simp) hbl
        rw [List.length_append, List.length_cons, hk, show pre.length + (k + 1) = pre.length + 1 + k from by omega] at this
        exact this
      by_cases c2 : t.size ≤ 256
      · have hw : wl ⟨false, t, 0, 0⟩ = 240 :: (numb ((t.size : Int) - 1) 1 ++ bytesOf t) := by unfold wl; simp only [Bool.false_eq_true, if_false]; rw [if_neg c1, if_pos c2]; rfl
        rw [hw] at h hz ⊢
        have h' : bytesOf b = pre ++ 240 :: (numb ((t.size : Int) - 1) 1 ++ (bytesOf t ++ post)) := by rw [h]; simp
        obtain ⟨e1, e2⟩ := one _ [] (numb ((t.size : Int) - 1) 1) (bytesOf t ++ post) 1 h' (numb_len 1 _)
        have e3 := deep 1 _ _ (numb_len 1 _) h'
        simp only [List.length_cons, List.length_append, numb_len, hbl] at hz ⊢
        rw [e1, if_neg (by decide), if_neg (by decide), if_neg (by decide), if_pos (by decide), show ((240 : Int) / 4 - 59).toNat = 1 from by decide, e2, lv_numb 1 _ (by omega) (by omega), show ((t.size : Int) - 1).toNat + 1 = t.size from by omega, if_pos (by omega), if_pos (by omega), bytes_inj e3]
        congr 2
        omega
      · have hw : wl ⟨false, t, 0, 0⟩ = 244 :: (numb ((t.size : Int) - 1) 2 ++ bytesOf t) := by unfold wl; simp only [Bool.false_eq_true, if_false]; rw [if_neg c1, if_neg c2]; rfl
        rw [hw] at h hz ⊢
        have h' : bytesOf b = pre ++ 244 :: (numb ((t.size : Int) - 1) 2 ++ (bytesOf t ++ post)) := by rw [h]; simp
        obtain ⟨e1, e2⟩ := one _ [] (numb ((t.size : Int) - 1) 2) (bytesOf t ++ post) 2 h' (numb_len 2 _)
        have e3 := deep 2 _ _ (numb_len 2 _) h'
        simp only [List.length_cons, List.length_append, numb_len, hbl] at hz ⊢
        rw [e1, if_neg (by decide), if_neg (by decide), if_neg (by decide), if_pos (by decide), show ((244 : Int) / 4 - 59).toNat = 2 from by decide, e2, lv_numb 2 _ (by omega) (by omega), show ((t.size : Int) - 1).toNat + 1 = t.size from by omega, if_pos (by omega), if_pos (by omega), bytes_inj e3]
        congr 2
        omega
theorem wl_pos (x : S35) : 1 ≤ (wl x).length := by
  unfold wl
  split
  · split
    · simp
    · split <;> simp
  · rw [List.length_append]
    split
    · simp only [List.length_cons]; omega
    · split <;> simp only [List.length_cons] <;> omega
theorem exq_grows (most : Int) (h0 : 0 ≤ most) (h1 : most ≤ 65536) : ∀ (L : List S35) (X T : ByteArray), (X.size : Int) ≤ most → exq L X most = (T, 0) → X.size ≤ T.size
  | [], X, T, hX, h => by
    simp only [exq, Prod.mk.injEq] at h
    rw [h.1]
    exact Nat.le_refl _
  | x :: L, X, T, hX, h => by
    unfold exq at h
    split at h
    · simp at h
    · split at h
      · simp at h
      · rename_i hb ha
        have hz := ext_size2 x X (by simpa using hb)
        rw [wr (n := most - (X.size : Int)) (by omega) (by omega)] at ha
        have ha0 : 0 ≤ addN x := by
          have hb' : badB x X = false := by simpa using hb
          unfold badB at hb'
          simp only [Bool.or_eq_false_iff, Bool.not_eq_false'] at hb'
          have hm := hb'.1
          obtain ⟨c, t, o, n⟩ := x
          rw [mayB_iff] at hm
          unfold addN
          simp only
          split <;> omega
        have := exq_grows most h0 h1 L (ext x X) T (by omega) h
        omega
theorem dcl_list (b : ByteArray) (T : ByteArray) : ∀ (L : List S35) (X : ByteArray) (pre : List Int) (f : Nat), bytesOf b = pre ++ L.flatMap wl → b.size < f + pre.length → (X.size : Int) ≤ 65536 → exq L X 65536 = (T, 0) →
    dcl b (T.size : Int) f pre.length X = (T, 0)
  | L, X, pre, 0, hb, hf, hX, h => by
    have : b.size = pre.length + (L.flatMap wl).length := by rw [← bytesOf_length, hb, List.length_append]
    omega
  | [], X, pre, f + 1, hb, hf, hX, h => by
    have hz : b.size = pre.length := by rw [← bytesOf_length, hb]; simp
    simp only [exq, Prod.mk.injEq] at h
    obtain ⟨rfl, _⟩ := h
    unfold dcl
    rw [if_neg (by omega), if_neg (by omega)]
  | x :: L, X, pre, f + 1, hb, hf, hX, h => by
    have hz : b.size = pre.length + ((wl x).length + (L.flatMap wl).length) := by rw [← bytesOf_length, hb, List.length_append, List.flatMap_cons, List.length_append]
    have hp := wl_pos x
    unfold exq at h
    split at h
    · simp at h
    · split at h
      · simp at h
      · rename_i hbad ha
        have hbad' : badB x X = false := by simpa using hbad
        have hz2 := ext_size2 x X hbad'
        rw [wr (n := 65536 - (X.size : Int)) (by omega) (by omega)] at ha
        have hgr := exq_grows 65536 (by omega) (by omega) L (ext x X) T (by omega) h
        unfold badB at hbad'
        simp only [Bool.or_eq_false_iff, Bool.not_eq_false'] at hbad'
        obtain ⟨hm, hoff⟩ := hbad'
        have hel := elem_wl b x pre (L.flatMap wl) hm (by rw [hb, List.flatMap_cons])
        have hst : ¬ stepBad x X (T.size : Int) = true := by
          unfold stepBad
          rw [decide_eq_true_eq]
          obtain ⟨c, t, o, n⟩ := x
          rw [mayB_iff] at hm
          unfold addN at hz2
          simp only [Bool.and_eq_false_iff, decide_eq_false_iff_not] at hoff
          simp only at hz2 ⊢
          rcases hm with ⟨rfl, g1, g2, g3, g4, g5⟩ | ⟨rfl, g1, g2, rfl, rfl⟩
          · simp at hoff hz2 ⊢
            omega
          · simp at hz2 ⊢
            omega
        unfold dcl
        rw [if_pos (by omega), hel]
        simp only
        rw [if_neg hst]
        have := dcl_list b T L (ext x X) (pre ++ wl x) f (by rw [hb, List.flatMap_cons, List.append_assoc]) (by rw [List.length_append]; omega) (by omega) h
        rw [List.length_append] at this
        exact this
theorem uv_vb (b : ByteArray) : ∀ (f i : Nat) (n acc : Int) (pre post : List Int), f + i = 8 → pre.length = i → 0 ≤ n → n < 128 * 128 ^ f → bytesOf b = pre ++ (vb f n ++ post) →
    uv b (10 - i) i acc = (acc + n * 2 ^ (7 * i), ((i + (vb f n).length : Nat) : Int), 0)
  | f, i, n, acc, pre, post, hf, hp, h0, h1, hb => by
    obtain ⟨g, hg⟩ : ∃ g, 10 - i = g + 1 := ⟨9 - i, by omega⟩
    have hz : b.size = pre.length + ((vb f n).length + post.length) := by rw [← bytesOf_length, hb, List.length_append, List.length_append]
    have last : n < 128 → vb f n = [n] → uv b (g + 1) i acc = (acc + n * 2 ^ (7 * i), ((i + (vb f n).length : Nat) : Int), 0) := by
      intro hn hv
      rw [hv] at hb hz ⊢
      have e := bt_in b pre n post hb
      rw [hp] at e
      unfold uv
      simp only [List.length_singleton] at hz ⊢
      rw [e, if_neg (by omega), if_neg (by omega), if_pos hn]
      rfl
    rw [hg]
    match f with
    | 0 => exact last (by simp at h1; omega) rfl
    | f + 1 =>
      by_cases hn : n < 128
      · exact last hn (by unfold vb; rw [if_pos hn])
      · have hv : vb (f + 1) n = (n % 128 + 128) :: vb f (n / 128) := by rw [vb, if_neg hn]
        rw [hv] at hb hz ⊢
        have e := bt_in b pre _ _ hb
        rw [hp] at e
        have ih := uv_vb b f (i + 1) (n / 128) (acc + (n % 128 + 128 - 128) * 2 ^ (7 * i)) (pre ++ [n % 128 + 128]) post (by omega) (by simp; omega) (by omega) (by
          rw [Int.pow_succ] at h1
          generalize (128 : Int) ^ f = q at h1 ⊢
          omega) (by rw [hb]; simp)
        rw [show 10 - (i + 1) = g from by omega] at ih
        unfold uv
        simp only [List.length_cons] at hz ⊢
        rw [e, if_neg (by omega), if_neg (by omega), if_neg (by omega), ih]
        have e7 : (2 : Int) ^ (7 * (i + 1)) = 128 * 2 ^ (7 * i) := by
          rw [Nat.mul_add, Int.pow_add]
          omega
        rw [e7]
        have e8 : n / 128 * (128 * 2 ^ (7 * i)) + n % 128 * 2 ^ (7 * i) = n * 2 ^ (7 * i) := by
          rw [← Int.mul_assoc, ← Int.add_mul]
          congr 1
          omega
        rw [show n % 128 + 128 - 128 = n % 128 from by omega]
        refine Prod.ext ?_ (Prod.ext ?_ rfl)
        · show acc + n % 128 * 2 ^ (7 * i) + n / 128 * (128 * 2 ^ (7 * i)) = _
          omega
        · show ((i + 1 + (vb f (n / 128)).length : Nat) : Int) = ((i + ((vb f (n / 128)).length + 1) : Nat) : Int)
          omega
/-- The block that parts are: it says how long the text is, and stands for it. -/
theorem blk_bytes (L : List S35) (T : ByteArray) (h : exq L ⟨#[]⟩ 65536 = (T, 0)) : T.size ≤ 65536 ∧ (∀ x ∈ L, mayB x = true) ∧ (blk L).2 = 0 ∧ bytesOf (blk L).1 = vb 8 (T.size : Int) ++ L.flatMap wl := by
  have hk := exq_ok 65536 (by omega) (by omega) L ⟨#[]⟩ (by show ((0 : Nat) : Int) ≤ _; omega) (by rw [h])
  rw [h] at hk
  have hT : T.size ≤ 65536 := by have := hk.2; simp only at this; omega
  refine ⟨hT, hk.1, ?_, ?_⟩
  · unfold blk
    rw [h]
    rfl
  · unfold blk
    rw [h]
    simp only [if_true]
    have hbyte : ∀ l : List Int, (∀ c ∈ l, 0 ≤ c ∧ c ≤ 255) → bytesOf (strOfNums l) = l := by
      intro l hl
      unfold bytesOf strOfNums
      simp only [List.map_map]
      rw [List.map_congr_left (g := id), List.map_id]
      intro c hc
      have := hl c hc
      simp only [Function.comp, id]
      rw [UInt8.toNat_ofNat']
      omega
    have hnum : ∀ (d : Nat) (n : Int), ∀ c ∈ numb n d, 0 ≤ c ∧ c ≤ 255 := by
      intro d
      induction d with
      | zero => intro n c hc; simp [numb] at hc
      | succ d ih =>
        intro n c hc
        rw [numb, List.mem_cons] at hc
        rcases hc with rfl | hc
        · omega
        · exact ih _ c hc
    have hvb : ∀ (f : Nat) (n : Int), 0 ≤ n → n < 128 * 128 ^ f → ∀ c ∈ vb f n, 0 ≤ c ∧ c ≤ 255 := by
      intro f
      induction f with
      | zero => intro n h0 h1 c hc; simp [vb] at hc; simp at h1; omega
      | succ f ih =>
        intro n h0 h1 c hc
        rw [vb] at hc
        split at hc
        · simp at hc; omega
        · rw [List.mem_cons] at hc
          rcases hc with rfl | hc
          · omega
          · refine ih (n / 128) (by omega) ?_ c hc
            rw [Int.pow_succ] at h1
            generalize (128 : Int) ^ f = q at h1 ⊢
            omega
    apply hbyte
    intro c hc
    rw [List.mem_append] at hc
    rcases hc with hc | hc
    · exact hvb 8 _ (by omega) (pow8 (by omega)) c hc
    · obtain ⟨x, hx, hc⟩ := List.mem_flatMap.1 hc
      have hm := hk.1 x hx
      obtain ⟨b, t, o, n⟩ := x
      rw [mayB_iff] at hm
      unfold wl at hc
      rcases hm with ⟨rfl, g1, g2, g3, g4, g5⟩ | ⟨rfl, g1, g2, rfl, rfl⟩
      · simp only [if_true] at hc
        split at hc
        · simp at hc; omega
        · split at hc
          · rw [List.mem_cons] at hc
            rcases hc with rfl | hc
            · omega
            · exact hnum _ _ c hc
          · rw [List.mem_cons] at hc
            rcases hc with rfl | hc
            · omega
            · exact hnum _ _ c hc
      · simp only [Bool.false_eq_true, if_false] at hc
        rw [List.mem_append] at hc
        rcases hc with hc | hc
        · split at hc
          · simp at hc; omega
          · split at hc
            · rw [List.mem_cons] at hc
              rcases hc with rfl | hc
              · omega
              · exact hnum _ _ c hc
            · rw [List.mem_cons] at hc
              rcases hc with rfl | hc
              · omega
              · exact hnum _ _ c hc
        · exact bytes_all t c hc
theorem ln_blk (L : List S35) (T : ByteArray) (h : exq L ⟨#[]⟩ 65536 = (T, 0)) : ln (blk L).1 = ((T.size : Int), ((vb 8 (T.size : Int)).length : Int), 0) := by
  obtain ⟨hT, hm, h2, hb⟩ := blk_bytes L T h
  have e := uv_vb (blk L).1 8 0 (T.size : Int) 0 [] (L.flatMap wl) rfl rfl (by omega) (pow8 (by omega)) (by rw [hb, List.nil_append])
  unfold ln
  rw [show 10 - 0 = 10 from rfl] at e
  rw [e, Nat.mul_zero, Int.pow_zero, Int.mul_one, Int.zero_add, Nat.zero_add]
theorem sz_blk (L : List S35) (T : ByteArray) (h : exq L ⟨#[]⟩ 65536 = (T, 0)) : sz (blk L).1 = ((T.size : Int), 0) := by
  have hT := (blk_bytes L T h).1
  unfold sz
  rw [ln_blk L T h]
  simp only [if_true]
  rw [if_neg (by omega)]
theorem dec_blk (L : List S35) (T : ByteArray) (h : exq L ⟨#[]⟩ 65536 = (T, 0)) (most : Int) (hm : (T.size : Int) ≤ most) : dec (blk L).1 most = (T, 0) := by
  obtain ⟨hT, _, h2, hb⟩ := blk_bytes L T h
  unfold dec
  rw [sz_blk L T h, ln_blk L T h]
  simp only [if_true]
  rw [if_neg (by omega), if_neg (by omega), Int.toNat_natCast]
  exact dcl_list (blk L).1 T L ⟨#[]⟩ (vb 8 (T.size : Int)) ((blk L).1.size + 1) hb (by omega) (by show ((0 : Nat) : Int) ≤ _; omega) h
end Go.Proofs.Ythcjcmgdblhhfaa.SpecVg
