/- Plain facts about bytes and copies: a copy keeps what stands ahead and goes on with its period. No conditions. -/
import Derived.Test.YthcjcmgdblhhfaaSpecVa
namespace Go.Proofs.Ythcjcmgdblhhfaa.SpecVd
open Go.RowKit Go.Proofs.Ythcjcmgdblhhfaa.PV Go.Proofs.YthcjcmgdblhhfaaW.PrintWords Go.Proofs.YthcjcmgdblhhfaaW.PrintLast Go.Proofs.Ythcjcmgdblhhfaa.SpecVa
set_option linter.unusedVariables false
set_option linter.unusedSimpArgs false
theorem bt_left (X Y : ByteArray) {i : Nat} (h : i < X.size) : bt (X ++ Y) (i : Int) = bt X (i : Int) := by
  rw [← rd_bytesOf, ← rd_bytesOf, bytes_app]
  unfold rd
  rw [Int.toNat_natCast]
  simp only [List.getD]
  rw [List.getElem?_append_left (by rw [bytesOf_length]; exact h)]
theorem bt_right (X Y : ByteArray) {i : Nat} (h : X.size ≤ i) : bt (X ++ Y) (i : Int) = bt Y ((i - X.size : Nat) : Int) := by
  rw [← rd_bytesOf, ← rd_bytesOf, bytes_app]
  unfold rd
  rw [Int.toNat_natCast, Int.toNat_natCast]
  simp only [List.getD]
  rw [List.getElem?_append_right (by rw [bytesOf_length]; exact h), bytesOf_length]
theorem bt_ext (X : ByteArray) {a b i : Nat} (hb : b ≤ X.size) (h : a + i < b) : bt (X.extract a b) (i : Int) = bt X ((a + i : Nat) : Int) := by
  unfold bt
  rw [Int.toNat_natCast, Int.toNat_natCast, dif_pos (by rw [ByteArray.size_extract]; omega), dif_pos (by omega), ByteArray.getElem_extract]
theorem cp_pre (off : Nat) : ∀ (n : Nat) (X : ByteArray), ∃ Y, cp X off n = X ++ Y
  | 0, X => ⟨ByteArray.empty, by rw [ByteArray.append_empty]; rfl⟩
  | n + 1, X => by
    obtain ⟨Y, h⟩ := cp_pre off n (X ++ X.extract (X.size - off) (X.size - off + 1))
    exact ⟨X.extract (X.size - off) (X.size - off + 1) ++ Y, by unfold cp; rw [h, ByteArray.append_assoc]⟩
theorem cp_bt (off : Nat) (ho : 1 ≤ off) : ∀ (n : Nat) (X : ByteArray), off ≤ X.size → ∀ i : Nat, X.size ≤ i → i < X.size + n → bt (cp X off n) (i : Int) = bt (cp X off n) ((i - off : Nat) : Int)
  | 0, X, h, i, h1, h2 => by omega
  | n + 1, X, h, i, h1, h2 => by
    have hz := ext1_size X (X.size - off) (by omega)
    unfold cp
    by_cases hi : X.size + 1 ≤ i
    · exact cp_bt off ho n _ (by omega) i (by omega) (by omega)
    · obtain rfl : i = X.size := by omega
      obtain ⟨Y, e⟩ := cp_pre off n (X ++ X.extract (X.size - off) (X.size - off + 1))
      rw [e, bt_left _ Y (by omega), bt_left _ Y (by omega), bt_right _ _ (Nat.le_refl _), bt_left _ _ (by omega), Nat.sub_self, bt_ext X (by omega) (by omega)]
      rfl
theorem cp_take (off n : Nat) (X : ByteArray) : (cp X off n).extract 0 X.size = X := by
  obtain ⟨Y, h⟩ := cp_pre off n X
  rw [h, ByteArray.extract_append_eq_left rfl]
end Go.Proofs.Ythcjcmgdblhhfaa.SpecVd
