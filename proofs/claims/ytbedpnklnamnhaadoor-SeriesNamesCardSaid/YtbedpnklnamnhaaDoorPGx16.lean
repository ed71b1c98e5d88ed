/- The machine side of these statements: what each Go function computes as a plain function, and that its call computes just that. Written by a program of mine (wip/drive.py). No conditions. -/
import Derived.Test.YtbedpnklnamnhaaDoorPGx0
namespace Go.Proofs.YtbedpnklnamnhaaDoor.PG
open Go.RowKit Go.Proofs.YtbedpnklnamnhaaDoorW.PrintWords Go.Proofs.YtbedpnklnamnhaaDoorW.PrintLast Go.Proofs.YtbedpnklnamnhaaDoorW.PrintMore
attribute [local go_sem] max2_int min2_int max_two min_two max_three min_three max_four min_four   -- for this text's walks alone
set_option linter.unusedVariables false
set_option linter.unusedSimpArgs false

/-! ### series_Verdict_String: function 11 -/
def vword (v : Int) : ByteArray := if v = 1 then ⟨#[110, 101, 119]⟩ else if v = 2 then ⟨#[107, 110, 111, 119, 110]⟩ else if v = 3 then ⟨#[111, 116, 104, 101, 114]⟩ else if v = 4 then ⟨#[108, 97, 116, 101]⟩ else ⟨(Go.Lib.decDigits v.toNat).toArray⟩
def series_Verdict_String.f (a0 : Int) : Option ByteArray := if 0 ≤ a0 then (if a0 < 256 then some (vword a0) else none) else none
/-- The package variables that are read: the table of powers of ten, and the verdicts' words. -/
def VarsG (w : World) : Prop := Lib.TabIs Tryd.prog w "internal/strconv.uint64pow10" .u64 Lib.pow10Tab ∧ w.cell? ⟨0, 1, none⟩ = some (.string ⟨#[110, 101, 119]⟩) ∧ w.cell? ⟨0, 2, none⟩ = some (.string ⟨#[107, 110, 111, 119, 110]⟩) ∧
 w.cell? ⟨0,3,none⟩ = some (.string ⟨#[111,116,104,101,114]⟩) ∧ w.cell? ⟨0,4,none⟩ = some (.string ⟨#[108,97,116,101]⟩)
theorem VarsG.below {w W : World} (h : VarsG w) (hb : Below w.heap.size w W) : VarsG W := by
 obtain ⟨h0,h1,h2,h3,h4⟩ := h
 have c : ∀ {p : Addr} {v : Value},w.cell? p = some v → W.cell? p = some v := fun {p v} e=>(hb.cell (World.block_lt_of_cell? w p e)).trans e
 obtain ⟨g, hg⟩ : ∃ g, Tryd.prog.globalNamed "internal/strconv.uint64pow10" = some g := Option.isSome_iff_exists.1 q38_
 exact ⟨Go.Joins.tab_stays hg h0 hb (Nat.le_refl _),c h1,c h2,c h3,c h4⟩
set_option maxHeartbeats 4000000 in
set_option maxRecDepth 100000 in
theorem series_Verdict_String.calls (a0 : Int) (r : ByteArray) (w : World) (h : series_Verdict_String.f a0 = some r) (hG : VarsG w := by exact VarsG.below HG.out (bl_)) :
  Calls Tryd.prog 11 #[.int .u8 a0] w fun e w'=>e = .returned (.string r) ∧ Below w.heap.size w w' := by
 unfold series_Verdict_String.f at h
 by_cases g0 : 0 ≤ a0
 case neg=>rw [if_neg g0] at h;exact absurd h (by simp)
 rw [if_pos g0] at h
 by_cases g1 : a0 < 256
 case neg=>rw [if_neg g1] at h;exact absurd h (by simp)
 rw [if_pos g1] at h
 obtain rfl := Option.some.inj h
 clear h
 obtain ⟨ht,h1,h2,h3,h4⟩ := hG
 by_cases e1 : a0 = 1
 ·subst e1
  clear ht h2 h3 h4
  go_enter Tryd.func11,Tryd.ntmps11
  go_wp2
  go_ret
  exact ⟨rfl,Below.refl _ _⟩
 by_cases e2 : a0 = 2
 ·subst e2
  clear ht h1 h3 h4
  go_enter Tryd.func11,Tryd.ntmps11
  go_wp2
  go_ret
  exact ⟨rfl,Below.refl _ _⟩
 by_cases e3 : a0 = 3
 ·subst e3
  clear ht h1 h2 h4
  go_enter Tryd.func11,Tryd.ntmps11
  go_wp2
  go_ret
  exact ⟨rfl,Below.refl _ _⟩
 by_cases e4 : a0 = 4
 ·subst e4
  clear ht h1 h2 h3
  go_enter Tryd.func11,Tryd.ntmps11
  go_wp2
  go_ret
  exact ⟨rfl,Below.refl _ _⟩
 clear h1 h2 h3 h4
 have hv : vword a0 = ⟨(Lib.itoa a0).toArray⟩ := by
  unfold vword Lib.itoa
  rw [if_neg e1,if_neg e2,if_neg e3,if_neg e4,if_neg q72_]
 rw [hv]
 have hb1 : -9223372036854775808 ≤ a0 := by omega
 have hb2 : a0 ≤ 9223372036854775807 := by omega
 have hcall := Tryd.strconv_Itoa a0 hb1 hb2 w ht
 by_cases c0 : a0 < 1
 ·have c0b : decide (a0 < 1) = true := decide_eq_true c0
  have hw : IntKind.i64.wrap a0 = a0 := by rw [IntKind.wrap_i64];omega
  clear e1 e2 e3 e4 g0 g1 hv hb1 hb2
  go_enter Tryd.func11,Tryd.ntmps11
  go_wp2_with (go_at_call 26;refine hcall.mono ?_;rintro e w' ⟨rfl,k,os,rfl⟩)
  go_ret
  exact ⟨rfl,Lib.below_grow _ w (Nat.le_refl _) k os⟩
 ·have c0b : decide (a0 < 1) = false := decide_eq_false c0
  have c1b : decide (4 < a0) = true := decide_eq_true q72_
  have hw : IntKind.i64.wrap a0 = a0 := by rw [IntKind.wrap_i64];omega
  clear e1 e2 e3 e4 g0 g1 hv hb1 hb2
  go_enter Tryd.func11,Tryd.ntmps11
  go_wp2_with (go_at_call 26;refine hcall.mono ?_;rintro e w' ⟨rfl,k,os,rfl⟩)
  go_ret
  exact ⟨rfl,Lib.below_grow _ w (Nat.le_refl _) k os⟩

/-! ### series_Verdict_Bad: function 13 -/
def series_Verdict_Bad.f (a0 : Int) : Option (Bool) := if a0 = 3 then (some true) else (some (a0 == 4))
set_option maxHeartbeats 8000000 in
set_option maxRecDepth 100000 in
theorem series_Verdict_Bad.calls (a0 : Int) (r : Bool) (w : World) (h : series_Verdict_Bad.f a0 = some r) :
  Calls Tryd.prog 13 #[.int .u8 a0] w fun e w'=>e = .returned (.bool r) ∧ Drawn0 w w' := by
 have H : (if a0 = 3 then (some true) else (some (a0 == 4))) = some r := h
 clear h
 by_cases c2 : a0 = 3
 ·rw [if_pos c2] at H
  have c2b0 : (a0 == 3) = true := beq_iff_eq.mpr c2
  have c2b1 : (a0 != 3) = false := bne_eq_false_iff_eq.mpr c2
  clear c2
  obtain rfl := Option.some.inj H
  go_enter Tryd.func13,Tryd.ntmps13
  go_wp2
  go_ret
  exact ⟨q34_,q37_⟩
 ·rw [if_neg c2] at H
  have c2b0 : (a0 == 3) = false := beq_eq_false_iff_ne.mpr c2
  have c2b1 : (a0 != 3) = true := bne_iff_ne.mpr c2
  obtain rfl := Option.some.inj H
  go_enter Tryd.func13,Tryd.ntmps13
  go_wp2
  go_ret
  exact ⟨q34_,q37_⟩

end Go.Proofs.YtbedpnklnamnhaaDoor.PG
