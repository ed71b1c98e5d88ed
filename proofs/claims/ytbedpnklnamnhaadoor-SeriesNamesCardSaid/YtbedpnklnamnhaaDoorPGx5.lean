/- The machine side of these statements: what each Go function computes as a plain function, and that its call computes just that. Written by a program of mine (wip/drive.py). No conditions. -/
import Derived.Test.YtbedpnklnamnhaaDoorPGx0
namespace Go.Proofs.YtbedpnklnamnhaaDoor.PG
open Go.RowKit Go.Proofs.YtbedpnklnamnhaaDoorW.PrintWords Go.Proofs.YtbedpnklnamnhaaDoorW.PrintLast Go.Proofs.YtbedpnklnamnhaaDoorW.PrintMore
attribute [local go_sem] max2_int min2_int max_two min_two max_three min_three max_four min_four   -- for this text's walks alone
set_option linter.unusedVariables false
set_option linter.unusedSimpArgs false

-- NOT PRINTED: function 29 (slices_BinarySearchFunc)

/-! ### series_place: function 22 -/
def cmpI (a b : Int) : Int := if a < b then -1 else if b < a then 1 else 0

theorem compare_any (a b : Int) (w : World) :
  Calls Tryd.prog 31 #[.int .i64 a,.int .i64 b] w fun e w'=>e = .returned (.int .i64 (cmpI a b)) ∧ Drawn0 w w' := by
 by_cases h1 : a < b
 ·have h1' : decide (a < b) = true := decide_eq_true h1
  have h2 : cmpI a b = -1 := by unfold cmpI;rw [if_pos h1]
  rw [h2];clear h1 h2
  go_enter Tryd.func31,Tryd.ntmps31
  go_wp2
  go_ret
  exact ⟨q34_,q37_⟩
 ·have h1' : decide (a < b) = false := decide_eq_false h1
  by_cases h3 : b < a
  ·have h3' : decide (b < a) = true := decide_eq_true h3
   have h2 : cmpI a b = 1 := by unfold cmpI;rw [if_neg h1,if_pos h3]
   rw [h2];clear h1 h2 h3
   go_enter Tryd.func31,Tryd.ntmps31
   go_wp2
   go_ret
   exact ⟨q34_,q37_⟩
  ·have h3' : decide (b < a) = false := decide_eq_false h3
   have h2 : cmpI a b = 0 := by unfold cmpI;rw [if_neg h1,if_neg h3]
   rw [h2];clear h1 h2 h3
   go_enter Tryd.func31,Tryd.ntmps31
   go_wp2
   go_ret
   exact ⟨q34_,q37_⟩

theorem placecmp_any (s : S40) (t : Int) (w : World) :
  Calls Tryd.prog 30 #[.agg #[.int .i64 s.f0,.int .u64 s.f1],.int .i64 t] w fun e w'=>e = .returned (.int .i64 (cmpI s.f0 t)) ∧ Below w.heap.size w w' := by
 have hu40 := Tryd.underlying40
 go_enter Tryd.func30,Tryd.ntmps30
 go_wp2_with fail
 refine (compare_any _ _ _).mono ?_
 rintro e w' ⟨rfl,nd,rfl⟩
 go_wp2_with fail
 go_ret
 exact ⟨rfl,by repeat (first|exact Below.refl _ _|apply below_alloc|apply pw_below_drewN|apply below_drew1)⟩

def ups : List S40 → Bool
 | a :: b :: r=>decide (a.f0 < b.f0) && ups (b :: r)
 | _=>true
theorem ups_tail {a : S40} {l : List S40} (h : ups (a :: l) = true) : ups l = true := by
 cases l with
 | nil=>rfl
 | cons b r=>simp [ups] at h;exact h.2
theorem ups_head {a : S40} {l : List S40} (h : ups (a :: l) = true) : ∀ j, j < l.length → a.f0 < (l.getD j z40).f0 := by
 induction l generalizing a with
 | nil=>intro j hj;simp at hj
 | cons b r ih =>
  intro j hj
  have h1 : a.f0 < b.f0 := by simp [ups] at h;exact h.1
  cases j with
  | zero=>simpa using h1
  | succ j=>have := ih (ups_tail h) j (by simpa using hj);simp at this ⊢;omega
theorem ups_lt {l : List S40} (h : ups l = true) : ∀ i j, i < j → j < l.length → (l.getD i z40).f0 < (l.getD j z40).f0 := by
 induction l with
 | nil=>intro i j _ hj;simp at hj
 | cons a r ih =>
  intro i j hij hj
  cases j with
  | zero=>omega
  | succ j =>
   cases i with
   | zero=>simpa using ups_head h j (by simpa using hj)
   | succ i=>simpa using ih (ups_tail h) i j q72_ (by simpa using hj)
def lb (l : List S40) (t : Int) : Nat := (l.takeWhile (fun s => decide (s.f0 < t))).length
def hit (l : List S40) (t : Int) : Bool := decide (lb l t < l.length) && ((l.getD (lb l t) z40).f0 == t)
theorem lb_at : ∀ (l : List S40) (t : Int) (m : Nat), m ≤ l.length → (∀ i, i < m → (l.getD i z40).f0 < t) → (m < l.length → t ≤ (l.getD m z40).f0) → lb l t = m
 | [],t,m,hm,_,_=>by simp at hm;subst hm;rfl
 | a :: r,t,0,hm,_,h2=>by
  have : t ≤ a.f0 := by simpa using h2 (by simp)
  unfold lb;rw [List.takeWhile_cons,if_neg (by simp;omega)];rfl
 | a :: r,t,m + 1,hm,h1,h2=>by
  have ha : a.f0 < t := by simpa using h1 0 q72_
  have := lb_at r t m (by simpa using hm) (fun i hi=>by simpa using h1 (i + 1) q72_) (fun h=>by simpa using h2 (by simpa using h))
  unfold lb at this ⊢;rw [List.takeWhile_cons,if_pos (by simpa using ha)];simp [this]
theorem cmpI_lt {a b : Int} : (decide (cmpI a b < 0) = true) ↔ a < b := by unfold cmpI; split <;> (try split) <;> simp <;> omega
theorem cmpI_eq {a b : Int} : (cmpI a b == 0) = (a == b) := by unfold cmpI; split <;> (try split) <;> simp <;> omega

set_option maxHeartbeats 4000000 in
theorem bsf_any (A0 : Option Addr) (c0 : Nat) (l : List S40) (t : Int) (w : World) (hr0 : Kd.C k40 w A0 l.length l) (hc0 : l.length ≤ c0) (hb : l.length ≤ 140737488351232) (hu : ups l = true) :
  Calls Tryd.prog 29 #[.slice A0 l.length c0,.int .i64 t,.func (Fn.func 30) #[] #[]] w fun e w'=>e = .returned (.tuple #[.int .i64 (lb l t),.bool (hit l t)]) ∧ Below w.heap.size w w' := by
 have hu40 := Tryd.underlying40
 have HR0 := Aside0.mk hr0
 have HC0 := Aside0.mk hc0
 have HU := Aside0.mk hu
 have HLB := Aside0.mk hb
 clear hr0 hc0 hu
 have HB := Aside0.mk (Below.refl w.heap.size w)
 go_enter Tryd.func29,Tryd.ntmps29
 go_wp2_with fail
 go_loopg [9,10] l.length (fun kq v9 v10 w'=>∃ (i j : Nat),v9 = .int .i64 i ∧ v10 = .int .i64 j ∧ i ≤ j ∧ j ≤ l.length ∧ Aside0 (kq = j - i) ∧ Aside0 ((∀ q,q < i → (l.getD q z40).f0 < t) ∧ (j < l.length → t ≤ (l.getD j z40).f0)) ∧ Aside0 (Below w.heap.size w w'))
 case atStart=>exact ⟨0,l.length,rfl,rfl,q72_,q72_,⟨q72_⟩,⟨fun q h=>by omega,fun h=>by omega⟩,HB⟩
 case round =>
  clear HB
  obtain ⟨i,j,rfl,rfl,hij,hjn,HK,HP,HB⟩ := hrel
  by_cases hlt : i < j
  ·obtain ⟨m,hm⟩ : ∃ m : Nat,((i : Int) + (j : Int)) / 2 = (m : Int) := ⟨(i + j) / 2,q72_⟩
   have hm1 : i ≤ m := by omega
   have hm2 : m < j := by omega
   obtain ⟨ad101,e101,hx0,hx1⟩ := at_T40 HR0.out (m : Int) q72_ q72_
   cases e101
   rw [Int.toNat_natCast] at hx0 hx1
   rw [show rd_T40 l (m : Int) = l.getD m z40 from by unfold rd_T40;rw [Int.toNat_natCast]] at hx0 hx1
   replace hx0 := (HB.out.cell (World.block_lt_of_cell? w _ hx0)).trans hx0
   replace hx1 := (HB.out.cell (World.block_lt_of_cell? w _ hx1)).trans hx1
   obtain ⟨el,he⟩ : ∃ x,l.getD m z40 = x := ⟨_,rfl⟩
   rw [he] at hx0 hx1
   have HE := Aside0.mk he
   clear he
   go_wp2_with fail
   refine (placecmp_any _ _ _).mono ?_
   rintro e w2 ⟨rfl,hb2⟩
   have HB2 := Aside0.mk (HB.out.trans (hb2.mono HB.out.size))
   clear hb2 HB
   by_cases hc : el.f0 < t
   ·have hc' : decide (cmpI el.f0 t < 0) = true := cmpI_lt.mpr hc
    have HC := Aside0.mk hc
    clear hc
    go_wp2_with fail
    go_roundg (j - (m + 1))
    case measure=>have := HK.out;omega
    case rel=>exact ⟨m + 1,j,by go_num,rfl,q72_,q72_,⟨rfl⟩,⟨fun q hq=>by
     by_cases e : q = m
     ·rw [e,HE.out];exact HC.out
     ·have h1 := ups_lt HU.out q m q72_ q72_;rw [HE.out] at h1;have h2 := HC.out;omega,HP.out.2⟩,HB2⟩
   ·have hc' : decide (cmpI el.f0 t < 0) = false := by
     rcases h : decide (cmpI el.f0 t < 0) with _|_
     ·rfl
     ·exact absurd (cmpI_lt.mp h) hc
    have HC := Aside0.mk hc
    clear hc
    go_wp2_with fail
    go_roundg (m - i)
    case measure=>have := HK.out;omega
    case rel=>exact ⟨i,m,rfl,by first|rfl|go_num,q72_,q72_,⟨rfl⟩,⟨HP.out.1,fun _=>by rw [HE.out];have h2 := HC.out;omega⟩,HB2⟩
  ·have e : i = j := by omega
   subst e
   have hlb : lb l t = i := lb_at l t i hjn HP.out.1 HP.out.2
   by_cases hin : i < l.length
   ·have hin' : decide ((i : Int) < (l.length : Int)) = true := by simp;omega
    obtain ⟨ad101,e101,hx0,hx1⟩ := at_T40 HR0.out (i : Int) q72_ q72_
    cases e101
    rw [Int.toNat_natCast] at hx0 hx1
    rw [show rd_T40 l (i : Int) = l.getD i z40 from by unfold rd_T40;rw [Int.toNat_natCast]] at hx0 hx1
    replace hx0 := (HB.out.cell (World.block_lt_of_cell? w _ hx0)).trans hx0
    replace hx1 := (HB.out.cell (World.block_lt_of_cell? w _ hx1)).trans hx1
    have hh : hit l t = ((l.getD i z40).f0 == t) := by unfold hit;rw [hlb];simp [hin]
    obtain ⟨el,he⟩ : ∃ x,l.getD i z40 = x := ⟨_,rfl⟩
    rw [he] at hx0 hx1 hh
    have HH := Aside0.mk hh
    have HL := Aside0.mk hlb
    clear hh hlb he
    go_wp2_with fail
    refine (placecmp_any _ _ _).mono ?_
    rintro e w2 ⟨rfl,hb2⟩
    have HB2 := Aside0.mk (HB.out.trans (hb2.mono HB.out.size))
    clear hb2 HB
    go_wp2_with fail
    go_ret2
    exact ⟨by rw [HH.out,HL.out];simp only [cmpI_eq];rfl,HB2.out⟩
   ·have hin' : decide ((i : Int) < (l.length : Int)) = false := by simp;omega
    have hh : hit l t = false := by unfold hit;rw [hlb];simp [hin]
    have HH := Aside0.mk hh
    have HL := Aside0.mk hlb
    clear hh hlb
    go_wp2_with fail
    go_ret2
    exact ⟨by rw [HH.out,HL.out];rfl,HB.out⟩

theorem place_any (A0 : Option Addr) (c0 : Nat) (l : List S40) (t : Int) (w : World) (hr0 : Kd.C k40 w A0 l.length l) (hc0 : l.length ≤ c0) (hb : l.length ≤ 140737488351232) (hu : ups l = true) :
  Calls Tryd.prog 22 #[.slice A0 l.length c0,.int .i64 t] w fun e w'=>e = .returned (.tuple #[.int .i64 (lb l t),.bool (hit l t)]) ∧ Below w.heap.size w w' := by
 have HR0 := Aside0.mk hr0
 have HC0 := Aside0.mk hc0
 have HU := Aside0.mk hu
 clear hr0 hc0 hu
 go_enter Tryd.func22,Tryd.ntmps22
 go_wp2_with fail
 refine (bsf_any _ _ l t _ HR0.out HC0.out hb HU.out).mono ?_
 rintro e w' ⟨rfl,hb'⟩
 have HB := Aside0.mk hb'
 clear hb'
 go_wp2_with fail
 go_ret2
 exact ⟨rfl,HB.out⟩

def series_place.f (l0 : List (S40)) (a1 : Int) : Option (Int × Bool) := if l0.length ≤ 140737488351232 then (if ups l0 = true then some ((lb l0 a1 : Int), hit l0 a1) else none) else none
theorem series_place.calls (A0 : Option Addr) (c0 : Nat) (l0 : List (S40)) (a1 : Int) (r1 : Int) (r2 : Bool) (w : World) (hr0 : Kd.C k40 w A0 l0.length l0) (hc0 : l0.length ≤ c0) (h : series_place.f l0 a1 = some (r1, r2)) :
  Calls Tryd.prog 22 #[.slice A0 l0.length c0,.int .i64 a1] w fun e w'=>e = .returned (.tuple #[.int .i64 r1,.bool r2]) ∧ Below w.heap.size w w' := by
 unfold series_place.f at h
 by_cases h1 : l0.length ≤ 140737488351232
 ·rw [if_pos h1] at h
  by_cases h2 : ups l0 = true
  ·rw [if_pos h2] at h
   simp only [Option.some.injEq,Prod.mk.injEq] at h
   obtain ⟨rfl,rfl⟩ := h
   exact place_any A0 c0 l0 a1 w hr0 hc0 h1 h2
  ·rw [if_neg h2] at h;exact absurd h (by simp)
 ·rw [if_neg h1] at h;exact absurd h (by simp)

/-! ### slices_Clone: function 23 -/
def slices_Clone.f (l0 : List S40) : Option (List S40) := if l0.length < 8796093022208 then some l0 else none

set_option maxHeartbeats 4000000 in
theorem slices_Clone.calls (A0 : Option Addr) (c0 : Nat) (l0 : List S40) (r : List S40) (w : World) (hr0 : Kd.C k40 w A0 l0.length l0) (hc0 : l0.length ≤ c0) (h : slices_Clone.f l0 = some r) :
  Calls Tryd.prog 23 #[.slice A0 l0.length c0] w fun e w'=>∃ v0_ : Value,e = .returned (v0_) ∧ Kd.R k40 40 w' w.heap.size (fun _=>True) v0_ r ∧ Below w.heap.size w w' := by
 have hu40 := Tryd.underlying40
 have HB := Aside0.mk (Below.refl w.heap.size w)
 unfold slices_Clone.f at h
 by_cases hlim : l0.length < 8796093022208
 ·rw [if_pos hlim] at h
  obtain rfl := Option.some.inj h
  clear h
  have LM := Aside0.mk hlim
  clear hlim
  cases A0 with
  | none =>
   have e0 : l0 = [] := by
    cases l0 with
    | nil=>rfl
    | cons a r=>obtain ⟨_,e,_⟩ := hr0.2.2 (by simp);cases e
   subst e0
   have heq := fun w : World=>Lib.run_eql_slice_nil (P := Tryd.prog) w 22 40 none 0 c0 0 0 Tryd.underlying22
   simp only [Option.isNone_none] at heq
   clear hr0 hc0
   go_enter Tryd.func23,Tryd.ntmps23
   go_wp2_with fail
   go_ret
   exact ⟨_,rfl,Kd.R_nil _ _ _ _ _,HB.out⟩
  | some ad =>
   have HR0 := Aside0.mk hr0
   have HC0 := Aside0.mk hc0
   clear hr0 hc0
   have heq := fun w : World=>Lib.run_eql_slice_nil (P := Tryd.prog) w 22 40 (some ad) l0.length c0 0 0 Tryd.underlying22
   simp only [Option.isNone_some] at heq
   go_enter Tryd.func23,Tryd.ntmps23
   go_wp2_with (first|((with_reducible refine gate_dst (N := 5) rfl ?_);refine Kd.R_lit k40 _ 40 ?hg (N := 5) ?hd (xs := ([] : List (S40))) (inner := []) (ok := fun _=>True) (okp := fun _=>True) ?hr ?hp (fun _ hk=>hk) trivial (Below.refl _ _) (Nat.le_refl _) (by simp) ?_;(case hd=>rfl);(case hg=>rfl);(case hr=>first|(go_simp;done)|(go_simp;rfl));(case hp=>exact (Reps.none _ _));intro v142 w6 ho7 hb hg_ hnew_;clear hg_ hnew_;have n0_ := Aside0.mk (Kd.R_lower ho7 (below_size (bl_)));have n1_ := Aside0.mk (below_step (bl_) hb);clear HB;have HO143 := n0_;have HB := n1_;clear n0_ n1_;clear hb ho7)|((with_reducible refine gate_builtin (b := .append) (xs := #[.tmp 5,.tmp 6]) rfl ?_);at_builtin;refine Kd.R_append_rows k40 (w0 := w) w.heap.size rfl (.tmp 5) (.tmp 6) 22 40 (.agg #[(.int .i64 0),(.int .u64 0)]) 16 rfl Tryd.underlying22 info40 rfl (by decide) q72_ v142 [] l0 _ _ _ (fun _=>True) (fun _=>False) rfl rfl ?aO ?aR (fun _ _ h=>h) (fun _ h=>h.elim) ?aF ?aB ?aS ?aL ?_;(case aR=>repeat (first|exact (Kd.C_below HR0.out HB.out)|(with_reducible refine Kd.C_alloc ?_ _)|(with_reducible refine Kd.C_drewN ?_ _)|(with_reducible refine Kd.C_drew ?_)));(case aB=>exact (bl_));(case aF=>exact (fun _ _=>trivial));(case aO=>exact (by (with_reducible repeat (first|apply Kd.R_alloc|apply Kd.R_drewN|apply Kd.R_drew));exact HO143.out));(case aS=>exact (below_size (bl_)));(case aL=>have := LM.out;simp;omega);intro v145 w8 ho hb hg hat;have n0_ := Aside0.mk (hb);have n1_ := Aside0.mk (ho);clear HB;clear HO143;have HB := n0_;have HO146 := n1_;clear n0_ n1_;clear ho hb hg hat))
   go_ret
   exact ⟨_,rfl,HO146.out,HB.out⟩
 ·rw [if_neg hlim] at h;exact absurd h (by simp)

end Go.Proofs.YtbedpnklnamnhaaDoor.PG
