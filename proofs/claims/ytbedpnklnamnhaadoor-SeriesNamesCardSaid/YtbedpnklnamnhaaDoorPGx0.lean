/- The machine side of these statements: what each Go function computes as a plain function, and that its call computes just that. Written by a program of mine (wip/drive.py). No conditions. -/
import Derived.Test.YtbedpnklnamnhaaDoorProg
import Derived.Below
import Derived.Deep.Draws
import Derived.Deep.AppendLies
import Derived.Maps.AppendAt
import Derived.OwnWalk
import Derived.Laws.BytesArg
import Derived.Laws.MakeOwn
import Derived.Laws.OwnMore
import Derived.Deep.OwnRows
import Derived.Tactics
import Derived.Lib.ConvBytes
import Derived.Laws.Slices
import Derived.WalkKit
import Derived.KernelRfl
import Derived.RowKit3
import Derived.Deep.LoopGhost
import Derived.Deep.QuietTactic
import Derived.BigQuiet
import Derived.WideLaws
import Derived.Deep.DeepCutAuto
import Derived.Deep.CutBlock
import Derived.Deep.RegionHeld3
import Derived.Laws.Rows
import Derived.Lib.AppendStr
import Derived.ArgAppend
import Derived.Laws.IdiomCopy
import Derived.OrdersHeld
import Derived.Laws.BitsLemmas
import Derived.RowKit
import Derived.WalkSpells
import Derived.ChangeKeysEq
import Derived.Shelf.Spec.SlicesInsert
import Derived.Shelf.Spec.SlicesInsertGrow
import Derived.Lib.AppendZerosOnto
import Derived.Lib.SmallJoins
import Derived.Lib.AppendIntMem
import Derived.Test.YtbedpnklnamnhaaDoorItoa
import Derived.Test.YtbedpnklnamnhaaDoorWWords
import Derived.Test.YtbedpnklnamnhaaDoorWLast
import Derived.Test.YtbedpnklnamnhaaDoorWTab
import Derived.Test.YtbedpnklnamnhaaDoorWFour
import Derived.Test.YtbedpnklnamnhaaDoorWQPut
import Derived.Test.YtbedpnklnamnhaaDoorWApart
import Derived.Test.YtbedpnklnamnhaaDoorWArr
import Derived.Test.YtbedpnklnamnhaaDoorWZeros
import Derived.Test.YtbedpnklnamnhaaDoorWFoot
import Derived.Test.YtbedpnklnamnhaaDoorWKept
import Derived.Test.YtbedpnklnamnhaaDoorWShare
import Derived.Test.YtbedpnklnamnhaaDoorWN
import Derived.Test.YtbedpnklnamnhaaDoorWFootNe
import Derived.Test.YtbedpnklnamnhaaDoorWAt
import Derived.Test.YtbedpnklnamnhaaDoorWEqStruct
import Derived.Test.YtbedpnklnamnhaaDoorWRepsOne
import Derived.Test.YtbedpnklnamnhaaDoorWInv
import Derived.Test.YtbedpnklnamnhaaDoorWInvWords
import Derived.Test.YtbedpnklnamnhaaDoorWGuard
import Derived.Test.YtbedpnklnamnhaaDoorWNEv
import Derived.Test.YtbedpnklnamnhaaDoorWMore
namespace Go.Proofs.YtbedpnklnamnhaaDoor.PG
open Go.RowKit Go.Proofs.YtbedpnklnamnhaaDoorW.PrintWords Go.Proofs.YtbedpnklnamnhaaDoorW.PrintLast Go.Proofs.YtbedpnklnamnhaaDoorW.PrintMore
attribute [local go_sem] max2_int min2_int max_two min_two max_three min_three max_four min_four   -- for this text's walks alone
set_option linter.unusedVariables false
set_option linter.unusedSimpArgs false
theorem bl_ {b : Nat} {w w' : World} (h : Below b w w' := by repeat (first | (with_reducible first | exact HB.out | apply below_alloc | apply pw_below_drewN | apply below_drew1) | exact HB.out)) : Below b w w' := h
theorem q0_ {P : Prop} (h : P := by (with_reducible repeat (first|apply Kd.R_alloc|apply Kd.R_drewN|apply Kd.R_drew));exact HO157.out) : P := h
theorem q1_ {P : Prop} (h : P := by (with_reducible repeat (first|apply Kd.R_alloc|apply Kd.R_drewN|apply Kd.R_drew));exact HO154.out) : P := h
theorem q2_ {P : Prop} (h : P := by (try simp only [List.map_toArray,List.map_cons,List.map_nil]);first|done|rfl|(simp only [List.length_drop,List.length_take];rfl)) : P := h
theorem q3_ {P : Prop} (h : P := by (with_reducible repeat (first|apply Kd.R_alloc|apply Kd.R_drewN|apply Kd.R_drew));exact HO163.out) : P := h
theorem q4_ {P : Prop} (h : P := by (with_reducible repeat (first|apply Kd.R_alloc|apply Kd.R_drewN|apply Kd.R_drew));exact HO160.out) : P := h
theorem q5_ {P : Prop} (h : P := by (with_reducible repeat (first|apply Kd.R_alloc|apply Kd.R_drewN|apply Kd.R_drew));exact HO168.out) : P := h
theorem q6_ {P : Prop} (h : P := by (with_reducible repeat (first|apply Kd.R_alloc|apply Kd.R_drewN|apply Kd.R_drew));exact HO170.out) : P := h
theorem q7_ {P : Prop} (h : P := by (with_reducible repeat (first|apply Kd.R_alloc|apply Kd.R_drewN|apply Kd.R_drew));exact HO259.out) : P := h
theorem q8_ {P : Prop} (h : P := by (with_reducible repeat (first|apply Kd.R_alloc|apply Kd.R_drewN|apply Kd.R_drew));exact HO266.out) : P := h
theorem q9_ {P : Prop} (h : P := by (with_reducible repeat (first|apply Kd.R_alloc|apply Kd.R_drewN|apply Kd.R_drew));exact HO174.out) : P := h
theorem q10_ {P : Prop} (h : P := by (with_reducible repeat (first|apply Kd.R_alloc|apply Kd.R_drewN|apply Kd.R_drew));exact HO256.out) : P := h
theorem q11_ {P : Prop} (h : P := by (with_reducible repeat (first|apply Kd.R_alloc|apply Kd.R_drewN|apply Kd.R_drew));exact HO273.out) : P := h
theorem q12_ {P : Prop} (h : P := by (with_reducible repeat (first|apply Kd.R_alloc|apply Kd.R_drewN|apply Kd.R_drew));exact HO263.out) : P := h
theorem q13_ {P : Prop} (h : P := by (with_reducible repeat (first|apply Kd.R_alloc|apply Kd.R_drewN|apply Kd.R_drew));exact HO280.out) : P := h
theorem q14_ {P : Prop} (h : P := by (with_reducible repeat (first|apply Kd.R_alloc|apply Kd.R_drewN|apply Kd.R_drew));exact HO270.out) : P := h
theorem q15_ {P : Prop} (h : P := by (with_reducible repeat (first|apply Kd.R_alloc|apply Kd.R_drewN|apply Kd.R_drew));exact HO287.out) : P := h
theorem q16_ {P : Prop} (h : P := by (with_reducible repeat (first|apply Kd.R_alloc|apply Kd.R_drewN|apply Kd.R_drew));exact HO277.out) : P := h
theorem q17_ {P : Prop} (h : P := by (with_reducible repeat (first|apply Kd.R_alloc|apply Kd.R_drewN|apply Kd.R_drew));exact HO284.out) : P := h
theorem q18_ {P : Prop} (h : P := by (with_reducible repeat (first|apply Kd.R_alloc|apply Kd.R_drewN|apply Kd.R_drew));exact HO298.out) : P := h
theorem q19_ {P : Prop} (h : P := by first|(with_reducible assumption)|assumption) : P := h
theorem q20_ {P : Prop} (h : P := by (with_reducible repeat (first|apply Kd.R_alloc|apply Kd.R_drewN|apply Kd.R_drew));exact HO305.out) : P := h
theorem q21_ {P : Prop} (h : P := by (with_reducible repeat (first|apply Kd.R_alloc|apply Kd.R_drewN|apply Kd.R_drew));exact HO295.out) : P := h
theorem q22_ {P : Prop} (h : P := by (with_reducible repeat (first|apply Kd.R_alloc|apply Kd.R_drewN|apply Kd.R_drew));exact HO313.out) : P := h
theorem q23_ {P : Prop} (h : P := by (with_reducible repeat (first|apply Kd.R_alloc|apply Kd.R_drewN|apply Kd.R_drew));exact HO318.out) : P := h
theorem q24_ {P : Prop} (h : P := by (with_reducible repeat (first|apply Kd.R_alloc|apply Kd.R_drewN|apply Kd.R_drew));exact HO302.out) : P := h
theorem q25_ {P : Prop} (h : P := by (with_reducible repeat (first|apply Kd.R_alloc|apply Kd.R_drewN|apply Kd.R_drew));exact HO324.out) : P := h
theorem q26_ {P : Prop} (h : P := by repeat (first|(with_reducible first|exact HB.out|apply below_alloc|apply pw_below_drewN|apply below_drew1|refine below_set ?_ GE357.out)|exact HB.out)) : P := h
theorem q27_ {P : Prop} (h : P := by first|rfl|(simp [errW_none,errW_some] <;> rfl)|(simp [*,errW_none,errW_some] <;> rfl)) : P := h
theorem q28_ {P : Prop} (h : P := by (with_reducible repeat (first|apply Kd.R_alloc|apply Kd.R_drewN|apply Kd.R_drew));exact HO328.out) : P := h
theorem q29_ {P : Prop} (h : P := by (with_reducible repeat (first|apply Kd.R_alloc|apply Kd.R_drewN|apply Kd.R_drew));exact HO310.out) : P := h
theorem q30_ {P : Prop} (h : P := by (with_reducible repeat (first|apply Kd.R_alloc|apply Kd.R_drewN|apply Kd.R_drew));exact HO332.out) : P := h
theorem q31_ {P : Prop} (h : P := by (with_reducible repeat (first|apply Kd.R_alloc|apply Kd.R_drewN|apply Kd.R_drew));exact HO338.out) : P := h
theorem q32_ {P : Prop} (h : P := by repeat (first|(with_reducible first|exact HB.out|apply below_alloc|apply pw_below_drewN|apply below_drew1|refine below_set ?_ GE124.out)|exact HB.out)) : P := h
theorem q33_ {P : Prop} (h : P := by (with_reducible repeat (first|apply Kd.R_alloc|apply Kd.R_drewN|apply Kd.R_drew));exact HO320.out) : P := h
theorem q34_ {P : Prop} (h : P := by first|rfl|(simp;done)|(simp [*];done)) : P := h
theorem q35_ {P : Prop} (h : P := by (with_reducible repeat (first|apply Kd.R_alloc|apply Kd.R_drewN|apply Kd.R_drew));exact HO335.out) : P := h
theorem q36_ {P : Prop} (h : P := by (with_reducible repeat (first|apply Kd.R_alloc|apply Kd.R_drewN|apply Kd.R_drew));exact HO344.out) : P := h
theorem q37_ {P : Prop} (h : P := by repeat (first|exact Drawn0.refl _|apply Drawn0.step)) : P := h
theorem q38_ {P : Prop} (h : P := by kernel_rfl) : P := h
theorem q39_ {P : Prop} (h : P := by (with_reducible repeat (first|apply Kd.R_alloc|apply Kd.R_drewN|apply Kd.R_drew));exact HO348.out) : P := h
theorem q40_ {P : Prop} (h : P := by repeat (first|(with_reducible first|exact HB.out|apply below_alloc|apply pw_below_drewN|apply below_drew1|refine below_set ?_ GE139.out)|exact HB.out)) : P := h
theorem q41_ {P : Prop} (h : P := by (with_reducible repeat (first|apply Kd.R_alloc|apply Kd.R_drewN|apply Kd.R_drew));exact HO341.out) : P := h
theorem q42_ {P : Prop} (h : P := by first|(rw [add_block];exact hn104_0)|(show (Addr.add _ _).block ≠ _;rw [add_block];exact hn104_0)|exact hn104_0) : P := h
theorem q43_ {P : Prop} (h : P := by first|(rw [add_block];exact hn104_1)|(show (Addr.add _ _).block ≠ _;rw [add_block];exact hn104_1)|exact hn104_1) : P := h
theorem q44_ {P : Prop} (h : P := by (with_reducible repeat (first|apply Kd.R_alloc|apply Kd.R_drewN|apply Kd.R_drew));exact (Kd.R_mono (Kd.R_far (p := ⟨gb139,1,none⟩) (Kd.R_far (p := ⟨gb139,0,none⟩) (Kd.R_mono HO_4.out (fun k_ hk=>(⟨hk,hk.2⟩ : _ ∧ k_ ≠ gb139))) (fun _ hk=>hk.2) (.int .i64 ((rd_T40 l1 x17_1).f0))) (fun _ hk=>hk.2) (.int .u64 ((rd_T40 l1 x17_1).f1))) (fun _ h_=>h_.1))) : P := h
theorem q45_ {P : Prop} (h : P := by (with_reducible repeat (first|apply Kd.R_alloc|apply Kd.R_drewN|apply Kd.R_drew));exact (Kd.R_mono (Kd.R_far (p := ⟨gb212,1,none⟩) (Kd.R_far (p := ⟨gb212,0,none⟩) (Kd.R_mono HO_6.out (fun k_ hk=>(⟨hk,hk.2⟩ : _ ∧ k_ ≠ gb212))) (fun _ hk=>hk.2) (.int .i64 ((rd_T40 l1 x23_2).f0))) (fun _ hk=>hk.2) (.int .u64 ((rd_T40 l1 x23_2).f1))) (fun _ h_=>h_.1))) : P := h
theorem q46_ {P : Prop} (h : P := by have := World.block_lt_of_cell? _ _ hx104_0;first|rwa [add_block] at this|exact this) : P := h
theorem q47_ {P : Prop} (h : P := by (with_reducible repeat (first|apply Kd.R_alloc|apply Kd.R_drewN|apply Kd.R_drew));exact HO182.out) : P := h
theorem q48_ {P : Prop} (h : P := by (with_reducible repeat (first|apply Kd.R_alloc|apply Kd.R_drewN|apply Kd.R_drew));exact HO363.out) : P := h
theorem q49_ {P : Prop} (h : P := by (with_reducible repeat (first|apply Kd.R_alloc|apply Kd.R_drewN|apply Kd.R_drew));exact HO351.out) : P := h
theorem q50_ {P : Prop} (h : P := by (with_reducible repeat (first|apply Kd.R_alloc|apply Kd.R_drewN|apply Kd.R_drew));exact HO360.out) : P := h
theorem q51_ {P : Prop} (h : P := by (with_reducible repeat (first|refine blk_drewN ?_ _|refine blk_drew ?_|refine blk_alloc ?_ _));exact BK124.out) : P := h
theorem q52_ {P : Prop} (h : P := by repeat (first|(with_reducible first|exact HB.out|apply below_alloc|apply pw_below_drewN|apply below_drew1|refine below_set ?_ GE212.out)|exact HB.out)) : P := h
theorem q53_ {P : Prop} (h : P := by (with_reducible repeat (first|apply Kd.R_alloc|apply Kd.R_drewN|apply Kd.R_drew));exact HO367.out) : P := h
theorem q54_ {P : Prop} (h : P := by (with_reducible repeat (first|apply Kd.R_alloc|apply Kd.R_drewN|apply Kd.R_drew));exact HO_5.out) : P := h
theorem q55_ {P : Prop} (h : P := by (with_reducible repeat (first|refine blk_drewN ?_ _|refine blk_drew ?_|refine blk_alloc ?_ _));exact BK357.out) : P := h
theorem q56_ {P : Prop} (h : P := by first|exact Kd.R_nil _ _ _ _ _|exact Kd.N_nil _ _ _ _ _|exact Kd.V_nil _ _ _ _ _|exact Kd.Q_nil _ _ _ _ _|exact Kd.S_nil _ _ _ _ _) : P := h
theorem q57_ {P : Prop} (h : P := by repeat (first|(with_reducible first|exact HB.out|apply below_alloc|apply pw_below_drewN|apply below_drew1|refine below_set ?_ GE129.out)|exact HB.out)) : P := h
theorem q58_ {P : Prop} (h : P := by (with_reducible repeat (first|apply Kd.R_alloc|apply Kd.R_drewN|apply Kd.R_drew));exact (Kd.R_mono (Kd.R_far (p := ⟨gb357,4,none⟩) (Kd.R_far (p := ⟨gb357,3,none⟩) (Kd.R_far (p := ⟨gb357,2,none⟩) (Kd.R_far (p := ⟨gb357,1,none⟩) (Kd.R_far (p := ⟨gb357,0,none⟩) (Kd.R_types HO256.out BK357.out (by decide)) (fun _ hk=>hk.2) (.int .i64 t352)) (fun _ hk=>hk.2) (.int .i64 t353)) (fun _ hk=>hk.2) (.int .i64 t354)) (fun _ hk=>hk.2) (.int .i64 t355)) (fun _ hk=>hk.2) (.int .i64 t356)) (fun _ h_=>h_.1))) : P := h
theorem q59_ {P : Prop} (h : P := by (with_reducible repeat (first|apply Kd.R_alloc|apply Kd.R_drewN|apply Kd.R_drew));exact (Kd.R_mono (Kd.R_far (p := ⟨gb357,4,none⟩) (Kd.R_far (p := ⟨gb357,3,none⟩) (Kd.R_far (p := ⟨gb357,2,none⟩) (Kd.R_far (p := ⟨gb357,1,none⟩) (Kd.R_far (p := ⟨gb357,0,none⟩) (Kd.R_types HO263.out BK357.out (by decide)) (fun _ hk=>hk.2) (.int .i64 t352)) (fun _ hk=>hk.2) (.int .i64 t353)) (fun _ hk=>hk.2) (.int .i64 t354)) (fun _ hk=>hk.2) (.int .i64 t355)) (fun _ hk=>hk.2) (.int .i64 t356)) (fun _ h_=>h_.1))) : P := h
theorem q60_ {P : Prop} (h : P := by (with_reducible repeat (first|apply Kd.R_alloc|apply Kd.R_drewN|apply Kd.R_drew));exact (Kd.R_mono (Kd.R_far (p := ⟨gb357,4,none⟩) (Kd.R_far (p := ⟨gb357,3,none⟩) (Kd.R_far (p := ⟨gb357,2,none⟩) (Kd.R_far (p := ⟨gb357,1,none⟩) (Kd.R_far (p := ⟨gb357,0,none⟩) (Kd.R_types HO270.out BK357.out (by decide)) (fun _ hk=>hk.2) (.int .i64 t352)) (fun _ hk=>hk.2) (.int .i64 t353)) (fun _ hk=>hk.2) (.int .i64 t354)) (fun _ hk=>hk.2) (.int .i64 t355)) (fun _ hk=>hk.2) (.int .i64 t356)) (fun _ h_=>h_.1))) : P := h
theorem q61_ {P : Prop} (h : P := by (with_reducible repeat (first|apply Kd.R_alloc|apply Kd.R_drewN|apply Kd.R_drew));exact (Kd.R_mono (Kd.R_far (p := ⟨gb357,4,none⟩) (Kd.R_far (p := ⟨gb357,3,none⟩) (Kd.R_far (p := ⟨gb357,2,none⟩) (Kd.R_far (p := ⟨gb357,1,none⟩) (Kd.R_far (p := ⟨gb357,0,none⟩) (Kd.R_types HO277.out BK357.out (by decide)) (fun _ hk=>hk.2) (.int .i64 t352)) (fun _ hk=>hk.2) (.int .i64 t353)) (fun _ hk=>hk.2) (.int .i64 t354)) (fun _ hk=>hk.2) (.int .i64 t355)) (fun _ hk=>hk.2) (.int .i64 t356)) (fun _ h_=>h_.1))) : P := h
theorem q62_ {P : Prop} (h : P := by (with_reducible repeat (first|apply Kd.R_alloc|apply Kd.R_drewN|apply Kd.R_drew));exact (Kd.R_mono (Kd.R_far (p := ⟨gb357,4,none⟩) (Kd.R_far (p := ⟨gb357,3,none⟩) (Kd.R_far (p := ⟨gb357,2,none⟩) (Kd.R_far (p := ⟨gb357,1,none⟩) (Kd.R_far (p := ⟨gb357,0,none⟩) (Kd.R_types HO284.out BK357.out (by decide)) (fun _ hk=>hk.2) (.int .i64 t352)) (fun _ hk=>hk.2) (.int .i64 t353)) (fun _ hk=>hk.2) (.int .i64 t354)) (fun _ hk=>hk.2) (.int .i64 t355)) (fun _ hk=>hk.2) (.int .i64 t356)) (fun _ h_=>h_.1))) : P := h
theorem q63_ {P : Prop} (h : P := by (with_reducible repeat (first|apply Kd.R_alloc|apply Kd.R_drewN|apply Kd.R_drew));exact (Kd.R_mono (Kd.R_far (p := ⟨gb357,4,none⟩) (Kd.R_far (p := ⟨gb357,3,none⟩) (Kd.R_far (p := ⟨gb357,2,none⟩) (Kd.R_far (p := ⟨gb357,1,none⟩) (Kd.R_far (p := ⟨gb357,0,none⟩) (Kd.R_types HO295.out BK357.out (by decide)) (fun _ hk=>hk.2) (.int .i64 t352)) (fun _ hk=>hk.2) (.int .i64 t353)) (fun _ hk=>hk.2) (.int .i64 t354)) (fun _ hk=>hk.2) (.int .i64 t355)) (fun _ hk=>hk.2) (.int .i64 t356)) (fun _ h_=>h_.1))) : P := h
theorem q64_ {P : Prop} (h : P := by (with_reducible repeat (first|apply Kd.R_alloc|apply Kd.R_drewN|apply Kd.R_drew));exact (Kd.R_mono (Kd.R_far (p := ⟨gb357,4,none⟩) (Kd.R_far (p := ⟨gb357,3,none⟩) (Kd.R_far (p := ⟨gb357,2,none⟩) (Kd.R_far (p := ⟨gb357,1,none⟩) (Kd.R_far (p := ⟨gb357,0,none⟩) (Kd.R_types HO302.out BK357.out (by decide)) (fun _ hk=>hk.2) (.int .i64 t352)) (fun _ hk=>hk.2) (.int .i64 t353)) (fun _ hk=>hk.2) (.int .i64 t354)) (fun _ hk=>hk.2) (.int .i64 t355)) (fun _ hk=>hk.2) (.int .i64 t356)) (fun _ h_=>h_.1))) : P := h
theorem q65_ {P : Prop} (h : P := by (with_reducible repeat (first|apply Kd.R_alloc|apply Kd.R_drewN|apply Kd.R_drew));exact (Kd.R_mono (Kd.R_far (p := ⟨gb357,4,none⟩) (Kd.R_far (p := ⟨gb357,3,none⟩) (Kd.R_far (p := ⟨gb357,2,none⟩) (Kd.R_far (p := ⟨gb357,1,none⟩) (Kd.R_far (p := ⟨gb357,0,none⟩) (Kd.R_types HO310.out BK357.out (by decide)) (fun _ hk=>hk.2) (.int .i64 t352)) (fun _ hk=>hk.2) (.int .i64 t353)) (fun _ hk=>hk.2) (.int .i64 t354)) (fun _ hk=>hk.2) (.int .i64 t355)) (fun _ hk=>hk.2) (.int .i64 t356)) (fun _ h_=>h_.1))) : P := h
theorem q66_ {P : Prop} (h : P := by (with_reducible repeat (first|apply Kd.R_alloc|apply Kd.R_drewN|apply Kd.R_drew));exact (Kd.R_mono (Kd.R_far (p := ⟨gb357,4,none⟩) (Kd.R_far (p := ⟨gb357,3,none⟩) (Kd.R_far (p := ⟨gb357,2,none⟩) (Kd.R_far (p := ⟨gb357,1,none⟩) (Kd.R_far (p := ⟨gb357,0,none⟩) (Kd.R_types HO335.out BK357.out (by decide)) (fun _ hk=>hk.2) (.int .i64 t352)) (fun _ hk=>hk.2) (.int .i64 t353)) (fun _ hk=>hk.2) (.int .i64 t354)) (fun _ hk=>hk.2) (.int .i64 t355)) (fun _ hk=>hk.2) (.int .i64 t356)) (fun _ h_=>h_.1))) : P := h
theorem q67_ {P : Prop} (h : P := by (with_reducible repeat (first|apply Kd.R_alloc|apply Kd.R_drewN|apply Kd.R_drew));exact (Kd.R_mono (Kd.R_far (p := ⟨gb357,4,none⟩) (Kd.R_far (p := ⟨gb357,3,none⟩) (Kd.R_far (p := ⟨gb357,2,none⟩) (Kd.R_far (p := ⟨gb357,1,none⟩) (Kd.R_far (p := ⟨gb357,0,none⟩) (Kd.R_types HO341.out BK357.out (by decide)) (fun _ hk=>hk.2) (.int .i64 t352)) (fun _ hk=>hk.2) (.int .i64 t353)) (fun _ hk=>hk.2) (.int .i64 t354)) (fun _ hk=>hk.2) (.int .i64 t355)) (fun _ hk=>hk.2) (.int .i64 t356)) (fun _ h_=>h_.1))) : P := h
theorem q68_ {P : Prop} (h : P := by (with_reducible repeat (first|apply Kd.R_alloc|apply Kd.R_drewN|apply Kd.R_drew));exact HO185.out) : P := h
theorem q69_ {P : Prop} (h : P := by repeat (first|(with_reducible first|exact HB.out|apply below_alloc|apply pw_below_drewN|apply below_drew1|refine below_set ?_ GE102.out)|exact HB.out)) : P := h
theorem q70_ {P : Prop} (h : P := by (with_reducible repeat (first|refine blk_drewN ?_ _|refine blk_drew ?_|refine blk_alloc ?_ _));refine blk_put (cs := #[.int .i64 ((rd_T40 l1 x17_1).f0),.int .u64 0]) ?_ 1 _ rfl;(with_reducible repeat (first|refine blk_drewN ?_ _|refine blk_drew ?_|refine blk_alloc ?_ _));refine blk_put (cs := #[.int .i64 0,.int .u64 0]) ?_ 0 _ rfl;(with_reducible repeat (first|refine blk_drewN ?_ _|refine blk_drew ?_|refine blk_alloc ?_ _));exact BK139.out) : P := h
theorem q71_ {P : Prop} (h : P := by (with_reducible repeat (first|refine blk_drewN ?_ _|refine blk_drew ?_|refine blk_alloc ?_ _));refine blk_put (cs := #[.int .i64 ((rd_T40 l1 x23_2).f0),.int .u64 0]) ?_ 1 _ rfl;(with_reducible repeat (first|refine blk_drewN ?_ _|refine blk_drew ?_|refine blk_alloc ?_ _));refine blk_put (cs := #[.int .i64 0,.int .u64 0]) ?_ 0 _ rfl;(with_reducible repeat (first|refine blk_drewN ?_ _|refine blk_drew ?_|refine blk_alloc ?_ _));exact BK212.out) : P := h
theorem q72_ {P : Prop} (h : P := by omega) : P := h
theorem q73_ {P : Prop} (h : P := by (with_reducible repeat (first|apply Kd.R_alloc|apply Kd.R_drewN|apply Kd.R_drew));exact HO370.out) : P := h
theorem q74_ {P : Prop} (h : P := by (with_reducible repeat (first|apply Kd.R_alloc|apply Kd.R_drewN|apply Kd.R_drew));exact HO373.out) : P := h
theorem q75_ {P : Prop} (h : P := by (with_reducible repeat (first|apply Kd.R_alloc|apply Kd.R_drewN|apply Kd.R_drew));exact HO_4.out) : P := h
theorem q76_ {P : Prop} (h : P := by (with_reducible repeat (first|apply Kd.R_alloc|apply Kd.R_drewN|apply Kd.R_drew));exact HO_6.out) : P := h
theorem q77_ {P : Prop} (h : P := by (with_reducible repeat (first|apply Kd.R_alloc|apply Kd.R_drewN|apply Kd.R_drew));exact (Kd.R_mono (Kd.R_far (p := ⟨gb139,1,none⟩) (Kd.R_far (p := ⟨gb139,0,none⟩) (Kd.R_types HO_5.out BK139.out (by decide)) (fun _ hk=>hk.2) (.int .i64 ((rd_T40 l1 x17_1).f0))) (fun _ hk=>hk.2) (.int .u64 ((rd_T40 l1 x17_1).f1))) (fun _ h_=>h_.1))) : P := h
theorem q78_ {P : Prop} (h : P := by (with_reducible repeat (first|refine blk_drewN ?_ _|refine blk_drew ?_|refine blk_alloc ?_ _));exact BK139.out) : P := h
theorem q79_ {P : Prop} (h : P := by (with_reducible repeat (first|refine blk_drewN ?_ _|refine blk_drew ?_|refine blk_alloc ?_ _));exact BK212.out) : P := h
theorem q80_ {P : Prop} (h : P := by (with_reducible repeat (first|refine blk_drewN ?_ _|refine blk_drew ?_|refine blk_alloc ?_ _));exact BK129.out) : P := h
theorem q81_ {P : Prop} (h : P := by (with_reducible repeat (first|apply Kd.R_alloc|apply Kd.R_drewN|apply Kd.R_drew));exact HO377.out) : P := h
theorem q82_ {P : Prop} (h : P := by first|omega|exact Nat.le_refl _) : P := h
theorem q83_ {P : Prop} (h : P := by first|rfl|(simp [errW_none,errW_some] <;> rfl)|(simp only [← hji8];first|rfl|(simp [errW_none,errW_some] <;> rfl))|(simp [*,errW_none,errW_some] <;> rfl)) : P := h
theorem q84_ {P : Prop} (h : P := by have := HK1.out;omega) : P := h
theorem q85_ {P : Prop} (h : P := by simp only [Nat.min_def];split <;> omega) : P := h
theorem q86_ {P : Prop} (h : P := by repeat (first|(with_reducible first|exact HK.out|apply Kept.alloc|apply Kept.drewN|apply Kept.drew)|exact HK.out)) : P := h



def errW : Option Int → Value
 | none=>.nilIface
 | some c=>.iface 0 (.int .i64 c)
theorem errW_none : errW none = .nilIface := rfl
theorem errW_some (c : Int) : errW (some c) = .iface 0 (.int .i64 c) := rfl

theorem info2 : (Tryd.prog.info? 2).map (fun i => (i.zero, i.size, i.bytes)) = some (some (.int .i64 0), 1, 8) := by kernel_rfl
theorem info5 : (Tryd.prog.info? 5).map (fun i => (i.zero, i.size, i.bytes)) = some (some (.int .u8 0), 1, 1) := by kernel_rfl
theorem info31 : (Tryd.prog.info? 31).map (fun i => (i.zero, i.size, i.bytes)) = some (some (.int .u8 0), 1, 1) := by kernel_rfl
theorem info40 : (Tryd.prog.info? 40).map (fun i => (i.zero, i.size, i.bytes)) = some (some (.agg #[(.int .i64 0), (.int .u64 0)]), 2, 16) := by kernel_rfl
-- the values' own types
/-! #### struct type 40 -/
structure S40 where
 f0 : Int
 f1 : Int
def z40 : S40 := ⟨(0 : Int), (0 : Int)⟩
def k40 : Kd S40 := Kd.iso (Kd.pair (Kd.int .i64) (Kd.int .u64)) (fun x : S40 => (x.f0, x.f1))
theorem k40_open {w : World} {x : S40} {cs : List Value} (h : k40.K w x cs) : cs = [.int .i64 x.f0, .int .u64 x.f1] := by
 obtain ⟨_,_,rfl,rfl,rfl⟩ := h
 exact rfl
theorem k40_openM {w : World} {base : Nat} {ok : Nat → Prop} {x : S40} {cs : List Value} (h : k40.M w base ok x cs) : cs = [.int .i64 x.f0, .int .u64 x.f1] := by
 obtain ⟨_,_,rfl,rfl,rfl⟩ := h
 exact rfl
theorem k40_mk (w : World) (x : S40)  : k40.K w x [.int .i64 x.f0, .int .u64 x.f1] := ⟨[.int .i64 x.f0], [.int .u64 x.f1], rfl, rfl, rfl⟩
theorem k40_mkM (w : World) (base : Nat) (ok : Nat → Prop) (x : S40)  : k40.M w base ok x [.int .i64 x.f0, .int .u64 x.f1] := ⟨[.int .i64 x.f0], [.int .u64 x.f1], rfl, rfl, rfl⟩
def rd_T40 (xs : List S40) (i : Int) : S40 := xs.getD i.toNat z40
theorem at_T40 {w : World} {A : Option Addr} {n : Nat} {xs : List S40} (h : Kd.C k40 w A n xs) (i : Int) (h0 : 0 ≤ i) (h1 : i < n) : ∃ ad , A = some ad ∧ w.cell? (ad.add (i.toNat * 2)) = some (.int .i64 (rd_T40 xs i).f0) ∧ w.cell? ⟨(ad.add (i.toNat * 2)).block, (ad.add (i.toNat * 2)).off + 1, none⟩ = some (.int .u64 (rd_T40 xs i).f1) := by
 obtain ⟨ad,c,e,_,hK,hc0⟩ := Kd.C_get h z40 i h0 h1
 have hc : ∀ j u,c[j]? = some u → w.cell? (ad.add (i.toNat * 2 + j)) = some u := hc0
 obtain rfl := k40_open hK
 exact ⟨ad,e,hc 0 _ rfl,by rw [← add_field _ _ 1 (by omega)];exact hc 1 _ rfl⟩

def rd_L3 (xs : List (List S40)) (i : Int) : (List S40) := xs.getD i.toNat ([] : List S40)
theorem at_L3 {w : World} {A : Option Addr} {n : Nat} {xs : List (List S40)} (h : Kd.C (Kd.slice 40 k40) w A n xs) (i : Int) (h0 : 0 ≤ i) (h1 : i < n) : ∃ ad A0 c0, A = some ad ∧ w.cell? (ad.add i.toNat) = some (.slice A0 (rd_L3 xs i).length c0) ∧ (rd_L3 xs i).length ≤ c0 ∧ k40.C w A0 (rd_L3 xs i).length (rd_L3 xs i) := by
 obtain ⟨ad,c,e,_,hK,hc0⟩ := Kd.C_get h ([] : List S40) i h0 h1
 have hc : ∀ j u,c[j]? = some u → w.cell? (ad.add (i.toNat * 1 + j)) = some u := hc0
 obtain ⟨A0,c0,rfl,l0,g0⟩ := hK
 exact ⟨ad,A0,c0,e,by have hq := hc 0 _ rfl;rwa [Nat.mul_one,Nat.add_zero] at hq,l0,g0⟩

def rd_L7 (xs : List (List Int)) (i : Int) : (List Int) := xs.getD i.toNat ([] : List Int)
theorem at_L7 {w : World} {A : Option Addr} {n : Nat} {xs : List (List Int)} (h : Kd.C (Kd.slice 31 (Kd.int .u8)) w A n xs) (i : Int) (h0 : 0 ≤ i) (h1 : i < n) : ∃ ad A0 c0, A = some ad ∧ w.cell? (ad.add i.toNat) = some (.slice A0 (rd_L7 xs i).length c0) ∧ (rd_L7 xs i).length ≤ c0 ∧ (Kd.int .u8).C w A0 (rd_L7 xs i).length (rd_L7 xs i) := by
 obtain ⟨ad,c,e,_,hK,hc0⟩ := Kd.C_get h ([] : List Int) i h0 h1
 have hc : ∀ j u,c[j]? = some u → w.cell? (ad.add (i.toNat * 1 + j)) = some u := hc0
 obtain ⟨A0,c0,rfl,l0,g0⟩ := hK
 exact ⟨ad,A0,c0,e,by have hq := hc 0 _ rfl;rwa [Nat.mul_one,Nat.add_zero] at hq,l0,g0⟩

/-! #### struct type 34 -/
structure S34 where
 f0 : Int
 f1 : Int
 f2 : Int
 f3 : Int
 f4 : Int
def z34 : S34 := ⟨(0 : Int), (0 : Int), (0 : Int), (0 : Int), (0 : Int)⟩
def k34 : Kd S34 := Kd.iso (Kd.pair (Kd.int .i64) (Kd.pair (Kd.int .i64) (Kd.pair (Kd.int .i64) (Kd.pair (Kd.int .i64) (Kd.int .i64))))) (fun x : S34 => (x.f0, x.f1, x.f2, x.f3, x.f4))
theorem k34_open {w : World} {x : S34} {cs : List Value} (h : k34.K w x cs) : cs = [.int .i64 x.f0, .int .i64 x.f1, .int .i64 x.f2, .int .i64 x.f3, .int .i64 x.f4] := by
 obtain ⟨_,_,rfl,rfl,⟨_,_,rfl,rfl,⟨_,_,rfl,rfl,⟨_,_,rfl,rfl,rfl⟩⟩⟩⟩ := h
 exact rfl
theorem k34_openM {w : World} {base : Nat} {ok : Nat → Prop} {x : S34} {cs : List Value} (h : k34.M w base ok x cs) : cs = [.int .i64 x.f0, .int .i64 x.f1, .int .i64 x.f2, .int .i64 x.f3, .int .i64 x.f4] := by
 obtain ⟨_,_,rfl,rfl,⟨_,_,rfl,rfl,⟨_,_,rfl,rfl,⟨_,_,rfl,rfl,rfl⟩⟩⟩⟩ := h
 exact rfl
theorem k34_mk (w : World) (x : S34)  : k34.K w x [.int .i64 x.f0, .int .i64 x.f1, .int .i64 x.f2, .int .i64 x.f3, .int .i64 x.f4] := ⟨[.int .i64 x.f0], [.int .i64 x.f1, .int .i64 x.f2, .int .i64 x.f3, .int .i64 x.f4], rfl, rfl, ⟨[.int .i64 x.f1], [.int .i64 x.f2, .int .i64 x.f3, .int .i64 x.f4], rfl, rfl, ⟨[.int .i64 x.f2], [.int .i64 x.f3, .int .i64 x.f4], rfl, rfl, ⟨[.int .i64 x.f3], [.int .i64 x.f4], rfl, rfl, rfl⟩⟩⟩⟩
theorem k34_mkM (w : World) (base : Nat) (ok : Nat → Prop) (x : S34)  : k34.M w base ok x [.int .i64 x.f0, .int .i64 x.f1, .int .i64 x.f2, .int .i64 x.f3, .int .i64 x.f4] := ⟨[.int .i64 x.f0], [.int .i64 x.f1, .int .i64 x.f2, .int .i64 x.f3, .int .i64 x.f4], rfl, rfl, ⟨[.int .i64 x.f1], [.int .i64 x.f2, .int .i64 x.f3, .int .i64 x.f4], rfl, rfl, ⟨[.int .i64 x.f2], [.int .i64 x.f3, .int .i64 x.f4], rfl, rfl, ⟨[.int .i64 x.f3], [.int .i64 x.f4], rfl, rfl, rfl⟩⟩⟩⟩
def rd_T34 (xs : List S34) (i : Int) : S34 := xs.getD i.toNat z34
theorem at_T34 {w : World} {A : Option Addr} {n : Nat} {xs : List S34} (h : Kd.C k34 w A n xs) (i : Int) (h0 : 0 ≤ i) (h1 : i < n) : ∃ ad , A = some ad ∧ w.cell? (ad.add (i.toNat * 5)) = some (.int .i64 (rd_T34 xs i).f0) ∧ w.cell? ⟨(ad.add (i.toNat * 5)).block, (ad.add (i.toNat * 5)).off + 1, none⟩ = some (.int .i64 (rd_T34 xs i).f1) ∧ w.cell? ⟨(ad.add (i.toNat * 5)).block, (ad.add (i.toNat * 5)).off + 2, none⟩ = some (.int .i64 (rd_T34 xs i).f2) ∧ w.cell? ⟨(ad.add (i.toNat * 5)).block, (ad.add (i.toNat * 5)).off + 3, none⟩ = some (.int .i64 (rd_T34 xs i).f3) ∧ w.cell? ⟨(ad.add (i.toNat * 5)).block, (ad.add (i.toNat * 5)).off + 4, none⟩ = some (.int .i64 (rd_T34 xs i).f4) := by
 obtain ⟨ad,c,e,_,hK,hc0⟩ := Kd.C_get h z34 i h0 h1
 have hc : ∀ j u,c[j]? = some u → w.cell? (ad.add (i.toNat * 5 + j)) = some u := hc0
 obtain rfl := k34_open hK
 exact ⟨ad,e,hc 0 _ rfl,by rw [← add_field _ _ 1 (by omega)];exact hc 1 _ rfl,by rw [← add_field _ _ 2 (by omega)];exact hc 2 _ rfl,by rw [← add_field _ _ 3 (by omega)];exact hc 3 _ rfl,by rw [← add_field _ _ 4 (by omega)];exact hc 4 _ rfl⟩

end Go.Proofs.YtbedpnklnamnhaaDoor.PG
