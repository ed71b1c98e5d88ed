/- The machine side of these statements: what each Go function computes as a plain function, and that its call computes just that. Written by a program of mine (wip/drive.py). No conditions. -/
import Derived.Test.YtbedpnklnamnhaaDoorPGx0
namespace Go.Proofs.YtbedpnklnamnhaaDoor.PG
open Go.RowKit Go.Proofs.YtbedpnklnamnhaaDoorW.PrintWords Go.Proofs.YtbedpnklnamnhaaDoorW.PrintLast Go.Proofs.YtbedpnklnamnhaaDoorW.PrintMore
attribute [local go_sem] max2_int min2_int max_two min_two max_three min_three max_four min_four   -- for this text's walks alone
set_option linter.unusedVariables false
set_option linter.unusedSimpArgs false

theorem eqA34 (d : Nat) (w : World) (x0 y0 : Int) (x1 y1 : Int) (x2 y2 : Int) (x3 y3 : Int) (x4 y4 : Int) :
  (Op.equalIn (d + 2) 34 (.agg #[.int .i64 x0,.int .i64 x1,.int .i64 x2,.int .i64 x3,.int .i64 x4]) (.agg #[.int .i64 y0,.int .i64 y1,.int .i64 y2,.int .i64 y3,.int .i64 y4])).run Tryd.prog w = .ok (x0 == y0 && (x1 == y1 && (x2 == y2 && (x3 == y3 && (x4 == y4))))) w := by
 obtain ⟨i0,hi,_⟩ := Option.map_eq_some_iff.1 (show (Tryd.prog.info? 3).map (fun i=>(i.zero,i.size,i.bytes)) = some (some (.int .i64 0),1,8) by kernel_rfl)
 have hc : Tryd.prog.cellsOf 3 = 1 := by kernel_rfl
 have hp : ∀ (xs : Array Value) (j : Nat) (v : Value) (w : World),xs[j]? = some v → (part 3 xs j).run Tryd.prog w = .ok v w := by
  intro xs j v w h
  simp [part,isAgg,run_underlying Tryd.underlying3,h]
 have he : ∀ (a b : Int) (w : World),(Op.equalIn (d + 1) 3 (.int .i64 a) (.int .i64 b)).run Tryd.prog w = .ok (a == b) w := by
  intro a b w;go_simp
 rw [run_equalIn_array w (d + 1) _ _ Tryd.underlying34 hi,hc,show List.range 5 = [0,1,2,3,4] from rfl]
 have px0 := hp #[.int .i64 x0,.int .i64 x1,.int .i64 x2,.int .i64 x3,.int .i64 x4] (0 * 1) (.int .i64 x0) w rfl
 have px1 := hp #[.int .i64 x0,.int .i64 x1,.int .i64 x2,.int .i64 x3,.int .i64 x4] (1 * 1) (.int .i64 x1) w rfl
 have px2 := hp #[.int .i64 x0,.int .i64 x1,.int .i64 x2,.int .i64 x3,.int .i64 x4] (2 * 1) (.int .i64 x2) w rfl
 have px3 := hp #[.int .i64 x0,.int .i64 x1,.int .i64 x2,.int .i64 x3,.int .i64 x4] (3 * 1) (.int .i64 x3) w rfl
 have px4 := hp #[.int .i64 x0,.int .i64 x1,.int .i64 x2,.int .i64 x3,.int .i64 x4] (4 * 1) (.int .i64 x4) w rfl
 have py0 := hp #[.int .i64 y0,.int .i64 y1,.int .i64 y2,.int .i64 y3,.int .i64 y4] (0 * 1) (.int .i64 y0) w rfl
 have py1 := hp #[.int .i64 y0,.int .i64 y1,.int .i64 y2,.int .i64 y3,.int .i64 y4] (1 * 1) (.int .i64 y1) w rfl
 have py2 := hp #[.int .i64 y0,.int .i64 y1,.int .i64 y2,.int .i64 y3,.int .i64 y4] (2 * 1) (.int .i64 y2) w rfl
 have py3 := hp #[.int .i64 y0,.int .i64 y1,.int .i64 y2,.int .i64 y3,.int .i64 y4] (3 * 1) (.int .i64 y3) w rfl
 have py4 := hp #[.int .i64 y0,.int .i64 y1,.int .i64 y2,.int .i64 y3,.int .i64 y4] (4 * 1) (.int .i64 y4) w rfl
 cases h0 : (x0 == y0) <;> cases h1 : (x1 == y1) <;> cases h2 : (x2 == y2) <;> cases h3 : (x3 == y3) <;> simp only [Op.eqItems,Sem.run_bind,px0,px1,px2,px3,px4,py0,py1,py2,py3,py4,he,h0,h1,h2,h3,Result.andThen_ok,Sem.run_pure,Bool.not_true,Bool.not_false,Bool.false_eq_true,if_true,if_false,Bool.true_and,Bool.false_and]
 all_goals (cases h4 : (x4 == y4) <;> simp)

end Go.Proofs.YtbedpnklnamnhaaDoor.PG
